import PyProof.Rows.All
import Wide.All
import OpenK.AllK
import Wide.FinOn
import KE.SortData
import KE.DataEq
import HandS.Base
import HandS.Call
import HandS.List
import HandS.Comp
import HandS.Ends
import HandS.Dict
import HandS.Iter
import HandS.Text
import HandS.More
import HandS.Words
import HandS.WordsList
import HandS.Walk
import HandS.IsInst
import HandS.Wide
import HandS.TupAny
import HandS.TupMul
import HandS.Style
import HandS.Deep
import HandS.Defaults
import KE.KDictPairs
import HandS.DictComp
import KE.KDictItemsList
import HandS.Keys
import HandS.DictTup
import HandS.Conv
import HandS.Strs
import HandS.SetKeys
import HandS.HeadHook2
import HandS.Head0
import HandS.Head1
import HandS.Head2
import HandS.HeadEnd
import HandS.HeadHook1
import HandS.HeadHook3
import HandS.HeadHook4
import PySem.Challenge.RW_heapsplit_k05_whole_truth_in_states
set_option Elab.async false
set_option linter.all false
set_option maxRecDepth 100000
section P_FD
/-! The plain layer: data D without a heap, and what each construct asks of them. -/
namespace Fn
open PySem

abbrev Key := Sum Int Str
/-- data: None, bools, ints, texts, tuples, lists, dicts with int and text keys, closures, the pool of draws -/
inductive D where
  | non | bl (b : Bool) | int (i : Int) | str (x : Str) | tup (l : List D) | lst (l : List D) | dct (l : List (Key × D)) | clo (c : Nat) (l : List D) | pool

mutual
def D.py : D → PyData
  | .non => .none
  | .bl b => .bool b
  | .int i => .int i
  | .str x => .str x
  | .tup l => .tuple (pyL l)
  | .lst l => .list (pyL l)
  | .dct _ => .none
  | .clo _ _ => .none
  | .pool => .none
def pyL : List D → List PyData
  | [] => []
  | x :: r => x.py :: pyL r
end
mutual
def D.dat : D → Bool
  | .non => true
  | .bl _ => true
  | .int _ => true
  | .str _ => true
  | .tup l => datL l
  | .lst l => datL l
  | .dct _ => false
  | .clo _ _ => false
  | .pool => false
def datL : List D → Bool
  | [] => true
  | x :: r => x.dat && datL r
end
mutual
def D.dep : D → Nat
  | .tup l => depL l + 1
  | .lst l => depL l + 1
  | _ => 1
def depL : List D → Nat
  | [] => 0
  | x :: r => max x.dep (depL r)
end
theorem pyL_map : ∀ l : List D, pyL l = l.map D.py
  | [] => rfl
  | x :: r => by rw [pyL, List.map_cons, pyL_map r]
theorem datL_all : ∀ l : List D, datL l = l.all D.dat
  | [] => rfl
  | x :: r => by rw [datL, List.all_cons, datL_all r]

/-- Python's == of data -/
def eqb (x y : D) : Bool := PyData.eqv x.py y.py

abbrev Ren := List (Option D)
abbrev DK := D → Prop
abbrev FE := Ren → DK → Prop
abbrev FT := Ren → (Bool → Prop) → Prop
abbrev FA := Ren → (List D → Prop) → Prop
abbrev FI := Ren → (List D → Prop) → Prop
abbrev FG := D → Ren → (Ren → Prop) → Prop
abbrev G1 := D → DK → Prop
abbrev G2 := D → D → DK → Prop
abbrev GA := List D → DK → Prop
structure Po where
  nx : Ren → Prop
  rt : DK
  bk : Ren → Prop
  ct : Ren → Prop
abbrev FS := Po → Ren → Prop

/-! ### expressions -/
def eVar (i : Nat) : FE := fun ρ R => match ρ[i]? with
  | some (some d) => R d
  | _ => False
def eC (d : D) : FE := fun _ R => R d
def eUn (g : G1) (a : FE) : FE := fun ρ R => a ρ fun x => g x R
def eBin (g : G2) (a b : FE) : FE := fun ρ R => a ρ fun x => b ρ fun y => g x y R
def aNil : FA := fun _ R => R []
def aCons (a : FE) (r : FA) : FA := fun ρ R => a ρ fun x => r ρ fun l => R (x :: l)
def eTup (a : FA) : FE := fun ρ R => a ρ fun l => l.length ≤ 16777216 ∧ R (.tup l)
def eLst (a : FA) : FE := fun ρ R => a ρ fun l => l.length ≤ 16777216 ∧ R (.lst l)
def eCall (g : GA) (a : FA) : FE := fun ρ R => a ρ fun l => g l R
def eIf (t : FT) (a b : FE) : FE := fun ρ R => t ρ fun c => if c = true then a ρ R else b ρ R
def eBool (t : FT) : FE := fun ρ R => t ρ fun c => R (.bl c)
/-! ### tests -/
def tVal (a : FE) : FT := fun ρ R => a ρ fun x => match x with
  | .bl b => R b
  | _ => False
def tAnd (a b : FT) : FT := fun ρ R => a ρ fun c => if c = true then b ρ R else R false
def tOr (a b : FT) : FT := fun ρ R => a ρ fun c => if c = true then R true else b ρ R
def tNot (a : FT) : FT := fun ρ R => a ρ fun c => R (!c)
/-! ### operators -/
def bAdd : G2 := fun x y R => match x, y with
  | .int i, .int j => R (.int (i + j))
  | .str a, .str b => a.length + b.length ≤ 16777216 ∧ R (.str (a ++ b))
  | .tup a, .tup b => a.length + b.length ≤ 16777216 ∧ R (.tup (a ++ b))
  | .lst a, .lst b => a.length + b.length ≤ 16777216 ∧ R (.lst (a ++ b))
  | _, _ => False
def bSub : G2 := fun x y R => match x, y with
  | .int i, .int j => R (.int (i - j))
  | _, _ => False
def bMul : G2 := fun x y R => match x, y with
  | .int i, .int j => ((-(2 ^ 64) < i ∧ i < 2 ^ 64) ∨ (-(2 ^ 64) < j ∧ j < 2 ^ 64)) ∧ R (.int (i * j))
  | .tup l, .int k => l.length * k.toNat ≤ 16777216 ∧ -(2 ^ 63) ≤ k ∧ k < 2 ^ 63 ∧ R (.tup ((List.replicate k.toNat l).flatten))
  | _, _ => False
def bMod : G2 := fun x y R => match x, y with
  | .int i, .int j => 0 < j ∧ R (.int (i % j))
  | _, _ => False
def bDiv : G2 := fun x y R => match x, y with
  | .int i, .int j => (0 < j ∧ j < 1073741824) ∧ R (.int (i / j))
  | _, _ => False
def bPow : G2 := fun x y R => match x, y with
  | .int i, .int j => (0 ≤ j ∧ j ≤ 1000000 ∧ i.natAbs < 2 ^ 64) ∧ R (.int (i ^ j.toNat))
  | _, _ => False
def uNeg : G1 := fun x R => match x with
  | .int i => R (.int (-i))
  | _ => False
def okE (x y : D) : Prop := x.dat = true ∧ y.dat = true ∧ min x.dep y.dep ≤ 64
def cEq : G2 := fun x y R => okE x y ∧ R (.bl (eqb x y))
def cNe : G2 := fun x y R => okE x y ∧ R (.bl (!eqb x y))
def ltS (a b : Str) : Bool := decide (a.cps.toList < b.cps.toList)
def cLt : G2 := fun x y R => match x, y with
  | .int i, .int j => R (.bl (decide (i < j)))
  | .str i, .str j => R (.bl (ltS i j))
  | _, _ => False
def cGt : G2 := fun x y R => match x, y with
  | .int i, .int j => R (.bl (decide (j < i)))
  | .str i, .str j => R (.bl (ltS j i))
  | _, _ => False
def cLe : G2 := fun x y R => match x, y with
  | .int i, .int j => R (.bl (decide (i ≤ j)))
  | .str i, .str j => R (.bl (!ltS j i))
  | _, _ => False
def cGe : G2 := fun x y R => match x, y with
  | .int i, .int j => R (.bl (decide (j ≤ i)))
  | .str i, .str j => R (.bl (!ltS i j))
  | _, _ => False
def lookK (k : Key) : List (Key × D) → Option D
  | [] => none
  | (j, d) :: r => if j = k then some d else lookK k r
def D.key : D → Option Key
  | .int i => some (.inl i)
  | .str x => some (.inr x)
  | _ => none
def isIn (x y : D) (R : Bool → Prop) : Prop := match y with
  | .tup l => (x.dat = true ∧ x.dep ≤ 64 ∧ datL l = true) ∧ R (l.any fun z => eqb z x)
  | .lst l => (x.dat = true ∧ x.dep ≤ 64 ∧ datL l = true) ∧ R (l.any fun z => eqb z x)
  | .dct kvs => match x.key with
    | some k => R (lookK k kvs).isSome
    | none => False
  | .str z => match x with
    | .str c => ∃ n, c = ⟨#[n]⟩ ∧ R (decide (n ∈ z.cps.toList))
    | _ => False
  | _ => False
def cIn : G2 := fun x y R => isIn x y fun b => R (.bl b)
def cNotIn : G2 := fun x y R => isIn x y fun b => R (.bl (!b))
def D.isNon : D → Bool
  | .non => true
  | _ => false
def uIsN : G1 := fun x R => R (.bl x.isNon)
def uNotN : G1 := fun x R => R (.bl (!x.isNon))
/-! ### subscripts -/
def ixN (n : Nat) (i : Int) : Option Nat := if 0 ≤ i then (if i < n then some i.toNat else none) else if -(n : Int) ≤ i then some (i + n).toNat else none
def atI {α : Type} (xs : List α) (i : Int) : Option α := (ixN xs.length i).bind fun j => xs[j]?
def sIx (n d : Nat) : Option Int → Nat
  | none => d
  | some v => if v < 0 then (v + (n : Int)).toNat else min v.toNat n
def cut {α : Type} (xs : List α) (lo hi : Option Int) : List α := (xs.drop (sIx xs.length 0 lo)).take (sIx xs.length xs.length hi - sIx xs.length 0 lo)
def bIx : G2 := fun x y R => match x, y with
  | .tup l, .int i => (match atI l i with
    | some d => R d
    | none => False)
  | .lst l, .int i => (match atI l i with
    | some d => R d
    | none => False)
  | .str z, .int i => z.length ≤ 16777216 ∧ (match atI z.cps.toList i with
    | some c => R (.str ⟨#[c]⟩)
    | none => False)
  | .dct kvs, .int i => (match lookK (.inl i) kvs with
    | some d => R d
    | none => False)
  | .dct kvs, .str i => (match lookK (.inr i) kvs with
    | some d => R d
    | none => False)
  | _, _ => False
def gSl (x : D) (lo hi : Option Int) (R : DK) : Prop := match x with
  | .tup l => R (.tup (cut l lo hi))
  | .lst l => R (.lst (cut l lo hi))
  | .str z => z.length ≤ 16777216 ∧ R (.str ⟨(cut z.cps.toList lo hi).toArray⟩)
  | _ => False
abbrev FO := Ren → (Option Int → Prop) → Prop
def oNone : FO := fun _ R => R none
def oSome (a : FE) : FO := fun ρ R => a ρ fun x => match x with
  | .int i => R (some i)
  | _ => False
def eSl (a : FE) (lo hi : FO) : FE := fun ρ R => a ρ fun x => lo ρ fun l => hi ρ fun h => gSl x l h R
def uRev : G1 := fun x R => match x with
  | .tup l => R (.tup l.reverse)
  | .lst l => R (.lst l.reverse)
  | _ => False
/-! ### built-in functions -/
def fLen : GA := fun l R => match l with
  | [.tup l] => R (.int l.length)
  | [.lst l] => R (.int l.length)
  | [.str z] => z.length ≤ 16777216 ∧ R (.int z.length)
  | [.dct l] => R (.int l.length)
  | _ => False
def fInt : GA := fun l R => match l with
  | [.int i] => R (.int i)
  | _ => False
def fTuple : GA := fun l R => match l with
  | [.tup l] => R (.tup l)
  | [.lst l] => R (.tup l)
  | _ => False
def fList : GA := fun l R => match l with
  | [.tup l] => R (.lst l)
  | [.lst l] => R (.lst l)
  | _ => False
def bools : List D → Option (List Bool)
  | [] => some []
  | .bl b :: r => (bools r).map (b :: ·)
  | _ :: _ => none
def fAll : GA := fun l R => match l with
  | [.lst l] => (match bools l with
    | some bs => R (.bl (bs.all id))
    | none => False)
  | _ => False
def fAny : GA := fun l R => match l with
  | [.lst l] => (match bools l with
    | some bs => R (.bl (bs.any id))
    | none => False)
  | _ => False
/-- the built-in class of data -/
def D.tyN : D → Option String
  | .non => some "NoneType"
  | .bl _ => some "bool"
  | .int _ => some "int"
  | .str _ => some "str"
  | .tup _ => some "tuple"
  | .lst _ => some "list"
  | .dct _ => some "dict"
  | .clo _ _ => none
  | .pool => none
inductive Ty where
  | int | bool | str | tuple | list
def isT : Ty → D → Bool
  | .int, .int _ => true
  | .int, .bl _ => true
  | .bool, .bl _ => true
  | .str, .str _ => true
  | .tuple, .tup _ => true
  | .list, .lst _ => true
  | _, _ => false
def fIs (t : Ty) : G1 := fun x R => x.tyN ≠ none ∧ R (.bl (isT t x))
/-! ### comprehensions -/
def wipe (ρ : Ren) : List Nat → Ren
  | [] => ρ
  | v :: vs => (wipe ρ vs).set v none
/-- the loop of one clause, n elements may still come -/
def lcGo (G : FG) (t : FT) (e : Ren → Nat → (List D → Prop) → Prop) (ρ : Ren) : List D → Nat → (List D → Prop) → Prop
  | [], _, R => R []
  | d :: r, n, R => G d ρ fun ρ' => t ρ' fun b => if b = true then e ρ' n fun l => lcGo G t e ρ r (n - l.length) fun l' => R (l ++ l') else lcGo G t e ρ r n R
def lcEl (e : FE) : Ren → Nat → (List D → Prop) → Prop := fun ρ n R => e ρ fun y => 0 < n ∧ R [y]
def lcCl (wi : FI) (G : FG) (t : FT) (vs : List Nat) (e : Ren → Nat → (List D → Prop) → Prop) : Ren → Nat → (List D → Prop) → Prop := fun ρ n R => wi ρ fun items => lcGo G t e (wipe ρ vs) items n R
/-- [elt for .. if ..]: the first source is told outside of the block -/
def eLc (wi : FI) (G : FG) (t : FT) (e : Ren → Nat → (List D → Prop) → Prop) (own : List Nat) : FE := fun ρ R => wi ρ fun items => lcGo G t e (wipe ρ own) items 16777216 fun l => R (.lst l)
def tYes : FT := fun _ R => R true
def gName (i : Nat) : FG := fun d ρ R => R (ρ.set i (some d))
abbrev FGs := List D → Ren → (Ren → Prop) → Prop
def gsNil : FGs := fun l ρ R => match l with
  | [] => R ρ
  | _ => False
def gsCons (t : FG) (u : FGs) : FGs := fun l ρ R => match l with
  | d :: r => t d ρ fun ρ' => u r ρ' R
  | [] => False
def gTup (u : FGs) : FG := fun d ρ R => match d with
  | .tup l => u l ρ R
  | _ => False
/-! ### what a loop walks -/
def iSeq (a : FE) : FI := fun ρ R => a ρ fun x => match x with
  | .tup l => R l
  | .lst l => R l
  | _ => False
def rng (lo : Int) (n : Nat) : List D := (List.range n).map fun (k : Nat) => D.int (lo + k)
def iRng1 (a : FE) : FI := fun ρ R => a ρ fun x => match x with
  | .int j => (-(2 ^ 62) ≤ j ∧ j < 2 ^ 62) ∧ R (rng 0 j.toNat)
  | _ => False
def iRng2 (a b : FE) : FI := fun ρ R => a ρ fun x => b ρ fun y => match x, y with
  | .int i, .int j => (-(2 ^ 62) ≤ i ∧ i < 2 ^ 62 ∧ -(2 ^ 62) ≤ j ∧ j < 2 ^ 62) ∧ R (rng i (j - i).toNat)
  | _, _ => False
def iStr (a : FE) : FI := fun ρ R => a ρ fun x => match x with
  | .str z => R (z.cps.toList.map fun c => D.str ⟨#[c]⟩)
  | _ => False
/-! ### statements -/
def sSkip : FS := fun P ρ => P.nx ρ
def sSeq (a b : FS) : FS := fun P ρ => a { P with nx := b P } ρ
def sSet (i : Nat) (e : FE) : FS := fun P ρ => e ρ fun d => P.nx (ρ.set i (some d))
def sAsg (e : FE) (G : FG) : FS := fun P ρ => e ρ fun d => G d ρ P.nx
def sRet (e : FE) : FS := fun P ρ => e ρ P.rt
def sRetN : FS := fun P _ => P.rt .non
def sIf (t : FT) (a b : FS) : FS := fun P ρ => t ρ fun c => if c = true then a P ρ else b P ρ
def forGo (G : FG) (b : FS) (P : Po) : List D → Ren → Prop
  | [], ρ => P.nx ρ
  | d :: r, ρ => G d ρ fun ρ' => b { nx := forGo G b P r, rt := P.rt, bk := P.nx, ct := forGo G b P r } ρ'
def sFor (wi : FI) (G : FG) (b : FS) : FS := fun P ρ => wi ρ fun l => forGo G b P l ρ
def whGo (t : FT) (b : FS) (P : Po) : Nat → Ren → Prop
  | 0, _ => False
  | n + 1, ρ => t ρ fun c => if c = true then b { nx := whGo t b P n, rt := P.rt, bk := P.nx, ct := whGo t b P n } ρ else P.nx ρ
def sWhile (n : Nat) (t : FT) (b : FS) : FS := fun P ρ => whGo t b P n ρ
def sBrk : FS := fun P ρ => P.bk ρ
def sCnt : FS := fun P ρ => P.ct ρ
def sExp (e : FE) : FS := fun P ρ => e ρ fun _ => P.nx ρ
/-- x.append(e), x one's own list in the slot i -/
def sApp (i : Nat) (e : FE) : FS := fun P ρ => match ρ[i]? with
  | some (some (.lst l)) => e ρ fun d => l.length < 16777216 ∧ P.nx (ρ.set i (some (.lst (l ++ [d]))))
  | _ => False
/-- x.extend(e) -/
def sExt (i : Nat) (e : FE) : FS := fun P ρ => match ρ[i]? with
  | some (some (.lst l)) => e ρ fun d => (match d with
    | .lst m => l.length + m.length ≤ 16777216 ∧ P.nx (ρ.set i (some (.lst (l ++ m))))
    | .tup m => l.length + m.length ≤ 16777216 ∧ P.nx (ρ.set i (some (.lst (l ++ m))))
    | _ => False)
  | _ => False
def setR (ρ : Ren) : List Nat → List D → Ren
  | j :: js, d :: l => setR (ρ.set j (some d)) js l
  | _, _ => ρ
/-- x, y = a, b: plain names -/
def sPar (js : List Nat) (a : FA) : FS := fun P ρ => a ρ fun l => P.nx (setR ρ js l)
def eChain (g g2 : G2) (a b c : FE) : FE := fun ρ R => a ρ fun x => b ρ fun y => g x y fun z => match z with
  | .bl k => if k = true then c ρ fun u => g2 y u R else R (.bl false)
  | _ => False
/-- x[j] = e, x one's own list or dict in the slot i -/
def putK (kvs : List (Key × D)) (k : Key) (x : D) : List (Key × D) := if (kvs.any fun kv => decide (kv.1 = k)) = true then kvs.map (fun kv => if kv.1 = k then (kv.1, x) else kv) else kvs ++ [(k, x)]
def sPut (i : Nat) (k e : FE) : FS := fun P ρ => e ρ fun d => match ρ[i]? with
  | some (some (.lst l)) => k ρ fun j => (match j with
    | .int j => (match ixN l.length j with
      | some m => P.nx (ρ.set i (some (.lst (l.set m d))))
      | none => False)
    | _ => False)
  | some (some (.dct l)) => k ρ fun j => (match j.key with
    | some q => l.length < 16777216 ∧ P.nx (ρ.set i (some (.dct (putK l q d))))
    | none => False)
  | _ => False
/-- a def: its slots and parameters -/
def fnD (n p : Nat) (F : FS) : GA := fun ds R => ds.length = p ∧ F ⟨fun _ => R .non, R, fun _ => False, fun _ => False⟩ (ds.map some ++ List.replicate (n - p) none)
/-- a draw -/
def fDraw : GA := fun l R => match l with
  | [.pool, .int m] => 0 < m ∧ m < 1099511627776 ∧ ∀ k : Int, 0 ≤ k → k < m → R (.int k)
  | _ => False
end Fn
end P_FD
section P_FR
set_option maxHeartbeats 2000000
/-! Data over the abstract heap: what stands for what, and what stays. -/
namespace Fn
open PySem PySem.Spec PyProof.Rows L2

/-- where the pool of draws stands, and its list of numbers -/
abbrev Pi := Option (Addr × Addr)
def isPl (π : Pi) (a : Addr) : Prop := ∃ l, π = some (a, l)
section
variable (K : PySem.W.Frag)
/-- a tuple of the written part, a tracked one: each with no dict of its own -/
def KT (a : Addr) (xs : List V) : Prop := ∃ (o : Obj) (its : Array Value) (n : Nat), K.lookup a = some o ∧ o.cls = .type "tuple" ∧ o.data = .seq its n ∧ its.size ≤ sizeLine ∧ Vals xs its.toList ∧ o.dict = none
def Tp (H : Hp) (a : Addr) (xs : List V) : Prop := ∃ o : Obj, H a = some (.frz o (.tup xs)) ∧ o.dict = none
/-- a closure: what is known of it is told by a predicate of its own -/
abbrev Clo := Nat → List D → Hp → Addr → Prop
mutual
def Rep (M : Addr → Prop) (π : Pi) (H : Hp) : D → V → Prop
  | .non, v => v = .non
  | .bl b, v => v = .bl b
  | .int i, v => v = .int i
  | .str x, v => v = .str x
  | .tup l, v => ∃ a xs, v = .ref a ∧ ((¬ M a ∧ Tp H a xs) ∨ KT K a xs) ∧ RepL M π H l xs
  | .lst l, v => ∃ a xs, v = .ref a ∧ (¬ M a ∧ H a = some (.lst xs)) ∧ RepL M π H l xs
  | .dct l, v => ∃ a kvs, v = .ref a ∧ (¬ M a ∧ ∃ od, H a = some (.frz od (.dK kvs))) ∧ RepK M π H l kvs
  | .clo _ _, _ => False
  | .pool, v => ∃ p, π = some p ∧ v = .ref p.1
def RepL (M : Addr → Prop) (π : Pi) (H : Hp) : List D → List V → Prop
  | [], xs => xs = []
  | d :: r, xs => ∃ v vs, xs = v :: vs ∧ Rep M π H d v ∧ RepL M π H r vs
def RepP (M : Addr → Prop) (π : Pi) (H : Hp) : L2.Key × D → L2.Key × V → Prop
  | (k, d), q => q.1 = k ∧ Rep M π H d q.2
def RepK (M : Addr → Prop) (π : Pi) (H : Hp) : List (L2.Key × D) → List (L2.Key × V) → Prop
  | [], xs => xs = []
  | p :: r, xs => ∃ q qs, xs = q :: qs ∧ RepP M π H p q ∧ RepK M π H r qs
end
/-- the pool of draws at p, its numbers at l -/
def PoolAt (H : Hp) (p : Addr × Addr) : Prop := ∃ (ns : List Int) (i c n s : Int), H p.1 = some (.lst [.ref p.2, .int i, .int c, .int n, .int s]) ∧ H p.2 = some (.lst (ns.map V.int)) ∧ p.2 ≠ p.1 ∧ 0 ≤ i
/-- all but the pool is as it was -/
structure Keep (π : Pi) (H H' : Hp) : Prop where
  same : ∀ a o, H a = some o → ¬ isPl π a → H' a = some o
  pool : ∀ p, π = some p → PoolAt H' p
/-- what M does not bar is as it was -/
def Hold (N : Addr → Prop) (H H' : Hp) : Prop := ∀ a o, H a = some o → ¬ N a → H' a = some o

theorem Hold.refl (N : Addr → Prop) (H : Hp) : Hold N H H := fun _ _ h _ => h
theorem Hold.trans {N : Addr → Prop} {H H1 H2 : Hp} (x : Hold N H H1) (y : Hold N H1 H2) : Hold N H H2 := fun a o h n => y a o (x a o h n) n
theorem Keep.hold {N : Addr → Prop} {π : Pi} {H H' : Hp} (k : Keep π H H') (hp : ∀ p, isPl π p → N p) : Hold N H H' :=
  fun a o h n => k.same a o h fun e => n (hp a e)
theorem Keep.trans {π : Pi} {H H1 H2 : Hp} (x : Keep π H H1) (y : Keep π H1 H2) : Keep π H H2 :=
  ⟨fun a o h n => y.same a o (x.same a o h n) n, y.pool⟩
end

section
variable {K : PySem.W.Frag} {M M' : Addr → Prop} {π : Pi} {H H' : Hp}
theorem rd_hold {a : Addr} {u : HO} (k : ∀ o, H a = some o → H' a = some o) (r : Rd H a u) : Rd H' a u := by
  rcases r with r | ⟨o, r⟩
  · exact .inl (k _ r)
  · exact .inr ⟨o, k _ r⟩
theorem tp_hold {a : Addr} {xs : List V} (k : ∀ o, H a = some o → H' a = some o) (r : Tp H a xs) : Tp H' a xs := by
  obtain ⟨o, e, d⟩ := r
  exact ⟨o, k _ e, d⟩
theorem Tp.rd {a : Addr} {xs : List V} (r : Tp H a xs) : Rd H a (.tup xs) := by
  obtain ⟨o, e, d⟩ := r
  exact .inr ⟨o, e⟩
theorem KT.sq {a : Addr} {xs : List V} (r : KT K a xs) : SqT K H a xs := by
  obtain ⟨o, its, n, e1, e2, e3, e4, e5, _⟩ := r
  exact .inr ⟨o, its, n, e1, e2, e3, e4, e5⟩
theorem rd_there {a : Addr} {u : HO} (r : Rd H a u) : ∃ o, H a = some o := by
  rcases r with r | ⟨o, r⟩
  · exact ⟨_, r⟩
  · exact ⟨_, r⟩
/-! frozen data stay where what M does not bar stays; the bars may change as long as what is barred anew was not there -/
mutual
theorem Rep.hold (k : Hold M H H') (hm : ∀ a, M' a → M a ∨ H a = none) : ∀ (d : D) (v : V), Rep K M π H d v → Rep K M' π H' d v
  | .non, _, h => h
  | .bl _, _, h => h
  | .int _, _, h => h
  | .str _, _, h => h
  | .tup l, _, ⟨a, xs, e, h, r⟩ => by
    refine ⟨a, xs, e, ?_, RepL.hold k hm l xs r⟩
    rcases h with ⟨n, h⟩ | h
    · refine .inl ⟨fun z => ?_, tp_hold (fun o q => k a o q n) h⟩
      obtain ⟨o, q⟩ := rd_there h.rd
      rcases hm a z with z | z
      · exact n z
      · rw [q] at z; cases z
    · exact .inr h
  | .lst l, _, ⟨a, xs, e, ⟨n, h⟩, r⟩ => by
    refine ⟨a, xs, e, ⟨fun z => ?_, k a _ h n⟩, RepL.hold k hm l xs r⟩
    rcases hm a z with z | z
    · exact n z
    · rw [h] at z; cases z
  | .dct l, _, ⟨a, xs, e, ⟨n, od, q⟩, r⟩ => by
    refine ⟨a, xs, e, ⟨fun z => ?_, od, k a _ q n⟩, RepK.hold k hm l xs r⟩
    rcases hm a z with z | z
    · exact n z
    · rw [q] at z; cases z
  | .clo _ _, _, h => h
  | .pool, _, h => h
theorem RepL.hold (k : Hold M H H') (hm : ∀ a, M' a → M a ∨ H a = none) : ∀ (l : List D) (xs : List V), RepL K M π H l xs → RepL K M' π H' l xs
  | [], _, h => h
  | d :: r, _, ⟨v, vs, e, h1, h2⟩ => ⟨v, vs, e, Rep.hold k hm d v h1, RepL.hold k hm r vs h2⟩
theorem RepP.hold (k : Hold M H H') (hm : ∀ a, M' a → M a ∨ H a = none) : ∀ (p : L2.Key × D) (q : L2.Key × V), RepP K M π H p q → RepP K M' π H' p q
  | (_, d), q, ⟨e, h⟩ => ⟨e, Rep.hold k hm d q.2 h⟩
theorem RepK.hold (k : Hold M H H') (hm : ∀ a, M' a → M a ∨ H a = none) : ∀ (l : List (L2.Key × D)) (xs : List (L2.Key × V)), RepK K M π H l xs → RepK K M' π H' l xs
  | [], _, h => h
  | p :: r, _, ⟨q, qs, e, h1, h2⟩ => ⟨q, qs, e, RepP.hold k hm p q h1, RepK.hold k hm r qs h2⟩
end
theorem RepL.length : ∀ {l : List D} {xs : List V}, RepL K M π H l xs → xs.length = l.length
  | [], _, h => by cases h; rfl
  | _ :: _, _, ⟨_, _, e, _, h⟩ => by subst e; rw [List.length_cons, List.length_cons, RepL.length h]
theorem RepL.get : ∀ {l : List D} {xs : List V} {i : Nat} {d : D}, RepL K M π H l xs → l[i]? = some d → ∃ v, xs[i]? = some v ∧ Rep K M π H d v
  | [], _, _, _, _, e => by simp at e
  | d :: r, _, 0, d', ⟨v, vs, e, h1, h2⟩, q => by subst e; simp at q; subst q; exact ⟨v, rfl, h1⟩
  | d :: r, _, i + 1, d', ⟨v, vs, e, h1, h2⟩, q => by
    subst e
    obtain ⟨u, e1, e2⟩ := RepL.get (i := i) (d := d') h2 (by simpa using q)
    exact ⟨u, by simpa using e1, e2⟩
theorem RepL.get' : ∀ {l : List D} {xs : List V} {i : Nat} {v : V}, RepL K M π H l xs → xs[i]? = some v → ∃ d, l[i]? = some d ∧ Rep K M π H d v
  | [], _, _, _, h, e => by cases h; simp at e
  | d :: r, _, 0, v', ⟨v, vs, e, h1, h2⟩, q => by subst e; simp at q; subst q; exact ⟨d, rfl, h1⟩
  | d :: r, _, i + 1, v', ⟨v, vs, e, h1, h2⟩, q => by
    subst e
    obtain ⟨u, e1, e2⟩ := RepL.get' (i := i) (v := v') h2 (by simpa using q)
    exact ⟨u, by simpa using e1, e2⟩
theorem RepL.append : ∀ {l m : List D} {xs ys : List V}, RepL K M π H l xs → RepL K M π H m ys → RepL K M π H (l ++ m) (xs ++ ys)
  | [], _, _, _, h, h' => by cases h; exact h'
  | d :: r, _, _, _, ⟨v, vs, e, h1, h2⟩, h' => by subst e; exact ⟨v, vs ++ _, rfl, h1, RepL.append h2 h'⟩
theorem RepL.snoc {l : List D} {xs : List V} {d : D} {v : V} (h : RepL K M π H l xs) (h' : Rep K M π H d v) : RepL K M π H (l ++ [d]) (xs ++ [v]) :=
  h.append ⟨v, [], rfl, h', rfl⟩
theorem RepL.take : ∀ {l : List D} {xs : List V} (n : Nat), RepL K M π H l xs → RepL K M π H (l.take n) (xs.take n)
  | _, _, 0, _ => rfl
  | [], _, _ + 1, h => by cases h; rfl
  | d :: r, _, n + 1, ⟨v, vs, e, h1, h2⟩ => by subst e; exact ⟨v, vs.take n, rfl, h1, RepL.take n h2⟩
theorem RepL.drop : ∀ {l : List D} {xs : List V} (n : Nat), RepL K M π H l xs → RepL K M π H (l.drop n) (xs.drop n)
  | _, _, 0, h => h
  | [], _, _ + 1, h => by cases h; rfl
  | d :: r, _, n + 1, ⟨v, vs, e, h1, h2⟩ => by subst e; exact RepL.drop n h2
theorem RepL.reverse : ∀ {l : List D} {xs : List V}, RepL K M π H l xs → RepL K M π H l.reverse xs.reverse
  | [], _, h => by cases h; exact rfl
  | d :: r, _, ⟨v, vs, e, h1, h2⟩ => by
    subst e
    rw [List.reverse_cons, List.reverse_cons]
    exact (RepL.reverse h2).snoc h1
theorem RepL.ints : ∀ {ns : List Int}, RepL K M π H (ns.map D.int) (ns.map V.int)
  | [] => rfl
  | n :: r => ⟨.int n, r.map V.int, rfl, rfl, RepL.ints⟩
/-- a list, a dict of whatever owner, seen from above -/
def RepO (K : PySem.W.Frag) (M : Addr → Prop) (π : Pi) (H : Hp) (d : D) (v : V) : Prop := match d with
  | .lst l => ∃ a xs, v = .ref a ∧ ¬ isPl π a ∧ H a = some (.lst xs) ∧ RepL K M π H l xs
  | .dct l => ∃ a kvs, v = .ref a ∧ ¬ isPl π a ∧ Rd H a (.dK kvs) ∧ RepK K M π H l kvs
  | d => Rep K M π H d v
theorem Rep.open (hp : ∀ p, isPl π p → M p) : ∀ {d : D} {v : V}, Rep K M π H d v → RepO K M π H d v
  | .non, _, h => h
  | .bl _, _, h => h
  | .int _, _, h => h
  | .str _, _, h => h
  | .tup _, _, h => h
  | .lst _, _, ⟨a, xs, e, h, r⟩ => ⟨a, xs, e, fun z => h.1 (hp a z), h.2, r⟩
  | .dct _, _, ⟨a, xs, e, ⟨n, od, q⟩, r⟩ => ⟨a, xs, e, fun z => n (hp a z), .inr ⟨od, q⟩, r⟩
  | .clo _ _, _, h => h
  | .pool, _, h => h
theorem Rep.sqT {l : List D} {v : V} (h : Rep K M π H (.tup l) v) : ∃ a xs, v = .ref a ∧ SqT K H a xs ∧ RepL K M π H l xs := by
  obtain ⟨a, xs, e, h, r⟩ := h
  exact ⟨a, xs, e, h.elim (fun z => .inl z.2.rd) KT.sq, r⟩
theorem same_upd {p : Addr} {o : HO} (h : H p = none) : ∀ b x, H b = some x → upd H p o b = some x := fun b x e => by
  rw [upd_ne (ne_of_none e h)]
  exact e
theorem hold_upd {N : Addr → Prop} {p : Addr} {o : HO} (h : H p = none) : Hold N H (upd H p o) := fun b x e _ => same_upd h b x e
theorem PoolAt.grow {p : Addr × Addr} {q : Addr} {o : HO} (h : PoolAt H p) (n : H q = none) : PoolAt (upd H q o) p := by
  obtain ⟨ns, i, c, k, s, e1, e2, e3, e4⟩ := h
  exact ⟨ns, i, c, k, s, same_upd n _ _ e1, same_upd n _ _ e2, e3, e4⟩
theorem PoolAt.other {p : Addr × Addr} {q : Addr} {o : HO} (h : PoolAt H p) (n1 : p.1 ≠ q) (n2 : p.2 ≠ q) : PoolAt (upd H q o) p := by
  obtain ⟨ns, i, c, k, s, e1, e2, e3, e4⟩ := h
  exact ⟨ns, i, c, k, s, by rw [upd_ne n1]; exact e1, by rw [upd_ne n2]; exact e2, e3, e4⟩
theorem Keep.new {p : Addr} {o : HO} (hp : ∀ p, π = some p → PoolAt H p) (n : H p = none) : Keep π H (upd H p o) :=
  ⟨fun a x e _ => same_upd n a x e, fun q e => (hp q e).grow n⟩
theorem Keep.refl (hp : ∀ p, π = some p → PoolAt H p) : Keep π H H := ⟨fun _ _ h _ => h, hp⟩
/-- a new object o at p, of parts that stood: a tuple -/
theorem Rep.newT {l : List D} {xs : List V} {p : Addr} {ob : Obj} (r : RepL K M π H l xs) (n : H p = none) (hd : ob.dict = none) (hm : ∀ a, M a → ∃ o, H a = some o) : Rep K M π (upd H p (.frz ob (.tup xs))) (.tup l) (.ref p) := by
  refine ⟨p, xs, rfl, .inl ⟨fun z => ?_, ob, upd_same, hd⟩, RepL.hold (hold_upd n) (fun a z => .inl z) l xs r⟩
  obtain ⟨o, e⟩ := hm p z
  rw [e] at n; cases n
theorem Rep.newL {l : List D} {xs : List V} {p : Addr} (r : RepL K M π H l xs) (n : H p = none) (hm : ∀ a, M a → ∃ o, H a = some o) : Rep K M π (upd H p (.lst xs)) (.lst l) (.ref p) := by
  refine ⟨p, xs, rfl, ⟨fun z => ?_, upd_same⟩, RepL.hold (hold_upd n) (fun a z => .inl z) l xs r⟩
  obtain ⟨o, e⟩ := hm p z
  rw [e] at n; cases n

/-! ### what holds at each point -/
structure Ctx (N : Addr → Prop) (π : Pi) (H : Hp) : Prop where
  alloc : ∀ a, N a → ∃ o, H a = some o
  pool : ∀ p, π = some p → (N p.1 ∧ N p.2) ∧ PoolAt H p
theorem Ctx.keep {N : Addr → Prop} (c : Ctx N π H) (k : Keep π H H') : Ctx N π H' := by
  refine ⟨fun a h => ?_, fun p e => ⟨(c.pool p e).1, k.pool p e⟩⟩
  obtain ⟨o, q⟩ := c.alloc a h
  by_cases z : isPl π a
  · obtain ⟨l, z⟩ := z
    obtain ⟨_, _, _, _, _, q, _⟩ := k.pool _ z
    exact ⟨_, q⟩
  · exact ⟨o, k.same a o q z⟩
theorem Ctx.hp {N : Addr → Prop} (c : Ctx N π H) : ∀ p, isPl π p → N p := fun p ⟨l, e⟩ => (c.pool _ e).1.1
theorem Ctx.keepRefl {N : Addr → Prop} (c : Ctx N π H) : Keep π H H := Keep.refl fun p e => (c.pool p e).2
theorem Ctx.keepNew {N : Addr → Prop} (c : Ctx N π H) {p : Addr} {o : HO} (n : H p = none) : Keep π H (upd H p o) := Keep.new (fun p e => (c.pool p e).2) n
theorem Rep.keep (c : Ctx M π H) (k : Keep π H H') {d : D} {v : V} (r : Rep K M π H d v) : Rep K M π H' d v := Rep.hold (k.hold c.hp) (fun _ z => .inl z) d v r
theorem RepL.keep (c : Ctx M π H) (k : Keep π H H') {l : List D} {xs : List V} (r : RepL K M π H l xs) : RepL K M π H' l xs := RepL.hold (k.hold c.hp) (fun _ z => .inl z) l xs r
theorem RepK.keep (c : Ctx M π H) (k : Keep π H H') {l : List (L2.Key × D)} {xs : List (L2.Key × V)} (r : RepK K M π H l xs) : RepK K M π H' l xs := RepK.hold (k.hold c.hp) (fun _ z => .inl z) l xs r
theorem RepO.keep (c : Ctx M π H) (k : Keep π H H') : ∀ {d : D} {v : V}, RepO K M π H d v → RepO K M π H' d v
  | .non, _, h => h
  | .bl _, _, h => h
  | .int _, _, h => h
  | .str _, _, h => h
  | .tup _, _, h => Rep.keep c k (d := .tup _) h
  | .lst _, _, ⟨a, xs, e, n, h, r⟩ => ⟨a, xs, e, n, k.same a _ h n, r.keep c k⟩
  | .dct _, _, ⟨a, xs, e, n, h, r⟩ => ⟨a, xs, e, n, rd_hold (fun o q => k.same a o q n) h, r.keep c k⟩
  | .clo _ _, _, h => h
  | .pool, _, h => h
def RepOL (K : PySem.W.Frag) (M : Addr → Prop) (π : Pi) (H : Hp) : List D → List V → Prop
  | [], xs => xs = []
  | d :: r, xs => ∃ v vs, xs = v :: vs ∧ RepO K M π H d v ∧ RepOL K M π H r vs
theorem RepOL.keep (c : Ctx M π H) (k : Keep π H H') : ∀ {l : List D} {xs : List V}, RepOL K M π H l xs → RepOL K M π H' l xs
  | [], _, h => h
  | _ :: _, _, ⟨v, vs, e, h1, h2⟩ => ⟨v, vs, e, h1.keep c k, RepOL.keep c k h2⟩
/-- what a def's own lists and dicts bar too -/
def Bar (M : Addr → Prop) (own : Nat → Option Addr) (a : Addr) : Prop := M a ∨ ∃ i, own i = some a
def OwnRep (K : PySem.W.Frag) (N : Addr → Prop) (π : Pi) (H : Hp) (a : Addr) (d : D) : Prop := match d with
  | .lst l => ∃ xs, H a = some (.lst xs) ∧ RepL K N π H l xs
  | .dct l => ∃ kvs, H a = some (.dK kvs) ∧ RepK K N π H l kvs
  | _ => False
structure EnvOk (K : PySem.W.Frag) (M : Addr → Prop) (π : Pi) (O : Nat → Bool) (own : Nat → Option Addr) (σ : L2.St) (H : Hp) (ρ : Ren) : Prop where
  alloc : ∀ a, M a → ∃ o, H a = some o
  pool : ∀ p, π = some p → (M p.1 ∧ M p.2) ∧ PoolAt H p
  own1 : ∀ i a, own i = some a → O i = true ∧ (∃ o, H a = some o) ∧ ¬ M a
  inj : ∀ i j a, own i = some a → own j = some a → i = j
  len : σ.length = ρ.length
  slot : ∀ i d, ρ[i]? = some (some d) → ∃ v, σ[i]? = some (some v) ∧ (if O i = true then ∃ a, own i = some a ∧ v = .ref a ∧ OwnRep K (Bar M own) π H a d else Rep K (Bar M own) π H d v)
section
variable {O : Nat → Bool} {own : Nat → Option Addr} {σ : L2.St} {ρ : Ren}
theorem EnvOk.ctx (x : EnvOk K M π O own σ H ρ) : Ctx (Bar M own) π H :=
  ⟨fun a h => h.elim (x.alloc a) fun ⟨i, e⟩ => (x.own1 i a e).2.1, fun p e => ⟨⟨.inl (x.pool p e).1.1, .inl (x.pool p e).1.2⟩, (x.pool p e).2⟩⟩
theorem EnvOk.notpool (x : EnvOk K M π O own σ H ρ) {i : Nat} {a : Addr} (e : own i = some a) : ¬ isPl π a := fun ⟨l, z⟩ => (x.own1 i a e).2.2 (x.pool _ z).1.1
theorem OwnRep.keep {N : Addr → Prop} {a : Addr} {d : D} (c : Ctx N π H) (k : Keep π H H') (n : ¬ isPl π a) (h : OwnRep K N π H a d) : OwnRep K N π H' a d := by
  cases d with
  | lst l => obtain ⟨xs, e, r⟩ := h; exact ⟨xs, k.same _ _ e n, r.keep c k⟩
  | dct l => obtain ⟨xs, e, r⟩ := h; exact ⟨xs, k.same _ _ e n, r.keep c k⟩
  | _ => exact h
theorem EnvOk.keep (x : EnvOk K M π O own σ H ρ) (k : Keep π H H') : EnvOk K M π O own σ H' ρ := by
  have c' := x.ctx.keep k
  refine ⟨fun a h => c'.alloc a (.inl h), fun p e => ⟨(x.pool p e).1, k.pool p e⟩, fun i a e => ⟨(x.own1 i a e).1, c'.alloc a (.inr ⟨i, e⟩), (x.own1 i a e).2.2⟩, x.inj, x.len, fun i d e => ?_⟩
  obtain ⟨v, e1, h⟩ := x.slot i d e
  refine ⟨v, e1, ?_⟩
  by_cases hO : O i = true
  · rw [if_pos hO] at h ⊢
    obtain ⟨a, e2, e3, h⟩ := h
    exact ⟨a, e2, e3, h.keep x.ctx k (x.notpool e2)⟩
  · rw [if_neg hO] at h ⊢
    exact h.keep x.ctx k
end
end
end Fn
end P_FR
section P_FQ
set_option maxHeartbeats 4000000
/-! Tuples with no dict of their own: each maker of a tuple tells its object. -/
namespace Fn
open PySem PySem.Spec PyProof.Rows L2
def tObj (its : Array Value) : Obj := { cls := .type "tuple", data := .seq its }
section
variable {X : Cx} {es : List Expr} {t : TA} {pos : Pos}
theorem laidF {pins : List (Addr × Obj)} {σ : L2.St} {H : Hp} {s : Shared} {xs : List V} {its : List Value} (I : Inv X pins σ H s) (z : xs.length ≤ sizeLine) (r : Vals xs its) :
    Inv X pins σ (upd H s.heap.objs.size (.frz (tObj its.toArray) (.tup xs))) { s with heap := s.heap.push (tObj its.toArray) } := by
  refine Inv.laid (t' := s.toks) I (fun _ _ q => Heap.get?_push_of_some _ q) (Nat.le_refl _) ?_
  exact ⟨Heap.get?_push_size _ rfl, z, its, r, IsTup.new _ _⟩
/-- a display -/
def tTupF (t : TA) : TE := fun σ H Q => t σ H fun xs H1 => xs.length ≤ sizeLine ∧ ∀ p ob, H1 p = none → ob.dict = none → Q (.ref p) (upd H1 p (.frz ob (.tup xs)))
theorem pe_tupF {x1} (h : PA X es t) : PE X (.Tuple es x1 pos) (tTupF t) := by
  constructor
  intro pins s σ H Q I hq
  refine wpAny_Tuple_spliced (thn (h.run pos pins s σ H _ I hq) ?_)
  rintro us s1 ⟨xs, H1, I1, r, z, q⟩
  refine ⟨by rw [← r.length]; exact z, ?_⟩
  exact ⟨.ref _, _, laidF I1 z r, rfl, q _ _ I1.fresh rfl⟩
/-- tuple(list), tuple(tuple) -/
theorem call_tupleF : CallR X (.type "tuple") (fun xs H Q => ∃ p ys, xs = [.ref p] ∧ ((SqL X.K H p ys ∧ ∀ l o, H l = none → o.dict = none → Q (.ref l) (upd H l (.frz o (.tup ys)))) ∨ (SqT X.K H p ys ∧ Q (.ref p) H))) := by
  rintro pins s σ H xs us Q I r ⟨p, ys, rfl, h⟩
  obtain ⟨u, rfl, rx⟩ := vals1 r
  obtain rfl : u = Value.ref p := rx
  rcases h with ⟨hq, q⟩ | ⟨hq, q⟩
  · obtain ⟨its, r', pl, hz⟩ := Inv.list I hq
    refine call_tuple_list pl.isList (fun h' kp => ?_) (by have := r'.length; simp only [List.size_toArray]; omega)
    have I1 := Inv.kept (t' := s.toks) I kp
    exact ⟨.ref _, _, laidF I1 hz r', rfl, q _ _ I1.fresh rfl⟩
  · obtain ⟨its, _, pl, _⟩ := Inv.tuple I hq
    exact call_tuple_same pl ⟨.ref p, H, I, rfl, q⟩
/-- t + u -/
def rCatF (K : PySem.W.Frag) : R2 := fun x y H Q => ∃ a b xs ys, x = .ref a ∧ y = .ref b ∧ SqT K H a xs ∧ SqT K H b ys ∧ xs.length + ys.length ≤ sizeLine ∧
  (xs = [] → Q (.ref b) H) ∧ (xs ≠ [] → ys = [] → Q (.ref a) H) ∧ (xs ≠ [] → ys ≠ [] → ∀ p ob, H p = none → ob.dict = none → Q (.ref p) (upd H p (.frz ob (.tup (xs ++ ys)))))
theorem op_catF : OpR X (binaryOp .Add) (rCatF X.K) := by
  rintro pins s σ H x y v u Q I rx ry ⟨a, b, xs, ys, rfl, rfl, ha, hb, hz, q0, q1, q2⟩
  obtain rfl : v = Value.ref a := rx
  obtain rfl : u = Value.ref b := ry
  obtain ⟨its, r1, p1, _⟩ := Inv.tuple I ha
  obtain ⟨jts, r2, p2, _⟩ := Inv.tuple I hb
  by_cases hx : xs = []
  · have e : its = [] := (Vals.nil_iff r1).mpr hx
    subst e
    exact cat_tup0 p1 p2 ⟨.ref b, H, I, rfl, q0 hx⟩
  · refine HT.cat_tup p1 p2 (fun e => hx ((Vals.nil_iff r1).mp e)) (fun e => ⟨.ref a, H, I, rfl, q1 hx ((Vals.nil_iff r2).mp e)⟩) (fun e => ?_) (by rw [← r1.length, ← r2.length]; exact hz)
    exact ⟨.ref _, _, laidF I (by rw [List.length_append]; exact hz) (r1.append r2), rfl, q2 hx (fun w => e ((Vals.nil_iff r2).mpr w)) _ _ I.fresh rfl⟩
/-- t[lo:hi]: the whole of it is t itself -/
def rSlF (K : PySem.W.Frag) : V → Option Int → Option Int → Hp → VK → Prop := fun x lo hi H Q => ∃ a xs, x = .ref a ∧ SqT K H a xs ∧
  (HT.sIx xs.length 0 lo = 0 ∧ HT.sIx xs.length xs.length hi = xs.length → Q (.ref a) H) ∧ (¬ (HT.sIx xs.length 0 lo = 0 ∧ HT.sIx xs.length xs.length hi = xs.length) → ∀ p ob, H p = none → ob.dict = none → Q (.ref p) (upd H p (.frz ob (.tup (cutV xs lo hi)))))
theorem sl_tupF : SlR X (rSlF X.K) := by
  rintro pins s σ H x v vl vu lo hi sl Q I rx hs pl pu ⟨a, xs, rfl, hx, q1, q2⟩
  obtain rfl : v = Value.ref a := rx
  obtain ⟨its, r, ht, hz⟩ := Inv.tuple I hx
  have hl : its.toArray.size = xs.length := by rw [List.size_toArray]; exact r.length.symm
  refine ⟨"tuple", _, PyProof.Rows.slot_tuple_getitem.lookup, ht.typeIs, ?_⟩
  by_cases hw : HT.sIx xs.length 0 lo = 0 ∧ HT.sIx xs.length xs.length hi = xs.length
  · exact getItem_tuple_whole ht hs pl pu (by rw [hl]; exact hw) ⟨.ref a, H, I, rfl, q1 hw⟩
  · refine HT.getItem_tuple_cut ht hs pl pu (by rw [hl]; exact hw) ?_ (by rw [hl]; exact hz)
    rw [hl]
    exact ⟨.ref _, _, laidF I (Nat.le_trans (cutV_length xs lo hi) hz) ((r.drop _).take _), rfl, q2 hw _ _ I.fresh rfl⟩
end
end Fn
end P_FQ
section P_FV
set_option maxHeartbeats 4000000
/-! The judgements over data, and their rules. -/
namespace Fn
open PySem PySem.Spec PyProof.Rows L2

abbrev Own := Nat → Option Addr
/-- a family of contexts: a def's body at any call, a comprehension's block in it .. -/
structure Fam where
  ι : Type
  X : ι → Cx
  P : Program
  w : World
  K : PySem.W.Frag
  mg : Str → Option Value
  base : Heap
  N : List Str
  k : Nat
  hP : ∀ i, (X i).prog = P
  hw : ∀ i, (X i).w = w
  hK : ∀ i, (X i).K = K
  hmg : ∀ i, (X i).mg = mg
  hbase : ∀ i, (X i).base = base
  hN : ∀ i, (X i).N = N
  calm : ∀ i, (X i).calm = true
  room : ∀ i, Room k (X i).A
theorem Fam.units (F : Fam) (i : F.ι) : (F.X i).A.units + 65 < cLine := by
  have := (F.room i).un
  omega
section
variable (K : PySem.W.Frag) (O : Nat → Bool)
def SemE (t : TE) (f : FE) : Prop := ∀ M π (own : Own) (σ : L2.St) H ρ (R : DK) (Q : VK), EnvOk K M π O own σ H ρ → f ρ R → (∀ d v H', Keep π H H' → Rep K (Bar M own) π H' d v → R d → Q v H') → t σ H Q
def SemR (t : TE) (f : FE) : Prop := ∀ M π (own : Own) (σ : L2.St) H ρ (R : DK) (Q : VK), EnvOk K M π O own σ H ρ → f ρ R → (∀ d v H', Keep π H H' → RepO K (Bar M own) π H' d v → R d → Q v H') → t σ H Q
def SemF (t : TE) (f : FE) : Prop := ∀ M π (own : Own) (σ : L2.St) H ρ (R : DK) (Q : VK), EnvOk K M π O own σ H ρ → f ρ R → (∀ d a H', Keep π H H' → H a = none → OwnRep K (fun b => Bar M own b ∨ b = a) π H' a d → R d → Q (.ref a) H') → t σ H Q
def SemT (t : TT) (f : FT) : Prop := ∀ M π (own : Own) (σ : L2.St) H ρ (R : Bool → Prop) (Q : Bool → Hp → Prop), EnvOk K M π O own σ H ρ → f ρ R → (∀ b H', Keep π H H' → R b → Q b H') → t σ H Q
def SemA (t : TA) (f : FA) : Prop := ∀ M π (own : Own) (σ : L2.St) H ρ (R : List D → Prop) (Q : List V → Hp → Prop), EnvOk K M π O own σ H ρ → f ρ R → (∀ l xs H', Keep π H H' → RepL K (Bar M own) π H' l xs → R l → Q xs H') → t σ H Q
def SemRA (t : TA) (f : FA) : Prop := ∀ M π (own : Own) (σ : L2.St) H ρ (R : List D → Prop) (Q : List V → Hp → Prop), EnvOk K M π O own σ H ρ → f ρ R → (∀ l xs H', Keep π H H' → RepOL K (Bar M own) π H' l xs → R l → Q xs H') → t σ H Q
end
section
variable (F : Fam) (O : Nat → Bool)
def VE (e : Expr) (f : FE) : Prop := ∃ t : TE, (∀ i, PE (F.X i) e t) ∧ SemE F.K O t f
/-- read only: one's own lists too -/
def VR (e : Expr) (f : FE) : Prop := ∃ t : TE, (∀ i, PE (F.X i) e t) ∧ SemR F.K O t f
/-- a list or dict that nobody else has yet -/
def VF (e : Expr) (f : FE) : Prop := ∃ t : TE, (∀ i, PE (F.X i) e t) ∧ SemF F.K O t f
def VT (e : Expr) (f : FT) : Prop := ∃ t : TT, (∀ i, PT (F.X i) e t) ∧ SemT F.K O t f
def VW (e : Expr) (f : FT) : Prop := ∃ t : TT, (∀ i, PW (F.X i) e t) ∧ SemT F.K O t f
def VTs (es : List Expr) (f : FT) : Prop := ∃ t : TT, (∀ i, PTs (F.X i) es t) ∧ SemT F.K O t f
def VA (es : List Expr) (f : FA) : Prop := ∃ t : TA, (∀ i, PA (F.X i) es t) ∧ SemA F.K O t f
def VRA (es : List Expr) (f : FA) : Prop := ∃ t : TA, (∀ i, PA (F.X i) es t) ∧ SemRA F.K O t f
def OpD (f : Value → Value → Sem Value) (g : G2) : Prop := ∃ r : R2, (∀ i, OpR (F.X i) f r) ∧ ∀ N π H x y a b (R : DK) (Q : VK), Ctx N π H → RepO F.K N π H x a → RepO F.K N π H y b → g x y R → (∀ d v H', Keep π H H' → Rep F.K N π H' d v → R d → Q v H') → r a b H Q
def UnD (f : Value → Sem Value) (g : G1) : Prop := ∃ r : V → Hp → VK → Prop, (∀ i, UnR (F.X i) f r) ∧ ∀ N π H x a (R : DK) (Q : VK), Ctx N π H → RepO F.K N π H x a → g x R → (∀ d v H', Keep π H H' → Rep F.K N π H' d v → R d → Q v H') → r a H Q
def CallD (f : Value) (g : GA) : Prop := ∃ r : List V → Hp → VK → Prop, (∀ i, CallR (F.X i) f r) ∧ ∀ N π H l xs (R : DK) (Q : VK), Ctx N π H → RepOL F.K N π H l xs → g l R → (∀ d v H', Keep π H H' → Rep F.K N π H' d v → R d → Q v H') → r xs H Q
def IxD (g : G2) : Prop := ∃ r : R2, (∀ i, IxR (F.X i) r) ∧ ∀ N π H x y a b (R : DK) (Q : VK), Ctx N π H → RepO F.K N π H x a → RepO F.K N π H y b → g x y R → (∀ d v H', Keep π H H' → Rep F.K N π H' d v → R d → Q v H') → r a b H Q
/-- what a target is given: any data (true), a tuple perhaps that only this target sees (false) -/
def RepS (K : PySem.W.Frag) (N : Addr → Prop) (π : Pi) (H : Hp) (d : D) (v : V) : Prop := match d with
  | .tup l => ∃ a xs, v = .ref a ∧ SqT K H a xs ∧ RepL K N π H l xs
  | d => Rep K N π H d v
def RepI : Bool → PySem.W.Frag → (Addr → Prop) → Pi → Hp → D → V → Prop
  | true => Rep
  | false => RepS
/-- what a target stores, into the slots S -/
def VG (rr : Bool) (tg : Expr) (S : List Nat) (G : FG) : Prop := ∃ t : TG, (∀ i, PG (F.X i) tg t) ∧ ∀ M π (own : Own) (σ : L2.St) H ρ d v (R : Ren → Prop) (Q : L2.St → Hp → Prop), EnvOk F.K M π O own σ H ρ → RepI rr F.K (Bar M own) π H d v → G d ρ R →
  (∀ σ' ρ', EnvOk F.K M π O own σ' H ρ' → (∀ vs, (∀ i ∈ S, i ∈ vs) → L2.wipe σ' vs = L2.wipe σ vs) → R ρ' → Q σ' H) → t v σ H Q
def VGs (tgs : List Expr) (S : List Nat) (G : FGs) : Prop := ∃ t : TGs, (∀ i, PGs (F.X i) tgs t) ∧ ∀ M π (own : Own) (σ : L2.St) H ρ l xs (R : Ren → Prop) (Q : L2.St → Hp → Prop), EnvOk F.K M π O own σ H ρ → RepL F.K (Bar M own) π H l xs → G l ρ R →
  (∀ σ' ρ', EnvOk F.K M π O own σ' H ρ' → (∀ vs, (∀ i ∈ S, i ∈ vs) → L2.wipe σ' vs = L2.wipe σ vs) → R ρ' → Q σ' H) → t xs σ H Q
end
/-- a walk over data: C may change, N is barred -/
def WalkD (rr : Bool) (K : PySem.W.Frag) (C N : Addr → Prop) (π : Pi) (H1 : Hp) (l : List D) (J : It) : Prop :=
  ∃ (G : Hp → Prop) (Y : Nat → Hp → V → Hp → Prop), Walk J l.length G Y ∧ (∀ H, Hold C H1 H → G H) ∧ ∀ i H x H', i < l.length → Hold C H1 H → (∀ p, π = some p → PoolAt H p) → Y i H x H' →
    Keep π H H' ∧ ∃ d, l[i]? = some d ∧ ∀ N' : Addr → Prop, (∀ a, N' a → (N a ∨ H1 a = none) ∧ ∃ o, H a = some o) → RepI rr K N' π H' d x
section
variable (F : Fam) (O : Nat → Bool)
def VI (rr : Bool) (tg it : Expr) (f : FI) : Prop := ∃ w : TI, (∀ i, PI (F.X i) tg it w) ∧ ∀ M π (own : Own) (σ : L2.St) H ρ (R : List D → Prop) (Q : It → Hp → Prop), EnvOk F.K M π O own σ H ρ → f ρ R → (∀ l J H1, Keep π H H1 → WalkD rr F.K (Bar M own) (Bar M own) π H1 l J → R l → Q J H1) → w σ H Q
def VIR (rr : Bool) (tg it : Expr) (f : FI) : Prop := ∃ w : TI, (∀ i, PI (F.X i) tg it w) ∧ ∀ M π (own : Own) (σ : L2.St) H ρ (R : List D → Prop) (Q : It → Hp → Prop), EnvOk F.K M π O own σ H ρ → f ρ R → (∀ l J H1, Keep π H H1 → WalkD rr F.K (isPl π) (Bar M own) π H1 l J → R l → Q J H1) → w σ H Q
end
/-- all but B and the pool is as it was at H0 -/
structure KeepB (π : Pi) (B : Addr → Prop) (H0 H : Hp) : Prop where
  keep : ∀ a o, H0 a = some o → ¬ B a → ¬ isPl π a → H a = some o
  pool : ∀ p, π = some p → PoolAt H p
/-- since H0 (a def's entry, a loop's start): what stood stands, but for B, the own lists of then; own lists are of these or new -/
structure Fr0 (M : Addr → Prop) (π : Pi) (H0 : Hp) (B : Addr → Prop) (own : Own) (H : Hp) : Prop where
  kb : KeepB π B H0 H
  newo : ∀ i a, own i = some a → B a ∨ H0 a = none
  old : ∀ a, M a → ∃ o, H0 a = some o
structure EndsOk (K : PySem.W.Frag) (M : Addr → Prop) (π : Pi) (H0 : Hp) (B : Addr → Prop) (O : Nat → Bool) (P : Po) (D : Ends) : Prop where
  nx : ∀ (own : Own) (σ : L2.St) H ρ, EnvOk K M π O own σ H ρ → Fr0 M π H0 B own H → P.nx ρ → D.nx σ H
  rt : ∀ d v H, KeepB π B H0 H → Rep K M π H d v → P.rt d → D.rt v H
  bk : ∀ (own : Own) (σ : L2.St) H ρ, EnvOk K M π O own σ H ρ → Fr0 M π H0 B own H → P.bk ρ → D.bk σ H
  ct : ∀ (own : Own) (σ : L2.St) H ρ, EnvOk K M π O own σ H ρ → Fr0 M π H0 B own H → P.ct ρ → D.ct σ H
section
variable (F : Fam) (O : Nat → Bool)
def SemS (K : PySem.W.Frag) (t : TS) (f : FS) : Prop := ∀ M π H0 B (own : Own) (σ : L2.St) H ρ (P : Po) (D : Ends), EnvOk K M π O own σ H ρ → Fr0 M π H0 B own H → f P ρ → EndsOk K M π H0 B O P D → t D σ H
def VS (st : Stmt) (f : FS) : Prop := ∃ t : TS, (∀ i, PS (F.X i) st t) ∧ SemS O F.K t f
def VSs (sts : List Stmt) (f : FS) : Prop := ∃ t : TS, (∀ i, PSs (F.X i) sts t) ∧ SemS O F.K t f
end

section
variable {F : Fam} {O : Nat → Bool} {e a b : Expr} {es : List Expr} {f fa fb : FE} {pos : Pos}
theorem KeepB.step {π : Pi} {B : Addr → Prop} {H0 H H' : Hp} (x : KeepB π B H0 H) (k : Keep π H H') : KeepB π B H0 H' := ⟨fun a o h n z => k.same a o (x.keep a o h n z) z, k.pool⟩
theorem Fr0.step {M : Addr → Prop} {π : Pi} {H0 H H' : Hp} {B : Addr → Prop} {own : Own} (x : Fr0 M π H0 B own H) (k : Keep π H H') : Fr0 M π H0 B own H' := ⟨x.kb.step k, x.newo, x.old⟩
theorem Keep.none {π : Pi} {H H' : Hp} (k : Keep π H H') (hp : ∀ p, isPl π p → ∃ o, H p = some o) {a : Addr} (n : H' a = none) : H a = none := by
  cases q : H a with
  | none => rfl
  | some o =>
    by_cases z : isPl π a
    · obtain ⟨l, z⟩ := z
      obtain ⟨_, _, _, _, _, q, _⟩ := k.pool _ z
      rw [q] at n; cases n
    · rw [k.same a o q z] at n; cases n
theorem Ctx.noneOf {N : Addr → Prop} {π : Pi} {H H' : Hp} (c : Ctx N π H) (k : Keep π H H') {a : Addr} (n : H' a = none) : H a = none :=
  k.none (fun p e => c.alloc p (c.hp p e)) n

theorem Rep.sq {K : PySem.W.Frag} {N : Addr → Prop} {π : Pi} {H : Hp} : ∀ {rr : Bool} {l : List D} {v : V}, RepI rr K N π H (.tup l) v → ∃ a xs, v = .ref a ∧ SqT K H a xs ∧ RepL K N π H l xs
  | true, _, _, h => Rep.sqT h
  | false, _, _, h => h
/-! ### expressions -/
theorem VE.toR (h : VE F O e f) : VR F O e f := by
  obtain ⟨t, p, g⟩ := h
  refine ⟨t, p, fun M π own σ H ρ R Q x hf hq => g M π own σ H ρ R Q x hf fun d v H' k r => hq d v H' k (r.open (x.ctx.keep k).hp)⟩
theorem ve_var (i : Nat) {x : Str} (h : ∀ j, PE (F.X j) (.Name x pos) (tVar i)) (hO : O i = false) : VE F O (.Name x pos) (eVar i) := by
  refine ⟨_, h, fun M π own σ H ρ R Q x hf hq => ?_⟩
  unfold eVar at hf
  split at hf
  · rename_i d e
    obtain ⟨v, e1, h1⟩ := x.slot i d e
    rw [if_neg (by rw [hO]; decide)] at h1
    exact ⟨v, e1, hq d v H x.ctx.keepRefl h1 hf⟩
  · exact hf.elim
theorem vr_var (i : Nat) {x : Str} (h : ∀ j, PE (F.X j) (.Name x pos) (tVar i)) : VR F O (.Name x pos) (eVar i) := by
  refine ⟨_, h, fun M π own σ H ρ R Q x hf hq => ?_⟩
  unfold eVar at hf
  split at hf
  · rename_i d e
    obtain ⟨v, e1, h1⟩ := x.slot i d e
    refine ⟨v, e1, hq d v H x.ctx.keepRefl ?_ hf⟩
    by_cases hO : O i = true
    · rw [if_pos hO] at h1
      obtain ⟨a, e2, e3, h1⟩ := h1
      subst e3
      cases d with
      | lst l => obtain ⟨xs, q, r⟩ := h1; exact ⟨a, xs, rfl, x.notpool e2, q, r⟩
      | dct l => obtain ⟨xs, q, r⟩ := h1; exact ⟨a, xs, rfl, x.notpool e2, .inl q, r⟩
      | _ => exact h1.elim
    · rw [if_neg hO] at h1
      exact h1.open x.ctx.hp
  · exact hf.elim
theorem ve_c {d : D} {v : V} (h : ∀ j, PE (F.X j) e (tC v)) (r : ∀ N π H, Rep F.K N π H d v) : VE F O e (eC d) :=
  ⟨_, h, fun M π own σ H ρ R Q x hf hq => hq d v H x.ctx.keepRefl (r _ _ _) hf⟩
theorem ve_int {i j} : VE F O (.Constant (.int i) j pos) (eC (.int i)) := ve_c (fun _ => pe_int) fun _ _ _ => rfl
theorem ve_bl {b j} : VE F O (.Constant (.bool b) j pos) (eC (.bl b)) := ve_c (fun _ => pe_bl) fun _ _ _ => rfl
theorem ve_non {j} : VE F O (.Constant .none j pos) (eC .non) := ve_c (fun _ => pe_non) fun _ _ _ => rfl
theorem ve_str {x j} : VE F O (.Constant (.str x) j pos) (eC (.str x)) := ve_c (fun _ => pe_str) fun _ _ _ => rfl
theorem ve_bin {op : Operator} {g : G2} (ho : OpD F (binaryOp op) g) (ha : VR F O a fa) (hb : VR F O b fb) : VE F O (.BinOp a op b pos) (eBin g fa fb) := by
  obtain ⟨r, hr, gr⟩ := ho
  obtain ⟨ta, pa, ga⟩ := ha
  obtain ⟨tb, pb, gb⟩ := hb
  refine ⟨_, fun i => pe_op (hr i) (pa i) (pb i), fun M π own σ H ρ R Q x hf hq => ?_⟩
  refine ga M π own σ H ρ _ _ x hf fun d v H1 k1 r1 h1 => ?_
  have x1 := x.keep k1
  refine gb M π own σ H1 ρ _ _ x1 h1 fun d2 v2 H2 k2 r2 h2 => ?_
  exact gr _ π H2 d d2 v v2 _ _ (x1.keep k2).ctx (r1.keep x1.ctx k2) r2 h2 fun d3 v3 H3 k3 => hq d3 v3 H3 ((k1.trans k2).trans k3)
theorem ve_un {op : UnaryOp} {g : G1} (ho : UnD F (unaryOp op) g) (ha : VR F O a fa) : VE F O (.UnaryOp op a pos) (eUn g fa) := by
  obtain ⟨r, hr, gr⟩ := ho
  obtain ⟨ta, pa, ga⟩ := ha
  refine ⟨_, fun i => pe_un (hr i) (pa i), fun M π own σ H ρ R Q x hf hq => ?_⟩
  refine ga M π own σ H ρ _ _ x hf fun d v H1 k1 r1 h1 => ?_
  exact gr _ π H1 d v _ _ (x.keep k1).ctx r1 h1 fun d3 v3 H3 k3 => hq d3 v3 H3 (k1.trans k3)
theorem ve_cmp {op : CmpOp} {g : G2} (ho : OpD F (compareOp op) g) (ha : VR F O a fa) (hb : VR F O b fb) (hm : behindInMarks op b = false) : VE F O (.Compare a [op] [b] pos) (eBin g fa fb) := by
  obtain ⟨r, hr, gr⟩ := ho
  obtain ⟨ta, pa, ga⟩ := ha
  obtain ⟨tb, pb, gb⟩ := hb
  refine ⟨_, fun i => pe_cmpR (hr i) (pa i) (pb i) hm, fun M π own σ H ρ R Q x hf hq => ?_⟩
  refine ga M π own σ H ρ _ _ x hf fun d v H1 k1 r1 h1 => ?_
  have x1 := x.keep k1
  refine gb M π own σ H1 ρ _ _ x1 h1 fun d2 v2 H2 k2 r2 h2 => ?_
  exact gr _ π H2 d d2 v v2 _ _ (x1.keep k2).ctx (r1.keep x1.ctx k2) r2 h2 fun d3 v3 H3 k3 => hq d3 v3 H3 ((k1.trans k2).trans k3)
theorem vt_cmp {op : CmpOp} {g : G2} (ho : OpD F (compareOp op) g) (ha : VR F O a fa) (hb : VR F O b fb) (hm : behindInMarks op b = false) : VT F O (.Compare a [op] [b] pos) (tVal (eBin g fa fb)) := by
  obtain ⟨r, hr, gr⟩ := ho
  obtain ⟨ta, pa, ga⟩ := ha
  obtain ⟨tb, pb, gb⟩ := hb
  refine ⟨_, fun i => pt_cmpR (hr i) (pa i) (pb i) hm, fun M π own σ H ρ R Q x hf hq => ?_⟩
  refine ga M π own σ H ρ _ _ x hf fun d v H1 k1 r1 h1 => ?_
  have x1 := x.keep k1
  refine gb M π own σ H1 ρ _ _ x1 h1 fun d2 v2 H2 k2 r2 h2 => ?_
  refine gr _ π H2 d d2 v v2 _ _ (x1.keep k2).ctx (r1.keep x1.ctx k2) r2 h2 fun d3 v3 H3 k3 r3 h3 => ?_
  cases d3 with
  | bl c => exact ⟨c, r3, hq c H3 ((k1.trans k2).trans k3) h3⟩
  | _ => exact h3.elim
theorem vt_val (ha : VE F O e f) (he : ∀ i whole, isTrue e (F.X i).env whole = (do let v ← whole; standAt e.pos; holding [v] (truthy v)) := by intro _ _; rfl) : VT F O e (tVal f) := by
  obtain ⟨t, p, g⟩ := ha
  refine ⟨_, fun i => pt_val (p i) (he i), fun M π own σ H ρ R Q x hf hq => ?_⟩
  refine g M π own σ H ρ _ _ x hf fun d v H1 k1 r1 h1 => ?_
  cases d with
  | bl c => exact ⟨c, r1, hq c H1 k1 h1⟩
  | _ => exact h1.elim
theorem VW.toT {t : FT} (h : VW F O e t) : VT F O e t := by
  obtain ⟨t, p, g⟩ := h
  exact ⟨t, fun i => (p i).pt, g⟩
variable {tA tB' : FT} {rest : List Expr}
theorem vw_and1 (ha : VT F O a tA) : VW F O (.BoolOp .And [a] pos) tA := by
  obtain ⟨t, p, g⟩ := ha
  exact ⟨_, fun i => pw_and1 (p i), g⟩
theorem vw_or1 (ha : VT F O a tA) : VW F O (.BoolOp .Or [a] pos) tA := by
  obtain ⟨t, p, g⟩ := ha
  exact ⟨_, fun i => pw_or1 (p i), g⟩
theorem vw_and (ha : VT F O a tA) (hb : VW F O (.BoolOp .And (b :: rest) pos) tB') : VW F O (.BoolOp .And (a :: b :: rest) pos) (Fn.tAnd tA tB') := by
  obtain ⟨t, p, g⟩ := ha
  obtain ⟨u, q, g'⟩ := hb
  refine ⟨_, fun i => pw_and (p i) (q i), fun M π own σ H ρ R Q x hf hq => ?_⟩
  refine g M π own σ H ρ _ _ x hf fun c H1 k1 h1 => ?_
  cases c with
  | true => exact g' M π own σ H1 ρ R Q (x.keep k1) h1 fun b H2 k2 => hq b H2 (k1.trans k2)
  | false => exact hq false H1 k1 h1
theorem vw_or (ha : VT F O a tA) (hb : VW F O (.BoolOp .Or (b :: rest) pos) tB') : VW F O (.BoolOp .Or (a :: b :: rest) pos) (Fn.tOr tA tB') := by
  obtain ⟨t, p, g⟩ := ha
  obtain ⟨u, q, g'⟩ := hb
  refine ⟨_, fun i => pw_or (p i) (q i), fun M π own σ H ρ R Q x hf hq => ?_⟩
  refine g M π own σ H ρ _ _ x hf fun c H1 k1 h1 => ?_
  cases c with
  | false => exact g' M π own σ H1 ρ R Q (x.keep k1) h1 fun b H2 k2 => hq b H2 (k1.trans k2)
  | true => exact hq true H1 k1 h1
theorem vt_not (ha : VT F O a tA) : VT F O (.UnaryOp .Not a pos) (Fn.tNot tA) := by
  obtain ⟨t, p, g⟩ := ha
  refine ⟨_, fun i => pt_not (p i), fun M π own σ H ρ R Q x hf hq => ?_⟩
  exact g M π own σ H ρ _ _ x hf fun c H1 k1 h1 => hq (!c) H1 k1 h1
/-! as values: each part a bool -/
theorem ve_one {op} (h : VE F O a f) : VE F O (.BoolOp op [a] pos) f := by
  obtain ⟨t, p, g⟩ := h
  exact ⟨_, fun i => pe_one (p i), g⟩
/-- and, or, not as values of bools -/
def eAnd (a b : FE) : FE := fun ρ R => a ρ fun x => match x with
  | .bl c => if c = true then b ρ R else R (.bl false)
  | _ => False
def eOr (a b : FE) : FE := fun ρ R => a ρ fun x => match x with
  | .bl c => if c = true then R (.bl true) else b ρ R
  | _ => False
def eNot (a : FE) : FE := fun ρ R => a ρ fun x => match x with
  | .bl c => R (.bl (!c))
  | _ => False
theorem ve_and (ha : VE F O a fa) (hb : VE F O (.BoolOp .And (b :: rest) pos) fb) : VE F O (.BoolOp .And (a :: b :: rest) pos) (eAnd fa fb) := by
  obtain ⟨t, p, g⟩ := ha
  obtain ⟨u, q, g'⟩ := hb
  refine ⟨_, fun i => pe_and (p i) (q i), fun M π own σ H ρ R Q x hf hq => ?_⟩
  refine g M π own σ H ρ _ _ x hf fun d v H1 k1 r1 h1 => ?_
  cases d with
  | bl c =>
    refine ⟨c, r1, ?_⟩
    cases c with
    | true => exact g' M π own σ H1 ρ R Q (x.keep k1) h1 fun b v H2 k2 => hq b v H2 (k1.trans k2)
    | false => exact hq (.bl false) _ H1 k1 rfl h1
  | _ => exact h1.elim
theorem ve_or (ha : VE F O a fa) (hb : VE F O (.BoolOp .Or (b :: rest) pos) fb) : VE F O (.BoolOp .Or (a :: b :: rest) pos) (eOr fa fb) := by
  obtain ⟨t, p, g⟩ := ha
  obtain ⟨u, q, g'⟩ := hb
  refine ⟨_, fun i => pe_or (p i) (q i), fun M π own σ H ρ R Q x hf hq => ?_⟩
  refine g M π own σ H ρ _ _ x hf fun d v H1 k1 r1 h1 => ?_
  cases d with
  | bl c =>
    refine ⟨c, r1, ?_⟩
    cases c with
    | false => exact g' M π own σ H1 ρ R Q (x.keep k1) h1 fun b v H2 k2 => hq b v H2 (k1.trans k2)
    | true => exact hq (.bl true) _ H1 k1 rfl h1
  | _ => exact h1.elim
theorem ve_not (ha : VE F O a fa) : VE F O (.UnaryOp .Not a pos) (eNot fa) := by
  obtain ⟨t, p, g⟩ := ha
  refine ⟨_, fun i => pe_not (p i), fun M π own σ H ρ R Q x hf hq => ?_⟩
  refine g M π own σ H ρ _ _ x hf fun d v H1 k1 r1 h1 => ?_
  cases d with
  | bl c => exact ⟨c, r1, hq (.bl (!c)) _ H1 k1 rfl h1⟩
  | _ => exact h1.elim
theorem ve_if {c : Expr} (hc : VT F O c tA) (ha : VE F O a fa) (hb : VE F O b fb) : VE F O (.IfExp c a b pos) (eIf tA fa fb) := by
  obtain ⟨t, p, g⟩ := hc
  obtain ⟨ta, pa, ga⟩ := ha
  obtain ⟨tb, pb, gb⟩ := hb
  refine ⟨_, fun i => pe_ifExp (p i) (pa i) (pb i), fun M π own σ H ρ R Q x hf hq => ?_⟩
  refine g M π own σ H ρ _ _ x hf fun c H1 k1 h1 => ?_
  cases c with
  | true => exact ga M π own σ H1 ρ R Q (x.keep k1) h1 fun b v H2 k2 => hq b v H2 (k1.trans k2)
  | false => exact gb M π own σ H1 ρ R Q (x.keep k1) h1 fun b v H2 k2 => hq b v H2 (k1.trans k2)
/-! ### argument lists -/
theorem va_nil : VA F O [] aNil := ⟨_, fun _ => pa_nil, fun M π own σ H ρ R Q x hf hq => hq [] [] H x.ctx.keepRefl rfl hf⟩
theorem va_cons {fr : FA} (ha : VE F O e f) (hr : VA F O es fr) (hs : ∀ i, starEach (e :: es) (F.X i).env = (false, eval e (F.X i).env) :: starEach es (F.X i).env := by intro _; rfl) : VA F O (e :: es) (aCons f fr) := by
  obtain ⟨ta, pa, ga⟩ := ha
  obtain ⟨tr, pr, gr⟩ := hr
  refine ⟨_, fun i => pa_cons (pa i) (pr i) (hs i), fun M π own σ H ρ R Q x hf hq => ?_⟩
  refine ga M π own σ H ρ _ _ x hf fun d v H1 k1 r1 h1 => ?_
  have x1 := x.keep k1
  exact gr M π own σ H1 ρ _ _ x1 h1 fun l xs H2 k2 r2 h2 => hq (d :: l) (v :: xs) H2 (k1.trans k2) ⟨v, xs, rfl, r1.keep x1.ctx k2, r2⟩ h2
theorem vra_nil : VRA F O [] aNil := ⟨_, fun _ => pa_nil, fun M π own σ H ρ R Q x hf hq => hq [] [] H x.ctx.keepRefl rfl hf⟩
theorem vra_cons {fr : FA} (ha : VR F O e f) (hr : VRA F O es fr) (hs : ∀ i, starEach (e :: es) (F.X i).env = (false, eval e (F.X i).env) :: starEach es (F.X i).env := by intro _; rfl) : VRA F O (e :: es) (aCons f fr) := by
  obtain ⟨ta, pa, ga⟩ := ha
  obtain ⟨tr, pr, gr⟩ := hr
  refine ⟨_, fun i => pa_cons (pa i) (pr i) (hs i), fun M π own σ H ρ R Q x hf hq => ?_⟩
  refine ga M π own σ H ρ _ _ x hf fun d v H1 k1 r1 h1 => ?_
  have x1 := x.keep k1
  exact gr M π own σ H1 ρ _ _ x1 h1 fun l xs H2 k2 r2 h2 => hq (d :: l) (v :: xs) H2 (k1.trans k2) ⟨v, xs, rfl, r1.keep x1.ctx k2, r2⟩ h2
theorem ve_tup {x1} {fl : FA} (h : VA F O es fl) : VE F O (.Tuple es x1 pos) (Fn.eTup fl) := by
  obtain ⟨t, p, g⟩ := h
  refine ⟨_, fun i => pe_tupF (p i), fun M π own σ H ρ R Q x hf hq => ?_⟩
  refine g M π own σ H ρ _ _ x hf fun l xs H1 k1 r1 h1 => ?_
  refine ⟨by rw [r1.length, sizeLine_eq]; exact h1.1, fun p ob np nd => hq _ _ _ (k1.trans ((x.keep k1).ctx.keepNew np)) (Rep.newT r1 np nd (x.keep k1).ctx.alloc) h1.2⟩
theorem ve_lst {fl : FA} (h : VA F O es fl) : VE F O (.List es pos) (Fn.eLst fl) := by
  obtain ⟨t, p, g⟩ := h
  refine ⟨_, fun i => pe_lst (p i), fun M π own σ H ρ R Q x hf hq => ?_⟩
  refine g M π own σ H ρ _ _ x hf fun l xs H1 k1 r1 h1 => ?_
  refine ⟨by rw [r1.length, sizeLine_eq]; exact h1.1, fun p np => hq _ _ _ (k1.trans ((x.keep k1).ctx.keepNew np)) (Rep.newL r1 np (x.keep k1).ctx.alloc) h1.2⟩
/-- a new list is new -/
theorem vf_lst {fl : FA} (h : VA F O es fl) : VF F O (.List es pos) (Fn.eLst fl) := by
  obtain ⟨t, p, g⟩ := h
  refine ⟨_, fun i => pe_lst (p i), fun M π own σ H ρ R Q x hf hq => ?_⟩
  refine g M π own σ H ρ _ _ x hf fun l xs H1 k1 r1 h1 => ?_
  refine ⟨by rw [r1.length, sizeLine_eq]; exact h1.1, fun p np => hq (.lst l) _ _ (k1.trans ((x.keep k1).ctx.keepNew np)) (x.ctx.noneOf k1 np) ⟨xs, upd_same, ?_⟩ h1.2⟩
  exact RepL.hold (hold_upd np) (fun a z => z.elim .inl fun e => .inr (e ▸ np)) l xs r1
end
end Fn
end P_FV
section P_FO
set_option maxHeartbeats 4000000
/-! Operators, subscripts, slices, built-in functions over data. -/
namespace Fn
open PySem PySem.Spec PyProof.Rows L2
section
variable {X : Cx} {F : Fam} {O : Nat → Bool} {e a b : Expr} {es : List Expr} {f fa fb : FE} {pos : Pos}
theorem RepO.tup {K : PySem.W.Frag} {N : Addr → Prop} {π : Pi} {H : Hp} {l : List D} {v : V} (h : RepO K N π H (.tup l) v) : ∃ a xs, v = .ref a ∧ SqT K H a xs ∧ RepL K N π H l xs := Rep.sqT h
theorem RepO.repT {K : PySem.W.Frag} {N : Addr → Prop} {π : Pi} {H : Hp} {l : List D} {v : V} (h : RepO K N π H (.tup l) v) : Rep K N π H (.tup l) v := h
theorem RepO.lst {K : PySem.W.Frag} {N : Addr → Prop} {π : Pi} {H : Hp} {l : List D} {v : V} (h : RepO K N π H (.lst l) v) : ∃ a xs, v = .ref a ∧ H a = some (.lst xs) ∧ RepL K N π H l xs := by
  obtain ⟨a, xs, e, _, q, r⟩ := h
  exact ⟨a, xs, e, q, r⟩
theorem repL_len {K : PySem.W.Frag} {N : Addr → Prop} {π : Pi} {H : Hp} {l : List D} {xs : List V} (h : RepL K N π H l xs) : xs.length = l.length := h.length
theorem repL_nil {K : PySem.W.Frag} {N : Addr → Prop} {π : Pi} {H : Hp} {l : List D} {xs : List V} (h : RepL K N π H l xs) : xs = [] ↔ l = [] := by
  have := h.length
  constructor
  · intro e; subst e; exact List.length_eq_zero_iff.mp this.symm
  · intro e; subst e; exact List.length_eq_zero_iff.mp this
theorem od_add : OpD F (binaryOp .Add) bAdd := by
  refine ⟨_, fun i => (op_add.or op_add_str).or ((by rw [← F.hK i]; exact op_catF : OpR (F.X i) (binaryOp .Add) (rCatF F.K)).or op_cat), fun N π H x y v u R Q c rx ry h hq => ?_⟩
  cases x with
  | int i => cases y with
    | int j => exact .inl (.inl ⟨i, j, rx, ry, hq (.int (i + j)) _ H c.keepRefl rfl h⟩)
    | _ => exact h.elim
  | str i => cases y with
    | str j => exact .inl (.inr ⟨i, j, rx, ry, by rw [sizeLine_eq]; exact h.1, hq (.str (i ++ j)) _ H c.keepRefl rfl h.2⟩)
    | _ => exact h.elim
  | tup l => cases y with
    | tup m =>
      have rx' := rx.repT
      have ry' := ry.repT
      obtain ⟨a, xs, e1, s1, r1⟩ := rx.tup
      obtain ⟨b, ys, e2, s2, r2⟩ := ry.tup
      refine .inr (.inl ⟨a, b, xs, ys, e1, e2, s1, s2, by rw [r1.length, r2.length, sizeLine_eq]; exact h.1, fun z => ?_, fun _ z => ?_, fun _ _ p ob np nd => ?_⟩)
      · have : l = [] := (repL_nil r1).mp z
        subst this
        rw [← e2]
        exact hq (.tup m) _ H c.keepRefl ry' h.2
      · have : m = [] := (repL_nil r2).mp z
        subst this
        rw [← e1]
        exact hq (.tup l) _ H c.keepRefl rx' (by have := h.2; rwa [List.append_nil] at this)
      · exact hq (.tup (l ++ m)) _ _ (c.keepNew np) (Rep.newT (r1.append r2) np nd c.alloc) h.2
    | _ => exact h.elim
  | lst l => cases y with
    | lst m =>
      obtain ⟨a, xs, e1, s1, r1⟩ := rx.lst
      obtain ⟨b, ys, e2, s2, r2⟩ := ry.lst
      exact .inr (.inr ⟨a, b, xs, ys, e1, e2, s1, s2, by rw [r1.length, r2.length, sizeLine_eq]; exact h.1, fun p np => hq (.lst (l ++ m)) _ _ (c.keepNew np) (Rep.newL (r1.append r2) np c.alloc) h.2⟩)
    | _ => exact h.elim
  | _ => exact h.elim
theorem od_sub : OpD F (binaryOp .Sub) bSub := by
  refine ⟨_, fun _ => op_sub, fun N π H x y v u R Q c rx ry h hq => ?_⟩
  cases x with
  | int i => cases y with
    | int j => exact ⟨i, j, rx, ry, hq (.int (i - j)) _ H c.keepRefl rfl h⟩
    | _ => exact h.elim
  | _ => exact h.elim
/-- the products that are served: of ints -/
def bMulI : G2 := fun x y R => match x, y with
  | .int i, .int j => ((-(2 ^ 64) < i ∧ i < 2 ^ 64) ∨ (-(2 ^ 64) < j ∧ j < 2 ^ 64)) ∧ R (.int (i * j))
  | _, _ => False
theorem od_mul : OpD F (binaryOp .Mult) bMulI := by
  refine ⟨_, fun _ => op_mul, fun N π H x y v u R Q c rx ry h hq => ?_⟩
  cases x with
  | int i => cases y with
    | int j => exact ⟨i, j, rx, ry, h.1, hq (.int (i * j)) _ H c.keepRefl rfl h.2⟩
    | _ => exact h.elim
  | _ => exact h.elim
theorem od_mod : OpD F (binaryOp .Mod) bMod := by
  refine ⟨_, fun _ => L2.op_mod, fun N π H x y v u R Q c rx ry h hq => ?_⟩
  cases x with
  | int i => cases y with
    | int j => exact ⟨i, j, rx, ry, h.1, hq (.int (i % j)) _ H c.keepRefl rfl h.2⟩
    | _ => exact h.elim
  | _ => exact h.elim
theorem od_pow : OpD F (binaryOp .Pow) bPow := by
  refine ⟨_, fun _ => L2.op_pow, fun N π H x y v u R Q c rx ry h hq => ?_⟩
  cases x with
  | int i => cases y with
    | int j => exact ⟨i, j, rx, ry, h.1, hq (.int (i ^ j.toNat)) _ H c.keepRefl rfl h.2⟩
    | _ => exact h.elim
  | _ => exact h.elim
theorem ud_neg : UnD F (unaryOp .USub) uNeg := by
  refine ⟨_, fun _ => un_neg, fun N π H x v R Q c rx h hq => ?_⟩
  cases x with
  | int i => exact ⟨i, rx, hq (.int (-i)) _ H c.keepRefl rfl h⟩
  | _ => exact h.elim
/-! ### == and in -/
mutual
theorem rep_dp {K : PySem.W.Frag} {N : Addr → Prop} {π : Pi} {H : Hp} : ∀ (d : D) (v : V), d.dat = true → Rep K N π H d v → Dp K H v d.py
  | .non, _, _, h => by cases h; exact .non
  | .bl b, _, _, h => by cases h; exact .bl b
  | .int i, _, _, h => by cases h; exact .int i
  | .str x, _, _, h => by cases h; exact .str x
  | .tup l, _, hd, h => by
    obtain ⟨a, xs, e, s, r⟩ := Rep.sqT h
    subst e
    exact .tup s (repL_dp l xs (by simpa [D.dat] using hd) r)
  | .lst l, _, hd, ⟨a, xs, e, s, r⟩ => by
    subst e
    exact .lst (SqL.of s.2) (repL_dp l xs (by simpa [D.dat] using hd) r)
  | .dct _, _, hd, _ => by simp [D.dat] at hd
  | .clo _ _, _, hd, _ => by simp [D.dat] at hd
  | .pool, _, hd, _ => by simp [D.dat] at hd
theorem repL_dp {K : PySem.W.Frag} {N : Addr → Prop} {π : Pi} {H : Hp} : ∀ (l : List D) (xs : List V), datL l = true → RepL K N π H l xs → DpAll K H xs (pyL l)
  | [], _, _, h => by cases h; exact .nil
  | d :: r, _, hd, ⟨v, vs, e, h1, h2⟩ => by
    subst e
    have hd' : d.dat = true ∧ datL r = true := by simpa [datL] using hd
    exact .cons (rep_dp d v hd'.1 h1) (repL_dp r vs hd'.2 h2)
end
theorem repO_dp {K : PySem.W.Frag} {N : Addr → Prop} {π : Pi} {H : Hp} {d : D} {v : V} (hd : d.dat = true) (h : RepO K N π H d v) : Dp K H v d.py := by
  cases d with
  | lst l =>
    obtain ⟨a, xs, e, s, r⟩ := h.lst
    subst e
    exact .lst (SqL.of s) (repL_dp l xs (by simpa [D.dat] using hd) r)
  | dct l => simp [D.dat] at hd
  | _ => exact rep_dp (N := N) (π := π) _ v hd h
mutual
theorem py_plain : ∀ d : D, d.py.plain = true
  | .non => rfl
  | .bl _ => rfl
  | .int _ => rfl
  | .str _ => rfl
  | .tup l => by rw [D.py, PyData.plain]; exact pyL_plain l
  | .lst l => by rw [D.py, PyData.plain]; exact pyL_plain l
  | .dct _ => rfl
  | .clo _ _ => rfl
  | .pool => rfl
theorem pyL_plain : ∀ l : List D, PyData.plainAll (pyL l) = true
  | [] => rfl
  | d :: r => by rw [pyL, PyData.plainAll, py_plain d, pyL_plain r]; rfl
end
mutual
theorem py_depth : ∀ d : D, d.py.depth ≤ d.dep
  | .non => by simp [D.py, D.dep, PyData.depth]
  | .bl _ => by simp [D.py, D.dep, PyData.depth]
  | .int _ => by simp [D.py, D.dep, PyData.depth]
  | .str _ => by simp [D.py, D.dep, PyData.depth]
  | .tup l => by
    have := pyL_depth l
    simp only [D.py, D.dep, PyData.depth]
    omega
  | .lst l => by
    have := pyL_depth l
    simp only [D.py, D.dep, PyData.depth]
    omega
  | .dct _ => by simp [D.py, D.dep, PyData.depth]
  | .clo _ _ => by simp [D.py, D.dep, PyData.depth]
  | .pool => by simp [D.py, D.dep, PyData.depth]
theorem pyL_depth : ∀ l : List D, PyData.depthAll (pyL l) ≤ depL l
  | [] => by simp [pyL, depL, PyData.depthAll]
  | d :: r => by
    have h1 := py_depth d
    have h2 := pyL_depth r
    simp only [pyL, depL, PyData.depthAll]
    omega
end

theorem od_eq : OpD F (compareOp .Eq) cEq := by
  refine ⟨fun x y H Q => ∃ d e, Dp F.K H x d ∧ Dp F.K H y e ∧ d.plain = true ∧ e.plain = true ∧ min d.depth e.depth ≤ 64 ∧ Q (.bl (PyData.eqv d e)) H, ?_, fun N π H x y v u R Q c rx ry h hq => ?_⟩
  · intro i pins s σ H x y v u Q I rx ry ⟨d, e, hd, he, pd, pe, hm, q⟩
    have hu := F.units i
    rw [← F.hK i] at hd he
    obtain ⟨as, r1⟩ := Dp.reads I d x v hd rx
    obtain ⟨bs, r2⟩ := Dp.reads I e y u he ry
    exact SeqAt.eq_plain r1 r2 pd pe (by omega) ⟨.bl _, H, I, rfl, q⟩
  · obtain ⟨⟨d1, d2, d3⟩, h⟩ := h
    have l1 := py_depth x
    have l2 := py_depth y
    exact ⟨_, _, repO_dp d1 rx, repO_dp d2 ry, py_plain x, py_plain y, by omega, hq (.bl _) _ H c.keepRefl rfl h⟩
theorem od_ne : OpD F (compareOp .NotEq) cNe := by
  refine ⟨fun x y H Q => ∃ d e, Dp F.K H x d ∧ Dp F.K H y e ∧ d.plain = true ∧ e.plain = true ∧ min d.depth e.depth ≤ 64 ∧ Q (.bl (!PyData.eqv d e)) H, ?_, fun N π H x y v u R Q c rx ry h hq => ?_⟩
  · intro i pins s σ H x y v u Q I rx ry ⟨d, e, hd, he, pd, pe, hm, q⟩
    have hu := F.units i
    rw [← F.hK i] at hd he
    obtain ⟨as, r1⟩ := Dp.reads I d x v hd rx
    obtain ⟨bs, r2⟩ := Dp.reads I e y u he ry
    exact SeqAt.ne_plain r1 r2 pd pe (by omega) ⟨.bl _, H, I, rfl, q⟩
  · obtain ⟨⟨d1, d2, d3⟩, h⟩ := h
    have l1 := py_depth x
    have l2 := py_depth y
    exact ⟨_, _, repO_dp d1 rx, repO_dp d2 ry, py_plain x, py_plain y, by omega, hq (.bl _) _ H c.keepRefl rfl h⟩
theorem any_eqv (x : D) : ∀ l : List D, ((pyL l).any fun y => PyData.eqv y x.py) = l.any fun z => eqb z x
  | [] => rfl
  | d :: r => by rw [pyL, List.any_cons, List.any_cons, any_eqv x r]; rfl
theorem repK_look {K : PySem.W.Frag} {N : Addr → Prop} {π : Pi} {H : Hp} (k : L2.Key) : ∀ (l : List (L2.Key × D)) (kvs : List (L2.Key × V)), RepK K N π H l kvs →
    (lookK k l = none → valV kvs k = none) ∧ ∀ d, lookK k l = some d → ∃ v, valV kvs k = some v ∧ Rep K N π H d v
  | [], _, h => by cases h; exact ⟨fun _ => rfl, fun d e => by simp [lookK] at e⟩
  | (j, d) :: r, _, ⟨q, qs, e, ⟨h1, h2⟩, h3⟩ => by
    subst e
    obtain ⟨i1, i2⟩ := repK_look k r qs h3
    by_cases hj : j = k
    · refine ⟨fun e => ?_, fun d' e => ?_⟩
      · rw [lookK, if_pos hj] at e; cases e
      · rw [lookK, if_pos hj] at e
        cases e
        exact ⟨q.2, valV_pos (h1.trans hj), h2⟩
    · refine ⟨fun e => ?_, fun d' e => ?_⟩
      · rw [lookK, if_neg hj] at e
        rw [valV_neg (fun z => hj (h1.symm.trans z))]
        exact i1 e
      · rw [lookK, if_neg hj] at e
        rw [valV_neg (fun z => hj (h1.symm.trans z))]
        exact i2 d' e
theorem key_v {K : PySem.W.Frag} {N : Addr → Prop} {π : Pi} {H : Hp} {x : D} {v : V} {k : L2.Key} (e : x.key = some k) (h : RepO K N π H x v) : v = kV k := by
  cases x with
  | int i => cases e; exact h
  | str i => cases e; exact h
  | _ => cases e
/-- in a dict: the library's rule, as a rule of values -/
def rInK (neg : Bool) : R2 := fun x y H Q => ∃ d kvs k, y = .ref d ∧ x = kV k ∧ Rd H d (.dK kvs) ∧ Q (.bl (if neg then !(valV kvs k).isSome else (valV kvs k).isSome)) H
/-- in a list, a tuple, a text, a dict -/
def rInP (K : PySem.W.Frag) (neg : Bool) : R2 := fun x y H Q => ∃ d ds, Dp K H x d ∧ (Dp K H y (.list ds) ∨ Dp K H y (.tuple ds)) ∧ d.plain = true ∧ PyData.plainAll ds = true ∧ d.depth ≤ 64 ∧ Q (.bl (if neg then !(ds.any fun z => PyData.eqv z d) else ds.any fun z => PyData.eqv z d)) H
theorem op_inP (hu : X.A.units + 65 < cLine) : OpR X (compareOp .In) (rInP X.K false) := by
  intro pins s σ H x y v u Q I rx ry ⟨d, ds, hd, hs, pd, ps, hm, q⟩
  obtain ⟨as, r1⟩ := Dp.reads I d x v hd rx
  rcases hs with hs | hs
  · obtain ⟨bs, r2⟩ := Dp.reads I _ y u hs ry
    exact SeqAt.in_list_data r2 r1 ps pd (by omega) ⟨.bl _, H, I, rfl, q⟩
  · obtain ⟨bs, r2⟩ := Dp.reads I _ y u hs ry
    exact SeqAt.in_tuple_data r2 r1 ps pd (by omega) ⟨.bl _, H, I, rfl, q⟩
theorem op_notInP (hu : X.A.units + 65 < cLine) : OpR X (compareOp .NotIn) (rInP X.K true) := by
  intro pins s σ H x y v u Q I rx ry ⟨d, ds, hd, hs, pd, ps, hm, q⟩
  obtain ⟨as, r1⟩ := Dp.reads I d x v hd rx
  rcases hs with hs | hs
  · obtain ⟨bs, r2⟩ := Dp.reads I _ y u hs ry
    exact SeqAt.notIn_list_data r2 r1 ps pd (by omega) ⟨.bl _, H, I, rfl, q⟩
  · obtain ⟨bs, r2⟩ := Dp.reads I _ y u hs ry
    exact SeqAt.notIn_tuple_data r2 r1 ps pd (by omega) ⟨.bl _, H, I, rfl, q⟩
theorem rInP_of {K : PySem.W.Frag} {N : Addr → Prop} {π : Pi} {H : Hp} {neg : Bool} {x y : D} {v u : V} {Q : VK} {R : Bool → Prop} (rx : RepO K N π H x v) (ry : RepO K N π H y u) (hy : (∃ l, y = .tup l) ∨ ∃ l, y = .lst l) (h : isIn x y R)
    (hq : ∀ b, R b → Q (.bl (if neg then !b else b)) H) : rInP K neg v u H Q := by
  have dx := py_depth x
  rcases hy with ⟨l, rfl⟩ | ⟨l, rfl⟩
  · obtain ⟨⟨h1, h2, h3⟩, h4⟩ := h
    refine ⟨x.py, pyL l, repO_dp h1 rx, .inr (repO_dp (d := .tup l) (by simpa [D.dat] using h3) ry), py_plain x, pyL_plain l, by omega, ?_⟩
    rw [any_eqv]
    exact hq _ h4
  · obtain ⟨⟨h1, h2, h3⟩, h4⟩ := h
    refine ⟨x.py, pyL l, repO_dp h1 rx, .inl (repO_dp (d := .lst l) (by simpa [D.dat] using h3) ry), py_plain x, pyL_plain l, by omega, ?_⟩
    rw [any_eqv]
    exact hq _ h4

theorem op_inK (hu : X.A.units + 65 < cLine) : OpR X (compareOp .In) (rInK false) := by
  intro pins s σ H x y v u Q I rx ry ⟨d, kvs, k, ey, ex, hd, q⟩
  subst ey ex
  cases ry
  exact d_in (o := valV kvs k) (by omega) I (.inl ⟨kvs, k, hd, rfl, rfl⟩) rx fun s' I' => ⟨.bl _, H, I', rfl, q⟩
theorem op_notInK (hu : X.A.units + 65 < cLine) : OpR X (compareOp .NotIn) (rInK true) := by
  intro pins s σ H x y v u Q I rx ry ⟨d, kvs, k, ey, ex, hd, q⟩
  subst ey ex
  cases ry
  exact d_notIn (o := valV kvs k) (by omega) I (.inl ⟨kvs, k, hd, rfl, rfl⟩) rx fun s' I' => ⟨.bl _, H, I', rfl, q⟩
theorem isIn_any {K : PySem.W.Frag} {N : Addr → Prop} {π : Pi} {H : Hp} {neg : Bool} {x y : D} {v u : V} {Q : VK} {R : Bool → Prop} (rx : RepO K N π H x v) (ry : RepO K N π H y u) (h : isIn x y R)
    (hq : ∀ b, R b → Q (.bl (if neg then !b else b)) H) : (rInP K neg v u H Q ∨ rInK neg v u H Q) ∨ ∃ (c : Nat) (z : Str), v = .str ⟨#[c]⟩ ∧ u = .str z ∧ Q (.bl (if neg then !decide (c ∈ z.cps.toList) else decide (c ∈ z.cps.toList))) H := by
  cases y with
  | tup l => exact .inl (.inl (rInP_of rx ry (.inl ⟨l, rfl⟩) h hq))
  | lst l => exact .inl (.inl (rInP_of rx ry (.inr ⟨l, rfl⟩) h hq))
  | dct l =>
    obtain ⟨a, kvs, e, _, hd, r⟩ := ry
    have h : match x.key with
      | some k => R (lookK k l).isSome
      | none => False := h
    cases hk : x.key with
    | none => rw [hk] at h; exact h.elim
    | some k =>
      rw [hk] at h
      have ex := key_v hk rx
      obtain ⟨i1, i2⟩ := repK_look k l kvs r
      have es : (lookK k l).isSome = (valV kvs k).isSome := by
        cases q : lookK k l with
        | none => rw [i1 q]; rfl
        | some d => obtain ⟨v', e', _⟩ := i2 d q; rw [e']; rfl
      refine .inl (.inr ⟨a, kvs, k, e, ex, hd, ?_⟩)
      have h : R (lookK k l).isSome := h
      rw [es] at h
      exact hq _ h
  | str z =>
    cases x with
    | str c =>
      obtain ⟨n, e, h⟩ := h
      exact .inr ⟨n, z, by rw [← e]; exact rx, ry, hq _ h⟩
    | _ => exact h.elim
  | _ => exact h.elim
theorem od_in : OpD F (compareOp .In) cIn :=
  ⟨_, fun i => ((by rw [← F.hK i]; exact op_inP (F.units i) : OpR (F.X i) (compareOp .In) (rInP F.K false)).or (op_inK (F.units i))).or op_in_sign, fun N π H x y v u R Q c rx ry h hq => isIn_any (neg := false) rx ry h fun b hb => hq (.bl b) _ H c.keepRefl rfl hb⟩
theorem od_notIn : OpD F (compareOp .NotIn) cNotIn :=
  ⟨_, fun i => ((by rw [← F.hK i]; exact op_notInP (F.units i) : OpR (F.X i) (compareOp .NotIn) (rInP F.K true)).or (op_notInK (F.units i))).or op_notIn_sign, fun N π H x y v u R Q c rx ry h hq => isIn_any (neg := true) rx ry h fun b hb => hq (.bl (!b)) _ H c.keepRefl rfl hb⟩
theorem od_lt : OpD F (compareOp .Lt) cLt := by
  refine ⟨_, fun _ => op_lt.or op_lt_str, fun N π H x y v u R Q c rx ry h hq => ?_⟩
  cases x with
  | int i => cases y with
    | int j => exact .inl ⟨i, j, rx, ry, hq (.bl _) _ H c.keepRefl rfl h⟩
    | _ => exact h.elim
  | str i => cases y with
    | str j => exact .inr ⟨i, j, rx, ry, hq (.bl (ltS i j)) _ H c.keepRefl rfl h⟩
    | _ => exact h.elim
  | _ => exact h.elim
theorem od_gt : OpD F (compareOp .Gt) cGt := by
  refine ⟨_, fun _ => op_gt.or op_gt_str, fun N π H x y v u R Q c rx ry h hq => ?_⟩
  cases x with
  | int i => cases y with
    | int j => exact .inl ⟨i, j, rx, ry, hq (.bl _) _ H c.keepRefl rfl h⟩
    | _ => exact h.elim
  | str i => cases y with
    | str j => exact .inr ⟨i, j, rx, ry, hq (.bl (ltS j i)) _ H c.keepRefl rfl h⟩
    | _ => exact h.elim
  | _ => exact h.elim
theorem od_le : OpD F (compareOp .LtE) cLe := by
  refine ⟨_, fun _ => op_le.or op_le_str, fun N π H x y v u R Q c rx ry h hq => ?_⟩
  cases x with
  | int i => cases y with
    | int j => exact .inl ⟨i, j, rx, ry, hq (.bl _) _ H c.keepRefl rfl h⟩
    | _ => exact h.elim
  | str i => cases y with
    | str j => exact .inr ⟨i, j, rx, ry, hq (.bl (!ltS j i)) _ H c.keepRefl rfl h⟩
    | _ => exact h.elim
  | _ => exact h.elim
theorem od_ge : OpD F (compareOp .GtE) cGe := by
  refine ⟨_, fun _ => op_ge.or op_ge_str, fun N π H x y v u R Q c rx ry h hq => ?_⟩
  cases x with
  | int i => cases y with
    | int j => exact .inl ⟨i, j, rx, ry, hq (.bl _) _ H c.keepRefl rfl h⟩
    | _ => exact h.elim
  | str i => cases y with
    | str j => exact .inr ⟨i, j, rx, ry, hq (.bl (!ltS i j)) _ H c.keepRefl rfl h⟩
    | _ => exact h.elim
  | _ => exact h.elim
/-- is None -/
theorem isNon_v {K : PySem.W.Frag} {N : Addr → Prop} {π : Pi} {H : Hp} {x : D} {v : V} (h : RepO K N π H x v) : decide (v = .non) = x.isNon := by
  cases x with
  | non => cases h; rfl
  | bl b => cases h; rfl
  | int b => cases h; rfl
  | str b => cases h; rfl
  | tup l => obtain ⟨a, xs, e, _⟩ := h.tup; subst e; rfl
  | lst l => obtain ⟨a, xs, e, _⟩ := h.lst; subst e; rfl
  | dct l => obtain ⟨a, xs, e, _⟩ := h; subst e; rfl
  | clo _ _ => exact h.elim
  | pool => obtain ⟨p, _, e⟩ := h; subst e; rfl
/-- x is None, x is not None: the second side is None -/
def cIs : G2 := fun x y R => y.isNon = true ∧ R (.bl x.isNon)
def cIsNot : G2 := fun x y R => y.isNon = true ∧ R (.bl (!x.isNon))
theorem non_of {K : PySem.W.Frag} {N : Addr → Prop} {π : Pi} {H : Hp} {x : D} {v : V} (h : RepO K N π H x v) (e : x.isNon = true) : v = .non := by
  cases x with
  | non => exact h
  | _ => cases e
theorem od_is : OpD F (compareOp .Is) cIs := by
  refine ⟨_, fun _ => op_isN, fun N π H x y v u R Q c rx ry h hq => ⟨non_of ry h.1, ?_⟩⟩
  rw [isNon_v rx]
  exact hq (.bl _) _ H c.keepRefl rfl h.2
theorem od_isNot : OpD F (compareOp .IsNot) cIsNot := by
  refine ⟨_, fun _ => op_notN, fun N π H x y v u R Q c rx ry h hq => ⟨non_of ry h.1, ?_⟩⟩
  rw [isNon_v rx]
  exact hq (.bl _) _ H c.keepRefl rfl h.2
/-! ### subscripts -/
theorem ixN_eq (n : Nat) (i : Int) : L2.ixN n i = Fn.ixN n i := rfl
theorem atI_rep {K : PySem.W.Frag} {N : Addr → Prop} {π : Pi} {H : Hp} {l : List D} {xs : List V} {i : Int} {d : D} (r : RepL K N π H l xs) (h : Fn.atI l i = some d) : ∃ v, L2.atI xs i = some v ∧ Rep K N π H d v := by
  unfold Fn.atI at h
  cases q : Fn.ixN l.length i with
  | none => rw [q] at h; cases h
  | some j =>
    rw [q] at h
    obtain ⟨v, e, r'⟩ := r.get (show l[j]? = some d from h)
    refine ⟨v, ?_, r'⟩
    unfold L2.atI
    rw [r.length, show L2.ixN l.length i = some j from q]
    exact e
theorem ix_dict (hu : X.A.units + 65 < cLine) : IxR X (fun x y H Q => ∃ a v, x = .ref a ∧ DGet H a y (some v) ∧ Q v H) := by
  intro value slice pins s σ H x y v u Q I rx ry ⟨a, w, ex, g, q⟩ hs
  subst ex
  obtain rfl : v = Value.ref a := rx
  exact tail_any (dict_typeIs I g) PySem.F.slot_dict_getitem.lookup (d_getItem (by omega) I g ry fun w' s3 I3 rw' => ⟨w, H, I3, rw', q⟩) hs
theorem xd_ix : IxD F bIx := by
  refine ⟨_, fun i => (by rw [← F.hK i]; exact ix_seq : IxR (F.X i) (rIx F.K)).or (ix_dict (F.units i)), fun N π H x y v u R Q c rx ry h hq => ?_⟩
  cases x with
  | tup l => cases y with
    | int i =>
      obtain ⟨a, xs, e, s, r⟩ := rx.tup
      have h : match Fn.atI l i with
        | some d => R d
        | none => False := h
      cases q : Fn.atI l i with
      | none => rw [q] at h; exact h.elim
      | some d =>
        rw [q] at h
        obtain ⟨w, e2, r2⟩ := atI_rep r q
        exact .inl (.inr (.inl ⟨a, xs, i, w, e, ry, s, e2, hq d w H c.keepRefl r2 h⟩))
    | _ => exact h.elim
  | lst l => cases y with
    | int i =>
      obtain ⟨a, xs, e, s, r⟩ := rx.lst
      have h : match Fn.atI l i with
        | some d => R d
        | none => False := h
      cases q : Fn.atI l i with
      | none => rw [q] at h; exact h.elim
      | some d =>
        rw [q] at h
        obtain ⟨w, e2, r2⟩ := atI_rep r q
        exact .inl (.inl ⟨a, xs, i, w, e, ry, SqL.of s, e2, hq d w H c.keepRefl r2 h⟩)
    | _ => exact h.elim
  | str z => cases y with
    | int i =>
      obtain ⟨hz, h⟩ := h
      cases q : Fn.atI z.cps.toList i with
      | none => rw [q] at h; exact h.elim
      | some d =>
        rw [q] at h
        exact .inl (.inr (.inr ⟨z, i, d, rx, ry, by rw [sizeLine_eq]; exact hz, q, hq (.str ⟨#[d]⟩) _ H c.keepRefl rfl h⟩))
    | _ => exact h.elim
  | dct l =>
    obtain ⟨a, kvs, e, _, hd, r⟩ := rx
    have go : ∀ k : L2.Key, u = kV k → (match lookK k l with
      | some d => R d
      | none => False) → ∃ a' w, v = .ref a' ∧ DGet H a' u (some w) ∧ Q w H := fun k ek h => by
      cases q : lookK k l with
      | none => rw [q] at h; exact h.elim
      | some d =>
        rw [q] at h
        obtain ⟨w, e2, r2⟩ := (repK_look k l kvs r).2 d q
        exact ⟨a, w, e, .inl ⟨kvs, k, hd, ek, e2.symm⟩, hq d w H c.keepRefl r2 h⟩
    cases y with
    | int i => exact .inr (go (.inl i) ry h)
    | str i => exact .inr (go (.inr i) ry h)
    | _ => exact h.elim
  | _ => exact h.elim
theorem ve_ix {g : G2} (ho : IxD F g) (ha : VR F O a fa) (hb : VR F O b fb) (hs : PlainIx b := by intro _ _; rfl) : VE F O (.Subscript a b pos) (eBin g fa fb) := by
  obtain ⟨r, hr, gr⟩ := ho
  obtain ⟨ta, pa, ga⟩ := ha
  obtain ⟨tb, pb, gb⟩ := hb
  refine ⟨_, fun i => pe_ix (hr i) (pa i) (pb i) hs, fun M π own σ H ρ R Q x hf hq => ?_⟩
  refine ga M π own σ H ρ _ _ x hf fun d v H1 k1 r1 h1 => ?_
  have x1 := x.keep k1
  refine gb M π own σ H1 ρ _ _ x1 h1 fun d2 v2 H2 k2 r2 h2 => ?_
  exact gr _ π H2 d d2 v v2 _ _ (x1.keep k2).ctx (r1.keep x1.ctx k2) r2 h2 fun d3 v3 H3 k3 => hq d3 v3 H3 ((k1.trans k2).trans k3)
/-! ### slices -/
def VO (F : Fam) (O : Nat → Bool) (e : Option Expr) (f : FO) : Prop := ∃ t : TO, (∀ i, PO (F.X i) e t) ∧ ∀ M π (own : Own) (σ : L2.St) H ρ (R : Option Int → Prop) (Q : Option Int → Hp → Prop), EnvOk F.K M π O own σ H ρ → f ρ R → (∀ i H', Keep π H H' → R i → Q i H') → t σ H Q
theorem vo_none : VO F O none oNone := ⟨_, fun _ => po_none, fun M π own σ H ρ R Q x hf hq => hq _ H x.ctx.keepRefl hf⟩
theorem vo_some (ha : VR F O a fa) : VO F O (some a) (oSome fa) := by
  obtain ⟨t, p, g⟩ := ha
  refine ⟨_, fun i => po_some (p i), fun M π own σ H ρ R Q x hf hq => ?_⟩
  refine g M π own σ H ρ _ _ x hf fun d v H1 k1 r1 h1 => ?_
  cases d with
  | int i => exact ⟨i, r1, hq _ H1 k1 h1⟩
  | _ => exact h1.elim
theorem rep_cut {K : PySem.W.Frag} {N : Addr → Prop} {π : Pi} {H : Hp} {l : List D} {xs : List V} (r : RepL K N π H l xs) (lo hi : Option Int) : RepL K N π H (cut l lo hi) (cutV xs lo hi) := by
  unfold cut cutV
  rw [r.length]
  exact (r.drop _).take _
theorem cut_whole {α : Type} {l : List α} {lo hi : Option Int} (h : HT.sIx l.length 0 lo = 0 ∧ HT.sIx l.length l.length hi = l.length) : cut l lo hi = l := by
  unfold cut
  have h1 : Fn.sIx l.length 0 lo = 0 := h.1
  have h2 : Fn.sIx l.length l.length hi = l.length := h.2
  rw [h1, h2]
  simp
theorem ve_sl {p2 : Pos} {lo hi : Option Expr} {fl fh : FO} (ha : VR F O a fa) (hl : VO F O lo fl) (hh : VO F O hi fh) : VE F O (.Subscript a (.Slice lo hi none p2) pos) (eSl fa fl fh) := by
  obtain ⟨ta, pa, ga⟩ := ha
  obtain ⟨tl, pl, gl⟩ := hl
  obtain ⟨th, ph, gh⟩ := hh
  refine ⟨_, fun i => pe_slice (((by rw [← F.hK i]; exact sl_tupF : SlR (F.X i) (rSlF F.K)).or (by rw [← F.hK i]; exact sl_list : SlR (F.X i) (rSlL F.K))).or sl_str) (pa i) (pl i) (ph i), fun M π own σ H ρ R Q x hf hq => ?_⟩
  refine ga M π own σ H ρ _ _ x hf fun d v H1 k1 r1 h1 => ?_
  have x1 := x.keep k1
  refine gl M π own σ H1 ρ _ _ x1 h1 fun i H2 k2 h2 => ?_
  have x2 := x1.keep k2
  refine gh M π own σ H2 ρ _ _ x2 h2 fun j H3 k3 h3 => ?_
  have x3 := x2.keep k3
  have r3 := (r1.keep x1.ctx k2).keep x2.ctx k3
  have kk := (k1.trans k2).trans k3
  cases d with
  | tup l =>
    have rT := r3.repT
    obtain ⟨a, xs, e, s, r⟩ := r3.tup
    refine .inl (.inl ⟨a, xs, e, s, fun z => ?_, fun z p ob np nd => ?_⟩)
    · have z' := z
      rw [r.length] at z'
      have h3 : R (.tup (cut l i j)) := h3
      rw [cut_whole z'] at h3
      rw [← e]
      exact hq (.tup l) _ H3 kk rT h3
    · exact hq (.tup (cut l i j)) _ _ (kk.trans (x3.ctx.keepNew np)) (Rep.newT (rep_cut r i j) np nd x3.ctx.alloc) h3
  | lst l =>
    obtain ⟨a, xs, e, s, r⟩ := r3.lst
    exact .inl (.inr ⟨a, xs, e, SqL.of s, fun p np => hq (.lst (cut l i j)) _ _ (kk.trans (x3.ctx.keepNew np)) (Rep.newL (rep_cut r i j) np x3.ctx.alloc) h3⟩)
  | str z =>
    refine .inr ⟨z, r3, by rw [sizeLine_eq]; exact h3.1, hq (.str _) _ H3 kk ?_ h3.2⟩
    have e : z.cps.toList.length = z.length := by simp [Str.length]
    show V.str (cutS z i j) = _
    unfold cutS cut
    rw [e]
    rfl
  | _ => exact h3.elim
end
end Fn
end P_FO
section P_FW
set_option maxHeartbeats 4000000
/-! Calls over data: built-in functions, one's own defs. -/
namespace Fn
open PySem PySem.Spec PyProof.Rows L2
section
variable {X : Cx} {F : Fam} {O : Nat → Bool} {e a b : Expr} {es : List Expr} {f fa fb : FE} {pos p p2 : Pos}
theorem repOL1 {K : PySem.W.Frag} {N : Addr → Prop} {π : Pi} {H : Hp} {d : D} {xs : List V} (h : RepOL K N π H [d] xs) : ∃ v, xs = [v] ∧ RepO K N π H d v := by
  obtain ⟨v, vs, e, h1, h2⟩ := h
  cases h2
  exact ⟨v, e, h1⟩
/-- a built-in function called -/
theorem ve_callB {x : Str} {id : String} {g : GA} {fl : FA} (hc : CallD F (.builtin id) g) (hm : F.mg x = none) (ha : VRA F O (e :: es) fl) (hg : ∀ i, Gl (F.X i) x := by intro _; rfl) (hv : bootBuiltins x = some (.builtin id) := by decide +kernel) (hn : x ≠ "__name__" := by decide)
    (hdb : (x == ("__debug__" : Str)) = false := by decide)
    (he : ∀ i, starEach (e :: es) (F.X i).env = (false, eval e (F.X i).env) :: starEach es (F.X i).env := by intro _; rfl) (hpl : ∀ i, (backTo pos (starEach es (F.X i).env)).any (·.1) = false := by intro _; rfl) : VE F O (.Call (.Name x p) (e :: es) [] pos) (eCall g fl) := by
  obtain ⟨r, hr, gr⟩ := hc
  obtain ⟨t, pt, gt⟩ := ha
  refine ⟨_, fun i => pe_callB (hr i) (hg i) (by rw [F.hmg i]; exact hm) hv (pt i) hn hdb (he i) (hpl i), fun M π own σ H ρ R Q x hf hq => ?_⟩
  refine gt M π own σ H ρ _ _ x hf fun l xs H1 k1 r1 h1 => ?_
  exact gr _ π H1 l xs _ _ (x.keep k1).ctx r1 h1 fun d v H2 k2 => hq d v H2 (k1.trans k2)
theorem ve_callT {x : Str} {T : String} {g : GA} {fl : FA} (hc : CallD F (.type T) g) (hm : F.mg x = none) (ha : VRA F O (e :: es) fl) (hg : ∀ i, Gl (F.X i) x := by intro _; rfl) (hv : bootBuiltins x = some (.type T) := by decide +kernel) (hn : x ≠ "__name__" := by decide)
    (hdb : (x == ("__debug__" : Str)) = false := by decide)
    (he : ∀ i, starEach (e :: es) (F.X i).env = (false, eval e (F.X i).env) :: starEach es (F.X i).env := by intro _; rfl) (hpl : ∀ i, (backTo pos (starEach es (F.X i).env)).any (·.1) = false := by intro _; rfl) : VE F O (.Call (.Name x p) (e :: es) [] pos) (eCall g fl) := by
  obtain ⟨r, hr, gr⟩ := hc
  obtain ⟨t, pt, gt⟩ := ha
  refine ⟨_, fun i => pe_callTy (hr i) (hg i) (by rw [F.hmg i]; exact hm) hv (pt i) hn hdb (he i) (hpl i), fun M π own σ H ρ R Q x hf hq => ?_⟩
  refine gt M π own σ H ρ _ _ x hf fun l xs H1 k1 r1 h1 => ?_
  exact gr _ π H1 l xs _ _ (x.keep k1).ctx r1 h1 fun d v H2 k2 => hq d v H2 (k1.trans k2)
theorem repK_len {K : PySem.W.Frag} {N : Addr → Prop} {π : Pi} {H : Hp} : ∀ {l : List (L2.Key × D)} {xs : List (L2.Key × V)}, RepK K N π H l xs → xs.length = l.length
  | [], _, h => by cases h; rfl
  | _ :: _, _, ⟨_, _, e, _, h⟩ => by subst e; rw [List.length_cons, List.length_cons, repK_len h]
theorem call_lenR : CallR X (.builtin "len") (fun xs H Q => ∃ a kvs, xs = [V.ref a] ∧ Rd H a (.dK kvs) ∧ Q (.int kvs.length) H) := by
  intro pins s σ H xs us Q I r h
  obtain ⟨a, kvs, rfl, ha, q⟩ := h
  obtain ⟨u, rfl, ru⟩ := vals1 r
  cases ru
  exact d_len I ha fun t s' I' => ⟨.int kvs.length, H, I', ⟨t, rfl⟩, q⟩
theorem cd_len : CallD F (.builtin "len") fLen := by
  refine ⟨_, fun i => (by rw [← F.hK i]; exact call_len : CallR (F.X i) (.builtin "len") (fun xs H Q => ∃ x n, xs = [x] ∧ LenV F.K x H n ∧ Q (.int n) H)).or call_lenR, fun N π H l xs R Q c r h hq => ?_⟩
  match l, h with
  | [.tup l], h =>
    obtain ⟨v, e, r⟩ := repOL1 r
    obtain ⟨a, ys, e2, s, r2⟩ := r.tup
    subst e e2
    exact .inl ⟨_, ys.length, rfl, .inr ⟨ys, s, rfl⟩, hq (.int ys.length) _ H c.keepRefl rfl (by rw [r2.length]; exact h)⟩
  | [.lst l], h =>
    obtain ⟨v, e, r⟩ := repOL1 r
    obtain ⟨a, ys, e2, s, r2⟩ := r.lst
    subst e e2
    exact .inl ⟨_, ys.length, rfl, .inl ⟨ys, SqL.of s, rfl⟩, hq (.int ys.length) _ H c.keepRefl rfl (by rw [r2.length]; exact h)⟩
  | [.str z], h =>
    obtain ⟨v, e, r⟩ := repOL1 r
    cases r
    subst e
    exact .inl ⟨_, z.length, rfl, ⟨by rw [sizeLine_eq]; exact h.1, rfl⟩, hq (.int z.length) _ H c.keepRefl rfl h.2⟩
  | [.dct l], h =>
    obtain ⟨v, e, r⟩ := repOL1 r
    obtain ⟨a, kvs, e2, _, s, r2⟩ := r
    subst e e2
    exact .inr ⟨a, kvs, rfl, s, hq (.int kvs.length) _ H c.keepRefl rfl (by rw [repK_len r2]; exact h)⟩
theorem cd_int : CallD F (.type "int") fInt := by
  refine ⟨_, fun _ => call_int1, fun N π H l xs R Q c r h hq => ?_⟩
  match l, h with
  | [.int i], h =>
    obtain ⟨v, e, r⟩ := repOL1 r
    cases r
    subst e
    exact .inl ⟨i, rfl, hq (.int i) _ H c.keepRefl rfl h⟩
theorem cd_tuple : CallD F (.type "tuple") fTuple := by
  refine ⟨fun xs H Q => ∃ p ys, xs = [.ref p] ∧ ((SqL F.K H p ys ∧ ∀ l o, H l = none → o.dict = none → Q (.ref l) (upd H l (.frz o (.tup ys)))) ∨ (SqT F.K H p ys ∧ Q (.ref p) H)), fun i => by rw [← F.hK i]; exact call_tupleF, fun N π H l xs R Q c r h hq => ?_⟩
  match l, h with
  | [.tup l], h =>
    obtain ⟨v, e, r⟩ := repOL1 r
    have rT := r.repT
    obtain ⟨a, ys, e2, s, r2⟩ := r.tup
    subst e
    rw [e2] at rT
    exact ⟨a, ys, by rw [e2], .inr ⟨s, hq (.tup l) _ H c.keepRefl rT h⟩⟩
  | [.lst l], h =>
    obtain ⟨v, e, r⟩ := repOL1 r
    obtain ⟨a, ys, e2, s, r2⟩ := r.lst
    subst e e2
    exact ⟨a, ys, rfl, .inl ⟨SqL.of s, fun q ob nq nd => hq (.tup l) _ _ (c.keepNew nq) (Rep.newT r2 nq nd c.alloc) h⟩⟩
theorem cd_list : CallD F (.type "list") fList := by
  refine ⟨fun xs H Q => ∃ p ys, xs = [.ref p] ∧ (SqL F.K H p ys ∨ SqT F.K H p ys) ∧ ∀ l, H l = none → Q (.ref l) (upd H l (.lst ys)), fun i => by rw [← F.hK i]; exact call_list_of, fun N π H l xs R Q c r h hq => ?_⟩
  match l, h with
  | [.tup l], h =>
    obtain ⟨v, e, r⟩ := repOL1 r
    obtain ⟨a, ys, e2, s, r2⟩ := r.tup
    subst e e2
    exact ⟨a, ys, rfl, .inr s, fun q nq => hq (.lst l) _ _ (c.keepNew nq) (Rep.newL r2 nq c.alloc) h⟩
  | [.lst l], h =>
    obtain ⟨v, e, r⟩ := repOL1 r
    obtain ⟨a, ys, e2, s, r2⟩ := r.lst
    subst e e2
    exact ⟨a, ys, rfl, .inl (SqL.of s), fun q nq => hq (.lst l) _ _ (c.keepNew nq) (Rep.newL r2 nq c.alloc) h⟩
theorem bools_v {K : PySem.W.Frag} {N : Addr → Prop} {π : Pi} {H : Hp} : ∀ {l : List D} {bs : List Bool} {xs : List V}, bools l = some bs → RepL K N π H l xs → xs = bs.map V.bl
  | [], _, _, e, h => by cases e; cases h; rfl
  | .bl b :: r, bs, _, e, ⟨v, vs, e2, h1, h2⟩ => by
    unfold bools at e
    cases q : bools r with
    | none => rw [q] at e; cases e
    | some cs =>
      rw [q] at e
      cases e
      cases h1
      rw [e2, bools_v q h2]
      rfl
  | .non :: _, _, _, e, _ => by cases e
  | .int _ :: _, _, _, e, _ => by cases e
  | .str _ :: _, _, _, e, _ => by cases e
  | .tup _ :: _, _, _, e, _ => by cases e
  | .lst _ :: _, _, _, e, _ => by cases e
  | .dct _ :: _, _, _, e, _ => by cases e
  | .clo _ _ :: _, _, _, e, _ => by cases e
  | .pool :: _, _, _, e, _ => by cases e
theorem cd_all : CallD F (.builtin "all") fAll := by
  refine ⟨rAll F.K, fun i => by rw [← F.hK i]; exact cr_all (F.calm i), fun N π H l xs R Q c r h hq => ?_⟩
  match l, h with
  | [.lst l], h =>
    obtain ⟨v, e, r⟩ := repOL1 r
    obtain ⟨a, ys, e2, s, r2⟩ := r.lst
    subst e e2
    have h : match bools l with
      | some bs => R (.bl (bs.all id))
      | none => False := h
    cases q : bools l with
    | none => rw [q] at h; exact h.elim
    | some bs =>
      rw [q] at h
      have := bools_v q r2
      subst this
      exact ⟨a, bs, rfl, SqL.of s, hq (.bl _) _ H c.keepRefl rfl h⟩
theorem cd_any : CallD F (.builtin "any") fAny := by
  refine ⟨rAny F.K, fun i => by rw [← F.hK i]; exact cr_any (F.calm i), fun N π H l xs R Q c r h hq => ?_⟩
  match l, h with
  | [.lst l], h =>
    obtain ⟨v, e, r⟩ := repOL1 r
    obtain ⟨a, ys, e2, s, r2⟩ := r.lst
    subst e e2
    have h : match bools l with
      | some bs => R (.bl (bs.any id))
      | none => False := h
    cases q : bools l with
    | none => rw [q] at h; exact h.elim
    | some bs =>
      rw [q] at h
      have := bools_v q r2
      subst this
      exact ⟨a, bs, rfl, SqL.of s, hq (.bl _) _ H c.keepRefl rfl h⟩
/-! ### isinstance -/
def Ty.name : Ty → String
  | .int => "int"
  | .bool => "bool"
  | .str => "str"
  | .tuple => "tuple"
  | .list => "list"
theorem kit_isT : ∀ (t : Ty) (d : D) (n : String), d.tyN = some n → kitB n t.name = some (isT t d) := by
  intro t d n h
  cases d with
  | clo _ _ => cases h
  | pool => cases h
  | non => cases h; cases t <;> decide +kernel
  | bl _ => cases h; cases t <;> (show kitB _ _ = some _; first | exact (by decide +kernel : kitB "bool" "int" = some true) | exact (by decide +kernel : kitB "bool" "bool" = some true) | exact (by decide +kernel : kitB "bool" "str" = some false) | exact (by decide +kernel : kitB "bool" "tuple" = some false) | exact (by decide +kernel : kitB "bool" "list" = some false))
  | int _ => cases h; cases t <;> (show kitB _ _ = some _; first | exact (by decide +kernel : kitB "int" "int" = some true) | exact (by decide +kernel : kitB "int" "bool" = some false) | exact (by decide +kernel : kitB "int" "str" = some false) | exact (by decide +kernel : kitB "int" "tuple" = some false) | exact (by decide +kernel : kitB "int" "list" = some false))
  | str _ => cases h; cases t <;> (show kitB _ _ = some _; first | exact (by decide +kernel : kitB "str" "int" = some false) | exact (by decide +kernel : kitB "str" "bool" = some false) | exact (by decide +kernel : kitB "str" "str" = some true) | exact (by decide +kernel : kitB "str" "tuple" = some false) | exact (by decide +kernel : kitB "str" "list" = some false))
  | tup _ => cases h; cases t <;> (show kitB _ _ = some _; first | exact (by decide +kernel : kitB "tuple" "int" = some false) | exact (by decide +kernel : kitB "tuple" "bool" = some false) | exact (by decide +kernel : kitB "tuple" "str" = some false) | exact (by decide +kernel : kitB "tuple" "tuple" = some true) | exact (by decide +kernel : kitB "tuple" "list" = some false))
  | lst _ => cases h; cases t <;> (show kitB _ _ = some _; first | exact (by decide +kernel : kitB "list" "int" = some false) | exact (by decide +kernel : kitB "list" "bool" = some false) | exact (by decide +kernel : kitB "list" "str" = some false) | exact (by decide +kernel : kitB "list" "tuple" = some false) | exact (by decide +kernel : kitB "list" "list" = some true))
  | dct _ => cases h; cases t <;> (show kitB _ _ = some _; first | exact (by decide +kernel : kitB "dict" "int" = some false) | exact (by decide +kernel : kitB "dict" "bool" = some false) | exact (by decide +kernel : kitB "dict" "str" = some false) | exact (by decide +kernel : kitB "dict" "tuple" = some false) | exact (by decide +kernel : kitB "dict" "list" = some false))
theorem rep_ty {K : PySem.W.Frag} {N : Addr → Prop} {π : Pi} {H : Hp} {d : D} {v : V} {n : String} (h : RepO K N π H d v) (e : d.tyN = some n) : TyX K H v (.type n) := by
  cases d with
  | non => cases e; cases h; exact .base .non
  | bl b => cases e; cases h; exact .base (.bl b)
  | int b => cases e; cases h; exact .base (.int b)
  | str b => cases e; cases h; exact .base (.str b)
  | tup l =>
    cases e
    obtain ⟨a, xs, e2, s, _⟩ := h.tup
    subst e2
    rcases s with (s | ⟨o, s⟩) | ⟨o, its, n, h1, h2, _⟩
    · exact .base (.tup s)
    · exact .fTuple s
    · exact .kTuple h1 h2
  | lst l =>
    cases e
    obtain ⟨a, xs, e2, s, _⟩ := h.lst
    subst e2
    exact .base (.lst s)
  | dct l =>
    cases e
    obtain ⟨a, xs, e2, _, s, _⟩ := h
    subst e2
    rcases s with s | ⟨o, s⟩
    · exact .base (.dK s)
    · exact .fDict s
  | clo _ _ => cases e
  | pool => cases e
/-- isinstance(e, T) -/
theorem ve_is (t : Ty) {y : Str} (hm : F.mg "isinstance" = none) (ha : VR F O e f) (hT : ∀ i, PE (F.X i) (.Name y p2) (tC (.ty t.name)))
    (hg : ∀ i, Gl (F.X i) "isinstance" := by intro _; rfl) (hs : ∀ i, starEach [e, .Name y p2] (F.X i).env = (false, eval e (F.X i).env) :: starEach [.Name y p2] (F.X i).env := by intro _; rfl) :
    VE F O (.Call (.Name "isinstance" p) [e, .Name y p2] [] pos) (eUn (fIs t) f) := by
  obtain ⟨ta, pa, ga⟩ := ha
  refine ⟨tCB (rIsi F.K) (tCons ta (tCons (tC (.ty t.name)) tNil)), fun i => pe_callB (by rw [← F.hK i]; exact call_isi) (hg i) (by rw [F.hmg i]; exact hm) (by decide +kernel) (pa_cons (pa i) (pa_cons (hT i) pa_nil (by rfl)) (hs i)) (by decide) (by decide) (hs i) (by rfl), fun M π own σ H ρ R Q x hf hq => ?_⟩
  refine ga M π own σ H ρ _ _ x hf fun d v H1 k1 r1 h1 => ?_
  obtain ⟨hn, h1⟩ := h1
  cases q : d.tyN with
  | none => exact (hn q).elim
  | some n => exact ⟨v, .ty t.name, .type n, .type t.name, isT t d, rfl, .ty _, rep_ty r1 q, kit_ty (kit_isT t d n q), hq (.bl _) _ H1 k1 rfl h1⟩
/-! ### one's own defs -/
/-- the promise of a def over data -/
def spD (K : PySem.W.Frag) (g : GA) : Sp := fun vs H Q _ => ∃ N π ds R, Ctx N π H ∧ RepL K N π H ds vs ∧ g ds R ∧ ∀ d v H', Keep π H H' → Rep K N π H' d v → R d → Q v H'
theorem ve_call {x : Str} {fA : Addr} {fd : FuncData} {ps : List Str} {k : Nat} {g : GA} {fl : FA} (G : FnOk F.P F.w F.K F.mg F.base L2.CX0 k fA fd ps (spD F.K g)) (hr : k ≤ F.k) (hm : F.mg x = some (.ref fA)) (hk : PySem.W.keepIn F.K (.ref fA) = true)
    (hb : Binds F.K fd ps []) (ha : VA F O (e :: es) fl) (hg : ∀ i, Gl (F.X i) x := by intro _; rfl)
    (hdb : (x == ("__debug__" : Str)) = false := by decide) (he : ∀ i, starEach (e :: es) (F.X i).env = (false, eval e (F.X i).env) :: starEach es (F.X i).env := by intro _; rfl) (hpl : ∀ i, (backTo pos (starEach es (F.X i).env)).any (·.1) = false := by intro _; rfl) :
    VE F O (.Call (.Name x p) (e :: es) [] pos) (eCall g fl) := by
  obtain ⟨t, pt, gt⟩ := ha
  refine ⟨_, fun i => pe_call (F := by rw [F.hP i, F.hw i, F.hK i, F.hmg i, F.hbase i]; exact G) ((F.room i).mono hr) (hg i) (by rw [F.hmg i]; exact hm) (by rw [F.hK i]; exact hk) (by rw [F.hK i]; exact hb) .nil L2.pass0 (pt i) hdb (he i) (hpl i), fun M π own σ H ρ R Q x hf hq => ?_⟩
  refine gt M π own σ H ρ _ _ x hf fun l xs H1 k1 r1 h1 => ?_
  refine ⟨_, π, l, R, (x.keep k1).ctx, by rw [List.append_nil]; exact r1, h1, fun d v H2 k2 => hq d v H2 (k1.trans k2)⟩
theorem ve_call0 {x : Str} {fA : Addr} {fd : FuncData} {ps : List Str} {k : Nat} {g : GA} (G : FnOk F.P F.w F.K F.mg F.base L2.CX0 k fA fd ps (spD F.K g)) (hr : k ≤ F.k) (hm : F.mg x = some (.ref fA)) (hk : PySem.W.keepIn F.K (.ref fA) = true)
    (hb : Binds F.K fd ps []) (hg : ∀ i, Gl (F.X i) x := by intro _; rfl) (hdb : (x == ("__debug__" : Str)) = false := by decide) : VE F O (.Call (.Name x p) [] [] pos) (eCall g aNil) := by
  refine ⟨_, fun i => pe_call0 (F := by rw [F.hP i, F.hw i, F.hK i, F.hmg i, F.hbase i]; exact G) ((F.room i).mono hr) (hg i) (by rw [F.hmg i]; exact hm) (by rw [F.hK i]; exact hk) (by rw [F.hK i]; exact hb) .nil L2.pass0 hdb, fun M π own σ H ρ R Q x hf hq => ?_⟩
  exact ⟨_, π, [], R, x.ctx, rfl, hf, fun d v H2 k2 => hq d v H2 k2⟩
end
end Fn
end P_FW
section P_FC
set_option maxHeartbeats 4000000
/-! Targets, what is walked, comprehensions over data. -/
namespace Fn
open PySem PySem.Spec PyProof.Rows L2
section
variable {K : PySem.W.Frag} {M : Addr → Prop} {π : Pi} {O : Nat → Bool} {own : Own} {σ : L2.St} {H H' : Hp} {ρ : Ren}
theorem wipe_set' {i : Nat} {x : Option V} : ∀ {vs : List Nat} {σ : L2.St}, (L2.wipe (σ.set i x) vs).set i none = (L2.wipe σ vs).set i none
  | [], σ => by simp [L2.wipe]
  | v :: vs, σ => by
    simp only [L2.wipe]
    by_cases h : v = i
    · subst h
      rw [List.set_set, List.set_set, wipe_set']
    · rw [List.set_comm _ _ h, wipe_set', List.set_comm _ _ h]
theorem wipe_set {i : Nat} {x : Option V} : ∀ {vs : List Nat} {σ : L2.St}, i ∈ vs → L2.wipe (σ.set i x) vs = L2.wipe σ vs
  | [], _, h => by cases h
  | v :: vs, σ, h => by
    simp only [L2.wipe]
    by_cases e : v = i
    · subst e
      exact wipe_set'
    · have : i ∈ vs := by
        rcases List.mem_cons.mp h with z | z
        · exact absurd z.symm e
        · exact z
      rw [wipe_set this]
theorem wipe_noneC {i : Nat} : ∀ {vs : List Nat} {σ : L2.St}, L2.wipe (σ.set i none) vs = (L2.wipe σ vs).set i none
  | [], _ => rfl
  | v :: vs, σ => by
    simp only [L2.wipe]
    by_cases e : v = i
    · subst e
      rw [wipe_noneC]
    · rw [wipe_noneC, List.set_comm _ _ (Ne.symm e)]
theorem wipe_idem : ∀ {vs : List Nat} {σ : L2.St}, L2.wipe (L2.wipe σ vs) vs = L2.wipe σ vs
  | [], _ => rfl
  | v :: vs, σ => by
    show (L2.wipe ((L2.wipe σ vs).set v none) vs).set v none = (L2.wipe σ vs).set v none
    rw [wipe_noneC, wipe_idem, List.set_set]
theorem EnvOk.set (x : EnvOk K M π O own σ H ρ) {i : Nat} {d : D} {v : V} (hO : O i = false) (r : Rep K (Bar M own) π H d v) : EnvOk K M π O own (σ.set i (some v)) H (ρ.set i (some d)) := by
  refine ⟨x.alloc, x.pool, x.own1, x.inj, by simp [x.len], fun j d' e => ?_⟩
  by_cases h : i = j
  · subst h
    by_cases hl : i < ρ.length
    · rw [List.getElem?_set_self hl] at e
      cases e
      refine ⟨v, List.getElem?_set_self (by rw [x.len]; exact hl), ?_⟩
      rw [if_neg (by rw [hO]; decide)]
      exact r
    · rw [List.getElem?_eq_none (by simpa using Nat.le_of_not_lt hl)] at e
      cases e
  · rw [List.getElem?_set_ne h] at e
    obtain ⟨w, e1, h1⟩ := x.slot j d' e
    exact ⟨w, by rw [List.getElem?_set_ne h]; exact e1, h1⟩
theorem rwipe_some {i : Nat} {d : D} : ∀ {vs : List Nat} {ρ : Ren}, (Fn.wipe ρ vs)[i]? = some (some d) → ρ[i]? = some (some d) ∧ i ∉ vs
  | [], _, h => ⟨h, by simp⟩
  | v :: vs, ρ, h => by
    unfold Fn.wipe at h
    by_cases hi : v = i
    · subst hi
      by_cases hv : v < (Fn.wipe ρ vs).length
      · rw [List.getElem?_set_self hv] at h; cases h
      · rw [List.getElem?_eq_none (by simpa using hv)] at h; cases h
    · rw [List.getElem?_set_ne hi] at h
      obtain ⟨h1, h2⟩ := rwipe_some h
      exact ⟨h1, by simp only [List.mem_cons, not_or]; exact ⟨fun e => hi e.symm, h2⟩⟩
theorem rwipe_length (ρ : Ren) : ∀ vs : List Nat, (Fn.wipe ρ vs).length = ρ.length
  | [] => rfl
  | v :: vs => by unfold Fn.wipe; rw [List.length_set, rwipe_length ρ vs]
theorem EnvOk.wipe (x : EnvOk K M π O own σ H ρ) (vs : List Nat) : EnvOk K M π O own (L2.wipe σ vs) H (Fn.wipe ρ vs) := by
  refine ⟨x.alloc, x.pool, x.own1, x.inj, by rw [L2.wipe_length, rwipe_length, x.len], fun j d e => ?_⟩
  obtain ⟨e1, e2⟩ := rwipe_some e
  obtain ⟨v, e3, h⟩ := x.slot j d e1
  exact ⟨v, by rw [wipe_out e2]; exact e3, h⟩
/-- a new object D is barred too -/
theorem EnvOk.bar (x : EnvOk K M π O own σ H ρ) {D : Addr} (n : H D = none) (k : ∀ a o, H a = some o → ¬ isPl π a → H' a = some o) (hp : ∀ p, π = some p → PoolAt H' p) (hD : ∃ o, H' D = some o) :
    EnvOk K (fun a => M a ∨ a = D) π O own σ H' ρ := by
  have kk : Keep π H H' := ⟨k, hp⟩
  have y := x.keep kk
  have hh : Hold (Bar M own) H H' := kk.hold x.ctx.hp
  refine ⟨fun a z => z.elim (y.alloc a) fun e => e ▸ hD, fun p e => ⟨⟨.inl (x.pool p e).1.1, .inl (x.pool p e).1.2⟩, hp p e⟩, fun i a e => ⟨(x.own1 i a e).1, (y.own1 i a e).2.1, fun z => ?_⟩, x.inj, x.len, fun i d e => ?_⟩
  · rcases z with z | z
    · exact (x.own1 i a e).2.2 z
    · obtain ⟨o, q⟩ := (x.own1 i a e).2.1
      rw [z, n] at q; cases q
  · obtain ⟨v, e1, h⟩ := x.slot i d e
    refine ⟨v, e1, ?_⟩
    have hm : ∀ a, Bar (fun a => M a ∨ a = D) own a → Bar M own a ∨ H a = none := fun a z => by
      rcases z with (z | z) | z
      · exact .inl (.inl z)
      · exact .inr (z ▸ n)
      · exact .inl (.inr z)
    by_cases hO : O i = true
    · rw [if_pos hO] at h ⊢
      obtain ⟨a, e2, e3, h⟩ := h
      refine ⟨a, e2, e3, ?_⟩
      have np := x.notpool e2
      cases d with
      | lst l => obtain ⟨xs, q, r⟩ := h; exact ⟨xs, k _ _ q np, RepL.hold hh hm _ _ r⟩
      | dct l => obtain ⟨xs, q, r⟩ := h; exact ⟨xs, k _ _ q np, RepK.hold hh hm _ _ r⟩
      | _ => exact h
    · rw [if_neg hO] at h ⊢
      exact Rep.hold hh hm _ _ h
/-- the barred object D is written -/
theorem EnvOk.put (x : EnvOk K M π O own σ H ρ) {D : Addr} {o : HO} (hD : M D) (hp1 : ∀ p, π = some p → p.1 ≠ D ∧ p.2 ≠ D) : EnvOk K M π O own σ (upd H D o) ρ := by
  have hh : Hold (Bar M own) H (upd H D o) := fun a u q nb => by
    rw [upd_ne (fun z => nb (.inl (by rw [z]; exact hD)))]
    exact q
  have al : ∀ a, (∃ u, H a = some u) → ∃ u, upd H D o a = some u := fun a ⟨u, q⟩ => by
    by_cases z : a = D
    · exact ⟨o, by rw [z]; exact upd_same⟩
    · exact ⟨u, by rw [upd_ne z]; exact q⟩
  refine ⟨fun a z => al a (x.alloc a z), fun p e => ⟨(x.pool p e).1, (x.pool p e).2.other (hp1 p e).1 (hp1 p e).2⟩, fun i a e => ⟨(x.own1 i a e).1, al a (x.own1 i a e).2.1, (x.own1 i a e).2.2⟩, x.inj, x.len, fun i d e => ?_⟩
  obtain ⟨v, e1, h⟩ := x.slot i d e
  refine ⟨v, e1, ?_⟩
  by_cases hO : O i = true
  · rw [if_pos hO] at h ⊢
    obtain ⟨a, e2, e3, h⟩ := h
    refine ⟨a, e2, e3, ?_⟩
    have na : a ≠ D := fun z => (x.own1 i a e2).2.2 (by rw [z]; exact hD)
    cases d with
    | lst l => obtain ⟨xs, q, r⟩ := h; exact ⟨xs, by rw [upd_ne na]; exact q, RepL.hold hh (fun _ z => .inl z) _ _ r⟩
    | dct l => obtain ⟨xs, q, r⟩ := h; exact ⟨xs, by rw [upd_ne na]; exact q, RepK.hold hh (fun _ z => .inl z) _ _ r⟩
    | _ => exact h
  · rw [if_neg hO] at h ⊢
    exact Rep.hold hh (fun _ z => .inl z) _ _ h
end
section
variable {F : Fam} {O : Nat → Bool} {e : Expr} {es : List Expr} {f : FE} {pos p : Pos}
/-! ### targets -/
theorem vg_name (j : Nat) {x : Str} (hN : F.N.Nodup) (hj : F.N[j]? = some x) (hO : O j = false) (hx : ∀ i, Loc (F.X i).env.scope x) (hf : ∀ i, (F.X i).fn x = true ∨ (F.X i).env.scope.names.lookup x = some .local) :
    VG F O true (.Name x pos) [j] (Fn.gName j) := by
  refine ⟨L2.gName j, fun i => pg_name (by rw [F.hN i]; exact hN) (by rw [F.hN i]; exact hj) (hx i) (hf i), fun M π own σ H ρ d v R Q x r hf hq => ?_⟩
  exact hq _ _ (x.set hO r) (fun vs hv => wipe_set (hv j (List.mem_singleton.mpr rfl))) hf
theorem vgs_nil : VGs F O [] [] gsNil := by
  refine ⟨_, fun _ => pgs_nil, fun M π own σ H ρ l xs R Q x r hf hq => ?_⟩
  match l, hf with
  | [], hf =>
    cases r
    exact ⟨rfl, hq σ ρ x (fun _ _ => rfl) hf⟩
theorem vgs_cons {S1 S2 : List Nat} {G : FG} {U : FGs} (h1 : VG F O true e S1 G) (h2 : VGs F O es S2 U)
    (hs : ∀ i, (assignEach (e :: es) (F.X i).env).map (·.2) = assign e (F.X i).env :: (assignEach es (F.X i).env).map (·.2) := by intro _; rfl) : VGs F O (e :: es) (S1 ++ S2) (gsCons G U) := by
  obtain ⟨t, pt, gt⟩ := h1
  obtain ⟨u, pu, gu⟩ := h2
  refine ⟨_, fun i => pgs_cons (pt i) (pu i) (hs i), fun M π own σ H ρ l xs R Q x r hf hq => ?_⟩
  match l, hf with
  | d :: l, hf =>
    obtain ⟨v, vs, e, r1, r2⟩ := r
    subst e
    refine ⟨v, vs, rfl, gt M π own σ H ρ d v _ _ x r1 hf fun σ' ρ' x' w1 hf' => ?_⟩
    exact gu M π own σ' H ρ' l vs R Q x' r2 hf' fun σ'' ρ'' x'' w2 => hq σ'' ρ'' x'' fun vs hv => (w2 vs fun i hi => hv i (List.mem_append_right _ hi)).trans (w1 vs fun i hi => hv i (List.mem_append_left _ hi))
theorem vg_tup {rr : Bool} {k : Nat} {S : List Nat} {U : FGs} (h : VGs F O es S U) (n : Nat) (hl : ∀ l ρ (R : Ren → Prop), U l ρ R → l.length = n)
    (hn : ∀ i, (assignEach es (F.X i).env).length = n := by intro _; rfl) (hst : ∀ i, (assignEach es (F.X i).env).findIdx? (·.1) = none := by intro _; rfl) : VG F O rr (.Tuple es k pos) S (Fn.gTup U) := by
  obtain ⟨t, pt, gt⟩ := h
  refine ⟨L2.gTup F.K n t, fun i => by rw [← F.hK i]; exact pg_tup (F.calm i) (pt i) (hn i) (hst i), fun M π own σ H ρ d v R Q x r hf hq => ?_⟩
  cases d with
  | tup l =>
    obtain ⟨a, xs, e, s, r2⟩ := Rep.sq r
    exact ⟨a, xs, e, s, by rw [r2.length]; exact hl _ _ _ hf, gt M π own σ H ρ l xs R Q x r2 hf hq⟩
  | _ => exact hf.elim
/-! ### what is walked -/
theorem WalkD.toR {rr : Bool} {K : PySem.W.Frag} {C N : Addr → Prop} {π : Pi} {H1 : Hp} {l : List D} {J : It} (h : WalkD rr K C N π H1 l J) (hp : ∀ p, isPl π p → C p) : WalkD rr K (isPl π) N π H1 l J := by
  obtain ⟨G, Y, w, g, y⟩ := h
  refine ⟨G, Y, w, fun H hh => g H fun a o e n => hh a o e fun z => n (hp a z), fun i H x H' hi hh => y i H x H' hi fun a o e n => hh a o e fun z => n (hp a z)⟩
theorem VI.toR {rr : Bool} {tg it : Expr} {fi : FI} (h : VI F O rr tg it fi) : VIR F O rr tg it fi := by
  obtain ⟨w, pw, gw⟩ := h
  exact ⟨w, pw, fun M π own σ H ρ R Q x hf hq => gw M π own σ H ρ R Q x hf fun l J H1 k hw => hq l J H1 k (hw.toR (x.keep k).ctx.hp)⟩
/-- list, tuple or text: as its value is -/
theorem pi_any {X : Cx} {tg l : Expr} {tl : TE} (hl : PE X l tl) : PI X tg l (fun σ H R => tl σ H fun x H1 => (∃ a, x = .ref a ∧ (∃ xs, SqL X.K H1 a xs) ∧ R (Itl X.K a) H1) ∨ ∃ a, x = .ref a ∧ (∃ xs, SqT X.K H1 a xs) ∧ R (Itt X.K a) H1) := by
  refine ⟨fun pins s σ H R I h => ?_⟩
  refine thn (hl.run pins s σ H _ I h) fun v s1 ⟨x, H1, I1, r1, q1⟩ => ?_
  rcases q1 with ⟨a, e, ⟨xs, hq⟩, q⟩ | ⟨a, e, ⟨xs, hq⟩, q⟩
  · subst e
    cases r1
    obtain ⟨its, rv, p, hz⟩ := I1.list hq
    refine wpAny_pyIter_list p.isList ?_
    refine ⟨s1.heap.objs.size, [s1.heap.objs.size], _, _, H1, rfl, I1.kept (t' := s1.toks) fun b o e => Heap.get?_push_of_some _ e, turn_list a _, ⟨_, Heap.get?_push_size _ rfl, rfl, rfl⟩, fun b hb => ?_, q⟩
    have e : b = s1.heap.objs.size := by simpa using hb
    subst e
    exact I1.fpOk (Nat.le_refl _) (I1.hok.fresh (Nat.le_refl _))
  · subst e
    cases r1
    obtain ⟨its, rv, p, hz⟩ := I1.tuple hq
    refine wpAny_pyIter_tuple (show s1.heap.IsTuple a its.toArray from p) ?_
    refine ⟨s1.heap.objs.size, [s1.heap.objs.size], _, _, H1, rfl, I1.kept (t' := s1.toks) fun b o e => Heap.get?_push_of_some _ e, turn_tuple a _, ⟨_, Heap.get?_push_size _ rfl, rfl, rfl⟩, fun b hb => ?_, q⟩
    have e : b = s1.heap.objs.size := by simpa using hb
    subst e
    exact I1.fpOk (Nat.le_refl _) (I1.hok.fresh (Nat.le_refl _))
theorem walk_elems {K : PySem.W.Frag} {C N : Addr → Prop} {π : Pi} {H1 : Hp} {l : List D} {xs : List V} (hC : ∀ a, C a → N a) (c : Ctx N π H1) (r : RepL K N π H1 l xs) :
    ∀ i H x H', i < l.length → Hold C H1 H → (∀ p, π = some p → PoolAt H p) → YAt xs i H x H' →
    Keep π H H' ∧ ∃ d, l[i]? = some d ∧ ∀ N' : Addr → Prop, (∀ a, N' a → (N a ∨ H1 a = none) ∧ ∃ o, H a = some o) → Rep K N' π H' d x := by
  intro i H x H' hi hh hp y
  obtain ⟨e, y⟩ := y
  subst e
  obtain ⟨d, e1, r1⟩ := r.get' y
  exact ⟨Keep.refl hp, d, e1, fun N' hN => Rep.hold (fun a o q n => hh a o q fun z => n (hC a z)) (fun a z => (hN a z).1) d x r1⟩
theorem hold_sqT {K : PySem.W.Frag} {C : Addr → Prop} {H1 H : Hp} {a : Addr} {xs : List V} (hh : Hold C H1 H) (h : (¬ C a ∧ Tp H1 a xs) ∨ KT K a xs) : SqT K H a xs := by
  rcases h with ⟨n, h⟩ | h
  · exact .inl (tp_hold (fun o q => hh a o q n) h).rd
  · exact h.sq
theorem vi_seq (ha : VE F O e f) {tg : Expr} : VI F O true tg e (iSeq f) := by
  obtain ⟨t, p, g⟩ := ha
  refine ⟨fun σ H R => t σ H fun x H1 => (∃ a, x = .ref a ∧ (∃ xs, SqL F.K H1 a xs) ∧ R (Itl F.K a) H1) ∨ ∃ a, x = .ref a ∧ (∃ xs, SqT F.K H1 a xs) ∧ R (Itt F.K a) H1, fun i => by rw [← F.hK i]; exact pi_any (p i), fun M π own σ H ρ R Q x hf hq => ?_⟩
  refine g M π own σ H ρ _ _ x hf fun d v H1 k1 r1 h1 => ?_
  have c1 := (x.keep k1).ctx
  cases d with
  | tup l =>
    obtain ⟨a, xs, e, s, r⟩ := r1
    have hl := r.length
    refine .inr ⟨a, e, ⟨xs, s.elim (fun z => .inl z.2.rd) KT.sq⟩, hq l _ H1 k1 ⟨fun H => SqT F.K H a xs, YAt xs, by rw [← hl]; exact walk_tup, fun H hh => hold_sqT hh s, walk_elems (fun _ z => z) c1 r⟩ h1⟩
  | lst l =>
    obtain ⟨a, xs, e, s, r⟩ := r1
    have hl := r.length
    exact .inl ⟨a, e, ⟨xs, SqL.of s.2⟩, hq l _ H1 k1 ⟨fun H => SqL F.K H a xs, YAt xs, by rw [← hl]; exact walk_list, fun H hh => SqL.of (hh a _ s.2 s.1), walk_elems (fun _ z => z) c1 r⟩ h1⟩
  | _ => exact h1.elim
theorem vir_seq (ha : VR F O e f) {tg : Expr} : VIR F O true tg e (iSeq f) := by
  obtain ⟨t, p, g⟩ := ha
  refine ⟨fun σ H R => t σ H fun x H1 => (∃ a, x = .ref a ∧ (∃ xs, SqL F.K H1 a xs) ∧ R (Itl F.K a) H1) ∨ ∃ a, x = .ref a ∧ (∃ xs, SqT F.K H1 a xs) ∧ R (Itt F.K a) H1, fun i => by rw [← F.hK i]; exact pi_any (p i), fun M π own σ H ρ R Q x hf hq => ?_⟩
  refine g M π own σ H ρ _ _ x hf fun d v H1 k1 r1 h1 => ?_
  have c1 := (x.keep k1).ctx
  cases d with
  | tup l =>
    obtain ⟨a, xs, e, s, r⟩ := r1
    have hl := r.length
    refine .inr ⟨a, e, ⟨xs, s.elim (fun z => .inl z.2.rd) KT.sq⟩, hq l _ H1 k1 ⟨fun H => SqT F.K H a xs, YAt xs, by rw [← hl]; exact walk_tup, fun H hh => hold_sqT hh (s.elim (fun z => .inl ⟨fun w => z.1 (c1.hp a w), z.2⟩) .inr), walk_elems c1.hp c1 r⟩ h1⟩
  | lst l =>
    obtain ⟨a, xs, e, s, q, r⟩ := r1
    have hl := r.length
    exact .inl ⟨a, e, ⟨xs, SqL.of q⟩, hq l _ H1 k1 ⟨fun H => SqL F.K H a xs, YAt xs, by rw [← hl]; exact walk_list, fun H hh => SqL.of (hh a _ q s), walk_elems c1.hp c1 r⟩ h1⟩
  | _ => exact h1.elim
theorem rng_get {lo : Int} {n i : Nat} (h : i < n) : (rng lo n)[i]? = some (.int (lo + i)) := by
  unfold rng
  rw [List.getElem?_map, List.getElem?_range h]
  rfl
theorem rng_len {lo : Int} {n : Nat} : (rng lo n).length = n := by
  unfold rng
  rw [List.length_map, List.length_range]
theorem walk_rng {K : PySem.W.Frag} {C N : Addr → Prop} {π : Pi} {H1 : Hp} {lo : Int} {n : Nat} : WalkD true K C N π H1 (rng lo n) (Itr lo n) := by
  refine ⟨fun _ => True, YFn fun i => .int (lo + i), by rw [rng_len]; exact walk_range, fun _ _ => trivial, fun i H x H' hi hh hp y => ?_⟩
  obtain ⟨e, y⟩ := y
  subst e y
  exact ⟨Keep.refl hp, _, rng_get (by rw [rng_len] at hi; exact hi), fun _ _ => rfl⟩
theorem vi_range1 {tg : Expr} (hm : F.mg "range" = none) (ha : VR F O e f) (hg : ∀ i, Gl (F.X i) "range" := by intro _; rfl) (hs : ∀ i, starEach [e] (F.X i).env = [(false, eval e (F.X i).env)] := by intro _; rfl) : VI F O true tg (.Call (.Name "range" p) [e] [] pos) (Fn.iRng1 f) := by
  obtain ⟨t, pt, g⟩ := ha
  refine ⟨_, fun i => pi_range1 (hg i) (by rw [F.hmg i]; exact hm) (pa_cons (pt i) pa_nil (hs i)) (hs i), fun M π own σ H ρ R Q x hf hq => ?_⟩
  refine g M π own σ H ρ _ _ x hf fun d v H1 k1 r1 h1 => ?_
  cases d with
  | int j =>
    cases r1
    exact ⟨j, rfl, h1.1.1, h1.1.2, hq _ _ H1 k1 walk_rng h1.2⟩
  | _ => exact h1.elim
theorem vi_range2 {tg e2 : Expr} {f2 : FE} (hm : F.mg "range" = none) (ha : VR F O e f) (hb : VR F O e2 f2) (hg : ∀ i, Gl (F.X i) "range" := by intro _; rfl)
    (hs : ∀ i, starEach [e, e2] (F.X i).env = [(false, eval e (F.X i).env), (false, eval e2 (F.X i).env)] := by intro _; rfl) (hs2 : ∀ i, starEach [e2] (F.X i).env = [(false, eval e2 (F.X i).env)] := by intro _; rfl) : VI F O true tg (.Call (.Name "range" p) [e, e2] [] pos) (Fn.iRng2 f f2) := by
  obtain ⟨t, pt, g⟩ := ha
  obtain ⟨t2, pt2, g2⟩ := hb
  refine ⟨_, fun i => pi_range2 (hg i) (by rw [F.hmg i]; exact hm) (pa_cons (pt i) (pa_cons (pt2 i) pa_nil (hs2 i)) (by rw [hs i, hs2 i])) (hs i) (hs2 i), fun M π own σ H ρ R Q x hf hq => ?_⟩
  refine g M π own σ H ρ _ _ x hf fun d v H1 k1 r1 h1 => ?_
  refine g2 M π own σ H1 ρ _ _ (x.keep k1) h1 fun d2 v2 H2 k2 r2 h2 => ?_
  have kk := k1.trans k2
  cases d with
  | int j => cases d2 with
    | int j2 =>
      cases r1
      cases r2
      exact ⟨j, j2, rfl, h2.1, hq _ _ H2 kk walk_rng h2.2⟩
    | _ => exact h2.elim
  | _ => exact h2.elim
theorem vi_str {tg : Expr} (ha : VR F O e f) : VI F O true tg e (Fn.iStr f) := by
  obtain ⟨t, p, g⟩ := ha
  refine ⟨_, fun i => pi_str (p i), fun M π own σ H ρ R Q x hf hq => ?_⟩
  refine g M π own σ H ρ _ _ x hf fun d v H1 k1 r1 h1 => ?_
  cases d with
  | str z =>
    refine ⟨z, r1, hq _ _ H1 k1 ⟨fun _ => True, _, by rw [List.length_map, Array.length_toList]; exact walk_str, fun _ _ => trivial, fun i H x H' hi hh hp y => ?_⟩ h1⟩
    obtain ⟨e, c, y, e2⟩ := y
    subst e e2
    exact ⟨Keep.refl hp, .str ⟨#[c]⟩, by rw [List.getElem?_map]; simp [y], fun _ _ => rfl⟩
  | _ => exact h1.elim
/-! ### tests of a comprehension -/
theorem vts_nil : VTs F O [] Fn.tYes := ⟨_, fun _ => pts_nil, fun M π own σ H ρ R Q x hf hq => hq true H x.ctx.keepRefl hf⟩
theorem vts_one {t : FT} (h : VT F O e t) : VTs F O [e] t := by
  obtain ⟨u, p, g⟩ := h
  exact ⟨_, fun i => pts_one (p i), g⟩
/-! ### a comprehension of one clause -/
def Fam.blk (F : Fam) (scope : Scope) : Fam where
  ι := F.ι × Shared × Hp × Addr × List (Str × Addr) × List Addr
  X := fun z => (F.X z.1).blk z.2.1 z.2.2.1 scope (compEnvC scope z.2.2.2.2.1 z.2.2.2.1 (F.X z.1).env) z.2.2.2.2.2
  P := F.P
  w := F.w
  K := F.K
  mg := F.mg
  base := F.base
  N := F.N
  k := F.k
  hP := fun z => F.hP z.1
  hw := fun z => F.hw z.1
  hK := fun z => F.hK z.1
  hmg := fun z => F.hmg z.1
  hbase := fun z => F.hbase z.1
  hN := fun z => F.hN z.1
  calm := fun z => F.calm z.1
  room := fun z => F.room z.1

theorem gsl_nil : ∀ l ρ (R : Ren → Prop), gsNil l ρ R → l.length = 0 := fun l ρ R h => by
  match l, h with
  | [], _ => rfl
theorem gsl_name {j n : Nat} {U : FGs} (h : ∀ l ρ (R : Ren → Prop), U l ρ R → l.length = n) : ∀ l ρ (R : Ren → Prop), gsCons (Fn.gName j) U l ρ R → l.length = n + 1 := fun l ρ R q => by
  match l, q with
  | _ :: r, q => rw [List.length_cons, h r _ R q]
/-- what the turns of a comprehension keep: the new list at L -/
theorem lc_sem {K : PySem.W.Frag} {g : TG} {tt : TT} {te : TE} {G : FG} {ft : FT} {fe : FE} {vs S : List Nat} (hS : ∀ i ∈ S, i ∈ vs)
    (gg : ∀ M π (own : Own) (σ : L2.St) H ρ d v (R : Ren → Prop) (Q : L2.St → Hp → Prop), EnvOk K M π O own σ H ρ → RepI rr K (Bar M own) π H d v → G d ρ R →
      (∀ σ' ρ', EnvOk K M π O own σ' H ρ' → (∀ vs, (∀ i ∈ S, i ∈ vs) → L2.wipe σ' vs = L2.wipe σ vs) → R ρ' → Q σ' H) → g v σ H Q)
    (gt : SemT K O tt ft) (ge : SemE K O te fe) {M : Addr → Prop} {π : Pi} {own : Own} {σ : L2.St} {H1 : Hp} {ρ : Ren} {R : List D → Prop} {Qd : Hp → Prop} {l : List D} {J : It} {L : Addr}
    (x : EnvOk K M π O own σ H1 ρ) (hw : WalkD rr K (isPl π) (Bar M own) π H1 l J) (hL : H1 L = none) (hf : lcGo G ft (lcEl fe) (Fn.wipe ρ vs) l 16777216 R)
    (hq : ∀ ds xs H, Keep π H1 H → H L = some (.lst xs) → RepL K (fun b => Bar M own b ∨ b = L) π H ds xs → R ds → Qd H) :
    ∃ W : Nat → Nat → Hp → Prop, (∃ m, W 0 m (upd H1 L (.lst []))) ∧ ∀ i m H, W i m H →
      (J.stop i H ∧ Qd H) ∨ (J.go i H ∧ ∃ Nx : Hp → Prop, (∀ H', Nx H' → ∃ m', m' < m ∧ W (i + 1) m' H') ∧ ∀ x H', J.yld i H x H' → g x (L2.wipe σ vs) H' fun σ2 H2 => L2.wipe σ2 vs = L2.wipe σ vs ∧ tt σ2 H2 fun b H3 =>
        if b = true then te σ2 H3 fun y H4 => ∃ acc, H4 L = some (.lst acc) ∧ acc.length < sizeLine ∧ Nx (upd H4 L (.lst (acc ++ [y]))) else Nx H3) := by
  obtain ⟨Gw, Y, w, gw, yw⟩ := hw
  have hsz : sizeLine = 16777216 := sizeLine_eq
  have nL : ∀ a o, H1 a = some o → a ≠ L := fun a o q z => by rw [z, hL] at q; cases q
  have npL : ∀ p, π = some p → p.1 ≠ L ∧ p.2 ≠ L := fun p e => by
    obtain ⟨_, _, _, _, _, e1, e2, _⟩ := (x.pool p e).2
    exact ⟨nL _ _ e1, nL _ _ e2⟩
  have nplL : ¬ isPl π L := fun ⟨l, z⟩ => (npL _ z).1 rfl
  -- the invariant
  refine lc_it w (fun i H => ∃ ds acc, Keep π H1 H ∧ H L = some (.lst acc) ∧ EnvOk K (fun a => M a ∨ a = L) π O own σ H ρ ∧ RepL K (Bar (fun a => M a ∨ a = L) own) π H ds acc ∧ ds.length ≤ 16777216 ∧ lcGo G ft (lcEl fe) (Fn.wipe ρ vs) (l.drop i) (16777216 - ds.length) fun r => R (ds ++ r)) ?_ ?_ ?_ ?_
  · refine ⟨[], [], x.ctx.keepNew hL, upd_same, x.bar hL (fun a o q _ => same_upd hL a o q) (fun p e => (x.pool p e).2.grow hL) ⟨_, upd_same⟩, rfl, by simp, by simpa using hf⟩
  · intro i H hi ⟨ds, acc, kk, _⟩
    exact gw H fun a o q n => kk.same a o q n
  · intro i y H H' hi ⟨ds, acc, kk, hA, xe, ra, hlen, hgo⟩ hy
    obtain ⟨k2, d, ed, rd⟩ := yw i H y H' hi (fun a o q n => kk.same a o q n) (fun p e => (xe.pool p e).2) hy
    have x2 := xe.keep k2
    have hdrop : l.drop i = d :: l.drop (i + 1) := by
      obtain ⟨h1, h2⟩ := List.getElem?_eq_some_iff.mp ed
      rw [← h2]
      exact List.drop_eq_getElem_cons h1
    rw [hdrop] at hgo
    have rdd : RepI rr K (Bar (fun a => M a ∨ a = L) own) π H' d y := rd _ fun a z => by
      refine ⟨?_, xe.ctx.alloc a z⟩
      rcases z with (z | z) | z
      · exact .inl (.inl z)
      · exact .inr (z ▸ hL)
      · exact .inl (.inr z)
    have hgo : G d (Fn.wipe ρ vs) (fun ρ' => ft ρ' fun b => if b = true then lcEl fe ρ' (16777216 - ds.length) fun l1 => lcGo G ft (lcEl fe) (Fn.wipe ρ vs) (l.drop (i + 1)) (16777216 - ds.length - l1.length) fun l2 => R (ds ++ (l1 ++ l2)) else lcGo G ft (lcEl fe) (Fn.wipe ρ vs) (l.drop (i + 1)) (16777216 - ds.length) fun r => R (ds ++ r)) := hgo
    refine gg _ π own _ H' _ d y _ _ (x2.wipe vs) rdd hgo fun σ2 ρ2 x3 hws ht => ⟨?_, ?_⟩
    · rw [hws vs hS]
      exact wipe_idem
    refine gt _ π own σ2 H' ρ2 _ _ x3 ht fun b H3 k3 hb => ?_
    have k13 : Keep π H1 H3 := (kk.trans k2).trans k3
    have hA3 : H3 L = some (.lst acc) := (k2.trans k3).same _ _ hA nplL
    have ra3 := (ra.keep xe.ctx k2).keep x2.ctx k3
    cases b with
    | false =>
      rw [if_neg Bool.false_ne_true] at hb ⊢
      exact ⟨ds, acc, k13, hA3, (xe.keep k2).keep k3, ra3, hlen, hb⟩
    | true =>
      rw [if_pos rfl] at hb ⊢
      refine ge _ π own σ2 H3 ρ2 _ _ (x3.keep k3) hb fun d4 v4 H4 k4 r4 h4 => ?_
      obtain ⟨hn, h4⟩ := h4
      have hA4 : H4 L = some (.lst acc) := k4.same _ _ hA3 nplL
      have x4 := ((xe.keep k2).keep k3).keep k4
      have hacc : acc.length = ds.length := ra.length
      refine ⟨acc, hA4, by omega, ds ++ [d4], acc ++ [v4], ⟨fun a o q n => ?_, fun p e => (x4.pool p e).2.other (npL p e).1 (npL p e).2⟩, upd_same, x4.put (.inr rfl) npL, ?_, by simp; omega, ?_⟩
      · rw [upd_ne (nL a o q)]
        exact (k13.trans k4).same a o q n
      · refine RepL.hold (fun a u q nb => ?_) (fun _ z => .inl z) _ _ ((ra3.keep ((xe.keep k2).keep k3).ctx k4).snoc r4)
        rw [upd_ne (fun z => nb (.inl (.inr z)))]
        exact q
      · rw [show 16777216 - (ds ++ [d4]).length = 16777216 - ds.length - [d4].length by simp; omega]
        simpa using h4
  · intro H ⟨ds, acc, kk, hA, xe, ra, hlen, hgo⟩
    rw [List.drop_length] at hgo
    have hgo : R (ds ++ []) := hgo
    rw [List.append_nil] at hgo
    refine hq ds acc H kk hA (RepL.hold (Hold.refl _ H) (fun a z => .inl ?_) ds acc ra) hgo
    rcases z with (z | z) | z
    · exact .inl (.inl z)
    · exact .inr z
    · exact .inl (.inr z)
end
end Fn
end P_FC
section P_FT
set_option maxHeartbeats 4000000
/-! Comprehensions of one clause; statements; defs. -/
namespace Fn
open PySem PySem.Spec PyProof.Rows L2
/-- xs.extend(t), t a tuple -/
def rExtendT (K : PySem.W.Frag) : V → List V → Hp → VK → Prop := fun x vs H Q => ∃ l b xs zs, x = .ref l ∧ vs = [.ref b] ∧ H l = some (.lst xs) ∧ SqT K H b zs ∧ xs.length + zs.length ≤ sizeLine ∧ Q .non (upd H l (.lst (xs ++ zs)))
theorem mt_extendT {X : Cx} : MtR X "list.extend" (rExtendT X.K) := by
  intro pins s σ H x vs v us Q I rx rv h
  obtain ⟨l, b, xs, zs, rfl, rfl, hH, hB, hz, q⟩ := h
  cases rx
  obtain ⟨u, rfl, ru⟩ := vals1 rv
  obtain rfl : u = Value.ref b := ru
  obtain ⟨z, its, n, r, hl, e⟩ := I.lstM hH
  obtain ⟨its2, r2, ⟨o2, e2, c2, n2, d2⟩, hl2⟩ := I.tuple hB
  have hlen2 := r2.length
  refine wpAny_call_entry PySem.F.slot_list_extend ⟨_, e, rfl⟩ PySem.F.entry_list_extend ?_ (PySem.F.args_list_extend_2 _ _)
  unfold Builtin.«list.extend»
  show wpAny _ _ (Builtin.List.listExtendWith (.ref l) (.ref b) .none) _ _ _
  unfold Builtin.List.listExtendWith
  refine wpAny_bind (wpAny_typeOf ⟨o2, e2, c2⟩ ?_)
  have h1 : (Builtin.List.listSameRef (.ref l) (.ref b) || Value.type "tuple" == Value.type "list" || Value.type "tuple" == Value.type "tuple") = true := by simp
  rw [if_pos h1]
  refine wpAny_bind ?_
  unfold Builtin.List.listItems
  refine wpAny_bind (wpAny_seqItems e2 d2 (wpAny_pure ?_))
  refine wpAny_bind ?_
  refine wpAny_bind (wpAny_seqItems e rfl (wpAny_pure ?_))
  have hlong : ¬ (!its.toArray.isEmpty && Builtin.List.listTooLong (its.toArray.size + its2.toArray.size)) = true := by
    rw [notLongL (by rw [List.size_toArray, List.size_toArray]; omega), Bool.and_false]
    exact Bool.false_ne_true
  rw [if_neg hlong]
  have Q2 : Q .non (upd H l (.lst (xs ++ zs))) := q
  have J := I.lset (f := (· ++ its2.toArray)) (t' := s.toks) (its' := its ++ its2) hH e (by simp) (r.append r2) (by rw [List.length_append]; omega)
  show wpAny _ _ (updateSeq l (· ++ its2.toArray) >>= fun _ => ret Value.none) _ _ _
  refine wpAny_bind (wpAny_updateSeq (f := fun x => x ++ its2.toArray) e rfl ?_ (by rw [List.size_toArray]; omega) (by show (its.toArray ++ its2.toArray).size ≤ _; rw [Array.size_append, List.size_toArray, List.size_toArray]; omega))
  exact wpAny_pure ⟨_, rfl, .non, _, J, rfl, Q2⟩
def rExtendA (K : PySem.W.Frag) : V → List V → Hp → VK → Prop := fun x vs H Q => rExtend x vs H Q ∨ rExtendT K x vs H Q
theorem mt_extendA {X : Cx} : MtR X "list.extend" (rExtendA X.K) := by
  intro pins s σ H x vs v us Q I rx rv h
  rcases h with h | h
  · exact mt_extend pins s σ H x vs v us Q I rx rv h
  · exact mt_extendT pins s σ H x vs v us Q I rx rv h
section
variable {F : Fam} {O : Nat → Bool} {e : Expr} {es : List Expr} {f : FE} {pos p : Pos}
theorem lc_semF {K : PySem.W.Frag} {wi : TI} {g : TG} {tt : TT} {te : TE} {fi : FI} {G : FG} {ft : FT} {fe : FE} {vs S : List Nat} (hS : ∀ i ∈ S, i ∈ vs)
    (gw : ∀ M π (own : Own) (σ : L2.St) H ρ (R : List D → Prop) (Q : It → Hp → Prop), EnvOk K M π O own σ H ρ → fi ρ R → (∀ l J H1, Keep π H H1 → WalkD rr K (isPl π) (Bar M own) π H1 l J → R l → Q J H1) → wi σ H Q)
    (gg : ∀ M π (own : Own) (σ : L2.St) H ρ d v (R : Ren → Prop) (Q : L2.St → Hp → Prop), EnvOk K M π O own σ H ρ → RepI rr K (Bar M own) π H d v → G d ρ R →
      (∀ σ' ρ', EnvOk K M π O own σ' H ρ' → (∀ vs, (∀ i ∈ S, i ∈ vs) → L2.wipe σ' vs = L2.wipe σ vs) → R ρ' → Q σ' H) → g v σ H Q)
    (gt : SemT K O tt ft) (ge : SemE K O te fe) : SemF K O (tLc wi g tt te vs) (eLc fi G ft (lcEl fe) vs) := by
  intro M π own σ H ρ R Q x hf hq
  refine gw M π own σ H ρ _ _ x hf fun l J H1 k1 hw hl L hL => ?_
  exact lc_sem hS gg gt ge (x.keep k1) hw hL hl fun ds xs H2 k2 e2 r2 h2 => hq (.lst ds) L H2 (k1.trans k2) (x.ctx.noneOf k1 hL) ⟨xs, e2, r2⟩ h2
/-- a new dict is locked from now on, where nobody changes it -/
def tLk (t : TE) : TE := fun σ H Q => t σ H fun v H' => ∃ a, v = .ref a ∧ (((∃ xs, H' a = some (.lst xs)) ∧ Q v H') ∨ ∃ kvs, H' a = some (.dK kvs) ∧ ∀ od, Q v (upd H' a (.frz od (.dK kvs))))
theorem pe_lk {X : Cx} {e : Expr} {t : TE} (h : PE X e t) : PE X e (tLk t) := by
  refine ⟨fun pins s σ H Q I hq => thn (h.run pins s σ H _ I hq) ?_⟩
  rintro u s1 ⟨v, H1, I1, r1, a, rfl, ⟨_, q⟩ | ⟨kvs, e1, q⟩⟩
  · exact ⟨_, H1, I1, r1, q⟩
  · obtain ⟨od, I2⟩ := Inv.lock I1 e1 True.intro
    exact ⟨.ref a, _, I2, r1, q od⟩
theorem hold_upd2 {N : Addr → Prop} {H : Hp} {p : Addr} {o : HO} (h : N p) : Hold N H (upd H p o) := fun b x e n => by
  rw [upd_ne fun z => n (by rw [z]; exact h)]
  exact e
theorem SemF.toE {K : PySem.W.Frag} {t : TE} {f : FE} (h : SemF K O t f) : SemE K O (tLk t) f := by
  intro M π own σ H ρ R Q x hf hq
  refine h M π own σ H ρ R _ x hf fun d a H' k n r hr => ?_
  have nM : ¬ Bar M own a := fun z => by
    obtain ⟨o, e⟩ := x.ctx.alloc a z
    rw [n] at e; cases e
  cases d with
  | lst l =>
    obtain ⟨xs, q, r⟩ := r
    exact ⟨a, rfl, .inl ⟨⟨xs, q⟩, hq (.lst l) _ H' k ⟨a, xs, rfl, ⟨nM, q⟩, RepL.hold (Hold.refl _ _) (fun _ z => .inl (.inl z)) _ _ r⟩ hr⟩⟩
  | dct l =>
    obtain ⟨kvs, q, r⟩ := r
    refine ⟨a, rfl, .inr ⟨kvs, q, fun od => hq (.dct l) _ _ ⟨fun c o e z => ?_, fun p e => ?_⟩ ⟨a, kvs, rfl, ⟨nM, od, upd_same⟩, RepK.hold (hold_upd2 (.inr rfl)) (fun _ z => .inl (.inl z)) _ _ r⟩ hr⟩⟩
    · rw [upd_ne fun w => by rw [w, n] at e; cases e]
      exact k.same c o e z
    · obtain ⟨_, _, _, _, _, e1, e2, _⟩ := (x.pool p e).2
      exact (k.pool p e).other (fun w => by rw [w, n] at e1; cases e1) (fun w => by rw [w, n] at e2; cases e2)
  | _ => exact r.elim
def onLst (R : DK) : DK := fun d => match d with
  | .lst l => R (.lst l)
  | _ => False
theorem SemF.toEL {K : PySem.W.Frag} {t : TE} {f : FE} (h : SemF K O t f) (hl : ∀ ρ R, f ρ R → f ρ (onLst R)) : SemE K O t f := by
  intro M π own σ H ρ R Q x hf hq
  refine h M π own σ H ρ _ _ x (hl ρ R hf) fun d a H' k n r hr => ?_
  cases d with
  | lst l =>
    obtain ⟨xs, q, r⟩ := r
    refine hq (.lst l) _ H' k ⟨a, xs, rfl, ⟨fun z => ?_, q⟩, RepL.hold (Hold.refl _ _) (fun _ z => .inl (.inl z)) _ _ r⟩ hr
    obtain ⟨o, e⟩ := x.ctx.alloc a z
    rw [n] at e; cases e
  | _ => exact hr.elim
theorem VF.toE (h : VF F O e f) : VE F O e f := by
  obtain ⟨t, p, g⟩ := h
  exact ⟨_, fun i => pe_lk (p i), g.toE⟩
theorem vf_lc {elt tg iter : Expr} {ifs : List Expr} {scope : Scope} {own : List (Str × Nat)} {fi : FI} {G : FG} {ft : FT} {fe : FE} {S : List Nat} (hN : F.N.Nodup) (hi : VIR F O rr tg iter fi) (ok : ∀ i, BlkOk F.N (F.X i).env.scope scope own)
    (hg : VG (F.blk scope) O rr tg S G) (hS : ∀ i ∈ S, i ∈ own.map (·.2)) (ht : VTs (F.blk scope) O ifs ft) (he : VE (F.blk scope) O elt fe) (hs : ∀ i x, foldedSetIterable iter (F.X i).env x = pure x := by intro _ _; rfl) :
    VF F O (.ListComp elt [⟨tg, iter, ifs, 0⟩] scope pos) (eLc fi G ft (lcEl fe) (own.map (·.2))) := by
  obtain ⟨wi, pw, gw⟩ := hi
  obtain ⟨g, pg, gg⟩ := hg
  obtain ⟨tt, pt, gt⟩ := ht
  obtain ⟨te, pe, ge⟩ := he
  exact ⟨_, fun i => pe_lc (F.calm i) (by rw [F.hN i]; exact hN) (pw i) (by rw [F.hN i]; exact ok i) (fun s H C cl fp => pg (i, s, H, C, cl, fp)) (fun s H C cl fp => pt (i, s, H, C, cl, fp)) (fun s H C cl fp => pe (i, s, H, C, cl, fp)) (hs i), lc_semF hS gw gg gt ge⟩
/-! ### statements -/
variable {st : Stmt} {sts : List Stmt} {a b : FS} {body orelse : List Stmt}
theorem vss_nil : VSs F O [] sSkip := ⟨_, fun _ => pss_nil, fun M π H0 B own σ H ρ P D x fr hf hd => hd.nx own σ H ρ x fr hf⟩
theorem EndsOk.with_nx {K : PySem.W.Frag} {M : Addr → Prop} {π : Pi} {H0 : Hp} {B : Addr → Prop} {P : Po} {D : Ends} (h : EndsOk K M π H0 B O P D) {nx : Ren → Prop} {tn : L2.St → Hp → Prop}
    (hn : ∀ (own : Own) (σ : L2.St) H ρ, EnvOk K M π O own σ H ρ → Fr0 M π H0 B own H → nx ρ → tn σ H) : EndsOk K M π H0 B O { P with nx := nx } { D with nx := tn } := ⟨hn, h.rt, h.bk, h.ct⟩
theorem vss_cons (h1 : VS F O st a) (h2 : VSs F O sts b) : VSs F O (st :: sts) (sSeq a b) := by
  obtain ⟨t, p, g⟩ := h1
  obtain ⟨u, q, g2⟩ := h2
  refine ⟨_, fun i => pss_cons (p i) (q i), fun M π H0 B own σ H ρ P D x fr hf hd => ?_⟩
  exact g M π H0 B own σ H ρ _ _ x fr hf (hd.with_nx fun own' σ' H' ρ' x' fr' hb => g2 M π H0 B own' σ' H' ρ' P D x' fr' hb hd)
theorem vss_one (h1 : VS F O st a) : VSs F O [st] a := by
  obtain ⟨t, p, g⟩ := h1
  exact ⟨_, fun i => pss_one (p i), g⟩
theorem vs_expr (he : VE F O e f) (hs : ∀ i, swapsWith e none pos.line (F.X i).env = pure false := by intro _; rfl) : VS F O (.Expr e pos) (sExp f) := by
  obtain ⟨t, p, g⟩ := he
  refine ⟨_, fun i => ps_expr (p i) (hs i), fun M π H0 B own σ H ρ P D x fr hf hd => ?_⟩
  exact g M π own σ H ρ _ _ x hf fun d v H1 k1 r1 h1 => hd.nx own σ H1 ρ (x.keep k1) (fr.step k1) h1
theorem Rep.barOut {K : PySem.W.Frag} {M : Addr → Prop} {π : Pi} {H : Hp} {own : Own} {d : D} {v : V} (r : Rep K (Bar M own) π H d v) : Rep K M π H d v := Rep.hold (Hold.refl _ _) (fun _ z => .inl (.inl z)) _ _ r
theorem vs_ret (he : VE F O e f) : VS F O (.Return (some e) pos) (sRet f) := by
  obtain ⟨t, p, g⟩ := he
  refine ⟨_, fun i => ps_ret (p i), fun M π H0 B own σ H ρ P D x fr hf hd => ?_⟩
  exact g M π own σ H ρ _ _ x hf fun d v H1 k1 r1 h1 => hd.rt d v H1 (fr.kb.step k1) (Rep.barOut r1) h1
/-- return x, x one's own list -/
theorem vs_retO (j : Nat) {y : Str} {p2 : Pos} (h : ∀ i, PE (F.X i) (.Name y p2) (tVar j)) (hO : O j = true) : VS F O (.Return (some (.Name y p2)) pos) (sRet (eVar j)) := by
  refine ⟨_, fun i => ps_ret (pe_lk (h i)), fun M π H0 B own σ H ρ P D x fr hf hd => ?_⟩
  unfold sRet eVar at hf
  split at hf
  · rename_i d e
    obtain ⟨v, e1, h1⟩ := x.slot j d e
    rw [if_pos hO] at h1
    obtain ⟨a, e2, e3, h1⟩ := h1
    subst e3
    have na : ¬ M a := (x.own1 j a e2).2.2
    cases d with
    | lst l =>
      obtain ⟨xs, q, r⟩ := h1
      exact ⟨_, e1, a, rfl, .inl ⟨⟨xs, q⟩, hd.rt (.lst l) _ H fr.kb ⟨a, xs, rfl, ⟨na, q⟩, RepL.hold (Hold.refl _ _) (fun _ z => .inl (.inl z)) _ _ r⟩ hf⟩⟩
    | dct l =>
      obtain ⟨xs, q, r⟩ := h1
      refine ⟨_, e1, a, rfl, .inr ⟨xs, q, fun od => hd.rt (.dct l) _ _ ⟨fun c o e nb z => ?_, fun p e => ?_⟩ ⟨a, xs, rfl, ⟨na, od, upd_same⟩, RepK.hold (hold_upd2 (.inr ⟨j, e2⟩)) (fun _ z => .inl (.inl z)) _ _ r⟩ hf⟩⟩
      · rcases fr.newo j a e2 with w | w
        · rw [upd_ne fun y => nb (by rw [y]; exact w)]
          exact fr.kb.keep c o e nb z
        · rw [upd_ne fun y => by rw [y, w] at e; cases e]
          exact fr.kb.keep c o e nb z
      · have n1 := x.pool p e
        refine n1.2.other (fun y => na (by rw [← y]; exact n1.1.1)) (fun y => na (by rw [← y]; exact n1.1.2))
    | _ => exact h1.elim
  · exact hf.elim
theorem vs_retN : VS F O (.Return none pos) sRetN := ⟨_, fun _ => ps_retN, fun M π H0 B own σ H ρ P D x fr hf hd => hd.rt .non _ H fr.kb rfl hf⟩
theorem vs_if {c : Expr} {t : FT} (hc : VT F O c t) (h1 : VSs F O body a) (h2 : VSs F O orelse b) : VS F O (.If c body orelse pos) (sIf t a b) := by
  obtain ⟨tc, pc, gc⟩ := hc
  obtain ⟨t1, p1, g1⟩ := h1
  obtain ⟨t2, p2, g2⟩ := h2
  refine ⟨_, fun i => ps_if (pc i) (p1 i) (p2 i), fun M π H0 B own σ H ρ P D x fr hf hd => ?_⟩
  refine gc M π own σ H ρ _ _ x hf fun c H1 k1 h1 => ?_
  cases c with
  | true => exact g1 M π H0 B own σ H1 ρ P D (x.keep k1) (fr.step k1) h1 hd
  | false => exact g2 M π H0 B own σ H1 ρ P D (x.keep k1) (fr.step k1) h1 hd
theorem vs_asg {tg : Expr} {S : List Nat} {G : FG} (he : VE F O e f) (hg : VG F O true tg S G) (hs : ∀ i, swapsWithSole [tg] e pos.line (F.X i).env = pure false := by intro _; rfl) (hw : ∀ i, swappedStores [tg] e (F.X i).env = pure none := by intro _; rfl)
    (h1 : ∀ i, (assignEach [tg] (F.X i).env).map (·.2) = [assign tg (F.X i).env] := by intro _; rfl) : VS F O (.Assign [tg] e pos) (sAsg f G) := by
  obtain ⟨t, p, g⟩ := he
  obtain ⟨u, q, g2⟩ := hg
  refine ⟨_, fun i => ps_asg (p i) (q i) (hs i) (hw i) (h1 i), fun M π H0 B own σ H ρ P D x fr hf hd => ?_⟩
  refine g M π own σ H ρ _ _ x hf fun d v H1 k1 r1 h1 => ?_
  exact g2 M π own σ H1 ρ d v _ _ (x.keep k1) r1 h1 fun σ' ρ' x' _ h => hd.nx own σ' H1 ρ' x' (fr.step k1) h
theorem vs_set (j : Nat) {x : Str} {p2 : Pos} (hN : F.N.Nodup) (hj : F.N[j]? = some x) (hO : O j = false) (hx : ∀ i, Loc (F.X i).env.scope x) (hf : ∀ i, (F.X i).fn x = true ∨ (F.X i).env.scope.names.lookup x = some .local) (he : VE F O e f)
    (hs : ∀ i, swapsWith e (some (.Name x p2)) pos.line (F.X i).env = pure false := by intro _; rfl) : VS F O (.Assign [.Name x p2] e pos) (sSet j f) := by
  obtain ⟨t, p, g⟩ := he
  refine ⟨_, fun i => ps_set (by rw [F.hN i]; exact hN) (by rw [F.hN i]; exact hj) (hx i) (p i) (hs i) (hf i), fun M π H0 B own σ H ρ P D x fr hf hd => ?_⟩
  exact g M π own σ H ρ _ _ x hf fun d v H1 k1 r1 h1 => hd.nx own _ H1 _ ((x.keep k1).set hO r1) (fr.step k1) h1
/-- y = [..]: a plain local name -/
theorem vs_setLc (j : Nat) {y : Str} {py : Pos} {elt tg iter : Expr} {ifs : List Expr} {scope : Scope} {own : List (Str × Nat)} {fi : FI} {G : FG} {ft : FT} {fe : FE} {S : List Nat} (hN : F.N.Nodup) (hj : F.N[j]? = some y) (hO : O j = false) (hyl : ∀ i, (F.X i).env.scope.names.lookup y = some .local)
    (hsw : ∀ i, swapsWith (.ListComp elt [⟨tg, iter, ifs, 0⟩] scope p) (some (.Name y py)) pos.line (F.X i).env = pure true)
    (hi : VIR F O rr tg iter fi) (ok : ∀ i, BlkOk F.N (F.X i).env.scope scope own)
    (hg : VG (F.blk scope) O rr tg S G) (hS : ∀ i ∈ S, i ∈ own.map (·.2)) (ht : VTs (F.blk scope) O ifs ft) (he : VE (F.blk scope) O elt fe) (hs : ∀ i x, foldedSetIterable iter (F.X i).env x = pure x := by intro _ _; rfl) :
    VS F O (.Assign [.Name y py] (.ListComp elt [⟨tg, iter, ifs, 0⟩] scope p) pos) (sSet j (eLc fi G ft (lcEl fe) (own.map (·.2)))) := by
  obtain ⟨wi, pw, gw⟩ := hi
  obtain ⟨g, pg, gg⟩ := hg
  obtain ⟨tt, pt, gt⟩ := ht
  obtain ⟨te, pe, ge⟩ := he
  refine ⟨_, fun i => ps_setLc (F.calm i) (by rw [F.hN i]; exact hN) (by rw [F.hN i]; exact hj) (hyl i) (hsw i) (pw i) (by rw [F.hN i]; exact ok i) (fun s H C cl fp => pg (i, s, H, C, cl, fp)) (fun s H C cl fp => pt (i, s, H, C, cl, fp)) (fun s H C cl fp => pe (i, s, H, C, cl, fp)) (hs i), fun M π H0 B own' σ H ρ P D x fr hf hd => ?_⟩
  exact (lc_semF (O := O) hS gw gg gt ge).toEL (fun _ _ z => z) M π own' σ H ρ _ _ x hf fun d v H1 k1 r1 h1 => hd.nx own' _ H1 _ ((x.keep k1).set hO r1) (fr.step k1) h1
/-- an own list or dict gets its slot -/
def ownAt (own : Own) (j : Nat) (a : Addr) : Own := fun i => if i = j then some a else own i
theorem EnvOk.setO {K : PySem.W.Frag} {M : Addr → Prop} {π : Pi} {own : Own} {σ : L2.St} {H H' : Hp} {ρ : Ren} {j : Nat} {a : Addr} {d : D} (x : EnvOk K M π O own σ H ρ) (k : Keep π H H') (n : H a = none) (hO : O j = true)
    (r : OwnRep K (fun b => Bar M own b ∨ b = a) π H' a d) : EnvOk K M π O (ownAt own j a) (σ.set j (some (.ref a))) H' (ρ.set j (some d)) := by
  have y := x.keep k
  have hh : Hold (Bar M own) H H' := k.hold x.ctx.hp
  have hM : ∀ b, M b → b ≠ a := fun b z e => by
    obtain ⟨o, q⟩ := x.alloc b z
    rw [e, n] at q; cases q
  have hW : ∀ i b, own i = some b → b ≠ a := fun i b z e => by
    obtain ⟨o, q⟩ := (x.own1 i b z).2.1
    rw [e, n] at q; cases q
  have hth : ∃ o, H' a = some o := by
    cases d with
    | lst l => obtain ⟨xs, q, _⟩ := r; exact ⟨_, q⟩
    | dct l => obtain ⟨xs, q, _⟩ := r; exact ⟨_, q⟩
    | _ => exact r.elim
  have hb : ∀ b, Bar M (ownAt own j a) b → Bar M own b ∨ b = a := fun b z => by
    rcases z with z | ⟨i, z⟩
    · exact .inl (.inl z)
    · unfold ownAt at z
      split at z
      · cases z; exact .inr rfl
      · exact .inl (.inr ⟨i, z⟩)
  have hbn : ∀ b, Bar M (ownAt own j a) b → Bar M own b ∨ H b = none := fun b z => (hb b z).imp id fun e => by rw [e]; exact n
  refine ⟨y.alloc, y.pool, fun i b e => ?_, fun i i' b e e' => ?_, by simp [x.len], fun i d' e => ?_⟩
  · unfold ownAt at e
    split at e
    · rename_i h
      cases e
      exact ⟨by rw [h]; exact hO, hth, fun z => hM _ z rfl⟩
    · exact y.own1 i b e
  · unfold ownAt at e e'
    split at e <;> split at e'
    · rename_i h h'; rw [h, h']
    · cases e; exact absurd rfl (hW _ _ e')
    · cases e'; exact absurd rfl (hW _ _ e)
    · exact x.inj _ _ _ e e'
  · by_cases h : j = i
    · subst h
      by_cases hl : j < ρ.length
      · rw [List.getElem?_set_self hl] at e
        cases e
        refine ⟨_, List.getElem?_set_self (by rw [x.len]; exact hl), ?_⟩
        rw [if_pos hO]
        refine ⟨a, by unfold ownAt; rw [if_pos rfl], rfl, ?_⟩
        cases d with
        | lst l => obtain ⟨xs, q, r⟩ := r; exact ⟨xs, q, RepL.hold (Hold.refl _ _) (fun b z => .inl (hb b z)) _ _ r⟩
        | dct l => obtain ⟨xs, q, r⟩ := r; exact ⟨xs, q, RepK.hold (Hold.refl _ _) (fun b z => .inl (hb b z)) _ _ r⟩
        | _ => exact r.elim
      · rw [List.getElem?_eq_none (by simpa using Nat.le_of_not_lt hl)] at e
        cases e
    · rw [List.getElem?_set_ne h] at e
      obtain ⟨v, e1, h1⟩ := x.slot i d' e
      refine ⟨v, by rw [List.getElem?_set_ne h]; exact e1, ?_⟩
      by_cases hOi : O i = true
      · rw [if_pos hOi] at h1 ⊢
        obtain ⟨c, e2, e3, h1⟩ := h1
        refine ⟨c, by unfold ownAt; rw [if_neg (Ne.symm h)]; exact e2, e3, ?_⟩
        have np := x.notpool e2
        cases d' with
        | lst l => obtain ⟨xs, q, r⟩ := h1; exact ⟨xs, k.same _ _ q np, RepL.hold hh hbn _ _ r⟩
        | dct l => obtain ⟨xs, q, r⟩ := h1; exact ⟨xs, k.same _ _ q np, RepK.hold hh hbn _ _ r⟩
        | _ => exact h1
      · rw [if_neg hOi] at h1 ⊢
        exact Rep.hold hh hbn _ _ h1
theorem Fr0.setO {M : Addr → Prop} {π : Pi} {H0 H H' : Hp} {B : Addr → Prop} {own : Own} {j : Nat} {a : Addr} (fr : Fr0 M π H0 B own H) (k : Keep π H H') (n : H a = none) (hp : ∀ p, isPl π p → ∃ o, H p = some o) : Fr0 M π H0 B (ownAt own j a) H' := by
  refine ⟨fr.kb.step k, fun i b e => ?_, fr.old⟩
  unfold ownAt at e
  split at e
  · cases e
    by_cases hB : B a
    · exact .inl hB
    · refine .inr ?_
      cases q : H0 a with
      | none => rfl
      | some o =>
        by_cases z : isPl π a
        · obtain ⟨o', q'⟩ := hp a z
          rw [n] at q'; cases q'
        · rw [fr.kb.keep a o q hB z] at n; cases n
  · exact fr.newo i b e
theorem EnvOk.plThere {K : PySem.W.Frag} {M : Addr → Prop} {π : Pi} {H : Hp} {own : Own} {σ : L2.St} {ρ : Ren} (x : EnvOk K M π O own σ H ρ) : ∀ p, isPl π p → ∃ o, H p = some o := fun p ⟨l, z⟩ => x.alloc p (x.pool _ z).1.1
theorem vs_setO (j : Nat) {x : Str} {p2 : Pos} (hN : F.N.Nodup) (hj : F.N[j]? = some x) (hO : O j = true) (hx : ∀ i, Loc (F.X i).env.scope x) (hf : ∀ i, (F.X i).fn x = true ∨ (F.X i).env.scope.names.lookup x = some .local) (he : VF F O e f)
    (hs : ∀ i, swapsWith e (some (.Name x p2)) pos.line (F.X i).env = pure false := by intro _; rfl) : VS F O (.Assign [.Name x p2] e pos) (sSet j f) := by
  obtain ⟨t, p, g⟩ := he
  refine ⟨_, fun i => ps_set (by rw [F.hN i]; exact hN) (by rw [F.hN i]; exact hj) (hx i) (p i) (hs i) (hf i), fun M π H0 B own σ H ρ P D x fr hf hd => ?_⟩
  exact g M π own σ H ρ _ _ x hf fun d a H1 k1 n1 r1 h1 => hd.nx _ _ H1 _ (x.setO k1 n1 hO r1) (fr.setO k1 n1 x.plThere) h1

/-! ### loops -/
theorem vs_for {tg it : Expr} {S : List Nat} {G : FG} {fi : FI} (hi : VI F O rr tg it fi) (hg : VG F O rr tg S G) (hb : VSs F O body b) (hp : ∀ i, PassesOwn (model (F.X i).prog (F.X i).w) (F.X i).A (F.X i).env (F.X i).xe := by intro _; exact PassesOwn.never)
    (hs : ∀ i x, foldedSetIterable it (F.X i).env x = pure x := by intro _ _; rfl) : VS F O (.For tg it body [] pos) (sFor fi G b) := by
  obtain ⟨wi, pw, gw⟩ := hi
  obtain ⟨g, pg, gg⟩ := hg
  obtain ⟨tb, pb, gb⟩ := hb
  refine ⟨_, fun i => ps_for (hp i) (F.calm i) (pw i) (pg i) (pb i) (hs i), fun M π H0 B own σ H ρ P D x fr hf hd => ?_⟩
  refine gw M π own σ H ρ _ _ x hf fun l J H1 k1 hw hl => ?_
  have x1 := x.keep k1
  have fr1 := fr.step k1
  obtain ⟨Gw, Y, w, gw', yw⟩ := hw
  have hold_of : ∀ {own' : Own} {H' : Hp}, Fr0 M π H1 (fun a => ∃ i, own i = some a) own' H' → Hold (Bar M own) H1 H' := fun fr' a o q nb => fr'.kb.keep a o q (fun z => nb (.inr z)) fun ⟨l, z⟩ => nb (.inl (x1.pool _ z).1.1)
  have out : ∀ {own' : Own} {H' : Hp}, Fr0 M π H1 (fun a => ∃ i, own i = some a) own' H' → Fr0 M π H0 B own' H' := fun fr' => by
    refine ⟨⟨fun a o q nB np => fr'.kb.keep a o (fr1.kb.keep a o q nB np) (fun ⟨i, z⟩ => ?_) np, fr'.kb.pool⟩, fun i a e => ?_, fr1.old⟩
    · rcases fr1.newo i a z with z | z
      · exact nB z
      · rw [q] at z; cases z
    · rcases fr'.newo i a e with ⟨i', z⟩ | z
      · exact fr1.newo i' a z
      · by_cases hB : B a
        · exact .inl hB
        · refine .inr ?_
          cases q : H0 a with
          | none => rfl
          | some o =>
            by_cases zp : isPl π a
            · obtain ⟨o', q'⟩ := x1.plThere a zp
              rw [z] at q'; cases q'
            · rw [fr1.kb.keep a o q hB zp] at z; cases z
  refine for_it w (fun i σ' H' => ∃ (own' : Own) (ρ' : Ren), EnvOk F.K M π O own' σ' H' ρ' ∧ Fr0 M π H1 (fun a => ∃ i, own i = some a) own' H' ∧ forGo G b P (l.drop i) ρ') ?_ ?_ ?_ ?_
  · exact ⟨own, ρ, x1, ⟨⟨fun a o q _ _ => q, fun p e => (x1.pool p e).2⟩, fun i a e => .inl ⟨i, e⟩, fun a z => x1.alloc a z⟩, by simpa using hl⟩
  · intro i σ' H' hi ⟨own', ρ', x', fr', _⟩
    exact gw' H' (hold_of fr')
  · intro i y σ' H' H2 hi ⟨own', ρ', x', fr', hgo⟩ hy
    obtain ⟨k2, d, ed, rd⟩ := yw i H' y H2 hi (hold_of fr') (fun p e => (x'.pool p e).2) hy
    have hdrop : l.drop i = d :: l.drop (i + 1) := by
      obtain ⟨h1, h2⟩ := List.getElem?_eq_some_iff.mp ed
      rw [← h2]
      exact List.drop_eq_getElem_cons h1
    rw [hdrop] at hgo
    have rdd : RepI rr F.K (Bar M own') π H2 d y := rd _ fun a z => by
      refine ⟨?_, x'.ctx.alloc a z⟩
      rcases z with z | ⟨i, z⟩
      · exact .inl (.inl z)
      · rcases fr'.newo i a z with z | z
        · exact .inl (.inr z)
        · exact .inr z
    refine gg M π own' σ' H2 ρ' d y _ _ (x'.keep k2) rdd hgo fun σ3 ρ3 x3 _ hb3 => ?_
    refine gb M π H1 _ own' σ3 H2 ρ3 _ _ x3 (fr'.step k2) hb3 ⟨fun own4 σ4 H4 ρ4 x4 fr4 h4 => ⟨own4, ρ4, x4, fr4, h4⟩, fun d v H4 kb r h => ?_, fun own4 σ4 H4 ρ4 x4 fr4 h4 => hd.nx own4 σ4 H4 ρ4 x4 (out fr4) h4, fun own4 σ4 H4 ρ4 x4 fr4 h4 => ⟨own4, ρ4, x4, fr4, h4⟩⟩
    have := out (own' := fun _ => none) (H' := H4) ⟨kb, (by intro i a e; exact nomatch e), fun a z => x1.alloc a z⟩
    exact hd.rt d v H4 this.kb r h
  · intro σ' H' ⟨own', ρ', x', fr', hgo⟩
    rw [List.drop_length] at hgo
    exact hd.nx own' σ' H' ρ' x' (out fr') hgo
theorem vs_while {c : Expr} {t : FT} (n : Nat) (hc : VT F O c t) (hb : VSs F O body b) (hp : ∀ i, PassesOwn (model (F.X i).prog (F.X i).w) (F.X i).A (F.X i).env (F.X i).xe := by intro _; exact PassesOwn.never) : VS F O (.While c body [] pos) (sWhile n t b) := by
  obtain ⟨tc, pc, gc⟩ := hc
  obtain ⟨tb, pb, gb⟩ := hb
  refine ⟨_, fun i => ps_while (hp i) (pc i) (pb i), fun M π H0 B own σ H ρ P D x fr hf hd => ?_⟩
  refine ⟨fun m σ H => ∃ (own : Own) (ρ : Ren), EnvOk F.K M π O own σ H ρ ∧ Fr0 M π H0 B own H ∧ whGo t b P m ρ, ⟨n, own, ρ, x, fr, hf⟩, fun m σ H ⟨own, ρ, x, fr, hg⟩ => ?_⟩
  cases m with
  | zero => exact hg.elim
  | succ m =>
    refine gc M π own σ H ρ _ _ x hg fun c H1 k1 h1 => ?_
    cases c with
    | true =>
      rw [if_pos rfl] at h1 ⊢
      refine ⟨fun σ H => ∃ (own : Own) (ρ : Ren), EnvOk F.K M π O own σ H ρ ∧ Fr0 M π H0 B own H ∧ whGo t b P m ρ, fun σ' H' h => ⟨m, Nat.lt_succ_self m, h⟩, ?_⟩
      exact gb M π H0 B own σ H1 ρ _ _ (x.keep k1) (fr.step k1) h1 ⟨fun own4 σ4 H4 ρ4 x4 fr4 h4 => ⟨own4, ρ4, x4, fr4, h4⟩, hd.rt, hd.nx, fun own4 σ4 H4 ρ4 x4 fr4 h4 => ⟨own4, ρ4, x4, fr4, h4⟩⟩
    | false =>
      rw [if_neg Bool.false_ne_true] at h1 ⊢
      exact hd.nx own σ H1 ρ (x.keep k1) (fr.step k1) h1
theorem vs_brk : VS F O (.Break pos) sBrk := ⟨_, fun _ => ps_break, fun M π H0 B own σ H ρ P D x fr hf hd => hd.bk own σ H ρ x fr hf⟩
theorem vs_pass : VS F O (.Pass pos) sSkip := ⟨_, fun _ => ps_pass, fun M π H0 B own σ H ρ P D x fr hf hd => hd.nx own σ H ρ x fr hf⟩
/-- an own list is written -/
theorem EnvOk.putO {K : PySem.W.Frag} {M : Addr → Prop} {π : Pi} {own : Own} {σ : L2.St} {H : Hp} {ρ : Ren} {j : Nat} {a : Addr} {d : D} {u : HO} (x : EnvOk K M π O own σ H ρ) (hj : own j = some a) {d0 : D} (h0 : ρ[j]? = some (some d0))
    (r : OwnRep K (Bar M own) π (upd H a u) a d) : EnvOk K M π O own σ (upd H a u) (ρ.set j (some d)) := by
  have hO := (x.own1 j a hj).1
  have nM := (x.own1 j a hj).2.2
  have hh : Hold (Bar M own) H (upd H a u) := fun b o q nb => by
    rw [upd_ne (fun z => nb (.inr ⟨j, by rw [z]; exact hj⟩))]
    exact q
  have al : ∀ b, (∃ o, H b = some o) → ∃ o, upd H a u b = some o := fun b ⟨o, q⟩ => by
    by_cases z : b = a
    · exact ⟨u, by rw [z]; exact upd_same⟩
    · exact ⟨o, by rw [upd_ne z]; exact q⟩
  refine ⟨fun b z => al b (x.alloc b z), fun p e => ⟨(x.pool p e).1, (x.pool p e).2.other (fun z => nM (by rw [← z]; exact (x.pool p e).1.1)) (fun z => nM (by rw [← z]; exact (x.pool p e).1.2))⟩, fun i b e => ⟨(x.own1 i b e).1, al b (x.own1 i b e).2.1, (x.own1 i b e).2.2⟩, x.inj, by simp [x.len], fun i d' e => ?_⟩
  by_cases h : j = i
  · subst h
    by_cases hlt : j < ρ.length
    · rw [List.getElem?_set_self hlt] at e
      cases e
      obtain ⟨v, e1, h1⟩ := x.slot j d0 h0
      rw [if_pos hO] at h1
      obtain ⟨c, e2, e3, _⟩ := h1
      rw [hj] at e2
      cases e2
      exact ⟨v, e1, by rw [if_pos hO]; exact ⟨a, hj, e3, r⟩⟩
    · rw [List.getElem?_eq_none (by simpa using Nat.le_of_not_lt hlt)] at e
      cases e
  · rw [List.getElem?_set_ne h] at e
    obtain ⟨v, e1, h1⟩ := x.slot i d' e
    refine ⟨v, e1, ?_⟩
    by_cases hOi : O i = true
    · rw [if_pos hOi] at h1 ⊢
      obtain ⟨c, e2, e3, h1⟩ := h1
      refine ⟨c, e2, e3, ?_⟩
      have ne : c ≠ a := fun z => h (x.inj j i a hj (z ▸ e2))
      cases d' with
      | lst l => obtain ⟨xs, q, r⟩ := h1; exact ⟨xs, by rw [upd_ne ne]; exact q, RepL.hold hh (fun _ z => .inl z) _ _ r⟩
      | dct l => obtain ⟨xs, q, r⟩ := h1; exact ⟨xs, by rw [upd_ne ne]; exact q, RepK.hold hh (fun _ z => .inl z) _ _ r⟩
      | _ => exact h1
    · rw [if_neg hOi] at h1 ⊢
      exact Rep.hold hh (fun _ z => .inl z) _ _ h1

theorem Fr0.putO {M : Addr → Prop} {π : Pi} {H0 H : Hp} {B : Addr → Prop} {own : Own} {j : Nat} {a : Addr} {u : HO} (fr : Fr0 M π H0 B own H) (hj : own j = some a) (hp : ∀ p, π = some p → PoolAt (upd H a u) p) : Fr0 M π H0 B own (upd H a u) := by
  refine ⟨⟨fun b o q nB np => ?_, hp⟩, fr.newo, fr.old⟩
  rw [upd_ne]
  · exact fr.kb.keep b o q nB np
  · intro z
    rcases fr.newo j a hj with z2 | z2
    · exact nB (by rw [z]; exact z2)
    · rw [z, z2] at q; cases q
/-- x.append(e) -/
theorem vs_app (j : Nat) {y : Str} {p2 p3 : Pos} (h : ∀ i, PE (F.X i) (.Name y p2) (tVar j)) (hO : O j = true) (he : VE F O e f)
    (hbase : ∀ i, attributeBase (.Name y p2) "append" (F.X i).env (eval (.Name y p2) (F.X i).env) = eval (.Name y p2) (F.X i).env := by intro _; rfl)
    (hfew : ∀ i, ((backTo p (starEach [e] (F.X i).env)).all (fun x => !x.1) && (backToKw p (keywordEach [] (F.X i).env)).all (fun x => x.1.isSome)
      && decide ([e].length + ([] : List Keyword).length + (if ([] : List Keyword).isEmpty then 0 else 1) < 30)) = true := by intro _; rfl)
    (hline : (p3.endLine == p.line) = true := by rfl) (hs : ∀ i, starEach [e] (F.X i).env = [(false, eval e (F.X i).env)] := by intro _; rfl)
    (hw : ∀ i, swapsWith (.Call (.Attribute (.Name y p2) "append" p3) [e] [] p) none pos.line (F.X i).env = pure false := by intro _; rfl) :
    VS F O (.Expr (.Call (.Attribute (.Name y p2) "append" p3) [e] [] p) pos) (sApp j f) := by
  obtain ⟨t, pt, g⟩ := he
  refine ⟨tDrop (tBM F.K "list" rAppend (tVar j) (tCons t tNil)), fun i => ?_, fun M π H0 B own σ H ρ P D x fr hf hd => ?_⟩
  · rw [← F.hK i]
    exact ps_expr (pe_bm PySem.F.plainAttrs_list PySem.F.slot_list_append PySem.F.type_list_append mt_append (h i) (pa_cons (pt i) pa_nil (hs i)) (hbase i) (hfew i) hline (hs i) (by rfl)) (hw i)
  · unfold sApp at hf
    split at hf
    · rename_i l e0
      obtain ⟨v, e1, h1⟩ := x.slot j (.lst l) e0
      rw [if_pos hO] at h1
      obtain ⟨a, e2, e3, xs, q, r⟩ := h1
      subst e3
      refine ⟨.ref a, e1, .inl ⟨rfl, xs, SqL.of q⟩, g M π own σ H ρ _ _ x hf fun d v H1 k1 r1 h1 => ?_⟩
      have x1 := x.keep k1
      have q1 : H1 a = some (.lst xs) := k1.same _ _ q (x.notpool e2)
      have r' := r.keep x.ctx k1
      have hlen := r.length
      refine ⟨a, xs, v, rfl, rfl, q1, by rw [hlen, sizeLine_eq]; exact h1.1, ?_⟩
      have hh : Hold (Bar M own) H1 (upd H1 a (.lst (xs ++ [v]))) := fun b o q nb => by
        rw [upd_ne (fun z => nb (.inr ⟨j, by rw [z]; exact e2⟩))]
        exact q
      have x2 := x1.putO (u := .lst (xs ++ [v])) e2 e0 (d := .lst (l ++ [d])) ⟨_, upd_same, RepL.hold hh (fun _ z => .inl z) _ _ (r'.snoc r1)⟩
      exact hd.nx own σ _ _ x2 ((fr.step k1).putO e2 fun p e => (x2.pool p e).2) h1.2
    · exact hf.elim

/-- x.extend(e) -/
theorem vs_ext (j : Nat) {y : Str} {p2 p3 : Pos} (h : ∀ i, PE (F.X i) (.Name y p2) (tVar j)) (hO : O j = true) (he : VR F O e f)
    (hbase : ∀ i, attributeBase (.Name y p2) "extend" (F.X i).env (eval (.Name y p2) (F.X i).env) = eval (.Name y p2) (F.X i).env := by intro _; rfl)
    (hfew : ∀ i, ((backTo p (starEach [e] (F.X i).env)).all (fun x => !x.1) && (backToKw p (keywordEach [] (F.X i).env)).all (fun x => x.1.isSome)
      && decide ([e].length + ([] : List Keyword).length + (if ([] : List Keyword).isEmpty then 0 else 1) < 30)) = true := by intro _; rfl)
    (hline : (p3.endLine == p.line) = true := by rfl) (hs : ∀ i, starEach [e] (F.X i).env = [(false, eval e (F.X i).env)] := by intro _; rfl)
    (hw : ∀ i, swapsWith (.Call (.Attribute (.Name y p2) "extend" p3) [e] [] p) none pos.line (F.X i).env = pure false := by intro _; rfl) :
    VS F O (.Expr (.Call (.Attribute (.Name y p2) "extend" p3) [e] [] p) pos) (sExt j f) := by
  obtain ⟨t, pt, g⟩ := he
  refine ⟨tDrop (tBM F.K "list" (rExtendA F.K) (tVar j) (tCons t tNil)), fun i => ?_, fun M π H0 B own σ H ρ P D x fr hf hd => ?_⟩
  · rw [← F.hK i]
    exact ps_expr (pe_bm PySem.F.plainAttrs_list PySem.F.slot_list_extend PySem.F.type_list_extend mt_extendA (h i) (pa_cons (pt i) pa_nil (hs i)) (hbase i) (hfew i) hline (hs i) (by rfl)) (hw i)
  · unfold sExt at hf
    split at hf
    · rename_i l e0
      obtain ⟨v, e1, h1⟩ := x.slot j (.lst l) e0
      rw [if_pos hO] at h1
      obtain ⟨a, e2, e3, xs, q, r⟩ := h1
      subst e3
      refine ⟨.ref a, e1, .inl ⟨rfl, xs, SqL.of q⟩, g M π own σ H ρ _ _ x hf fun d v H1 k1 r1 h1 => ?_⟩
      have x1 := x.keep k1
      have q1 : H1 a = some (.lst xs) := k1.same _ _ q (x.notpool e2)
      have r' := r.keep x.ctx k1
      have hlen := r.length
      cases d with
      | lst m =>
        obtain ⟨b, zs, eb, _, qb, rb⟩ := r1
        subst eb
        have hlen2 := rb.length
        refine .inl ⟨a, b, xs, zs, rfl, rfl, q1, qb, by rw [hlen, hlen2, sizeLine_eq]; exact h1.1, ?_⟩
        have hh : Hold (Bar M own) H1 (upd H1 a (.lst (xs ++ zs))) := fun b o q nb => by
          rw [upd_ne (fun z => nb (.inr ⟨j, by rw [z]; exact e2⟩))]
          exact q
        have x2 := x1.putO (u := .lst (xs ++ zs)) e2 e0 (d := .lst (l ++ m)) ⟨_, upd_same, RepL.hold hh (fun _ z => .inl z) _ _ (r'.append rb)⟩
        exact hd.nx own σ _ _ x2 ((fr.step k1).putO e2 fun p e => (x2.pool p e).2) h1.2
      | tup m =>
        obtain ⟨b, zs, eb, qb, rb⟩ := r1.tup
        subst eb
        have hlen2 := rb.length
        refine .inr ⟨a, b, xs, zs, rfl, rfl, q1, qb, by rw [hlen, hlen2, sizeLine_eq]; exact h1.1, ?_⟩
        have hh : Hold (Bar M own) H1 (upd H1 a (.lst (xs ++ zs))) := fun b o q nb => by
          rw [upd_ne (fun z => nb (.inr ⟨j, by rw [z]; exact e2⟩))]
          exact q
        have x2 := x1.putO (u := .lst (xs ++ zs)) e2 e0 (d := .lst (l ++ m)) ⟨_, upd_same, RepL.hold hh (fun _ z => .inl z) _ _ (r'.append rb)⟩
        exact hd.nx own σ _ _ x2 ((fr.step k1).putO e2 fun p e => (x2.pool p e).2) h1.2
      | _ => exact h1.elim
    · exact hf.elim
end
/-! ### a def -/
structure Ent (k : Nat) (qual : Str) (scope : Scope) (f : Addr) where
  cdv : Value
  A : Around
  outer : List Env
  s : Shared
  H : Hp
  E : XK
  hr : Room k (A.deeper (envOfC qual scope s.heap.objs.size f cdv))
/-- a def's body at any call -/
def famD (P : Program) (w : World) (K : PySem.W.Frag) (mg : Str → Option Value) (base : Heap) (N : List Str) (qual : Str) (scope : Scope) (f : Addr) (k : Nat) : Fam where
  ι := Ent k qual scope f
  X := fun z => (cxOf L2.CX0 P w K mg base N qual scope f z.cdv z.A z.outer z.s z.H z.E).nox
  P := P
  w := w
  K := K
  mg := mg
  base := base
  N := N
  k := k
  hP := fun _ => rfl
  hw := fun _ => rfl
  hK := fun _ => rfl
  hmg := fun _ => rfl
  hbase := fun _ => rfl
  hN := fun _ => rfl
  calm := fun _ => rfl
  room := fun z => z.hr
theorem get_start {N : List Str} {vs : List V} {i : Nat} {v : V} (h : vs[i]? = some v) : (L2.start N vs)[i]? = some (some v) := by
  unfold L2.start
  have hl : i < vs.length := (List.getElem?_eq_some_iff.mp h).1
  rw [List.getElem?_append_left (by simpa using hl), List.getElem?_map, h]
  rfl
theorem ok_def {P : Program} {w : World} {K : PySem.W.Frag} {mg : Str → Option Value} {base : Heap} {x qual : Str} {params : Arguments} {body : List Stmt} {scope : Scope} {f : Addr} {fd : FuncData} {N ps : List Str} {k : Nat} {O : Nat → Bool} {b : FS} {n p : Nat}
    (F : FunD K x qual params body scope [] [] f fd) (S : FnScope N ps scope) (hn : N.length = n) (hp : ps.length = p) (hO : ∀ i, i < p → O i = false) (hle : p ≤ n) (hb : VSs (famD P w K mg base N qual scope f k) O body b) :
    FnOk P w K mg base L2.CX0 (k + 1) f fd ps (spD K (fnD n p b)) := by
  subst hn hp
  obtain ⟨t, pt, g⟩ := hb
  refine F.ok S (fun vs H Q E h => ?_) (fun cdv A outer s H vs Q E hr h => ?_)
  · obtain ⟨N', π, ds, R, c, r, h, _⟩ := h
    rw [r.length]
    exact h.1
  · obtain ⟨M, π, ds, R, c, r, ⟨h1, h2⟩, hq⟩ := h
    refine ⟨t, PSs.nox (pt ⟨cdv, A, outer, s, H, E, hr⟩), ?_⟩
    have hl := r.length
    refine g M π H (fun _ => False) (fun _ => none) (L2.start N vs) H _ _ _ ⟨c.alloc, c.pool, (by intro i a e; exact nomatch e), (by intro i j a e; exact nomatch e), ?_, fun i d e => ?_⟩ ⟨⟨fun a o q _ _ => q, fun p e => (c.pool p e).2⟩, (by intro i a e; exact nomatch e), c.alloc⟩ h2 ⟨fun own σ H' ρ x fr h => ?_, fun d v H' kb r' h => ?_, fun _ _ _ _ _ _ h => h.elim, fun _ _ _ _ _ _ h => h.elim⟩
    · unfold L2.start
      simp only [List.length_append, List.length_map, List.length_replicate]
      omega
    · have hi : i < ds.length := by
        rcases Nat.lt_or_ge i ds.length with z | z
        · exact z
        · rw [List.getElem?_append_right (by simpa using z)] at e
          have := List.mem_of_getElem? e
          have := List.eq_of_mem_replicate this
          cases this
      rw [List.getElem?_append_left (by simpa using hi), List.getElem?_map] at e
      have ed : ds[i]? = some d := by
        rw [List.getElem?_eq_getElem hi] at e ⊢
        simpa using e
      obtain ⟨v, ev, rv⟩ := r.get ed
      refine ⟨v, get_start ev, ?_⟩
      rw [if_neg (by rw [hO i (by omega)]; decide)]
      exact Rep.hold (Hold.refl _ _) (fun a z => z.elim .inl (by intro ⟨_, e⟩; exact nomatch e)) _ _ rv
    · exact hq .non _ H' ⟨fun a o q n => fr.kb.keep a o q (fun z => z) n, fr.kb.pool⟩ rfl h
    · exact hq d v H' ⟨fun a o q n => kb.keep a o q (fun z => z) n, kb.pool⟩ r' h
end Fn
end P_FT
section P_FG
set_option maxHeartbeats 4000000
/-! Comprehensions of any number of clauses. -/
namespace Fn
open PySem PySem.Spec PyProof.Rows L2
/-- the comprehension e: its clauses, and what an element does -/
structure Kd (e : Expr) (gens : List Comprehension) (emit : Value → Env → Sem Unit) : Prop where
  cl : clausesOf e = gens
  und : ∀ (A : Around) (k : Nat) (itv acc : Value) (env : Env), A.under (.compLoop e k itv acc env) = A ∧ A.under (.compStart e k itv acc env) = A
  den : ∀ (prog : Program) (w : World) (k : Nat) (itv acc : Value) (env : Env), (model prog w).den (.compLoop e k itv acc env) = (compTurn e k itv acc env).onRaise (fun x => do noteFrame x env; theTreesLotGoes x) ∧
    (model prog w).den (.compStart e k itv acc env) = (compStart e k itv acc env).onRaise (fun x => do noteFrame x env; standAt theWindowsPlace)
  last : ∀ {k : Nat} {t i : Expr} {ifs : List Expr}, gens[k]? = some ⟨t, i, ifs, 0⟩ → gens[k + 1]? = none → ∀ (itv acc : Value) (env : Env), compTurn e k itv acc env = (do
      standAt i.pos
      match ← pyNext itv with
      | none => pure (.done .next)
      | some v =>
        letOwnedTupleGo t itv v
        assign t env v
        let mut ok := true
        for c in ifs do
          if ok then ok ← isTrue c env (eval c env)
        if ok then
          emit acc env
        again (.compLoop e k itv acc env))
  next : ∀ {k : Nat} {t i t1 i1 : Expr} {ifs ifs1 : List Expr}, gens[k]? = some ⟨t, i, ifs, 0⟩ → gens[k + 1]? = some ⟨t1, i1, ifs1, 0⟩ → ∀ (itv acc : Value) (env : Env), compTurn e k itv acc env = (do
      standAt i.pos
      match ← pyNext itv with
      | none => pure (.done .next)
      | some v =>
        letOwnedTupleGo t itv v
        assign t env v
        let mut ok := true
        for c in ifs do
          if ok then ok ← isTrue c env (eval c env)
        if ok then
          let x ← eval i1 env
          standAt i1.pos
          let x ← foldedSetIterable i1 env x
          let _ ← runOwn (.compStart e (k + 1) (← holding [x] (pyIter x)) acc env) env
        again (.compLoop e k itv acc env))
theorem kd_list (elt : Expr) (gens : List Comprehension) (scope : Scope) (pos : Pos) : Kd (.ListComp elt gens scope pos) gens (fun acc env => do let _ ← call (.builtin "list.append") [acc, ← eval elt env]) where
  cl := rfl
  und := fun _ _ _ _ _ => ⟨rfl, rfl⟩
  den := fun _ _ _ _ _ _ => ⟨rfl, rfl⟩
  last := fun hg hn itv acc env => by
    unfold compTurn
    simp only [hg, hn]
    rfl
  next := fun hg hn itv acc env => by
    unfold compTurn
    simp only [hg, hn]
    rfl
theorem kd_set (elt : Expr) (gens : List Comprehension) (scope : Scope) (pos : Pos) : Kd (.SetComp elt gens scope pos) gens (fun acc env => do let v ← eval elt env; standAt elt.pos; let _ ← call (.builtin "set.add") [acc, v]) where
  cl := rfl
  und := fun _ _ _ _ _ => ⟨rfl, rfl⟩
  den := fun _ _ _ _ _ _ => ⟨rfl, rfl⟩
  last := fun hg hn itv acc env => by
    unfold compTurn
    simp only [hg, hn]
    rfl
  next := fun hg hn itv acc env => by
    unfold compTurn
    simp only [hg, hn]
    rfl
section
variable {prog : Program} {w : World} {A : Around} {R : Result → Shared → Prop} {s : Shared} {e : Expr} {gens : List Comprehension} {emit : Value → Env → Sem Unit} {acc : Value} {env : Env} {k : Nat} {t i t1 i1 : Expr} {ifs ifs1 : List Expr}
abbrev testsT (ifs : List Expr) (env : Env) : Sem Bool := forIn ifs true fun c r => if r = true then do let ok ← isTrue c env (eval c env); pure (ForInStep.yield ok) else pure (ForInStep.yield r)
/-- a clause's loop: cont tells what is asked where the tests hold -/
theorem loopK {itv : Value} (kd : Kd e gens emit) (hg : gens[k]? = some ⟨t, i, ifs, 0⟩) (I : Nat → Shared → Prop) (cont : Nat → Shared → Prop)
    (hc : ∀ n s, cont n s → (gens[k + 1]? = none ∧ wpAny (model prog w) A (emit acc env) (fun _ s' => ∃ m, m < n ∧ I m s') (fun _ _ => False) s) ∨
      ∃ t1 i1 ifs1, gens[k + 1]? = some ⟨t1, i1, ifs1, 0⟩ ∧ (∀ x, foldedSetIterable i1 env x = pure x) ∧ wpAny (model prog w) A (eval i1 env) (fun x s₄ => wpAny (model prog w) A (pyIter x) (fun it1 s₅ =>
        codeAny (model prog w) A (.compStart e (k + 1) it1 acc env) (fun r s' => match r with
          | .ok _ => ∃ m, m < n ∧ I m s'
          | .error _ => False) s₅) (fun _ _ => False) s₄) (fun _ _ => False) s)
    (hk : (∃ t1 i1 ifs1, gens[k + 1]? = some ⟨t1, i1, ifs1, 0⟩) ∨ gens[k + 1]? = none)
    (turn : ∀ n s, I n s → wpAny (model prog w) A (pyNext itv) (fun r s₁ => match r with
      | none => R (.ok .next) s₁
      | some v => wpAny (model prog w) A (letOwnedTupleGo t itv v) (fun _ s₁' => wpAny (model prog w) A (assign t env v) (fun _ s₂ =>
          wpAny (model prog w) A (testsT ifs env) (fun ok s₃ => if ok = true then cont n s₃ else ∃ m, m < n ∧ I m s₃) (fun _ _ => False) s₂) (fun _ _ => False) s₁') (fun _ _ => False) s₁) (fun _ _ => False) s)
    (n : Nat) (h : I n s) : codeAny (model prog w) A (.compLoop e k itv acc env) R s := by
  refine codeAny_loop rfl I (fun n s hI => ?_) n h
  rw [(kd.und A k itv acc env).1, (kd.den prog w k itv acc env).1]
  refine wpAny_noted ?_
  have ff : ∀ {α : Type} {T : Sem α} {Q : α → Shared → Prop} {E : Value → Shared → Prop} {s : Shared}, wpAny (model prog w) A T Q (fun _ _ => False) s → wpAny (model prog w) A T Q E s := fun h => wpAny_mono h (fun _ _ z => z) fun _ _ z => z.elim
  rcases hk with ⟨t1, i1, ifs1, hn⟩ | hn
  · rw [kd.next hg hn]
    refine wpAny_bind (wpAny_standAt (wpAny_bind (wpAny_mono (ff (turn n s hI)) (fun r s₁ h₁ => ?_) fun _ _ h' => h')))
    cases r with
    | none => exact wpAny_pure h₁
    | some v =>
      refine wpAny_bind (wpAny_mono (ff h₁) (fun _ s₁' h₁' => ?_) fun _ _ h' => h')
      refine wpAny_bind (wpAny_mono (ff h₁') (fun _ s₂ h₂ => wpAny_bind (wpAny_mono (ff h₂) (fun ok s₃ h₃ => ?_) fun _ _ h' => h')) fun _ _ h' => h')
      cases ok with
      | false => exact wpAny_pure ⟨rfl, h₃⟩
      | true =>
        rcases hc n s₃ h₃ with ⟨hn', _⟩ | ⟨t2, i2, ifs2, hn', hs, h₃⟩
        · rw [hn] at hn'; cases hn'
        · rw [hn] at hn'
          cases hn'
          refine wpAny_bind (wpAny_mono (ff h₃) (fun x s₄ h₄ => ?_) fun _ _ h' => h')
          refine wpAny_bind (wpAny_standAt (wpAny_bind (wpAny_of_eq (hs x) (wpAny_bind (wpAny_holding (wpAny_mono (ff h₄) (fun it1 s₅ h₅ => ?_) fun _ _ h' => h'))))))
          refine wpAny_bind (wpAny_runOwn ?_)
          rw [Around.mark_none]
          refine codeAny_mono h₅ fun r s' hr => ?_
          cases r with
          | ok f =>
            first
              | exact wpAny_pure ⟨rfl, hr⟩
              | exact wpAny_bind (wpAny_pure (wpAny_pure ⟨rfl, hr⟩))
          | error e => exact hr.elim
  · rw [kd.last hg hn]
    refine wpAny_bind (wpAny_standAt (wpAny_bind (wpAny_mono (ff (turn n s hI)) (fun r s₁ h₁ => ?_) fun _ _ h' => h')))
    cases r with
    | none => exact wpAny_pure h₁
    | some v =>
      refine wpAny_bind (wpAny_mono (ff h₁) (fun _ s₁' h₁' => ?_) fun _ _ h' => h')
      refine wpAny_bind (wpAny_mono (ff h₁') (fun _ s₂ h₂ => wpAny_bind (wpAny_mono (ff h₂) (fun ok s₃ h₃ => ?_) fun _ _ h' => h')) fun _ _ h' => h')
      cases ok with
      | false => exact wpAny_pure ⟨rfl, h₃⟩
      | true =>
        rcases hc n s₃ h₃ with ⟨_, h₃⟩ | ⟨t2, i2, ifs2, hn', _⟩
        · exact wpAny_bind (wpAny_mono (ff h₃) (fun _ s₅ h₅ => wpAny_pure ⟨rfl, h₅⟩) fun _ _ h' => h')
        · rw [hn] at hn'; cases hn'
/-- a clause's start -/
theorem startK {itv : Value} (kd : Kd e gens emit) (hg : gens[k]? = some ⟨t, i, ifs, 0⟩) (h0 : codeAny (model prog w) A (.compLoop e k itv acc env) R s)
    (h : wpAny (model prog w) A (pyIter itv) (fun it' s' => codeAny (model prog w) A (.compLoop e k it' acc env) R s') (notedBy (model prog w) A env fun x s' => R (.error x) s') s) :
    codeAny (model prog w) A (.compStart e k itv acc env) R s := by
  refine codeAny_of_tree ?_
  rw [(kd.und A k itv acc env).2, (kd.den prog w k itv acc env).2]
  refine wpAny_notedAt ?_
  unfold compStart
  rw [kd.cl, hg]
  show wpAny _ _ (ask >>= _) _ _ s
  refine wpAny_bind (wpAny_askSetting (wpAny_ite ?_))
  split
  · first
      | exact wpAny_bind (wpAny_pure (wpAny_pure (And.intro rfl h0)))
      | exact wpAny_pure (And.intro rfl h0)
  · first
      | exact wpAny_bind (wpAny_rule (wpAny_bind (wpAny_standAt (wpAny_bind (wpAny_mono h (fun it' s' h' => wpAny_pure (And.intro rfl h')) fun _ _ x => x)))))
      | (refine wpAny_bind (wpAny_rule ?_); show wpAny _ _ (standAt i.pos >>= _) _ _ s; exact wpAny_bind (wpAny_standAt (wpAny_bind (wpAny_mono h (fun it' s' h' => wpAny_pure (And.intro rfl h')) fun _ _ x => x))))
end
/-! ### the readings -/
abbrev TEm := L2.St → Hp → (Hp → Prop) → Prop
/-- one clause's loop from H to N; r: what follows the tests -/
def tLp (J : It) (g : TG) (tt : TT) (vs : List Nat) (r : TEm) : TEm := fun σ H N => ∃ W : Nat → Nat → Hp → Prop, (∃ m, W 0 m H) ∧ ∀ i m H, W i m H →
  (J.stop i H ∧ N H) ∨ (J.go i H ∧ ∃ N1 : Hp → Prop, (∀ H', N1 H' → ∃ m', m' < m ∧ W (i + 1) m' H') ∧ ∀ x H', J.yld i H x H' → g x (L2.wipe σ vs) H' fun σ2 H2 => L2.wipe σ2 vs = L2.wipe σ vs ∧ tt σ2 H2 fun b H3 =>
    if b = true then r σ2 H3 N1 else N1 H3)
abbrev ClR := TI × TG × TT × List Nat
def tCl (em : TEm) : List ClR → TEm
  | [] => em
  | (wi, g, tt, vs) :: cs => fun σ H N => wi σ H fun J H1 => tLp J g tt vs (tCl em cs) σ H1 N
/-- the clauses behind the k-th -/
inductive Cls (Y : Cx) : List Comprehension → List ClR → List Nat → Prop where
  | nil : Cls Y [] [] []
  | cons {t i : Expr} {ifs : List Expr} {gs : List Comprehension} {wi : TI} {g : TG} {tt : TT} {vs vs' : List Nat} {cs : List ClR} (hi : PI Y t i wi) (hg : PG Y t g) (ht : PTs Y ifs tt) (hs : ∀ x, foldedSetIterable i Y.env x = pure x) (hv : ∀ j ∈ vs', j ∈ vs) (h : Cls Y gs cs vs') :
      Cls Y (⟨t, i, ifs, 0⟩ :: gs) ((wi, g, tt, vs) :: cs) vs
section
variable {Y : Cx} {e : Expr} {gens : List Comprehension} {emit : Value → Env → Sem Unit} {acc : Value} {em : TEm}
/-- an element's work -/
def EmOk (Y : Cx) (emit : Value → Env → Sem Unit) (acc : Value) (em : TEm) : Prop := ∀ (pins : List (Addr × Obj)) (s : Shared) (σ : L2.St) (H : Hp) (N : Hp → Prop), Inv Y pins σ H s → em σ H N →
  wpAny (model Y.prog Y.w) Y.A (emit acc Y.env) (fun _ s' => ∃ H', Inv Y pins σ H' s' ∧ N H') (fun _ _ => False) s
theorem loop_ok (kd : Kd e gens emit) (hc : Y.calm = true) (he : EmOk Y emit acc em) (hx : Y.xe = fun _ _ => False) : ∀ (gs : List Comprehension) (cs : List ClR) (vs' : List Nat), Cls Y gs cs vs' → ∀ (k : Nat) (t i : Expr) (ifs : List Expr) (g : TG) (tt : TT) (vs : List Nat),
    gens[k]? = some ⟨t, i, ifs, 0⟩ → (∀ j, gens[k + 1 + j]? = gs[j]?) → PG Y t g → PTs Y ifs tt → (∀ j ∈ vs', j ∈ vs) →
    ∀ (pins : List (Addr × Obj)) (s : Shared) (σ : L2.St) (H : Hp) (N : Hp → Prop) (J : It) (fp : List Addr) (it : Addr) (tn : Nat → Heap → Prop), Inv Y pins σ H s → Turn Y.prog Y.w Y.K t J fp it tn → tn 0 s.heap → (∀ b ∈ fp, FpOk Y pins H b) → tLp J g tt vs (tCl em cs) σ H N →
    codeAny (model Y.prog Y.w) Y.A (.compLoop e k (.ref it) acc Y.env) (fun r s' => match r with
      | .ok _ => ∃ H', Inv Y pins (L2.wipe σ vs) H' s' ∧ N H'
      | .error _ => False) s := by
  intro gs
  induction gs with
  | nil =>
    intro cs vs' hcs k t i ifs g tt vs hg hd pg pt hv pins s σ H N J fp it tn I T st hf hw
    cases hcs
    obtain ⟨W, ⟨m0, w0⟩, turn⟩ := hw
    have hn : gens[k + 1]? = none := by simpa using hd 0
    have stat : ∀ {H' : Hp}, (∀ b ∈ fp, H' b = none) → ∀ b ∈ fp, FpOk Y pins H' b := fun hn b hb => ⟨hn b hb, (hf b hb).2⟩
    refine loopK kd hg (fun n s' => ∃ j H', Inv Y pins (L2.wipe σ vs) H' s' ∧ tn j s'.heap ∧ (∀ b ∈ fp, H' b = none) ∧ W j n H')
      (fun n s' => wpAny (model Y.prog Y.w) Y.A (emit acc Y.env) (fun _ s' => ∃ m, m < n ∧ ∃ j H', Inv Y pins (L2.wipe σ vs) H' s' ∧ tn j s'.heap ∧ (∀ b ∈ fp, H' b = none) ∧ W j m H') (fun _ _ => False) s')
      (fun n s' h => .inl ⟨hn, h⟩) (.inr hn) ?_ m0 ⟨0, H, I.weak (L2.wipe_length _ _) (fun j v e => (L2.wipe_some e).1), st, fun b hb => (hf b hb).1, w0⟩
    rintro n s2 ⟨j, H2, I2, st2, n2, w2⟩
    rcases turn j n H2 w2 with ⟨stop, nx⟩ | ⟨go, N1, hN1, step⟩
    · refine thnF (T.done Y rfl rfl rfl hc j _ s2 _ H2 (fun _ _ => False) I2 (stat n2) st2 stop) fun r s3 ⟨hr, I3⟩ => ?_
      subst hr
      exact ⟨H2, I3, nx⟩
    · refine thnF (T.item Y rfl rfl rfl hc j _ s2 _ H2 (fun _ _ => False) I2 (stat n2) st2 go) fun r s3 ⟨u1, hr, h3⟩ => ?_
      subst hr
      refine thnF h3 fun _ s4 ⟨x1, H4, I4, r4, y4, st4, n4⟩ => ?_
      have I4' := I4.pinned (stat n4) (T.obj _ _ st4)
      have pgr := pg.run _ s4 _ H4 x1 u1 _ I4' r4 (step x1 H4 y4)
      rw [hx] at pgr
      refine thnF pgr fun _ s5 ⟨σ5, H5, I5, hw5, q5⟩ => ?_
      have ptr := pt.run _ s5 σ5 H5 _ I5 q5
      rw [hx] at ptr
      refine thnF ptr fun b1 s6 ⟨H6, I6, q6⟩ => ?_
      have fin : ∀ {s' : Shared} {H' : Hp}, Inv Y (pins ++ pinsAt fp s4.heap) σ5 H' s' → N1 H' → ∃ m, m < n ∧ ∃ j H', Inv Y pins (L2.wipe σ vs) H' s' ∧ tn j s'.heap ∧ (∀ b ∈ fp, H' b = none) ∧ W j m H' := fun {s' H'} I' nx => by
        obtain ⟨m', hm, w'⟩ := hN1 H' nx
        have pin' : ∀ b ∈ fp, ∀ o, s4.heap.get? b = some o → s'.heap.get? b = some o ∧ H' b = none := fun b hb o e =>
          let z := I'.pin (b, o) (List.mem_append_right _ (List.mem_append_right _ (mem_pinsAt hb e)))
          ⟨z.1, z.2.1⟩
        refine ⟨m', hm, j + 1, H', I'.unpinned.weak (by rw [← hw5, L2.wipe_length]) (fun j v e => by rw [← hw5] at e; exact (L2.wipe_some e).1), T.keep _ _ _ st4 fun b hb o e => (pin' b hb o e).1, fun b hb => ?_, w'⟩
        obtain ⟨o, e, _⟩ := T.obj _ _ st4 b hb
        exact (pin' b hb o e).2
      cases b1 with
      | false =>
        simp only [Bool.false_eq_true, if_false] at q6 ⊢
        exact fin I6 q6
      | true =>
        simp only [if_true] at q6 ⊢
        exact thnF (he _ s6 σ5 H6 _ I6 q6) fun _ s7 ⟨H7, I7, nx⟩ => fin I7 nx
  | cons g1 gs ih =>
    intro cs vs' hcs k t i ifs g tt vs hg hd pg pt hv pins s σ H N J fp it tn I T st hf hw
    cases hcs with
    | @cons t1 i1 ifs1 _ wi1 g1' tt1 _ vs2 cs' hi1 hg1 ht1 hs1 hv1 hcs' =>
    obtain ⟨W, ⟨m0, w0⟩, turn⟩ := hw
    have hn : gens[k + 1]? = some ⟨t1, i1, ifs1, 0⟩ := by simpa using hd 0
    have hd' : ∀ j, gens[k + 1 + 1 + j]? = gs[j]? := fun j => by
      have := hd (j + 1)
      rw [show k + 1 + (j + 1) = k + 1 + 1 + j by omega] at this
      simpa using this
    have stat : ∀ {H' : Hp}, (∀ b ∈ fp, H' b = none) → ∀ b ∈ fp, FpOk Y pins H' b := fun hn b hb => ⟨hn b hb, (hf b hb).2⟩
    refine loopK kd hg (fun n s' => ∃ j H', Inv Y pins (L2.wipe σ vs) H' s' ∧ tn j s'.heap ∧ (∀ b ∈ fp, H' b = none) ∧ W j n H')
      (fun n s' => wpAny (model Y.prog Y.w) Y.A (eval i1 Y.env) (fun x s₄ => wpAny (model Y.prog Y.w) Y.A (pyIter x) (fun it1 s₅ =>
        codeAny (model Y.prog Y.w) Y.A (.compStart e (k + 1) it1 acc Y.env) (fun r s' => match r with
          | .ok _ => ∃ m, m < n ∧ ∃ j H', Inv Y pins (L2.wipe σ vs) H' s' ∧ tn j s'.heap ∧ (∀ b ∈ fp, H' b = none) ∧ W j m H'
          | .error _ => False) s₅) (fun _ _ => False) s₄) (fun _ _ => False) s')
      (fun n s' h => .inr ⟨t1, i1, ifs1, hn, hs1, h⟩) (.inl ⟨t1, i1, ifs1, hn⟩) ?_ m0 ⟨0, H, I.weak (L2.wipe_length _ _) (fun j v e => (L2.wipe_some e).1), st, fun b hb => (hf b hb).1, w0⟩
    rintro n s2 ⟨j, H2, I2, st2, n2, w2⟩
    rcases turn j n H2 w2 with ⟨stop, nx⟩ | ⟨go, N1, hN1, step⟩
    · refine thnF (T.done Y rfl rfl rfl hc j _ s2 _ H2 (fun _ _ => False) I2 (stat n2) st2 stop) fun r s3 ⟨hr, I3⟩ => ?_
      subst hr
      exact ⟨H2, I3, nx⟩
    · refine thnF (T.item Y rfl rfl rfl hc j _ s2 _ H2 (fun _ _ => False) I2 (stat n2) st2 go) fun r s3 ⟨u1, hr, h3⟩ => ?_
      subst hr
      refine thnF h3 fun _ s4 ⟨x1, H4, I4, r4, y4, st4, n4⟩ => ?_
      have I4' := I4.pinned (stat n4) (T.obj _ _ st4)
      have pgr := pg.run _ s4 _ H4 x1 u1 _ I4' r4 (step x1 H4 y4)
      rw [hx] at pgr
      refine thnF pgr fun _ s5 ⟨σ5, H5, I5, hw5, q5⟩ => ?_
      have ptr := pt.run _ s5 σ5 H5 _ I5 q5
      rw [hx] at ptr
      refine thnF ptr fun b1 s6 ⟨H6, I6, q6⟩ => ?_
      have fin : ∀ {σ9 : L2.St} {s' : Shared} {H' : Hp}, Inv Y (pins ++ pinsAt fp s4.heap) σ9 H' s' → (L2.wipe σ vs).length = σ9.length → (∀ (j : Nat) v, (L2.wipe σ vs)[j]? = some (some v) → σ9[j]? = some (some v)) → N1 H' → ∃ m, m < n ∧ ∃ j H', Inv Y pins (L2.wipe σ vs) H' s' ∧ tn j s'.heap ∧ (∀ b ∈ fp, H' b = none) ∧ W j m H' := fun {σ9 s' H'} I' hl hk nx => by
        obtain ⟨m', hm, w'⟩ := hN1 H' nx
        have pin' : ∀ b ∈ fp, ∀ o, s4.heap.get? b = some o → s'.heap.get? b = some o ∧ H' b = none := fun b hb o e =>
          let z := I'.pin (b, o) (List.mem_append_right _ (List.mem_append_right _ (mem_pinsAt hb e)))
          ⟨z.1, z.2.1⟩
        refine ⟨m', hm, j + 1, H', I'.unpinned.weak hl hk, T.keep _ _ _ st4 fun b hb o e => (pin' b hb o e).1, fun b hb => ?_, w'⟩
        obtain ⟨o, e, _⟩ := T.obj _ _ st4 b hb
        exact (pin' b hb o e).2
      have hl5 : (L2.wipe σ vs).length = σ5.length := by rw [← hw5, L2.wipe_length]
      cases b1 with
      | false =>
        simp only [Bool.false_eq_true, if_false] at q6 ⊢
        exact fin I6 hl5 (fun j v e => by rw [← hw5] at e; exact (L2.wipe_some e).1) q6
      | true =>
        simp only [if_true] at q6 ⊢
        have hir := hi1.run _ s6 σ5 H6 _ I6 q6
        rw [hx] at hir
        refine thnF hir fun xv s7 hx7 => thnF hx7 fun itv s8 h8 => ?_
        obtain ⟨it1, fp1, tn1, J1, H8, e1, I8, T1, st8, f8, w8⟩ := h8
        subst e1
        have lp := ih cs' vs2 hcs' (k + 1) t1 i1 ifs1 g1' tt1 vs' hn hd' hg1 ht1 hv1 _ s8 σ5 H8 N1 J1 fp1 it1 tn1 I8 T1 st8 f8 w8
        have lp' := codeAny_mono lp (R' := fun r s' => match r with
          | .ok _ => ∃ m, m < n ∧ ∃ j H', Inv Y pins (L2.wipe σ vs) H' s' ∧ tn j s'.heap ∧ (∀ b ∈ fp, H' b = none) ∧ W j m H'
          | .error _ => False) fun r s' hr => by
            cases r with
            | ok f =>
              obtain ⟨H9, I9, nx⟩ := hr
              refine fin I9 (by rw [hl5, L2.wipe_length]) (fun j v e => ?_) nx
              rw [← hw5] at e
              obtain ⟨e1, e2⟩ := L2.wipe_some e
              rw [L2.wipe_out fun z => e2 (hv j z)]
              exact e1
            | error e => exact hr
        exact startK kd hn lp' (T1.self Y.A 0 _ _ _ st8 lp')
end
section
variable {X : Cx}
/-- [elt for .. for ..], {elt for ..}: L the new object, ho L what it is at first -/
def tLn (wi : TI) (g : TG) (tt : TT) (vs : List Nat) (ho : Addr → HO) (em : Addr → TEm) (cs : List ClR) : TE := fun σ H Q => wi σ H fun J H1 => ∀ L, H1 L = none → tLp J g tt vs (tCl (em L) cs) σ (upd H1 L (ho L)) fun H2 => Q (.ref L) H2
theorem comp_core {pins : List (Addr × Obj)} {s : Shared} {σ : L2.St} {H : Hp} {Q : VK} {e : Expr} {gs : List Comprehension} {emit : Value → Env → Sem Unit} {newAcc : Sem Value} {ob : Obj} {ho : Addr → HO} {em : Addr → TEm} {tg iter : Expr} {ifs : List Expr} {scope : Scope} {own : List (Str × Nat)} {vs' : List Nat} {pos' : Pos} {wi : TI} {g : TG} {tt : TT} {cs : List ClR} {use : Option (Value → Sem Unit)} {Qf : Value → Shared → Prop}
    (kd : Kd e (⟨tg, iter, ifs, 0⟩ :: gs) emit)
    (hnew : ∀ (s : Shared) (Q : Value → Shared → Prop) (E : Value → Shared → Prop), Q (.ref s.heap.objs.size) { s with heap := s.heap.push ob } → wpAny (model X.prog X.w) X.A newAcc Q E s)
    (hob : ∀ (H : Hp) (h : Heap), sysModules < h.objs.size → ObjOk X.prog X.w H (h.push ob) h.objs.size (ho h.objs.size))
    (hc : X.calm = true) (hN : X.N.Nodup) (I : Inv X pins σ H s) (hi : PI X tg iter wi) (ok : BlkOk X.N X.env.scope scope own) (hv : ∀ i ∈ vs', i ∈ own.map (·.2))
    (hg : ∀ (s : Shared) (H : Hp) (C : Addr) (cl : List (Str × Addr)) (fp : List Addr), PG (X.blk s H scope (compEnvC scope cl C X.env) fp) tg g) (ht : ∀ (s : Shared) (H : Hp) (C : Addr) (cl : List (Str × Addr)) (fp : List Addr), PTs (X.blk s H scope (compEnvC scope cl C X.env) fp) ifs tt)
    (he : ∀ (L : Addr) (s : Shared) (H : Hp) (C : Addr) (cl : List (Str × Addr)) (fp : List Addr), EmOk (X.blk s H scope (compEnvC scope cl C X.env) fp) emit (.ref L) (em L)) (hs : ∀ x, foldedSetIterable iter X.env x = pure x)
    (hcs : ∀ (s : Shared) (H : Hp) (C : Addr) (cl : List (Str × Addr)) (fp : List Addr), Cls (X.blk s H scope (compEnvC scope cl C X.env) fp) gs cs vs')
    (h : tLn wi g tt (own.map (·.2)) ho em cs σ H Q)
    (hRR : ∀ D C s' m H', Inv X pins σ H' s' → Q (.ref D) H' → s'.heap.Ns C m → FpOk X pins H' C → compPost (model X.prog X.w) X.A X.xe use Qf (.ref D) C (.ok .next) s') :
    wpAny (model X.prog X.w) X.A (comprehension e scope X.env pos' newAcc false (eval iter X.env) use) Qf X.xe s := by
  have hfree : ∀ y ∈ scope.names, y.2 = .free → ∃ c, X.env.cells.lookup y.1 = some c := fun y hy e => by
    rcases ok.free y hy e with k | k
    · exact I.ok.has _ (.inl k)
    · exact I.ok.has _ (.inr k)
  refine wpAny_comprehension_free (use := use) kd.cl hs (closure_ok hfree) ok.kind (fun y hy e => by rw [ok.uniq y hy, e])
    (thn (hi.run pins s σ H _ I h) fun xv s1 hx => thn hx fun itv s2 h2 => ?_)
  obtain ⟨it, fp, tn, J, H2, eit, I2, T, st2, f2, q⟩ := h2
  subst eit
  refine hnew _ _ _ (newEnv_comp ?_)
  generalize hD : s2.heap.objs.size = D
  have hDn : H2 D = none := I2.hok.fresh (Nat.le_of_eq hD)
  have lp := q D hDn
  -- the new object
  generalize hs3 : ({ s2 with heap := s2.heap.push ob } : Shared) = s3
  have I3 : Inv X pins σ (upd H2 D (ho D)) s3 := by
    rw [← hs3]
    refine I2.laid (t' := s2.toks) (fun b o e => Heap.get?_push_of_some _ e) (Nat.le_of_eq hD) ?_
    rw [← hD]
    exact hob _ _ I2.big
  have h3 : s3.heap = s2.heap.push ob := by rw [← hs3]
  have sz : ∀ b ∈ fp, b < s2.heap.objs.size := fun b hb => by
    obtain ⟨o, e, _⟩ := T.obj _ _ st2 b hb
    exact Heap.lt_size e
  have f3 : ∀ b ∈ fp, FpOk X pins (upd H2 D (ho D)) b ∧ b < s3.heap.objs.size := fun b hb => by
    have hlt := sz b hb
    refine ⟨⟨?_, (f2 b hb).2⟩, by rw [h3, Heap.size_push]; exact Nat.lt_succ_of_lt hlt⟩
    rw [upd_ne (by rw [← hD]; exact Nat.ne_of_lt hlt)]
    exact (f2 b hb).1
  have st3 : tn 0 s3.heap := T.keep _ _ _ st2 fun b _ o e => by rw [h3]; exact Heap.get?_push_of_some _ e
  have I4 := block_start I3 ok hN f3
  have pg := hg s3 (upd H2 D (ho D)) s3.heap.objs.size (cellsFrom (s3.heap.objs.size + 1) scope.names (cloFrom X.env.cells scope.names [])) fp
  have pt := ht s3 (upd H2 D (ho D)) s3.heap.objs.size (cellsFrom (s3.heap.objs.size + 1) scope.names (cloFrom X.env.cells scope.names [])) fp
  have pe := he D s3 (upd H2 D (ho D)) s3.heap.objs.size (cellsFrom (s3.heap.objs.size + 1) scope.names (cloFrom X.env.cells scope.names [])) fp
  have pc := hcs s3 (upd H2 D (ho D)) s3.heap.objs.size (cellsFrom (s3.heap.objs.size + 1) scope.names (cloFrom X.env.cells scope.names [])) fp
  show codeAny _ _ (.compStart e 0 (.ref it) (.ref D) (compEnvC scope (cellsFrom (s3.heap.objs.size + 1) scope.names (cloFrom X.env.cells scope.names [])) s3.heap.objs.size X.env)) (compPost (model X.prog X.w) X.A X.xe use Qf (.ref D) s3.heap.objs.size) { s3 with heap := pushCells (s3.heap.push { cls := .type "dict", data := .dict #[] }) scope.names }
  have nfp : ∀ b ∈ fp, (upd H2 D (ho D)) b = none := fun b hb => (f3 b hb).1.1
  generalize hce : compEnvC scope (cellsFrom (s3.heap.objs.size + 1) scope.names (cloFrom X.env.cells scope.names [])) s3.heap.objs.size X.env = ce at I4 pg pt pe pc ⊢
  have cL : ce.locals = s3.heap.objs.size := by subst hce; rfl
  generalize hH3 : upd H2 D (ho D) = H3 at I3 I4 pg pt pe pc lp nfp f3
  generalize hs4 : ({ s3 with heap := pushCells (s3.heap.push { cls := .type "dict", data := .dict #[] }) scope.names } : Shared) = s4 at I4 ⊢
  have st4 : tn 0 s4.heap := T.keep _ _ _ st3 fun b _ o e => by rw [← hs4]; exact pushCells_keeps _ _ _ _ (Heap.get?_push_of_some _ e)
  have stat : ∀ b ∈ fp, FpOk (X.blk s3 H3 scope ce fp) [] H3 b := fun b hb =>
    ⟨nfp b hb, (I4.ok.exf b hb).1, I4.ok.exfs b hb, .inl hb, fun x c e => (I4.ok.exf b hb).2 x c e, fun p hp => absurd (show p ∈ ([] : List (Addr × Obj)) ++ [] from hp) (by simp)⟩
  have lp' : tLp J g tt (own.map (·.2)) (tCl (em D) cs) (L2.wipe σ (own.map (·.2))) H3 fun H2 => Q (.ref D) H2 := by
    obtain ⟨W, hm, turn⟩ := lp
    refine ⟨W, hm, fun i m H w => (turn i m H w).imp id fun ⟨a, N1, b, c⟩ => ⟨a, N1, b, fun x H' y => ?_⟩⟩
    rw [wipe_idem]
    exact c x H' y
  have loop := loop_ok (Y := X.blk s3 H3 scope ce fp) kd hc pe rfl gs cs vs' pc 0 tg iter ifs g tt (own.map (·.2)) rfl (fun j => by rw [show 0 + 1 + j = j + 1 by omega]; rfl) pg pt hv [] s4 _ H3 _ J fp it tn I4 T st4 stat lp'
  have loop' := codeAny_mono loop (R' := compPost (model X.prog X.w) X.A X.xe use Qf (.ref D) s3.heap.objs.size) fun r s6 hr => by
    cases r with
    | error x => exact hr.elim
    | ok f =>
      obtain ⟨H5, I6, qq⟩ := hr
      have I7 : Inv X pins σ H5 s6 := I3.call' (ch := fp) I6.os I6.base I6.hok I6.bare fun b hb => ⟨(f3 b hb).1.2.2.2.1, (f3 b hb).1.2.1, (f3 b hb).1.2.2.2.2.1, (f3 b hb).1.2.2.2.2.2⟩
      have nC : H5 s3.heap.objs.size = none := by
        have z : H5 ce.locals = none := I6.free
        rw [cL] at z
        exact z
      obtain ⟨m, hn, _⟩ := I6.loc
      have hn : s6.heap.Ns ce.locals m := hn
      rw [cL] at hn
      have hh := hRR D s3.heap.objs.size s6 m H5 I7 qq hn (I3.fpOk (Nat.le_refl _) nC)
      cases f <;> cases use <;> exact hh
  exact startK kd rfl loop' (T.self X.A 0 _ _ _ st4 loop')
/-- an element of a list -/
def emL (te : TE) (L : Addr) : TEm := fun σ H N => te σ H fun y H4 => ∃ acc, H4 L = some (.lst acc) ∧ acc.length < sizeLine ∧ N (upd H4 L (.lst (acc ++ [y])))
theorem emL_ok {Y : Cx} {elt : Expr} {te : TE} {L : Addr} (he : PE Y elt te) (hx : Y.xe = fun _ _ => False) : EmOk Y (fun acc env => do let _ ← call (.builtin "list.append") [acc, ← eval elt env]) (.ref L) (emL te L) := by
  intro pins s σ H N I h
  have pr := he.run pins s σ H _ I h
  rw [hx] at pr
  exact wpAny_bind (wpAny_mono pr (fun v s1 ⟨y, H1, I1, r1, acc, hA, hz, nx⟩ => wpAny_bind (wpAny_mono (app_ok (X := Y) (Q := fun _ s' => ∃ H', Inv Y pins σ H' s' ∧ N H') I1 hA hz r1 fun s2 I2 => ⟨_, I2, nx⟩) (fun _ _ q => wpAny_pure q) fun _ _ z => z)) fun _ _ z => z)
theorem listOb_ok {P : Program} {w : World} (H : Hp) (h : Heap) : ObjOk P w H (h.push { cls := .type "list", data := .seq ([] : List Value).toArray }) h.objs.size (.lst []) := ⟨Nat.zero_le _, [], 0, .nil, Heap.get?_push_size _ rfl⟩
theorem pe_lcN {elt tg iter : Expr} {ifs : List Expr} {gs : List Comprehension} {scope : Scope} {own : List (Str × Nat)} {vs' : List Nat} {pos : Pos} {wi : TI} {g : TG} {tt : TT} {te : TE} {cs : List ClR} (hc : X.calm = true) (hN : X.N.Nodup) (hi : PI X tg iter wi) (ok : BlkOk X.N X.env.scope scope own) (hv : ∀ i ∈ vs', i ∈ own.map (·.2))
    (hg : ∀ (s : Shared) (H : Hp) (C : Addr) (cl : List (Str × Addr)) (fp : List Addr), PG (X.blk s H scope (compEnvC scope cl C X.env) fp) tg g) (ht : ∀ (s : Shared) (H : Hp) (C : Addr) (cl : List (Str × Addr)) (fp : List Addr), PTs (X.blk s H scope (compEnvC scope cl C X.env) fp) ifs tt)
    (he : ∀ (s : Shared) (H : Hp) (C : Addr) (cl : List (Str × Addr)) (fp : List Addr), PE (X.blk s H scope (compEnvC scope cl C X.env) fp) elt te) (hs : ∀ x, foldedSetIterable iter X.env x = pure x)
    (hcs : ∀ (s : Shared) (H : Hp) (C : Addr) (cl : List (Str × Addr)) (fp : List Addr), Cls (X.blk s H scope (compEnvC scope cl C X.env) fp) gs cs vs') (hne : firstAsync (⟨tg, iter, ifs, 0⟩ :: gs) = false := by rfl) :
    PE X (.ListComp elt (⟨tg, iter, ifs, 0⟩ :: gs) scope pos) (tLn wi g tt (own.map (·.2)) (fun _ => .lst []) (emL te) cs) := by
  refine ⟨fun pins s σ H Q I h => ?_⟩
  rw [arm_eval_ListComp]
  refine comp_core (kd_list elt _ scope pos) (fun s Q E q => wpAny_newObj_type q (by show 0 ≤ sizeLine; decide)) (fun H h _ => listOb_ok H h) hc hN I hi ok hv hg ht (fun L s H C cl fp => emL_ok (he s H C cl fp) rfl) hs hcs h fun D C s' m H' I' q hn f => ⟨m, hn, fun h'' sb => ?_⟩
  obtain ⟨f0, f1, f2, f3, f4, f5⟩ := f
  exact ⟨.ref D, H', I'.turned (t' := s'.toks) (fun b o hb e => (sb.2 b hb).trans e) f0 f1 f3 f4 f5, rfl, q⟩
/-- name = [..] on one line, the name a local -/
theorem ps_setLcN {i : Nat} {y : Str} {py : Pos} {elt tg iter : Expr} {ifs : List Expr} {gs : List Comprehension} {scope : Scope} {own : List (Str × Nat)} {vs' : List Nat} {pos spos : Pos} {wi : TI} {g : TG} {tt : TT} {te : TE} {cs : List ClR} (hc : X.calm = true) (hN : X.N.Nodup) (hy : X.N[i]? = some y) (hyl : X.env.scope.names.lookup y = some .local)
    (hsw : swapsWith (.ListComp elt (⟨tg, iter, ifs, 0⟩ :: gs) scope pos) (some (.Name y py)) spos.line X.env = pure true) (hi : PI X tg iter wi) (ok : BlkOk X.N X.env.scope scope own) (hv : ∀ i ∈ vs', i ∈ own.map (·.2))
    (hg : ∀ (s : Shared) (H : Hp) (C : Addr) (cl : List (Str × Addr)) (fp : List Addr), PG (X.blk s H scope (compEnvC scope cl C X.env) fp) tg g) (ht : ∀ (s : Shared) (H : Hp) (C : Addr) (cl : List (Str × Addr)) (fp : List Addr), PTs (X.blk s H scope (compEnvC scope cl C X.env) fp) ifs tt)
    (he : ∀ (s : Shared) (H : Hp) (C : Addr) (cl : List (Str × Addr)) (fp : List Addr), PE (X.blk s H scope (compEnvC scope cl C X.env) fp) elt te) (hs : ∀ x, foldedSetIterable iter X.env x = pure x)
    (hcs : ∀ (s : Shared) (H : Hp) (C : Addr) (cl : List (Str × Addr)) (fp : List Addr), Cls (X.blk s H scope (compEnvC scope cl C X.env) fp) gs cs vs') :
    PS X (.Assign [.Name y py] (.ListComp elt (⟨tg, iter, ifs, 0⟩ :: gs) scope pos) spos) (tAsg (tLn wi g tt (own.map (·.2)) (fun _ => .lst []) (emL te) cs) (L2.gName i)) := by
  refine ⟨fun pins s σ H D I h => ?_⟩
  rw [exec_Assign_Name_used _ _ _ _ hsw]
  refine wpAny_bind (wpAny_standAt (wpAny_bind ?_))
  show wpAny _ X.A (do let _ ← comprehension (.ListComp elt (⟨tg, iter, ifs, 0⟩ :: gs) scope pos) scope X.env (firstIterPos (⟨tg, iter, ifs, 0⟩ :: gs) pos) (newList []) false (eval iter X.env) (some (assign (.Name y py) X.env))) _ _ s
  have h : tLn wi g tt (own.map (·.2)) (fun _ => .lst []) (emL te) cs σ H (fun x H1 => L2.gName i x σ H1 D.nx) := h
  refine wpAny_bind (thn (comp_core (Qf := fun _ s' => SP X pins D .next s') (kd_list elt _ scope pos) (fun s Q E q => wpAny_newObj_type q (by show 0 ≤ sizeLine; decide)) (fun H h _ => listOb_ok H h) hc hN I hi ok hv hg ht (fun L s H C cl fp => emL_ok (he s H C cl fp) rfl) hs hcs h fun L C s' m H' I' q hn f => ?_) fun _ s' hq => wpAny_pure (wpAny_pure hq))
  show wpAny _ _ (assign (.Name y py) X.env (.ref L)) _ _ _
  refine wpAny_assign_Name (store_ok2 (v := V.ref L) I' hN hy (.inl hyl) rfl (fun s2 I2 ⟨a, sb, ha⟩ => ?_) (.inr hyl))
  obtain ⟨f0, f1, f2, f3, f4, f5⟩ := f
  have haC : C ≠ a := by
    rcases ha with z | z
    · rw [z]; exact f1
    · exact fun e => f4 y a z e.symm
  refine ⟨m, hn.sameBut sb haC, fun h3 sb3 => ?_⟩
  exact ⟨_, H', I2.turned (t' := s2.toks) (fun b o hb e => (sb3.2 b hb).trans e) f0 f1 f3 f4 f5, q⟩
end
end Fn
end P_FG
section P_FH
set_option maxHeartbeats 4000000
/-! List comprehensions of any number of clauses, over data. -/
namespace Fn
open PySem PySem.Spec PyProof.Rows L2
theorem lp_it {J : It} {n : Nat} {G : Hp → Prop} {Y : Nat → Hp → V → Hp → Prop} (w : Walk J n G Y) {g : TG} {tt : TT} {vs : List Nat} {r : TEm} {σ : L2.St} {H : Hp} {N : Hp → Prop} (Pv : Nat → Hp → Prop) (h0 : Pv 0 H) (hG : ∀ i H, i ≤ n → Pv i H → G H)
    (hs : ∀ i x H H', i < n → Pv i H → Y i H x H' → g x (L2.wipe σ vs) H' fun σ2 H2 => L2.wipe σ2 vs = L2.wipe σ vs ∧ tt σ2 H2 fun b H3 => if b = true then r σ2 H3 (Pv (i + 1)) else Pv (i + 1) H3) (hd : ∀ H, Pv n H → N H) : tLp J g tt vs r σ H N := by
  refine ⟨fun i m H => m = n - i ∧ i ≤ n ∧ Pv i H, ⟨n, by simp, Nat.zero_le _, h0⟩, ?_⟩
  rintro i m H ⟨rfl, hi, p⟩
  have q := hG i H hi p
  by_cases hlt : i < n
  · exact .inr ⟨w.goes i H hlt q, Pv (i + 1), fun H' p' => ⟨n - (i + 1), by omega, rfl, hlt, p'⟩, fun x H' y => hs i x H H' hlt p (w.yields i H x H' hlt q y)⟩
  · have e : i = n := by omega
    subst e
    exact .inl ⟨w.stops H q, hd H p⟩
section
variable {K : PySem.W.Frag} {M : Addr → Prop} {π : Pi} {O : Nat → Bool} {own : Own} {σ : L2.St} {H H' : Hp} {ρ : Ren} {L : Addr}
theorem EnvOk.keepL (x : EnvOk K M π O own σ H ρ) (kb : KeepB π (· = L) H H') (hM : M L) (hL : ∃ o, H' L = some o) : EnvOk K M π O own σ H' ρ := by
  have hh : Hold (Bar M own) H H' := fun a o q nb => kb.keep a o q (fun z => nb (.inl (by rw [z]; exact hM))) fun z => nb (x.ctx.hp a z)
  have al : ∀ a, (∃ o, H a = some o) → ∃ o, H' a = some o := fun a ⟨o, q⟩ => by
    by_cases z : a = L
    · rw [z]; exact hL
    · by_cases zp : isPl π a
      · obtain ⟨l, zp⟩ := zp
        obtain ⟨_, _, _, _, _, q', _⟩ := kb.pool _ zp
        exact ⟨_, q'⟩
      · exact ⟨o, kb.keep a o q z zp⟩
  refine ⟨fun a z => al a (x.alloc a z), fun p e => ⟨(x.pool p e).1, kb.pool p e⟩, fun i a e => ⟨(x.own1 i a e).1, al a (x.own1 i a e).2.1, (x.own1 i a e).2.2⟩, x.inj, x.len, fun i d e => ?_⟩
  obtain ⟨v, e1, h⟩ := x.slot i d e
  refine ⟨v, e1, ?_⟩
  by_cases hO : O i = true
  · rw [if_pos hO] at h ⊢
    obtain ⟨a, e2, e3, h⟩ := h
    refine ⟨a, e2, e3, ?_⟩
    have na : a ≠ L := fun z => (x.own1 i a e2).2.2 (by rw [z]; exact hM)
    have np := x.notpool e2
    cases d with
    | lst l => obtain ⟨xs, q, r⟩ := h; exact ⟨xs, kb.keep _ _ q na np, RepL.hold hh (fun _ z => .inl z) _ _ r⟩
    | dct l => obtain ⟨xs, q, r⟩ := h; exact ⟨xs, kb.keep _ _ q na np, RepK.hold hh (fun _ z => .inl z) _ _ r⟩
    | _ => exact h
  · rw [if_neg hO] at h ⊢
    exact Rep.hold hh (fun _ z => .inl z) _ _ h
end
abbrev FL := Ren → Nat → (List D → Prop) → Prop
section
variable (K : PySem.W.Frag) (O : Nat → Bool) (L : Addr)
/-- what r adds to the list at L -/
def SemC (r : TEm) (c : FL) : Prop := ∀ M π (own : Own) (σ : L2.St) H ρ n ds acc (R : List D → Prop) (N : Hp → Prop), EnvOk K M π O own σ H ρ → M L → (∀ p, π = some p → p.1 ≠ L ∧ p.2 ≠ L) → H L = some (.lst acc) → RepL K (Bar M own) π H ds acc → ds.length + n ≤ 16777216 →
  c ρ n R → (∀ l acc' H', KeepB π (· = L) H H' → H' L = some (.lst acc') → RepL K (Bar M own) π H' (ds ++ l) acc' → l.length ≤ n → R l → N H') → r σ H N
end
section
variable {K : PySem.W.Frag} {O : Nat → Bool} {L : Addr}
theorem KeepB.trans {π : Pi} {B : Addr → Prop} {H H1 H2 : Hp} (x : KeepB π B H H1) (y : KeepB π B H1 H2) : KeepB π B H H2 := ⟨fun a o q n z => y.keep a o (x.keep a o q n z) n z, y.pool⟩
theorem Keep.toB {π : Pi} {B : Addr → Prop} {H H1 : Hp} (x : Keep π H H1) : KeepB π B H H1 := ⟨fun a o q _ z => x.same a o q z, x.pool⟩
theorem semC_el {te : TE} {fe : FE} (ge : SemE K O te fe) : SemC K O L (emL te L) (lcEl fe) := by
  intro M π own σ H ρ n ds acc R N x hM hp hA ra hlen hc hq
  have hsz : sizeLine = 16777216 := sizeLine_eq
  refine ge M π own σ H ρ _ _ x hc fun d v H1 k1 r1 h1 => ?_
  obtain ⟨hn, h1⟩ := h1
  have npl : ¬ isPl π L := fun ⟨l, z⟩ => (hp _ z).1 rfl
  have hA1 : H1 L = some (.lst acc) := k1.same _ _ hA npl
  have x1 := x.keep k1
  have ra1 := ra.keep x.ctx k1
  have hacc := ra.length
  refine ⟨acc, hA1, by omega, hq [d] (acc ++ [v]) _ ⟨fun a o q nL z => ?_, fun p e => (x1.pool p e).2.other (hp p e).1 (hp p e).2⟩ upd_same ?_ (by show 1 ≤ n; omega) h1⟩
  · rw [upd_ne nL]
    exact k1.same a o q z
  · refine RepL.hold (fun a u q nb => ?_) (fun _ z => .inl z) _ _ (ra1.snoc r1)
    rw [upd_ne (fun z => nb (.inl (by rw [z]; exact hM)))]
    exact q
theorem loop_sem {g : TG} {tt : TT} {G : FG} {ft : FT} {r : TEm} {c : FL} {vs S : List Nat} (hS : ∀ i ∈ S, i ∈ vs)
    (gg : ∀ M π (own : Own) (σ : L2.St) H ρ d v (R : Ren → Prop) (Q : L2.St → Hp → Prop), EnvOk K M π O own σ H ρ → RepI rr K (Bar M own) π H d v → G d ρ R →
      (∀ σ' ρ', EnvOk K M π O own σ' H ρ' → (∀ vs, (∀ i ∈ S, i ∈ vs) → L2.wipe σ' vs = L2.wipe σ vs) → R ρ' → Q σ' H) → g v σ H Q)
    (gt : SemT K O tt ft) (gc : SemC K O L r c) {M : Addr → Prop} {π : Pi} {own : Own} {σ : L2.St} {H1 Hs : Hp} {ρ : Ren} {C N : Addr → Prop} {n : Nat} {ds : List D} {acc : List V} {R : List D → Prop} {Nx : Hp → Prop} {items : List D} {J : It}
    (x : EnvOk K M π O own σ Hs ρ) (hM : M L) (hp : ∀ p, π = some p → p.1 ≠ L ∧ p.2 ≠ L) (hA : Hs L = some (.lst acc)) (ra : RepL K (Bar M own) π Hs ds acc) (hlen : ds.length + n ≤ 16777216)
    (hw : WalkD rr K C N π H1 items J) (hh : ∀ H, KeepB π (· = L) Hs H → Hold C H1 H) (hN : ∀ a, Bar M own a → N a ∨ H1 a = none) (hf : lcGo G ft c (Fn.wipe ρ vs) items n R)
    (hq : ∀ l acc' H', KeepB π (· = L) Hs H' → H' L = some (.lst acc') → RepL K (Bar M own) π H' (ds ++ l) acc' → l.length ≤ n → R l → Nx H') : tLp J g tt vs r σ Hs Nx := by
  obtain ⟨Gw, Y, w, gw, yw⟩ := hw
  have npl : ¬ isPl π L := fun ⟨l, z⟩ => (hp _ z).1 rfl
  refine lp_it w (fun i H => ∃ l acc', KeepB π (· = L) Hs H ∧ H L = some (.lst acc') ∧ RepL K (Bar M own) π H (ds ++ l) acc' ∧ l.length ≤ n ∧ EnvOk K M π O own σ H ρ ∧ lcGo G ft c (Fn.wipe ρ vs) (items.drop i) (n - l.length) fun l' => R (l ++ l')) ?_ ?_ ?_ ?_
  · exact ⟨[], acc, ⟨fun a o q _ _ => q, fun p e => (x.pool p e).2⟩, hA, by rw [List.append_nil]; exact ra, Nat.zero_le _, x, by simpa using hf⟩
  · intro i H hi ⟨l, acc', kb, _⟩
    exact gw H (hh H kb)
  · intro i y H H' hi ⟨l, acc', kb, hA', ra', hl, xe, hgo⟩ hy
    obtain ⟨k2, d, ed, rd⟩ := yw i H y H' hi (hh H kb) (fun p e => (xe.pool p e).2) hy
    have x2 := xe.keep k2
    have hdrop : items.drop i = d :: items.drop (i + 1) := by
      obtain ⟨h1, h2⟩ := List.getElem?_eq_some_iff.mp ed
      rw [← h2]
      exact List.drop_eq_getElem_cons h1
    rw [hdrop] at hgo
    have rdd : RepI rr K (Bar M own) π H' d y := rd _ fun a z => ⟨hN a z, xe.ctx.alloc a z⟩
    have hgo : G d (Fn.wipe ρ vs) (fun ρ' => ft ρ' fun b => if b = true then c ρ' (n - l.length) fun l1 => lcGo G ft c (Fn.wipe ρ vs) (items.drop (i + 1)) (n - l.length - l1.length) fun l2 => R (l ++ (l1 ++ l2)) else lcGo G ft c (Fn.wipe ρ vs) (items.drop (i + 1)) (n - l.length) fun l' => R (l ++ l')) := hgo
    refine gg M π own _ H' _ d y _ _ (x2.wipe vs) rdd hgo fun σ2 ρ2 x3 hws ht => ⟨?_, ?_⟩
    · rw [hws vs hS]
      exact wipe_idem
    refine gt M π own σ2 H' ρ2 _ _ x3 ht fun b H3 k3 hb => ?_
    have kb3 : KeepB π (· = L) Hs H3 := kb.trans ((k2.trans k3).toB)
    have hA3 : H3 L = some (.lst acc') := (k2.trans k3).same _ _ hA' npl
    have ra3 := (ra'.keep xe.ctx k2).keep x2.ctx k3
    cases b with
    | false =>
      rw [if_neg Bool.false_ne_true] at hb ⊢
      exact ⟨l, acc', kb3, hA3, ra3, hl, (xe.keep k2).keep k3, hb⟩
    | true =>
      rw [if_pos rfl] at hb ⊢
      refine gc M π own σ2 H3 ρ2 (n - l.length) (ds ++ l) acc' _ _ (x3.keep k3) hM hp hA3 ra3 (by rw [List.length_append]; omega) hb fun l1 acc4 H4 kb4 hA4 ra4 hl4 h4 => ?_
      refine ⟨l ++ l1, acc4, kb3.trans kb4, hA4, by rw [← List.append_assoc]; exact ra4, by rw [List.length_append]; omega, ((xe.keep k2).keep k3).keepL kb4 hM ⟨_, hA4⟩, ?_⟩
      rw [show n - (l ++ l1).length = n - l.length - l1.length by rw [List.length_append]; omega]
      simpa only [List.append_assoc] using h4
  · intro H ⟨l, acc', kb, hA', ra', hl, xe, hgo⟩
    rw [List.drop_length] at hgo
    have hgo : R (l ++ []) := hgo
    rw [List.append_nil] at hgo
    exact hq l acc' H kb hA' ra' hl hgo
theorem semC_cl {wi : TI} {g : TG} {tt : TT} {fi : FI} {G : FG} {ft : FT} {c : FL} {em : TEm} {cs : List ClR} {vs S : List Nat} (hS : ∀ i ∈ S, i ∈ vs)
    (gw : ∀ M π (own : Own) (σ : L2.St) H ρ (R : List D → Prop) (Q : It → Hp → Prop), EnvOk K M π O own σ H ρ → fi ρ R → (∀ l J H1, Keep π H H1 → WalkD rr K (Bar M own) (Bar M own) π H1 l J → R l → Q J H1) → wi σ H Q)
    (gg : ∀ M π (own : Own) (σ : L2.St) H ρ d v (R : Ren → Prop) (Q : L2.St → Hp → Prop), EnvOk K M π O own σ H ρ → RepI rr K (Bar M own) π H d v → G d ρ R →
      (∀ σ' ρ', EnvOk K M π O own σ' H ρ' → (∀ vs, (∀ i ∈ S, i ∈ vs) → L2.wipe σ' vs = L2.wipe σ vs) → R ρ' → Q σ' H) → g v σ H Q)
    (gt : SemT K O tt ft) (gc : SemC K O L (tCl em cs) c) : SemC K O L (tCl em ((wi, g, tt, vs) :: cs)) (lcCl fi G ft vs c) := by
  intro M π own σ H ρ n ds acc R N x hM hp hA ra hlen hc hq
  have npl : ¬ isPl π L := fun ⟨l, z⟩ => (hp _ z).1 rfl
  refine gw M π own σ H ρ _ _ x hc fun items J H1 k1 hw hgo => ?_
  have x1 := x.keep k1
  refine loop_sem hS gg gt gc x1 hM hp (k1.same _ _ hA npl) (ra.keep x.ctx k1) hlen hw (fun H kb a o q nb => kb.keep a o q (fun z => nb (.inl (by rw [z]; exact hM))) fun z => nb (x1.ctx.hp a z)) (fun a z => .inl z) hgo fun l acc' H' kb hA' ra' hl h => ?_
  exact hq l acc' H' (k1.toB.trans kb) hA' ra' hl h
theorem lcN_semF {wi : TI} {g : TG} {tt : TT} {te : TE} {fi : FI} {G : FG} {ft : FT} {c : FL} {cs : List ClR} {vs S : List Nat} (hS : ∀ i ∈ S, i ∈ vs)
    (gw : ∀ M π (own : Own) (σ : L2.St) H ρ (R : List D → Prop) (Q : It → Hp → Prop), EnvOk K M π O own σ H ρ → fi ρ R → (∀ l J H1, Keep π H H1 → WalkD rr K (isPl π) (Bar M own) π H1 l J → R l → Q J H1) → wi σ H Q)
    (gg : ∀ M π (own : Own) (σ : L2.St) H ρ d v (R : Ren → Prop) (Q : L2.St → Hp → Prop), EnvOk K M π O own σ H ρ → RepI rr K (Bar M own) π H d v → G d ρ R →
      (∀ σ' ρ', EnvOk K M π O own σ' H ρ' → (∀ vs, (∀ i ∈ S, i ∈ vs) → L2.wipe σ' vs = L2.wipe σ vs) → R ρ' → Q σ' H) → g v σ H Q)
    (gt : SemT K O tt ft) (gc : ∀ L, SemC K O L (tCl (emL te L) cs) c) : SemF K O (tLn wi g tt vs (fun _ => .lst []) (emL te) cs) (eLc fi G ft c vs) := by
  intro M π own σ H ρ R Q x hf hq
  refine gw M π own σ H ρ _ _ x hf fun items J H1 k1 hw hgo L hL => ?_
  have x1 := x.keep k1
  have nL : ∀ a o, H1 a = some o → a ≠ L := fun a o q z => by rw [z, hL] at q; cases q
  have hp : ∀ p, π = some p → p.1 ≠ L ∧ p.2 ≠ L := fun p e => by
    obtain ⟨_, _, _, _, _, e1, e2, _⟩ := (x1.pool p e).2
    exact ⟨nL _ _ e1, nL _ _ e2⟩
  have xL := x1.bar hL (H' := upd H1 L (.lst [])) (fun a o q _ => same_upd hL a o q) (fun p e => (x1.pool p e).2.grow hL) ⟨_, upd_same⟩
  refine loop_sem (ds := []) (acc := []) hS gg gt (gc L) xL (.inr rfl) hp upd_same rfl (by simp) hw (fun H kb a o q nb => kb.keep a o (same_upd hL a o q) (nL a o q) nb) (fun a z => ?_) hgo fun l acc' H' kb hA' ra' hl h => ?_
  · rcases z with (z | z) | z
    · exact .inl (.inl z)
    · exact .inr (z ▸ hL)
    · exact .inl (.inr z)
  · rw [List.nil_append] at ra'
    refine hq (.lst l) L H' (k1.trans ⟨fun a o q n => kb.keep a o (same_upd hL a o q) (nL a o q) n, kb.pool⟩) (x.ctx.noneOf k1 hL) ⟨acc', hA', RepL.hold (Hold.refl _ _) (fun a z => .inl ?_) _ _ ra'⟩ h
    rcases z with (z | z) | z
    · exact .inl (.inl z)
    · exact .inr z
    · exact .inl (.inr z)
end
/-! ### the rules -/
section
variable {F : Fam} {O : Nat → Bool} {e : Expr} {es : List Expr} {f : FE} {pos p : Pos}
/-- the clauses behind the first -/
def VC (F : Fam) (O : Nat → Bool) (gs : List Comprehension) (elt : Expr) (vs' : List Nat) (c : FL) : Prop := ∃ (te : TE) (cs : List ClR), (∀ i, PE (F.X i) elt te) ∧ (∀ i, Cls (F.X i) gs cs vs') ∧ ∀ L, SemC F.K O L (tCl (emL te L) cs) c
theorem vc_el {elt : Expr} {fe : FE} (he : VE F O elt fe) : VC F O [] elt [] (lcEl fe) := by
  obtain ⟨te, pe, ge⟩ := he
  exact ⟨te, [], pe, fun _ => .nil, fun L => semC_el ge⟩
theorem vc_cl {t i elt : Expr} {ifs : List Expr} {gs : List Comprehension} {vs' S : List Nat} {fi : FI} {G : FG} {ft : FT} {c : FL} (vs : List Nat) (hi : VI F O rr t i fi) (hg : VG F O rr t S G) (ht : VTs F O ifs ft) (hc : VC F O gs elt vs' c) (hS : ∀ j ∈ S, j ∈ vs) (hv : ∀ j ∈ vs', j ∈ vs)
    (hs : ∀ j x, foldedSetIterable i (F.X j).env x = pure x := by intro _ _; rfl) : VC F O (⟨t, i, ifs, 0⟩ :: gs) elt vs (lcCl fi G ft vs c) := by
  obtain ⟨wi, pw, gw⟩ := hi
  obtain ⟨g, pg, gg⟩ := hg
  obtain ⟨tt, pt, gt⟩ := ht
  obtain ⟨te, cs, pe, pc, gc⟩ := hc
  exact ⟨te, (wi, g, tt, vs) :: cs, pe, fun j => .cons (pw j) (pg j) (pt j) (hs j) hv (pc j), fun L => semC_cl hS gw gg gt (gc L)⟩
theorem vf_lcN {elt tg iter : Expr} {ifs : List Expr} {gs : List Comprehension} {scope : Scope} {own : List (Str × Nat)} {vs' : List Nat} {fi : FI} {G : FG} {ft : FT} {c : FL} {S : List Nat} (hN : F.N.Nodup) (hi : VIR F O rr tg iter fi) (ok : ∀ i, BlkOk F.N (F.X i).env.scope scope own)
    (hg : VG (F.blk scope) O rr tg S G) (hS : ∀ i ∈ S, i ∈ own.map (·.2)) (ht : VTs (F.blk scope) O ifs ft) (hc : VC (F.blk scope) O gs elt vs' c) (hv : ∀ i ∈ vs', i ∈ own.map (·.2)) (hs : ∀ i x, foldedSetIterable iter (F.X i).env x = pure x := by intro _ _; rfl)
    (hne : firstAsync (⟨tg, iter, ifs, 0⟩ :: gs) = false := by rfl) : VF F O (.ListComp elt (⟨tg, iter, ifs, 0⟩ :: gs) scope pos) (eLc fi G ft c (own.map (·.2))) := by
  obtain ⟨wi, pw, gw⟩ := hi
  obtain ⟨g, pg, gg⟩ := hg
  obtain ⟨tt, pt, gt⟩ := ht
  obtain ⟨te, cs, pe, pc, gc⟩ := hc
  exact ⟨_, fun i => pe_lcN (F.calm i) (by rw [F.hN i]; exact hN) (pw i) (by rw [F.hN i]; exact ok i) hv (fun s H C cl fp => pg (i, s, H, C, cl, fp)) (fun s H C cl fp => pt (i, s, H, C, cl, fp)) (fun s H C cl fp => pe (i, s, H, C, cl, fp)) (hs i) (fun s H C cl fp => pc (i, s, H, C, cl, fp)) hne, lcN_semF hS gw gg gt gc⟩
/-- y = [..]: a plain local name -/
theorem vs_setLcN (j : Nat) {y : Str} {py : Pos} {elt tg iter : Expr} {ifs : List Expr} {gs : List Comprehension} {scope : Scope} {own : List (Str × Nat)} {vs' : List Nat} {fi : FI} {G : FG} {ft : FT} {c : FL} {S : List Nat} (hN : F.N.Nodup) (hj : F.N[j]? = some y) (hyl : ∀ i, (F.X i).env.scope.names.lookup y = some .local)
    (hsw : ∀ i, swapsWith (.ListComp elt (⟨tg, iter, ifs, 0⟩ :: gs) scope p) (some (.Name y py)) pos.line (F.X i).env = pure true)
    (hi : VIR F O rr tg iter fi) (ok : ∀ i, BlkOk F.N (F.X i).env.scope scope own)
    (hg : VG (F.blk scope) O rr tg S G) (hS : ∀ i ∈ S, i ∈ own.map (·.2)) (ht : VTs (F.blk scope) O ifs ft) (hc : VC (F.blk scope) O gs elt vs' c) (hv : ∀ i ∈ vs', i ∈ own.map (·.2)) (hs : ∀ i x, foldedSetIterable iter (F.X i).env x = pure x := by intro _ _; rfl) :
    VS F O (.Assign [.Name y py] (.ListComp elt (⟨tg, iter, ifs, 0⟩ :: gs) scope p) pos) (sSet j (eLc fi G ft c (own.map (·.2)))) := by
  obtain ⟨wi, pw, gw⟩ := hi
  obtain ⟨g, pg, gg⟩ := hg
  obtain ⟨tt, pt, gt⟩ := ht
  obtain ⟨te, cs, pe, pc, gc⟩ := hc
  refine ⟨_, fun i => ps_setLcN (F.calm i) (by rw [F.hN i]; exact hN) (by rw [F.hN i]; exact hj) (hyl i) (hsw i) (pw i) (by rw [F.hN i]; exact ok i) hv (fun s H C cl fp => pg (i, s, H, C, cl, fp)) (fun s H C cl fp => pt (i, s, H, C, cl, fp)) (fun s H C cl fp => pe (i, s, H, C, cl, fp)) (hs i) (fun s H C cl fp => pc (i, s, H, C, cl, fp)), fun M π H0 B own' σ H ρ P D x fr hf hd => ?_⟩
  by_cases hO : O j = true
  · exact (lcN_semF (O := O) hS gw gg gt gc) M π own' σ H ρ _ _ x hf fun d a H1 k1 n1 r1 h1 => hd.nx _ _ H1 _ (x.setO k1 n1 hO r1) (fr.setO k1 n1 x.plThere) h1
  · exact (lcN_semF (O := O) hS gw gg gt gc).toEL (fun _ _ z => z) M π own' σ H ρ _ _ x hf fun d v H1 k1 r1 h1 => hd.nx own' _ H1 _ ((x.keep k1).set (by simpa using hO) r1) (fr.step k1) h1
end
end Fn
end P_FH
section P_FX
set_option maxHeartbeats 4000000
/-! Short forms for the printed terms; several targets at once; chains; calls. -/
namespace Fn
open PySem PySem.Spec PyProof.Rows L2
section
variable {F : Fam} {O : Nat → Bool} {e a b c : Expr} {es : List Expr} {f fa fb fc : FE} {pos p p2 : Pos}
theorem vv (i : Nat) {x : Str} (hN : ∀ j, (F.X j).N[i]? = some x := by intro _; rfl) (hv : ∀ j, Vis (F.X j).env.scope x := by intro _; first | exact Or.inl rfl | exact Or.inr (Or.inl rfl) | exact Or.inr (Or.inr rfl)) (hO : O i = false := by rfl)
    (hd : (x == ("__debug__" : Str)) = false := by decide) (hcd : (x == ("__classdict__" : Str)) = false := by decide) : VE F O (.Name x pos) (eVar i) := ve_var i (fun j => pe_var (hN j) (hv j) hd hcd) hO
theorem rr (i : Nat) {x : Str} (hN : ∀ j, (F.X j).N[i]? = some x := by intro _; rfl) (hv : ∀ j, Vis (F.X j).env.scope x := by intro _; first | exact Or.inl rfl | exact Or.inr (Or.inl rfl) | exact Or.inr (Or.inr rfl))
    (hd : (x == ("__debug__" : Str)) = false := by decide) (hcd : (x == ("__classdict__" : Str)) = false := by decide) : VR F O (.Name x pos) (eVar i) := vr_var i (fun j => pe_var (hN j) (hv j) hd hcd)
theorem gg (j : Nat) {x : Str} (hN : F.N.Nodup) (hj : F.N[j]? = some x := by rfl) (hO : O j = false := by rfl) (hx : ∀ i, Loc (F.X i).env.scope x := by intro _; first | exact Or.inl rfl | exact Or.inr rfl) (hf : ∀ i, (F.X i).fn x = true ∨ (F.X i).env.scope.names.lookup x = some .local := by intro _; first | exact Or.inl rfl | exact Or.inr rfl) :
    VG F O true (.Name x pos) [j] (Fn.gName j) := vg_name j hN hj hO hx hf
theorem vs_s (j : Nat) {x : Str} (hN : F.N.Nodup) (he : VE F O e f) (hj : F.N[j]? = some x := by rfl) (hO : O j = false := by rfl) (hx : ∀ i, Loc (F.X i).env.scope x := by intro _; first | exact Or.inl rfl | exact Or.inr rfl) (hf : ∀ i, (F.X i).fn x = true ∨ (F.X i).env.scope.names.lookup x = some .local := by intro _; first | exact Or.inl rfl | exact Or.inr rfl)
    (hs : ∀ i, swapsWith e (some (.Name x p2)) pos.line (F.X i).env = pure false := by intro _; rfl) : VS F O (.Assign [.Name x p2] e pos) (sSet j f) := vs_set j hN hj hO hx hf he hs
theorem vs_sO (j : Nat) {x : Str} (hN : F.N.Nodup) (he : VF F O e f) (hj : F.N[j]? = some x := by rfl) (hO : O j = true := by rfl) (hx : ∀ i, Loc (F.X i).env.scope x := by intro _; first | exact Or.inl rfl | exact Or.inr rfl) (hf : ∀ i, (F.X i).fn x = true ∨ (F.X i).env.scope.names.lookup x = some .local := by intro _; first | exact Or.inl rfl | exact Or.inr rfl)
    (hs : ∀ i, swapsWith e (some (.Name x p2)) pos.line (F.X i).env = pure false := by intro _; rfl) : VS F O (.Assign [.Name x p2] e pos) (sSet j f) := vs_setO j hN hj hO hx hf he hs
theorem vs_rO (j : Nat) {y : Str} (hO : O j = true := by rfl) (hN : ∀ j', (F.X j').N[j]? = some y := by intro _; rfl) (hv : ∀ j, Vis (F.X j).env.scope y := by intro _; first | exact Or.inl rfl | exact Or.inr (Or.inl rfl) | exact Or.inr (Or.inr rfl))
    (hd : (y == ("__debug__" : Str)) = false := by decide) (hcd : (y == ("__classdict__" : Str)) = false := by decide) : VS F O (.Return (some (.Name y p2)) pos) (sRet (eVar j)) := vs_retO j (fun i => pe_var (hN i) (hv i) hd hcd) hO
theorem vs_sLc (j : Nat) {y : Str} {py : Pos} {elt tg iter : Expr} {ifs : List Expr} {gs : List Comprehension} {scope : Scope} {own : List (Str × Nat)} {vs' : List Nat} {fi : FI} {G : FG} {ft : FT} {c : FL} {S : List Nat} (hN : F.N.Nodup)
    (hi : VIR F O rb tg iter fi) (ok : ∀ i, BlkOk F.N (F.X i).env.scope scope own)
    (hg : VG (F.blk scope) O rb tg S G) (hS : ∀ i ∈ S, i ∈ own.map (·.2)) (ht : VTs (F.blk scope) O ifs ft) (hc : VC (F.blk scope) O gs elt vs' c) (hv : ∀ i ∈ vs', i ∈ own.map (·.2))
    (hj : F.N[j]? = some y := by rfl) (hyl : ∀ i, (F.X i).env.scope.names.lookup y = some .local := by intro _; rfl)
    (hsw : ∀ i, swapsWith (.ListComp elt (⟨tg, iter, ifs, 0⟩ :: gs) scope p) (some (.Name y py)) pos.line (F.X i).env = pure true := by intro _; rfl) (hs : ∀ i x, foldedSetIterable iter (F.X i).env x = pure x := by intro _ _; rfl) :
    VS F O (.Assign [.Name y py] (.ListComp elt (⟨tg, iter, ifs, 0⟩ :: gs) scope p) pos) (sSet j (eLc fi G ft c (own.map (·.2)))) := vs_setLcN j hN hj hyl hsw hi ok hg hS ht hc hv hs
theorem ve_isi (t : Ty) {y : Str} (hm : F.mg "isinstance" = none) (hm2 : F.mg y = none) (ha : VR F O e f) (hv : bootBuiltins y = some (.type t.name) := by decide +kernel) (hy : ∀ i, Gl (F.X i) y := by intro _; rfl) (hn : y ≠ "__name__" := by decide) (hd : (y == ("__debug__" : Str)) = false := by decide)
    (hg : ∀ i, Gl (F.X i) "isinstance" := by intro _; rfl) (hs : ∀ i, starEach [e, .Name y p2] (F.X i).env = (false, eval e (F.X i).env) :: starEach [.Name y p2] (F.X i).env := by intro _; rfl) :
    VE F O (.Call (.Name "isinstance" p) [e, .Name y p2] [] pos) (eUn (fIs t) f) := ve_is t hm ha (fun i => pe_bltn (hy i) (by rw [F.hmg i]; exact hm2) hv rfl hn hd) hg hs
/-! ### a op b op c -/
theorem ve_chain {op op' : CmpOp} {g g' : G2} (ho : OpD F (compareOp op) g) (ho' : OpD F (compareOp op') g') (ha : VR F O a fa) (hb : VR F O b fb) (hc : VR F O c fc) (hm : lastMarks [op, op'] [b, c] = false := by with_unfolding_all rfl) : VE F O (.Compare a [op, op'] [b, c] pos) (eChain g g' fa fb fc) := by
  obtain ⟨r, hr, gr⟩ := ho
  obtain ⟨r', hr', gr'⟩ := ho'
  obtain ⟨ta, pa, ga⟩ := ha
  obtain ⟨tb, pb, gb⟩ := hb
  obtain ⟨tc, pc, gc⟩ := hc
  refine ⟨_, fun i => pe_chain (hr i) (hr' i) (pa i) (pb i) (pc i) hm, fun M π own σ H ρ R Q x hf hq => ?_⟩
  refine ga M π own σ H ρ _ _ x hf fun d v H1 k1 r1 h1 => ?_
  have x1 := x.keep k1
  refine gb M π own σ H1 ρ _ _ x1 h1 fun d2 v2 H2 k2 r2 h2 => ?_
  have x2 := x1.keep k2
  refine gr _ π H2 d d2 v v2 _ _ x2.ctx (r1.keep x1.ctx k2) r2 h2 fun d3 v3 H3 k3 r3 h3 => ?_
  cases d3 with
  | bl k =>
    refine ⟨k, r3, ?_⟩
    cases k with
    | false => exact hq (.bl false) _ H3 ((k1.trans k2).trans k3) rfl h3
    | true =>
      have x3 := x2.keep k3
      refine gc M π own σ H3 ρ _ _ x3 h3 fun d4 v4 H4 k4 r4 h4 => ?_
      exact gr' _ π H4 d2 d4 v2 v4 _ _ (x3.keep k4).ctx ((r2.keep x2.ctx k3).keep x3.ctx k4) r4 h4 fun d5 v5 H5 k5 => hq d5 v5 H5 (((k1.trans k2).trans k3).trans (k4.trans k5))
  | _ => exact h3.elim
theorem vt_chain {op op' : CmpOp} {g g' : G2} (ho : OpD F (compareOp op) g) (ho' : OpD F (compareOp op') g') (ha : VR F O a fa) (hb : VR F O b fb) (hc : VR F O c fc) (hm : lastMarks [op, op'] [b, c] = false := by with_unfolding_all rfl) : VT F O (.Compare a [op, op'] [b, c] pos) (tVal (eChain g g' fa fb fc)) := by
  obtain ⟨r, hr, gr⟩ := ho
  obtain ⟨r', hr', gr'⟩ := ho'
  obtain ⟨ta, pa, ga⟩ := ha
  obtain ⟨tb, pb, gb⟩ := hb
  obtain ⟨tc, pc, gc⟩ := hc
  refine ⟨_, fun i => pt_chain (hr i) (hr' i) (pa i) (pb i) (pc i) hm, fun M π own σ H ρ R Q x hf hq => ?_⟩
  refine ga M π own σ H ρ _ _ x hf fun d v H1 k1 r1 h1 => ?_
  have x1 := x.keep k1
  refine gb M π own σ H1 ρ _ _ x1 h1 fun d2 v2 H2 k2 r2 h2 => ?_
  have x2 := x1.keep k2
  refine gr _ π H2 d d2 v v2 _ _ x2.ctx (r1.keep x1.ctx k2) r2 h2 fun d3 v3 H3 k3 r3 h3 => ?_
  cases d3 with
  | bl k =>
    refine ⟨k, r3, ?_⟩
    cases k with
    | false => exact ⟨false, rfl, hq false H3 ((k1.trans k2).trans k3) h3⟩
    | true =>
      have x3 := x2.keep k3
      refine gc M π own σ H3 ρ _ _ x3 h3 fun d4 v4 H4 k4 r4 h4 => ?_
      refine gr' _ π H4 d2 d4 v2 v4 _ _ (x3.keep k4).ctx ((r2.keep x2.ctx k3).keep x3.ctx k4) r4 h4 fun d5 v5 H5 k5 r5 h5 => ?_
      cases d5 with
      | bl k' => exact ⟨k', r5, hq k' H5 (((k1.trans k2).trans k3).trans (k4.trans k5)) h5⟩
      | _ => exact h5.elim
  | _ => exact h3.elim
/-! ### several plain names at once -/
def setS (σ : L2.St) : List Nat → List V → L2.St
  | j :: js, v :: vs => setS (σ.set j (some v)) js vs
  | _, _ => σ
theorem setS_comm {j : Nat} {x : Option V} : ∀ {js : List Nat} {vs : List V} {σ : L2.St}, j ∉ js → setS (σ.set j x) js vs = (setS σ js vs).set j x
  | [], _, _, _ => rfl
  | _ :: _, [], _, _ => rfl
  | i :: js, v :: vs, σ, h => by
    simp only [setS]
    rw [List.set_comm _ _ (fun z => h (by rw [z]; exact List.mem_cons_self)), setS_comm (fun z => h (List.mem_cons_of_mem _ z))]
theorem setR_comm {j : Nat} {x : Option D} : ∀ {js : List Nat} {vs : List D} {σ : Ren}, j ∉ js → setR (σ.set j x) js vs = (setR σ js vs).set j x
  | [], _, _, _ => rfl
  | _ :: _, [], _, _ => rfl
  | i :: js, v :: vs, σ, h => by
    simp only [setR]
    rw [List.set_comm _ _ (fun z => h (by rw [z]; exact List.mem_cons_self)), setR_comm (fun z => h (List.mem_cons_of_mem _ z))]
def SemP (K : PySem.W.Frag) (O : Nat → Bool) (js : List Nat) (t : TA) (f : FA) : Prop := ∀ M π (own : Own) (σ : L2.St) H ρ (R : List D → Prop) (Q : List V → Hp → Prop), EnvOk K M π O own σ H ρ → f ρ R →
  (∀ l xs H', Keep π H H' → l.length = js.length → xs.length = js.length → (∀ (σ0 : L2.St) ρ0, EnvOk K M π O own σ0 H ρ0 → ∃ own1 : Own, EnvOk K M π O own1 (setS σ0 js xs) H' (setR ρ0 js l) ∧ ∀ i a, own1 i = some a → own i = some a ∨ H a = none) → R l → Q xs H') → t σ H Q
def VP (F : Fam) (O : Nat → Bool) (js : List Nat) (es : List Expr) (f : FA) : Prop := ∃ t : TA, (∀ i, PA (F.X i) es t) ∧ SemP F.K O js t f
theorem vp_nil : VP F O [] [] aNil := ⟨_, fun _ => pa_nil, fun M π own σ H ρ R Q x hf hq => hq [] [] H x.ctx.keepRefl rfl rfl (fun σ0 ρ0 x0 => ⟨own, x0, fun i a e => .inl e⟩) hf⟩
theorem vp_cons (j : Nat) {js : List Nat} {fr : FA} (ha : VE F O e f) (hr : VP F O js es fr) (hO : O j = false := by rfl) (hs : ∀ i, starEach (e :: es) (F.X i).env = (false, eval e (F.X i).env) :: starEach es (F.X i).env := by intro _; rfl) : VP F O (j :: js) (e :: es) (aCons f fr) := by
  obtain ⟨ta, pa, ga⟩ := ha
  obtain ⟨tr, pr, gr⟩ := hr
  refine ⟨_, fun i => pa_cons (pa i) (pr i) (hs i), fun M π own σ H ρ R Q x hf hq => ?_⟩
  refine ga M π own σ H ρ _ _ x hf fun d v H1 k1 r1 h1 => ?_
  have x1 := x.keep k1
  refine gr M π own σ H1 ρ _ _ x1 h1 fun l xs H2 k2 l2 l3 hx h2 => hq (d :: l) (v :: xs) H2 (k1.trans k2) (by simp [l2]) (by simp [l3]) (fun σ0 ρ0 x0 => ?_) h2
  obtain ⟨own1, x3, hn⟩ := hx _ _ ((x0.keep k1).set hO r1)
  exact ⟨own1, x3, fun i a e => (hn i a e).imp id fun z => x.ctx.noneOf k1 z⟩
/-- an object goes from the barred to one's own -/
theorem EnvOk.adopt {K : PySem.W.Frag} {M : Addr → Prop} {π : Pi} {own : Own} {σ : L2.St} {H : Hp} {ρ : Ren} {j : Nat} {a : Addr} {d : D} (x : EnvOk K (fun b => M b ∨ b = a) π O own σ H ρ) (hM : ¬ M a) (hp : ∀ p, π = some p → M p.1 ∧ M p.2) (hO : O j = true)
    (r : OwnRep K (Bar (fun b => M b ∨ b = a) own) π H a d) : EnvOk K M π O (ownAt own j a) (σ.set j (some (.ref a))) H (ρ.set j (some d)) := by
  have hb : ∀ b, Bar M (ownAt own j a) b → Bar (fun b => M b ∨ b = a) own b := fun b z => by
    rcases z with z | ⟨i, z⟩
    · exact .inl (.inl z)
    · unfold ownAt at z
      split at z
      · cases z; exact .inl (.inr rfl)
      · exact .inr ⟨i, z⟩
  refine ⟨fun b z => x.alloc b (.inl z), fun p e => ⟨hp p e, (x.pool p e).2⟩, fun i b e => ?_, fun i i' b e e' => ?_, by simp [x.len], fun i d' e => ?_⟩
  · unfold ownAt at e
    split at e
    · rename_i h
      cases e
      exact ⟨by rw [h]; exact hO, x.alloc _ (.inr rfl), hM⟩
    · exact ⟨(x.own1 i b e).1, (x.own1 i b e).2.1, fun z => (x.own1 i b e).2.2 (.inl z)⟩
  · unfold ownAt at e e'
    split at e <;> split at e'
    · rename_i h h'; rw [h, h']
    · cases e; exact absurd (.inr rfl) (x.own1 _ _ e').2.2
    · cases e'; exact absurd (.inr rfl) (x.own1 _ _ e).2.2
    · exact x.inj _ _ _ e e'
  · by_cases h : j = i
    · subst h
      by_cases hl : j < ρ.length
      · rw [List.getElem?_set_self hl] at e
        cases e
        refine ⟨_, List.getElem?_set_self (by rw [x.len]; exact hl), ?_⟩
        rw [if_pos hO]
        refine ⟨a, by unfold ownAt; rw [if_pos rfl], rfl, ?_⟩
        cases d with
        | lst l => obtain ⟨xs, q, r⟩ := r; exact ⟨xs, q, RepL.hold (Hold.refl _ _) (fun b z => .inl (hb b z)) _ _ r⟩
        | dct l => obtain ⟨xs, q, r⟩ := r; exact ⟨xs, q, RepK.hold (Hold.refl _ _) (fun b z => .inl (hb b z)) _ _ r⟩
        | _ => exact r.elim
      · rw [List.getElem?_eq_none (by simpa using Nat.le_of_not_lt hl)] at e
        cases e
    · rw [List.getElem?_set_ne h] at e
      obtain ⟨v, e1, h1⟩ := x.slot i d' e
      refine ⟨v, by rw [List.getElem?_set_ne h]; exact e1, ?_⟩
      by_cases hOi : O i = true
      · rw [if_pos hOi] at h1 ⊢
        obtain ⟨c, e2, e3, h1⟩ := h1
        refine ⟨c, by unfold ownAt; rw [if_neg (Ne.symm h)]; exact e2, e3, ?_⟩
        cases d' with
        | lst l => obtain ⟨xs, q, r⟩ := h1; exact ⟨xs, q, RepL.hold (Hold.refl _ _) (fun b z => .inl (hb b z)) _ _ r⟩
        | dct l => obtain ⟨xs, q, r⟩ := h1; exact ⟨xs, q, RepK.hold (Hold.refl _ _) (fun b z => .inl (hb b z)) _ _ r⟩
        | _ => exact h1
      · rw [if_neg hOi] at h1 ⊢
        exact Rep.hold (Hold.refl _ _) (fun b z => .inl (hb b z)) _ _ h1
theorem vp_own (j : Nat) {js : List Nat} {fr : FA} (ha : VF F O e f) (hr : VP F O js es fr) (hj : j ∉ js := by decide) (hO : O j = true := by rfl) (hs : ∀ i, starEach (e :: es) (F.X i).env = (false, eval e (F.X i).env) :: starEach es (F.X i).env := by intro _; rfl) : VP F O (j :: js) (e :: es) (aCons f fr) := by
  obtain ⟨ta, pa, ga⟩ := ha
  obtain ⟨tr, pr, gr⟩ := hr
  refine ⟨_, fun i => pa_cons (pa i) (pr i) (hs i), fun M π own σ H ρ R Q x hf hq => ?_⟩
  refine ga M π own σ H ρ _ _ x hf fun d a H1 k1 n1 r1 h1 => ?_
  have hth : ∃ o, H1 a = some o := by
    cases d with
    | lst l => obtain ⟨xs, q, _⟩ := r1; exact ⟨_, q⟩
    | dct l => obtain ⟨xs, q, _⟩ := r1; exact ⟨_, q⟩
    | _ => exact r1.elim
  have x1 := x.bar n1 k1.same k1.pool hth
  refine gr _ π own σ H1 ρ _ _ x1 h1 fun l xs H2 k2 l2 l3 hx h2 => hq (d :: l) (.ref a :: xs) H2 (k1.trans k2) (by simp [l2]) (by simp [l3]) (fun σ0 ρ0 x0 => ?_) h2
  obtain ⟨own1, x3, hn⟩ := hx σ0 ρ0 (x0.bar n1 k1.same k1.pool hth)
  have hM : ¬ M a := fun z => by
    obtain ⟨o, q⟩ := x.alloc a z
    rw [n1] at q; cases q
  have npl : ¬ isPl π a := fun z => by
    obtain ⟨o, q⟩ := x.plThere a z
    rw [n1] at q; cases q
  refine ⟨ownAt own1 j a, ?_, fun i b e => ?_⟩
  · show EnvOk F.K M π O (ownAt own1 j a) (setS (σ0.set j (some (.ref a))) js xs) H2 (setR (ρ0.set j (some d)) js l)
    rw [setS_comm hj, setR_comm hj]
    refine x3.adopt hM (fun p e => (x.pool p e).1) hO ?_
    have hb : ∀ b, Bar (fun b => M b ∨ b = a) own1 b → (Bar M own b ∨ b = a) ∨ H1 b = none := fun b z => by
      rcases z with (z | z) | ⟨i, z⟩
      · exact .inl (.inl (.inl z))
      · exact .inl (.inr z)
      · rcases hn i b z with z | z
        · exact .inl (.inl (.inr ⟨i, z⟩))
        · exact .inr z
    have hh : Hold (fun b => Bar M own b ∨ b = a) H1 H2 := fun b o q nb => k2.same b o q fun z => nb (.inl (x.ctx.hp b z))
    cases d with
    | lst l => obtain ⟨ys, q, r⟩ := r1; exact ⟨ys, k2.same _ _ q npl, RepL.hold hh hb _ _ r⟩
    | dct l => obtain ⟨ys, q, r⟩ := r1; exact ⟨ys, k2.same _ _ q npl, RepK.hold hh hb _ _ r⟩
    | _ => exact r1.elim
  · unfold ownAt at e
    split at e
    · cases e; exact .inr n1
    · exact (hn i b e).imp id fun z => x.ctx.noneOf k1 z
theorem Fr0.par {M : Addr → Prop} {π : Pi} {H0 H H' : Hp} {B : Addr → Prop} {own own1 : Own} (fr : Fr0 M π H0 B own H) (k : Keep π H H') (hn : ∀ i a, own1 i = some a → own i = some a ∨ H a = none) (hp : ∀ p, isPl π p → ∃ o, H p = some o) : Fr0 M π H0 B own1 H' := by
  refine ⟨fr.kb.step k, fun i a e => ?_, fr.old⟩
  rcases hn i a e with z | z
  · exact fr.newo i a z
  · by_cases hB : B a
    · exact .inl hB
    · refine .inr ?_
      cases q : H0 a with
      | none => rfl
      | some o =>
        by_cases zp : isPl π a
        · obtain ⟨o', q'⟩ := hp a zp
          rw [z] at q'; cases q'
        · rw [fr.kb.keep a o q hB zp] at z; cases z
theorem len2 {α : Type} : ∀ {l : List α}, l.length = 2 → ∃ a b, l = [a, b]
  | [a, b], _ => ⟨a, b, rfl⟩
theorem len3 {α : Type} : ∀ {l : List α}, l.length = 3 → ∃ a b c, l = [a, b, c]
  | [a, b, c], _ => ⟨a, b, c, rfl⟩
theorem vs_par2 (i j : Nat) {x y : Str} {px py pt : Pos} {kt k2 : Nat} {pt2 : Pos} {fl : FA} (hN : F.N.Nodup) (h : VP F O [i, j] [a, b] fl) (hi : F.N[i]? = some x := by rfl) (hj : F.N[j]? = some y := by rfl) (hij : i ≠ j := by decide)
    (hx : ∀ q, (F.X q).env.scope.names.lookup x = some .local := by intro _; rfl) (hy : ∀ q, (F.X q).env.scope.names.lookup y = some .local := by intro _; rfl)
    (hw : ∀ q, swappedStores [.Tuple [.Name x px, .Name y py] kt pt] (.Tuple [a, b] k2 pt2) (F.X q).env = pure (some [x, y]) := by intro _; rfl)
    (hs : ∀ q, swapsWithSole [.Tuple [.Name x px, .Name y py] kt pt] (.Tuple [a, b] k2 pt2) pos.line (F.X q).env = pure false := by intro _; rfl) :
    VS F O (.Assign [.Tuple [.Name x px, .Name y py] kt pt] (.Tuple [a, b] k2 pt2) pos) (sPar [i, j] fl) := by
  obtain ⟨t, pt', g⟩ := h
  refine ⟨_, fun q => ps_par (F.calm q) (by rw [F.hN q]; exact hN) (by rw [F.hN q]; exact hi) (by rw [F.hN q]; exact hj) hij (hx q) (hy q) (pt' q) (hw q) (hs q), fun M π H0 B own σ H ρ P D x fr hf hd => ?_⟩
  refine g M π own σ H ρ _ _ x hf fun l xs H1 k1 l2 l3 hx1 h1 => ?_
  obtain ⟨own1, x1, hn⟩ := hx1 σ ρ x
  obtain ⟨v, w, e⟩ := len2 l3
  subst e
  exact ⟨v, w, rfl, hd.nx own1 _ H1 _ x1 (fr.par k1 hn x.plThere) h1⟩
theorem vs_par3 (i j l : Nat) {x y z : Str} {px py pz pt : Pos} {kt k2 : Nat} {pt2 : Pos} {fl : FA} (hN : F.N.Nodup) (h : VP F O [i, j, l] [a, b, c] fl) (hi : F.N[i]? = some x := by rfl) (hj : F.N[j]? = some y := by rfl) (hl : F.N[l]? = some z := by rfl) (hij : i ≠ j := by decide) (hil : i ≠ l := by decide) (hjl : j ≠ l := by decide)
    (hx : ∀ q, (F.X q).env.scope.names.lookup x = some .local := by intro _; rfl) (hy : ∀ q, (F.X q).env.scope.names.lookup y = some .local := by intro _; rfl) (hz : ∀ q, (F.X q).env.scope.names.lookup z = some .local := by intro _; rfl)
    (hw : ∀ q, swappedStores [.Tuple [.Name x px, .Name y py, .Name z pz] kt pt] (.Tuple [a, b, c] k2 pt2) (F.X q).env = pure (some [x, y, z]) := by intro _; rfl)
    (hs : ∀ q, swapsWithSole [.Tuple [.Name x px, .Name y py, .Name z pz] kt pt] (.Tuple [a, b, c] k2 pt2) pos.line (F.X q).env = pure false := by intro _; rfl) :
    VS F O (.Assign [.Tuple [.Name x px, .Name y py, .Name z pz] kt pt] (.Tuple [a, b, c] k2 pt2) pos) (sPar [i, j, l] fl) := by
  obtain ⟨t, pt', g⟩ := h
  refine ⟨_, fun q => ps_par3 (F.calm q) (by rw [F.hN q]; exact hN) (by rw [F.hN q]; exact hi) (by rw [F.hN q]; exact hj) (by rw [F.hN q]; exact hl) hij hil hjl (hx q) (hy q) (hz q) (pt' q) (hw q) (hs q), fun M π H0 B own σ H ρ P D x fr hf hd => ?_⟩
  refine g M π own σ H ρ _ _ x hf fun ds xs H1 k1 l2 l3 hx1 h1 => ?_
  obtain ⟨own1, x1, hn⟩ := hx1 σ ρ x
  obtain ⟨v, w, u, e⟩ := len3 l3
  subst e
  exact ⟨v, w, u, rfl, hd.nx own1 _ H1 _ x1 (fr.par k1 hn x.plThere) h1⟩
end
/-! ### calls and defs by name -/
section
variable (P : Program) (w : World) (K : PySem.W.Frag) (mg : Str → Option Value) (base : Heap)
/-- the def called x keeps g, at level k -/
def Call (k : Nat) (x : Str) (g : GA) : Prop := ∃ fA fd ps, FnOk P w K mg base L2.CX0 k fA fd ps (spD K g) ∧ mg x = some (.ref fA) ∧ PySem.W.keepIn K (.ref fA) = true ∧ Binds K fd ps []
/-- the def called x as it stands -/
def DefF (x : Str) (st : Stmt) (ps : List Str) : Prop := ∃ f fd, FunD K x x (defArgs st) (defBody st) (defScope st) [] [] f fd ∧ mg x = some (.ref f) ∧ Binds K fd ps []
end
section
variable {P : Program} {w : World} {K : PySem.W.Frag} {mg : Str → Option Value} {base : Heap} {F : Fam} {O : Nat → Bool} {e : Expr} {es : List Expr} {pos p : Pos}
theorem ve_cl {x : Str} {k : Nat} {g : GA} {fl : FA} (h : Call F.P F.w F.K F.mg F.base k x g) (ha : VA F O (e :: es) fl) (hr : k ≤ F.k := by exact Nat.le_of_ble_eq_true rfl) (hg : ∀ i, Gl (F.X i) x := by intro _; rfl)
    (hdb : (x == ("__debug__" : Str)) = false := by decide) (he : ∀ i, starEach (e :: es) (F.X i).env = (false, eval e (F.X i).env) :: starEach es (F.X i).env := by intro _; rfl) (hpl : ∀ i, (backTo pos (starEach es (F.X i).env)).any (·.1) = false := by intro _; rfl) :
    VE F O (.Call (.Name x p) (e :: es) [] pos) (eCall g fl) := by
  obtain ⟨fA, fd, ps, G, hm, hk, hb⟩ := h
  exact ve_call G hr hm hk hb ha hg hdb he hpl
theorem ve_c0 {x : Str} {k : Nat} {g : GA} (h : Call F.P F.w F.K F.mg F.base k x g) (hr : k ≤ F.k := by exact Nat.le_of_ble_eq_true rfl) (hg : ∀ i, Gl (F.X i) x := by intro _; rfl)
    (hdb : (x == ("__debug__" : Str)) = false := by decide) : VE F O (.Call (.Name x p) [] [] pos) (eCall g aNil) := by
  obtain ⟨fA, fd, ps, G, hm, hk, hb⟩ := h
  exact ve_call0 G hr hm hk hb hg hdb
theorem Call.of {x : Str} {st : Stmt} {ps N : List Str} {k n q : Nat} {b : FS} (O : Nat → Bool) (D : DefF K mg x st ps) (S : FnScope N ps (defScope st)) (hn : N.length = n) (hp : ps.length = q) (hO : ∀ i, i < q → O i = false) (hle : q ≤ n)
    (hb : ∀ f, VSs (famD P w K mg base N x (defScope st) f k) O (defBody st) b) : Call P w K mg base (k + 1) x (fnD n q b) := by
  obtain ⟨f, fd, F, hm, hB⟩ := D
  exact ⟨f, fd, ps, ok_def F S hn hp hO hle (hb f), hm, F.kp, hB⟩
theorem Call.zero {x : Str} {st : Stmt} {ps : List Str} {k : Nat} (D : DefF K mg x st ps) : Call P w K mg base k x (fun _ _ => False) := by
  obtain ⟨f, fd, F, hm, hB⟩ := D
  exact ⟨f, fd, ps, ⟨fun vs H Q E h => by obtain ⟨_, _, _, _, _, _, h, _⟩ := h; exact h.elim, fun A outer s H args us vs Q E hr he hb hv h => by obtain ⟨_, _, _, _, _, _, h, _⟩ := h; exact h.elim⟩, hm, F.kp, hB⟩
theorem Call.up {x : Str} {g : GA} {j k : Nat} (h : Call P w K mg base j x g) (hjk : j ≤ k) : Call P w K mg base k x g := by
  obtain ⟨f, fd, ps, G, r⟩ := h
  exact ⟨f, fd, ps, G.mono hjk, r⟩
end
/-- the built-in names that no text binds anew -/
structure Bi (mg : Str → Option Value) : Prop where
  len : mg "len" = none
  tuple : mg "tuple" = none
  list : mg "list" = none
  all : mg "all" = none
  any : mg "any" = none
  int : mg "int" = none
  isinstance : mg "isinstance" = none
  range : mg "range" = none
  sorted : mg "sorted" = none
  max : mg "max" = none
  min : mg "min" = none
  dict : mg "dict" = none
  enumerate : mg "enumerate" = none
  zip : mg "zip" = none
  str : mg "str" = none
  repr : mg "repr" = none
  bool : mg "bool" = none
end Fn
end P_FX
section P_FP
set_option maxHeartbeats 4000000
/-! The pool of draws: what its defs' bodies do. -/
namespace Fn
open PySem PySem.Spec PyProof.Rows L2
section
variable (K : PySem.W.Frag)
def dG (k : Nat) : TE := tOp (rIxL K) (tVar 0) (tC (.int k))
def dI (a : TE) : TE := tCB (fun xs H Q => (∃ i, xs = [V.int i] ∧ Q (V.int i) H) ∨ ∃ k, xs = [V.bl k] ∧ Q (V.int (if k = true then 1 else 0)) H) (tCons a tNil)
def dL (a : TE) : TE := tCB (fun xs H Q => ∃ p ys, xs = [V.ref p] ∧ (SqL K H p ys ∨ SqT K H p ys) ∧ Q (V.int ↑ys.length) H) (tCons a tNil)
def dLe (a b : TE) : TT := tTest (tOp (rI0 fun i j => V.bl (decide (i ≤ j))) a b)
def dLt (a b : TE) : TT := tTest (tOp (rI0 fun i j => V.bl (decide (i < j))) a b)
def dAdd (a b : TE) : TE := tOp (rI0 fun i j => V.int (i + j)) a b
def dMul (a b : TE) : TE := tOp (rI (fun i j => (-(2 ^ 64) < i ∧ i < 2 ^ 64) ∨ (-(2 ^ 64) < j ∧ j < 2 ^ 64)) fun i j => V.int (i * j)) a b
def dMod (a b : TE) : TE := tOp (rI (fun x j => 0 < j) fun i j => V.int (i % j)) a b
def dDiv (a b : TE) : TE := tOp (rI CDivW fun i j => V.int (i / j)) a b
def dP (k : Nat) (e : TE) : TS := tAsg e (gSub (tVar 0) (tC (.int k)) rSetL)
def dN (i : Int) : TE := tC (.int i)
def t_draw (g : GA) : TS :=
  tSeq (tIfS (L2.tAnd (dLe (dG K 2) (dN 0)) (dLt (dG K 1) (dL K (dG K 0))))
    (tSeq (tAsg (tOp (rIxL K) (dG K 0) (dG K 1)) (L2.gName 2))
    (tSeq (dP 1 (dAdd (dG K 1) (dN 1)))
    (tSeq (dP 2 (tVar 2))
      (tIfS (dLt (tVar 2) (dN 1000000000000000000)) (dP 2 (tCall (spD K g) [] E0 (tCons (tVar 2) tNil))) tNext)))) tNext)
  (tSeq (dP 3 (dAdd (dG K 3) (dN 1)))
  (tSeq (tIfS (dLe (dG K 2) (dN 0))
      (tSeq (tAsg (dMod (dI (dAdd (dAdd (dMul (dG K 4) (dN 48271)) (dMul (dG K 3) (dN 69621))) (dN 1))) (dN 2147483647)) (L2.gName 3))
      (tSeq (tAsg (dMod (dI (dAdd (dMul (tVar 3) (dN 16807)) (dG K 3))) (dN 2147483629)) (L2.gName 3))
        (tRet (dMod (dDiv (tVar 3) (dN 5)) (tVar 1)))))
      tNext)
  (tSeq (tAsg (dMod (dI (dG K 2)) (tVar 1)) (L2.gName 4))
  (tSeq (dP 2 (dDiv (dG K 2) (tVar 1)))
    (tRet (tVar 4))))))
variable {K}
theorem rd {σ : L2.St} {H : Hp} {p : Addr} {xs : List V} {k : Nat} {v : V} {Q : VK} (hs : σ[0]? = some (some (.ref p))) (hH : H p = some (.lst xs)) (hv : xs[k]? = some v) (q : Q v H) : dG K k σ H Q :=
  ⟨_, hs, p, xs, k, v, rfl, rfl, SqL.of hH, atI_nat hv, q⟩
theorem wr {σ : L2.St} {H : Hp} {p : Addr} {xs : List V} {k : Nat} {v : V} {Q : L2.St → Hp → Prop} (hs : σ[0]? = some (some (.ref p))) (hH : H p = some (.lst xs)) (hk : k < xs.length) (q : Q σ (upd H p (.lst (xs.set k v)))) : gSub (tVar 0) (tC (.int k)) rSetL v σ H Q :=
  ⟨_, hs, p, xs, k, k, rfl, rfl, hH, by unfold L2.ixN; rw [if_pos (Int.natCast_nonneg k), if_pos (by omega)]; rfl, q⟩
theorem goT {c : Prop} [Decidable c] {a b : Prop} (h : c) (q : a) : if decide c = true then a else b := by rw [if_pos (decide_eq_true h)]; exact q
theorem goF {c : Prop} [Decidable c] {a b : Prop} (h : ¬ c) (q : b) : if decide c = true then a else b := by rw [if_neg (by simpa using h)]; exact q
theorem fDraw_inv {ds : List D} {R : DK} (h : fDraw ds R) : ∃ m : Int, ds = [.pool, .int m] ∧ 0 < m ∧ m < 1099511627776 ∧ ∀ k : Int, 0 ≤ k → k < m → R (.int k) := by
  unfold fDraw at h
  split at h
  · exact ⟨_, rfl, h⟩
  · exact h.elim
section
variable {H : Hp} {D : Ends} {p l : Addr} {ns : List Int} {sl m : Int}
def PA (H0 : Hp) (p l : Addr) (ns : List Int) (sl : Int) (H : Hp) (i c n : Int) : Prop := (∀ a o, H0 a = some o → a ≠ p → H a = some o) ∧ H p = some (.lst [.ref l, .int i, .int c, .int n, .int sl]) ∧ H l = some (.lst (ns.map V.int)) ∧ 0 ≤ i ∧ l ≠ p
theorem PA.upd {H0 H1 : Hp} {i c n i' c' n' : Int} (h : PA H0 p l ns sl H1 i c n) (hi : 0 ≤ i') : PA H0 p l ns sl (upd H1 p (.lst [.ref l, .int i', .int c', .int n', .int sl])) i' c' n' :=
  ⟨fun a o q z => by rw [upd_ne z]; exact h.1 a o q z, upd_same, by rw [upd_ne h.2.2.2.2]; exact h.2.2.1, hi, h.2.2.2.2⟩
theorem draw_tail {x y z : Option V} {i c n : Int} {H1 : Hp} (h : PA H p l ns sl H1 i c n) (hm0 : 0 < m) (hm1 : m < 1099511627776) (fin : ∀ (k : Int) H' (i c n : Int), 0 ≤ k → k < m → PA H p l ns sl H' i c n → D.rt (.int k) H') :
    (tSeq (dP 3 (dAdd (dG K 3) (dN 1)))
  (tSeq (tIfS (dLe (dG K 2) (dN 0))
      (tSeq (tAsg (dMod (dI (dAdd (dAdd (dMul (dG K 4) (dN 48271)) (dMul (dG K 3) (dN 69621))) (dN 1))) (dN 2147483647)) (L2.gName 3))
      (tSeq (tAsg (dMod (dI (dAdd (dMul (tVar 3) (dN 16807)) (dG K 3))) (dN 2147483629)) (L2.gName 3))
        (tRet (dMod (dDiv (tVar 3) (dN 5)) (tVar 1)))))
      tNext)
  (tSeq (tAsg (dMod (dI (dG K 2)) (tVar 1)) (L2.gName 4))
  (tSeq (dP 2 (dDiv (dG K 2) (tVar 1)))
    (tRet (tVar 4)))))) D [some (.ref p), some (.int m), x, y, z] H1 := by
  refine rd (k := 3) rfl h.2.1 rfl ⟨_, _, rfl, rfl, ?_⟩
  refine wr (k := 3) rfl h.2.1 (by simp) ?_
  have h2 := h.upd (c' := c) (n' := n + 1) h.2.2.2.1
  refine rd (k := 2) rfl h2.2.1 rfl ⟨_, _, rfl, rfl, _, rfl, ?_⟩
  by_cases hc : c ≤ 0
  · refine goT hc ?_
    refine rd (k := 4) rfl h2.2.1 rfl ⟨_, _, rfl, rfl, .inr (by decide), ?_⟩
    refine rd (k := 3) rfl h2.2.1 rfl ⟨_, _, rfl, rfl, .inr (by decide), ⟨_, _, rfl, rfl, _, _, rfl, rfl, .inl ⟨_, rfl, _, _, rfl, rfl, (by show (0 : Int) < 2147483647; decide), ?_⟩⟩⟩
    refine ⟨_, rfl, _, _, rfl, rfl, .inr (by decide), ?_⟩
    refine rd (k := 3) rfl h2.2.1 rfl ⟨_, _, rfl, rfl, .inl ⟨_, rfl, _, _, rfl, rfl, (by show (0 : Int) < 2147483629; decide), ?_⟩⟩
    refine ⟨_, rfl, _, _, rfl, rfl, ⟨by decide, by decide⟩, _, rfl, _, _, rfl, rfl, hm0, fin _ _ _ _ _ (Int.emod_nonneg _ (by omega)) (Int.emod_lt_of_pos _ hm0) h2⟩
  · refine goF hc ?_
    refine rd (k := 2) rfl h2.2.1 rfl (.inl ⟨_, rfl, _, rfl, _, _, rfl, rfl, hm0, ?_⟩)
    refine rd (k := 2) rfl h2.2.1 rfl ⟨_, rfl, _, _, rfl, rfl, wide_div (b := 40) hm0 (by omega) (by decide) (by decide), ?_⟩
    refine wr (k := 2) rfl h2.2.1 (by simp) ?_
    have h3 := h2.upd (c' := c / m) (n' := n + 1) h2.2.2.2.1
    exact ⟨_, rfl, fin _ _ _ _ _ (Int.emod_nonneg _ (by omega)) (Int.emod_lt_of_pos _ hm0) h3⟩
theorem draw_all {g : GA} (hg : ∀ c R, (∀ n, R (.int n)) → g [.int c] R) {i c n : Int} (h : PA H p l ns sl H i c n) (hm0 : 0 < m) (hm1 : m < 1099511627776) (fin : ∀ (k : Int) H' (i c n : Int), 0 ≤ k → k < m → PA H p l ns sl H' i c n → D.rt (.int k) H') :
    t_draw K g D [some (.ref p), some (.int m), none, none, none] H := by
  refine rd (k := 2) rfl h.2.1 rfl ⟨_, _, rfl, rfl, _, rfl, ?_⟩
  by_cases hc : c ≤ 0
  · refine goT hc ?_
    refine rd (k := 1) rfl h.2.1 rfl ?_
    refine rd (k := 0) rfl h.2.1 rfl ⟨_, _, rfl, .inl (SqL.of h.2.2.1), _, _, rfl, rfl, _, rfl, ?_⟩
    by_cases hi : i < (ns.map V.int).length
    · refine goT hi ?_
      refine rd (k := 0) rfl h.2.1 rfl ?_
      obtain ⟨j, rfl⟩ := Int.eq_ofNat_of_zero_le h.2.2.2.1
      have hj : j < ns.length := by simpa using hi
      refine rd (k := 1) rfl h.2.1 rfl ⟨_, _, _, .int (ns[j]'hj), rfl, rfl, SqL.of h.2.2.1, atI_nat (by rw [List.getElem?_map, List.getElem?_eq_getElem hj]; rfl), ?_⟩
      refine rd (k := 1) rfl h.2.1 rfl ⟨_, _, rfl, rfl, ?_⟩
      refine wr (k := 1) rfl h.2.1 (by simp) ?_
      have h2 := h.upd (i' := j + 1) (c' := c) (n' := n) (by omega)
      refine ⟨_, rfl, wr (k := 2) rfl h2.2.1 (by simp) ?_⟩
      have h3 := h2.upd (c' := ns[j]'hj) (n' := n) h2.2.2.2.1
      refine ⟨_, rfl, _, _, rfl, rfl, _, rfl, ?_⟩
      by_cases hz : ns[j]'hj < 1000000000000000000
      · refine goT hz ?_
        refine ⟨_, rfl, fun _ => False, none, [.int (ns[j]'hj)], fun d => ∃ n, d = .int n, ⟨fun _ z => z.elim, fun _ e => nomatch e⟩, ⟨_, _, rfl, rfl, rfl⟩, hg _ _ fun n => ⟨n, rfl⟩, fun d v H4 k4 r4 h4 => ?_⟩
        obtain ⟨n4, rfl⟩ := h4
        obtain rfl : v = .int n4 := r4
        have h5 : PA H p l ns sl H4 (j + 1) (ns[j]'hj) n := ⟨fun a o q z => k4.same _ _ (h3.1 a o q z) (fun ⟨_, e⟩ => nomatch e), k4.same _ _ h3.2.1 (fun ⟨_, e⟩ => nomatch e), k4.same _ _ h3.2.2.1 (fun ⟨_, e⟩ => nomatch e), h3.2.2.2⟩
        refine wr (k := 2) rfl h5.2.1 (by simp) ?_
        exact draw_tail (h5.upd (c' := n4) (n' := n) h5.2.2.2.1) hm0 hm1 fin
      · refine goF hz ?_
        exact draw_tail h3 hm0 hm1 fin
    · refine goF hi ?_
      exact draw_tail h hm0 hm1 fin
  · refine goF hc ?_
    exact draw_tail h hm0 hm1 fin
end
theorem draw_sem {g : GA} {vs : List V} {H : Hp} {Q : VK} {E : XK} {nx : L2.St → Hp → Prop} (hg : ∀ c R, (∀ n, R (.int n)) → g [.int c] R) (h : spD K fDraw vs H Q E) : t_draw K g { nx := nx, rt := Q } (L2.start ["pool", "many", "cell", "blended", "value"] vs) H := by
  obtain ⟨M, π, ds, R, c, r, h, hq⟩ := h
  obtain ⟨m, rfl, hm0, hm1, hR⟩ := fDraw_inv h
  obtain ⟨v1, vs1, rfl, r1, v2, vs2, rfl, r2, rfl⟩ := r
  obtain ⟨pl, hπ, rfl⟩ := r1
  obtain rfl : v2 = .int m := r2
  have h0 := (c.pool _ hπ).2
  obtain ⟨p, l⟩ := pl
  obtain ⟨ns, i, c0, n, sl, q1, q2, ne, hi⟩ := h0
  refine draw_all hg (p := p) (l := l) (ns := ns) (sl := sl) (i := i) (c := c0) (n := n) ⟨fun a o q _ => q, q1, q2, hi, ne⟩ hm0 hm1 fun k H' i c n h1 h2 h3 => ?_
  exact hq (.int k) _ H' ⟨fun a o q z => h3.1 a o q (fun e => z ⟨l, by rw [e]; exact hπ⟩), fun q e => by rw [hπ] at e; cases e; exact ⟨ns, i, c, n, sl, h3.2.1, h3.2.2.1, ne, h3.2.2.2.1⟩⟩ rfl (hR k h1 h2)
theorem draw_len {vs : List V} {H : Hp} {Q : VK} {E : XK} (h : spD K fDraw vs H Q E) : vs.length = 2 := by
  obtain ⟨M, π, ds, R, c, r, h, hq⟩ := h
  obtain ⟨m, rfl, _⟩ := fDraw_inv h
  rw [r.length]; rfl
end
section
variable (K : PySem.W.Frag)
/-- the pool is made of the script's numbers -/
def spPool : Sp := fun vs H Q _ => ∃ (a : Addr) (ns : List Int), vs = [.ref a] ∧ SqL K H a (ns.map V.int) ∧ ∀ (p l : Addr) (s : Int) (H' : Hp), H' p = some (.lst [.ref l, .int 0, .int 0, .int 0, .int s]) → H' l = some (.lst (ns.map V.int)) → l ≠ p → (∀ b o, H b = some o → H' b = some o) → Q (.ref p) H'
def t_pool : TS :=
  tSeq (tAsg (dN 7) (L2.gName 1))
  (tSeq (tFor (iList K (tSl (rSlL K) (tVar 0) (fun _ H Q => Q none H) (fun σ H Q => tC (.int 63) σ H fun v H1 => ∃ i, v = V.int i ∧ Q (some i) H1))) (L2.gName 2) (tAsg (dMod (dI (dAdd (dMul (tVar 1) (dN 31)) (tVar 2))) (dN 1000003)) (L2.gName 1)))
    (tRet (tLst (tCons (tCB (fun xs H Q => ∃ p ys, xs = [V.ref p] ∧ (SqL K H p ys ∨ SqT K H p ys) ∧ ∀ l, H l = none → Q (V.ref l) (upd H l (HO.lst ys))) (tCons (tVar 0) tNil)) (tCons (dN 0) (tCons (dN 0) (tCons (dN 0) (tCons (tVar 1) tNil))))))))
variable {K}
theorem cutV_get {xs : List V} {lo hi : Option Int} {i : Nat} {x : V} (h : (cutV xs lo hi)[i]? = some x) : x ∈ xs := by
  have h1 := List.mem_of_getElem? h
  unfold cutV at h1
  first
  | exact List.mem_of_mem_drop (List.mem_of_mem_take h1)
  | exact List.mem_of_mem_take (List.mem_of_mem_drop h1)
theorem sqL_grow {H : Hp} {a p : Addr} {xs : List V} {o : HO} (h : SqL K H a xs) (n : H p = none) : SqL K (upd H p o) a xs := by
  rcases h with h | h
  · exact .inl (rd_hold (fun x q => same_upd n _ _ q) h)
  · exact .inr h
theorem pool_sem {vs : List V} {H : Hp} {Q : VK} {E : XK} {nx : L2.St → Hp → Prop} (h : spPool K vs H Q E) : t_pool K { nx := nx, rt := Q } (L2.start ["script", "salt", "cell"] vs) H := by
  obtain ⟨a, ns, rfl, hS, hq⟩ := h
  refine ⟨_, rfl, _, rfl, a, _, rfl, hS, fun p np => ⟨p, rfl, ⟨_, SqL.of upd_same⟩, ?_⟩⟩
  refine for_list (xs := cutV (ns.map V.int) none (some 63)) (fun _ σ H1 => H1 = upd H p (.lst (cutV (ns.map V.int) none (some 63))) ∧ ∃ (s : Int) (x : Option V), σ = [some (.ref a), some (.int s), x]) ⟨rfl, 7, none, rfl⟩ (fun i σ H1 _ h => by rw [h.1]; exact SqL.of upd_same) (fun i x σ H1 hx h => ?_) (fun σ H1 h => ?_)
  · obtain ⟨hH, s, y, rfl⟩ := h
    have hm := cutV_get hx
    rw [List.mem_map] at hm
    obtain ⟨n, _, rfl⟩ := hm
    exact ⟨_, rfl, _, _, rfl, rfl, .inr (by decide), _, rfl, _, _, rfl, rfl, .inl ⟨_, rfl, _, _, rfl, rfl, (by show (0 : Int) < 1000003; decide), hH, _, _, rfl⟩⟩
  · obtain ⟨rfl, s, y, rfl⟩ := h
    refine ⟨_, rfl, a, _, rfl, .inl (sqL_grow hS np), fun l nl => ⟨_, rfl, by simp [sizeLine_eq], fun p2 np2 => ?_⟩⟩
    have n2 : l ≠ p2 := fun e => by rw [e, upd_same] at np2; cases np2
    exact hq p2 l s _ upd_same (by rw [upd_ne n2]; exact upd_same) n2 fun b o q => same_upd np2 _ _ (same_upd nl _ _ (same_upd np _ _ q))
theorem pool_len {vs : List V} {H : Hp} {Q : VK} {E : XK} (h : spPool K vs H Q E) : vs.length = 1 := by
  obtain ⟨a, ns, rfl, _⟩ := h
  rfl
end
/-- a law's run: a pool from the script, then plain -/
def spLaw (K : PySem.W.Frag) : Sp := fun vs H Q _ => ∃ (a : Addr) (ns : List Int), vs = [.ref a] ∧ SqL K H a (ns.map V.int) ∧ ∀ H', Q (.bl true) H'
def poT : Po := ⟨fun _ => False, fun d => d = .bl true, fun _ => False, fun _ => False⟩
theorem law_ok {P : Program} {w : World} {K : PySem.W.Frag} {mg : Str → Option Value} {base : Heap} {x qual : Str} {params : Arguments} {st1 : Stmt} {rest body : List Stmt} {scope : Scope} {f : Addr} {fd : FuncData} {N : List Str} {k : Nat} {O : Nat → Bool} {b : FS} {n : Nat}
    (F : FunD K x qual params body scope [] [] f fd) (S : FnScope N ["script"] scope) (hn : N.length = n + 2) (hO : O 1 = false) (hbody : body = st1 :: rest)
    (h1 : ∀ z : Ent k qual scope f, PS ((famD P w K mg base N qual scope f k).X z) st1 (tAsg (tCall (spPool K) [] E0 (tCons (tVar 0) tNil)) (L2.gName 1)))
    (hb : VSs (famD P w K mg base N qual scope f k) O rest b) (hp : b poT (none :: some .pool :: List.replicate n none)) :
    FnOk P w K mg base L2.CX0 (k + 1) f fd ["script"] (spLaw K) := by
  subst hbody
  obtain ⟨t, pt, g⟩ := hb
  refine F.ok S (fun vs H Q E h => ?_) (fun cdv A outer s H vs Q E hr h => ?_)
  · obtain ⟨a, ns, rfl, _⟩ := h
    rfl
  · obtain ⟨a, ns, rfl, hS, hq⟩ := h
    refine ⟨_, PSs.nox (pss_cons (h1 ⟨cdv, A, outer, s, H, E, hr⟩) (pt ⟨cdv, A, outer, s, H, E, hr⟩)), ?_⟩
    refine ⟨_, rfl, a, ns, rfl, hS, fun p l sl H' e1 e2 ne hk => ?_⟩
    have hst : L2.start N [V.ref a] = some (.ref a) :: none :: List.replicate n none := by
      unfold L2.start
      rw [hn]
      rfl
    rw [hst]
    have hP : PoolAt H' (p, l) := ⟨ns, 0, 0, 0, sl, e1, e2, ne, by decide⟩
    have hal : ∀ b, (b = p ∨ b = l) → ∃ o, H' b = some o := fun b z => by
      rcases z with rfl | rfl
      · exact ⟨_, e1⟩
      · exact ⟨_, e2⟩
    refine g (fun b => b = p ∨ b = l) (some (p, l)) H' (fun _ => False) (fun _ => none) (some (.ref a) :: some (.ref p) :: List.replicate n none) H' _ poT _ ⟨hal, fun q e => by cases e; exact ⟨⟨.inl rfl, .inr rfl⟩, hP⟩, (by intro i a e; exact nomatch e), (by intro i j a e; exact nomatch e), by simp, fun i d e => ?_⟩
      ⟨⟨fun a o q _ _ => q, fun q e => by cases e; exact hP⟩, (by intro i a e; exact nomatch e), hal⟩ hp ⟨fun _ _ _ _ _ _ h => h.elim, fun d v H2 kb r h => ?_, fun _ _ _ _ _ _ h => h.elim, fun _ _ _ _ _ _ h => h.elim⟩
    · match i, e with
      | 1, e =>
        cases e
        refine ⟨_, rfl, ?_⟩
        rw [if_neg (by rw [hO]; decide)]
        exact ⟨_, rfl, rfl⟩
      | i + 2, e =>
        have e : (List.replicate n (none : Option D))[i]? = some (some d) := e
        have := List.eq_of_mem_replicate (List.mem_of_getElem? e)
        cases this
    · have h : d = .bl true := h
      subst h
      obtain rfl : v = .bl true := r
      exact hq H2
end Fn
end P_FP
section P_FY
set_option maxHeartbeats 4000000
/-! Further rules. -/
namespace Fn
open PySem PySem.Spec PyProof.Rows L2
/-- list + list as a new list -/
def bCat : G2 := fun x y R => match x, y with
  | .lst a, .lst b => a.length + b.length ≤ 16777216 ∧ R (.lst (a ++ b))
  | _, _ => False
section
variable {F : Fam} {O : Nat → Bool} {e a b c : Expr} {es : List Expr} {f fa fb fc : FE} {pos p p2 p3 : Pos}
theorem vf_cat (ha : VR F O a fa) (hb : VR F O b fb) : VF F O (.BinOp a .Add b pos) (eBin bCat fa fb) := by
  obtain ⟨ta, pa, ga⟩ := ha
  obtain ⟨tb, pb, gb⟩ := hb
  refine ⟨_, fun i => pe_op op_cat (pa i) (pb i), fun M π own σ H ρ R Q x hf hq => ?_⟩
  refine ga M π own σ H ρ _ _ x hf fun d v H1 k1 r1 h1 => ?_
  have x1 := x.keep k1
  refine gb M π own σ H1 ρ _ _ x1 h1 fun d2 v2 H2 k2 r2 h2 => ?_
  have r3 := r1.keep x1.ctx k2
  unfold bCat at h2
  split at h2
  · rename_i l m
    obtain ⟨a1, xs, e1, q1, s1⟩ := r3.lst
    obtain ⟨a2, ys, e2, q2, s2⟩ := r2.lst
    subst e1 e2
    refine ⟨_, _, xs, ys, rfl, rfl, q1, q2, by rw [s1.length, s2.length, sizeLine_eq]; exact h2.1, fun p np => ?_⟩
    exact hq (.lst (l ++ m)) _ _ ((k1.trans k2).trans ((x1.keep k2).ctx.keepNew np)) (x.ctx.noneOf (k1.trans k2) np) ⟨_, upd_same, RepL.hold (hold_upd np) (fun a z => z.elim .inl fun e => .inr (e ▸ np)) _ _ (s1.append s2)⟩ h2.2
  · exact h2.elim
theorem vs_ap (j : Nat) {y : Str} (he : VE F O e f) (hN : ∀ i, (F.X i).N[j]? = some y := by intro _; rfl) (hv : ∀ i, Vis (F.X i).env.scope y := by intro _; first | exact Or.inl rfl | exact Or.inr (Or.inl rfl) | exact Or.inr (Or.inr rfl)) (hO : O j = true := by rfl)
    (hd : (y == ("__debug__" : Str)) = false := by decide) (hcd : (y == ("__classdict__" : Str)) = false := by decide)
    (hbase : ∀ i, attributeBase (.Name y p2) "append" (F.X i).env (eval (.Name y p2) (F.X i).env) = eval (.Name y p2) (F.X i).env := by intro _; rfl)
    (hfew : ∀ i, ((backTo p (starEach [e] (F.X i).env)).all (fun x => !x.1) && (backToKw p (keywordEach [] (F.X i).env)).all (fun x => x.1.isSome)
      && decide ([e].length + ([] : List Keyword).length + (if ([] : List Keyword).isEmpty then 0 else 1) < 30)) = true := by intro _; rfl)
    (hline : (p3.endLine == p.line) = true := by rfl) (hs : ∀ i, starEach [e] (F.X i).env = [(false, eval e (F.X i).env)] := by intro _; rfl)
    (hw : ∀ i, swapsWith (.Call (.Attribute (.Name y p2) "append" p3) [e] [] p) none pos.line (F.X i).env = pure false := by intro _; rfl) :
    VS F O (.Expr (.Call (.Attribute (.Name y p2) "append" p3) [e] [] p) pos) (sApp j f) := vs_app j (fun i => pe_var (hN i) (hv i) hd hcd) hO he hbase hfew hline hs hw
theorem vs_ex (j : Nat) {y : Str} (he : VR F O e f) (hN : ∀ i, (F.X i).N[j]? = some y := by intro _; rfl) (hv : ∀ i, Vis (F.X i).env.scope y := by intro _; first | exact Or.inl rfl | exact Or.inr (Or.inl rfl) | exact Or.inr (Or.inr rfl)) (hO : O j = true := by rfl)
    (hd : (y == ("__debug__" : Str)) = false := by decide) (hcd : (y == ("__classdict__" : Str)) = false := by decide)
    (hbase : ∀ i, attributeBase (.Name y p2) "extend" (F.X i).env (eval (.Name y p2) (F.X i).env) = eval (.Name y p2) (F.X i).env := by intro _; rfl)
    (hfew : ∀ i, ((backTo p (starEach [e] (F.X i).env)).all (fun x => !x.1) && (backToKw p (keywordEach [] (F.X i).env)).all (fun x => x.1.isSome)
      && decide ([e].length + ([] : List Keyword).length + (if ([] : List Keyword).isEmpty then 0 else 1) < 30)) = true := by intro _; rfl)
    (hline : (p3.endLine == p.line) = true := by rfl) (hs : ∀ i, starEach [e] (F.X i).env = [(false, eval e (F.X i).env)] := by intro _; rfl)
    (hw : ∀ i, swapsWith (.Call (.Attribute (.Name y p2) "extend" p3) [e] [] p) none pos.line (F.X i).env = pure false := by intro _; rfl) :
    VS F O (.Expr (.Call (.Attribute (.Name y p2) "extend" p3) [e] [] p) pos) (sExt j f) := vs_ext j (fun i => pe_var (hN i) (hv i) hd hcd) hO he hbase hfew hline hs hw
end
/-! ### several names by a tuple between -/
def namesT : List Nat → TGs
  | [] => gNil
  | j :: js => gCons (L2.gName j) (namesT js)
theorem namesT_run {Q : L2.St → Hp → Prop} {H : Hp} : ∀ {js : List Nat} {xs : List V} {σ : L2.St}, xs.length = js.length → Q (setS σ js xs) H → namesT js xs σ H Q
  | [], [], _, _, h => ⟨rfl, h⟩
  | j :: js, v :: xs, σ, e, h => ⟨v, xs, rfl, namesT_run (js := js) (by simpa using e) h⟩
def VN (F : Fam) (tgs : List Expr) (js : List Nat) : Prop := ∀ i, PGs (F.X i) tgs (namesT js)
theorem vn_nil {F : Fam} : VN F [] [] := fun _ => pgs_nil
theorem vn_cons {F : Fam} {tgs : List Expr} {js : List Nat} {p : Pos} {x : Str} (j : Nat) (hN : F.N.Nodup) (h : VN F tgs js) (hj : F.N[j]? = some x := by rfl) (hx : ∀ i, Loc (F.X i).env.scope x := by intro _; first | exact Or.inl rfl | exact Or.inr rfl) (hf : ∀ i, (F.X i).fn x = true ∨ (F.X i).env.scope.names.lookup x = some .local := by intro _; first | exact Or.inl rfl | exact Or.inr rfl)
    (hm : ∀ i, (assignEach (.Name x p :: tgs) (F.X i).env).map (·.2) = assign (.Name x p) (F.X i).env :: (assignEach tgs (F.X i).env).map (·.2) := by intro _; rfl) : VN F (.Name x p :: tgs) (j :: js) :=
  fun i => pgs_cons (pg_name (by rw [F.hN i]; exact hN) (by rw [F.hN i]; exact hj) (hx i) (hf i)) (h i) (hm i)
theorem vs_parT {F : Fam} {O : Nat → Bool} {tgs es : List Expr} {js : List Nat} {fl : FA} {kt k2 : Nat} {pt pt2 pos : Pos} (h : VP F O js es fl) (hv : VN F tgs js) (hl : js.length ≤ 16777216 := by decide)
    (hn : ∀ i, (assignEach tgs (F.X i).env).length = js.length := by intro _; rfl) (hst : ∀ i, (assignEach tgs (F.X i).env).findIdx? (·.1) = none := by intro _; rfl)
    (hs : ∀ i, swapsWithSole [.Tuple tgs kt pt] (.Tuple es k2 pt2) pos.line (F.X i).env = pure false := by intro _; rfl) (hw : ∀ i, swappedStores [.Tuple tgs kt pt] (.Tuple es k2 pt2) (F.X i).env = pure none := by intro _; rfl)
    (hm : ∀ i, (assignEach [.Tuple tgs kt pt] (F.X i).env).map (·.2) = [assign (.Tuple tgs kt pt) (F.X i).env] := by intro _; rfl) :
    VS F O (.Assign [.Tuple tgs kt pt] (.Tuple es k2 pt2) pos) (sPar js fl) := by
  obtain ⟨t, p, g⟩ := h
  refine ⟨tAsg (tTup t) (L2.gTup F.K js.length (namesT js)), fun i => by rw [← F.hK i]; exact ps_asg (pe_tup (p i)) (pg_tup (F.calm i) (hv i) (hn i) (hst i)) (hs i) (hw i) (hm i), fun M π H0 B own σ H ρ P D x fr hf hd => ?_⟩
  refine g M π own σ H ρ _ _ x hf fun l xs H1 k1 l2 l3 hx1 h1 => ?_
  obtain ⟨own1, x1, hn⟩ := hx1 σ ρ x
  refine ⟨by rw [l3, sizeLine_eq]; exact hl, fun q nq => ⟨q, xs, rfl, SqT.of upd_same, l3, namesT_run l3 ?_⟩⟩
  have k2 : Keep π H1 (upd H1 q (.tup xs)) := x1.ctx.keepNew nq
  exact hd.nx own1 _ _ _ (x1.keep k2) ((fr.par k1 hn x.plThere).step k2) h1
end Fn
end P_FY
section P_FS
set_option maxHeartbeats 4000000
/-! The plain layer's own laws: what a simp set says of each combinator; loops, comprehensions, draws. -/
namespace Fn
open PySem
/-! what a value is, once known -/
def onSeq (R : List D → Prop) : D → Prop
  | .tup l => R l
  | .lst l => R l
  | _ => False
def onBl (R : Bool → Prop) : D → Prop
  | .bl b => R b
  | _ => False
def onInt (R : Int → Prop) : D → Prop
  | .int i => R i
  | _ => False
@[simp ↓] theorem onSeq_t {R : List D → Prop} {l : List D} : onSeq R (.tup l) = R l := propext Iff.rfl
@[simp ↓] theorem onSeq_l {R : List D → Prop} {l : List D} : onSeq R (.lst l) = R l := propext Iff.rfl
@[simp ↓] theorem onBl_b {R : Bool → Prop} {b : Bool} : onBl R (.bl b) = R b := propext Iff.rfl
@[simp ↓] theorem onInt_i {R : Int → Prop} {i : Int} : onInt R (.int i) = R i := propext Iff.rfl
section
variable {ρ : Ren} {R : DK} {P : Po} {i j : Nat} {a b c : FE} {t u : FT} {fa : FA} {d : D}
@[simp ↓] theorem sSkip_s : sSkip P ρ = P.nx ρ := propext Iff.rfl
theorem sSeq_s {x y : FS} : sSeq x y P ρ = x ⟨y P, P.rt, P.bk, P.ct⟩ ρ := propext Iff.rfl
@[simp ↓] theorem sSet_s : sSet i a P ρ = a ρ fun d => P.nx (ρ.set i (some d)) := propext Iff.rfl
@[simp ↓] theorem sAsg_s {G : FG} : sAsg a G P ρ = a ρ fun d => G d ρ P.nx := propext Iff.rfl
@[simp ↓] theorem sRet_s : sRet a P ρ = a ρ P.rt := propext Iff.rfl
@[simp ↓] theorem sRetN_s : sRetN P ρ = P.rt .non := propext Iff.rfl
@[simp ↓] theorem sIf_s {x y : FS} : sIf t x y P ρ = t ρ fun c => if c = true then x P ρ else y P ρ := propext Iff.rfl
@[simp ↓] theorem sBrk_s : sBrk P ρ = P.bk ρ := propext Iff.rfl
@[simp ↓] theorem sCnt_s : sCnt P ρ = P.ct ρ := propext Iff.rfl
@[simp ↓] theorem sExp_s : sExp a P ρ = a ρ fun _ => P.nx ρ := propext Iff.rfl
@[simp ↓] theorem sPar_s {js : List Nat} : sPar js fa P ρ = fa ρ fun l => P.nx (setR ρ js l) := propext Iff.rfl
@[simp] theorem setR_nil {l : List D} : setR ρ [] l = ρ := by unfold setR; rfl
@[simp] theorem setR_cons {js : List Nat} {l : List D} : setR ρ (j :: js) (d :: l) = setR (ρ.set j (some d)) js l := rfl
@[simp ↓] theorem sFor_s {w : FI} {G : FG} {x : FS} : sFor w G x P ρ = w ρ fun l => forGo G x P l ρ := propext Iff.rfl
@[simp ↓] theorem sApp_s : sApp i a P ρ = (match ρ[i]? with
  | some (some (.lst l)) => a ρ fun d => l.length < 16777216 ∧ P.nx (ρ.set i (some (.lst (l ++ [d]))))
  | _ => False) := propext Iff.rfl
theorem eVar_s : eVar i ρ R = (match ρ[i]? with
  | some (some d) => R d
  | _ => False) := propext Iff.rfl
@[simp ↓] theorem eC_s : eC d ρ R = R d := propext Iff.rfl
@[simp ↓] theorem eUn_s {g : G1} : eUn g a ρ R = a ρ fun x => g x R := propext Iff.rfl
@[simp ↓] theorem eBin_s {g : G2} : eBin g a b ρ R = a ρ fun x => b ρ fun y => g x y R := propext Iff.rfl
@[simp ↓] theorem aNil_s {R : List D → Prop} : aNil ρ R = R [] := propext Iff.rfl
@[simp ↓] theorem aCons_s {R : List D → Prop} : aCons a fa ρ R = a ρ fun x => fa ρ fun l => R (x :: l) := propext Iff.rfl
@[simp ↓] theorem eTup_s : eTup fa ρ R = fa ρ fun l => l.length ≤ 16777216 ∧ R (.tup l) := propext Iff.rfl
@[simp ↓] theorem eLst_s : eLst fa ρ R = fa ρ fun l => l.length ≤ 16777216 ∧ R (.lst l) := propext Iff.rfl
@[simp ↓] theorem eCall_s {g : GA} : eCall g fa ρ R = fa ρ fun l => g l R := propext Iff.rfl
@[simp ↓] theorem eIf_s : eIf t a b ρ R = t ρ fun c => if c = true then a ρ R else b ρ R := propext Iff.rfl
@[simp ↓] theorem eLc_s {w : FI} {G : FG} {e : Ren → Nat → (List D → Prop) → Prop} {own : List Nat} : eLc w G t e own ρ R = w ρ fun items => lcGo G t e (wipe ρ own) items 16777216 fun l => R (.lst l) := propext Iff.rfl
@[simp ↓] theorem tVal_s {R : Bool → Prop} : tVal a ρ R = a ρ (onBl R) := propext Iff.rfl
@[simp ↓] theorem tAnd_s {R : Bool → Prop} : tAnd t u ρ R = t ρ fun c => if c = true then u ρ R else R false := propext Iff.rfl
@[simp ↓] theorem tOr_s {R : Bool → Prop} : tOr t u ρ R = t ρ fun c => if c = true then R true else u ρ R := propext Iff.rfl
@[simp ↓] theorem tNot_s {R : Bool → Prop} : tNot t ρ R = t ρ fun c => R (!c) := propext Iff.rfl
@[simp ↓] theorem eAnd_s : eAnd a b ρ R = a ρ (onBl fun k => if k = true then b ρ R else R (.bl false)) := propext Iff.rfl
@[simp ↓] theorem eOr_s : eOr a b ρ R = a ρ (onBl fun k => if k = true then R (.bl true) else b ρ R) := propext Iff.rfl
@[simp ↓] theorem eNot_s : eNot a ρ R = a ρ (onBl fun k => R (.bl (!k))) := propext Iff.rfl
@[simp ↓] theorem tYes_s {R : Bool → Prop} : tYes ρ R = R true := propext Iff.rfl
@[simp ↓] theorem gName_s {R : Ren → Prop} : Fn.gName i d ρ R = R (ρ.set i (some d)) := propext Iff.rfl
@[simp ↓] theorem gsNil_s {R : Ren → Prop} : gsNil [] ρ R = R ρ := propext Iff.rfl
@[simp ↓] theorem gsCons_s {R : Ren → Prop} {g : FG} {u : FGs} {l : List D} : gsCons g u (d :: l) ρ R = g d ρ fun ρ' => u l ρ' R := propext Iff.rfl
@[simp ↓] theorem gTup_s {R : Ren → Prop} {u : FGs} {l : List D} : Fn.gTup u (.tup l) ρ R = u l ρ R := propext Iff.rfl
@[simp ↓] theorem iSeq_s {R : List D → Prop} : iSeq a ρ R = a ρ (onSeq R) := propext Iff.rfl
@[simp ↓] theorem iRng1_s {R : List D → Prop} : iRng1 a ρ R = a ρ (onInt fun j => (-(2 ^ 62) ≤ j ∧ j < 2 ^ 62) ∧ R (rng 0 j.toNat)) := propext Iff.rfl
@[simp ↓] theorem iRng2_s {R : List D → Prop} : iRng2 a b ρ R = a ρ fun x => b ρ fun y => match x, y with
  | .int i, .int j => (-(2 ^ 62) ≤ i ∧ i < 2 ^ 62 ∧ -(2 ^ 62) ≤ j ∧ j < 2 ^ 62) ∧ R (rng i (j - i).toNat)
  | _, _ => False := rfl
@[simp ↓] theorem eSl_s {l h : FO} : eSl a l h ρ R = a ρ fun x => l ρ fun y => h ρ fun z => gSl x y z R := propext Iff.rfl
@[simp ↓] theorem oNone_s {R : Option Int → Prop} : oNone ρ R = R none := propext Iff.rfl
@[simp ↓] theorem oSome_s {R : Option Int → Prop} : oSome a ρ R = a ρ (onInt fun i => R (some i)) := propext Iff.rfl
@[simp ↓] theorem lcEl_s {n : Nat} {R : List D → Prop} : lcEl a ρ n R = a ρ fun y => 0 < n ∧ R [y] := propext Iff.rfl
@[simp] theorem wipe_nil : wipe ρ [] = ρ := rfl
@[simp] theorem wipe_cons {v : Nat} {vs : List Nat} : wipe ρ (v :: vs) = (wipe ρ vs).set v none := rfl
@[simp ↓] theorem fnD_s {n p : Nat} {F : FS} {ds : List D} : fnD n p F ds R = (ds.length = p ∧ F ⟨fun _ => R .non, R, fun _ => False, fun _ => False⟩ (ds.map some ++ List.replicate (n - p) none)) := propext Iff.rfl
theorem sSeq_i {x y : FS} (h : x ⟨y P, P.rt, P.bk, P.ct⟩ ρ) : sSeq x y P ρ := h
end
section
variable {R : DK} {r : Ren} {d y : Option D} {x0 x1 x2 x3 x4 x5 x6 x7 x8 x9 x10 x11 x12 x13 x14 x15 x16 x17 x18 x19 x20 x21 x22 x23 x24 x25 x26 x27 x28 x29 x30 x31 x32 x33 x34 x35 x36 x37 x38 x39 : Option D}
def onSome (R : DK) : Option D → Prop
  | some d => R d
  | none => False
@[simp ↓] theorem onSome_s {d : D} : onSome R (some d) = R d := propext Iff.rfl
@[simp ↓] theorem eVar_0 : eVar 0 (d :: r) R = onSome R d := by cases d <;> rfl
@[simp] theorem setN_0 : (d :: r).set 0 y = y :: r := rfl
@[simp ↓] theorem eVar_1 : eVar 1 (x0 :: d :: r) R = onSome R d := by cases d <;> rfl
@[simp] theorem setN_1 : (x0 :: d :: r).set 1 y = x0 :: y :: r := rfl
@[simp ↓] theorem eVar_2 : eVar 2 (x0 :: x1 :: d :: r) R = onSome R d := by cases d <;> rfl
@[simp] theorem setN_2 : (x0 :: x1 :: d :: r).set 2 y = x0 :: x1 :: y :: r := rfl
@[simp ↓] theorem eVar_3 : eVar 3 (x0 :: x1 :: x2 :: d :: r) R = onSome R d := by cases d <;> rfl
@[simp] theorem setN_3 : (x0 :: x1 :: x2 :: d :: r).set 3 y = x0 :: x1 :: x2 :: y :: r := rfl
@[simp ↓] theorem eVar_4 : eVar 4 (x0 :: x1 :: x2 :: x3 :: d :: r) R = onSome R d := by cases d <;> rfl
@[simp] theorem setN_4 : (x0 :: x1 :: x2 :: x3 :: d :: r).set 4 y = x0 :: x1 :: x2 :: x3 :: y :: r := rfl
@[simp ↓] theorem eVar_5 : eVar 5 (x0 :: x1 :: x2 :: x3 :: x4 :: d :: r) R = onSome R d := by cases d <;> rfl
@[simp] theorem setN_5 : (x0 :: x1 :: x2 :: x3 :: x4 :: d :: r).set 5 y = x0 :: x1 :: x2 :: x3 :: x4 :: y :: r := rfl
@[simp ↓] theorem eVar_6 : eVar 6 (x0 :: x1 :: x2 :: x3 :: x4 :: x5 :: d :: r) R = onSome R d := by cases d <;> rfl
@[simp] theorem setN_6 : (x0 :: x1 :: x2 :: x3 :: x4 :: x5 :: d :: r).set 6 y = x0 :: x1 :: x2 :: x3 :: x4 :: x5 :: y :: r := rfl
@[simp ↓] theorem eVar_7 : eVar 7 (x0 :: x1 :: x2 :: x3 :: x4 :: x5 :: x6 :: d :: r) R = onSome R d := by cases d <;> rfl
@[simp] theorem setN_7 : (x0 :: x1 :: x2 :: x3 :: x4 :: x5 :: x6 :: d :: r).set 7 y = x0 :: x1 :: x2 :: x3 :: x4 :: x5 :: x6 :: y :: r := rfl
@[simp ↓] theorem eVar_8 : eVar 8 (x0 :: x1 :: x2 :: x3 :: x4 :: x5 :: x6 :: x7 :: d :: r) R = onSome R d := by cases d <;> rfl
@[simp] theorem setN_8 : (x0 :: x1 :: x2 :: x3 :: x4 :: x5 :: x6 :: x7 :: d :: r).set 8 y = x0 :: x1 :: x2 :: x3 :: x4 :: x5 :: x6 :: x7 :: y :: r := rfl
@[simp ↓] theorem eVar_9 : eVar 9 (x0 :: x1 :: x2 :: x3 :: x4 :: x5 :: x6 :: x7 :: x8 :: d :: r) R = onSome R d := by cases d <;> rfl
@[simp] theorem setN_9 : (x0 :: x1 :: x2 :: x3 :: x4 :: x5 :: x6 :: x7 :: x8 :: d :: r).set 9 y = x0 :: x1 :: x2 :: x3 :: x4 :: x5 :: x6 :: x7 :: x8 :: y :: r := rfl
@[simp ↓] theorem eVar_10 : eVar 10 (x0 :: x1 :: x2 :: x3 :: x4 :: x5 :: x6 :: x7 :: x8 :: x9 :: d :: r) R = onSome R d := by cases d <;> rfl
@[simp] theorem setN_10 : (x0 :: x1 :: x2 :: x3 :: x4 :: x5 :: x6 :: x7 :: x8 :: x9 :: d :: r).set 10 y = x0 :: x1 :: x2 :: x3 :: x4 :: x5 :: x6 :: x7 :: x8 :: x9 :: y :: r := rfl
@[simp ↓] theorem eVar_11 : eVar 11 (x0 :: x1 :: x2 :: x3 :: x4 :: x5 :: x6 :: x7 :: x8 :: x9 :: x10 :: d :: r) R = onSome R d := by cases d <;> rfl
@[simp] theorem setN_11 : (x0 :: x1 :: x2 :: x3 :: x4 :: x5 :: x6 :: x7 :: x8 :: x9 :: x10 :: d :: r).set 11 y = x0 :: x1 :: x2 :: x3 :: x4 :: x5 :: x6 :: x7 :: x8 :: x9 :: x10 :: y :: r := rfl
@[simp ↓] theorem eVar_12 : eVar 12 (x0 :: x1 :: x2 :: x3 :: x4 :: x5 :: x6 :: x7 :: x8 :: x9 :: x10 :: x11 :: d :: r) R = onSome R d := by cases d <;> rfl
@[simp] theorem setN_12 : (x0 :: x1 :: x2 :: x3 :: x4 :: x5 :: x6 :: x7 :: x8 :: x9 :: x10 :: x11 :: d :: r).set 12 y = x0 :: x1 :: x2 :: x3 :: x4 :: x5 :: x6 :: x7 :: x8 :: x9 :: x10 :: x11 :: y :: r := rfl
@[simp ↓] theorem eVar_13 : eVar 13 (x0 :: x1 :: x2 :: x3 :: x4 :: x5 :: x6 :: x7 :: x8 :: x9 :: x10 :: x11 :: x12 :: d :: r) R = onSome R d := by cases d <;> rfl
@[simp] theorem setN_13 : (x0 :: x1 :: x2 :: x3 :: x4 :: x5 :: x6 :: x7 :: x8 :: x9 :: x10 :: x11 :: x12 :: d :: r).set 13 y = x0 :: x1 :: x2 :: x3 :: x4 :: x5 :: x6 :: x7 :: x8 :: x9 :: x10 :: x11 :: x12 :: y :: r := rfl
@[simp ↓] theorem eVar_14 : eVar 14 (x0 :: x1 :: x2 :: x3 :: x4 :: x5 :: x6 :: x7 :: x8 :: x9 :: x10 :: x11 :: x12 :: x13 :: d :: r) R = onSome R d := by cases d <;> rfl
@[simp] theorem setN_14 : (x0 :: x1 :: x2 :: x3 :: x4 :: x5 :: x6 :: x7 :: x8 :: x9 :: x10 :: x11 :: x12 :: x13 :: d :: r).set 14 y = x0 :: x1 :: x2 :: x3 :: x4 :: x5 :: x6 :: x7 :: x8 :: x9 :: x10 :: x11 :: x12 :: x13 :: y :: r := rfl
@[simp ↓] theorem eVar_15 : eVar 15 (x0 :: x1 :: x2 :: x3 :: x4 :: x5 :: x6 :: x7 :: x8 :: x9 :: x10 :: x11 :: x12 :: x13 :: x14 :: d :: r) R = onSome R d := by cases d <;> rfl
@[simp] theorem setN_15 : (x0 :: x1 :: x2 :: x3 :: x4 :: x5 :: x6 :: x7 :: x8 :: x9 :: x10 :: x11 :: x12 :: x13 :: x14 :: d :: r).set 15 y = x0 :: x1 :: x2 :: x3 :: x4 :: x5 :: x6 :: x7 :: x8 :: x9 :: x10 :: x11 :: x12 :: x13 :: x14 :: y :: r := rfl
@[simp ↓] theorem eVar_16 : eVar 16 (x0 :: x1 :: x2 :: x3 :: x4 :: x5 :: x6 :: x7 :: x8 :: x9 :: x10 :: x11 :: x12 :: x13 :: x14 :: x15 :: d :: r) R = onSome R d := by cases d <;> rfl
@[simp] theorem setN_16 : (x0 :: x1 :: x2 :: x3 :: x4 :: x5 :: x6 :: x7 :: x8 :: x9 :: x10 :: x11 :: x12 :: x13 :: x14 :: x15 :: d :: r).set 16 y = x0 :: x1 :: x2 :: x3 :: x4 :: x5 :: x6 :: x7 :: x8 :: x9 :: x10 :: x11 :: x12 :: x13 :: x14 :: x15 :: y :: r := rfl
@[simp ↓] theorem eVar_17 : eVar 17 (x0 :: x1 :: x2 :: x3 :: x4 :: x5 :: x6 :: x7 :: x8 :: x9 :: x10 :: x11 :: x12 :: x13 :: x14 :: x15 :: x16 :: d :: r) R = onSome R d := by cases d <;> rfl
@[simp] theorem setN_17 : (x0 :: x1 :: x2 :: x3 :: x4 :: x5 :: x6 :: x7 :: x8 :: x9 :: x10 :: x11 :: x12 :: x13 :: x14 :: x15 :: x16 :: d :: r).set 17 y = x0 :: x1 :: x2 :: x3 :: x4 :: x5 :: x6 :: x7 :: x8 :: x9 :: x10 :: x11 :: x12 :: x13 :: x14 :: x15 :: x16 :: y :: r := rfl
@[simp ↓] theorem eVar_18 : eVar 18 (x0 :: x1 :: x2 :: x3 :: x4 :: x5 :: x6 :: x7 :: x8 :: x9 :: x10 :: x11 :: x12 :: x13 :: x14 :: x15 :: x16 :: x17 :: d :: r) R = onSome R d := by cases d <;> rfl
@[simp] theorem setN_18 : (x0 :: x1 :: x2 :: x3 :: x4 :: x5 :: x6 :: x7 :: x8 :: x9 :: x10 :: x11 :: x12 :: x13 :: x14 :: x15 :: x16 :: x17 :: d :: r).set 18 y = x0 :: x1 :: x2 :: x3 :: x4 :: x5 :: x6 :: x7 :: x8 :: x9 :: x10 :: x11 :: x12 :: x13 :: x14 :: x15 :: x16 :: x17 :: y :: r := rfl
@[simp ↓] theorem eVar_19 : eVar 19 (x0 :: x1 :: x2 :: x3 :: x4 :: x5 :: x6 :: x7 :: x8 :: x9 :: x10 :: x11 :: x12 :: x13 :: x14 :: x15 :: x16 :: x17 :: x18 :: d :: r) R = onSome R d := by cases d <;> rfl
@[simp] theorem setN_19 : (x0 :: x1 :: x2 :: x3 :: x4 :: x5 :: x6 :: x7 :: x8 :: x9 :: x10 :: x11 :: x12 :: x13 :: x14 :: x15 :: x16 :: x17 :: x18 :: d :: r).set 19 y = x0 :: x1 :: x2 :: x3 :: x4 :: x5 :: x6 :: x7 :: x8 :: x9 :: x10 :: x11 :: x12 :: x13 :: x14 :: x15 :: x16 :: x17 :: x18 :: y :: r := rfl
@[simp ↓] theorem eVar_20 : eVar 20 (x0 :: x1 :: x2 :: x3 :: x4 :: x5 :: x6 :: x7 :: x8 :: x9 :: x10 :: x11 :: x12 :: x13 :: x14 :: x15 :: x16 :: x17 :: x18 :: x19 :: d :: r) R = onSome R d := by cases d <;> rfl
@[simp] theorem setN_20 : (x0 :: x1 :: x2 :: x3 :: x4 :: x5 :: x6 :: x7 :: x8 :: x9 :: x10 :: x11 :: x12 :: x13 :: x14 :: x15 :: x16 :: x17 :: x18 :: x19 :: d :: r).set 20 y = x0 :: x1 :: x2 :: x3 :: x4 :: x5 :: x6 :: x7 :: x8 :: x9 :: x10 :: x11 :: x12 :: x13 :: x14 :: x15 :: x16 :: x17 :: x18 :: x19 :: y :: r := rfl
@[simp ↓] theorem eVar_21 : eVar 21 (x0 :: x1 :: x2 :: x3 :: x4 :: x5 :: x6 :: x7 :: x8 :: x9 :: x10 :: x11 :: x12 :: x13 :: x14 :: x15 :: x16 :: x17 :: x18 :: x19 :: x20 :: d :: r) R = onSome R d := by cases d <;> rfl
@[simp] theorem setN_21 : (x0 :: x1 :: x2 :: x3 :: x4 :: x5 :: x6 :: x7 :: x8 :: x9 :: x10 :: x11 :: x12 :: x13 :: x14 :: x15 :: x16 :: x17 :: x18 :: x19 :: x20 :: d :: r).set 21 y = x0 :: x1 :: x2 :: x3 :: x4 :: x5 :: x6 :: x7 :: x8 :: x9 :: x10 :: x11 :: x12 :: x13 :: x14 :: x15 :: x16 :: x17 :: x18 :: x19 :: x20 :: y :: r := rfl
@[simp ↓] theorem eVar_22 : eVar 22 (x0 :: x1 :: x2 :: x3 :: x4 :: x5 :: x6 :: x7 :: x8 :: x9 :: x10 :: x11 :: x12 :: x13 :: x14 :: x15 :: x16 :: x17 :: x18 :: x19 :: x20 :: x21 :: d :: r) R = onSome R d := by cases d <;> rfl
@[simp] theorem setN_22 : (x0 :: x1 :: x2 :: x3 :: x4 :: x5 :: x6 :: x7 :: x8 :: x9 :: x10 :: x11 :: x12 :: x13 :: x14 :: x15 :: x16 :: x17 :: x18 :: x19 :: x20 :: x21 :: d :: r).set 22 y = x0 :: x1 :: x2 :: x3 :: x4 :: x5 :: x6 :: x7 :: x8 :: x9 :: x10 :: x11 :: x12 :: x13 :: x14 :: x15 :: x16 :: x17 :: x18 :: x19 :: x20 :: x21 :: y :: r := rfl
@[simp ↓] theorem eVar_23 : eVar 23 (x0 :: x1 :: x2 :: x3 :: x4 :: x5 :: x6 :: x7 :: x8 :: x9 :: x10 :: x11 :: x12 :: x13 :: x14 :: x15 :: x16 :: x17 :: x18 :: x19 :: x20 :: x21 :: x22 :: d :: r) R = onSome R d := by cases d <;> rfl
@[simp] theorem setN_23 : (x0 :: x1 :: x2 :: x3 :: x4 :: x5 :: x6 :: x7 :: x8 :: x9 :: x10 :: x11 :: x12 :: x13 :: x14 :: x15 :: x16 :: x17 :: x18 :: x19 :: x20 :: x21 :: x22 :: d :: r).set 23 y = x0 :: x1 :: x2 :: x3 :: x4 :: x5 :: x6 :: x7 :: x8 :: x9 :: x10 :: x11 :: x12 :: x13 :: x14 :: x15 :: x16 :: x17 :: x18 :: x19 :: x20 :: x21 :: x22 :: y :: r := rfl
@[simp ↓] theorem eVar_24 : eVar 24 (x0 :: x1 :: x2 :: x3 :: x4 :: x5 :: x6 :: x7 :: x8 :: x9 :: x10 :: x11 :: x12 :: x13 :: x14 :: x15 :: x16 :: x17 :: x18 :: x19 :: x20 :: x21 :: x22 :: x23 :: d :: r) R = onSome R d := by cases d <;> rfl
@[simp] theorem setN_24 : (x0 :: x1 :: x2 :: x3 :: x4 :: x5 :: x6 :: x7 :: x8 :: x9 :: x10 :: x11 :: x12 :: x13 :: x14 :: x15 :: x16 :: x17 :: x18 :: x19 :: x20 :: x21 :: x22 :: x23 :: d :: r).set 24 y = x0 :: x1 :: x2 :: x3 :: x4 :: x5 :: x6 :: x7 :: x8 :: x9 :: x10 :: x11 :: x12 :: x13 :: x14 :: x15 :: x16 :: x17 :: x18 :: x19 :: x20 :: x21 :: x22 :: x23 :: y :: r := rfl
@[simp ↓] theorem eVar_25 : eVar 25 (x0 :: x1 :: x2 :: x3 :: x4 :: x5 :: x6 :: x7 :: x8 :: x9 :: x10 :: x11 :: x12 :: x13 :: x14 :: x15 :: x16 :: x17 :: x18 :: x19 :: x20 :: x21 :: x22 :: x23 :: x24 :: d :: r) R = onSome R d := by cases d <;> rfl
@[simp] theorem setN_25 : (x0 :: x1 :: x2 :: x3 :: x4 :: x5 :: x6 :: x7 :: x8 :: x9 :: x10 :: x11 :: x12 :: x13 :: x14 :: x15 :: x16 :: x17 :: x18 :: x19 :: x20 :: x21 :: x22 :: x23 :: x24 :: d :: r).set 25 y = x0 :: x1 :: x2 :: x3 :: x4 :: x5 :: x6 :: x7 :: x8 :: x9 :: x10 :: x11 :: x12 :: x13 :: x14 :: x15 :: x16 :: x17 :: x18 :: x19 :: x20 :: x21 :: x22 :: x23 :: x24 :: y :: r := rfl
@[simp ↓] theorem eVar_26 : eVar 26 (x0 :: x1 :: x2 :: x3 :: x4 :: x5 :: x6 :: x7 :: x8 :: x9 :: x10 :: x11 :: x12 :: x13 :: x14 :: x15 :: x16 :: x17 :: x18 :: x19 :: x20 :: x21 :: x22 :: x23 :: x24 :: x25 :: d :: r) R = onSome R d := by cases d <;> rfl
@[simp] theorem setN_26 : (x0 :: x1 :: x2 :: x3 :: x4 :: x5 :: x6 :: x7 :: x8 :: x9 :: x10 :: x11 :: x12 :: x13 :: x14 :: x15 :: x16 :: x17 :: x18 :: x19 :: x20 :: x21 :: x22 :: x23 :: x24 :: x25 :: d :: r).set 26 y = x0 :: x1 :: x2 :: x3 :: x4 :: x5 :: x6 :: x7 :: x8 :: x9 :: x10 :: x11 :: x12 :: x13 :: x14 :: x15 :: x16 :: x17 :: x18 :: x19 :: x20 :: x21 :: x22 :: x23 :: x24 :: x25 :: y :: r := rfl
@[simp ↓] theorem eVar_27 : eVar 27 (x0 :: x1 :: x2 :: x3 :: x4 :: x5 :: x6 :: x7 :: x8 :: x9 :: x10 :: x11 :: x12 :: x13 :: x14 :: x15 :: x16 :: x17 :: x18 :: x19 :: x20 :: x21 :: x22 :: x23 :: x24 :: x25 :: x26 :: d :: r) R = onSome R d := by cases d <;> rfl
@[simp] theorem setN_27 : (x0 :: x1 :: x2 :: x3 :: x4 :: x5 :: x6 :: x7 :: x8 :: x9 :: x10 :: x11 :: x12 :: x13 :: x14 :: x15 :: x16 :: x17 :: x18 :: x19 :: x20 :: x21 :: x22 :: x23 :: x24 :: x25 :: x26 :: d :: r).set 27 y = x0 :: x1 :: x2 :: x3 :: x4 :: x5 :: x6 :: x7 :: x8 :: x9 :: x10 :: x11 :: x12 :: x13 :: x14 :: x15 :: x16 :: x17 :: x18 :: x19 :: x20 :: x21 :: x22 :: x23 :: x24 :: x25 :: x26 :: y :: r := rfl
@[simp ↓] theorem eVar_28 : eVar 28 (x0 :: x1 :: x2 :: x3 :: x4 :: x5 :: x6 :: x7 :: x8 :: x9 :: x10 :: x11 :: x12 :: x13 :: x14 :: x15 :: x16 :: x17 :: x18 :: x19 :: x20 :: x21 :: x22 :: x23 :: x24 :: x25 :: x26 :: x27 :: d :: r) R = onSome R d := by cases d <;> rfl
@[simp] theorem setN_28 : (x0 :: x1 :: x2 :: x3 :: x4 :: x5 :: x6 :: x7 :: x8 :: x9 :: x10 :: x11 :: x12 :: x13 :: x14 :: x15 :: x16 :: x17 :: x18 :: x19 :: x20 :: x21 :: x22 :: x23 :: x24 :: x25 :: x26 :: x27 :: d :: r).set 28 y = x0 :: x1 :: x2 :: x3 :: x4 :: x5 :: x6 :: x7 :: x8 :: x9 :: x10 :: x11 :: x12 :: x13 :: x14 :: x15 :: x16 :: x17 :: x18 :: x19 :: x20 :: x21 :: x22 :: x23 :: x24 :: x25 :: x26 :: x27 :: y :: r := rfl
@[simp ↓] theorem eVar_29 : eVar 29 (x0 :: x1 :: x2 :: x3 :: x4 :: x5 :: x6 :: x7 :: x8 :: x9 :: x10 :: x11 :: x12 :: x13 :: x14 :: x15 :: x16 :: x17 :: x18 :: x19 :: x20 :: x21 :: x22 :: x23 :: x24 :: x25 :: x26 :: x27 :: x28 :: d :: r) R = onSome R d := by cases d <;> rfl
@[simp] theorem setN_29 : (x0 :: x1 :: x2 :: x3 :: x4 :: x5 :: x6 :: x7 :: x8 :: x9 :: x10 :: x11 :: x12 :: x13 :: x14 :: x15 :: x16 :: x17 :: x18 :: x19 :: x20 :: x21 :: x22 :: x23 :: x24 :: x25 :: x26 :: x27 :: x28 :: d :: r).set 29 y = x0 :: x1 :: x2 :: x3 :: x4 :: x5 :: x6 :: x7 :: x8 :: x9 :: x10 :: x11 :: x12 :: x13 :: x14 :: x15 :: x16 :: x17 :: x18 :: x19 :: x20 :: x21 :: x22 :: x23 :: x24 :: x25 :: x26 :: x27 :: x28 :: y :: r := rfl
@[simp ↓] theorem eVar_30 : eVar 30 (x0 :: x1 :: x2 :: x3 :: x4 :: x5 :: x6 :: x7 :: x8 :: x9 :: x10 :: x11 :: x12 :: x13 :: x14 :: x15 :: x16 :: x17 :: x18 :: x19 :: x20 :: x21 :: x22 :: x23 :: x24 :: x25 :: x26 :: x27 :: x28 :: x29 :: d :: r) R = onSome R d := by cases d <;> rfl
@[simp] theorem setN_30 : (x0 :: x1 :: x2 :: x3 :: x4 :: x5 :: x6 :: x7 :: x8 :: x9 :: x10 :: x11 :: x12 :: x13 :: x14 :: x15 :: x16 :: x17 :: x18 :: x19 :: x20 :: x21 :: x22 :: x23 :: x24 :: x25 :: x26 :: x27 :: x28 :: x29 :: d :: r).set 30 y = x0 :: x1 :: x2 :: x3 :: x4 :: x5 :: x6 :: x7 :: x8 :: x9 :: x10 :: x11 :: x12 :: x13 :: x14 :: x15 :: x16 :: x17 :: x18 :: x19 :: x20 :: x21 :: x22 :: x23 :: x24 :: x25 :: x26 :: x27 :: x28 :: x29 :: y :: r := rfl
@[simp ↓] theorem eVar_31 : eVar 31 (x0 :: x1 :: x2 :: x3 :: x4 :: x5 :: x6 :: x7 :: x8 :: x9 :: x10 :: x11 :: x12 :: x13 :: x14 :: x15 :: x16 :: x17 :: x18 :: x19 :: x20 :: x21 :: x22 :: x23 :: x24 :: x25 :: x26 :: x27 :: x28 :: x29 :: x30 :: d :: r) R = onSome R d := by cases d <;> rfl
@[simp] theorem setN_31 : (x0 :: x1 :: x2 :: x3 :: x4 :: x5 :: x6 :: x7 :: x8 :: x9 :: x10 :: x11 :: x12 :: x13 :: x14 :: x15 :: x16 :: x17 :: x18 :: x19 :: x20 :: x21 :: x22 :: x23 :: x24 :: x25 :: x26 :: x27 :: x28 :: x29 :: x30 :: d :: r).set 31 y = x0 :: x1 :: x2 :: x3 :: x4 :: x5 :: x6 :: x7 :: x8 :: x9 :: x10 :: x11 :: x12 :: x13 :: x14 :: x15 :: x16 :: x17 :: x18 :: x19 :: x20 :: x21 :: x22 :: x23 :: x24 :: x25 :: x26 :: x27 :: x28 :: x29 :: x30 :: y :: r := rfl
@[simp ↓] theorem eVar_32 : eVar 32 (x0 :: x1 :: x2 :: x3 :: x4 :: x5 :: x6 :: x7 :: x8 :: x9 :: x10 :: x11 :: x12 :: x13 :: x14 :: x15 :: x16 :: x17 :: x18 :: x19 :: x20 :: x21 :: x22 :: x23 :: x24 :: x25 :: x26 :: x27 :: x28 :: x29 :: x30 :: x31 :: d :: r) R = onSome R d := by cases d <;> rfl
@[simp] theorem setN_32 : (x0 :: x1 :: x2 :: x3 :: x4 :: x5 :: x6 :: x7 :: x8 :: x9 :: x10 :: x11 :: x12 :: x13 :: x14 :: x15 :: x16 :: x17 :: x18 :: x19 :: x20 :: x21 :: x22 :: x23 :: x24 :: x25 :: x26 :: x27 :: x28 :: x29 :: x30 :: x31 :: d :: r).set 32 y = x0 :: x1 :: x2 :: x3 :: x4 :: x5 :: x6 :: x7 :: x8 :: x9 :: x10 :: x11 :: x12 :: x13 :: x14 :: x15 :: x16 :: x17 :: x18 :: x19 :: x20 :: x21 :: x22 :: x23 :: x24 :: x25 :: x26 :: x27 :: x28 :: x29 :: x30 :: x31 :: y :: r := rfl
@[simp ↓] theorem eVar_33 : eVar 33 (x0 :: x1 :: x2 :: x3 :: x4 :: x5 :: x6 :: x7 :: x8 :: x9 :: x10 :: x11 :: x12 :: x13 :: x14 :: x15 :: x16 :: x17 :: x18 :: x19 :: x20 :: x21 :: x22 :: x23 :: x24 :: x25 :: x26 :: x27 :: x28 :: x29 :: x30 :: x31 :: x32 :: d :: r) R = onSome R d := by cases d <;> rfl
@[simp] theorem setN_33 : (x0 :: x1 :: x2 :: x3 :: x4 :: x5 :: x6 :: x7 :: x8 :: x9 :: x10 :: x11 :: x12 :: x13 :: x14 :: x15 :: x16 :: x17 :: x18 :: x19 :: x20 :: x21 :: x22 :: x23 :: x24 :: x25 :: x26 :: x27 :: x28 :: x29 :: x30 :: x31 :: x32 :: d :: r).set 33 y = x0 :: x1 :: x2 :: x3 :: x4 :: x5 :: x6 :: x7 :: x8 :: x9 :: x10 :: x11 :: x12 :: x13 :: x14 :: x15 :: x16 :: x17 :: x18 :: x19 :: x20 :: x21 :: x22 :: x23 :: x24 :: x25 :: x26 :: x27 :: x28 :: x29 :: x30 :: x31 :: x32 :: y :: r := rfl
@[simp ↓] theorem eVar_34 : eVar 34 (x0 :: x1 :: x2 :: x3 :: x4 :: x5 :: x6 :: x7 :: x8 :: x9 :: x10 :: x11 :: x12 :: x13 :: x14 :: x15 :: x16 :: x17 :: x18 :: x19 :: x20 :: x21 :: x22 :: x23 :: x24 :: x25 :: x26 :: x27 :: x28 :: x29 :: x30 :: x31 :: x32 :: x33 :: d :: r) R = onSome R d := by cases d <;> rfl
@[simp] theorem setN_34 : (x0 :: x1 :: x2 :: x3 :: x4 :: x5 :: x6 :: x7 :: x8 :: x9 :: x10 :: x11 :: x12 :: x13 :: x14 :: x15 :: x16 :: x17 :: x18 :: x19 :: x20 :: x21 :: x22 :: x23 :: x24 :: x25 :: x26 :: x27 :: x28 :: x29 :: x30 :: x31 :: x32 :: x33 :: d :: r).set 34 y = x0 :: x1 :: x2 :: x3 :: x4 :: x5 :: x6 :: x7 :: x8 :: x9 :: x10 :: x11 :: x12 :: x13 :: x14 :: x15 :: x16 :: x17 :: x18 :: x19 :: x20 :: x21 :: x22 :: x23 :: x24 :: x25 :: x26 :: x27 :: x28 :: x29 :: x30 :: x31 :: x32 :: x33 :: y :: r := rfl
@[simp ↓] theorem eVar_35 : eVar 35 (x0 :: x1 :: x2 :: x3 :: x4 :: x5 :: x6 :: x7 :: x8 :: x9 :: x10 :: x11 :: x12 :: x13 :: x14 :: x15 :: x16 :: x17 :: x18 :: x19 :: x20 :: x21 :: x22 :: x23 :: x24 :: x25 :: x26 :: x27 :: x28 :: x29 :: x30 :: x31 :: x32 :: x33 :: x34 :: d :: r) R = onSome R d := by cases d <;> rfl
@[simp] theorem setN_35 : (x0 :: x1 :: x2 :: x3 :: x4 :: x5 :: x6 :: x7 :: x8 :: x9 :: x10 :: x11 :: x12 :: x13 :: x14 :: x15 :: x16 :: x17 :: x18 :: x19 :: x20 :: x21 :: x22 :: x23 :: x24 :: x25 :: x26 :: x27 :: x28 :: x29 :: x30 :: x31 :: x32 :: x33 :: x34 :: d :: r).set 35 y = x0 :: x1 :: x2 :: x3 :: x4 :: x5 :: x6 :: x7 :: x8 :: x9 :: x10 :: x11 :: x12 :: x13 :: x14 :: x15 :: x16 :: x17 :: x18 :: x19 :: x20 :: x21 :: x22 :: x23 :: x24 :: x25 :: x26 :: x27 :: x28 :: x29 :: x30 :: x31 :: x32 :: x33 :: x34 :: y :: r := rfl
@[simp ↓] theorem eVar_36 : eVar 36 (x0 :: x1 :: x2 :: x3 :: x4 :: x5 :: x6 :: x7 :: x8 :: x9 :: x10 :: x11 :: x12 :: x13 :: x14 :: x15 :: x16 :: x17 :: x18 :: x19 :: x20 :: x21 :: x22 :: x23 :: x24 :: x25 :: x26 :: x27 :: x28 :: x29 :: x30 :: x31 :: x32 :: x33 :: x34 :: x35 :: d :: r) R = onSome R d := by cases d <;> rfl
@[simp] theorem setN_36 : (x0 :: x1 :: x2 :: x3 :: x4 :: x5 :: x6 :: x7 :: x8 :: x9 :: x10 :: x11 :: x12 :: x13 :: x14 :: x15 :: x16 :: x17 :: x18 :: x19 :: x20 :: x21 :: x22 :: x23 :: x24 :: x25 :: x26 :: x27 :: x28 :: x29 :: x30 :: x31 :: x32 :: x33 :: x34 :: x35 :: d :: r).set 36 y = x0 :: x1 :: x2 :: x3 :: x4 :: x5 :: x6 :: x7 :: x8 :: x9 :: x10 :: x11 :: x12 :: x13 :: x14 :: x15 :: x16 :: x17 :: x18 :: x19 :: x20 :: x21 :: x22 :: x23 :: x24 :: x25 :: x26 :: x27 :: x28 :: x29 :: x30 :: x31 :: x32 :: x33 :: x34 :: x35 :: y :: r := rfl
@[simp ↓] theorem eVar_37 : eVar 37 (x0 :: x1 :: x2 :: x3 :: x4 :: x5 :: x6 :: x7 :: x8 :: x9 :: x10 :: x11 :: x12 :: x13 :: x14 :: x15 :: x16 :: x17 :: x18 :: x19 :: x20 :: x21 :: x22 :: x23 :: x24 :: x25 :: x26 :: x27 :: x28 :: x29 :: x30 :: x31 :: x32 :: x33 :: x34 :: x35 :: x36 :: d :: r) R = onSome R d := by cases d <;> rfl
@[simp] theorem setN_37 : (x0 :: x1 :: x2 :: x3 :: x4 :: x5 :: x6 :: x7 :: x8 :: x9 :: x10 :: x11 :: x12 :: x13 :: x14 :: x15 :: x16 :: x17 :: x18 :: x19 :: x20 :: x21 :: x22 :: x23 :: x24 :: x25 :: x26 :: x27 :: x28 :: x29 :: x30 :: x31 :: x32 :: x33 :: x34 :: x35 :: x36 :: d :: r).set 37 y = x0 :: x1 :: x2 :: x3 :: x4 :: x5 :: x6 :: x7 :: x8 :: x9 :: x10 :: x11 :: x12 :: x13 :: x14 :: x15 :: x16 :: x17 :: x18 :: x19 :: x20 :: x21 :: x22 :: x23 :: x24 :: x25 :: x26 :: x27 :: x28 :: x29 :: x30 :: x31 :: x32 :: x33 :: x34 :: x35 :: x36 :: y :: r := rfl
@[simp ↓] theorem eVar_38 : eVar 38 (x0 :: x1 :: x2 :: x3 :: x4 :: x5 :: x6 :: x7 :: x8 :: x9 :: x10 :: x11 :: x12 :: x13 :: x14 :: x15 :: x16 :: x17 :: x18 :: x19 :: x20 :: x21 :: x22 :: x23 :: x24 :: x25 :: x26 :: x27 :: x28 :: x29 :: x30 :: x31 :: x32 :: x33 :: x34 :: x35 :: x36 :: x37 :: d :: r) R = onSome R d := by cases d <;> rfl
@[simp] theorem setN_38 : (x0 :: x1 :: x2 :: x3 :: x4 :: x5 :: x6 :: x7 :: x8 :: x9 :: x10 :: x11 :: x12 :: x13 :: x14 :: x15 :: x16 :: x17 :: x18 :: x19 :: x20 :: x21 :: x22 :: x23 :: x24 :: x25 :: x26 :: x27 :: x28 :: x29 :: x30 :: x31 :: x32 :: x33 :: x34 :: x35 :: x36 :: x37 :: d :: r).set 38 y = x0 :: x1 :: x2 :: x3 :: x4 :: x5 :: x6 :: x7 :: x8 :: x9 :: x10 :: x11 :: x12 :: x13 :: x14 :: x15 :: x16 :: x17 :: x18 :: x19 :: x20 :: x21 :: x22 :: x23 :: x24 :: x25 :: x26 :: x27 :: x28 :: x29 :: x30 :: x31 :: x32 :: x33 :: x34 :: x35 :: x36 :: x37 :: y :: r := rfl
@[simp ↓] theorem eVar_39 : eVar 39 (x0 :: x1 :: x2 :: x3 :: x4 :: x5 :: x6 :: x7 :: x8 :: x9 :: x10 :: x11 :: x12 :: x13 :: x14 :: x15 :: x16 :: x17 :: x18 :: x19 :: x20 :: x21 :: x22 :: x23 :: x24 :: x25 :: x26 :: x27 :: x28 :: x29 :: x30 :: x31 :: x32 :: x33 :: x34 :: x35 :: x36 :: x37 :: x38 :: d :: r) R = onSome R d := by cases d <;> rfl
@[simp] theorem setN_39 : (x0 :: x1 :: x2 :: x3 :: x4 :: x5 :: x6 :: x7 :: x8 :: x9 :: x10 :: x11 :: x12 :: x13 :: x14 :: x15 :: x16 :: x17 :: x18 :: x19 :: x20 :: x21 :: x22 :: x23 :: x24 :: x25 :: x26 :: x27 :: x28 :: x29 :: x30 :: x31 :: x32 :: x33 :: x34 :: x35 :: x36 :: x37 :: x38 :: d :: r).set 39 y = x0 :: x1 :: x2 :: x3 :: x4 :: x5 :: x6 :: x7 :: x8 :: x9 :: x10 :: x11 :: x12 :: x13 :: x14 :: x15 :: x16 :: x17 :: x18 :: x19 :: x20 :: x21 :: x22 :: x23 :: x24 :: x25 :: x26 :: x27 :: x28 :: x29 :: x30 :: x31 :: x32 :: x33 :: x34 :: x35 :: x36 :: x37 :: x38 :: y :: r := rfl
end
section
variable {ρ : Ren} {R : DK} {P : Po} {i j : Nat} {a b c : FE} {t u : FT} {fa : FA} {d : D}
/-! operators -/
@[simp ↓] theorem bAdd_int {i j : Int} : bAdd (.int i) (.int j) R = R (.int (i + j)) := propext Iff.rfl
@[simp ↓] theorem bAdd_str {x y : Str} : bAdd (.str x) (.str y) R = (x.length + y.length ≤ 16777216 ∧ R (.str (x ++ y))) := propext Iff.rfl
@[simp ↓] theorem bAdd_tup {x y : List D} : bAdd (.tup x) (.tup y) R = (x.length + y.length ≤ 16777216 ∧ R (.tup (x ++ y))) := propext Iff.rfl
@[simp ↓] theorem bAdd_lst {x y : List D} : bAdd (.lst x) (.lst y) R = (x.length + y.length ≤ 16777216 ∧ R (.lst (x ++ y))) := propext Iff.rfl
@[simp ↓] theorem bCat_lst {x y : List D} : bCat (.lst x) (.lst y) R = (x.length + y.length ≤ 16777216 ∧ R (.lst (x ++ y))) := propext Iff.rfl
@[simp ↓] theorem bSub_int {i j : Int} : bSub (.int i) (.int j) R = R (.int (i - j)) := propext Iff.rfl
@[simp ↓] theorem bMulI_int {i j : Int} : bMulI (.int i) (.int j) R = (((-(2 ^ 64) < i ∧ i < 2 ^ 64) ∨ (-(2 ^ 64) < j ∧ j < 2 ^ 64)) ∧ R (.int (i * j))) := propext Iff.rfl
@[simp ↓] theorem bMod_int {i j : Int} : bMod (.int i) (.int j) R = (0 < j ∧ R (.int (i % j))) := propext Iff.rfl
@[simp ↓] theorem cEq_s {x y : D} : cEq x y R = (okE x y ∧ R (.bl (eqb x y))) := propext Iff.rfl
@[simp ↓] theorem cNe_s {x y : D} : cNe x y R = (okE x y ∧ R (.bl (!eqb x y))) := propext Iff.rfl
@[simp ↓] theorem cIn_s {x y : D} : cIn x y R = isIn x y fun b => R (.bl b) := propext Iff.rfl
@[simp ↓] theorem cNotIn_s {x y : D} : cNotIn x y R = isIn x y fun b => R (.bl (!b)) := propext Iff.rfl
@[simp ↓] theorem cLt_int {i j : Int} : cLt (.int i) (.int j) R = R (.bl (decide (i < j))) := propext Iff.rfl
@[simp ↓] theorem cGt_int {i j : Int} : cGt (.int i) (.int j) R = R (.bl (decide (j < i))) := propext Iff.rfl
@[simp ↓] theorem cLe_int {i j : Int} : cLe (.int i) (.int j) R = R (.bl (decide (i ≤ j))) := propext Iff.rfl
@[simp ↓] theorem cGe_int {i j : Int} : cGe (.int i) (.int j) R = R (.bl (decide (j ≤ i))) := propext Iff.rfl
@[simp ↓] theorem fIs_s {T : Ty} {x : D} : fIs T x R = (x.tyN ≠ none ∧ R (.bl (isT T x))) := propext Iff.rfl
@[simp] theorem tyN_tup {l : List D} : (D.tup l).tyN = some "tuple" := rfl
@[simp] theorem tyN_lst {l : List D} : (D.lst l).tyN = some "list" := rfl
@[simp] theorem tyN_str {x : Str} : (D.str x).tyN = some "str" := rfl
@[simp] theorem tyN_int {x : Int} : (D.int x).tyN = some "int" := rfl
@[simp] theorem tyN_bl {x : Bool} : (D.bl x).tyN = some "bool" := rfl
@[simp] theorem tyN_non : D.non.tyN = some "NoneType" := rfl
@[simp] theorem isT_ti {x : Int} : isT .tuple (.int x) = false := rfl
@[simp] theorem isT_tb {x : Bool} : isT .tuple (.bl x) = false := rfl
@[simp] theorem isT_ts {x : Str} : isT .tuple (.str x) = false := rfl
@[simp] theorem isT_tn : isT .tuple .non = false := rfl
@[simp] theorem isT_tl {x : List D} : isT .tuple (.lst x) = false := rfl
@[simp] theorem isT_tt {x : List D} : isT .tuple (.tup x) = true := rfl
@[simp] theorem isT_li {x : Int} : isT .list (.int x) = false := rfl
@[simp] theorem isT_lb {x : Bool} : isT .list (.bl x) = false := rfl
@[simp] theorem isT_ls {x : Str} : isT .list (.str x) = false := rfl
@[simp] theorem isT_ln : isT .list .non = false := rfl
@[simp] theorem isT_ll {x : List D} : isT .list (.lst x) = true := rfl
@[simp] theorem isT_lt {x : List D} : isT .list (.tup x) = false := rfl
@[simp] theorem isT_bi {x : Int} : isT .bool (.int x) = false := rfl
@[simp] theorem isT_bb {x : Bool} : isT .bool (.bl x) = true := rfl
@[simp] theorem isT_bs {x : Str} : isT .bool (.str x) = false := rfl
@[simp] theorem isT_bn : isT .bool .non = false := rfl
@[simp] theorem isT_bll {x : List D} : isT .bool (.lst x) = false := rfl
@[simp] theorem isT_bt {x : List D} : isT .bool (.tup x) = false := rfl
@[simp] theorem isT_ii {x : Int} : isT .int (.int x) = true := rfl
@[simp] theorem isT_ib {x : Bool} : isT .int (.bl x) = true := rfl
@[simp] theorem isT_is {x : Str} : isT .int (.str x) = false := rfl
@[simp] theorem isT_in : isT .int .non = false := rfl
@[simp] theorem isT_il {x : List D} : isT .int (.lst x) = false := rfl
@[simp] theorem isT_it {x : List D} : isT .int (.tup x) = false := rfl
@[simp] theorem isT_si {x : Int} : isT .str (.int x) = false := rfl
@[simp] theorem isT_sb {x : Bool} : isT .str (.bl x) = false := rfl
@[simp] theorem isT_ss {x : Str} : isT .str (.str x) = true := rfl
@[simp] theorem isT_sn : isT .str .non = false := rfl
@[simp] theorem isT_sl {x : List D} : isT .str (.lst x) = false := rfl
@[simp] theorem isT_st {x : List D} : isT .str (.tup x) = false := rfl
@[simp ↓] theorem fLen_tup {l : List D} : fLen [.tup l] R = R (.int l.length) := propext Iff.rfl
@[simp ↓] theorem fLen_lst {l : List D} : fLen [.lst l] R = R (.int l.length) := propext Iff.rfl
@[simp ↓] theorem fLen_str {z : Str} : fLen [.str z] R = (z.length ≤ 16777216 ∧ R (.int z.length)) := propext Iff.rfl
@[simp ↓] theorem fLen_dct {l : List (Key × D)} : fLen [.dct l] R = R (.int l.length) := propext Iff.rfl
@[simp ↓] theorem fInt_s {i : Int} : fInt [.int i] R = R (.int i) := propext Iff.rfl
@[simp ↓] theorem fTuple_tup {l : List D} : fTuple [.tup l] R = R (.tup l) := propext Iff.rfl
@[simp ↓] theorem fTuple_lst {l : List D} : fTuple [.lst l] R = R (.tup l) := propext Iff.rfl
@[simp ↓] theorem fList_tup {l : List D} : fList [.tup l] R = R (.lst l) := propext Iff.rfl
@[simp ↓] theorem fList_lst {l : List D} : fList [.lst l] R = R (.lst l) := propext Iff.rfl
@[simp ↓] theorem gSl_tup {l : List D} {x y : Option Int} : gSl (.tup l) x y R = R (.tup (cut l x y)) := propext Iff.rfl
@[simp ↓] theorem gSl_lst {l : List D} {x y : Option Int} : gSl (.lst l) x y R = R (.lst (cut l x y)) := propext Iff.rfl
/-! data -/
@[simp] theorem dat_str {x : Str} : (D.str x).dat = true := rfl
@[simp] theorem dat_int {x : Int} : (D.int x).dat = true := rfl
@[simp] theorem dat_bl {x : Bool} : (D.bl x).dat = true := rfl
@[simp] theorem dat_non : D.non.dat = true := rfl
@[simp] theorem dat_tup {l : List D} : (D.tup l).dat = datL l := by rw [D.dat]
@[simp] theorem dat_lst {l : List D} : (D.lst l).dat = datL l := by rw [D.dat]
@[simp] theorem datL_nil : datL [] = true := by rw [datL]
@[simp] theorem datL_cons {x : D} {l : List D} : datL (x :: l) = (x.dat && datL l) := by rw [datL]
@[simp] theorem dep_str {x : Str} : (D.str x).dep = 1 := by simp [D.dep]
@[simp] theorem dep_int {x : Int} : (D.int x).dep = 1 := by simp [D.dep]
@[simp] theorem dep_bl {x : Bool} : (D.bl x).dep = 1 := by simp [D.dep]
@[simp] theorem dep_non : D.non.dep = 1 := by simp [D.dep]
@[simp] theorem dep_tup {l : List D} : (D.tup l).dep = depL l + 1 := by simp [D.dep]
@[simp] theorem dep_lst {l : List D} : (D.lst l).dep = depL l + 1 := by simp [D.dep]
@[simp] theorem depL_nil : depL [] = 0 := by simp [depL]
@[simp] theorem depL_cons {x : D} {l : List D} : depL (x :: l) = max x.dep (depL l) := by simp [depL]
@[simp] theorem okE_s {x y : D} : okE x y = (x.dat = true ∧ y.dat = true ∧ min x.dep y.dep ≤ 64) := rfl
end
end Fn
end P_FS
section P_FL
set_option maxHeartbeats 4000000
/-! Equality of data, loops, comprehensions, draws. -/
namespace Fn
open PySem
@[simp] theorem eqb_int {i j : Int} : eqb (.int i) (.int j) = decide (i = j) := by
  show PyData.eqv (.int i) (.int j) = _
  rw [PyData.eqv.eq_5]
  by_cases h : i = j <;> simp [h]
@[simp] theorem eqb_bl {i j : Bool} : eqb (.bl i) (.bl j) = decide (i = j) := by
  show PyData.eqv (.bool i) (.bool j) = _
  rw [PyData.eqv.eq_2]
  cases i <;> cases j <;> rfl
@[simp] theorem eqb_str {x y : Str} : eqb (.str x) (.str y) = decide (x = y) := by
  show PyData.eqv (.str x) (.str y) = _
  rw [PyData.eqv.eq_6]
  by_cases h : x = y <;> simp [h]
/-! ### comprehensions of one clause -/
/-- each item turned by f -/
theorem lcGo_map {G : FG} {e : FE} {ρ : Ren} {t : FT} (f : D → D) : ∀ (ds : List D) (n : Nat) (R : List D → Prop), (∀ d ∈ ds, ∀ (R : Ren → Prop), (∀ ρ', (∀ Q : Bool → Prop, Q true → t ρ' Q) → (∀ Q : DK, Q (f d) → e ρ' Q) → R ρ') → G d ρ R) → ds.length ≤ n → R (ds.map f) → lcGo G t (lcEl e) ρ ds n R
  | [], _, _, _, _, h => h
  | d :: r, n, R, hG, hn, h => by
    unfold lcGo
    refine hG d List.mem_cons_self _ fun ρ' ht he => ?_
    refine ht _ ?_
    rw [if_pos rfl]
    simp only [List.length_cons] at hn
    refine he _ ⟨by omega, ?_⟩
    exact lcGo_map f r _ _ (fun d hd => hG d (List.mem_cons_of_mem _ hd)) (by simp only [List.length_singleton]; omega) h
theorem lcGo_mapE {α : Type} {G : FG} {e : FE} {ρ : Ren} {t : FT} (enc f : α → D) : ∀ (l : List α) {n : Nat} {R : List D → Prop}, (∀ x ∈ l, ∀ (R : Ren → Prop), (∀ ρ', (∀ Q : Bool → Prop, Q true → t ρ' Q) → (∀ Q : DK, Q (f x) → e ρ' Q) → R ρ') → G (enc x) ρ R) → l.length ≤ n → R (l.map f) → lcGo G t (lcEl e) ρ (l.map enc) n R
  | [], _, _, _, _, h => h
  | d :: r, n, R, hG, hn, h => by
    rw [List.map_cons]
    unfold lcGo
    refine hG d List.mem_cons_self _ fun ρ' ht he => ?_
    refine ht _ ?_
    rw [if_pos rfl]
    simp only [List.length_cons] at hn
    refine he _ ⟨by omega, ?_⟩
    exact lcGo_mapE enc f r (fun d hd => hG d (List.mem_cons_of_mem _ hd)) (by simp only [List.length_singleton]; omega) h
theorem lcGo_filE {α : Type} {G : FG} {e : FE} {ρ : Ren} {t : FT} (enc f : α → D) (c : α → Bool) : ∀ (l : List α) {n : Nat} {R : List D → Prop}, (∀ x ∈ l, ∀ (R : Ren → Prop), (∀ ρ', (∀ Q : Bool → Prop, Q (c x) → t ρ' Q) → (c x = true → ∀ Q : DK, Q (f x) → e ρ' Q) → R ρ') → G (enc x) ρ R) → l.length ≤ n → R ((l.filter c).map f) → lcGo G t (lcEl e) ρ (l.map enc) n R
  | [], _, _, _, _, h => h
  | d :: r, n, R, hG, hn, h => by
    rw [List.map_cons]
    unfold lcGo
    refine hG d List.mem_cons_self _ fun ρ' ht he => ?_
    refine ht _ ?_
    simp only [List.length_cons] at hn
    by_cases hc : c d = true
    · rw [if_pos hc]
      refine he hc _ ⟨by omega, ?_⟩
      refine lcGo_filE enc f c r (fun d hd => hG d (List.mem_cons_of_mem _ hd)) (by simp only [List.length_singleton]; omega) ?_
      rw [List.filter_cons_of_pos hc] at h
      exact h
    · rw [if_neg hc]
      refine lcGo_filE enc f c r (fun d hd => hG d (List.mem_cons_of_mem _ hd)) (by omega) ?_
      rw [List.filter_cons_of_neg hc] at h
      exact h
/-- each item gives something -/
theorem lcGo_any {G : FG} {e : FE} {ρ : Ren} {t : FT} (p : D → Prop) : ∀ (ds : List D) (n : Nat) (R : List D → Prop), (∀ d ∈ ds, ∀ (R : Ren → Prop), (∀ ρ', (∀ Q : Bool → Prop, Q true → t ρ' Q) → (∀ Q : DK, (∀ y, p y → Q y) → e ρ' Q) → R ρ') → G d ρ R) → ds.length ≤ n → (∀ l : List D, l.length = ds.length → (∀ y ∈ l, p y) → R l) → lcGo G t (lcEl e) ρ ds n R
  | [], _, _, _, _, h => h [] rfl (by simp)
  | d :: r, n, R, hG, hn, h => by
    unfold lcGo
    refine hG d List.mem_cons_self _ fun ρ' ht he => ?_
    refine ht _ ?_
    rw [if_pos rfl]
    simp only [List.length_cons] at hn
    refine he _ fun y hy => ⟨by omega, ?_⟩
    refine lcGo_any p r _ _ (fun d hd => hG d (List.mem_cons_of_mem _ hd)) (by simp only [List.length_singleton]; omega) fun l hl hp => h _ (by simp [hl]) fun z hz => ?_
    rcases List.mem_cons.mp hz with rfl | hz
    · exact hy
    · exact hp z hz
/-- items of which c is true, turned by f -/
theorem lcGo_fil {G : FG} {e : FE} {ρ : Ren} {t : FT} (c : D → Bool) (f : D → D) : ∀ (ds : List D) (n : Nat) (R : List D → Prop), (∀ d ∈ ds, ∀ (R : Ren → Prop), (∀ ρ', (∀ Q : Bool → Prop, Q (c d) → t ρ' Q) → (c d = true → ∀ Q : DK, Q (f d) → e ρ' Q) → R ρ') → G d ρ R) → ds.length ≤ n → R ((ds.filter c).map f) → lcGo G t (lcEl e) ρ ds n R
  | [], _, _, _, _, h => h
  | d :: r, n, R, hG, hn, h => by
    unfold lcGo
    refine hG d List.mem_cons_self _ fun ρ' ht he => ?_
    refine ht _ ?_
    simp only [List.length_cons] at hn
    by_cases hc : c d = true
    · rw [if_pos hc]
      refine he hc _ ⟨by omega, ?_⟩
      refine lcGo_fil c f r _ _ (fun d hd => hG d (List.mem_cons_of_mem _ hd)) (by simp only [List.length_singleton]; omega) ?_
      rw [List.filter_cons_of_pos hc] at h
      exact h
    · rw [if_neg hc]
      refine lcGo_fil c f r _ _ (fun d hd => hG d (List.mem_cons_of_mem _ hd)) (by omega) ?_
      rw [List.filter_cons_of_neg hc] at h
      exact h
/-- each item gives a list (what stands behind the first clause) -/
theorem lcGo_flat {G : FG} {e : Ren → Nat → (List D → Prop) → Prop} {ρ : Ren} {t : FT} (f : D → List D) : ∀ (ds : List D) (n : Nat) (R : List D → Prop), (∀ d ∈ ds, ∀ (R : Ren → Prop), (∀ ρ', (∀ Q : Bool → Prop, Q true → t ρ' Q) → (∀ m (Q : List D → Prop), (f d).length ≤ m → Q (f d) → e ρ' m Q) → R ρ') → G d ρ R) → (ds.flatMap f).length ≤ n → R (ds.flatMap f) → lcGo G t e ρ ds n R
  | [], _, _, _, _, h => h
  | d :: r, n, R, hG, hn, h => by
    unfold lcGo
    refine hG d List.mem_cons_self _ fun ρ' ht he => ?_
    refine ht _ ?_
    rw [if_pos rfl]
    simp only [List.flatMap_cons, List.length_append] at hn
    refine he _ _ (by omega) ?_
    exact lcGo_flat f r _ _ (fun d hd => hG d (List.mem_cons_of_mem _ hd)) (by omega) h
/-! ### for -/
theorem forGo_inv {α : Type} {G : FG} {b : FS} {P : Po} (enc : α → D) (I : List α → Ren → Prop) (l : List α) {ρ : Ren} (h0 : I [] ρ)
    (step : ∀ done x rest, l = done ++ x :: rest → ∀ ρ, I done ρ → ∀ K : Ren → Prop, (∀ ρ', I (done ++ [x]) ρ' → K ρ') → G (enc x) ρ fun ρ' => b ⟨K, P.rt, P.nx, K⟩ ρ') (last : ∀ ρ, I l ρ → P.nx ρ) : forGo G b P (l.map enc) ρ := by
  have key : ∀ (rest done : List α) (ρ : Ren), l = done ++ rest → I done ρ → forGo G b P (rest.map enc) ρ := by
    intro rest
    induction rest with
    | nil =>
      intro done ρ e h
      simp at e
      subst e
      exact last ρ h
    | cons x r ih =>
      intro done ρ e h
      exact step done x r e ρ h _ fun ρ' h' => ih (done ++ [x]) ρ' (by simp [e]) h'
  exact key l [] ρ (by simp) h0
/-! ### draws -/
theorem draw_any {m : Int} {R : DK} (h0 : 0 < m) (h1 : m < 1099511627776) (h : ∀ k : Nat, (k : Int) < m → R (.int k)) : fDraw [.pool, .int m] R :=
  ⟨h0, h1, fun k h2 h3 => by
    obtain ⟨n, rfl⟩ := Int.eq_ofNat_of_zero_le h2
    exact h n h3⟩
theorem atI_of {α : Type} {l : List α} {k : Nat} (h : k < l.length) : Fn.atI l (k : Int) = some (l[k]'h) := by
  unfold Fn.atI Fn.ixN
  rw [if_pos (Int.natCast_nonneg k), if_pos (by omega)]
  simp [h]
theorem bIx_tup {l : List D} {k : Nat} {R : DK} (h : k < l.length) (q : R (l[k]'h)) : bIx (.tup l) (.int k) R := by
  show match Fn.atI l k with | some d => R d | none => False
  rw [atI_of h]; exact q
theorem bIx_lst {l : List D} {k : Nat} {R : DK} (h : k < l.length) (q : R (l[k]'h)) : bIx (.lst l) (.int k) R := by
  show match Fn.atI l k with | some d => R d | none => False
  rw [atI_of h]; exact q
section
variable {x y z : D} {r : List D} {R : DK}
@[simp ↓] theorem bIx_t0 : bIx (.tup (x :: r)) (.int 0) R = R x := by
  show (match Fn.atI (x :: r) 0 with | some d => R d | none => False) = _
  have : Fn.atI (x :: r) 0 = some x := atI_of (l := x :: r) (k := 0) (by simp)
  rw [this]
@[simp ↓] theorem bIx_t1 : bIx (.tup (x :: y :: r)) (.int 1) R = R y := by
  show (match Fn.atI (x :: y :: r) 1 with | some d => R d | none => False) = _
  have : Fn.atI (x :: y :: r) 1 = some y := atI_of (l := x :: y :: r) (k := 1) (by simp)
  rw [this]
@[simp ↓] theorem bIx_t2 : bIx (.tup (x :: y :: z :: r)) (.int 2) R = R z := by
  show (match Fn.atI (x :: y :: z :: r) 2 with | some d => R d | none => False) = _
  have : Fn.atI (x :: y :: z :: r) 2 = some z := atI_of (l := x :: y :: z :: r) (k := 2) (by simp)
  rw [this]
end
@[simp] theorem cut_one {α : Type} {x : α} {l : List α} : cut (x :: l) (some 1) none = l := by
  unfold cut sIx
  have : min (1 : Int).toNat (x :: l).length = 1 := by simp
  simp [this]
@[simp] theorem isNon_non : D.non.isNon = true := rfl
@[simp] theorem isNon_bl {b : Bool} : (D.bl b).isNon = false := rfl
@[simp] theorem isNon_int {b : Int} : (D.int b).isNon = false := rfl
@[simp] theorem isNon_str {b : Str} : (D.str b).isNon = false := rfl
@[simp] theorem isNon_tup {b : List D} : (D.tup b).isNon = false := rfl
@[simp] theorem isNon_lst {b : List D} : (D.lst b).isNon = false := rfl
@[simp] theorem isNon_dct {b : List (Key × D)} : (D.dct b).isNon = false := rfl
@[simp ↓] theorem cIs_s {x : D} {R : DK} : cIs x .non R = R (.bl x.isNon) := by simp [cIs]
@[simp ↓] theorem cIsNot_s {x : D} {R : DK} : cIsNot x .non R = R (.bl (!x.isNon)) := by simp [cIsNot]
@[simp ↓] theorem forGo_nil {G : FG} {b : FS} {P : Po} {ρ : Ren} : forGo G b P [] ρ = P.nx ρ := by rw [forGo]
@[simp ↓] theorem forGo_cons {G : FG} {b : FS} {P : Po} {ρ : Ren} {d : D} {r : List D} : forGo G b P (d :: r) ρ = G d ρ fun ρ' => b { nx := forGo G b P r, rt := P.rt, bk := P.nx, ct := forGo G b P r } ρ' := by rw [forGo]
@[simp ↓] theorem lcGo_nil {G : FG} {t : FT} {e : Ren → Nat → (List D → Prop) → Prop} {ρ : Ren} {n : Nat} {R : List D → Prop} : lcGo G t e ρ [] n R = R [] := by rw [lcGo]
@[simp ↓] theorem lcGo_cons {G : FG} {t : FT} {e : Ren → Nat → (List D → Prop) → Prop} {ρ : Ren} {n : Nat} {R : List D → Prop} {d : D} {r : List D} : lcGo G t e ρ (d :: r) n R = G d ρ fun ρ' => t ρ' fun b => if b = true then e ρ' n fun l => lcGo G t e ρ r (n - l.length) fun l' => R (l ++ l') else lcGo G t e ρ r n R := by rw [lcGo]
theorem sSet_via {e : FE} {P : Po} {ρ : Ren} {i : Nat} (d : D) (h1 : ∀ Q : D → Prop, Q d → e ρ Q) (h2 : P.nx (ρ.set i (some d))) : sSet i e P ρ := h1 _ h2
end Fn
end P_FL
section P_FU
set_option maxHeartbeats 4000000
/-! sorted of any list or tuple of data. -/
namespace Fn
open PySem PySem.Spec PyProof.Rows L2
theorem sorted_seq {prog : Program} {w : World} {A : Around} {E : Value → Shared → Prop} {s : Shared} {Q : Value → Shared → Prop} {it : Addr} {T : String} {o : Obj} {items : Array Value} {n : Nat} (hT : T = "list" ∨ T = "tuple") (h1 : s.heap.get? it = some o) (h2 : o.cls = .type T) (h3 : o.data = .seq items n) (hL : items.size ≤ sizeLine)
    (body : ∀ h' : Heap, (∀ b o', s.heap.get? b = some o' → h'.get? b = some o') → wpAny (model prog w) A.in1 (call (.builtin "list.sort") [.ref h'.objs.size]) (fun _ s' => Q (.ref h'.objs.size) s') E { heap := h'.push (seqObj "list" items 0), gens := s.gens, drawn := s.drawn, toks := s.toks, os := s.os }) :
    wpAny (model prog w) A (call (.builtin "sorted") [.ref it]) Q E s := by
  refine call_function_entry_kw kind_sorted plain_sorted entry_sorted (args_sorted1 _) ?_
  refine wpAny_bind (wpAny_pure (wpAny_bind ?_))
  refine wpAny_collect_seq it hT h1 h2 h3 (fun h' hk => ?_) hL
  refine wpAny_bind (wpAny_newList ?_ hL)
  refine wpAny_bind (wpAny_holding ?_)
  refine wpAny_mono (body h' hk) (fun v s' hq => ?_) (fun _ _ e => e)
  exact wpAny_pure ⟨_, rfl, hq⟩
open PySem.W in
theorem each_zip {α : Type} {f : α → V} {R : Value → α → Prop} : ∀ {bs : List α} {us : List Value}, Vals (bs.map f) us → (∀ b ∈ bs, ∀ u, RelV (f b) u → R u b) → EachIs R us bs
  | [], _, h, _ => by cases h; exact .nil
  | b :: bs, _, h, hr => by
    cases h with
    | cons h1 h2 => exact .cons (hr b List.mem_cons_self _ h1) (each_zip h2 fun c hc => hr c (List.mem_cons_of_mem _ hc))
open PySem.W in
theorem vals_each {α : Type} {f : α → V} : ∀ {bs : List α} {us : List Value}, EachIs (fun u b => RelV (f b) u) us bs → Vals (bs.map f) us
  | [], _, h => by cases h; exact .nil
  | b :: bs, _, h => by
    cases h with
    | cons h1 h2 => exact .cons h1 (vals_each h2)
def rSortedG (K : PySem.W.Frag) : List V → Hp → VK → Prop := fun xs H Q => ∃ (a : Addr) (bs : List (V × PyData)), xs = [.ref a] ∧ (SqL K H a (bs.map (·.1)) ∨ SqT K H a (bs.map (·.1))) ∧ (∀ b ∈ bs, Dp K H b.1 b.2) ∧ PySem.W.AllAlike (bs.map (·.2)) ∧ PySem.W.Sortable (bs.map (·.2)) ∧ (∀ b ∈ bs, b.2.depth ≤ 60) ∧
  ∀ p, H p = none → Q (.ref p) (upd H p (.lst ((bs.mergeSort (PySem.W.dataLe false (·.2))).map (·.1))))
theorem cr_sortedG {X : Cx} (hu : X.A.units + 65 < cLine) : CallR X (.builtin "sorted") (rSortedG X.K) := by
  intro pins s σ H xs us Q hI hV h
  obtain ⟨a, bs, rfl, hS, hD, hA, hSo, hd, hq⟩ := h
  cases hV with
  | cons h1 h2 =>
    cases h2
    rename_i u
    obtain rfl : u = Value.ref a := h1
    have key : ∃ (its : List Value) (T : String) (o : Obj) (n : Nat), Vals (bs.map (·.1)) its ∧ (T = "list" ∨ T = "tuple") ∧ s.heap.get? a = some o ∧ o.cls = .type T ∧ o.data = .seq its.toArray n ∧ its.length ≤ sizeLine := by
      rcases hS with hS | hS
      · obtain ⟨its, hv, ⟨o, n, g1, g2, g3, g4⟩, hl⟩ := hI.list hS
        exact ⟨its, "list", o, n, hv, .inl rfl, g1, g2, g4, by rw [← hv.length]; exact hl⟩
      · obtain ⟨its, hv, ⟨o, g1, g2, n, g4⟩, hl⟩ := hI.tuple hS
        exact ⟨its, "tuple", o, n, hv, .inr rfl, g1, g2, g4, by rw [← hv.length]; exact hl⟩
    obtain ⟨its, T, o, n, hv, hT, g1, g2, g4, hl⟩ := key
    refine sorted_seq hT g1 g2 g4 (by simpa using hl) fun h' hk => ?_
    have hk2 : ∀ b o', s.heap.get? b = some o' → (h'.push (seqObj "list" its.toArray 0)).get? b = some o' := fun b o' e => Heap.get?_push_of_some _ (hk b o' e)
    have hlen : bs.length = its.length := by have := hv.length; simpa using this
    refine PySem.W.list_sort_data (bs := bs) (enc := (·.2)) (vs := its) (R := fun u b => RelV b.1 u) (n := 0) ?_ (each_zip hv fun b _ u r => r) (each_zip hv fun b hb u r => ?_) hA hSo (by omega) (fun b hb => ?_) fun out ho hE => ?_
    · exact Heap.get?_push_size _ rfl
    · obtain ⟨as, hr⟩ := Dp.reads hI b.2 b.1 u (hD b hb) r
      refine ⟨as, Reads.keeps hk2 hr, fun hin => ?_⟩
      obtain ⟨o', e⟩ := PyProof.On.reads_mem_get hr _ hin
      exact absurd (Heap.lt_size (hk _ _ e)) (Nat.lt_irrefl _)
    · have := hd b hb
      show X.A.units + 1 + 1 + b.2.depth < cLine
      omega
    · have hI' : L2.Inv X pins σ H { heap := h', gens := s.gens, drawn := s.drawn, toks := s.toks, os := s.os } := hI.turnedL (ch := []) (fun b o _ e => hk b o e) (fun b hb => by cases hb)
      have hps : (h'.push (seqObj "list" its.toArray 0)).objs.size = h'.objs.size + 1 := Heap.size_push _ _
      refine ⟨.ref h'.objs.size, _, hI'.turnedNew (ch := []) (T := h'.objs.size) (ob := .lst ((bs.mergeSort (PySem.W.dataLe false (·.2))).map (·.1))) (fun b o' _ e => ?_) (fun b hb => by cases hb) (Nat.le_refl _) ?_, rfl, hq _ hI'.fresh⟩
      · have hb := Heap.lt_size e
        rw [sortedHeap_old (Nat.ne_of_lt hb) (by rw [hps]; exact Nat.lt_succ_of_lt hb)]
        exact Heap.get?_push_of_some _ e
      · obtain ⟨e, he⟩ := sortedHeap_at (out := out.toArray) (vs := its) (n := 0) (a := h'.objs.size) (h := h'.push (seqObj "list" its.toArray 0)) (Heap.get?_push_size _ rfl)
        exact ⟨by rw [List.length_map, List.length_mergeSort]; omega, out, e, vals_each hE, he⟩
/-! ### on data -/
def okS (l : List D) : Prop := datL l = true ∧ PySem.W.AllAlike (pyL l) ∧ PySem.W.Sortable (pyL l) ∧ ∀ d ∈ l, d.dep ≤ 60
def srt (l : List D) : List D := l.mergeSort (PySem.W.dataLe false D.py)
def fSorted : GA := fun l R => match l with
  | [.tup l] => okS l ∧ R (.lst (srt l))
  | [.lst l] => okS l ∧ R (.lst (srt l))
  | _ => False
theorem repL_zip {K : PySem.W.Frag} {N : Addr → Prop} {π : Pi} {H : Hp} : ∀ {l : List D} {xs : List V}, RepL K N π H l xs → ∃ zs : List (V × D), zs.map (·.1) = xs ∧ zs.map (·.2) = l ∧ ∀ z ∈ zs, Rep K N π H z.2 z.1
  | [], xs, h => by cases h; exact ⟨[], rfl, rfl, by simp⟩
  | d :: l, xs, h => by
    obtain ⟨v, vs, rfl, h1, h2⟩ := h
    obtain ⟨zs, rfl, rfl, h3⟩ := repL_zip h2
    exact ⟨(v, d) :: zs, rfl, rfl, fun z hz => (List.mem_cons.mp hz).elim (fun e => by rw [e]; exact h1) (h3 z)⟩
theorem zip_repL {K : PySem.W.Frag} {N : Addr → Prop} {π : Pi} {H : Hp} : ∀ {zs : List (V × D)}, (∀ z ∈ zs, Rep K N π H z.2 z.1) → RepL K N π H (zs.map (·.2)) (zs.map (·.1))
  | [], _ => rfl
  | z :: zs, h => ⟨_, _, rfl, h z List.mem_cons_self, zip_repL fun y hy => h y (List.mem_cons_of_mem _ hy)⟩
theorem sorted_core {K : PySem.W.Frag} {N : Addr → Prop} {π : Pi} {H : Hp} {a : Addr} {l : List D} {xs : List V} {R : DK} {Q : VK} (c : Ctx N π H) (s : SqL K H a xs ∨ SqT K H a xs) (r : RepL K N π H l xs) (ok : okS l) (h : R (.lst (srt l)))
    (hq : ∀ d v H', Keep π H H' → Rep K N π H' d v → R d → Q v H') : rSortedG K [.ref a] H Q := by
  obtain ⟨zs, rfl, rfl, hz⟩ := repL_zip r
  obtain ⟨h1, h2, h3, h4⟩ := ok
  have e1 : (zs.map fun z => (z.1, z.2.py)).map (·.1) = zs.map (·.1) := by simp [Function.comp_def]
  have e2 : (zs.map fun z => (z.1, z.2.py)).map (·.2) = pyL (zs.map (·.2)) := by rw [pyL_map]; simp [Function.comp_def]
  have hdat : ∀ z ∈ zs, z.2.dat = true := fun z hz' => by
    rw [datL_all] at h1
    exact List.all_eq_true.mp h1 _ (List.mem_map_of_mem hz')
  refine ⟨a, zs.map fun z => (z.1, z.2.py), rfl, by rw [e1]; exact s, fun b hb => ?_, by rw [e2]; exact h2, by rw [e2]; exact h3, fun b hb => ?_, fun p np => ?_⟩
  · obtain ⟨z, hz', rfl⟩ := List.mem_map.mp hb
    exact rep_dp _ _ (hdat z hz') (hz z hz')
  · obtain ⟨z, hz', rfl⟩ := List.mem_map.mp hb
    exact Nat.le_trans (py_depth z.2) (h4 _ (List.mem_map_of_mem hz'))
  · have m1 : ((zs.map fun z => (z.1, z.2.py)).mergeSort (PySem.W.dataLe false (fun b : V × PyData => b.2))) = (zs.mergeSort (PySem.W.dataLe false (fun z : V × D => z.2.py))).map fun z => (z.1, z.2.py) :=
      (PySem.W.sort_maps (r := PySem.W.dataLe false (fun z : V × D => z.2.py)) (s := PySem.W.dataLe false (fun b : V × PyData => b.2)) (fun z : V × D => (z.1, z.2.py)) fun _ _ _ _ => rfl).symm
    have m2 : (zs.map (·.2)).mergeSort (PySem.W.dataLe false D.py) = (zs.mergeSort (PySem.W.dataLe false (fun z : V × D => z.2.py))).map (·.2) :=
      (PySem.W.sort_maps (r := PySem.W.dataLe false (fun z : V × D => z.2.py)) (s := PySem.W.dataLe false D.py) (fun z : V × D => z.2) fun _ _ _ _ => rfl).symm
    rw [m1, List.map_map]
    refine hq (.lst (srt (zs.map (·.2)))) _ _ (c.keepNew np) ?_ h
    show Rep K N π _ (.lst ((zs.map (·.2)).mergeSort (PySem.W.dataLe false D.py))) _
    rw [m2]
    exact Rep.newL (zip_repL fun z hz' => hz z (List.mem_mergeSort.mp hz')) np c.alloc
theorem cd_sorted {F : Fam} : CallD F (.builtin "sorted") fSorted := by
  refine ⟨rSortedG F.K, fun i => by rw [← F.hK i]; exact cr_sortedG (F.units i), fun N π H l xs R Q c r h hq => ?_⟩
  match l, h with
  | [.tup l], h =>
    obtain ⟨v, e, r⟩ := repOL1 r
    obtain ⟨a, ys, e2, s, r2⟩ := r.tup
    subst e e2
    exact sorted_core c (.inr s) r2 h.1 h.2 hq
  | [.lst l], h =>
    obtain ⟨v, e, r⟩ := repOL1 r
    obtain ⟨a, ys, e2, s, r2⟩ := r.lst
    subst e e2
    exact sorted_core c (.inl (SqL.of s)) r2 h.1 h.2 hq
/-! ### str(int), {} -/
def fStr : GA := fun l R => match l with
  | [.int i] => i.natAbs.log2 < 1920 ∧ R (.str (Str.ofString (toString i)))
  | _ => False
theorem cd_str {F : Fam} : CallD F (.type "str") fStr := by
  refine ⟨_, fun _ => call_str_int, fun N π H l xs R Q c r h hq => ?_⟩
  match l, h with
  | [.int i], h =>
    obtain ⟨v, e, r⟩ := repOL1 r
    cases r
    subst e
    exact ⟨i, rfl, h.1, hq (.str _) _ H c.keepRefl rfl h.2⟩
theorem vf_dnew {F : Fam} {O : Nat → Bool} {pos : Pos} : VF F O (.Dict [] [] pos) (eC (.dct [])) := by
  refine ⟨_, fun i => pe_dnewK, fun M π own σ H ρ R Q x hf hq p np => ?_⟩
  exact hq (.dct []) p _ (x.ctx.keepNew np) np ⟨[], upd_same, rfl⟩ hf
/-! ### a module's constants -/
def KonV (K : PySem.W.Frag) (mg : Str → Option Value) (x : Str) (d : D) : Prop := ∃ (v : V) (u : Value), mg x = some u ∧ RelV v u ∧ ∀ M π H, Rep K M π H d v
theorem ve_k {F : Fam} {O : Nat → Bool} {x : Str} {d : D} {p : Pos} (h : KonV F.K F.mg x d) (hg : ∀ i, Gl (F.X i) x := by intro _; rfl) (hd : (x == ("__debug__" : Str)) = false := by decide) : VE F O (.Name x p) (eC d) := by
  obtain ⟨v, u, h1, h2, h3⟩ := h
  exact ve_c (v := v) (fun i => pe_glob (hg i) (by rw [F.hmg i]; exact h1) h2 hd) fun _ _ _ => h3 _ _ _
theorem KonV.int {K : PySem.W.Frag} {mg : Str → Option Value} {x : Str} {i : Int} (h : ∃ t, mg x = some (.int i t)) : KonV K mg x (.int i) := by
  obtain ⟨t, h⟩ := h
  exact ⟨.int i, _, h, ⟨_, rfl⟩, fun _ _ _ => rfl⟩
theorem KonV.str {K : PySem.W.Frag} {mg : Str → Option Value} {x z : Str} (h : ∃ t, mg x = some (.str z t)) : KonV K mg x (.str z) := by
  obtain ⟨t, h⟩ := h
  exact ⟨.str z, _, h, ⟨_, rfl⟩, fun _ _ _ => rfl⟩
theorem KonV.tup {K : PySem.W.Frag} {mg : Str → Option Value} {x : Str} {a : Addr} {vs : List V} {l : List D} (h : mg x = some (.ref a)) (h2 : KT K a vs) (h3 : ∀ M π H, RepL K M π H l vs) : KonV K mg x (.tup l) :=
  ⟨.ref a, _, h, rfl, fun M π H => ⟨a, vs, rfl, .inr h2, h3 M π H⟩⟩
end Fn
end P_FU
section P_FZ
set_option maxHeartbeats 1000000
/-! The reverse of a tuple by t[::-1]. -/
namespace Fn
open PySem PySem.Spec PyProof.Rows L2
theorem places_rev (n : Nat) : Builtin.Slice.slicePlaces ((n : Int) - 1) (-1) (-1) = n := by
  unfold Builtin.Slice.slicePlaces
  rw [if_neg (by decide)]
  split
  · have : ((n : Int) - 1 - -1 - 1) / - -1 + 1 = n := by
      have : - -(1 : Int) = 1 := by decide
      rw [this, Int.ediv_one]
      omega
    rw [this]
    simp
  · have : n = 0 := by omega
    subst this
    rfl
theorem sliceApplied_rev {prog : Program} {w : World} {A : Around} {E : Value → Shared → Prop} {s : Shared} {sl : Addr} {t : Tok} {n : Nat} {Q : Int × Int × Nat → Shared → Prop} (hs : s.heap.IsSliceOf sl .none .none (.int (-1) t)) (h : Q ((n : Int) - 1, -1, n) s) :
    wpAny (model prog w) A (Builtin.Slice.sliceApplied (.ref sl) (pure ↑n)) Q E s := by
  obtain ⟨os, hos, hcs, hds⟩ := hs
  refine wpAny_bind (wpAny_bind (wpAny_field hos hds rfl (wpAny_bind (wpAny_field hos hds rfl (wpAny_bind (wpAny_field hos hds rfl (wpAny_pure (wpAny_bind ?_))))))))
  refine HT.slicePart_ (.int (-1) t) ?_
  dsimp only
  rw [if_neg (by decide)]
  refine wpAny_bind (HT.slicePart_ .none (wpAny_bind (HT.slicePart_ .none (wpAny_bind (wpAny_pure ?_)))))
  have e : Builtin.Slice.sliceAdjust none none (-1) n = ((n : Int) - 1, -1) := rfl
  show wpAny (model prog w) A (match Builtin.Slice.sliceAdjust none none (-1) n with | (lo, hi) => pure (lo, (-1 : Int), Builtin.Slice.slicePlaces lo hi (-1))) Q E s
  rw [e]
  dsimp only
  rw [places_rev]
  exact wpAny_pure h
theorem fm_some {α β : Type} {f : α → Option β} {g : α → β} : ∀ {l : List α}, (∀ x ∈ l, f x = some (g x)) → l.filterMap f = l.map g
  | [], _ => rfl
  | x :: r, h => by
    rw [List.filterMap_cons, h x List.mem_cons_self, fm_some fun y hy => h y (List.mem_cons_of_mem _ hy)]
    rfl
theorem pick_rev (xs : Array Value) : (List.range xs.size).filterMap (fun k : Nat => xs[((xs.size : Int) - 1 + (k : Int) * -1).toNat]?) = xs.toList.reverse := by
  have h : ∀ k ∈ List.range xs.size, xs[((xs.size : Int) - 1 + (k : Int) * -1).toNat]? = some (xs.toList.reverse[k]?.getD .none) := by
    intro k hk
    have hk := List.mem_range.mp hk
    have e : ((xs.size : Int) - 1 + (k : Int) * -1).toNat = xs.size - 1 - k := by omega
    rw [e, List.getElem?_reverse (by simpa using hk)]
    have hl : xs.size - 1 - k < xs.size := by omega
    simp [hl]
  rw [fm_some (f := fun k : Nat => xs[((xs.size : Int) - 1 + (k : Int) * -1).toNat]?) h]
  apply List.ext_getElem?
  intro i
  rw [List.getElem?_map]
  rcases Nat.lt_or_ge i xs.size with hi | hi
  · have : i < xs.toList.reverse.length := by simpa using hi
    rw [List.getElem?_range hi, List.getElem?_eq_getElem this]
    simp [hi]
  · rw [List.getElem?_eq_none (by simpa using hi), List.getElem?_eq_none (by simpa using hi)]
    rfl
theorem getItem_tuple_rev {prog : Program} {w : World} {A : Around} {E : Value → Shared → Prop} {s : Shared} {t sl : Addr} {items : Array Value} {tk : Tok} {Q : Value → Shared → Prop} (ht : IsTup s.heap t items) (hs : s.heap.IsSliceOf sl .none .none (.int (-1) tk)) (hsz : items.size ≤ sizeLine)
    (h : Q (.ref s.heap.objs.size) { heap := s.heap.push { cls := .type "tuple", data := .seq items.toList.reverse.toArray }, gens := s.gens, drawn := s.drawn, toks := s.toks, os := s.os }) : wpAny (model prog w) A (getItem (.ref t) (.ref sl)) Q E s := by
  have hTs : s.TypeIs (.ref sl) "slice" := by
    obtain ⟨os, hos, hcs, hds⟩ := hs
    exact ⟨os, hos, hcs⟩
  refine wpAny_holding (wpAny_bind (wpAny_sequenceKey (IsTup.typeIs ht) (by decide) (wpAny_bind (wpAny_callSpecial?_slot (IsTup.typeIs ht) slot_tuple_getitem (wpAny_call_entry slot_tuple_getitem (IsTup.typeIs ht) entry_tuple_getitem ?_)))))
  refine wpAny_bind (wpAny_pure (wpAny_bind (tupleItemsOf_ ht (wpAny_bind (wpAny_typeOf hTs ?_)))))
  rw [if_pos (by decide)]
  refine wpAny_bind (sliceApplied_rev hs ?_)
  dsimp only
  rw [if_neg (by simp)]
  rw [pick_rev]
  refine wpAny_bind (wpAny_newObj_type ?_ (by show (items.toList.reverse.toArray).size ≤ sizeLine; simpa using hsz))
  exact wpAny_pure ⟨_, rfl, wpAny_pure h⟩
def tRevA (K : PySem.W.Frag) (te : TE) : TE := fun σ H Q => te σ H fun x H1 => ∃ a xs, x = .ref a ∧ ((SqL K H1 a xs ∧ ∀ p, H1 p = none → Q (.ref p) (upd H1 p (.lst xs.reverse))) ∨ (SqT K H1 a xs ∧ ∀ p ob, H1 p = none → ob.dict = none → Q (.ref p) (upd H1 p (.frz ob (.tup xs.reverse)))))
theorem pe_revA {X : Cx} {e : Expr} {te : TE} {k : Nat} {p1 p2 p3 pos : Pos} (he : PE X e te) : PE X (.Subscript e (.Slice none none (some (.UnaryOp .USub (.Constant (.int 1) k p1) p2)) p3) pos) (tRevA X.K te) := by
  refine ⟨fun pins s σ H Q I h => Subscript_ (thn (he.run pins s σ H _ I h) ?_)⟩
  rintro v s1 ⟨x, H1, I1, r1, a, xs, rfl, hx⟩
  obtain rfl : v = Value.ref a := r1
  have hst := po_some (X := X) (pe_un un_neg (pe_int (X := X) (i := 1) (j := k) (pos := p1)) (pos := p2))
  refine wpAny_Slice (thn (po_none.run pins s1 σ H1 (fun o H2 => o = none ∧ H2 = H1) I1 ⟨rfl, rfl⟩) ?_)
  rintro vl s2 ⟨l, H2, I2, pl, rfl, rfl⟩
  refine thn (po_none.run pins s2 σ H2 (fun o H3 => o = none ∧ H3 = H2) I2 ⟨rfl, rfl⟩) ?_
  rintro vu s3 ⟨u, H3, I3, pu, rfl, rfl⟩
  refine thn (hst.run pins s3 σ H3 (fun o H4 => o = some (-1) ∧ H4 = H3) I3 ⟨_, rfl, _, rfl, rfl, rfl⟩) ?_
  rintro vs s4 ⟨st, H4, I4, ps, rfl, rfl⟩
  cases pl
  cases pu
  cases ps
  rename_i tk
  have I5 := Inv.kept (h' := s4.heap.push { cls := .type "slice", data := .fields #[.none, .none, .int (-1) tk] }) (t' := s4.toks) I4 fun b ob q => Heap.get?_push_of_some _ q
  rcases hx with ⟨hx, q⟩ | ⟨hx, q⟩
  · obtain ⟨its, r, ht, hz⟩ := Inv.list I5 hx
    have hl : its.length = xs.length := r.length.symm
    refine tail_any (Heap.IsList.typeIs (PlainL.isList ht)) slot_list_getitem.lookup (wpAny_getItem_list_slice (PlainL.isList ht) (Heap.IsSliceOf.new _ _ _ _) .none .none (.int (-1) tk) (by decide) ?_ (by simpa [hl] using hz)) rfl
    rw [PySem.W.krv_pick]
    refine ⟨.ref _, _, Inv.laid I5 (o := .lst xs.reverse) (fun b ob q => Heap.get?_push_of_some _ q) (Nat.le_refl _) ⟨by simpa using hz, its.reverse, 0, Vals.reverse r, ?_⟩, rfl, q _ (I5.fresh)⟩
    have := Heap.get?_push_size (s4.heap.push { cls := .type "slice", data := .fields #[.none, .none, .int (-1) tk] }) (o := { cls := .type "list", data := .seq its.reverse.toArray }) rfl
    simpa using this
  · obtain ⟨its, r, ht, hz⟩ := Inv.tuple I5 hx
    have hl : its.length = xs.length := r.length.symm
    refine tail_any (IsTup.typeIs ht) slot_tuple_getitem.lookup (getItem_tuple_rev ht (Heap.IsSliceOf.new _ _ _ _) (by simpa [hl] using hz) ?_) rfl
    have he : its.toArray.toList.reverse.toArray = its.reverse.toArray := by simp
    rw [he]
    exact ⟨.ref _, _, laidF I5 (by simpa using hz) (Vals.reverse r), rfl, q _ _ (I5.fresh) rfl⟩
theorem ve_rev {F : Fam} {O : Nat → Bool} {e : Expr} {f : FE} {k : Nat} {p1 p2 p3 pos : Pos} (he : VR F O e f) : VE F O (.Subscript e (.Slice none none (some (.UnaryOp .USub (.Constant (.int 1) k p1) p2)) p3) pos) (eUn uRev f) := by
  obtain ⟨t, p, g⟩ := he
  refine ⟨tRevA F.K t, fun i => by rw [← F.hK i]; exact pe_revA (p i), fun M π own σ H ρ R Q x hf hq => ?_⟩
  refine g M π own σ H ρ _ _ x hf fun d v H1 k1 r1 h1 => ?_
  have c1 := (x.keep k1).ctx
  unfold uRev at h1
  split at h1
  · obtain ⟨a, xs, e, s, r⟩ := r1.tup
    exact ⟨a, xs, e, .inr ⟨s, fun q ob nq nd => hq _ _ _ (k1.trans (c1.keepNew nq)) (Rep.newT r.reverse nq nd c1.alloc) h1⟩⟩
  · obtain ⟨a, xs, e, s, r⟩ := r1.lst
    exact ⟨a, xs, e, .inl ⟨SqL.of s, fun q nq => hq _ _ _ (k1.trans (c1.keepNew nq)) (Rep.newL r.reverse nq c1.alloc) h1⟩⟩
  · exact h1.elim
end Fn
end P_FZ
section P_FA
set_option maxHeartbeats 1000000
/-! dict(pairs) of lists and tuples of pairs. -/
namespace Fn
open PySem PySem.Spec PyProof.Rows L2
def pairK : D → Option (Key × D)
  | .tup [k, v] => k.key.map fun q => (q, v)
  | _ => none
def pairsK : List D → Option (List (Key × D))
  | [] => some []
  | d :: r => (pairK d).bind fun p => (pairsK r).map (p :: ·)
def mergeD (kvs more : List (Key × D)) : List (Key × D) := more.foldl (fun acc kv => putK acc kv.1 kv.2) kvs
def onPairs (l : List D) (R : DK) : Prop := match pairsK l with
  | some kvs => R (.dct (mergeD [] kvs))
  | none => False
def fDict : GA := fun l R => match l with
  | [.tup l] => onPairs l R
  | [.lst l] => onPairs l R
  | _ => False
section
variable {K : PySem.W.Frag} {N : Addr → Prop} {π : Pi} {H : Hp}
theorem repK_any (k : L2.Key) : ∀ {l : List (L2.Key × D)} {kvs : List (L2.Key × V)}, RepK K N π H l kvs → (kvs.any fun q => decide (q.1 = k)) = l.any fun q => decide (q.1 = k)
  | [], _, h => by cases h; rfl
  | (j, d) :: r, _, ⟨q, qs, e, ⟨h1, h2⟩, h3⟩ => by
    subst e
    rw [List.any_cons, List.any_cons, repK_any k h3, h1]
theorem repK_app : ∀ {l m : List (L2.Key × D)} {kvs ms : List (L2.Key × V)}, RepK K N π H l kvs → RepK K N π H m ms → RepK K N π H (l ++ m) (kvs ++ ms)
  | [], _, _, _, h, h' => by cases h; exact h'
  | (j, d) :: r, _, _, _, ⟨q, qs, e, h1, h3⟩, h' => by subst e; exact ⟨q, qs ++ _, rfl, h1, repK_app h3 h'⟩
theorem repK_repl (k : L2.Key) {d : D} {v : V} (hv : Rep K N π H d v) : ∀ {l : List (L2.Key × D)} {kvs : List (L2.Key × V)}, RepK K N π H l kvs →
    RepK K N π H (l.map fun q => if q.1 = k then (q.1, d) else q) (kvs.map fun q => if q.1 = k then (q.1, v) else q)
  | [], _, h => by cases h; rfl
  | (j, d') :: r, _, ⟨q, qs, e, ⟨h1, h2⟩, h3⟩ => by
    subst e
    refine ⟨_, _, rfl, ?_, repK_repl k hv h3⟩
    by_cases z : j = k
    · dsimp only
      rw [if_pos z, if_pos (h1.trans z)]
      exact ⟨h1, hv⟩
    · dsimp only
      rw [if_neg z, if_neg (fun w => z (h1.symm.trans w))]
      exact ⟨h1, h2⟩
theorem repK_put {l : List (L2.Key × D)} {kvs : List (L2.Key × V)} {k : L2.Key} {d : D} {v : V} (h : RepK K N π H l kvs) (hv : Rep K N π H d v) : RepK K N π H (Fn.putK l k d) (L2.putK kvs k v) := by
  unfold Fn.putK L2.putK
  rw [repK_any k h]
  split
  · exact repK_repl k hv h
  · exact repK_app h ⟨(k, v), [], rfl, ⟨rfl, hv⟩, rfl⟩
theorem repK_merge : ∀ {more : List (L2.Key × D)} {ms : List (L2.Key × V)} {l : List (L2.Key × D)} {kvs : List (L2.Key × V)}, RepK K N π H more ms → RepK K N π H l kvs → RepK K N π H (mergeD l more) (L2.mergeK kvs ms)
  | [], _, _, _, h, h' => by cases h; exact h'
  | (j, d) :: r, _, l, kvs, ⟨q, qs, e, ⟨h1, h2⟩, h3⟩, h' => by
    subst e
    have : q = (j, q.2) := by rw [← h1]
    rw [this]
    exact repK_merge (l := Fn.putK l j d) (kvs := L2.putK kvs j q.2) h3 (repK_put h' h2)
theorem key_vR {x : D} {v : V} {k : L2.Key} (e : x.key = some k) (h : Rep K N π H x v) : v = kV k := by
  cases x with
  | int i => cases e; exact h
  | str i => cases e; exact h
  | _ => cases e
/-- the pairs of a list of data -/
theorem pairs_rep : ∀ {l : List D} {xs : List V} {kvs : List (L2.Key × D)}, RepL K N π H l xs → pairsK l = some kvs →
    ∃ (ps : List Addr) (ms : List (L2.Key × V)), xs = ps.map V.ref ∧ Paired (fun p kv => SqT K H p [kV kv.1, kv.2]) ps ms ∧ RepK K N π H kvs ms
  | [], _, _, h, e => by cases h; cases e; exact ⟨[], [], rfl, .nil, rfl⟩
  | d :: r, _, kvs, ⟨v, vs, e, h1, h2⟩, e2 => by
    subst e
    unfold pairsK at e2
    cases q : pairK d with
    | none => rw [q] at e2; cases e2
    | some p =>
      cases q2 : pairsK r with
      | none => rw [q, q2] at e2; cases e2
      | some kvs' =>
        rw [q, q2] at e2
        cases e2
        obtain ⟨ps, ms, e3, h3, h4⟩ := pairs_rep h2 q2
        unfold pairK at q
        split at q
        · rename_i kd vd
          obtain ⟨a, ys, e4, s, r4⟩ := Rep.sqT h1
          obtain ⟨v1, _, e5, r5, v2, _, e6, r6, e7⟩ := r4
          subst e4 e5 e6 e7
          cases hk : kd.key with
          | none => rw [hk] at q; cases q
          | some k =>
            rw [hk] at q
            cases q
            have := key_vR hk r5
            subst this
            exact ⟨a :: ps, (k, v2) :: ms, by rw [e3]; rfl, .cons s h3, ⟨(k, v2), ms, rfl, ⟨rfl, r6⟩, h4⟩⟩
        · cases q
end
section
variable {X : Cx}
/-- a tuple with no dict of its own, a list -/
def Pl (K : PySem.W.Frag) (H : Hp) (a : Addr) (xs : List V) : Prop := SqL K H a xs ∨ Tp H a xs ∨ KT K a xs
theorem pl_at {pins : List (Addr × Obj)} {σ : L2.St} {H : Hp} {s : Shared} {a : Addr} {xs : List V} (I : Inv X pins σ H s) (h : Pl X.K H a xs) :
    ∃ (T : String) (its : List Value), (T = "list" ∨ T = "tuple") ∧ Vals xs its ∧ PlainSeq T s.heap a its.toArray ∧ xs.length ≤ sizeLine := by
  rcases h with h | ⟨o, h, hd⟩ | ⟨o, its, n, h1, h2, h3, h4, h5, h6⟩
  · obtain ⟨its, rv, ⟨o, n, ho, hc, hd, hdat⟩, hz⟩ := Inv.list I h
    exact ⟨"list", its, .inl rfl, rv, ⟨o, n, ho, hc, hd, hdat⟩, hz⟩
  · obtain ⟨e, hz, its, rv, o', e', hc, n, hdat⟩ := (show ObjOk X.prog X.w H s.heap a (.frz o (.tup xs)) from I.hok a _ h)
    rw [e] at e'
    cases e'
    exact ⟨"tuple", its, .inr rfl, rv, ⟨o, n, e, hc, hd, hdat⟩, hz⟩
  · have e := I.kIn a o h1
    refine ⟨"tuple", its.toList, .inr rfl, h5, ⟨o, n, e, h2, h6, by simpa using h3⟩, ?_⟩
    rw [h5.length]
    simpa using h4
theorem pairs_vals {pins : List (Addr × Obj)} {σ : L2.St} {H : Hp} {s : Shared} (I : Inv X pins σ H s) : ∀ {ps : List Addr} {ms : List (L2.Key × V)}, Paired (fun p kv => SqT X.K H p [kV kv.1, kv.2]) ps ms →
    ∃ (pv : List (Value × Value)) (prs : List (L2.Key × Value)), KV ms prs ∧ prs.length = ps.length ∧ pv.length = ps.length ∧ ∀ (j : Nat) (k v : Value), pv[j]? = some (k, v) → ∃ b q, ps[j]? = some b ∧ IsTup s.heap b #[k, v] ∧ prs[j]? = some (q, v) ∧ keyIs q k = true
  | _, _, .nil => ⟨[], [], .nil, rfl, rfl, fun j k v e => by simp at e⟩
  | _, _, .cons (a := p) (b := kv) h t => by
    obtain ⟨pv, prs, r, l1, l2, g⟩ := pairs_vals I t
    obtain ⟨its, rv, ht, _⟩ := Inv.tuple I h
    obtain ⟨u, y, ei, ru, ry⟩ := vals2 rv
    subst ei
    refine ⟨(u, y) :: pv, (kv.1, y) :: prs, .cons ⟨rfl, ry⟩ r, by simp [l1], by simp [l2], fun j k v e => ?_⟩
    cases j with
    | zero =>
      simp at e
      obtain ⟨e1, e2⟩ := e
      subst e1 e2
      exact ⟨p, kv.1, rfl, ht, rfl, kV_is (P := X.prog) (w := X.w) ru⟩
    | succ j =>
      obtain ⟨b, q, e1, e2, e3, e4⟩ := g j k v (by simpa using e)
      exact ⟨b, q, by simpa using e1, e2, by simpa using e3, e4⟩
def rDict (K : PySem.W.Frag) : List V → Hp → VK → Prop := fun xs H Q => ∃ (a : Addr) (ps : List Addr) (ms : List (L2.Key × V)), xs = [.ref a] ∧ Pl K H a (ps.map V.ref) ∧ Paired (fun p kv => SqT K H p [kV kv.1, kv.2]) ps ms ∧
  ∀ p od, H p = none → Q (.ref p) (upd H p (.frz od (.dK (L2.mergeK [] ms))))
/-- .. not locked -/
def rDictU (K : PySem.W.Frag) : List V → Hp → VK → Prop := fun xs H Q => ∃ (a : Addr) (ps : List Addr) (ms : List (L2.Key × V)), xs = [.ref a] ∧ Pl K H a (ps.map V.ref) ∧ Paired (fun p kv => SqT K H p [kV kv.1, kv.2]) ps ms ∧
  ∀ p, H p = none → Q (.ref p) (upd H p (.dK (L2.mergeK [] ms)))
/-- what was laid last is locked -/
theorem lock_new {pins : List (Addr × Obj)} {σ : L2.St} {H : Hp} {s : Shared} {p : Addr} {u : HO} (I : Inv X pins σ (upd H p u) s) (mu : Mut (some u)) : ∃ od, Inv X pins σ (upd H p (.frz od u)) s := by
  obtain ⟨od, J⟩ := Inv.lock I upd_same mu
  rw [upd_upd] at J
  exact ⟨od, J⟩
theorem cr_dictU (hcalm : X.calm = true) : CallR X (.type "dict") (rDictU X.K) := by
  rintro pins s σ H xs us Q I r ⟨a, ps, ms, rfl, hs, hp, q⟩
  obtain ⟨u, rfl, rx⟩ := vals1 r
  obtain rfl : u = Value.ref a := rx
  obtain ⟨T, its, hT, rv, pl, hz⟩ := pl_at I hs
  have ei := refs_at rv
  subst ei
  rw [List.length_map] at hz
  obtain ⟨pv, prs, rel, l1, l2, g⟩ := pairs_vals I hp
  have hh := I.ok.hd hcalm
  have items : PairItems s.heap (ps.map Value.ref).toArray (fun j => ps[j]?.getD 0) pv := by
    refine ⟨by simp [l2], fun j k v e => ?_⟩
    obtain ⟨b, q, e1, e2, e3, e4⟩ := g j k v e
    obtain ⟨o, e5, e6, n, e7⟩ := e2
    exact ⟨by simp [e1], .inl (by simp only [e1]; exact ⟨o, e5, e6, n, e7⟩)⟩
  have have_ : PairsHave (mixKind X.prog X.w) pv.length (PairRel pv) prs := by
    refine ⟨by rw [l1, l2], fun i key v e => ?_⟩
    obtain ⟨b, q, e1, e2, e3, e4⟩ := g i key v e
    exact ⟨q, e3, e4⟩
  have fin : ∀ (h' : Heap) (tk : Tok), h'.DictOf (mixKind X.prog X.w) s.heap.objs.size (merged [] prs) → (∀ b o, b ∉ ([] : List Addr) → s.heap.get? b = some o → h'.get? b = some o) →
      EP X pins σ Q (.ref s.heap.objs.size) { s with heap := h', toks := tk } := fun h' tk hd' k => by
    have hm : (s.heap.objs.size == sysModules) = false := beq_eq_false_iff_ne.mpr (Nat.ne_of_gt I.big)
    have hlen : (L2.mergeK [] ms).length ≤ sizeLine := by
      refine Nat.le_trans (length_mergeK ms []) ?_
      rw [List.length_nil, Nat.zero_add, rel.length, l1]
      exact hz
    have J := Inv.laid I (t' := tk) (fun b o e => k b o (by simp) e) (Nat.le_refl _) (show ObjOk X.prog X.w _ _ _ (.dK (L2.mergeK [] ms)) from ⟨hlen, hm, merged [] prs, KV.merge rel .nil, hd'⟩)
    exact ⟨.ref _, _, J, rfl, q _ I.fresh⟩
  rcases hT with rfl | rfl
  · exact PySem.call_dict_pairs (PairArg.list a _ _ pv) hh ⟨pl, items⟩ have_ (by rw [l2]; exact hz) fin
  · exact PySem.call_dict_pairs (PairArg.tuple a _ _ pv) hh ⟨pl, items⟩ have_ (by rw [l2]; exact hz) fin
theorem cr_dict (hcalm : X.calm = true) : CallR X (.type "dict") (rDict X.K) := by
  rintro pins s σ H xs us Q I r ⟨a, ps, ms, e, hs, hp, q⟩
  refine thn (cr_dictU hcalm pins s σ H xs us (fun x H' => ∃ p, H p = none ∧ x = .ref p ∧ H' = upd H p (.dK (L2.mergeK [] ms))) I r ⟨a, ps, ms, e, hs, hp, fun p np => ⟨p, np, rfl, rfl⟩⟩) ?_
  rintro u s' ⟨x, H', J, rx, p, np, rfl, rfl⟩
  obtain ⟨od, J'⟩ := lock_new J True.intro
  exact ⟨.ref p, _, J', rx, q p od np⟩
theorem Rep.pl {K : PySem.W.Frag} {N : Addr → Prop} {π : Pi} {H : Hp} {l : List D} {v : V} (h : Rep K N π H (.tup l) v) : ∃ a xs, v = .ref a ∧ Pl K H a xs ∧ RepL K N π H l xs := by
  obtain ⟨a, xs, e, h, r⟩ := h
  exact ⟨a, xs, e, .inr (h.imp And.right id), r⟩
theorem cd_dict {F : Fam} : CallD F (.type "dict") fDict := by
  refine ⟨rDict F.K, fun i => by rw [← F.hK i]; exact cr_dict (F.calm i), fun N π H l xs R Q c r h hq => ?_⟩
  have go : ∀ (l : List D) (ys : List V) (a : Addr), Pl F.K H a ys → RepL F.K N π H l ys → onPairs l R → rDict F.K [.ref a] H Q := fun l ys a hp hr h => by
    unfold onPairs at h
    cases e : pairsK l with
    | none => rw [e] at h; exact h.elim
    | some kvs =>
      rw [e] at h
      obtain ⟨ps, ms, e1, h1, h2⟩ := pairs_rep hr e
      subst e1
      refine ⟨a, ps, ms, rfl, hp, h1, fun p od np => hq (.dct _) _ _ (c.keepNew np) ?_ h⟩
      refine ⟨p, _, rfl, ⟨fun z => ?_, od, upd_same⟩, RepK.hold (hold_upd np) (fun a z => .inl z) _ _ (repK_merge h2 rfl)⟩
      obtain ⟨o, e⟩ := c.alloc p z
      rw [e] at np; cases np
  match l, h with
  | [.tup l], h =>
    obtain ⟨v, e, r⟩ := repOL1 r
    obtain ⟨a, ys, e2, s, r2⟩ := Rep.pl r.repT
    subst e e2
    exact go l ys a s r2 h
  | [.lst l], h =>
    obtain ⟨v, e, r⟩ := repOL1 r
    obtain ⟨a, ys, e2, s, r2⟩ := r.lst
    subst e e2
    exact go l ys a (.inl (SqL.of s)) r2 h
end
end Fn
end P_FA
section P_FB
set_option maxHeartbeats 1000000
/-! {**d, k: v}. -/
namespace Fn
open PySem PySem.Spec PyProof.Rows L2
section
variable {prog : Program} {w : World} {κ : Type} [DecidableEq κ] {knd : PySem.KeyKind prog w κ} {A : Around} {E : Value → Shared → Prop} {s : Shared}
theorem put_pairs {d : Addr} {kvs : List (κ × Value)} {k : κ} {key v : Value} {Q : Unit → Shared → Prop} (hkey : knd.is k key = true) (hm : s.heap.DictOf knd d kvs) (hsz : kvs.length ≤ sizeLine)
    (hQ : ∀ h', h'.DictOf knd d (stored kvs k v) → Heap.SameBut d s.heap h' → Q () { s with heap := h' }) : wpAny (model prog w) A (dictPut d (knd.hash k) key v) Q E s := by
  obtain ⟨ob, en, epo, g1, g2, g3, g4, g5, g6⟩ := hm
  have hl := g5.length
  have hes : en.size ≤ sizeLine := by
    have e2 : en.toList.length = en.size := by simp
    omega
  unfold dictPut
  refine wpAny_bind (wpAny_dictFind_of hkey g1 g3 g4 ?_)
  have idx : (en.findIdx? fun e => knd.is k e.key) = kvs.findIdx? fun kv => decide (kv.1 = k) := by
    rw [← g5.findIdx k]
    obtain ⟨l⟩ := en
    simp
  cases hi : en.findIdx? fun e => knd.is k e.key with
  | some i =>
    have hany := any_of_findIdx_some (idx ▸ hi)
    have hli : (en.toList.findIdx? fun e => knd.is k e.key) = some i := by
      rw [← hi]
      obtain ⟨l⟩ := en
      simp
    have hmod := g5.modify g6 hli v
    refine wpAny_updateDict g1 g3 (hQ _ ⟨_, _, epo, Heap.get?_update_self _ g1 (Obj.isFreed_of_dict (Obj.data_mapDict g3 _)), g2.mapDict _, Obj.data_mapDict g3 _, g4.modify _ _, ?_, ?_⟩ (Heap.SameBut.update ..))
    · rw [stored, if_pos hany]
      obtain ⟨l⟩ := en
      simpa using hmod
    · rw [stored, if_pos hany, keys_map_store]
      exact g6
  | none =>
    have hnot := not_mem_of_findIdx_none (idx ▸ hi)
    have hany : ¬ (kvs.any fun kv => decide (kv.1 = k)) = true := fun z => by
      obtain ⟨kv, z1, z2⟩ := List.any_eq_true.mp z
      exact hnot (List.mem_map.mpr ⟨kv, z1, of_decide_eq_true z2⟩)
    have happ := g5.append hkey (knd.hash k) v
    refine wpAny_updateDictKeys (hz := hes) g1 g3 (hQ _ ⟨_, _, epo + 1, Heap.get?_update_self _ g1 (Obj.isFreed_of_dict (Obj.data_mapDictKeys g3 _)), g2.mapDictKeys _, Obj.data_mapDictKeys g3 _, g4.push hkey _, ?_, ?_⟩ (Heap.SameBut.update ..))
    · rw [stored, if_neg hany]
      obtain ⟨l⟩ := en
      simpa using happ
    · rw [stored, if_neg hany, List.map_append]
      refine List.nodup_append.mpr ⟨g6, by simp, fun a ha b hb e => ?_⟩
      have : b = k := by simpa using hb
      rw [e, this] at ha
      exact hnot ha
theorem merge_map {d a : Addr} {kvs more : List (κ × Value)} {Q : Unit → Shared → Prop} (hda : d ≠ a) (hmod : (a == sysModules) = false) (hd : s.heap.DictOf knd d kvs) (ha : s.heap.DictOf knd a more) (hsz : kvs.length + more.length ≤ sizeLine)
    (hQ : ∀ h', h'.DictOf knd d (merged kvs more) → h'.DictOf knd a more → Heap.SameBut d s.heap h' → Q () { s with heap := h' }) : wpAny (model prog w) A (mergeMapping d (.ref a) false) Q E s := by
  obtain ⟨ob, en, epo, g1, g2, g3, g4, g5, g6⟩ := id ha
  obtain ⟨od, ed, epd, i1, i2, i3, i4, i5, i6⟩ := id hd
  have hlen : more.length = en.size := by rw [← g5.length]; simp
  have loop : wpAny (model prog w) A (do
      let l ← dictEntries a
      let epoch ← dictEpoch a
      forIn (List.range l.size) PUnit.unit fun i (_ : PUnit) => (do
        let l' ← dictEntries a
        match l'[i]? with
          | some e => do
            holding [e.key, e.val] (dictPut d e.hash e.key e.val)
            let ep' ← dictEpoch a
            if (ep' != epoch) = true then do
                (unsupported "dict.changed-during-merge" : Sem PUnit)
                pure (ForInStep.yield PUnit.unit)
              else pure (ForInStep.yield PUnit.unit)
          | _ => do
            (unsupported "dict.changed-during-merge" : Sem PUnit)
            pure (ForInStep.yield PUnit.unit) : Sem (ForInStep PUnit))
      pure ()) Q E s := by
    refine wpAny_bind (wpAny_dictEntries g1 g3 (wpAny_bind (wpAny_dictEpoch g1 g3 (wpAny_bind ?_))))
    rw [List.range_eq_range']
    refine wpAny_forIn_list _
      (fun rest _ s' => ∃ h' i, s' = { s with heap := h' } ∧ rest = List.range' i (en.size - i) ∧ i ≤ en.size ∧ h'.DictOf knd d (merged kvs (more.take i)) ∧ h'.get? a = some ob ∧ Heap.SameBut d s.heap h')
      _ ?_ ?_ _ _ ⟨s.heap, 0, rfl, by simp, Nat.zero_le _, by simpa [merged] using hd, g1, Heap.SameBut.refl _ _⟩
    · rintro y rest b s' ⟨h1, i, rfl, hr, hi, j1, j2, j3⟩
      have hlt : i < en.size := by
        rcases Nat.lt_or_ge i en.size with z | z
        · exact z
        · rw [Nat.sub_eq_zero_of_le z] at hr
          simp at hr
      have e1 : en.size - i = (en.size - (i + 1)) + 1 := by omega
      rw [e1, List.range'_succ] at hr
      injection hr with hy hrest
      subst hy
      refine wpAny_bind (wpAny_dictEntries j2 g3 ?_)
      rw [Array.getElem?_eq_getElem hlt]
      have hm : more[y]? = some (more[y]'(by rw [hlen]; exact hlt)) := List.getElem?_eq_getElem _
      generalize more[y]'(by rw [hlen]; exact hlt) = kv at hm
      obtain ⟨hkey, hval⟩ := g5.get? (e := en[y]) (by simp [hlt]) hm
      obtain ⟨k', hk', hh⟩ := g4 en[y] (Array.getElem_mem hlt)
      obtain rfl : k' = kv.1 := knd.inj _ _ _ hk' hkey
      show wpAny _ _ (holding [en[y].key, en[y].val] (dictPut d en[y].hash en[y].key en[y].val) >>= _) _ _ _
      rw [hh, hval]
      have hsz' : (merged kvs (more.take y)).length ≤ sizeLine := by
        have z1 := merged_length_le kvs (more.take y)
        have z2 : (more.take y).length ≤ more.length := by rw [List.length_take]; omega
        omega
      refine wpAny_bind (wpAny_holding (put_pairs hk' j1 hsz' fun h2 m1 m2 => ?_))
      have m3 := (m2.2 a (Ne.symm hda)).trans j2
      refine wpAny_bind (wpAny_dictEpoch m3 g3 ?_)
      rw [if_neg (by simp)]
      exact wpAny_pure ⟨h2, y + 1, rfl, hrest, hlt, by rw [merged_take_succ kvs more y kv hm]; exact m1, m3, j3.trans m2⟩
    · rintro b s' ⟨h1, i, rfl, hr, hi, j1, j2, j3⟩
      have hin : i = en.size := by
        rcases Nat.lt_or_ge i en.size with z | z
        · have e1 : en.size - i = (en.size - (i + 1)) + 1 := by omega
          rw [e1, List.range'_succ] at hr
          exact nomatch hr
        · exact Nat.le_antisymm hi z
      rw [hin, ← hlen, List.take_length] at j1
      exact wpAny_pure (hQ h1 j1 ⟨ob, en, epo, j2, g2, g3, g4, g5, g6⟩ j3)
  unfold mergeMapping
  refine wpAny_bind (wpAny_isInstance ha.typeIs isSubtype_dict_dict ?_)
  dsimp only
  rw [if_pos rfl]
  refine wpAny_bind (wpAny_specialOf ha.typeIs PySem.F.slot_dict_iter.lookup ?_)
  refine wpAny_bind (wpAny_pure ?_)
  have hbeq : ((some (Value.builtin "dict.__iter__") : Option Value) == some (Value.builtin "dict.__iter__")) = true := by first | rfl | simp
  rw [hbeq]
  dsimp only
  rw [hmod, if_neg Bool.false_ne_true]
  refine wpAny_bind (wpAny_dictEntries i1 i3 ?_)
  have byv : ∀ e ∈ en, ∀ b, e.key ≠ .ref b := fun e he b z => by
    obtain ⟨k', hk', _⟩ := g4 e he
    have q := knd.byValue k' _ hk'
    rw [z] at q
    cases q
  split
  · refine wpAny_bind (wpAny_dictEntries g1 g3 ?_)
    refine wpAny_bind ?_
    rw [← Array.forIn_toList]
    refine wpAny_forIn_list _ (fun rest _ s' => s' = s ∧ ∀ e ∈ rest, e ∈ en) _ ?_ ?_ _ _ ⟨rfl, fun e he => by simpa using he⟩
    · rintro y rest b s' ⟨rfl, hr⟩
      have hy := byv y (hr y List.mem_cons_self)
      have hr' : ∀ e ∈ rest, e ∈ en := fun e he => hr e (List.mem_cons_of_mem _ he)
      cases hk : y.key with
      | ref b => exact (hy b hk).elim
      | _ => exact wpAny_pure ⟨rfl, hr'⟩
    · rintro b s' ⟨rfl, _⟩
      exact loop
  · exact loop
end
section
variable {X : Cx}
def tDispU (te tk tv : TE) : TE := fun σ H Q => ∀ p, H p = none → te σ (upd H p (.dK [])) fun x H1 => H1 p = some (.dK []) ∧ ∃ a kvs, x = .ref a ∧ Rd H1 a (.dK kvs) ∧ a ≠ p ∧
  ∀ q, upd H1 p (.dK (L2.mergeK [] kvs)) q = none → tk σ (upd (upd H1 p (.dK (L2.mergeK [] kvs))) q (.dK [])) fun y H3 => tv σ H3 fun z H4 => H4 p = some (.dK (L2.mergeK [] kvs)) ∧ H4 q = some (.dK []) ∧ p ≠ q ∧
    ∃ key, y = kV key ∧ kvs.length < sizeLine ∧ ∀ od, Q (.ref p) (upd (upd H4 q (.dK (L2.putK [] key z))) p (.frz od (.dK (L2.mergeK (L2.mergeK [] kvs) (L2.putK [] key z)))))
theorem dk_laid {pins : List (Addr × Obj)} {σ : L2.St} {H : Hp} {s : Shared} (I : Inv X pins σ H s) : Inv X pins σ (upd H s.heap.objs.size (.dK [])) { s with heap := s.heap.push { cls := .type "dict", data := .dict #[] } } :=
  Inv.laid (t' := s.toks) I (fun _ _ q => Heap.get?_push_of_some _ q) (Nat.le_refl _) (dk_empty s.heap I.big)
/-- the dict at d takes the pairs of the dict at a -/
theorem merge_ok {pins : List (Addr × Obj)} {σ : L2.St} {H : Hp} {s : Shared} {E : Value → Shared → Prop} {d a : Addr} {kvs more : List (L2.Key × V)} {Q : Unit → Shared → Prop} (I : Inv X pins σ H s) (hd : H d = some (.dK kvs)) (ha : Rd H a (.dK more)) (hne : a ≠ d) (hz : kvs.length + more.length ≤ sizeLine)
    (h : ∀ s', Inv X pins σ (upd H d (.dK (L2.mergeK kvs more))) s' → Q () s') : wpAny (model X.prog X.w) X.A (mergeMapping d (.ref a) false) Q E s := by
  obtain ⟨z1, m1, vs1, r1, d1⟩ := dk_of I.hok hd
  obtain ⟨z2, m2, vs2, r2, d2⟩ := dk_rd I.hok ha
  have hl1 := r1.length
  have hl2 := r2.length
  refine merge_map (Ne.symm hne) m2 d1 d2 (by omega) fun h' g1 g2 g3 => h _ ?_
  have he : ∃ q, h'.get? d = some q := let ⟨q, _, _, hq, _⟩ := g1; ⟨q, hq⟩
  have hl : (L2.mergeK kvs more).length ≤ sizeLine := Nat.le_trans (length_mergeK more kvs) hz
  exact d_write I (by rw [hd]; exact True.intro) g3 he (dk_new hl m1 (KV.merge r2 r1) g1)
theorem pe_dispU {e k v : Expr} {te tk tv : TE} {pos : Pos} (he : PE X e te) (hk : PE X k tk) (hv : PE X v tv) : PE X (.Dict [none, some k] [e, v] pos) (tDispU te tk tv) := by
  refine ⟨fun pins s σ H Q I h => ?_⟩
  rw [arm_eval_Dict]
  have shape : (evalEachOpt [none, some k] X.env).zip ((evalEach [e, v] X.env).map fun t => do let x ← t; standAt pos; pure x) =
    [(none, do let x ← eval e X.env; standAt pos; pure x), (some (eval k X.env), do let x ← eval v X.env; standAt pos; pure x)] := rfl
  rw [shape]
  refine wpAny_bind (wpAny_standAt ?_)
  unfold dictDisplay
  dsimp only
  simp only [List.forIn_cons, List.forIn_nil]
  have h0 := h _ I.fresh
  have hn0 : H s.heap.objs.size = none := I.fresh
  generalize hD : s.heap.objs.size = D at h0 hn0
  refine wpAny_bind (wpAny_bind (wpAny_bind ?_))
  rw [if_pos (by rfl)]
  refine wpAny_pure ?_
  dsimp only
  refine wpAny_bind (wpAny_alloc ?_)
  have I0 := dk_laid I
  rw [hD] at I0 ⊢
  refine wpAny_bind (wpAny_holding (wpAny_bind (thn (he.run pins _ σ _ _ I0 h0) ?_)))
  rintro m s1 ⟨x, H1, I1, rx, hp, a, kvs, rfl, hr, hne, h1⟩
  obtain rfl : m = Value.ref a := rx
  obtain ⟨zk, mk, _⟩ := dk_rd I1.hok hr
  refine wpAny_bind (wpAny_standAt (wpAny_pure ?_))
  refine wpAny_bind (wpAny_onRaise (wpAny_tryCatch (wpAny_onRaise (wpAny_holding (merge_ok I1 hp hr hne (by simpa using zk) fun s2 I2 => ?_)))))
  refine wpAny_pure (wpAny_pure ?_)
  dsimp only
  have h2 := h1 _ I2.fresh
  have hn2 := I2.fresh
  generalize hS : s2.heap.objs.size = S at h2 hn2
  refine wpAny_bind (wpAny_bind (wpAny_holding ?_))
  unfold subDict
  refine wpAny_bind (wpAny_alloc ?_)
  have I3 := dk_laid I2
  rw [hS] at I3 ⊢
  refine wpAny_bind (wpAny_holding ?_)
  rw [if_pos (by simp)]
  have ep : evalPairs ([] ++ [(eval k X.env, do let x ← eval v X.env; standAt pos; pure x)]) = (do
      let kv ← eval k X.env
      let vv ← holding [kv] (do let x ← eval v X.env; standAt pos; pure x)
      return (kv, vv) :: (← holding [kv, vv] (pure []))) := rfl
  rw [ep]
  refine wpAny_bind (wpAny_bind (thn (hk.run pins _ σ _ _ I3 h2) ?_))
  rintro u s4 ⟨y, H3, I4, ry, h4⟩
  refine wpAny_bind (wpAny_holding (wpAny_bind (thn (hv.run pins s4 σ _ _ I4 h4) ?_)))
  rintro r s5 ⟨z, H4, I5, rz, hpD, hpS, hDS, key, rfl, hlt, hq⟩
  refine wpAny_bind (wpAny_standAt (wpAny_pure (wpAny_bind (wpAny_holding (wpAny_pure (wpAny_pure ?_))))))
  refine wpAny_holding ?_
  simp only [List.forIn_cons, List.forIn_nil]
  refine wpAny_bind (wpAny_bind (wpAny_bind (d_dictSet I5 hpS (by decide) ry rz fun s6 I6 => wpAny_pure (wpAny_pure (wpAny_pure (wpAny_pure ?_))))))
  have hpD' : upd H4 S (.dK (L2.putK [] key z)) D = some (.dK (L2.mergeK [] kvs)) := by rw [upd_ne hDS]; exact hpD
  have hl1 : (L2.mergeK [] kvs).length ≤ kvs.length := by simpa using length_mergeK kvs []
  have hl2 : (L2.putK [] key z).length ≤ 1 := length_putK [] key z
  refine wpAny_bind (wpAny_onRaise (wpAny_holding (merge_ok I6 hpD' (.inl upd_same) (Ne.symm hDS) (by omega) fun s7 I7 => ?_)))
  obtain ⟨od, I8⟩ := lock_new I7 True.intro
  exact wpAny_pure (wpAny_pure ⟨.ref D, _, I8, rfl, hq od⟩)
end
/-! ### on data -/
def eDictU (a k v : FE) : FE := fun ρ R => a ρ fun x => match x with
  | .dct kvs => k ρ fun y => (match y.key with
    | some q => v ρ fun z => kvs.length < 16777216 ∧ R (.dct (putK (mergeD [] kvs) q z))
    | none => False)
  | _ => False
section
variable {F : Fam} {O : Nat → Bool} {a k v : Expr} {fa fk fv : FE} {pos : Pos}
theorem EnvOk.newD {K : PySem.W.Frag} {M : Addr → Prop} {π : Pi} {own : Own} {σ : L2.St} {H : Hp} {ρ : Ren} (x : EnvOk K M π O own σ H ρ) {D : Addr} {o : HO} (n : H D = none) : EnvOk K (fun a => M a ∨ a = D) π O own σ (upd H D o) ρ :=
  x.bar n (fun a o q _ => same_upd n a o q) (fun p e => (x.pool p e).2.grow n) ⟨_, upd_same⟩
theorem not_none {H : Hp} {a : Addr} {o : HO} (h : H a = some o) : ¬ H a = none := fun z => by rw [h] at z; cases z
theorem put_one {kvs : List (Key × D)} {q : Key} {z : D} : mergeD kvs (Fn.putK [] q z) = Fn.putK kvs q z := rfl
theorem ve_dictU (ha : VE F O a fa) (hk : VE F O k fk) (hv : VE F O v fv) : VE F O (.Dict [none, some k] [a, v] pos) (eDictU fa fk fv) := by
  obtain ⟨ta, pa, ga⟩ := ha
  obtain ⟨tk, pk, gk⟩ := hk
  obtain ⟨tv, pv, gv⟩ := hv
  refine ⟨_, fun i => pe_dispU (pa i) (pk i) (pv i), fun M π own σ H ρ R Q x hf hq p np => ?_⟩
  have npp : ¬ isPl π p := fun ⟨l, z⟩ => by
    obtain ⟨_, _, _, _, _, e1, _⟩ := (x.pool _ z).2
    rw [np] at e1; cases e1
  have x0 := x.newD (o := .dK []) np
  have k0 : Keep π H (upd H p (.dK [])) := x.ctx.keepNew np
  refine ga _ π own σ _ ρ _ _ x0 hf fun d v1 H1 k1 r1 h1 => ?_
  have x1 := x0.keep k1
  have hp1 : H1 p = some (.dK []) := k1.same _ _ upd_same npp
  cases d with
  | dct kvs =>
    obtain ⟨b, ms, e, ⟨nb, ob, hb⟩, rk⟩ := r1
    have hbp : b ≠ p := fun z => nb (.inl (.inr z))
    have hpl : ∀ p', π = some p' → p'.1 ≠ p ∧ p'.2 ≠ p := fun p' e => by
      obtain ⟨_, _, _, _, _, e1, e2, _⟩ := (x.pool _ e).2
      exact ⟨fun z => (by rw [z, np] at e1; cases e1), fun z => (by rw [z, np] at e2; cases e2)⟩
    refine ⟨hp1, b, ms, e, .inr ⟨ob, hb⟩, hbp, fun q nq => ?_⟩
    -- the new dict filled
    have x2 := x1.put (D := p) (o := .dK (L2.mergeK [] ms)) (.inr rfl) hpl
    have r2 : RepK F.K (Bar (fun a => M a ∨ a = p) own) π (upd H1 p (.dK (L2.mergeK [] ms))) (mergeD [] kvs) (L2.mergeK [] ms) := by
      refine RepK.hold (fun a o e n => ?_) (fun _ z => .inl z) _ _ (repK_merge rk rfl)
      rw [upd_ne fun z => n (.inl (.inr z))]
      exact e
    generalize hH2 : upd H1 p (.dK (L2.mergeK [] ms)) = H2 at nq x2 r2 ⊢
    have hp2 : H2 p = some (.dK (L2.mergeK [] ms)) := by rw [← hH2]; exact upd_same
    have npq : p ≠ q := fun z => by rw [← z, hp2] at nq; cases nq
    have npq' : ¬ isPl π q := fun ⟨l, z⟩ => by
      obtain ⟨_, _, _, _, _, e1, _⟩ := (x2.pool _ z).2
      rw [nq] at e1; cases e1
    have x3 := x2.newD (o := .dK []) nq
    have k3 : Keep π H2 (upd H2 q (.dK [])) := x2.ctx.keepNew nq
    refine gk _ π own σ _ ρ _ _ x3 h1 fun dk vk H3 k4 r4 h4 => ?_
    have x4 := x3.keep k4
    cases hkey : dk.key with
    | none => rw [hkey] at h4; exact h4.elim
    | some key =>
      rw [hkey] at h4
      refine gv _ π own σ H3 ρ _ _ x4 h4 fun dv vv H4 k5 r5 h5 => ?_
      have x5 := x4.keep k5
      have k45 := k4.trans k5
      have hp4 : H4 p = some (.dK (L2.mergeK [] ms)) := (k3.trans k45).same _ _ hp2 npp
      have hq4 : H4 q = some (.dK []) := k45.same _ _ upd_same npq'
      have hlen : ms.length = kvs.length := repK_len rk
      refine ⟨hp4, hq4, npq, key, key_vR hkey r4, by rw [hlen, sizeLine_eq]; exact h5.1, fun od => hq (.dct _) _ _ ?_ ?_ h5.2⟩
      · -- all but the new dicts is as it was
        refine ⟨fun c o e z => ?_, fun p' e => ?_⟩
        · have c1 : c ≠ p := fun w => by rw [w, np] at e; cases e
          have e1 : H1 c = some o := k1.same _ _ (k0.same _ _ e z) z
          have e2 : H2 c = some o := by rw [← hH2, upd_ne c1]; exact e1
          have c2 : c ≠ q := fun w => by rw [w, nq] at e2; cases e2
          rw [upd_ne c1, upd_ne c2]
          exact (k3.trans k45).same _ _ e2 z
        · have c1 := hpl p' e
          obtain ⟨_, _, _, _, _, e1, e2, _⟩ := (x2.pool _ e).2
          have c2 : p'.1 ≠ q := fun w => by rw [w, nq] at e1; cases e1
          have c3 : p'.2 ≠ q := fun w => by rw [w, nq] at e2; cases e2
          exact ((x5.pool p' e).2.other c2 c3).other c1.1 c1.2
      · refine ⟨p, _, rfl, ⟨fun z => ?_, od, upd_same⟩, ?_⟩
        · obtain ⟨o, e⟩ := x.ctx.alloc p z
          rw [np] at e; cases e
        · have kk := k3.trans k45
          have r6 : RepK F.K (Bar (fun a => (M a ∨ a = p) ∨ a = q) own) π H4 (mergeD [] kvs) (L2.mergeK [] ms) := by
            refine RepK.hold (kk.hold x2.ctx.hp) (fun a z => ?_) _ _ r2
            rcases z with (z | z) | z
            · exact .inl (.inl z)
            · exact .inr (by rw [z]; exact nq)
            · exact .inl (.inr z)
          have r7 : RepK F.K (Bar (fun a => (M a ∨ a = p) ∨ a = q) own) π H4 (Fn.putK (mergeD [] kvs) key dv) (L2.mergeK (L2.mergeK [] ms) (L2.putK [] key vv)) := repK_put r6 r5
          refine RepK.hold (fun a o e n => ?_) (fun a z => .inl ?_) _ _ r7
          · rw [upd_ne fun w => n (.inl (.inl (.inr w))), upd_ne fun w => n (.inl (.inr w))]
            exact e
          · rcases z with z | z
            · exact .inl (.inl (.inl z))
            · exact .inr z
  | _ => exact h1.elim
end
end Fn
end P_FB
section P_FI
set_option maxHeartbeats 1000000
/-! sorted(d.items()) on data. -/
namespace Fn
open PySem PySem.Spec PyProof.Rows L2
/-- sorted: what is gathered goes to a new list, which is sorted -/
theorem sorted_any {prog : Program} {w : World} {A : Around} {E : Value → Shared → Prop} {s : Shared} {Q : Value → Shared → Prop} {it : Value} (P : List Value → Shared → Prop)
    (col : ∀ (R : List Value → Shared → Prop) (E' : Value → Shared → Prop), (∀ us s1, P us s1 → R us s1) → wpAny (model prog w) A.in1 (collect it) R E' s) (hl : ∀ us s1, P us s1 → us.length ≤ sizeLine)
    (body : ∀ us s1, P us s1 → wpAny (model prog w) A.in1 (call (.builtin "list.sort") [.ref s1.heap.objs.size]) (fun _ s' => Q (.ref s1.heap.objs.size) s') E { s1 with heap := s1.heap.push (seqObj "list" us.toArray 0) }) :
    wpAny (model prog w) A (call (.builtin "sorted") [it]) Q E s := by
  refine call_function_entry_kw kind_sorted plain_sorted entry_sorted (args_sorted1 _) ?_
  refine wpAny_bind (wpAny_pure (wpAny_bind ?_))
  refine col _ _ fun us s1 hp => ?_
  refine wpAny_bind (wpAny_newList ?_ (by simpa using hl us s1 hp))
  refine wpAny_bind (wpAny_holding ?_)
  refine wpAny_mono (body us s1 hp) (fun v s' hq => ?_) (fun _ _ e => e)
  exact wpAny_pure ⟨_, rfl, hq⟩
/-- the new list sorted -/
theorem sort_new {X : Cx} {pins : List (Addr × Obj)} {σ : L2.St} {H : Hp} {s : Shared} {E : Value → Shared → Prop} {Q : VK} {bs : List (V × PyData)} {its : List Value} (hu : X.A.units + 65 < cLine) (hI : Inv X pins σ H s) (hv : Vals (bs.map (·.1)) its)
    (hD : ∀ b ∈ bs, Dp X.K H b.1 b.2) (hA : PySem.W.AllAlike (bs.map (·.2))) (hSo : PySem.W.Sortable (bs.map (·.2))) (hd : ∀ b ∈ bs, b.2.depth ≤ 60) (hl : its.length ≤ sizeLine)
    (hq : ∀ p, H p = none → Q (.ref p) (upd H p (.lst ((bs.mergeSort (PySem.W.dataLe false (·.2))).map (·.1))))) :
    wpAny (model X.prog X.w) X.A.in1 (call (.builtin "list.sort") [.ref s.heap.objs.size]) (fun _ s' => EP X pins σ Q (.ref s.heap.objs.size) s') E { s with heap := s.heap.push (seqObj "list" its.toArray 0) } := by
  have hk2 : ∀ b o', s.heap.get? b = some o' → (s.heap.push (seqObj "list" its.toArray 0)).get? b = some o' := fun b o' e => Heap.get?_push_of_some _ e
  have hlen : bs.length = its.length := by have := hv.length; simpa using this
  refine PySem.W.list_sort_data (bs := bs) (enc := (·.2)) (vs := its) (R := fun u b => RelV b.1 u) (n := 0) ?_ (each_zip hv fun b _ u r => r) (each_zip hv fun b hb u r => ?_) hA hSo (by omega) (fun b hb => ?_) fun out ho hE => ?_
  · exact Heap.get?_push_size _ rfl
  · obtain ⟨as, hr⟩ := Dp.reads hI b.2 b.1 u (hD b hb) r
    refine ⟨as, Reads.keeps hk2 hr, fun hin => ?_⟩
    obtain ⟨o', e⟩ := PyProof.On.reads_mem_get hr _ hin
    exact absurd (Heap.lt_size e) (Nat.lt_irrefl _)
  · have := hd b hb
    show X.A.units + 1 + 1 + b.2.depth < cLine
    omega
  · have hps : (s.heap.push (seqObj "list" its.toArray 0)).objs.size = s.heap.objs.size + 1 := Heap.size_push _ _
    refine ⟨.ref s.heap.objs.size, _, hI.turnedNew (ch := []) (T := s.heap.objs.size) (ob := .lst ((bs.mergeSort (PySem.W.dataLe false (·.2))).map (·.1))) (fun b o' _ e => ?_) (fun b hb => by cases hb) (Nat.le_refl _) ?_, rfl, hq _ hI.fresh⟩
    · have hb := Heap.lt_size e
      rw [sortedHeap_old (Nat.ne_of_lt hb) (by rw [hps]; exact Nat.lt_succ_of_lt hb)]
      exact Heap.get?_push_of_some _ e
    · obtain ⟨e, he⟩ := sortedHeap_at (out := out.toArray) (vs := its) (n := 0) (a := s.heap.objs.size) (h := s.heap.push (seqObj "list" its.toArray 0)) (Heap.get?_push_size _ rfl)
      exact ⟨by rw [List.length_map, List.length_mergeSort]; omega, out, e, vals_each hE, he⟩
/-- new tuples are tracked -/
theorem take_tups {X : Cx} {pins : List (Addr × Obj)} {σ : L2.St} {H0 : Hp} {s s1 : Shared} (I0 : Inv X pins σ H0 s) : ∀ (L : List (Addr × List V)) (H1 : Hp), Inv X pins σ H1 s1 → (L.map (·.1)).Nodup →
    (∀ p ∈ L, s.heap.objs.size ≤ p.1 ∧ H1 p.1 = none ∧ p.2.length ≤ sizeLine ∧ ∃ its : List Value, Vals p.2 its ∧ s1.heap.get? p.1 = some (tObj its.toArray)) →
    ∃ H2, Inv X pins σ H2 s1 ∧ (∀ b o, H1 b = some o → H2 b = some o) ∧ (∀ b, H1 b = none → b ∉ L.map (·.1) → H2 b = none) ∧ ∀ p ∈ L, Tp H2 p.1 p.2
  | [], H1, I1, _, _ => ⟨H1, I1, fun _ _ e => e, fun _ e _ => e, fun _ h => nomatch h⟩
  | p :: L, H1, I1, hn, h => by
    obtain ⟨hb, hnone, hz, its, rv, e1⟩ := h p List.mem_cons_self
    have I2 : Inv X pins σ (upd H1 p.1 (.frz (tObj its.toArray) (.tup p.2))) s1 := I1.take (h' := s1.heap) (t' := s1.toks) (fun b ob _ e => e) (I0.fpOk hb hnone) ⟨e1, hz, its, rv, _, e1, rfl, _, rfl⟩
    rw [List.map_cons, List.nodup_cons] at hn
    have ne : ∀ q ∈ L, q.1 ≠ p.1 := fun q hq z => hn.1 (by rw [← z]; exact List.mem_map_of_mem hq)
    obtain ⟨H2, I3, g, g2, q⟩ := take_tups I0 L _ I2 hn.2 fun q hq => by
      obtain ⟨c1, c2, c3⟩ := h q (List.mem_cons_of_mem _ hq)
      exact ⟨c1, by rw [upd_ne (ne q hq)]; exact c2, c3⟩
    refine ⟨H2, I3, fun b o e => g b o (by rw [upd_ne (ne_of_none e hnone)]; exact e), fun b e nb => ?_, fun c hc => ?_⟩
    · rw [List.map_cons, List.mem_cons, not_or] at nb
      exact g2 b (by rw [upd_ne nb.1]; exact e) nb.2
    · rcases List.mem_cons.mp hc with rfl | hc
      · exact ⟨_, g _ _ upd_same, rfl⟩
      · exact q c hc
section
variable {X : Cx} {e : Expr} {te : TE}
/-- the pairs of a dict as new tuples, sorted -/
def rItems (K : PySem.W.Frag) : List (L2.Key × V) → Hp → (V → Hp → Prop) → Prop := fun kvs H Q => ∀ (as : List Addr) (H2 : Hp), as.length = kvs.length → (∀ b o, H b = some o → H2 b = some o) → (∀ a ∈ as, H a = none) → (∀ (j : Nat) (a : Addr) (kv : L2.Key × V), as[j]? = some a → kvs[j]? = some kv → Tp H2 a [kV kv.1, kv.2]) →
  ∃ bs : List (V × PyData), bs.map (·.1) = as.map V.ref ∧ (∀ b ∈ bs, Dp K H2 b.1 b.2) ∧ PySem.W.AllAlike (bs.map (·.2)) ∧ PySem.W.Sortable (bs.map (·.2)) ∧ (∀ b ∈ bs, b.2.depth ≤ 60) ∧
    ∀ p, H2 p = none → Q (.ref p) (upd H2 p (.lst ((bs.mergeSort (PySem.W.dataLe false (·.2))).map (·.1))))
open L2.DX in
def tItemsV (te : TE) : TE := fun σ H Q => te σ H fun x H1 => ∃ d kvs, x = .ref d ∧ Rd H1 d (.dK kvs) ∧ ∀ p, H1 p = none → Q (.ref p) (upd H1 p (itemsO p d))
open L2.DX in
theorem pe_itemsV {apos cpos : Pos} (he : PE X e te) (hbase : attributeBase e "items" X.env (eval e X.env) = eval e X.env := by rfl) (hline : (apos.endLine == cpos.line) = true := by rfl) :
    PE X (.Call (.Attribute e "items" apos) [] [] cpos) (tItemsV te) := by
  refine ⟨fun pins s σ H Q I h => ?_⟩
  refine wpAny_Call_method (T := "dict") (id := "dict.items") hbase rfl hline PySem.F.plainAttrs_dict PySem.F.slot_dict_items PySem.F.type_dict_items (thn (he.run pins s σ H _ I h) ?_)
  rintro u s1 ⟨x, H1, I1, rx, d, kvs, rfl, hd, q⟩
  obtain rfl : u = Value.ref d := rx
  obtain ⟨hz, hm, vs, kv, dd⟩ := dk_rd I1.hok hd
  refine ⟨dd.typeIs, dd.mapOf.noDict, ?_⟩
  have I2 := Inv.laid (t' := s1.toks) I1 (a := s1.heap.objs.size) (o := itemsO s1.heap.objs.size d) (h' := s1.heap.push { cls := .type "dict_items", data := .fields #[.ref d] }) (fun _ _ q => Heap.get?_push_of_some _ q) (Nat.le_refl _) (itemsO_ok (Heap.get?_push_size _ rfl))
  show wpAny _ _ (callWith cpos (.builtin "dict.items") [.ref d] [] []) _ X.xe s1
  exact method_meetsIn PySem.F.slot_dict_items PySem.F.entry_dict_items rfl (PySem.evalArgs_none ⟨rfl, dd.typeIs, PySem.F.args_dict_items_1 _, _, meets_dict_items (mixKind X.prog X.w) d hm, ⟨vs, dd⟩, ⟨.ref s1.heap.objs.size, _, I2, rfl, q _ I1.fresh⟩⟩)
theorem kv_at {kvs : List (L2.Key × V)} {vs : List (L2.Key × Value)} (h : KV kvs vs) {i : Nat} {kv : L2.Key × V} (e : kvs[i]? = some kv) : ∃ u, vs[i]? = some (kv.1, u) ∧ RelV kv.2 u := by
  obtain ⟨k, v⟩ := kv
  exact kv_get h e
open L2.DX in
def rSItems (K : PySem.W.Frag) : List V → Hp → VK → Prop := fun xs H Q => ∃ p d kvs, xs = [.ref p] ∧ H p = some (itemsO p d) ∧ Rd H d (.dK kvs) ∧ rItems K kvs H Q
open L2.DX in
theorem cr_sItems (hc : X.calm = true) (hu : X.A.units + 65 < cLine) : CallR X (.builtin "sorted") (rSItems X.K) := by
  rintro pins s σ H xs us Q I r ⟨p, d, kvs, rfl, hp, hd, h⟩
  obtain ⟨u, rfl, rx⟩ := vals1 r
  obtain rfl : u = Value.ref p := rx
  have view : s.heap.IsItemsView p d := (show ObjOk X.prog X.w H s.heap p (itemsO p d) from I.hok p _ hp).1
  obtain ⟨hz, hm, vs, kv, o, es, ep, g1, g2, g3, g4, g5, g6⟩ := dk_rd I.hok hd
  have hl1 := kv.length
  have hl2 : es.size = vs.length := by have := g5.length; simpa using this
  have raw : s.heap.DictRaw d es ep := ⟨o, g1, g2, g3⟩
  refine sorted_any (fun us s1 => ∃ (h' : Heap) (tk : Nat) (as : List Addr), us = as.map Value.ref ∧ s1 = { s with heap := h', toks := tk } ∧ (∀ b o, s.heap.get? b = some o → h'.get? b = some o) ∧ as.length = es.size ∧ PySem.W.DilG es s.heap.objs.size h' as)
    (fun R E' hR => PySem.W.dil_collect (I.ok.hd hc) view raw (by omega) fun h' tk as k1 k2 k3 => hR _ _ ⟨h', tk, as, rfl, rfl, k1, k2, k3⟩) (fun us s1 ⟨h', tk, as, e1, e2, k1, k2, k3⟩ => by rw [e1, List.length_map]; omega) ?_
  rintro us s1 ⟨h', tk, as, rfl, rfl, k1, k2, k3⟩
  have I1 : Inv X pins σ H { s with heap := h', toks := tk } := Inv.kept (t' := tk) I k1
  have nd : as.Nodup := List.Pairwise.imp (fun h => Nat.ne_of_lt h) k3.rise
  have lak : as.length = kvs.length := by omega
  have hfr : ∀ a ∈ as, H a = none := fun a ha => I.hok.fresh (Nat.le_of_lt (k3.above a ha))
  -- each new pair
  have pr : ∀ (j : Nat) (a : Addr) (kv : L2.Key × V), as[j]? = some a → kvs[j]? = some kv → ∃ its : List Value, Vals [kV kv.1, kv.2] its ∧ h'.get? a = some (tObj its.toArray) := by
    intro j a q ea ek
    obtain ⟨hj, hg⟩ := k3.pairs j a ea
    obtain ⟨u, eu, ru⟩ := kv_at kv ek
    obtain ⟨hkey, hval⟩ := g5.get? (e := es[j]) (by simp [hj]) eu
    rw [hval] at hg
    exact ⟨[es[j].key, u], .cons (relV_key hkey) (.cons ru .nil), hg⟩
  obtain ⟨H2, I2, ge, gn, gt⟩ := take_tups I (as.zip (kvs.map fun q => [kV q.1, q.2])) H I1 (by rw [List.map_fst_zip (by rw [List.length_map]; omega)]; exact nd) (by
    rintro ⟨a, l⟩ hp
    obtain ⟨j, hj⟩ := List.mem_iff_getElem?.mp hp
    obtain ⟨h1, h2⟩ := List.getElem?_zip_eq_some.mp hj
    rw [List.getElem?_map] at h2
    cases hk : kvs[j]? with
    | none => rw [hk] at h2; cases h2
    | some q =>
      rw [hk] at h2
      obtain rfl : [kV q.1, q.2] = l := Option.some.inj h2
      have ha := List.mem_of_getElem? h1
      exact ⟨Nat.le_of_lt (k3.above a ha), hfr a ha, by rw [sizeLine_eq]; show 2 ≤ 16777216; omega, pr j a q h1 hk⟩)
  obtain ⟨bs, b1, b2, b3, b4, b5, b6⟩ := h as H2 lak ge hfr (fun j a q ea ek => gt (a, [kV q.1, q.2]) (List.mem_iff_getElem?.mpr ⟨j, List.getElem?_zip_eq_some.mpr ⟨ea, by rw [List.getElem?_map, ek]; rfl⟩⟩))
  refine sort_new (bs := bs) hu I2 ?_ b2 b3 b4 b5 (by rw [List.length_map]; omega) b6
  rw [b1]
  exact vals_maps (fun a : Addr => V.ref a) Value.ref as fun _ _ => rfl
end
/-! ### on data -/
def keyD : Key → D
  | .inl i => .int i
  | .inr x => .str x
def pairD (p : Key × D) : D := .tup [keyD p.1, p.2]
def eSItems (a : FE) : FE := fun ρ R => a ρ fun x => match x with
  | .dct kvs => okS (kvs.map pairD) ∧ R (.lst (srt (kvs.map pairD)))
  | _ => False
section
variable {K : PySem.W.Frag} {N : Addr → Prop} {π : Pi} {H : Hp}
theorem rep_key (k : Key) : Rep K N π H (keyD k) (kV k) := by cases k <;> rfl
/-- what the sort asks -/
theorem sort_bs {l : List D} {xs : List V} (c : Ctx N π H) (r : RepL K N π H l xs) (ok : okS l) : ∃ bs : List (V × PyData), bs.map (·.1) = xs ∧ (∀ b ∈ bs, Dp K H b.1 b.2) ∧ PySem.W.AllAlike (bs.map (·.2)) ∧ PySem.W.Sortable (bs.map (·.2)) ∧ (∀ b ∈ bs, b.2.depth ≤ 60) ∧
    ∀ p, H p = none → Rep K N π (upd H p (.lst ((bs.mergeSort (PySem.W.dataLe false (·.2))).map (·.1)))) (.lst (srt l)) (.ref p) := by
  obtain ⟨zs, rfl, rfl, hz⟩ := repL_zip r
  obtain ⟨h1, h2, h3, h4⟩ := ok
  have e1 : (zs.map fun z => (z.1, z.2.py)).map (·.1) = zs.map (·.1) := by simp [Function.comp_def]
  have e2 : (zs.map fun z => (z.1, z.2.py)).map (·.2) = pyL (zs.map (·.2)) := by rw [pyL_map]; simp [Function.comp_def]
  have hdat : ∀ z ∈ zs, z.2.dat = true := fun z hz' => by
    rw [datL_all] at h1
    exact List.all_eq_true.mp h1 _ (List.mem_map_of_mem hz')
  refine ⟨zs.map fun z => (z.1, z.2.py), e1, fun b hb => ?_, by rw [e2]; exact h2, by rw [e2]; exact h3, fun b hb => ?_, fun p np => ?_⟩
  · obtain ⟨z, hz', rfl⟩ := List.mem_map.mp hb
    exact rep_dp _ _ (hdat z hz') (hz z hz')
  · obtain ⟨z, hz', rfl⟩ := List.mem_map.mp hb
    exact Nat.le_trans (py_depth z.2) (h4 _ (List.mem_map_of_mem hz'))
  · have m1 : ((zs.map fun z => (z.1, z.2.py)).mergeSort (PySem.W.dataLe false (fun b : V × PyData => b.2))) = (zs.mergeSort (PySem.W.dataLe false (fun z : V × D => z.2.py))).map fun z => (z.1, z.2.py) :=
      (PySem.W.sort_maps (r := PySem.W.dataLe false (fun z : V × D => z.2.py)) (s := PySem.W.dataLe false (fun b : V × PyData => b.2)) (fun z : V × D => (z.1, z.2.py)) fun _ _ _ _ => rfl).symm
    have m2 : (zs.map (·.2)).mergeSort (PySem.W.dataLe false D.py) = (zs.mergeSort (PySem.W.dataLe false (fun z : V × D => z.2.py))).map (·.2) :=
      (PySem.W.sort_maps (r := PySem.W.dataLe false (fun z : V × D => z.2.py)) (s := PySem.W.dataLe false D.py) (fun z : V × D => z.2) fun _ _ _ _ => rfl).symm
    rw [m1, List.map_map]
    show Rep K N π _ (.lst ((zs.map (·.2)).mergeSort (PySem.W.dataLe false D.py))) _
    rw [m2]
    exact Rep.newL (zip_repL fun z hz' => hz z (List.mem_mergeSort.mp hz')) np c.alloc
/-- the pairs of a dict, told by their new tuples -/
theorem rep_pairs {H2 : Hp} (c : Ctx N π H) (ge : ∀ b o, H b = some o → H2 b = some o) : ∀ {kvs : List (Key × D)} {ms : List (L2.Key × V)} {as : List Addr}, RepK K N π H kvs ms → as.length = ms.length → (∀ a ∈ as, H a = none) →
    (∀ (j : Nat) (a : Addr) (kv : L2.Key × V), as[j]? = some a → ms[j]? = some kv → Tp H2 a [kV kv.1, kv.2]) → RepL K N π H2 (kvs.map pairD) (as.map V.ref)
  | [], _, as, h, hl, _, _ => by
    cases h
    have : as = [] := List.length_eq_zero_iff.mp hl
    subst this
    rfl
  | (k, d) :: r, _, [], ⟨q, qs, e, _, _⟩, hl, _, _ => by subst e; simp at hl
  | (k, d) :: r, _, a :: as, ⟨q, qs, e, ⟨h1, h2⟩, h3⟩, hl, hn, ht => by
    subst e
    have hh : Hold N H H2 := fun b o e _ => ge b o e
    have h1' : k = q.1 := h1.symm
    subst h1'
    have tp := ht 0 a q rfl rfl
    refine ⟨.ref a, as.map V.ref, rfl, ⟨a, [kV q.1, q.2], rfl, .inl ⟨fun z => ?_, tp⟩, kV q.1, [q.2], rfl, rep_key _, q.2, [], rfl, Rep.hold hh (fun _ z => .inl z) _ _ h2, rfl⟩, ?_⟩
    · obtain ⟨o, e⟩ := c.alloc a z
      rw [hn a List.mem_cons_self] at e
      cases e
    · exact rep_pairs c ge h3 (by simpa using hl) (fun b hb => hn b (List.mem_cons_of_mem _ hb)) fun j b kv e1 e2 => ht (j + 1) b kv (by simpa using e1) (by simpa using e2)
end
section
variable {F : Fam} {O : Nat → Bool} {e : Expr} {f : FE} {p pos apos cpos : Pos}
theorem ve_sItems (hm : F.mg "sorted" = none) (he : VR F O e f) (hg : ∀ i, Gl (F.X i) "sorted" := by intro _; rfl)
    (hbase : ∀ i, attributeBase e "items" (F.X i).env (eval e (F.X i).env) = eval e (F.X i).env := by intro _; rfl) (hline : (apos.endLine == cpos.line) = true := by rfl)
    (hs : ∀ i, starEach [.Call (.Attribute e "items" apos) [] [] cpos] (F.X i).env = (false, eval (.Call (.Attribute e "items" apos) [] [] cpos) (F.X i).env) :: starEach [] (F.X i).env := by intro _; rfl) :
    VE F O (.Call (.Name "sorted" p) [.Call (.Attribute e "items" apos) [] [] cpos] [] pos) (eSItems f) := by
  obtain ⟨t, pt, g⟩ := he
  refine ⟨tCB (rSItems F.K) (tCons (tItemsV t) tNil), fun i => pe_callB (id := "sorted") (by rw [← F.hK i]; exact cr_sItems (F.calm i) (F.units i)) (hg i) (by rw [F.hmg i]; exact hm) (by decide +kernel) (pa_cons (pe_itemsV (pt i) (hbase i) hline) pa_nil (hs i)) (by decide) (by decide) (hs i) (by rfl), fun M π own σ H ρ R Q x hf hq => ?_⟩
  refine g M π own σ H ρ _ _ x hf fun d v H1 k1 r1 h1 => ?_
  have x1 := x.keep k1
  cases d with
  | dct kvs =>
    obtain ⟨b, ms, e, nb, hb, rk⟩ := r1
    refine ⟨b, ms, e, hb, fun p np => ⟨p, b, ms, rfl, upd_same, ?_, ?_⟩⟩
    · exact rd_hold (fun o q => by rw [upd_ne (ne_of_none q np)]; exact q) hb
    · intro as H2 hl ge hn ht
      have k2 : Keep π H1 (upd H1 p (L2.DX.itemsO p b)) := x1.ctx.keepNew np
      have x2 := x1.keep k2
      have hl' : as.length = ms.length := hl
      have r2 := rep_pairs (x2.ctx) ge (rk.keep x1.ctx k2) hl' hn ht
      have k3 : Keep π (upd H1 p (L2.DX.itemsO p b)) H2 := ⟨fun a o e _ => ge a o e, fun p' e => by
        obtain ⟨ns, i, c, k, s, e1, e2, e3, e4⟩ := (x2.pool p' e).2
        exact ⟨ns, i, c, k, s, ge _ _ e1, ge _ _ e2, e3, e4⟩⟩
      have x3 := x2.keep k3
      obtain ⟨bs, b1, b2, b3, b4, b5, b6⟩ := sort_bs x3.ctx r2 h1.1
      exact ⟨bs, b1, b2, b3, b4, b5, fun q nq => hq (.lst _) _ _ ((k1.trans k2).trans (k3.trans (x3.ctx.keepNew nq))) (b6 q nq) h1.2⟩
  | _ => exact h1.elim
end
end Fn
end P_FI
section P_FJ
set_option maxHeartbeats 1000000
/-! Walks that give pairs: d.items(), enumerate; d.values(). -/
namespace Fn
open PySem PySem.Spec PyProof.Rows L2
section
variable {K : PySem.W.Frag} {C N : Addr → Prop} {π : Pi} {H1 : Hp}
theorem walkD_pair {J : It} {G : Hp → Prop} {fx fy : Nat → Option V} {l : List D} (hC : ∀ a, C a → N a) (c : Ctx N π H1) (w : Walk J l.length G (YPair fx fy)) (hg : ∀ H, Hold C H1 H → G H)
    (hr : ∀ i x y, i < l.length → fx i = some x → fy i = some y → ∃ d1 d2, l[i]? = some (.tup [d1, d2]) ∧ Rep K N π H1 d1 x ∧ Rep K N π H1 d2 y) : WalkD false K C N π H1 l J := by
  refine ⟨G, _, w, hg, fun i H v H' hi hh hp y => ?_⟩
  obtain ⟨T, x, z, rfl, nT, rfl, e1, e2⟩ := y
  obtain ⟨d1, d2, e3, r1, r2⟩ := hr i x z hi e1 e2
  refine ⟨Keep.new hp nT, _, e3, fun N' hN => ?_⟩
  have hold : Hold N H1 (upd H T (.tup [x, z])) := fun a o e n => same_upd nT a o (hh a o e fun z => n (hC a z))
  have hm : ∀ a, N' a → N a ∨ H1 a = none := fun a z => (hN a z).1
  exact ⟨T, [x, z], rfl, SqT.of upd_same, x, [z], rfl, Rep.hold hold hm _ _ r1, z, [], rfl, Rep.hold hold hm _ _ r2, rfl⟩
theorem repK_get : ∀ {l : List (Key × D)} {ms : List (L2.Key × V)} {i : Nat} {q : L2.Key × V}, RepK K N π H1 l ms → ms[i]? = some q → ∃ d, l[i]? = some (q.1, d) ∧ Rep K N π H1 d q.2
  | [], _, _, _, h, e => by cases h; simp at e
  | (k, d) :: r, _, 0, q', ⟨q, qs, e1, ⟨h1, h2⟩, h3⟩, e => by
    subst e1
    simp at e
    subst e
    exact ⟨d, by simp [h1], h2⟩
  | (k, d) :: r, _, i + 1, q', ⟨q, qs, e1, _, h3⟩, e => by
    subst e1
    obtain ⟨d', e2, r2⟩ := repK_get (i := i) h3 (by simpa using e)
    exact ⟨d', by simpa using e2, r2⟩
end
def iItems (a : FE) : FI := fun ρ R => a ρ fun x => match x with
  | .dct kvs => R (kvs.map pairD)
  | _ => False
def iVals (a : FE) : FI := fun ρ R => a ρ fun x => match x with
  | .dct kvs => R (kvs.map (·.2))
  | _ => False
def enumD (l : List D) : List D := (List.range l.length).zipWith (fun (i : Nat) d => D.tup [.int i, d]) l
def iEnum (a : FE) : FI := fun ρ R => a ρ fun x => match x with
  | .lst l => R (enumD l)
  | _ => False
section
variable {F : Fam} {O : Nat → Bool} {e : Expr} {f : FE} {p pos apos cpos tpos : Pos} {elts : List Expr} {kk : Nat}
theorem vi_items (he : VE F O e f) (hbase : ∀ i, attributeBase e "items" (F.X i).env (eval e (F.X i).env) = eval e (F.X i).env := by intro _; rfl) (hline : (apos.endLine == cpos.line) = true := by rfl) :
    VI F O false (.Tuple elts kk tpos) (.Call (.Attribute e "items" apos) [] [] cpos) (Fn.iItems f) := by
  obtain ⟨t, pt, g⟩ := he
  refine ⟨L2.iItems t, fun i => pi_items (pt i) (hbase i) hline, fun M π own σ H ρ R Q x hf hq => ?_⟩
  refine g M π own σ H ρ _ _ x hf fun d v H1 k1 r1 h1 => ?_
  have c1 := (x.keep k1).ctx
  cases d with
  | dct kvs =>
    obtain ⟨a, ms, e, ⟨na, od, ha⟩, rk⟩ := r1
    have hl : ms.length = (kvs.map pairD).length := by rw [List.length_map]; exact repK_len rk
    refine ⟨a, od, ms, e, ha, hq _ _ H1 k1 (walkD_pair (fun _ z => z) c1 (by rw [← hl]; exact walk_items) (fun H hh => hh a _ ha na) fun i y z hi e1 e2 => ?_) h1⟩
    cases hq' : ms[i]? with
    | none => rw [hq'] at e1; cases e1
    | some q =>
      rw [hq'] at e1 e2
      cases e1
      cases e2
      obtain ⟨d, e3, r3⟩ := repK_get rk hq'
      exact ⟨_, _, by rw [List.getElem?_map, e3]; rfl, rep_key _, r3⟩
  | _ => exact h1.elim
theorem vi_vals {tg : Expr} (he : VE F O e f) (hbase : ∀ i, attributeBase e "values" (F.X i).env (eval e (F.X i).env) = eval e (F.X i).env := by intro _; rfl) (hline : (apos.endLine == cpos.line) = true := by rfl) :
    VI F O true tg (.Call (.Attribute e "values" apos) [] [] cpos) (Fn.iVals f) := by
  obtain ⟨t, pt, g⟩ := he
  refine ⟨L2.iVals t, fun i => pi_values (pt i) (hbase i) hline, fun M π own σ H ρ R Q x hf hq => ?_⟩
  refine g M π own σ H ρ _ _ x hf fun d v H1 k1 r1 h1 => ?_
  have c1 := (x.keep k1).ctx
  cases d with
  | dct kvs =>
    obtain ⟨a, ms, e, ⟨na, od, ha⟩, rk⟩ := r1
    have hl : ms.length = (kvs.map (·.2)).length := by rw [List.length_map]; exact repK_len rk
    refine ⟨a, od, ms, e, ha, hq _ _ H1 k1 ⟨_, _, by rw [← hl]; exact walk_values, fun H hh => hh a _ ha na, fun i H y H' hi hh hp z => ?_⟩ h1⟩
    obtain ⟨e1, k, e2⟩ := z
    subst e1
    obtain ⟨d, e3, r3⟩ := repK_get rk e2
    exact ⟨Keep.refl hp, d, by rw [List.getElem?_map, e3]; rfl, fun N' hN => Rep.hold hh (fun a z => (hN a z).1) _ _ r3⟩
  | _ => exact h1.elim
theorem vi_enum (hm : F.mg "enumerate" = none) (he : VE F O e f) (hg : ∀ i, Gl (F.X i) "enumerate" := by intro _; rfl) (hs : ∀ i, starEach [e] (F.X i).env = [(false, eval e (F.X i).env)] := by intro _; rfl) :
    VI F O false (.Tuple elts kk tpos) (.Call (.Name "enumerate" p) [e] [] pos) (Fn.iEnum f) := by
  obtain ⟨t, pt, g⟩ := he
  refine ⟨L2.iEnum F.K (tCons t tNil), fun i => by rw [← F.hK i]; exact pi_enum (hg i) (by rw [F.hmg i]; exact hm) (pa_cons (pt i) pa_nil (hs i)) (hs i), fun M π own σ H ρ R Q x hf hq => ?_⟩
  refine g M π own σ H ρ _ _ x hf fun d v H1 k1 r1 h1 => ?_
  have c1 := (x.keep k1).ctx
  cases d with
  | lst l =>
    obtain ⟨a, xs, e, ⟨na, ha⟩, r⟩ := r1
    have hl : xs.length = (enumD l).length := by unfold enumD; rw [List.length_zipWith, List.length_range, r.length]; omega
    refine ⟨a, xs, by rw [e], SqL.of ha, hq _ _ H1 k1 (walkD_pair (fun _ z => z) c1 (by rw [← hl]; exact walk_enum) (fun H hh => SqL.of (hh a _ ha na)) fun i y z hi e1 e2 => ?_) h1⟩
    cases e1
    obtain ⟨d, e3, r3⟩ := r.get' e2
    refine ⟨.int i, d, ?_, rfl, r3⟩
    have hi' : i < l.length := (List.getElem?_eq_some_iff.mp e3).1
    unfold enumD
    rw [List.getElem?_zipWith, e3, List.getElem?_range hi']
  | _ => exact h1.elim
end
end Fn
end P_FJ
section P_FN
set_option maxHeartbeats 1000000
/-! Dict comprehensions of one clause. -/
namespace Fn
open PySem PySem.Spec PyProof.Rows L2
def emitD (kx vx : Expr) : Value → Env → Sem Unit := fun acc env => do
  let kv ← eval kx env
  let vv ← holding [kv] (eval vx env)
  match acc with
  | .ref d => do
    standAt { kx.pos with endLine := vx.pos.endLine, endCol := vx.pos.endCol }
    holding [kv, vv] (dictSet d kv vv)
  | _ => unsupported "internal:dictcomp"
theorem kd_dict (kx vx : Expr) (gens : List Comprehension) (scope : Scope) (pos : Pos) : Kd (.DictComp kx vx gens scope pos) gens (emitD kx vx) where
  cl := rfl
  und := fun _ _ _ _ _ => ⟨rfl, rfl⟩
  den := fun _ _ _ _ _ _ => ⟨rfl, rfl⟩
  last := fun hg hn itv acc env => by
    unfold compTurn emitD
    simp only [hg, hn]
    rfl
  next := fun hg hn itv acc env => by
    unfold compTurn
    simp only [hg, hn]
    rfl
/-- an entry of a dict -/
def emD (tk tv : TE) (L : Addr) : TEm := fun σ H N => tk σ H fun y H4 => tv σ H4 fun z H5 => ∃ kvs k, y = kV k ∧ H5 L = some (.dK kvs) ∧ kvs.length < sizeLine ∧ N (upd H5 L (.dK (L2.putK kvs k z)))
theorem emD_ok {Y : Cx} {kx vx : Expr} {tk tv : TE} {L : Addr} (hk : PE Y kx tk) (hv : PE Y vx tv) (hx : Y.xe = fun _ _ => False) : EmOk Y (emitD kx vx) (.ref L) (emD tk tv L) := by
  intro pins s σ H N I h
  have pr := hk.run pins s σ H _ I h
  rw [hx] at pr
  refine wpAny_bind (wpAny_mono pr ?_ fun _ _ z => z)
  rintro kv s1 ⟨y, H1, I1, r1, h1⟩
  have pv := hv.run pins s1 σ H1 _ I1 h1
  rw [hx] at pv
  refine wpAny_bind (wpAny_holding (wpAny_mono pv ?_ fun _ _ z => z))
  rintro vv s2 ⟨z, H2, I2, r2, kvs, k, rfl, hL, hz, nx⟩
  refine wpAny_bind (wpAny_standAt (wpAny_holding (d_dictSet I2 hL hz r1 r2 fun s3 I3 => ?_)))
  exact ⟨_, I3, nx⟩
section
variable {X : Cx}
theorem pe_dcN {kx vx tg iter : Expr} {ifs : List Expr} {scope : Scope} {own : List (Str × Nat)} {pos : Pos} {wi : TI} {g : TG} {tt : TT} {tk tv : TE} (hc : X.calm = true) (hN : X.N.Nodup) (hi : PI X tg iter wi) (ok : BlkOk X.N X.env.scope scope own)
    (hg : ∀ (s : Shared) (H : Hp) (C : Addr) (cl : List (Str × Addr)) (fp : List Addr), PG (X.blk s H scope (compEnvC scope cl C X.env) fp) tg g) (ht : ∀ (s : Shared) (H : Hp) (C : Addr) (cl : List (Str × Addr)) (fp : List Addr), PTs (X.blk s H scope (compEnvC scope cl C X.env) fp) ifs tt)
    (hk : ∀ (s : Shared) (H : Hp) (C : Addr) (cl : List (Str × Addr)) (fp : List Addr), PE (X.blk s H scope (compEnvC scope cl C X.env) fp) kx tk)
    (he : ∀ (s : Shared) (H : Hp) (C : Addr) (cl : List (Str × Addr)) (fp : List Addr), PE (X.blk s H scope (compEnvC scope cl C X.env) fp) vx tv) (hs : ∀ x, foldedSetIterable iter X.env x = pure x) (hne : firstAsync [⟨tg, iter, ifs, 0⟩] = false := by rfl) :
    PE X (.DictComp kx vx [⟨tg, iter, ifs, 0⟩] scope pos) (tLn wi g tt (own.map (·.2)) (fun _ => .dK []) (emD tk tv) []) := by
  refine ⟨fun pins s σ H Q I h => ?_⟩
  rw [arm_eval_DictComp]
  refine comp_core (kd_dict kx vx _ scope pos) (fun s Q E q => wpAny_newObj_type q) (fun H h hb => dk_empty h hb) hc hN I hi ok (vs' := []) (fun _ z => nomatch z) hg ht (fun L s H C cl fp => emD_ok (hk s H C cl fp) (he s H C cl fp) rfl) hs (fun s H C cl fp => .nil) h fun D C s' m H' I' q hn f => ⟨m, hn, fun h'' sb => ?_⟩
  obtain ⟨f0, f1, f2, f3, f4, f5⟩ := f
  exact ⟨.ref D, H', I'.turned (t' := s'.toks) (fun b o hb e => (sb.2 b hb).trans e) f0 f1 f3 f4 f5, rfl, q⟩
/-- name = {k: v for ..} on one line, the name a local: the dict is locked from now on -/
theorem ps_setDcN {i : Nat} {y : Str} {py : Pos} {kx vx tg iter : Expr} {ifs : List Expr} {scope : Scope} {own : List (Str × Nat)} {pos spos : Pos} {wi : TI} {g : TG} {tt : TT} {tk tv : TE} (hc : X.calm = true) (hN : X.N.Nodup) (hy : X.N[i]? = some y) (hyl : X.env.scope.names.lookup y = some .local)
    (hsw : swapsWith (.DictComp kx vx [⟨tg, iter, ifs, 0⟩] scope pos) (some (.Name y py)) spos.line X.env = pure true) (hi : PI X tg iter wi) (ok : BlkOk X.N X.env.scope scope own)
    (hg : ∀ (s : Shared) (H : Hp) (C : Addr) (cl : List (Str × Addr)) (fp : List Addr), PG (X.blk s H scope (compEnvC scope cl C X.env) fp) tg g) (ht : ∀ (s : Shared) (H : Hp) (C : Addr) (cl : List (Str × Addr)) (fp : List Addr), PTs (X.blk s H scope (compEnvC scope cl C X.env) fp) ifs tt)
    (hk : ∀ (s : Shared) (H : Hp) (C : Addr) (cl : List (Str × Addr)) (fp : List Addr), PE (X.blk s H scope (compEnvC scope cl C X.env) fp) kx tk)
    (he : ∀ (s : Shared) (H : Hp) (C : Addr) (cl : List (Str × Addr)) (fp : List Addr), PE (X.blk s H scope (compEnvC scope cl C X.env) fp) vx tv) (hs : ∀ x, foldedSetIterable iter X.env x = pure x) :
    PS X (.Assign [.Name y py] (.DictComp kx vx [⟨tg, iter, ifs, 0⟩] scope pos) spos) (tAsg (tLk (tLn wi g tt (own.map (·.2)) (fun _ => .dK []) (emD tk tv) [])) (L2.gName i)) := by
  refine ⟨fun pins s σ H D I h => ?_⟩
  rw [exec_Assign_Name_used _ _ _ _ hsw]
  refine wpAny_bind (wpAny_standAt (wpAny_bind ?_))
  show wpAny _ X.A (do let _ ← comprehension (.DictComp kx vx [⟨tg, iter, ifs, 0⟩] scope pos) scope X.env (firstIterPos [⟨tg, iter, ifs, 0⟩] pos) newDict false (eval iter X.env) (some (assign (.Name y py) X.env))) _ _ s
  have h : tLn wi g tt (own.map (·.2)) (fun _ => .dK []) (emD tk tv) [] σ H (fun v H' => ∃ a, v = .ref a ∧ (((∃ xs, H' a = some (.lst xs)) ∧ L2.gName i v σ H' D.nx) ∨ ∃ kvs, H' a = some (.dK kvs) ∧ ∀ od, L2.gName i v σ (upd H' a (.frz od (.dK kvs))) D.nx)) := h
  refine wpAny_bind (thn (comp_core (Qf := fun _ s' => SP X pins D .next s') (kd_dict kx vx _ scope pos) (fun s Q E q => wpAny_newObj_type q) (fun H h hb => dk_empty h hb) hc hN I hi ok (vs' := []) (fun _ z => nomatch z) hg ht (fun L s H C cl fp => emD_ok (hk s H C cl fp) (he s H C cl fp) rfl) hs (fun s H C cl fp => .nil) h fun L C s' m H' I' q hn f => ?_) fun _ s' hq => wpAny_pure (wpAny_pure hq))
  show wpAny _ _ (assign (.Name y py) X.env (.ref L)) _ _ _
  obtain ⟨a, ea, q⟩ := q
  cases ea
  have key : ∃ H'', Inv X pins σ H'' s' ∧ FpOk X pins H'' C ∧ L2.gName i (.ref L) σ H'' D.nx := by
    rcases q with ⟨_, q⟩ | ⟨kvs, e1, q⟩
    · exact ⟨H', I', f, q⟩
    · obtain ⟨od, I2⟩ := Inv.lock I' e1 True.intro
      refine ⟨_, I2, ?_, q od⟩
      obtain ⟨f0, fr⟩ := f
      exact ⟨by rw [upd_ne (fun z => by rw [z, e1] at f0; cases f0)]; exact f0, fr⟩
  obtain ⟨H'', I'', f'', q''⟩ := key
  refine wpAny_assign_Name (store_ok2 (v := V.ref L) I'' hN hy (.inl hyl) rfl (fun s2 I2 ⟨a, sb, ha⟩ => ?_) (.inr hyl))
  obtain ⟨f0, f1, f2, f3, f4, f5⟩ := f''
  have haC : C ≠ a := by
    rcases ha with z | z
    · rw [z]; exact f1
    · exact fun e => f4 y a z e.symm
  refine ⟨m, hn.sameBut sb haC, fun h3 sb3 => ?_⟩
  exact ⟨_, H'', I2.turned (t' := s2.toks) (fun b o hb e => (sb3.2 b hb).trans e) f0 f1 f3 f4 f5, q''⟩
end
/-! ### on data -/
def dcGo (G : FG) (t : FT) (k v : FE) (ρ : Ren) : List D → List (Key × D) → (List (Key × D) → Prop) → Prop
  | [], acc, R => R acc
  | d :: r, acc, R => G d ρ fun ρ' => t ρ' fun b => if b = true then k ρ' fun x => (match x.key with
      | some q => v ρ' fun y => acc.length < 16777216 ∧ dcGo G t k v ρ r (putK acc q y) R
      | none => False) else dcGo G t k v ρ r acc R
def eDc (wi : FI) (G : FG) (t : FT) (k v : FE) (own : List Nat) : FE := fun ρ R => wi ρ fun items => dcGo G t k v (wipe ρ own) items [] fun l => R (.dct l)
section
variable {K : PySem.W.Frag} {O : Nat → Bool} {L : Addr}
theorem dc_sem {rr : Bool} {wi : TI} {g : TG} {tt : TT} {tk tv : TE} {fi : FI} {G : FG} {ft : FT} {fk fv : FE} {vs S : List Nat} (hS : ∀ i ∈ S, i ∈ vs)
    (gw : ∀ M π (own : Own) (σ : L2.St) H ρ (R : List D → Prop) (Q : It → Hp → Prop), EnvOk K M π O own σ H ρ → fi ρ R → (∀ l J H1, Keep π H H1 → WalkD rr K (isPl π) (Bar M own) π H1 l J → R l → Q J H1) → wi σ H Q)
    (gg : ∀ M π (own : Own) (σ : L2.St) H ρ d v (R : Ren → Prop) (Q : L2.St → Hp → Prop), EnvOk K M π O own σ H ρ → RepI rr K (Bar M own) π H d v → G d ρ R →
      (∀ σ' ρ', EnvOk K M π O own σ' H ρ' → (∀ vs, (∀ i ∈ S, i ∈ vs) → L2.wipe σ' vs = L2.wipe σ vs) → R ρ' → Q σ' H) → g v σ H Q)
    (gt : SemT K O tt ft) (gk : SemE K O tk fk) (gv : SemE K O tv fv) : SemF K O (tLn wi g tt vs (fun _ => .dK []) (emD tk tv) []) (eDc fi G ft fk fv vs) := by
  intro M π own σ H ρ R Q x hf hq
  have hsz : sizeLine = 16777216 := sizeLine_eq
  refine gw M π own σ H ρ _ _ x hf fun items J H1 k1 hw hgo L hL => ?_
  have x1 := x.keep k1
  have nL : ∀ a o, H1 a = some o → a ≠ L := fun a o q z => by rw [z, hL] at q; cases q
  have hp : ∀ p, π = some p → p.1 ≠ L ∧ p.2 ≠ L := fun p e => by
    obtain ⟨_, _, _, _, _, e1, e2, _⟩ := (x1.pool p e).2
    exact ⟨nL _ _ e1, nL _ _ e2⟩
  have npl : ¬ isPl π L := fun ⟨l, z⟩ => (hp _ z).1 rfl
  have xL := x1.newD (o := .dK []) hL
  obtain ⟨Gw, Y, w, gw, yw⟩ := hw
  have hh : ∀ H, KeepB π (· = L) (upd H1 L (.dK [])) H → Hold (isPl π) H1 H := fun H kb a o q nb => kb.keep a o (same_upd hL a o q) (nL a o q) nb
  have hN : ∀ a, Bar (fun a => M a ∨ a = L) own a → Bar M own a ∨ H1 a = none := fun a z => by
    rcases z with (z | z) | z
    · exact .inl (.inl z)
    · exact .inr (z ▸ hL)
    · exact .inl (.inr z)
  show tLp J g tt vs (emD tk tv L) σ (upd H1 L (.dK [])) fun H2 => Q (.ref L) H2
  refine lp_it w (fun i H => ∃ (l : List (Key × D)) (kvs : List (L2.Key × V)), KeepB π (· = L) (upd H1 L (.dK [])) H ∧ H L = some (.dK kvs) ∧ RepK K (Bar (fun a => M a ∨ a = L) own) π H l kvs ∧ EnvOk K (fun a => M a ∨ a = L) π O own σ H ρ ∧ dcGo G ft fk fv (Fn.wipe ρ vs) (items.drop i) l fun l' => R (.dct l')) ?_ ?_ ?_ ?_
  · exact ⟨[], [], ⟨fun a o q _ _ => q, fun p e => (xL.pool p e).2⟩, upd_same, rfl, xL, by simpa using hgo⟩
  · intro i H hi ⟨l, kvs, kb, _⟩
    exact gw H (hh H kb)
  · intro i y H H' hi ⟨l, kvs, kb, hA, ra, xe, hg⟩ hy
    obtain ⟨k2, d, ed, rd⟩ := yw i H y H' hi (hh H kb) (fun p e => (xe.pool p e).2) hy
    have x2 := xe.keep k2
    have hdrop : items.drop i = d :: items.drop (i + 1) := by
      obtain ⟨h1, h2⟩ := List.getElem?_eq_some_iff.mp ed
      rw [← h2]
      exact List.drop_eq_getElem_cons h1
    rw [hdrop] at hg
    have rdd : RepI rr K (Bar (fun a => M a ∨ a = L) own) π H' d y := rd _ fun a z => ⟨hN a z, xe.ctx.alloc a z⟩
    unfold dcGo at hg
    refine gg _ π own _ H' _ d y _ _ (x2.wipe vs) rdd hg fun σ2 ρ2 x3 hws ht => ⟨?_, ?_⟩
    · rw [hws vs hS]
      exact wipe_idem
    refine gt _ π own σ2 H' ρ2 _ _ x3 ht fun b H3 k3 hb => ?_
    have kb3 := kb.trans ((k2.trans k3).toB)
    have hA3 : H3 L = some (.dK kvs) := (k2.trans k3).same _ _ hA npl
    have ra3 := (ra.keep xe.ctx k2).keep x2.ctx k3
    have x3' := (xe.keep k2).keep k3
    cases b with
    | false =>
      rw [if_neg Bool.false_ne_true] at hb ⊢
      exact ⟨l, kvs, kb3, hA3, ra3, x3', hb⟩
    | true =>
      rw [if_pos rfl] at hb ⊢
      refine gk _ π own σ2 H3 ρ2 _ _ (x3.keep k3) hb fun dk vk H4 k4 r4 h4 => ?_
      cases hkey : dk.key with
      | none => rw [hkey] at h4; exact h4.elim
      | some key =>
        rw [hkey] at h4
        have x4 := (x3.keep k3).keep k4
        refine gv _ π own σ2 H4 ρ2 _ _ x4 h4 fun dv vv H5 k5 r5 h5 => ?_
        have k45 := k4.trans k5
        have hA5 : H5 L = some (.dK kvs) := k45.same _ _ hA3 npl
        have ra5 := ra3.keep x3'.ctx k45
        have x5 := x3'.keep k45
        have hlen := repK_len ra5
        refine ⟨kvs, key, key_vR hkey r4, hA5, by omega, _, _, ⟨fun a o q n z => ?_, fun p e => (x5.pool p e).2.other (hp p e).1 (hp p e).2⟩, upd_same, ?_, x5.put (.inr rfl) hp, h5.2⟩
        · rw [upd_ne n]
          exact k45.same a o (kb3.keep a o q n z) z
        · exact RepK.hold (hold_upd2 (.inl (.inr rfl))) (fun _ z => .inl z) _ _ (repK_put ra5 r5)
  · intro H ⟨l, kvs, kb, hA, ra, xe, hg⟩
    rw [List.drop_length] at hg
    refine hq (.dct l) L H (k1.trans ⟨fun a o q n => kb.keep a o (same_upd hL a o q) (nL a o q) n, kb.pool⟩) (x.ctx.noneOf k1 hL) ⟨kvs, hA, RepK.hold (Hold.refl _ _) (fun a z => .inl ?_) _ _ ra⟩ hg
    rcases z with (z | z) | z
    · exact .inl (.inl z)
    · exact .inr z
    · exact .inl (.inr z)
end
section
variable {F : Fam} {O : Nat → Bool} {pos : Pos}
theorem vf_dcN {rb : Bool} {kx vx tg iter : Expr} {ifs : List Expr} {scope : Scope} {own : List (Str × Nat)} {fi : FI} {G : FG} {ft : FT} {fk fv : FE} {S : List Nat} (hN : F.N.Nodup) (hi : VIR F O rb tg iter fi) (ok : ∀ i, BlkOk F.N (F.X i).env.scope scope own)
    (hg : VG (F.blk scope) O rb tg S G) (hS : ∀ i ∈ S, i ∈ own.map (·.2)) (ht : VTs (F.blk scope) O ifs ft) (hk : VE (F.blk scope) O kx fk) (hv : VE (F.blk scope) O vx fv) (hs : ∀ i x, foldedSetIterable iter (F.X i).env x = pure x := by intro _ _; rfl)
    (hne : firstAsync [⟨tg, iter, ifs, 0⟩] = false := by rfl) : VF F O (.DictComp kx vx [⟨tg, iter, ifs, 0⟩] scope pos) (eDc fi G ft fk fv (own.map (·.2))) := by
  obtain ⟨wi, pw, gw⟩ := hi
  obtain ⟨g, pg, gg⟩ := hg
  obtain ⟨tt, pt, gt⟩ := ht
  obtain ⟨tk, pk, gk⟩ := hk
  obtain ⟨tv, pv, gv⟩ := hv
  exact ⟨_, fun i => pe_dcN (F.calm i) (by rw [F.hN i]; exact hN) (pw i) (by rw [F.hN i]; exact ok i) (fun s H C cl fp => pg (i, s, H, C, cl, fp)) (fun s H C cl fp => pt (i, s, H, C, cl, fp)) (fun s H C cl fp => pk (i, s, H, C, cl, fp)) (fun s H C cl fp => pv (i, s, H, C, cl, fp)) (hs i) hne, dc_sem hS gw gg gt gk gv⟩
theorem vs_setDc {rb : Bool} (j : Nat) {y : Str} {py p : Pos} {kx vx tg iter : Expr} {ifs : List Expr} {scope : Scope} {own : List (Str × Nat)} {fi : FI} {G : FG} {ft : FT} {fk fv : FE} {S : List Nat} (hN : F.N.Nodup) (hi : VIR F O rb tg iter fi) (ok : ∀ i, BlkOk F.N (F.X i).env.scope scope own)
    (hg : VG (F.blk scope) O rb tg S G) (hS : ∀ i ∈ S, i ∈ own.map (·.2)) (ht : VTs (F.blk scope) O ifs ft) (hk : VE (F.blk scope) O kx fk) (hv : VE (F.blk scope) O vx fv) (hj : F.N[j]? = some y := by rfl) (hO : O j = false := by rfl) (hyl : ∀ i, (F.X i).env.scope.names.lookup y = some .local := by intro _; rfl)
    (hsw : ∀ i, swapsWith (.DictComp kx vx [⟨tg, iter, ifs, 0⟩] scope p) (some (.Name y py)) pos.line (F.X i).env = pure true := by intro _; rfl) (hs : ∀ i x, foldedSetIterable iter (F.X i).env x = pure x := by intro _ _; rfl) :
    VS F O (.Assign [.Name y py] (.DictComp kx vx [⟨tg, iter, ifs, 0⟩] scope p) pos) (sSet j (eDc fi G ft fk fv (own.map (·.2)))) := by
  obtain ⟨wi, pw, gw⟩ := hi
  obtain ⟨g, pg, gg⟩ := hg
  obtain ⟨tt, pt, gt⟩ := ht
  obtain ⟨tk, pk, gk⟩ := hk
  obtain ⟨tv, pv, gv⟩ := hv
  refine ⟨_, fun i => ps_setDcN (F.calm i) (by rw [F.hN i]; exact hN) (by rw [F.hN i]; exact hj) (hyl i) (hsw i) (pw i) (by rw [F.hN i]; exact ok i) (fun s H C cl fp => pg (i, s, H, C, cl, fp)) (fun s H C cl fp => pt (i, s, H, C, cl, fp)) (fun s H C cl fp => pk (i, s, H, C, cl, fp)) (fun s H C cl fp => pv (i, s, H, C, cl, fp)) (hs i), fun M π H0 B own' σ H ρ P D x fr hf hd => ?_⟩
  exact (dc_sem (O := O) hS gw gg gt gk gv).toE M π own' σ H ρ _ _ x hf fun d v H1 k1 r1 h1 => hd.nx own' _ H1 _ ((x.keep k1).set hO r1) (fr.step k1) h1
end
end Fn
end P_FN
section P_FM
set_option maxHeartbeats 1000000
/-! Further rules: list(d), list(range), tuple(range), x += e, d.get, d[k] = v, xs.pop, max and min. -/
namespace Fn
open PySem PySem.Spec PyProof.Rows L2
/-! ### list(x) of lists, tuples, dicts -/
def fListA : GA := fun l R => match l with
  | [.tup l] => R (.lst l)
  | [.lst l] => R (.lst l)
  | [.dct l] => R (.lst (l.map fun kv => keyD kv.1))
  | _ => False
theorem repK_keys {K : PySem.W.Frag} {N : Addr → Prop} {π : Pi} {H : Hp} : ∀ {l : List (Key × D)} {ms : List (L2.Key × V)}, RepK K N π H l ms → RepL K N π H (l.map fun kv => keyD kv.1) (ms.map fun kv => kV kv.1)
  | [], _, h => by cases h; rfl
  | (k, d) :: r, _, ⟨q, qs, e, ⟨h1, h2⟩, h3⟩ => by
    subst e
    exact ⟨_, _, rfl, by dsimp only; rw [h1]; exact rep_key _, repK_keys h3⟩
theorem cd_listA {F : Fam} : CallD F (.type "list") fListA := by
  refine ⟨_, fun i => (by rw [← F.hK i]; exact call_list_of : CallR (F.X i) (.type "list") (fun xs H Q => ∃ p ys, xs = [.ref p] ∧ (SqL F.K H p ys ∨ SqT F.K H p ys) ∧ ∀ l, H l = none → Q (.ref l) (upd H l (.lst ys)))).or (call_listD (F.calm i)), fun N π H l xs R Q c r h hq => ?_⟩
  match l, h with
  | [.tup l], h =>
    obtain ⟨v, e, r⟩ := repOL1 r
    obtain ⟨a, ys, e2, s, r2⟩ := r.tup
    subst e e2
    exact .inl ⟨a, ys, rfl, .inr s, fun q nq => hq (.lst l) _ _ (c.keepNew nq) (Rep.newL r2 nq c.alloc) h⟩
  | [.lst l], h =>
    obtain ⟨v, e, r⟩ := repOL1 r
    obtain ⟨a, ys, e2, s, r2⟩ := r.lst
    subst e e2
    exact .inl ⟨a, ys, rfl, .inl (SqL.of s), fun q nq => hq (.lst l) _ _ (c.keepNew nq) (Rep.newL r2 nq c.alloc) h⟩
  | [.dct l], h =>
    obtain ⟨v, e, r⟩ := repOL1 r
    obtain ⟨a, kvs, e2, _, s, r2⟩ := r
    subst e e2
    exact .inr ⟨a, kvs, rfl, s, fun q nq => hq (.lst _) _ _ (c.keepNew nq) (Rep.newL (repK_keys r2) nq c.alloc) h⟩
/-! ### list(range(..)), tuple(range(..)) -/
theorem rep_rng {K : PySem.W.Frag} {N : Addr → Prop} {π : Pi} {H : Hp} {a b : Int} : RepL K N π H (rng a (b - a).toNat) (rgV a b) := by
  unfold rng rgV
  generalize List.range (b - a).toNat = l
  induction l with
  | nil => rfl
  | cons x r ih => exact ⟨_, _, rfl, rfl, ih⟩
def VRg (F : Fam) (O : Nat → Bool) (e : Expr) (f : FI) : Prop := ∃ t : L2.St → Hp → (Int → Int → Hp → Prop) → Prop, (∀ i, PRg (F.X i) e t) ∧ ∀ M π (own : Own) (σ : L2.St) H ρ (R : List D → Prop) (Q : Int → Int → Hp → Prop), EnvOk F.K M π O own σ H ρ → f ρ R →
  (∀ a b H', Keep π H H' → RgOk a b → R (rng a (b - a).toNat) → Q a b H') → t σ H Q
def rgOk1 (a : FE) : FI := fun ρ R => a ρ fun x => match x with
  | .int j => (-(2 ^ 62) ≤ j ∧ j ≤ 16777216) ∧ R (rng 0 j.toNat)
  | _ => False
def rgOk2 (a b : FE) : FI := fun ρ R => a ρ fun x => b ρ fun y => match x, y with
  | .int i, .int j => (-(2 ^ 62) ≤ i ∧ i < 2 ^ 62 ∧ -(2 ^ 62) ≤ j ∧ j < 2 ^ 62 ∧ j - i ≤ 16777216) ∧ R (rng i (j - i).toNat)
  | _, _ => False
section
variable {F : Fam} {O : Nat → Bool} {e a b c : Expr} {es : List Expr} {f fa fb fc : FE} {fi : FI} {pos p p2 p3 apos cpos : Pos}
theorem vrg_1 (hm : F.mg "range" = none) (ha : VR F O a fa) (hg : ∀ i, Gl (F.X i) "range" := by intro _; rfl) (na : ∀ i, starEach [a] (F.X i).env = (false, eval a (F.X i).env) :: starEach [] (F.X i).env := by intro _; rfl) : VRg F O (.Call (.Name "range" p) [a] [] pos) (rgOk1 fa) := by
  obtain ⟨t, pt, g⟩ := ha
  refine ⟨_, fun i => prg_1 (hg i) (by rw [F.hmg i]; exact hm) (pt i) (na i), fun M π own σ H ρ R Q x hf hq => ?_⟩
  refine g M π own σ H ρ _ _ x hf fun d v H1 k1 r1 h1 => ?_
  cases d with
  | int j =>
    obtain ⟨⟨h2, h3⟩, h4⟩ := h1
    exact ⟨j, r1, hq 0 j H1 k1 ⟨by omega, by omega, h2, by omega, by omega⟩ (by simpa using h4)⟩
  | _ => exact h1.elim
theorem vrg_2 (hm : F.mg "range" = none) (ha : VR F O a fa) (hb : VR F O b fb) (hg : ∀ i, Gl (F.X i) "range" := by intro _; rfl) (na : ∀ i, starEach [a, b] (F.X i).env = (false, eval a (F.X i).env) :: starEach [b] (F.X i).env := by intro _; rfl)
    (nb : ∀ i, starEach [b] (F.X i).env = (false, eval b (F.X i).env) :: starEach [] (F.X i).env := by intro _; rfl) (hp : ∀ i, (backTo pos (starEach [b] (F.X i).env)).any (·.1) = false := by intro _; rfl) : VRg F O (.Call (.Name "range" p) [a, b] [] pos) (rgOk2 fa fb) := by
  obtain ⟨t, pt, g⟩ := ha
  obtain ⟨u, pu, g2⟩ := hb
  refine ⟨_, fun i => prg_2 (hg i) (by rw [F.hmg i]; exact hm) (pt i) (pu i) (na i) (nb i) (hp i), fun M π own σ H ρ R Q x hf hq => ?_⟩
  refine g M π own σ H ρ _ _ x hf fun d v H1 k1 r1 h1 => ?_
  refine g2 M π own σ H1 ρ _ _ (x.keep k1) h1 fun d2 v2 H2 k2 r2 h2 => ?_
  cases d with
  | int i => cases d2 with
    | int j =>
      obtain ⟨⟨h3, h4, h5, h6, h7⟩, h8⟩ := h2
      exact ⟨i, j, r1, r2, hq i j H2 (k1.trans k2) ⟨h3, h4, h5, h6, by omega⟩ h8⟩
    | _ => exact h2.elim
  | _ => exact h2.elim
def eOfI (fi : FI) (k : List D → D) : FE := fun ρ R => fi ρ fun l => R (k l)
theorem vf_listRg (hm : F.mg "list" = none) (he : VRg F O e fi) (hg : ∀ i, Gl (F.X i) "list" := by intro _; rfl) (na : ∀ i, starEach [e] (F.X i).env = (false, eval e (F.X i).env) :: starEach [] (F.X i).env := by intro _; rfl) : VF F O (.Call (.Name "list" p) [e] [] pos) (eOfI fi .lst) := by
  obtain ⟨t, pt, g⟩ := he
  refine ⟨_, fun i => pe_listRg (F.calm i) (hg i) (by rw [F.hmg i]; exact hm) (pt i) (na i), fun M π own σ H ρ R Q x hf hq => ?_⟩
  refine g M π own σ H ρ _ _ x hf fun i j H1 k1 ok h1 => ⟨ok, fun q nq => ?_⟩
  exact hq (.lst _) q _ (k1.trans ((x.keep k1).ctx.keepNew nq)) (x.ctx.noneOf k1 nq) ⟨_, upd_same, rep_rng⟩ h1
def tTupRgF (te : L2.St → Hp → (Int → Int → Hp → Prop) → Prop) : TE := fun σ H Q => te σ H fun a b H1 => RgOk a b ∧ ∀ q ob, H1 q = none → ob.dict = none → Q (.ref q) (upd H1 q (.frz ob (.tup (rgV a b))))
theorem pe_tupRgF {X : Cx} {te : L2.St → Hp → (Int → Int → Hp → Prop) → Prop} (hc : X.calm = true) (hg : Gl X "tuple") (hm : X.mg "tuple" = none) (he : PRg X e te) (na : starEach [e] X.env = (false, eval e X.env) :: starEach [] X.env := by rfl) : PE X (.Call (.Name "tuple" p) [e] [] pos) (tTupRgF te) := by
  refine ⟨fun pins s σ H Q I h => ?_⟩
  refine Call_ (ld_blt I hg hm boot_tuple (PyProof.Rows.callWith_type1 (args_cons (thn (he pins s σ H _ I h) ?_) na) na))
  rintro x s1 ⟨r, i, j, t, u, v, H1, rfl, hr, I1, ⟨b1, b2, b3, b4, b5⟩, q⟩
  refine args_nil ?_
  refine call_tuple_range (n := (j - i).toNat) (I1.ok.hd hc) hr (small_one b1 b2 b3 b4) (rangeSize_nat i j) b5 fun h' tk acc hk hi => ?_
  have I2 : Inv X pins σ H1 { s1 with heap := h', toks := tk } := I1.kept hk
  have I3 := laidF (xs := rgV i j) (its := acc.toList) I2 (by rw [rgV_length, sizeLine_eq]; omega) (vals_rg hi)
  rw [Array.toArray_toList] at I3
  exact ⟨.ref h'.objs.size, _, I3, rfl, q _ _ I2.fresh rfl⟩
theorem ve_tupRg (hm : F.mg "tuple" = none) (he : VRg F O e fi) (hg : ∀ i, Gl (F.X i) "tuple" := by intro _; rfl) (na : ∀ i, starEach [e] (F.X i).env = (false, eval e (F.X i).env) :: starEach [] (F.X i).env := by intro _; rfl) : VE F O (.Call (.Name "tuple" p) [e] [] pos) (eOfI fi .tup) := by
  obtain ⟨t, pt, g⟩ := he
  refine ⟨_, fun i => pe_tupRgF (F.calm i) (hg i) (by rw [F.hmg i]; exact hm) (pt i) (na i), fun M π own σ H ρ R Q x hf hq => ?_⟩
  refine g M π own σ H ρ _ _ x hf fun i j H1 k1 ok h1 => ⟨ok, fun q ob nq nd => ?_⟩
  exact hq (.tup _) _ _ (k1.trans ((x.keep k1).ctx.keepNew nq)) (Rep.newT rep_rng nq nd (x.keep k1).ctx.alloc) h1
/-! ### d.get(k) -/
def eGet (a k : FE) : FE := fun ρ R => a ρ fun x => match x with
  | .dct l => k ρ fun y => (match y.key with
    | some q => R ((lookK q l).getD .non)
    | none => False)
  | _ => False
theorem ve_get1 (ha : VR F O a fa) (hb : VR F O b fb) (m : ∀ i, M1 (F.X i) a "get" apos b cpos := by intro _; exact ⟨rfl, rfl, rfl, rfl⟩) : VE F O (.Call (.Attribute a "get" apos) [b] [] cpos) (eGet fa fb) := by
  obtain ⟨t, pt, g⟩ := ha
  obtain ⟨u, pu, g2⟩ := hb
  refine ⟨_, fun i => pe_dget1 (by have := F.units i; omega) (pt i) (pu i) (m i), fun M π own σ H ρ R Q x hf hq => ?_⟩
  refine g M π own σ H ρ _ _ x hf fun d v H1 k1 r1 h1 => ?_
  have x1 := x.keep k1
  cases d with
  | dct l =>
    obtain ⟨c, ms, e, nc, hc, rk⟩ := r1
    refine ⟨c, e, .inl ⟨ms, hc⟩, ?_⟩
    refine g2 M π own σ H1 ρ _ _ x1 h1 fun d2 v2 H2 k2 r2 h2 => ?_
    have hc2 : Rd H2 c (.dK ms) := rd_hold (fun o q => k2.same c o q nc) hc
    have rk2 := rk.keep x1.ctx k2
    cases hk : d2.key with
    | none => rw [hk] at h2; exact h2.elim
    | some q =>
      rw [hk] at h2
      dsimp only at h2
      have ek := key_v hk r2
      obtain ⟨i1, i2⟩ := repK_look q l ms rk2
      refine ⟨valV ms q, .inl ⟨ms, q, hc2, ek, rfl⟩, ?_⟩
      cases z : lookK q l with
      | none =>
        rw [z] at h2
        rw [i1 z]
        exact hq .non _ H2 (k1.trans k2) rfl h2
      | some d3 =>
        rw [z] at h2
        obtain ⟨w, e3, r3⟩ := i2 d3 z
        rw [e3]
        exact hq d3 _ H2 (k1.trans k2) r3 h2
  | _ => exact h1.elim
/-! ### x += e of ints -/
def sAug (j : Nat) (e : FE) : FS := fun P ρ => eVar j ρ fun x => e ρ fun y => match x, y with
  | .int i, .int k => P.nx (ρ.set j (some (.int (i + k))))
  | _, _ => False
theorem vs_aug (j : Nat) {y : Str} (hN : F.N.Nodup) (he : VR F O e f) (hj : F.N[j]? = some y := by rfl) (hO : O j = false := by rfl) (hx : ∀ i, Loc (F.X i).env.scope y := by intro _; first | exact Or.inl rfl | exact Or.inr rfl) (hf : ∀ i, (F.X i).fn y = true ∨ (F.X i).env.scope.names.lookup y = some .local := by intro _; first | exact Or.inl rfl | exact Or.inr rfl) :
    VS F O (.AugAssign (.Name y p2) .Add e pos) (sAug j f) := by
  obtain ⟨t, pt, g⟩ := he
  refine ⟨_, fun i => ps_aug (by rw [F.hN i]; exact hN) (by rw [F.hN i]; exact hj) (hx i) (pt i) ip_add (hf i), fun M π H0 B own σ H ρ P D x fr h hd => ?_⟩
  unfold sAug eVar at h
  split at h
  · rename_i d e0
    obtain ⟨v, e1, h1⟩ := x.slot j d e0
    rw [if_neg (by rw [hO]; decide)] at h1
    refine ⟨v, e1, g M π own σ H ρ _ _ x h fun d2 v2 H2 k2 r2 h2 => ?_⟩
    cases d with
    | int i => cases d2 with
      | int k =>
        cases h1
        cases r2
        exact ⟨i, k, rfl, rfl, hd.nx own _ H2 _ ((x.keep k2).set (d := .int (i + k)) hO rfl) (fr.step k2) h2⟩
      | _ => exact h2.elim
    | _ => exact h2.elim
  · exact h.elim
/-! ### d[k] = v, d one's own dict; xs[i] = v, xs one's own list -/
def sPutD (i : Nat) (k e : FE) : FS := fun P ρ => e ρ fun d => match ρ[i]? with
  | some (some (.dct l)) => k ρ fun j => (match j.key with
    | some q => l.length < 16777216 ∧ P.nx (ρ.set i (some (.dct (putK l q d))))
    | none => False)
  | _ => False
theorem vs_putD (j : Nat) {y : Str} (he : VE F O e f) (ha : VR F O a fa) (hO : O j = true := by rfl) (hN : ∀ i, (F.X i).N[j]? = some y := by intro _; rfl) (hv : ∀ i, Vis (F.X i).env.scope y := by intro _; first | exact Or.inl rfl | exact Or.inr (Or.inl rfl) | exact Or.inr (Or.inr rfl))
    (hd0 : (y == ("__debug__" : Str)) = false := by decide) (hcd : (y == ("__classdict__" : Str)) = false := by decide)
    (hs : ∀ i, swapsWith e (some (.Subscript (.Name y p2) a p3)) pos.line (F.X i).env = pure false := by intro _; rfl) : VS F O (.Assign [.Subscript (.Name y p2) a p3] e pos) (sPutD j fa f) := by
  obtain ⟨t, pt, g⟩ := he
  obtain ⟨u, pu, gu⟩ := ha
  refine ⟨_, fun i => ps_dput (by have := F.units i; omega) (pe_var (hN i) (hv i) hd0 hcd) (pu i) (pt i) (hs i), fun M π H0 B own σ H ρ P D x fr hf hd => ?_⟩
  refine g M π own σ H ρ _ _ x hf fun d v H1 k1 r1 h1 => ?_
  have x1 := x.keep k1
  split at h1
  · rename_i l e0
    obtain ⟨w, e1, hw⟩ := x1.slot j _ e0
    rw [if_pos hO] at hw
    obtain ⟨c, e2, e3, ms, hc, rk⟩ := hw
    subst e3
    refine ⟨_, e1, gu M π own σ H1 ρ _ _ x1 h1 fun d2 v2 H2 k2 r2 h2 => ?_⟩
    have x2 := x1.keep k2
    cases hk : d2.key with
    | none => rw [hk] at h2; exact h2.elim
    | some q =>
      rw [hk] at h2
      have ek := key_v hk r2
      subst ek
      have hc2 : H2 c = some (.dK ms) := k2.same _ _ hc (x1.notpool e2)
      have hlen := repK_len rk
      refine ⟨c, _, rfl, DPut.k hc2 (by rw [hlen, sizeLine_eq]; exact h2.1), ?_⟩
      have x3 := x2.putO (u := .dK (L2.putK ms q v)) e2 e0 (d := .dct (Fn.putK l q d)) ⟨_, upd_same, RepK.hold (hold_upd2 (.inr ⟨j, e2⟩)) (fun _ z => .inl z) _ _ (repK_put (rk.keep x1.ctx k2) (r1.keep x1.ctx k2))⟩
      exact hd.nx own σ _ _ x3 (((fr.step k1).step k2).putO e2 fun p e => (x3.pool p e).2) h2.2
  · exact h1.elim
end
end Fn
end P_FM
section P_FK
set_option maxHeartbeats 1000000
/-! xs.pop() and xs.pop(i), xs one's own list; max and min; tuple * int; extend by a tuple; new slices; an own list that is left alone from here on. -/
namespace Fn
open PySem PySem.Spec PyProof.Rows L2
/-- an expression that changes one's own list -/
abbrev FX := Ren → (D → Ren → Prop) → Prop
def SemX (K : PySem.W.Frag) (O : Nat → Bool) (t : TE) (f : FX) : Prop := ∀ M π (own : Own) (σ : L2.St) H ρ (R : D → Ren → Prop) (Q : VK), EnvOk K M π O own σ H ρ → f ρ R →
  (∀ d v H' ρ', EnvOk K M π O own σ H' ρ' → (∀ H0 B, Fr0 M π H0 B own H → Fr0 M π H0 B own H') → Rep K (Bar M own) π H' d v → R d ρ' → Q v H') → t σ H Q
def VX (F : Fam) (O : Nat → Bool) (e : Expr) (f : FX) : Prop := ∃ t : TE, (∀ i, PE (F.X i) e t) ∧ SemX F.K O t f
/-- xs.pop() -/
def xPop (j : Nat) : FX := fun ρ R => match ρ[j]? with
  | some (some (.lst l)) => (match l.getLast? with
    | some d => R d (ρ.set j (some (.lst l.dropLast)))
    | none => False)
  | _ => False
/-- xs.pop(i) -/
def xPopAt (j : Nat) (e : FE) : FX := fun ρ R => match ρ[j]? with
  | some (some (.lst l)) => e ρ fun y => (match y with
    | .int i => (0 ≤ i ∧ i < 16777216) ∧ (match l[i.toNat]? with
      | some d => R d (ρ.set j (some (.lst (l.eraseIdx i.toNat))))
      | none => False)
    | _ => False)
  | _ => False
def sAsgX (e : FX) (G : FG) : FS := fun P ρ => e ρ fun d ρ' => G d ρ' P.nx
theorem repL_dropLast {K : PySem.W.Frag} {N : Addr → Prop} {π : Pi} {H : Hp} {l : List D} {xs : List V} (r : RepL K N π H l xs) : RepL K N π H l.dropLast xs.dropLast := by
  rw [List.dropLast_eq_take, List.dropLast_eq_take, r.length]
  exact r.take _
theorem repL_erase {K : PySem.W.Frag} {N : Addr → Prop} {π : Pi} {H : Hp} {l : List D} {xs : List V} (i : Nat) (r : RepL K N π H l xs) : RepL K N π H (l.eraseIdx i) (xs.eraseIdx i) := by
  rw [List.eraseIdx_eq_take_drop_succ, List.eraseIdx_eq_take_drop_succ]
  exact (r.take _).append (r.drop _)
section
variable {F : Fam} {O : Nat → Bool} {e a b c : Expr} {es : List Expr} {f fa fb fc : FE} {pos p p2 p3 apos cpos c' : Pos}
theorem vx_pop (j : Nat) {y : Str} (hO : O j = true := by rfl) (hN : ∀ i, (F.X i).N[j]? = some y := by intro _; rfl) (hv : ∀ i, Vis (F.X i).env.scope y := by intro _; first | exact Or.inl rfl | exact Or.inr (Or.inl rfl) | exact Or.inr (Or.inr rfl))
    (hd : (y == ("__debug__" : Str)) = false := by decide) (hcd : (y == ("__classdict__" : Str)) = false := by decide)
    (hbase : ∀ i, attributeBase (.Name y p2) "pop" (F.X i).env (eval (.Name y p2) (F.X i).env) = eval (.Name y p2) (F.X i).env := by intro _; rfl) (hline : (p3.endLine == p.line) = true := by rfl) :
    VX F O (.Call (.Attribute (.Name y p2) "pop" p3) [] [] p) (xPop j) := by
  refine ⟨tBM0 F.K "list" L2.rPop (tVar j), fun i => by rw [← F.hK i]; exact pe_bm0 PySem.F.plainAttrs_list PySem.F.slot_list_pop PySem.F.type_list_pop mt_pop (pe_var (hN i) (hv i) hd hcd) (hbase i) hline, fun M π own σ H ρ R Q x hf hq => ?_⟩
  unfold xPop at hf
  split at hf
  · rename_i l e0
    obtain ⟨v, e1, h1⟩ := x.slot j _ e0
    rw [if_pos hO] at h1
    obtain ⟨a, e2, e3, xs, q, r⟩ := h1
    subst e3
    have hlen := r.length
    cases hl : l.getLast? with
    | none => rw [hl] at hf; exact hf.elim
    | some d =>
      rw [hl] at hf
      rw [List.getLast?_eq_getElem?] at hl
      obtain ⟨w, ew, rw'⟩ := r.get hl
      refine ⟨.ref a, e1, .inl ⟨rfl, xs, SqL.of q⟩, a, xs, w, rfl, rfl, q, by rw [hlen]; exact ew, ?_⟩
      have hh : Hold (Bar M own) H (upd H a (.lst xs.dropLast)) := hold_upd2 (.inr ⟨j, e2⟩)
      have x2 := x.putO (u := .lst xs.dropLast) e2 e0 (d := .lst l.dropLast) ⟨_, upd_same, RepL.hold hh (fun _ z => .inl z) _ _ (repL_dropLast r)⟩
      exact hq d w _ _ x2 (fun H0 B fr => fr.putO e2 fun p e => (x2.pool p e).2) (Rep.hold hh (fun _ z => .inl z) _ _ rw') hf
  · exact hf.elim
theorem vx_popAt (j : Nat) {y : Str} (he : VE F O e f) (hO : O j = true := by rfl) (hN : ∀ i, (F.X i).N[j]? = some y := by intro _; rfl) (hv : ∀ i, Vis (F.X i).env.scope y := by intro _; first | exact Or.inl rfl | exact Or.inr (Or.inl rfl) | exact Or.inr (Or.inr rfl))
    (hd : (y == ("__debug__" : Str)) = false := by decide) (hcd : (y == ("__classdict__" : Str)) = false := by decide)
    (hbase : ∀ i, attributeBase (.Name y p2) "pop" (F.X i).env (eval (.Name y p2) (F.X i).env) = eval (.Name y p2) (F.X i).env := by intro _; rfl)
    (hfew : ∀ i, ((backTo p (starEach [e] (F.X i).env)).all (fun x => !x.1) && (backToKw p (keywordEach [] (F.X i).env)).all (fun x => x.1.isSome)
      && decide ([e].length + ([] : List Keyword).length + (if ([] : List Keyword).isEmpty then 0 else 1) < 30)) = true := by intro _; rfl)
    (hline : (p3.endLine == p.line) = true := by rfl) (hs : ∀ i, starEach [e] (F.X i).env = [(false, eval e (F.X i).env)] := by intro _; rfl) :
    VX F O (.Call (.Attribute (.Name y p2) "pop" p3) [e] [] p) (xPopAt j f) := by
  obtain ⟨t, pt, g⟩ := he
  refine ⟨tBM F.K "list" L2.rPopAt (tVar j) (tCons t tNil), fun i => by rw [← F.hK i]; exact pe_bm PySem.F.plainAttrs_list PySem.F.slot_list_pop PySem.F.type_list_pop mt_popAt (pe_var (hN i) (hv i) hd hcd) (pa_cons (pt i) pa_nil (hs i)) (hbase i) (hfew i) hline (hs i) (by rfl), fun M π own σ H ρ R Q x hf hq => ?_⟩
  unfold xPopAt at hf
  split at hf
  · rename_i l e0
    obtain ⟨v, e1, h1⟩ := x.slot j _ e0
    rw [if_pos hO] at h1
    obtain ⟨a, e2, e3, xs, q, r⟩ := h1
    subst e3
    refine ⟨.ref a, e1, .inl ⟨rfl, xs, SqL.of q⟩, g M π own σ H ρ _ _ x hf fun d0 v0 H1 k1 r1 h1 => ?_⟩
    have x1 := x.keep k1
    have q1 : H1 a = some (.lst xs) := k1.same _ _ q (x.notpool e2)
    have r' := r.keep x.ctx k1
    have hlen := r.length
    cases d0 with
    | int i =>
      obtain ⟨⟨hi0, hi1⟩, h1⟩ := h1
      cases hl : l[i.toNat]? with
      | none => rw [hl] at h1; exact h1.elim
      | some d =>
        rw [hl] at h1
        obtain ⟨w, ew, rw'⟩ := r'.get hl
        have hlt : i.toNat < xs.length := (List.getElem?_eq_some_iff.mp ew).1
        refine ⟨a, xs, i, i.toNat, w, rfl, by rw [r1], q1, by omega, by omega, seqIndex_of hi0 (by omega), ew, ?_⟩
        have hh : Hold (Bar M own) H1 (upd H1 a (.lst (xs.eraseIdx i.toNat))) := hold_upd2 (.inr ⟨j, e2⟩)
        have x2 := x1.putO (u := .lst (xs.eraseIdx i.toNat)) e2 e0 (d := .lst (l.eraseIdx i.toNat)) ⟨_, upd_same, RepL.hold hh (fun _ z => .inl z) _ _ (repL_erase _ r')⟩
        exact hq d w _ _ x2 (fun H0 B fr => (fr.step k1).putO e2 fun p e => (x2.pool p e).2) (Rep.hold hh (fun _ z => .inl z) _ _ rw') h1
    | _ => exact h1.elim
  · exact hf.elim
/-! statements with such an expression -/
theorem vs_asgX {fx : FX} {tg : Expr} {S : List Nat} {G : FG} (he : VX F O e fx) (hg : VG F O true tg S G) (hs : ∀ i, swapsWithSole [tg] e pos.line (F.X i).env = pure false := by intro _; rfl) (hw : ∀ i, swappedStores [tg] e (F.X i).env = pure none := by intro _; rfl)
    (h1 : ∀ i, (assignEach [tg] (F.X i).env).map (·.2) = [assign tg (F.X i).env] := by intro _; rfl) : VS F O (.Assign [tg] e pos) (sAsgX fx G) := by
  obtain ⟨t, p, g⟩ := he
  obtain ⟨u, q, g2⟩ := hg
  refine ⟨_, fun i => ps_asg (p i) (q i) (hs i) (hw i) (h1 i), fun M π H0 B own σ H ρ P D x fr hf hd => ?_⟩
  refine g M π own σ H ρ _ _ x hf fun d v H1 ρ1 x1 f1 r1 h1 => ?_
  exact g2 M π own σ H1 ρ1 d v _ _ x1 r1 h1 fun σ' ρ' x' _ h => hd.nx own σ' H1 ρ' x' (f1 _ _ fr) h
theorem vs_sX {fx : FX} (j : Nat) {x : Str} (hN : F.N.Nodup) (he : VX F O e fx) (hj : F.N[j]? = some x := by rfl) (hO : O j = false := by rfl) (hx : ∀ i, Loc (F.X i).env.scope x := by intro _; first | exact Or.inl rfl | exact Or.inr rfl) (hf : ∀ i, (F.X i).fn x = true ∨ (F.X i).env.scope.names.lookup x = some .local := by intro _; first | exact Or.inl rfl | exact Or.inr rfl)
    (hs : ∀ i, swapsWithSole [.Name x p2] e pos.line (F.X i).env = pure false := by intro _; rfl) (hw : ∀ i, swappedStores [.Name x p2] e (F.X i).env = pure none := by intro _; rfl)
    (h1 : ∀ i, (assignEach [.Name x p2] (F.X i).env).map (·.2) = [assign (.Name x p2) (F.X i).env] := by intro _; rfl) : VS F O (.Assign [.Name x p2] e pos) (sAsgX fx (Fn.gName j)) :=
  vs_asgX he (vg_name j hN hj hO hx hf) hs hw h1
/-- ys.append(xs.pop(e)): ys in the slot i, xs in the slot j -/
def sApPop (i j : Nat) (e : FE) : FS := fun P ρ => match ρ[i]? with
  | some (some (.lst m)) => xPopAt j e ρ fun d ρ' => m.length < 16777216 ∧ P.nx (ρ'.set i (some (.lst (m ++ [d]))))
  | _ => False
theorem VS.imp {st : Stmt} {g h : FS} (x : VS F O st h) (hi : ∀ P ρ, g P ρ → h P ρ) : VS F O st g := by
  obtain ⟨t, p, s⟩ := x
  exact ⟨t, p, fun M π H0 B own σ H ρ P D x fr hf hd => s M π H0 B own σ H ρ P D x fr (hi _ _ hf) hd⟩
theorem vs_apPop (i j : Nat) {y z : Str} {p4 p5 : Pos} (he : VE F O e f) (hij : j ≠ i := by decide) (hO1 : O j = true := by rfl) (hN1 : ∀ k, (F.X k).N[j]? = some z := by intro _; rfl) (hv1 : ∀ i, Vis (F.X i).env.scope z := by intro _; first | exact Or.inl rfl | exact Or.inr (Or.inl rfl) | exact Or.inr (Or.inr rfl))
    (hd1 : (z == ("__debug__" : Str)) = false := by decide) (hcd1 : (z == ("__classdict__" : Str)) = false := by decide)
    (hbase1 : ∀ i, attributeBase (.Name z p4) "pop" (F.X i).env (eval (.Name z p4) (F.X i).env) = eval (.Name z p4) (F.X i).env := by intro _; rfl)
    (hfew1 : ∀ i, ((backTo c' (starEach [e] (F.X i).env)).all (fun x => !x.1) && (backToKw c' (keywordEach [] (F.X i).env)).all (fun x => x.1.isSome)
      && decide ([e].length + ([] : List Keyword).length + (if ([] : List Keyword).isEmpty then 0 else 1) < 30)) = true := by intro _; rfl)
    (hline1 : (p5.endLine == c'.line) = true := by rfl) (hs1 : ∀ i, starEach [e] (F.X i).env = [(false, eval e (F.X i).env)] := by intro _; rfl)
    (hN : ∀ k, (F.X k).N[i]? = some y := by intro _; rfl) (hv : ∀ i, Vis (F.X i).env.scope y := by intro _; first | exact Or.inl rfl | exact Or.inr (Or.inl rfl) | exact Or.inr (Or.inr rfl)) (hO : O i = true := by rfl)
    (hd : (y == ("__debug__" : Str)) = false := by decide) (hcd : (y == ("__classdict__" : Str)) = false := by decide)
    (hbase : ∀ i, attributeBase (.Name y p2) "append" (F.X i).env (eval (.Name y p2) (F.X i).env) = eval (.Name y p2) (F.X i).env := by intro _; rfl)
    (hfew : ∀ i, ((backTo p (starEach [.Call (.Attribute (.Name z p4) "pop" p5) [e] [] c'] (F.X i).env)).all (fun x => !x.1) && (backToKw p (keywordEach [] (F.X i).env)).all (fun x => x.1.isSome)
      && decide ([Expr.Call (.Attribute (.Name z p4) "pop" p5) [e] [] c'].length + ([] : List Keyword).length + (if ([] : List Keyword).isEmpty then 0 else 1) < 30)) = true := by intro _; rfl)
    (hline : (p3.endLine == p.line) = true := by rfl) (hs : ∀ i, starEach [.Call (.Attribute (.Name z p4) "pop" p5) [e] [] c'] (F.X i).env = [(false, eval (.Call (.Attribute (.Name z p4) "pop" p5) [e] [] c') (F.X i).env)] := by intro _; rfl)
    (hw : ∀ i, swapsWith (.Call (.Attribute (.Name y p2) "append" p3) [.Call (.Attribute (.Name z p4) "pop" p5) [e] [] c'] [] p) none pos.line (F.X i).env = pure false := by intro _; rfl) :
    VS F O (.Expr (.Call (.Attribute (.Name y p2) "append" p3) [.Call (.Attribute (.Name z p4) "pop" p5) [e] [] c'] [] p) pos) (sApPop i j f) := by
  obtain ⟨t, pt, g⟩ := he
  refine ⟨tDrop (tBM F.K "list" rAppend (tVar i) (tCons (tBM F.K "list" L2.rPopAt (tVar j) (tCons t tNil)) tNil)), fun k => ?_, fun M π H0 B own σ H ρ P D x fr hf hd => ?_⟩
  · rw [← F.hK k]
    exact ps_expr (pe_bm PySem.F.plainAttrs_list PySem.F.slot_list_append PySem.F.type_list_append mt_append (pe_var (hN k) (hv k) (by assumption) hcd) (pa_cons (pe_bm PySem.F.plainAttrs_list PySem.F.slot_list_pop PySem.F.type_list_pop mt_popAt (pe_var (hN1 k) (hv1 k) hd1 hcd1) (pa_cons (pt k) pa_nil (hs1 k)) (hbase1 k) (hfew1 k) hline1 (hs1 k) (by rfl)) pa_nil (hs k)) (hbase k) (hfew k) hline (hs k) (by rfl)) (hw k)
  · unfold sApPop at hf
    split at hf
    · rename_i m e0
      unfold xPopAt at hf
      split at hf
      · rename_i l f0
        obtain ⟨v, e1, h1⟩ := x.slot i _ e0
        rw [if_pos hO] at h1
        obtain ⟨a, e2, e3, xs, q, r⟩ := h1
        subst e3
        obtain ⟨v', f1, h1'⟩ := x.slot j _ f0
        rw [if_pos hO1] at h1'
        obtain ⟨b, f2, f3, ys, q', r'⟩ := h1'
        subst f3
        have hab : a ≠ b := fun z => hij (x.inj j i a (by rw [z]; exact f2) e2)
        refine ⟨.ref a, e1, .inl ⟨rfl, xs, SqL.of q⟩, .ref b, f1, .inl ⟨rfl, ys, SqL.of q'⟩, g M π own σ H ρ _ _ x hf fun d0 v0 H1 k1 r1 h1 => ?_⟩
        have x1 := x.keep k1
        have q1 : H1 a = some (.lst xs) := k1.same _ _ q (x.notpool e2)
        have q1' : H1 b = some (.lst ys) := k1.same _ _ q' (x.notpool f2)
        have s1 := r.keep x.ctx k1
        have s1' := r'.keep x.ctx k1
        have hlen := r'.length
        have hlen2 := r.length
        cases d0 with
        | int n =>
          obtain ⟨⟨hi0, hi1⟩, h1⟩ := h1
          cases hl : l[n.toNat]? with
          | none => rw [hl] at h1; exact h1.elim
          | some d =>
            rw [hl] at h1
            obtain ⟨w, ew, rw'⟩ := s1'.get hl
            have hlt : n.toNat < ys.length := (List.getElem?_eq_some_iff.mp ew).1
            refine ⟨b, ys, n, n.toNat, w, rfl, by rw [r1], q1', by omega, by omega, seqIndex_of hi0 (by omega), ew, ?_⟩
            have hh : Hold (Bar M own) H1 (upd H1 b (.lst (ys.eraseIdx n.toNat))) := hold_upd2 (.inr ⟨j, f2⟩)
            have x2 := x1.putO (u := .lst (ys.eraseIdx n.toNat)) f2 f0 (d := .lst (l.eraseIdx n.toNat)) ⟨_, upd_same, RepL.hold hh (fun _ z => .inl z) _ _ (repL_erase _ s1')⟩
            have fr2 := (fr.step k1).putO (u := .lst (ys.eraseIdx n.toNat)) f2 fun p e => (x2.pool p e).2
            have e0' : (ρ.set j (some (.lst (l.eraseIdx n.toNat))))[i]? = some (some (.lst m)) := by rw [List.getElem?_set_ne hij]; exact e0
            have q2 : upd H1 b (.lst (ys.eraseIdx n.toNat)) a = some (.lst xs) := by rw [upd_ne hab]; exact q1
            refine ⟨a, xs, w, rfl, rfl, q2, by rw [hlen2, sizeLine_eq]; exact h1.1, ?_⟩
            have hh3 : Hold (Bar M own) (upd H1 b (.lst (ys.eraseIdx n.toNat))) (upd (upd H1 b (.lst (ys.eraseIdx n.toNat))) a (.lst (xs ++ [w]))) := hold_upd2 (.inr ⟨i, e2⟩)
            have s2 := RepL.hold hh (fun _ z => .inl z) _ _ s1
            have x3 := x2.putO (u := .lst (xs ++ [w])) e2 e0' (d := .lst (m ++ [d])) ⟨_, upd_same, RepL.hold hh3 (fun _ z => .inl z) _ _ (s2.snoc (Rep.hold hh (fun _ z => .inl z) _ _ rw'))⟩
            exact hd.nx own σ _ _ x3 (fr2.putO e2 fun p e => (x3.pool p e).2) h1.2
        | _ => exact h1.elim
      · exact hf.elim
    · exact hf.elim
end
end Fn
end P_FK
section P_GA
set_option maxHeartbeats 1000000
/-! max, tuple * int, extend by a tuple, new slices, an own list that is left alone from here on. -/
namespace Fn
open PySem PySem.Spec PyProof.Rows L2
def fMax : GA := fun l R => match l with
  | [.lst l] => ∃ ns : List Int, l = ns.map D.int ∧ ns ≠ [] ∧ ∀ m, m ∈ ns → (∀ y ∈ ns, y ≤ m) → R (.int m)
  | [.int i, .int j] => R (.int (if j > i then j else i))
  | _ => False
theorem repL_ints {K : PySem.W.Frag} {N : Addr → Prop} {π : Pi} {H : Hp} : ∀ {ns : List Int} {xs : List V}, RepL K N π H (ns.map D.int) xs → xs = ns.map V.int
  | [], _, h => by cases h; rfl
  | n :: r, _, ⟨v, vs, e, h1, h2⟩ => by
    subst e
    cases h1
    rw [repL_ints h2]
    rfl
theorem cd_max {F : Fam} : CallD F (.builtin "max") fMax := by
  refine ⟨_, fun i => (by rw [← F.hK i]; exact cr_max (F.calm i) : CallR (F.X i) (.builtin "max") (rMax F.K)).or (call_max2 (F.calm i)), fun N π H l xs R Q c r h hq => ?_⟩
  match l, h with
  | [.lst l], h =>
    obtain ⟨ns, rfl, hne, h⟩ := h
    obtain ⟨v, e, r⟩ := repOL1 r
    obtain ⟨a, ys, e2, s, r2⟩ := r.lst
    subst e e2
    have := repL_ints r2
    subst this
    exact .inl ⟨a, ns, rfl, SqL.of s, List.length_pos_iff.mpr hne, fun m hm hy => hq (.int m) _ H c.keepRefl rfl (h m hm hy)⟩
  | [.int i, .int j], h =>
    obtain ⟨v, vs, e, r1, r2⟩ := r
    obtain ⟨w, ws, e2, r3, r4⟩ := r2
    cases r1
    cases r3
    cases r4
    subst e e2
    exact .inr ⟨i, j, rfl, hq (.int _) _ H c.keepRefl rfl h⟩
/-! ### tuple * int -/
def rRepF (K : PySem.W.Frag) : R2 := fun x y H Q => ∃ l k xs, x = .ref l ∧ y = .int k ∧ SqT K H l xs ∧ xs ≠ [] ∧ 2 ≤ k ∧ k ≤ 1000 ∧ xs.length ≤ 1000 ∧ ∀ p ob, H p = none → ob.dict = none → Q (.ref p) (upd H p (.frz ob (.tup (List.replicate k.toNat xs).flatten)))
theorem op_repF {X : Cx} : OpR X (binaryOp .Mult) (rRepF X.K) := by
  rintro pins s σ H x y v u Q I rx ry ⟨l, k, xs, rfl, rfl, hT, hne, h1, h2, hz, q⟩
  obtain rfl : v = Value.ref l := rx
  obtain ⟨t, rfl⟩ := ry
  obtain ⟨its, r, ⟨⟨cls, dd, data, sl⟩, ho, hc, n, hd⟩, hs⟩ := Inv.tuple I hT
  simp only at hc hd
  subst hc hd
  have hle : its.length = xs.length := r.length.symm
  have hn : its ≠ [] := fun e => hne (by
    rw [e] at hle
    exact List.eq_nil_of_length_eq_zero hle.symm)
  have hi : its.toArray.isEmpty = false := by
    cases its with
    | nil => exact absurd rfl hn
    | cons a b => rfl
  have hsz0 : its.toArray.size = xs.length := by rw [List.size_toArray, hle]
  have hm : ((its.toArray.size : Nat) : Int) * k ≤ 1000000 := by
    rw [hsz0]
    have a1 : ((xs.length : Nat) : Int) * k ≤ 1000 * k := Int.mul_le_mul_of_nonneg_right (by omega) (by omega)
    omega
  have a1 : k.toNat * xs.length ≤ 1000 * 1000 := Nat.mul_le_mul (by omega) hz
  have flen : (List.replicate k.toNat its).flatten.length ≤ sizeLine := by
    rw [PyProof.Rows.lm_len_rep_flat, hle, sizeLine_eq]
    omega
  have flen2 : (List.replicate k.toNat xs).flatten.length ≤ sizeLine := by
    rw [PyProof.Rows.lm_len_rep_flat, sizeLine_eq]
    omega
  have e0 : (decide (k < -(2 ^ 63)) || decide (k ≥ 2 ^ 63)) = false := by
    rw [decide_eq_false (by omega), decide_eq_false (by omega)] <;> rfl
  have e1 : (its.toArray.isEmpty || k == 1) = false := by
    rw [hi, Bool.false_or]
    exact beq_eq_false_iff_ne.mpr (by omega)
  have e2 : (decide (k ≤ 0) || its.toArray.isEmpty) = false := by
    rw [hi, Bool.or_false]
    exact decide_eq_false (by omega)
  have e4 : Builtin.Tuple.tupleTooMany (((its.toArray.size : Nat) : Int) * k) = false := by
    unfold Builtin.Tuple.tupleTooMany
    rw [sizeLine_eq]
    exact decide_eq_false (by omega)
  have inner := int_rmul_tuple k t l its.toArray n dd sl
  have outer := tuple_mulW l its.toArray n dd sl k t e0 e1 e2 (by omega) e4 (by rw [size_rep, List.size_toArray]; exact flen)
  refine wpAny_binaryOp_repeat_ref (T := "tuple") (U := "int") (by decide) ⟨_, ho, rfl⟩ (fun s' => typeIs_int s' k t) noFill_tuple_mul PySem.F.fills_int_mul PySem.F.slot_int_rmul repeat_tuple PySem.F.slot_int_index.lookup ?_
  refine call_meets PySem.F.slot_int_rmul (typeIs_int s k t) PySem.F.entry_int_rmul (PySem.F.args_int_rmul_2 _ _) inner ⟨ho, rfl, ⟨_, ho, rfl⟩, ?_⟩
  refine call_meets PySem.F.slot_tuple_mul ⟨_, ho, rfl⟩ PySem.F.entry_tuple_mul (PySem.F.args_tuple_mul_2 _ _) outer ⟨ho, ?_⟩
  rw [size_rep]
  exact ⟨.ref _, _, laidF I flen2 (r.rep k.toNat), rfl, q _ _ I.fresh rfl⟩
theorem repL_rep {K : PySem.W.Frag} {N : Addr → Prop} {π : Pi} {H : Hp} {l : List D} {xs : List V} (r : RepL K N π H l xs) : ∀ n : Nat, RepL K N π H (List.replicate n l).flatten (List.replicate n xs).flatten
  | 0 => rfl
  | n + 1 => by
    rw [List.replicate_succ, List.replicate_succ, List.flatten_cons, List.flatten_cons]
    exact r.append (repL_rep r n)
/-- the products that are served: of ints, of tuples -/
def bMulA : G2 := fun x y R => match x, y with
  | .int i, .int j => ((-(2 ^ 64) < i ∧ i < 2 ^ 64) ∨ (-(2 ^ 64) < j ∧ j < 2 ^ 64)) ∧ R (.int (i * j))
  | .tup l, .int k => l ≠ [] ∧ 2 ≤ k ∧ k ≤ 1000 ∧ l.length ≤ 1000 ∧ R (.tup (List.replicate k.toNat l).flatten)
  | _, _ => False
theorem od_mulA {F : Fam} : OpD F (binaryOp .Mult) bMulA := by
  refine ⟨_, fun i => op_mul.or (by rw [← F.hK i]; exact op_repF : OpR (F.X i) (binaryOp .Mult) (rRepF F.K)), fun N π H x y v u R Q c rx ry h hq => ?_⟩
  cases x with
  | int i => cases y with
    | int j => exact .inl ⟨i, j, rx, ry, h.1, hq (.int (i * j)) _ H c.keepRefl rfl h.2⟩
    | _ => exact h.elim
  | tup l => cases y with
    | int k =>
      obtain ⟨h1, h2, h3, h4, h5⟩ := h
      obtain ⟨a, xs, e, s, r⟩ := rx.tup
      have hl := r.length
      refine .inr ⟨a, k, xs, e, ry, s, fun z => h1 ?_, h2, h3, by omega, fun p ob np nd => hq (.tup _) _ _ (c.keepNew np) (Rep.newT (repL_rep r _) np nd c.alloc) h5⟩
      rw [z] at hl
      exact List.eq_nil_of_length_eq_zero hl.symm
    | _ => exact h.elim
  | _ => exact h.elim
section
variable {F : Fam} {O : Nat → Bool} {e a b c : Expr} {es : List Expr} {f fa fb fc : FE} {pos p p2 p3 apos cpos : Pos}
/-! ### new slices of lists -/
def eSlL (a : FE) (lo hi : FO) : FE := fun ρ R => a ρ fun x => lo ρ fun l => hi ρ fun h => match x with
  | .lst xs => R (.lst (cut xs l h))
  | _ => False
theorem vf_sl {p2 : Pos} {lo hi : Option Expr} {fl fh : FO} (ha : VR F O a fa) (hl : VO F O lo fl) (hh : VO F O hi fh) : VF F O (.Subscript a (.Slice lo hi none p2) pos) (eSlL fa fl fh) := by
  obtain ⟨ta, pa, ga⟩ := ha
  obtain ⟨tl, pl, gl⟩ := hl
  obtain ⟨th, ph, gh⟩ := hh
  refine ⟨_, fun i => pe_slice (by rw [← F.hK i]; exact sl_list : SlR (F.X i) (rSlL F.K)) (pa i) (pl i) (ph i), fun M π own σ H ρ R Q x hf hq => ?_⟩
  refine ga M π own σ H ρ _ _ x hf fun d v H1 k1 r1 h1 => ?_
  have x1 := x.keep k1
  refine gl M π own σ H1 ρ _ _ x1 h1 fun i H2 k2 h2 => ?_
  have x2 := x1.keep k2
  refine gh M π own σ H2 ρ _ _ x2 h2 fun j H3 k3 h3 => ?_
  have x3 := x2.keep k3
  have r3 := (r1.keep x1.ctx k2).keep x2.ctx k3
  have kk := (k1.trans k2).trans k3
  cases d with
  | lst l =>
    obtain ⟨a, xs, e, s, r⟩ := r3.lst
    refine ⟨a, xs, e, SqL.of s, fun p np => hq (.lst _) p _ (kk.trans (x3.ctx.keepNew np)) (x.ctx.noneOf kk np) ⟨_, upd_same, ?_⟩ h3⟩
    exact RepL.hold (hold_upd np) (fun a z => z.elim .inl fun e => .inr (e ▸ np)) _ _ (rep_cut r i j)
  | _ => exact h3.elim
/-- a new list of another kind of expression: x or y as new ones -/
theorem vf_if {c : Expr} {tA : FT} (hc : VT F O c tA) (ha : VF F O a fa) (hb : VF F O b fb) : VF F O (.IfExp c a b pos) (eIf tA fa fb) := by
  obtain ⟨t, p, g⟩ := hc
  obtain ⟨ta, pa, ga⟩ := ha
  obtain ⟨tb, pb, gb⟩ := hb
  refine ⟨_, fun i => pe_ifExp (p i) (pa i) (pb i), fun M π own σ H ρ R Q x hf hq => ?_⟩
  refine g M π own σ H ρ _ _ x hf fun c H1 k1 h1 => ?_
  cases c with
  | true => exact ga M π own σ H1 ρ R Q (x.keep k1) h1 fun b v H2 k2 n2 => hq b v H2 (k1.trans k2) (x.ctx.noneOf k1 n2)
  | false => exact gb M π own σ H1 ρ R Q (x.keep k1) h1 fun b v H2 k2 n2 => hq b v H2 (k1.trans k2) (x.ctx.noneOf k1 n2)
end
end Fn
end P_GA
section P_GB
set_option maxHeartbeats 1000000
/-! sorted({elt for ..}): sets of ints and texts that can be walked. -/
namespace Fn
open PySem PySem.Spec PyProof.Rows L2
def keyOfV : Value → Key
  | .int k _ => .inl k
  | .str x _ => .inr x
  | _ => .inl 0
abbrev keyOfE (e : Int × Value) : Key := keyOfV e.2
def GoodK (w : World) (e : Int × Value) : Prop := keyIs (keyOfE e) e.2 = true ∧ e.1 = keyH w (keyOfE e)
/-- what a table keeps while it grows -/
structure Tb (w : World) (S : List Key) (es : Array (Int × Value)) (t : SetTable) : Prop where
  good : ∀ e ∈ es.toList, GoodK w e
  nd : (es.toList.map keyOfE).Nodup
  mem : ∀ k, k ∈ S ↔ k ∈ es.toList.map keyOfE
  room : es.size < scanBound
  fits : t.fits es.size = true
  ris : Ris t.place.toList
  led : w.params.followText "set-order" = true ∨ t.led = true
def SetM (w : World) (h : Heap) (a : Addr) (S : List Key) : Prop := ∃ o es ep t, h.get? a = some o ∧ o.ExactSet ∧ o.data = .set es ep t ∧ Tb w S es t
section
variable {P : Program} {w : World} {A : Around} {E : Value → Shared → Prop} {s : Shared} {a : Addr} {S : List Key}
theorem keyOf_is {k : Key} {u : Value} (h : keyIs k u = true) : keyOfV u = k := by
  rcases keyIs_shape h with ⟨i, t, rfl, rfl⟩ | ⟨x, t, rfl, rfl⟩ <;> rfl
theorem good_isK {e : Int × Value} (g : GoodK w e) (k : Key) : (mixKind P w).is k e.2 = true ↔ keyOfE e = k :=
  ⟨fun h => keyOf_is h, fun h => by rw [← h]; exact g.1⟩
theorem good_scan {e : Int × Value} (g : GoodK w e) : e.2.scannable = true := by
  rcases keyIs_shape g.1 with ⟨i, t, _, h⟩ | ⟨x, t, _, h⟩ <;> rw [h] <;> rfl
theorem tb_elems {l : List (Int × Value)} (g : ∀ e ∈ l, GoodK w e) : ElemsOf (mixKind P w) l := fun e he => ⟨⟨keyOfE e, (g e he).1, (g e he).2⟩, good_scan (g e he)⟩
theorem tb_mem {l : List (Int × Value)} (g : ∀ e ∈ l, GoodK w e) (k : Key) : k ∈ l.map keyOfE ↔ ∃ e ∈ l, (mixKind P w).is k e.2 = true := by
  rw [List.mem_map]
  exact ⟨fun ⟨e, he, q⟩ => ⟨e, he, (good_isK (g e he) k).2 q⟩, fun ⟨e, he, q⟩ => ⟨e, he, (good_isK (g e he) k).1 q⟩⟩
theorem SetM.typeIs (R : SetM w s.heap a S) : s.TypeIs (.ref a) "set" := by
  obtain ⟨o, es, ep, t, ho, hx, _⟩ := R
  exact ⟨o, ho, hx.1⟩
/-- a table stored, and stored anew where it is full -/
theorem tb_tail {g : Bool → Sem Unit} (hg : ∀ (b : Bool) (s₁ : Shared) (Q' : Unit → Shared → Prop), Q' () s₁ → wpAny (model P w) A (g b) Q' E s₁)
    {o : Obj} {es es1 : Array (Int × Value)} {ep : Nat} {t t2 : SetTable} {wasDummy : Bool} {R : Option Bool → Shared → Prop} (ho : s.heap.get? a = some o) (hex : o.ExactSet) (hd : o.data = .set es ep t) (tb : Tb w S es1 t2)
    (hR : ∀ h', Heap.SameBut a s.heap h' → SetM w h' a S → R (some true) { s with heap := h' }) :
    wpAny (model P w) A (do
        storeSet a es1 t2
        if (!wasDummy && t2.tooFull) = true then do
            g (relayAll t2 es1 (SetTable.grown es1.size)).2.2
            storeSet a (relayAll t2 es1 (SetTable.grown es1.size)).1 (relayAll t2 es1 (SetTable.grown es1.size)).2.1
            pure (some true)
          else pure (some true)) R E s := by
  refine wpAny_bind (wpAny_storeSet_of ho hd ?_ (fits_of_scanBound tb.room))
  have at1 := store_at (es' := es1) (t' := t2) ho hd
  have same1 := Heap.SameBut.update s.heap a (Obj.putSet es1 t2)
  split
  · have pm := relayAll_perm t2 es1 (SetTable.grown es1.size)
    have hf := relayAll_fits t2 es1 (SetTable.grown es1.size)
    have hr := relayAll_ris t2 es1 (SetTable.grown es1.size)
    have hl := relayAll_led t2 es1 (SetTable.grown es1.size)
    generalize relayAll t2 es1 (SetTable.grown es1.size) = Z at pm hf hr hl ⊢
    obtain ⟨es2, t3, gave⟩ := Z
    dsimp only at pm hf hr hl ⊢
    have hsz : es2.size = es1.size := by rw [← Array.length_toList, pm.length_eq, Array.length_toList]
    have tb2 : Tb w S es2 t3 := ⟨fun e he => tb.good e (pm.mem_iff.mp he), (pm.map keyOfE).nodup_iff.mpr tb.nd, fun k => (tb.mem k).trans (pm.map keyOfE).mem_iff.symm, by rw [hsz]; exact tb.room, hf, hr, tb.led.imp id fun z => by rw [hl]; exact z⟩
    refine wpAny_bind (hg _ _ _ (wpAny_bind (wpAny_storeSet_of at1 rfl ?_ (fits_of_scanBound tb2.room))))
    have at2 := store_at (es' := es2) (t' := t3) at1 rfl
    exact wpAny_pure (hR _ (same1.trans (Heap.SameBut.update _ a _)) ⟨_, es2, _, t3, at2, hex, rfl, tb2⟩)
  · exact wpAny_pure (hR _ same1 ⟨_, es1, _, t2, at1, hex, rfl, tb⟩)
theorem setM_hashed {k : Key} {u : Value} {Q : Bool → Shared → Prop} (R : SetM w s.heap a S) (hk : keyIs k u = true) (room : S.length + 1 < scanBound) (hn : S.Nodup)
    (hQ : ∀ h' b S', Heap.SameBut a s.heap h' → SetM w h' a S' → (S' = S ∧ k ∈ S ∨ S' = k :: S ∧ ¬ k ∈ S) → Q b { s with heap := h' }) : wpAny (model P w) A (setAddHashed a u ((mixKind P w).hash k)) Q E s := by
  obtain ⟨o, es, ep, t, ho, hex, hd, tb⟩ := R
  have hku : keyOfV u = k := keyOf_is hk
  have hsc : u.scannable = true := by rcases keyIs_shape hk with ⟨i, t, _, h⟩ | ⟨x, t, _, h⟩ <;> rw [h] <;> rfl
  have hel : ElemsOf (mixKind P w) es.toList := tb_elems tb.good
  have hlen : es.size = S.length := by
    have p : (es.toList.map keyOfE).Perm S := (List.perm_ext_iff_of_nodup tb.nd hn).mpr fun k => (tb.mem k).symm
    rw [← p.length_eq, List.length_map, Array.length_toList]
  unfold setAddHashed setAddHashedIn
  refine wpAny_holding (wpAny_bind (wpAny_setState_of ho hd tb.fits ?_))
  dsimp only
  rw [byScan_of hsc tb.room hel]
  simp only [↓reduceIte]
  unfold setAddByScan
  refine wpAny_bind (wpAny_bind (wpAny_rule (wpAny_bind (wpAny_setScan_of (knd := mixKind P w) hk ho hd tb.fits hel ?_))))
  cases hfi : List.findIdx? (fun e => (mixKind P w).is k e.2) es.toList with
  | some j =>
    dsimp only
    obtain ⟨hj, pj, _⟩ := List.findIdx?_eq_some_iff_getElem.mp hfi
    have hin : k ∈ S := (tb.mem k).2 ((tb_mem (P := P) tb.good k).2 ⟨es.toList[j], List.getElem_mem hj, pj⟩)
    exact wpAny_pure (wpAny_pure (hQ s.heap _ S (Heap.SameBut.refl a s.heap) ⟨o, es, ep, t, ho, hex, hd, tb⟩ (.inl ⟨rfl, hin⟩)))
  | none =>
    dsimp only
    have hnk : k ∉ es.toList.map keyOfE := fun z => by
      obtain ⟨e, he, q⟩ := (tb_mem (P := P) tb.good k).1 z
      have c := List.findIdx?_eq_none_iff.mp hfi e he
      rw [q] at c
      cases c
    have hout : k ∉ S := fun z => hnk ((tb.mem k).1 z)
    have gw : ∀ (b : Bool) {s₁ : Shared} {Q' : Unit → Shared → Prop}, Q' () s₁ → wpAny (model P w) A (match b with | true => rule "set.scan.the-table-gave-way" | false => pure ()) Q' E s₁ := fun b s₁ Q' q => by
      cases b <;> first | exact wpAny_pure q | exact wpAny_rule q
    have pm := layNew_perm t es ((mixKind P w).hash k) u
    have hf := layNew_fits t es ((mixKind P w).hash k) u
    have hr := layNew_ris t es ((mixKind P w).hash k) u tb.ris
    have hl := layNew_led t es ((mixKind P w).hash k) u
    generalize layNew t es ((mixKind P w).hash k) u = Z at pm hf hr hl ⊢
    obtain ⟨es1, t1, wasDummy, gave⟩ := Z
    dsimp only at pm hf hr hl ⊢
    rw [Array.toList_push] at pm
    have pc : es1.toList.Perm (((mixKind P w).hash k, u) :: es.toList) := pm.trans (List.perm_append_singleton _ _)
    have pk : (es1.toList.map keyOfE).Perm (k :: es.toList.map keyOfE) := by
      have z := pc.map keyOfE
      rw [List.map_cons] at z
      change List.Perm _ (keyOfV u :: _) at z
      rw [hku] at z
      exact z
    have hsz : es1.size = S.length + 1 := by rw [← Array.length_toList, pc.length_eq, List.length_cons, Array.length_toList, hlen]
    have tb1 : Tb w (k :: S) es1 t1 := by
      refine ⟨fun e he => ?_, pk.nodup_iff.mpr (List.nodup_cons.mpr ⟨hnk, tb.nd⟩), fun i => ?_, by rw [hsz]; exact room, hf, hr, tb.led.imp id fun z => by rw [hl]; exact z⟩
      · rcases List.mem_cons.mp (pc.mem_iff.mp he) with z | z
        · rw [z]
          refine ⟨?_, ?_⟩
          · show keyIs (keyOfV u) u = true
            rw [hku]
            exact hk
          · show (mixKind P w).hash k = keyH w (keyOfV u)
            rw [hku]
            rfl
        · exact tb.good e z
      · rw [pk.mem_iff, List.mem_cons, List.mem_cons, tb.mem i]
    have fin : ∀ h', Heap.SameBut a s.heap h' → SetM w h' a (k :: S) → Q true { s with heap := h' } := fun h' sb r => hQ h' true (k :: S) sb r (.inr ⟨rfl, hout⟩)
    refine wpAny_bind (gw _ ?_)
    split
    · refine wpAny_bind ?_
      rw [hashByValue_scannable 8 hsc]
      refine wpAny_pure (tb_tail ?_ ho hex hd (S := k :: S) ?_ ?_)
      · intro b s₁ Q' q
        cases b <;> first | exact wpAny_pure q | exact wpAny_rule q
      · refine ⟨tb1.good, tb1.nd, tb1.mem, tb1.room, ?_, ?_, ?_⟩
        · first | (split <;> first | exact hf | exact SetTable.fits_plain_off hf) | exact hf
        · first | (split <;> exact hr) | exact hr
        · first | (split <;> exact tb1.led) | exact tb1.led
      · intro h' sb r
        dsimp only
        exact wpAny_pure (fin h' sb r)
    · refine wpAny_bind (wpAny_pure ?_)
      simp only [↓reduceIte]
      refine tb_tail ?_ ho hex hd tb1 ?_
      · intro b s₁ Q' q
        cases b <;> first | exact wpAny_pure q | exact wpAny_rule q
      · intro h' sb r
        dsimp only
        exact wpAny_pure (fin h' sb r)
end
end Fn
end P_GB
section P_GC
set_option maxHeartbeats 1000000
/-! sorted({elt for ..}) -/
namespace Fn
open PySem PySem.Spec PyProof.Rows L2
def setO (w : World) (a : Addr) (S : List Key) : HO := .ext fun h => SetM w h a S
theorem setM_on {w : World} {h g : Heap} {a : Addr} {S : List Key} (R : SetM w h a S) (k : ∀ o, h.get? a = some o → g.get? a = some o) : SetM w g a S := by
  obtain ⟨o, es, ep, t, ho, z⟩ := R
  exact ⟨o, es, ep, t, k o ho, z⟩
theorem setM_ok {w : World} {P : Program} {H : Hp} {h : Heap} {a : Addr} {S : List Key} (R : SetM w h a S) : ObjOk P w H h a (setO w a S) := by
  obtain ⟨o, es, ep, t, ho, z⟩ := id R
  exact ⟨R, ⟨o, ho⟩, fun h1 h2 p k => setM_on p k⟩
theorem setM_new {w : World} {h : Heap} : SetM w (h.push { cls := .type "set", data := .set #[] 0 (.fresh 0 0 (!w.params.followText "set-order")) }) h.objs.size [] := by
  refine ⟨_, #[], 0, _, Heap.get?_push_size _ rfl, ⟨rfl, rfl, rfl⟩, rfl, ?_⟩
  refine ⟨fun e he => by simp at he, List.nodup_nil, fun k => by simp, by decide, rfl, List.Pairwise.nil, ?_⟩
  show _ ∨ (!w.params.followText "set-order") = true
  cases w.params.followText "set-order"
  · exact .inr rfl
  · exact .inl rfl
section
variable {X : Cx} {pins : List (Addr × Obj)} {σ : L2.St} {H : Hp} {s : Shared}
theorem setM_get {a : Addr} {S : List Key} (I : Inv X pins σ H s) (ha : H a = some (setO X.w a S)) : SetM X.w s.heap a S :=
  (show ObjOk X.prog X.w H s.heap a (setO X.w a S) from I.hok a _ ha).1
theorem setM_add {P : Program} {w : World} {A : Around} {E : Value → Shared → Prop} {a : Addr} {S : List Key} {k : Key} {u : Value} {Q : Value → Shared → Prop} (R : SetM w s.heap a S) (hk : keyIs k u = true) (room : S.length + 1 < scanBound) (hn : S.Nodup)
    (hQ : ∀ h' S', Heap.SameBut a s.heap h' → SetM w h' a S' → (S' = S ∧ k ∈ S ∨ S' = k :: S ∧ ¬ k ∈ S) → Q .none { s with heap := h', toks := s.toks + 1 }) :
    wpAny (model P w) A (call (.builtin "set.add") [.ref a, u]) Q E s := by
  refine wpAny_call_entry PySem.F.slot_set_add R.typeIs PySem.F.entry_set_add ?_ (PySem.F.args_set_add_2 _ _)
  unfold Builtin.«set.add» Builtin.Frozenset.oneOther
  simp only [List.isEmpty_nil, bind_assoc]
  unfold Builtin.Frozenset.addrOf setAdd
  refine wpAny_bind (wpAny_pure ?_)
  try dsimp only
  refine wpAny_bind (wpAny_pure ?_)
  try dsimp only
  refine wpAny_bind (wpAny_holding (wpAny_bind ((mixKind P w).pyHash hk ?_)))
  refine setM_hashed (s := { s with toks := s.toks + 1 }) R hk room hn fun h' b S' sb r e => ?_
  show wpAny _ _ (ret Value.none) _ _ _
  exact wpAny_pure ⟨_, rfl, hQ h' S' sb r e⟩
/-- an element of the set -/
def emS (w : World) (te : TE) (L : Addr) : TEm := fun σ H N => te σ H fun y H1 => ∃ S k, y = kV k ∧ H1 L = some (setO w L S) ∧ S.Nodup ∧ S.length + 1 < scanBound ∧ ∀ S', (S' = S ∧ k ∈ S ∨ S' = k :: S ∧ ¬ k ∈ S) → N (upd H1 L (setO w L S'))
theorem emS_ok {Y : Cx} {e : Expr} {te : TE} {L : Addr} (he : PE Y e te) (hx : Y.xe = fun _ _ => False) : EmOk Y (fun acc env => do let v ← eval e env; standAt e.pos; let _ ← call (.builtin "set.add") [acc, v]) (.ref L) (emS Y.w te L) := by
  intro pins s σ H N I h
  have pr := he.run pins s σ H _ I h
  rw [hx] at pr
  refine wpAny_bind (wpAny_mono pr ?_ fun _ _ z => z)
  rintro u s1 ⟨y, H1, I1, r1, S, k, rfl, hL, hn, room, nx⟩
  refine wpAny_bind (wpAny_standAt (wpAny_bind (setM_add (setM_get I1 hL) (kV_is (P := Y.prog) (w := Y.w) r1) room hn fun h' S' sb R e => wpAny_pure ?_)))
  have hu : ∃ o, h'.get? L = some o := by
    obtain ⟨o, _, _, _, ho, _⟩ := id R
    exact ⟨o, ho⟩
  exact ⟨_, I1.write (e := L) (t' := s1.toks + 1) (by rw [hL]; trivial) (.inl rfl) (fun b o hb hu => (sb.2 b hb).trans hu) hu (setM_ok R), nx S' e⟩
end
section
variable {X : Cx}
theorem pe_scN {elt tg iter : Expr} {ifs : List Expr} {gs : List Comprehension} {scope : Scope} {own : List (Str × Nat)} {vs' : List Nat} {pos : Pos} {wi : TI} {g : TG} {tt : TT} {te : TE} {cs : List ClR} (hc : X.calm = true) (hN : X.N.Nodup) (hi : PI X tg iter wi) (ok : BlkOk X.N X.env.scope scope own) (hv : ∀ i ∈ vs', i ∈ own.map (·.2))
    (hg : ∀ (s : Shared) (H : Hp) (C : Addr) (cl : List (Str × Addr)) (fp : List Addr), PG (X.blk s H scope (compEnvC scope cl C X.env) fp) tg g) (ht : ∀ (s : Shared) (H : Hp) (C : Addr) (cl : List (Str × Addr)) (fp : List Addr), PTs (X.blk s H scope (compEnvC scope cl C X.env) fp) ifs tt)
    (he : ∀ (s : Shared) (H : Hp) (C : Addr) (cl : List (Str × Addr)) (fp : List Addr), PE (X.blk s H scope (compEnvC scope cl C X.env) fp) elt te) (hs : ∀ x, foldedSetIterable iter X.env x = pure x)
    (hcl : ∀ (s : Shared) (H : Hp) (C : Addr) (cl : List (Str × Addr)) (fp : List Addr), Cls (X.blk s H scope (compEnvC scope cl C X.env) fp) gs cs vs') (hne : firstAsync (⟨tg, iter, ifs, 0⟩ :: gs) = false := by rfl) :
    PE X (.SetComp elt (⟨tg, iter, ifs, 0⟩ :: gs) scope pos) (tLn wi g tt (own.map (·.2)) (fun p => setO X.w p []) (emS X.w te) cs) := by
  refine ⟨fun pins s σ H Q I h => ?_⟩
  rw [arm_eval_SetComp, hne]
  refine comp_core (kd_set elt _ scope pos) (ob := { cls := .type "set", data := .set #[] 0 (.fresh 0 0 (!X.w.params.followText "set-order")) }) (fun s Q E q => ?_) (fun H h hb => setM_ok setM_new) hc hN I hi ok hv hg ht (fun L s H C cl fp => emS_ok (he s H C cl fp) rfl) hs hcl h fun D C s' m H' I' q hn f => ⟨m, hn, fun h'' sb => ?_⟩
  · unfold newSet setsByText
    refine wpAny_bind (wpAny_bind (wpAny_askSetting (wpAny_pure ?_)))
    exact wpAny_newObj_type q
  · obtain ⟨f0, f1, f2, f3, f4, f5⟩ := f
    exact ⟨.ref D, H', I'.turned (t' := s'.toks) (fun b o hb e => (sb.2 b hb).trans e) f0 f1 f3 f4 f5, rfl, q⟩
def rSortM (K : PySem.W.Frag) (w : World) : List V → Hp → VK → Prop := fun xs H Q => ∃ a S, xs = [.ref a] ∧ H a = some (setO w a S) ∧ S.Nodup ∧ ∀ l : List Key, l.Perm S →
  ∃ bs : List (V × PyData), bs.map (·.1) = l.map kV ∧ (∀ b ∈ bs, Dp K H b.1 b.2) ∧ PySem.W.AllAlike (bs.map (·.2)) ∧ PySem.W.Sortable (bs.map (·.2)) ∧ (∀ b ∈ bs, b.2.depth ≤ 60) ∧
    ∀ p, H p = none → Q (.ref p) (upd H p (.lst ((bs.mergeSort (PySem.W.dataLe false (·.2))).map (·.1))))
theorem relV_keys : ∀ {us : List Value}, (∀ u ∈ us, keyIs (keyOfV u) u = true) → Vals ((us.map keyOfV).map kV) us
  | [], _ => .nil
  | u :: us, h => by
    refine .cons ?_ (relV_keys fun z hz => h z (List.mem_cons_of_mem _ hz))
    have hu := h u List.mem_cons_self
    rcases keyIs_shape hu with ⟨i, t, e, rfl⟩ | ⟨x, t, e, rfl⟩
    · exact ⟨t, rfl⟩
    · exact ⟨t, rfl⟩
theorem cr_sortM (hc : X.calm = true) (hu : X.A.units + 65 < cLine) : CallR X (.builtin "sorted") (rSortM X.K X.w) := by
  rintro pins s σ H xs us Q I r ⟨a, S, rfl, ha, hnd, h⟩
  obtain ⟨u, rfl, rx⟩ := vals1 r
  obtain rfl : u = Value.ref a := rx
  obtain ⟨o, es, ep, t, ho, hex, hd, tb⟩ := setM_get I ha
  have hsl : sizeLine = 16777216 := sizeLine_eq
  have hsb : scanBound = 4096 := rfl
  have hrm := tb.room
  refine sorted_any (fun us s1 => (∀ b o, s.heap.get? b = some o → s1.heap.get? b = some o) ∧ s1.gens = s.gens ∧ s1.os = s.os ∧ us.Perm (es.toList.map (·.2)))
    (fun R E' hR => collect_set (I.ok.hd hc) ⟨o, ho, hex.1, hd⟩ tb.fits tb.room tb.ris tb.led fun s1 out k1 k2 k3 k4 k5 => hR _ _ ⟨k1, k3, k4, k5⟩)
    (fun us s1 ⟨_, _, _, p⟩ => by rw [p.length_eq, List.length_map, Array.length_toList]; omega) ?_
  rintro us s1 ⟨k1, k2, k3, k4⟩
  have I1 : Inv X pins σ H s1 := Inv.call' (ch := []) I k3 (Un.kept k1) (I.hok.kept k1) (by rw [k2]; exact I.bare) fun _ z => nomatch z
  have gk : ∀ v ∈ us, keyIs (keyOfV v) v = true := fun v hv => by
    obtain ⟨e, he, rfl⟩ := List.mem_map.mp (k4.mem_iff.mp hv)
    exact (tb.good e he).1
  have pl : (us.map keyOfV).Perm S := by
    refine (k4.map keyOfV).trans ?_
    rw [List.map_map]
    exact (List.perm_ext_iff_of_nodup tb.nd hnd).mpr fun k => (tb.mem k).symm
  obtain ⟨bs, b1, b2, b3, b4, b5, b6⟩ := h _ pl
  refine sort_new (bs := bs) hu I1 ?_ b2 b3 b4 b5 (by rw [k4.length_eq, List.length_map, Array.length_toList]; omega) b6
  rw [b1]
  exact relV_keys gk
end
end Fn
end P_GC
section P_GD
set_option maxHeartbeats 4000000
/-! sorted({elt for ..}) over data: what is put in, and every order of it. -/
namespace Fn
open PySem PySem.Spec PyProof.Rows L2
abbrev FSC := Ren → List Key → (List Key → Prop) → Prop
def scEl (e : FE) : FSC := fun ρ S R => e ρ fun d => match d.key with
  | some k => S.length < 4000 ∧ R (if (S.any fun q => decide (q = k)) = true then S else k :: S)
  | none => False
def scGo (G : FG) (t : FT) (c : FSC) (ρ : Ren) : List D → List Key → (List Key → Prop) → Prop
  | [], S, R => R S
  | d :: r, S, R => G d ρ fun ρ' => t ρ' fun b => if b = true then c ρ' S fun S1 => scGo G t c ρ r S1 R else scGo G t c ρ r S R
def scCl (wi : FI) (G : FG) (t : FT) (own : List Nat) (c : FSC) : FSC := fun ρ S R => wi ρ fun items => scGo G t c (wipe ρ own) items S R
/-- sorted({..}) -/
def eSc (wi : FI) (G : FG) (t : FT) (c : FSC) (own : List Nat) : FE := fun ρ R => wi ρ fun items => scGo G t c (wipe ρ own) items [] fun S => ∀ l : List Key, l.Perm S → okS (l.map keyD) ∧ R (.lst (srt (l.map keyD)))
section
variable (K : PySem.W.Frag) (w : World) (O : Nat → Bool) (L : Addr)
/-- what r adds to the set at L -/
def SemSC (r : TEm) (c : FSC) : Prop := ∀ M π (own : Own) (σ : L2.St) H ρ S (R : List Key → Prop) (N : Hp → Prop), EnvOk K M π O own σ H ρ → M L → (∀ p, π = some p → p.1 ≠ L ∧ p.2 ≠ L) → H L = some (setO w L S) → S.Nodup →
  c ρ S R → (∀ S' H', KeepB π (· = L) H H' → H' L = some (setO w L S') → S'.Nodup → R S' → N H') → r σ H N
end
section
variable {K : PySem.W.Frag} {w : World} {O : Nat → Bool} {L : Addr}
theorem semSC_el {te : TE} {fe : FE} (ge : SemE K O te fe) : SemSC K w O L (emS w te L) (scEl fe) := by
  intro M π own σ H ρ S R N x hM hp hA hn hc hq
  refine ge M π own σ H ρ _ _ x hc fun d v H1 k1 r1 h1 => ?_
  cases hkey : d.key with
  | none => rw [hkey] at h1; exact h1.elim
  | some k =>
    rw [hkey] at h1
    have npl : ¬ isPl π L := fun ⟨l, z⟩ => (hp _ z).1 rfl
    have hA1 : H1 L = some (setO w L S) := k1.same _ _ hA npl
    have x1 := x.keep k1
    have hsb : scanBound = 4096 := rfl
    refine ⟨S, k, key_vR hkey r1, hA1, hn, by have := h1.1; omega, fun S' hS' => ?_⟩
    have mm : (S.any fun q => decide (q = k)) = true ↔ k ∈ S := by simp
    have e : S' = if (S.any fun q => decide (q = k)) = true then S else k :: S := by
      rcases hS' with ⟨e, z⟩ | ⟨e, z⟩
      · rw [if_pos (mm.2 z), e]
      · rw [if_neg (fun y => z (mm.1 y)), e]
    have hn' : S'.Nodup := by
      rcases hS' with ⟨e, z⟩ | ⟨e, z⟩
      · rw [e]; exact hn
      · rw [e]; exact List.nodup_cons.mpr ⟨z, hn⟩
    refine hq S' _ ⟨fun a o q nL z => ?_, fun p e => (x1.pool p e).2.other (hp p e).1 (hp p e).2⟩ upd_same hn' (by rw [e]; exact h1.2)
    rw [upd_ne nL]
    exact k1.same a o q z
theorem sc_loop {rb : Bool} {g : TG} {tt : TT} {G : FG} {ft : FT} {r : TEm} {c : FSC} {vs T : List Nat} (hS : ∀ i ∈ T, i ∈ vs)
    (gg : ∀ M π (own : Own) (σ : L2.St) H ρ d v (R : Ren → Prop) (Q : L2.St → Hp → Prop), EnvOk K M π O own σ H ρ → RepI rb K (Bar M own) π H d v → G d ρ R →
      (∀ σ' ρ', EnvOk K M π O own σ' H ρ' → (∀ vs, (∀ i ∈ T, i ∈ vs) → L2.wipe σ' vs = L2.wipe σ vs) → R ρ' → Q σ' H) → g v σ H Q)
    (gt : SemT K O tt ft) (gc : SemSC K w O L r c) {M : Addr → Prop} {π : Pi} {own : Own} {σ : L2.St} {H1 Hs : Hp} {ρ : Ren} {C N : Addr → Prop} {S0 : List Key} {R : List Key → Prop} {Nx : Hp → Prop} {items : List D} {J : It}
    (x : EnvOk K M π O own σ Hs ρ) (hM : M L) (hp : ∀ p, π = some p → p.1 ≠ L ∧ p.2 ≠ L) (hA : Hs L = some (setO w L S0)) (hn : S0.Nodup)
    (hw : WalkD rb K C N π H1 items J) (hh : ∀ H, KeepB π (· = L) Hs H → Hold C H1 H) (hN : ∀ a, Bar M own a → N a ∨ H1 a = none) (hf : scGo G ft c (Fn.wipe ρ vs) items S0 R)
    (hq : ∀ S' H', KeepB π (· = L) Hs H' → H' L = some (setO w L S') → S'.Nodup → R S' → Nx H') : tLp J g tt vs r σ Hs Nx := by
  obtain ⟨Gw, Y, wk, gw, yw⟩ := hw
  have npl : ¬ isPl π L := fun ⟨l, z⟩ => (hp _ z).1 rfl
  refine lp_it wk (fun i H => ∃ S, KeepB π (· = L) Hs H ∧ H L = some (setO w L S) ∧ S.Nodup ∧ EnvOk K M π O own σ H ρ ∧ scGo G ft c (Fn.wipe ρ vs) (items.drop i) S R) ?_ ?_ ?_ ?_
  · exact ⟨S0, ⟨fun a o q _ _ => q, fun p e => (x.pool p e).2⟩, hA, hn, x, by simpa using hf⟩
  · intro i H hi ⟨S, kb, _⟩
    exact gw H (hh H kb)
  · intro i y H H' hi ⟨S, kb, hA', hn', xe, hgo⟩ hy
    obtain ⟨k2, d, ed, rd⟩ := yw i H y H' hi (hh H kb) (fun p e => (xe.pool p e).2) hy
    have x2 := xe.keep k2
    have hdrop : items.drop i = d :: items.drop (i + 1) := by
      obtain ⟨h1, h2⟩ := List.getElem?_eq_some_iff.mp ed
      rw [← h2]
      exact List.drop_eq_getElem_cons h1
    rw [hdrop] at hgo
    have rdd : RepI rb K (Bar M own) π H' d y := rd _ fun a z => ⟨hN a z, xe.ctx.alloc a z⟩
    unfold scGo at hgo
    refine gg M π own _ H' _ d y _ _ (x2.wipe vs) rdd hgo fun σ2 ρ2 x3 hws ht => ⟨?_, ?_⟩
    · rw [hws vs hS]
      exact wipe_idem
    refine gt M π own σ2 H' ρ2 _ _ x3 ht fun b H3 k3 hb => ?_
    have kb3 : KeepB π (· = L) Hs H3 := kb.trans ((k2.trans k3).toB)
    have hA3 : H3 L = some (setO w L S) := (k2.trans k3).same _ _ hA' npl
    cases b with
    | false =>
      rw [if_neg Bool.false_ne_true] at hb ⊢
      exact ⟨S, kb3, hA3, hn', (xe.keep k2).keep k3, hb⟩
    | true =>
      rw [if_pos rfl] at hb ⊢
      refine gc M π own σ2 H3 ρ2 S _ _ (x3.keep k3) hM hp hA3 hn' hb fun S4 H4 kb4 hA4 hn4 h4 => ?_
      exact ⟨S4, kb3.trans kb4, hA4, hn4, ((xe.keep k2).keep k3).keepL kb4 hM ⟨_, hA4⟩, h4⟩
  · intro H ⟨S, kb, hA', hn', xe, hgo⟩
    rw [List.drop_length] at hgo
    exact hq S H kb hA' hn' hgo
theorem semSC_cl {rb : Bool} {wi : TI} {g : TG} {tt : TT} {fi : FI} {G : FG} {ft : FT} {c : FSC} {em : TEm} {cs : List ClR} {vs T : List Nat} (hS : ∀ i ∈ T, i ∈ vs)
    (gw : ∀ M π (own : Own) (σ : L2.St) H ρ (R : List D → Prop) (Q : It → Hp → Prop), EnvOk K M π O own σ H ρ → fi ρ R → (∀ l J H1, Keep π H H1 → WalkD rb K (Bar M own) (Bar M own) π H1 l J → R l → Q J H1) → wi σ H Q)
    (gg : ∀ M π (own : Own) (σ : L2.St) H ρ d v (R : Ren → Prop) (Q : L2.St → Hp → Prop), EnvOk K M π O own σ H ρ → RepI rb K (Bar M own) π H d v → G d ρ R →
      (∀ σ' ρ', EnvOk K M π O own σ' H ρ' → (∀ vs, (∀ i ∈ T, i ∈ vs) → L2.wipe σ' vs = L2.wipe σ vs) → R ρ' → Q σ' H) → g v σ H Q)
    (gt : SemT K O tt ft) (gc : SemSC K w O L (tCl em cs) c) : SemSC K w O L (tCl em ((wi, g, tt, vs) :: cs)) (scCl fi G ft vs c) := by
  intro M π own σ H ρ S R N x hM hp hA hn hc hq
  have npl : ¬ isPl π L := fun ⟨l, z⟩ => (hp _ z).1 rfl
  refine gw M π own σ H ρ _ _ x hc fun items J H1 k1 hw hgo => ?_
  have x1 := x.keep k1
  refine sc_loop hS gg gt gc x1 hM hp (k1.same _ _ hA npl) hn hw (fun H kb a o q nb => kb.keep a o q (fun z => nb (.inl (by rw [z]; exact hM))) fun z => nb (x1.ctx.hp a z)) (fun a z => .inl z) hgo fun S' H' kb hA' hn' h => ?_
  exact hq S' H' (k1.toB.trans kb) hA' hn' h
/-- the whole: the set is forgotten once it is sorted -/
theorem sc_sem {rb : Bool} {wi : TI} {g : TG} {tt : TT} {te : TE} {fi : FI} {G : FG} {ft : FT} {c : FSC} {cs : List ClR} {vs T : List Nat} (hS : ∀ i ∈ T, i ∈ vs)
    (gw : ∀ M π (own : Own) (σ : L2.St) H ρ (R : List D → Prop) (Q : It → Hp → Prop), EnvOk K M π O own σ H ρ → fi ρ R → (∀ l J H1, Keep π H H1 → WalkD rb K (isPl π) (Bar M own) π H1 l J → R l → Q J H1) → wi σ H Q)
    (gg : ∀ M π (own : Own) (σ : L2.St) H ρ d v (R : Ren → Prop) (Q : L2.St → Hp → Prop), EnvOk K M π O own σ H ρ → RepI rb K (Bar M own) π H d v → G d ρ R →
      (∀ σ' ρ', EnvOk K M π O own σ' H ρ' → (∀ vs, (∀ i ∈ T, i ∈ vs) → L2.wipe σ' vs = L2.wipe σ vs) → R ρ' → Q σ' H) → g v σ H Q)
    (gt : SemT K O tt ft) (gc : ∀ L, SemSC K w O L (tCl (emS w te L) cs) c) {ρ : Ren} {R : DK} {M : Addr → Prop} {π : Pi} {own : Own} {σ : L2.St} {H : Hp} {Q : VK} (x : EnvOk K M π O own σ H ρ) (hf : eSc fi G ft c vs ρ R)
    (hq : ∀ d v H', Keep π H H' → Rep K (Bar M own) π H' d v → R d → Q v H') : tLn wi g tt vs (fun p => setO w p []) (emS w te) cs σ H fun y H1 => rSortM K w [y] H1 Q := by
  refine gw M π own σ H ρ _ _ x hf fun items J H1 k1 hw hgo L hL => ?_
  have x1 := x.keep k1
  have nL : ∀ a o, H1 a = some o → a ≠ L := fun a o q z => by rw [z, hL] at q; cases q
  have hp : ∀ p, π = some p → p.1 ≠ L ∧ p.2 ≠ L := fun p e => by
    obtain ⟨_, _, _, _, _, e1, e2, _⟩ := (x1.pool p e).2
    exact ⟨nL _ _ e1, nL _ _ e2⟩
  have xL := x1.bar hL (H' := upd H1 L (setO w L [])) (fun a o q _ => same_upd hL a o q) (fun p e => (x1.pool p e).2.grow hL) ⟨_, upd_same⟩
  refine sc_loop (S0 := []) hS gg gt (gc L) xL (.inr rfl) hp upd_same List.nodup_nil hw (fun H kb a o q nb => kb.keep a o (same_upd hL a o q) (nL a o q) nb) (fun a z => ?_) hgo fun S' H' kb hA' hn' h => ?_
  · rcases z with (z | z) | z
    · exact .inl (.inl z)
    · exact .inr (z ▸ hL)
    · exact .inl (.inr z)
  · have k2 : Keep π H H' := k1.trans ⟨fun a o q n => kb.keep a o (same_upd hL a o q) (nL a o q) n, kb.pool⟩
    have x2 := x.keep k2
    refine ⟨L, S', rfl, hA', hn', fun l hl => ?_⟩
    obtain ⟨ok, hr⟩ := h l hl
    have rl : ∀ l : List Key, RepL K (Bar M own) π H' (l.map keyD) (l.map kV) := by
      intro l
      induction l with
      | nil => exact rfl
      | cons q r ih => exact ⟨_, _, rfl, rep_key q, ih⟩
    obtain ⟨bs, b1, b2, b3, b4, b5, b6⟩ := sort_bs x2.ctx (rl l) ok
    exact ⟨bs, b1, b2, b3, b4, b5, fun p np => hq (.lst _) _ _ (k2.trans (x2.ctx.keepNew np)) (b6 p np) hr⟩
end
section
variable {F : Fam} {O : Nat → Bool} {p pos : Pos}
/-- the clauses behind the first -/
def VCS (F : Fam) (O : Nat → Bool) (gs : List Comprehension) (elt : Expr) (vs' : List Nat) (c : FSC) : Prop := ∃ (te : TE) (cs : List ClR), (∀ i, PE (F.X i) elt te) ∧ (∀ i, Cls (F.X i) gs cs vs') ∧ ∀ L, SemSC F.K F.w O L (tCl (emS F.w te L) cs) c
theorem vcs_el {elt : Expr} {fe : FE} (he : VE F O elt fe) : VCS F O [] elt [] (scEl fe) := by
  obtain ⟨te, pe, ge⟩ := he
  exact ⟨te, [], pe, fun _ => .nil, fun L => semSC_el ge⟩
theorem vcs_cl {rb : Bool} {t i elt : Expr} {ifs : List Expr} {gs : List Comprehension} {vs' S : List Nat} {fi : FI} {G : FG} {ft : FT} {c : FSC} (vs : List Nat) (hi : VI F O rb t i fi) (hg : VG F O rb t S G) (ht : VTs F O ifs ft) (hc : VCS F O gs elt vs' c) (hS : ∀ j ∈ S, j ∈ vs) (hv : ∀ j ∈ vs', j ∈ vs)
    (hs : ∀ j x, foldedSetIterable i (F.X j).env x = pure x := by intro _ _; rfl) : VCS F O (⟨t, i, ifs, 0⟩ :: gs) elt vs (scCl fi G ft vs c) := by
  obtain ⟨wi, pw, gw⟩ := hi
  obtain ⟨g, pg, gg⟩ := hg
  obtain ⟨tt, pt, gt⟩ := ht
  obtain ⟨te, cs, pe, pc, gc⟩ := hc
  exact ⟨te, (wi, g, tt, vs) :: cs, pe, fun j => .cons (pw j) (pg j) (pt j) (hs j) hv (pc j), fun L => semSC_cl hS gw gg gt (gc L)⟩
theorem ve_sc {rb : Bool} {elt tg iter : Expr} {ifs : List Expr} {gs : List Comprehension} {scope : Scope} {own : List (Str × Nat)} {vs' : List Nat} {fi : FI} {G : FG} {ft : FT} {c : FSC} {S : List Nat} (hm : F.mg "sorted" = none) (hN : F.N.Nodup) (hi : VIR F O rb tg iter fi) (ok : ∀ i, BlkOk F.N (F.X i).env.scope scope own)
    (hg : VG (F.blk scope) O rb tg S G) (hS : ∀ i ∈ S, i ∈ own.map (·.2)) (ht : VTs (F.blk scope) O ifs ft) (hc : VCS (F.blk scope) O gs elt vs' c) (hv : ∀ i ∈ vs', i ∈ own.map (·.2)) (hgl : ∀ i, Gl (F.X i) "sorted" := by intro _; rfl) (hs : ∀ i x, foldedSetIterable iter (F.X i).env x = pure x := by intro _ _; rfl)
    (hst : ∀ i, starEach [.SetComp elt (⟨tg, iter, ifs, 0⟩ :: gs) scope pos] (F.X i).env = (false, eval (.SetComp elt (⟨tg, iter, ifs, 0⟩ :: gs) scope pos) (F.X i).env) :: starEach [] (F.X i).env := by intro _; rfl) (hne : firstAsync (⟨tg, iter, ifs, 0⟩ :: gs) = false := by rfl) :
    VE F O (.Call (.Name "sorted" p) [.SetComp elt (⟨tg, iter, ifs, 0⟩ :: gs) scope pos] [] p') (eSc fi G ft c (own.map (·.2))) := by
  obtain ⟨wi, pw, gw⟩ := hi
  obtain ⟨g, pg, gg⟩ := hg
  obtain ⟨tt, pt, gt⟩ := ht
  obtain ⟨te, cs, pe, pc, gc⟩ := hc
  refine ⟨tCB (rSortM F.K F.w) (tCons (tLn wi g tt (own.map (·.2)) (fun p => setO F.w p []) (emS F.w te) cs) tNil), fun i => pe_callB (id := "sorted") (by rw [← F.hK i, ← F.hw i]; exact cr_sortM (F.calm i) (F.units i)) (hgl i) (by rw [F.hmg i]; exact hm) (by decide +kernel) (pa_cons ?_ pa_nil (hst i)) (by decide) (by decide) (hst i) (by rfl), fun M π own' σ H ρ R Q x hf hq => ?_⟩
  · have := pe_scN (X := F.X i) (pos := pos) (F.calm i) (by rw [F.hN i]; exact hN) (pw i) (by rw [F.hN i]; exact ok i) hv (fun s H C cl fp => pg (i, s, H, C, cl, fp)) (fun s H C cl fp => pt (i, s, H, C, cl, fp)) (fun s H C cl fp => pe (i, s, H, C, cl, fp)) (hs i) (fun s H C cl fp => pc (i, s, H, C, cl, fp)) hne
    rw [F.hw i] at this
    exact this
  · exact sc_sem hS gw gg gt gc x hf hq
end
end Fn
end P_GD
section P_GS
set_option maxHeartbeats 4000000
/-! What a simp set says of the later combinators. -/
namespace Fn
open PySem
def onDct (R : List (Key × D) → Prop) : D → Prop
  | .dct l => R l
  | _ => False
@[simp ↓] theorem onDct_d {R : List (Key × D) → Prop} {l : List (Key × D)} : onDct R (.dct l) = R l := propext Iff.rfl
section
variable {ρ : Ren} {R : DK} {P : Po} {i j : Nat} {a b c : FE} {t u : FT} {fa : FA} {d : D}
@[simp ↓] theorem bMulA_int {i j : Int} : bMulA (.int i) (.int j) R = (((-(2 ^ 64) < i ∧ i < 2 ^ 64) ∨ (-(2 ^ 64) < j ∧ j < 2 ^ 64)) ∧ R (.int (i * j))) := propext Iff.rfl
@[simp ↓] theorem bMulA_tup {l : List D} {k : Int} : bMulA (.tup l) (.int k) R = (l ≠ [] ∧ 2 ≤ k ∧ k ≤ 1000 ∧ l.length ≤ 1000 ∧ R (.tup (List.replicate k.toNat l).flatten)) := propext Iff.rfl
@[simp ↓] theorem fListA_tup {l : List D} : fListA [.tup l] R = R (.lst l) := propext Iff.rfl
@[simp ↓] theorem fListA_lst {l : List D} : fListA [.lst l] R = R (.lst l) := propext Iff.rfl
@[simp ↓] theorem fListA_dct {l : List (Key × D)} : fListA [.dct l] R = R (.lst (l.map fun kv => keyD kv.1)) := propext Iff.rfl
@[simp ↓] theorem fDict_tup {l : List D} : fDict [.tup l] R = onPairs l R := propext Iff.rfl
@[simp ↓] theorem fDict_lst {l : List D} : fDict [.lst l] R = onPairs l R := propext Iff.rfl
@[simp ↓] theorem fSorted_tup {l : List D} : fSorted [.tup l] R = (okS l ∧ R (.lst (srt l))) := propext Iff.rfl
@[simp ↓] theorem fSorted_lst {l : List D} : fSorted [.lst l] R = (okS l ∧ R (.lst (srt l))) := propext Iff.rfl
@[simp ↓] theorem fStr_int {i : Int} : fStr [.int i] R = (i.natAbs.log2 < 1920 ∧ R (.str (Str.ofString (toString i)))) := propext Iff.rfl
@[simp ↓] theorem fMax_two {i j : Int} : fMax [.int i, .int j] R = R (.int (if j > i then j else i)) := propext Iff.rfl
@[simp ↓] theorem uRev_tup {l : List D} : uRev (.tup l) R = R (.tup l.reverse) := propext Iff.rfl
@[simp ↓] theorem uRev_lst {l : List D} : uRev (.lst l) R = R (.lst l.reverse) := propext Iff.rfl
@[simp ↓] theorem uNeg_int {i : Int} : uNeg (.int i) R = R (.int (-i)) := propext Iff.rfl
@[simp ↓] theorem cLt_str {x y : Str} : cLt (.str x) (.str y) R = R (.bl (ltS x y)) := propext Iff.rfl
@[simp ↓] theorem cGt_str {x y : Str} : cGt (.str x) (.str y) R = R (.bl (ltS y x)) := propext Iff.rfl
@[simp ↓] theorem bDiv_int {i j : Int} : bDiv (.int i) (.int j) R = ((0 < j ∧ j < 1073741824) ∧ R (.int (i / j))) := propext Iff.rfl
@[simp ↓] theorem gSl_str {z : Str} {x y : Option Int} : gSl (.str z) x y R = (z.length ≤ 16777216 ∧ R (.str ⟨(cut z.cps.toList x y).toArray⟩)) := propext Iff.rfl
@[simp ↓] theorem eSc_s {w : FI} {G : FG} {e : FSC} {own : List Nat} : eSc w G t e own ρ R = w ρ fun items => scGo G t e (wipe ρ own) items [] fun S => ∀ l : List Key, l.Perm S → okS (l.map keyD) ∧ R (.lst (srt (l.map keyD))) := propext Iff.rfl
@[simp ↓] theorem eDc_s {w : FI} {G : FG} {own : List Nat} : eDc w G t a b own ρ R = w ρ fun items => dcGo G t a b (wipe ρ own) items [] fun l => R (.dct l) := propext Iff.rfl
@[simp ↓] theorem eDictU_s : eDictU a b c ρ R = a ρ fun x => match x with
  | .dct kvs => b ρ fun y => (match y.key with
    | some q => c ρ fun z => kvs.length < 16777216 ∧ R (.dct (putK (mergeD [] kvs) q z))
    | none => False)
  | _ => False := propext Iff.rfl
@[simp ↓] theorem eSItems_s : eSItems a ρ R = a ρ (onDct fun kvs => okS (kvs.map pairD) ∧ R (.lst (srt (kvs.map pairD)))) := propext Iff.rfl
@[simp ↓] theorem iItems_s {R : List D → Prop} : Fn.iItems a ρ R = a ρ (onDct fun kvs => R (kvs.map pairD)) := propext Iff.rfl
@[simp ↓] theorem iVals_s {R : List D → Prop} : Fn.iVals a ρ R = a ρ (onDct fun kvs => R (kvs.map (·.2))) := propext Iff.rfl
@[simp ↓] theorem iEnum_s {R : List D → Prop} : Fn.iEnum a ρ R = a ρ fun x => match x with
  | .lst l => R (enumD l)
  | _ => False := propext Iff.rfl
@[simp ↓] theorem iStr_s {R : List D → Prop} : Fn.iStr a ρ R = a ρ fun x => match x with
  | .str z => R (z.cps.toList.map fun n => D.str ⟨#[n]⟩)
  | _ => False := propext Iff.rfl
@[simp ↓] theorem eGet_s : eGet a b ρ R = a ρ (onDct fun l => b ρ fun y => (match y.key with
    | some q => R ((lookK q l).getD .non)
    | none => False)) := propext Iff.rfl
@[simp ↓] theorem sAug_s : sAug i a P ρ = eVar i ρ fun x => a ρ fun y => match x, y with
  | .int m, .int k => P.nx (ρ.set i (some (.int (m + k))))
  | _, _ => False := propext Iff.rfl
@[simp ↓] theorem sPutD_s : sPutD i a b P ρ = b ρ fun d => (match ρ[i]? with
  | some (some (.dct l)) => a ρ fun j => (match j.key with
    | some q => l.length < 16777216 ∧ P.nx (ρ.set i (some (.dct (putK l q d))))
    | none => False)
  | _ => False) := propext Iff.rfl
@[simp ↓] theorem eOfI_s {w : FI} {k : List D → D} : eOfI w k ρ R = w ρ fun l => R (k l) := propext Iff.rfl
@[simp ↓] theorem rgOk1_s {R : List D → Prop} : rgOk1 a ρ R = a ρ (onInt fun j => (-(2 ^ 62) ≤ j ∧ j ≤ 16777216) ∧ R (rng 0 j.toNat)) := propext Iff.rfl
@[simp ↓] theorem rgOk2_s {R : List D → Prop} : rgOk2 a b ρ R = a ρ fun x => b ρ fun y => match x, y with
  | .int i, .int j => (-(2 ^ 62) ≤ i ∧ i < 2 ^ 62 ∧ -(2 ^ 62) ≤ j ∧ j < 2 ^ 62 ∧ j - i ≤ 16777216) ∧ R (rng i (j - i).toNat)
  | _, _ => False := propext Iff.rfl
@[simp ↓] theorem eSlL_s {l h : FO} : eSlL a l h ρ R = a ρ fun x => l ρ fun y => h ρ fun z => match x with
  | .lst xs => R (.lst (cut xs y z))
  | _ => False := propext Iff.rfl
@[simp ↓] theorem sAsgX_s {e : FX} {G : FG} : sAsgX e G P ρ = e ρ fun d ρ' => G d ρ' P.nx := propext Iff.rfl
@[simp ↓] theorem scEl_s {S : List Key} {R : List Key → Prop} : scEl a ρ S R = a ρ fun d => match d.key with
  | some k => S.length < 4000 ∧ R (if (S.any fun q => decide (q = k)) = true then S else k :: S)
  | none => False := propext Iff.rfl
@[simp ↓] theorem eChain_s {g g2 : G2} : eChain g g2 a b c ρ R = a ρ fun x => b ρ fun y => g x y (onBl fun k => if k = true then c ρ fun u => g2 y u R else R (.bl false)) := propext Iff.rfl
@[simp ↓] theorem sExt_s : sExt i a P ρ = (match ρ[i]? with
  | some (some (.lst l)) => a ρ (onSeq fun m => l.length + m.length ≤ 16777216 ∧ P.nx (ρ.set i (some (.lst (l ++ m)))))
  | _ => False) := by
  unfold sExt
  generalize ρ[i]? = o
  rcases o with _ | _ | d
  · rfl
  · rfl
  · cases d <;> try rfl
    dsimp only
    congr 1
    funext d
    cases d <;> rfl
theorem lcCl_s {wi : FI} {G : FG} {t : FT} {vs : List Nat} {e : Ren → Nat → (List D → Prop) → Prop} {n : Nat} {R : List D → Prop} : lcCl wi G t vs e ρ n R = wi ρ fun items => lcGo G t e (wipe ρ vs) items n R := propext Iff.rfl
theorem isIn_tup {x : D} {l : List D} {R : Bool → Prop} : isIn x (.tup l) R = ((x.dat = true ∧ x.dep ≤ 64 ∧ datL l = true) ∧ R (l.any fun z => eqb z x)) := propext Iff.rfl
theorem isIn_lst {x : D} {l : List D} {R : Bool → Prop} : isIn x (.lst l) R = ((x.dat = true ∧ x.dep ≤ 64 ∧ datL l = true) ∧ R (l.any fun z => eqb z x)) := propext Iff.rfl
theorem isIn_str {c z : Str} {R : Bool → Prop} : isIn (.str c) (.str z) R = ∃ n, c = ⟨#[n]⟩ ∧ R (decide (n ∈ z.cps.toList)) := propext Iff.rfl
theorem fAll_l {l : List D} : fAll [.lst l] R = (match bools l with
  | some bs => R (.bl (bs.all id))
  | none => False) := propext Iff.rfl
@[simp] theorem key_int {i : Int} : (D.int i).key = some (.inl i) := rfl
@[simp] theorem key_str {x : Str} : (D.str x).key = some (.inr x) := rfl
@[simp] theorem keyD_l {i : Int} : keyD (.inl i) = .int i := rfl
@[simp] theorem keyD_r {x : Str} : keyD (.inr x) = .str x := rfl
end
end Fn
end P_GS
section P_GT
set_option maxHeartbeats 4000000
/-! Plain facts: sorted texts, data of bounded size, places in data. -/
namespace Fn
open PySem
/-! ### sorted texts -/
def leS (a b : Str) : Bool := decide (a.cps.toList ≤ b.cps.toList)
def srtS (l : List Str) : List Str := l.mergeSort leS
theorem srt_strs (l : List Str) : srt (l.map D.str) = (srtS l).map D.str := by
  refine (PySem.W.sort_maps (r := leS) (s := PySem.W.dataLe false D.py) D.str fun a _ b _ => ?_).symm
  have := congrFun (congrFun (PySem.W.dataLe_str (fun x : Str => x)) a) b
  exact this.symm
theorem okS_strs (l : List Str) : okS (l.map D.str) := by
  have e : pyL (l.map D.str) = l.map PyData.str := by rw [pyL_map, List.map_map]; rfl
  refine ⟨?_, ?_, ?_, ?_⟩
  · rw [datL_all]; simp
  · rw [e]; exact PySem.W.AllAlike.of (enc := PyData.str) fun b b' => by simp [PySem.W.alike]
  · rw [e]; exact PySem.W.Sortable.others (enc := PyData.str) fun b => ⟨by simp, by simp⟩
  · intro d hd
    obtain ⟨x, _, rfl⟩ := List.mem_map.mp hd
    simp
theorem leS_trans (a b c : Str) (h : leS a b = true) (g : leS b c = true) : leS a c = true := by
  simp only [leS, decide_eq_true_eq] at *
  exact List.le_trans h g
theorem leS_total (a b : Str) : (leS a b || leS b a) = true := by
  simp only [leS, Bool.or_eq_true, decide_eq_true_eq]
  exact List.le_total _ _
theorem leS_anti (a b : Str) (h : leS a b = true) (g : leS b a = true) : a = b := by
  simp only [leS, decide_eq_true_eq] at *
  have := List.le_antisymm h g
  cases a; cases b
  simp at this
  simp [this]
theorem sorted_eq : ∀ {l m : List Str}, l.Pairwise (fun a b => leS a b = true) → m.Pairwise (fun a b => leS a b = true) → l.Perm m → l = m
  | [], m, _, _, p => (List.nil_perm.mp p).symm
  | a :: l, m, hl, hm, p => by
    cases m with
    | nil => exact absurd p.length_eq (by simp)
    | cons b m =>
      have ab : a = b := by
        have h1 : a ∈ b :: m := p.mem_iff.mp List.mem_cons_self
        have h2 : b ∈ a :: l := p.mem_iff.mpr List.mem_cons_self
        rcases List.mem_cons.mp h1 with z | z
        · exact z
        · rcases List.mem_cons.mp h2 with y | y
          · exact y.symm
          · exact leS_anti _ _ ((List.pairwise_cons.mp hl).1 _ y) ((List.pairwise_cons.mp hm).1 _ z)
      subst ab
      rw [sorted_eq (List.pairwise_cons.mp hl).2 (List.pairwise_cons.mp hm).2 (List.Perm.cons_inv p)]
theorem srtS_perm {l m : List Str} (p : l.Perm m) : srtS l = srtS m :=
  sorted_eq (List.pairwise_mergeSort leS_trans leS_total l) (List.pairwise_mergeSort leS_trans leS_total m) ((List.mergeSort_perm l leS).trans (p.trans (List.mergeSort_perm m leS).symm))
theorem srtS_mem {l : List Str} {x : Str} : x ∈ srtS l ↔ x ∈ l := List.mem_mergeSort
theorem srtS_len {l : List Str} : (srtS l).length = l.length := List.length_mergeSort l
theorem bools_map {α : Type} (f : α → Bool) (l : List α) : bools (l.map fun x => D.bl (f x)) = some (l.map f) := by
  induction l with
  | nil => rfl
  | cons x r ih => simp [bools, ih]
theorem fAll_map {α : Type} {f : α → Bool} {l : List α} {R : DK} (h : R (.bl (l.all f))) : fAll [.lst (l.map fun x => D.bl (f x))] R := by
  rw [fAll_l, bools_map]
  simpa [List.all_map, Function.comp_def] using h
theorem isIn_strsT {x : Str} {l : List Str} {R : Bool → Prop} (h : R (l.any fun z => decide (z = x))) : isIn (.str x) (.tup (l.map D.str)) R := by
  rw [isIn_tup]
  refine ⟨⟨rfl, by simp, by rw [datL_all]; simp⟩, ?_⟩
  simpa only [List.any_map, Function.comp_def, eqb_str] using h
theorem isIn_strsL {x : Str} {l : List Str} {R : Bool → Prop} (h : R (l.any fun z => decide (z = x))) : isIn (.str x) (.lst (l.map D.str)) R := by
  rw [isIn_lst]
  refine ⟨⟨rfl, by simp, by rw [datL_all]; simp⟩, ?_⟩
  simpa only [List.any_map, Function.comp_def, eqb_str] using h
theorem len_none {α : Type} {f : α → Bool} {l : List α} : decide (((l.filter fun x => !f x).length : Int) = 0) = l.all f := by
  rw [Bool.eq_iff_iff, decide_eq_true_iff, List.all_eq_true]
  constructor
  · intro h x hx
    have e : (l.filter fun x => !f x) = [] := List.length_eq_zero_iff.mp (by omega)
    have := List.filter_eq_nil_iff.mp e x hx
    simpa using this
  · intro h
    have e : (l.filter fun x => !f x) = [] := List.filter_eq_nil_iff.mpr fun x hx => by simp [h x hx]
    rw [e]; rfl
theorem nil_none {α β : Type} {f : α → Bool} {g : α → β} {l : List α} {inst : Decidable ((l.filter fun x => !f x).map g = [])} : @decide ((l.filter fun x => !f x).map g = []) inst = l.all f := by
  rw [Bool.eq_iff_iff, decide_eq_true_iff, List.map_eq_nil_iff, List.filter_eq_nil_iff, List.all_eq_true]
  simp
/-- a set of texts filled -/
theorem sc_words {G : FG} {t : FT} {c : FSC} {ρ : Ren} {R : List Key → Prop} : ∀ (W : List Str) (S : List Str),
    (∀ w ∈ W, ∀ (R : Ren → Prop), (∀ ρ', (∀ Q : Bool → Prop, Q (!decide (w = ("nil" : Str))) → t ρ' Q) → (∀ (S : List Key) (Q : List Key → Prop), S.length < 4000 → Q (if (S.any fun q => decide (q = .inr w)) = true then S else .inr w :: S) → c ρ' S Q) → R ρ') → G (.str w) ρ R) →
    S.Nodup → S.length + W.length < 4000 → (∀ T : List Str, T.Nodup → (∀ w, w ∈ T ↔ w ∈ S ∨ (w ∈ W ∧ w ≠ ("nil" : Str))) → R (T.map Sum.inr)) → scGo G t c ρ (W.map D.str) (S.map Sum.inr) R
  | [], S, _, hn, _, h => by
    rw [List.map_nil, scGo]
    exact h S hn (by simp)
  | w :: W, S, hG, hn, hl, h => by
    rw [List.map_cons, scGo]
    refine hG w List.mem_cons_self _ fun ρ' ht hc => ht _ ?_
    simp only [List.length_cons] at hl
    by_cases c0 : w = ("nil" : Str)
    · rw [if_neg (by simp [c0])]
      refine sc_words W S (fun z hz => hG z (List.mem_cons_of_mem _ hz)) hn (by omega) fun T h1 h2 => h T h1 fun z => ?_
      rw [h2 z, List.mem_cons]
      constructor
      · rintro (y | ⟨y, k⟩)
        · exact .inl y
        · exact .inr ⟨.inr y, k⟩
      · rintro (y | ⟨y | y, k⟩)
        · exact .inl y
        · exact absurd (y.trans c0) k
        · exact .inr ⟨y, k⟩
    · rw [if_pos (by simp [c0])]
      refine hc _ _ (by simp; omega) ?_
      have e : ((S.map Sum.inr : List Key).any fun q => decide (q = .inr w)) = true ↔ w ∈ S := by
        simp [List.any_map]
      by_cases c1 : w ∈ S
      · rw [if_pos (e.2 c1)]
        refine sc_words W S (fun z hz => hG z (List.mem_cons_of_mem _ hz)) hn (by omega) fun T h1 h2 => h T h1 fun z => ?_
        rw [h2 z, List.mem_cons]
        constructor
        · rintro (y | ⟨y, k⟩)
          · exact .inl y
          · exact .inr ⟨.inr y, k⟩
        · rintro (y | ⟨y | y, k⟩)
          · exact .inl y
          · exact .inl (y ▸ c1)
          · exact .inr ⟨y, k⟩
      · rw [if_neg fun z => c1 (e.1 z)]
        rw [← List.map_cons (f := Sum.inr)]
        refine sc_words W (w :: S) (fun z hz => hG z (List.mem_cons_of_mem _ hz)) (List.nodup_cons.mpr ⟨c1, hn⟩) (by simp; omega) fun T h1 h2 => h T h1 fun z => ?_
        rw [h2 z, List.mem_cons, List.mem_cons]
        constructor
        · rintro ((y | y) | ⟨y, k⟩)
          · exact .inr ⟨.inl y, y ▸ c0⟩
          · exact .inl y
          · exact .inr ⟨.inr y, k⟩
        · rintro (y | ⟨y | y, k⟩)
          · exact .inl (.inr y)
          · exact .inl (.inl y)
          · exact .inr ⟨y, k⟩
def unR : Key → Option Str
  | .inr w => some w
  | .inl _ => none
theorem perm_texts {l : List Key} {T : List Str} (p : l.Perm (T.map Sum.inr)) : ∃ T' : List Str, T'.Perm T ∧ l = T'.map Sum.inr := by
  have hl : ∀ k ∈ l, ∃ w, k = .inr w := fun k hk => by
    obtain ⟨w, _, rfl⟩ := List.mem_map.mp (p.mem_iff.mp hk)
    exact ⟨w, rfl⟩
  have e : ∀ l : List Key, (∀ k ∈ l, ∃ w, k = .inr w) → ∃ T' : List Str, l = T'.map Sum.inr := by
    intro l
    induction l with
    | nil => exact fun _ => ⟨[], rfl⟩
    | cons k r ih =>
      intro h
      obtain ⟨w, rfl⟩ := h k List.mem_cons_self
      obtain ⟨T', rfl⟩ := ih fun z hz => h z (List.mem_cons_of_mem _ hz)
      exact ⟨w :: T', rfl⟩
  obtain ⟨T', rfl⟩ := e l hl
  refine ⟨T', ?_, rfl⟩
  have g : ∀ T : List Str, (T.map (Sum.inr : Str → Key)).filterMap unR = T := by
    intro T
    induction T with
    | nil => rfl
    | cons w r ih => rw [List.map_cons, List.filterMap_cons, ih]; rfl
  have := p.filterMap unR
  rwa [g, g] at this
theorem sc_end {T : List Str} {R : DK} (h : R (.lst ((srtS T).map D.str))) : ∀ l : List Key, l.Perm (T.map Sum.inr) → okS (l.map keyD) ∧ R (.lst (srt (l.map keyD))) := by
  intro l p
  obtain ⟨T', q, rfl⟩ := perm_texts p
  have e : (T'.map (Sum.inr : Str → Key)).map keyD = T'.map D.str := by simp [Function.comp_def]
  rw [e]
  refine ⟨okS_strs T', ?_⟩
  rw [srt_strs, srtS_perm q]
  exact h
/-- a loop that keeps I -/
theorem forGo_all {G : FG} {b : FS} {P : Po} (I : Ren → Prop) : ∀ (ds : List D) {ρ : Ren}, I ρ → (∀ d ∈ ds, ∀ ρ, I ρ → ∀ K : Ren → Prop, (∀ ρ', I ρ' → K ρ') → G d ρ fun ρ' => b ⟨K, P.rt, P.nx, K⟩ ρ') → (∀ ρ, I ρ → P.nx ρ) → forGo G b P ds ρ
  | [], _, h, _, last => by rw [forGo]; exact last _ h
  | d :: r, ρ, h, step, last => by
    rw [forGo]
    exact step d List.mem_cons_self ρ h _ fun ρ' h' => forGo_all I r h' (fun z hz => step z (List.mem_cons_of_mem _ hz)) last
/-! ### data of bounded size -/
/-- None, truth values, numbers, texts, tuples, lists: no deeper than n, no longer than b -/
def wf (b : Nat) : Nat → D → Prop
  | 0, _ => False
  | n + 1, .tup l => l.length ≤ b ∧ ∀ d ∈ l, wf b n d
  | n + 1, .lst l => l.length ≤ b ∧ ∀ d ∈ l, wf b n d
  | _ + 1, .non => True
  | _ + 1, .bl _ => True
  | _ + 1, .int i => i.natAbs.log2 < 1900
  | _ + 1, .str x => x.length ≤ b
  | _ + 1, _ => False
theorem wf_tup {b n : Nat} {l : List D} : wf b (n + 1) (.tup l) ↔ l.length ≤ b ∧ ∀ d ∈ l, wf b n d := Iff.rfl
theorem wf_lst {b n : Nat} {l : List D} : wf b (n + 1) (.lst l) ↔ l.length ≤ b ∧ ∀ d ∈ l, wf b n d := Iff.rfl
theorem wf_str {b n : Nat} {x : Str} : wf b (n + 1) (.str x) ↔ x.length ≤ b := Iff.rfl
theorem wf_mono {b c : Nat} (hb : b ≤ c) : ∀ {n m : Nat} {d : D}, n ≤ m → wf b n d → wf c m d
  | 0, _, _, _, h => h.elim
  | n + 1, 0, _, z, _ => absurd z (by omega)
  | n + 1, m + 1, .tup l, z, h => ⟨Nat.le_trans (And.left h) hb, fun d hd => wf_mono hb (by omega) (And.right h d hd)⟩
  | n + 1, m + 1, .lst l, z, h => ⟨Nat.le_trans (And.left h) hb, fun d hd => wf_mono hb (by omega) (And.right h d hd)⟩
  | n + 1, m + 1, .non, _, _ => True.intro
  | n + 1, m + 1, .bl _, _, _ => True.intro
  | n + 1, m + 1, .int i, _, h => h
  | n + 1, m + 1, .str x, _, h => Nat.le_trans h hb
theorem wf_dat {b : Nat} : ∀ {n : Nat} {d : D}, wf b n d → d.dat = true ∧ d.dep ≤ n
  | 0, _, h => h.elim
  | n + 1, .tup l, h => by
    have key : ∀ r : List D, (∀ d ∈ r, wf b n d) → datL r = true ∧ depL r ≤ n := by
      intro r
      induction r with
      | nil => intro _; simp
      | cons d r ih =>
        intro hr
        have h1 := wf_dat (hr d List.mem_cons_self)
        have h2 := ih fun z hz => hr z (List.mem_cons_of_mem _ hz)
        simp [h1.1, h2.1]
        omega
    have := key l (And.right h)
    simp [this.1]
    omega
  | n + 1, .lst l, h => by
    have key : ∀ r : List D, (∀ d ∈ r, wf b n d) → datL r = true ∧ depL r ≤ n := by
      intro r
      induction r with
      | nil => intro _; simp
      | cons d r ih =>
        intro hr
        have h1 := wf_dat (hr d List.mem_cons_self)
        have h2 := ih fun z hz => hr z (List.mem_cons_of_mem _ hz)
        simp [h1.1, h2.1]
        omega
    have := key l (And.right h)
    simp [this.1]
    omega
  | n + 1, .non, _ => by simp
  | n + 1, .bl _, _ => by simp
  | n + 1, .int _, _ => by simp
  | n + 1, .str _, _ => by simp
theorem wf_tyN {b : Nat} : ∀ {n : Nat} {d : D}, wf b n d → d.tyN ≠ none
  | _ + 1, .tup _, _ => by simp
  | _ + 1, .lst _, _ => by simp
  | _ + 1, .non, _ => by simp
  | _ + 1, .bl _, _ => by simp
  | _ + 1, .int _, _ => by simp
  | _ + 1, .str _, _ => by simp
/-! ### items and slices -/
section
variable {x y z : D} {r : List D} {R : DK}
@[simp ↓] theorem bIx_l0 : bIx (.lst (x :: r)) (.int 0) R = R x := by
  show (match Fn.atI (x :: r) 0 with | some d => R d | none => False) = _
  have : Fn.atI (x :: r) 0 = some x := atI_of (l := x :: r) (k := 0) (by simp)
  rw [this]
@[simp ↓] theorem bIx_l1 : bIx (.lst (x :: y :: r)) (.int 1) R = R y := by
  show (match Fn.atI (x :: y :: r) 1 with | some d => R d | none => False) = _
  have : Fn.atI (x :: y :: r) 1 = some y := atI_of (l := x :: y :: r) (k := 1) (by simp)
  rw [this]
end
theorem cut_mem {α : Type} {l : List α} {x : α} {i j : Option Int} (h : x ∈ cut l i j) : x ∈ l := List.mem_of_mem_drop (List.mem_of_mem_take h)
theorem cut_len {α : Type} {l : List α} {i j : Option Int} : (cut l i j).length ≤ l.length := by
  unfold cut
  rw [List.length_take, List.length_drop]
  omega
theorem sIx_none {n d : Nat} : sIx n d none = d := rfl
theorem sIx_nat {n d k : Nat} : sIx n d (some (k : Int)) = min k n := by
  show (if (k : Int) < 0 then ((k : Int) + (n : Int)).toNat else min (k : Int).toNat n) = _
  rw [if_neg (by omega), Int.toNat_natCast]
theorem cut_to {α : Type} (l : List α) (k : Nat) : cut l none (some (k : Int)) = l.take k := by
  rw [cut, sIx_none, sIx_nat, Nat.sub_zero, List.drop_zero]
  by_cases h : k ≤ l.length
  · rw [Nat.min_eq_left h]
  · rw [Nat.min_eq_right (by omega), List.take_of_length_le (by omega), List.take_of_length_le (by omega)]
theorem cut_from {α : Type} (l : List α) (k : Nat) : cut l (some (k : Int)) none = l.drop k := by
  rw [cut, sIx_none, sIx_nat, List.take_of_length_le (by simp)]
  by_cases h : k ≤ l.length
  · rw [Nat.min_eq_left h]
  · rw [Nat.min_eq_right (by omega), List.drop_of_length_le (by omega), List.drop_of_length_le (by omega)]
theorem cut_two {α : Type} (l : List α) (i j : Nat) : cut l (some (i : Int)) (some (j : Int)) = (l.drop i).take (j - i) := by
  rw [cut, sIx_nat, sIx_nat]
  by_cases h : i ≤ l.length
  · rw [Nat.min_eq_left h]
    by_cases g : j ≤ l.length
    · rw [Nat.min_eq_left g]
    · rw [Nat.min_eq_right (by omega), List.take_of_length_le (by simp), List.take_of_length_le (by simp; omega)]
  · rw [Nat.min_eq_right (a := i) (by omega), List.drop_of_length_le (Nat.le_refl _), List.drop_of_length_le (by omega)]
    simp
theorem cut_last {α : Type} {l : List α} (h : l ≠ []) : cut l (some (-1)) none = [l.getLast h] := by
  have hp : 0 < l.length := List.length_pos_iff.mpr h
  have e : sIx l.length 0 (some (-1)) = l.length - 1 := by
    show (if (-1 : Int) < 0 then ((-1 : Int) + (l.length : Int)).toNat else min (-1 : Int).toNat l.length) = _
    rw [if_pos (by omega)]
    omega
  rw [cut, sIx_none, e, List.take_of_length_le (by simp)]
  have := List.drop_eq_getElem_cons (l := l) (i := l.length - 1) (by omega)
  rw [this, List.drop_of_length_le (by omega), List.getLast_eq_getElem]
/-! ### places in data -/
def validP : D → List Nat → Prop
  | _, [] => True
  | .tup l, k :: p => ∃ d, l[k]? = some d ∧ validP d p
  | _, _ => False
def putAt (item : D) : D → List Nat → D
  | _, [] => item
  | .tup l, k :: p => .tup (l.take k ++ [putAt item (l.getD k .non) p] ++ l.drop (k + 1))
  | d, _ => d
def atP : D → List Nat → D
  | d, [] => d
  | .tup l, k :: p => atP (l.getD k .non) p
  | d, _ => d
theorem putAt_wf {b : Nat} {item : D} {m : Nat} (hi : wf b m item) : ∀ (p : List Nat) {n : Nat} {v : D}, wf b n v → validP v p → wf b (n + m) (putAt item v p)
  | [], n, v, _, _ => by rw [putAt]; exact wf_mono (Nat.le_refl b) (by omega) hi
  | k :: p, 0, v, h, _ => h.elim
  | k :: p, n + 1, .tup l, h, ⟨d, hd, hv⟩ => by
    rw [putAt, show n + 1 + m = (n + m) + 1 by omega, wf_tup]
    have hk : k < l.length := (List.getElem?_eq_some_iff.mp hd).1
    have e : l.getD k .non = d := by simp [List.getD, hd]
    have hdm : d ∈ l := List.mem_of_getElem? hd
    refine ⟨?_, fun z hz => ?_⟩
    · have := And.left h
      simp
      omega
    · simp only [List.append_assoc, List.mem_append, List.mem_cons, List.not_mem_nil, or_false, List.singleton_append] at hz
      rcases hz with z1 | rfl | z1
      · exact wf_mono (Nat.le_refl b) (by omega) (And.right h z (List.mem_of_mem_take z1))
      · rw [e]
        exact putAt_wf hi p (And.right h d hdm) hv
      · exact wf_mono (Nat.le_refl b) (by omega) (And.right h z (List.mem_of_mem_drop z1))
theorem atP_wf {b : Nat} : ∀ (p : List Nat) {n : Nat} {v : D}, wf b n v → validP v p → wf b n (atP v p)
  | [], n, v, h, _ => by rw [atP]; exact h
  | k :: p, 0, v, h, _ => h.elim
  | k :: p, n + 1, .tup l, h, ⟨d, hd, hv⟩ => by
    rw [atP]
    have e : l.getD k .non = d := by simp [List.getD, hd]
    rw [e]
    exact wf_mono (Nat.le_refl b) (by omega) (atP_wf p (And.right h d (List.mem_of_getElem? hd)) hv)
end Fn
end P_GT
section P_GE
set_option maxHeartbeats 1000000
/-! Constants of the module, found in the head's objects. -/
namespace Fn
open PySem PySem.Spec PyProof.Rows L2 He
/-- the module's name x is a plain tuple of these -/
def tupN (K : PySem.W.Frag) (x : Str) (vs : List Dv) : Bool := match K.lookup (ga K x) with
  | some ⟨.type c, none, .seq its _, _⟩ => decide (c = "tuple") && (decide (its.size ≤ sizeLine) && relAll (vs.map (Dv.v K)) its.toList)
  | _ => false
theorem tupN_ok {K : PySem.W.Frag} {x : Str} {vs : List Dv} (h : tupN K x vs = true) : KT K (ga K x) (vs.map (Dv.v K)) := by
  unfold tupN at h
  split at h
  · rename_i c its n sl e
    obtain ⟨h1, h2⟩ := ba h
    obtain ⟨h3, h4⟩ := ba h2
    exact ⟨_, its, n, e, congrArg Value.type (of_decide_eq_true h1), rfl, of_decide_eq_true h3, relAll_ok h4, rfl⟩
  · cases h
theorem KonV.strs {K : PySem.W.Frag} {mg : Str → Option Value} {x : Str} {l : List Str} (h : mg x = some (.ref (ga K x))) (t : tupN K x (l.map Dv.str) = true) : KonV K mg x (.tup (l.map D.str)) := by
  refine KonV.tup h (tupN_ok t) fun M π H => ?_
  clear t h
  induction l with
  | nil => rfl
  | cons z r ih => exact ⟨.str z, _, rfl, rfl, ih⟩
end Fn
end P_GE
section P_GF
set_option maxHeartbeats 1000000
/-! New objects made by calls, kept as one's own: list(x), dict(pairs), sorted(x). -/
namespace Fn
open PySem PySem.Spec PyProof.Rows L2
section
variable (F : Fam)
def CallF (f : Value) (g : GA) : Prop := ∃ r : List V → Hp → VK → Prop, (∀ i, CallR (F.X i) f r) ∧ ∀ N π H l xs (R : DK) (Q : VK), Ctx N π H → RepOL F.K N π H l xs → g l R →
  (∀ d a H', Keep π H H' → H a = none → OwnRep F.K (fun b => N b ∨ b = a) π H' a d → R d → Q (.ref a) H') → r xs H Q
end
section
variable {F : Fam} {O : Nat → Bool} {e : Expr} {es : List Expr} {pos p : Pos}
theorem vf_callT {x : Str} {T : String} {g : GA} {fl : FA} (hc : CallF F (.type T) g) (hm : F.mg x = none) (ha : VRA F O (e :: es) fl) (hg : ∀ i, Gl (F.X i) x := by intro _; rfl) (hv : bootBuiltins x = some (.type T) := by decide +kernel) (hn : x ≠ "__name__" := by decide)
    (hdb : (x == ("__debug__" : Str)) = false := by decide)
    (he : ∀ i, starEach (e :: es) (F.X i).env = (false, eval e (F.X i).env) :: starEach es (F.X i).env := by intro _; rfl) (hpl : ∀ i, (backTo pos (starEach es (F.X i).env)).any (·.1) = false := by intro _; rfl) : VF F O (.Call (.Name x p) (e :: es) [] pos) (eCall g fl) := by
  obtain ⟨r, hr, gr⟩ := hc
  obtain ⟨t, pt, gt⟩ := ha
  refine ⟨_, fun i => pe_callTy (hr i) (hg i) (by rw [F.hmg i]; exact hm) hv (pt i) hn hdb (he i) (hpl i), fun M π own σ H ρ R Q x hf hq => ?_⟩
  refine gt M π own σ H ρ _ _ x hf fun l xs H1 k1 r1 h1 => ?_
  exact gr _ π H1 l xs _ _ (x.keep k1).ctx r1 h1 fun d a H2 k2 n2 o2 => hq d a H2 (k1.trans k2) (x.ctx.noneOf k1 n2) o2
theorem cf_dict : CallF F (.type "dict") fDict := by
  refine ⟨rDictU F.K, fun i => by rw [← F.hK i]; exact cr_dictU (F.calm i), fun N π H l xs R Q c r h hq => ?_⟩
  have go : ∀ (l : List D) (ys : List V) (a : Addr), Pl F.K H a ys → RepL F.K N π H l ys → onPairs l R → rDictU F.K [.ref a] H Q := fun l ys a hp hr h => by
    unfold onPairs at h
    cases e : pairsK l with
    | none => rw [e] at h; exact h.elim
    | some kvs =>
      rw [e] at h
      obtain ⟨ps, ms, e1, h1, h2⟩ := pairs_rep hr e
      subst e1
      refine ⟨a, ps, ms, rfl, hp, h1, fun q nq => hq (.dct _) q _ (c.keepNew nq) nq ⟨_, upd_same, ?_⟩ h⟩
      refine RepK.hold (fun b o z _ => same_upd nq b o z) (fun b z => ?_) _ _ (repK_merge h2 rfl)
      rcases z with z | z
      · exact .inl z
      · exact .inr (z ▸ nq)
  match l, h with
  | [.tup l], h =>
    obtain ⟨v, e, r⟩ := repOL1 r
    obtain ⟨a, ys, e2, s, r2⟩ := Rep.pl r.repT
    subst e e2
    exact go l ys a s r2 h
  | [.lst l], h =>
    obtain ⟨v, e, r⟩ := repOL1 r
    obtain ⟨a, ys, e2, s, r2⟩ := r.lst
    subst e e2
    exact go l ys a (.inl (SqL.of s)) r2 h
theorem ownL {N : Addr → Prop} {π : Pi} {H : Hp} {l : List D} {xs : List V} {q : Addr} (r : RepL F.K N π H l xs) (nq : H q = none) : OwnRep F.K (fun b => N b ∨ b = q) π (upd H q (.lst xs)) q (.lst l) := by
  refine ⟨xs, upd_same, RepL.hold (fun b o z _ => same_upd nq b o z) (fun b z => ?_) _ _ r⟩
  rcases z with z | z
  · exact .inl z
  · exact .inr (z ▸ nq)
theorem cf_listA : CallF F (.type "list") fListA := by
  refine ⟨_, fun i => (by rw [← F.hK i]; exact call_list_of : CallR (F.X i) (.type "list") (fun xs H Q => ∃ p ys, xs = [.ref p] ∧ (SqL F.K H p ys ∨ SqT F.K H p ys) ∧ ∀ l, H l = none → Q (.ref l) (upd H l (.lst ys)))).or (call_listD (F.calm i)), fun N π H l xs R Q c r h hq => ?_⟩
  match l, h with
  | [.tup l], h =>
    obtain ⟨v, e, r⟩ := repOL1 r
    obtain ⟨a, ys, e2, s, r2⟩ := r.tup
    subst e e2
    exact .inl ⟨a, ys, rfl, .inr s, fun q nq => hq (.lst l) q _ (c.keepNew nq) nq (ownL r2 nq) h⟩
  | [.lst l], h =>
    obtain ⟨v, e, r⟩ := repOL1 r
    obtain ⟨a, ys, e2, s, r2⟩ := r.lst
    subst e e2
    exact .inl ⟨a, ys, rfl, .inl (SqL.of s), fun q nq => hq (.lst l) q _ (c.keepNew nq) nq (ownL r2 nq) h⟩
  | [.dct l], h =>
    obtain ⟨v, e, r⟩ := repOL1 r
    obtain ⟨a, kvs, e2, _, s, r2⟩ := r
    subst e e2
    exact .inr ⟨a, kvs, rfl, s, fun q nq => hq (.lst _) q _ (c.keepNew nq) nq (ownL (repK_keys r2) nq) h⟩
/-! ### dict(x) of pairs and of dicts -/
def fDictA : GA := fun l R => match l with
  | [.tup l] => onPairs l R
  | [.lst l] => onPairs l R
  | [.dct l] => R (.dct l)
  | _ => False
def rDictD : List V → Hp → VK → Prop := fun xs H Q => ∃ (a : Addr) (kvs : List (L2.Key × V)), xs = [.ref a] ∧ Rd H a (.dK kvs) ∧ ∀ p od, H p = none → Q (.ref p) (upd H p (.frz od (.dK kvs)))
theorem cr_dictD {X : Cx} : CallR X (.type "dict") rDictD := by
  rintro pins s σ H xs us Q I r ⟨a, kvs, e, hs, q⟩
  refine thn (call_dictD pins s σ H xs us (fun x H' => ∃ p, H p = none ∧ x = .ref p ∧ H' = upd H p (.dK kvs)) I r ⟨a, kvs, e, hs, fun p np => ⟨p, np, rfl, rfl⟩⟩) ?_
  rintro u s' ⟨x, H', J, rx, p, np, rfl, rfl⟩
  obtain ⟨od, J'⟩ := lock_new J True.intro
  exact ⟨.ref p, _, J', rx, q p od np⟩
theorem cd_dictA : CallD F (.type "dict") fDictA := by
  obtain ⟨r, h1, h2⟩ := cd_dict (F := F)
  refine ⟨_, fun i => (h1 i).or cr_dictD, fun N π H l xs R Q c r h hq => ?_⟩
  match l, h with
  | [.tup l], h => exact .inl (h2 N π H _ xs R Q c r h hq)
  | [.lst l], h => exact .inl (h2 N π H _ xs R Q c r h hq)
  | [.dct l], h =>
    obtain ⟨v, e, r⟩ := repOL1 r
    obtain ⟨a, kvs, e2, _, s, r2⟩ := r
    subst e e2
    refine .inr ⟨a, kvs, rfl, s, fun q od nq => hq (.dct l) _ _ (c.keepNew nq) ⟨q, kvs, rfl, ⟨fun z => ?_, od, upd_same⟩, RepK.hold (hold_upd nq) (fun b z => .inl z) _ _ r2⟩ h⟩
    obtain ⟨o, e⟩ := c.alloc q z
    rw [e] at nq; cases nq
theorem cf_dictA : CallF F (.type "dict") fDictA := by
  obtain ⟨r, h1, h2⟩ := cf_dict (F := F)
  refine ⟨_, fun i => (h1 i).or call_dictD, fun N π H l xs R Q c r h hq => ?_⟩
  match l, h with
  | [.tup l], h => exact .inl (h2 N π H _ xs R Q c r h hq)
  | [.lst l], h => exact .inl (h2 N π H _ xs R Q c r h hq)
  | [.dct l], h =>
    obtain ⟨v, e, r⟩ := repOL1 r
    obtain ⟨a, kvs, e2, _, s, r2⟩ := r
    subst e e2
    refine .inr ⟨a, kvs, rfl, s, fun q nq => hq (.dct l) q _ (c.keepNew nq) nq ⟨kvs, upd_same, RepK.hold (fun b o z _ => same_upd nq b o z) (fun b z => ?_) _ _ r2⟩ h⟩
    rcases z with z | z
    · exact .inl z
    · exact .inr (z ▸ nq)
@[simp ↓] theorem fDictA_tup {l : List D} {R : DK} : fDictA [.tup l] R = onPairs l R := propext Iff.rfl
@[simp ↓] theorem fDictA_lst {l : List D} {R : DK} : fDictA [.lst l] R = onPairs l R := propext Iff.rfl
@[simp ↓] theorem fDictA_dct {l : List (Key × D)} {R : DK} : fDictA [.dct l] R = R (.dct l) := propext Iff.rfl
end
end Fn
end P_GF
section P_GG
set_option maxHeartbeats 4000000
/-! Plain facts: sorted pairs, dicts of pairs. -/
namespace Fn
open PySem
/-! ### sorted pairs of numbers -/
def pII (p : Int × Int) : D := .tup [.int p.1, .int p.2]
def leII (p q : Int × Int) : Bool := decide (p.1 < q.1 ∨ (p.1 = q.1 ∧ p.2 ≤ q.2))
def srtII (l : List (Int × Int)) : List (Int × Int) := l.mergeSort leII
theorem py_pII (p : Int × Int) : (pII p).py = .tuple [.int p.1, .int p.2] := by simp [pII, D.py, pyL]
theorem srt_ii (l : List (Int × Int)) : srt (l.map pII) = (srtII l).map pII := by
  refine (PySem.W.sort_maps (r := leII) (s := PySem.W.dataLe false D.py) pII fun a _ b _ => ?_).symm
  have := congrFun (congrFun (PySem.W.dataLe_ii (fun x : Int × Int => x.1) (fun x => x.2)) a) b
  have e : PySem.W.dataLe false D.py (pII a) (pII b) = PySem.W.dataLe false (fun b : Int × Int => PyData.tuple [.int b.1, .int b.2]) a b := by
    rw [PySem.W.dataLe_eq, PySem.W.dataLe_eq]
    dsimp only
    rw [py_pII, py_pII]
  rw [e, this]
  rfl
theorem okS_tups {α : Type} {f : α → D} {l : List α} (h1 : ∀ a, (f a).dat = true ∧ (f a).dep ≤ 60) (h2 : ∀ a b, PySem.W.alike (f a).py (f b).py = true) (h3 : ∀ a, ∃ x r, (f a).py = .tuple (x :: r)) : okS (l.map f) := by
  have e : pyL (l.map f) = l.map fun a => (f a).py := by rw [pyL_map, List.map_map]; rfl
  refine ⟨?_, ?_, ?_, ?_⟩
  · rw [datL_all]
    simp
    exact fun a _ => (h1 a).1
  · rw [e]; exact PySem.W.AllAlike.of h2
  · rw [e]; exact PySem.W.Sortable.tuples h3
  · intro d hd
    obtain ⟨x, _, rfl⟩ := List.mem_map.mp hd
    exact (h1 x).2
theorem okS_ii (l : List (Int × Int)) : okS (l.map pII) :=
  okS_tups (fun a => by simp [pII]) (fun a b => by simp [py_pII, PySem.W.alike, PySem.W.alikeAll]) fun a => ⟨_, _, py_pII a⟩
theorem leII_trans (a b c : Int × Int) (h : leII a b = true) (g : leII b c = true) : leII a c = true := by
  simp only [leII, decide_eq_true_eq] at *
  omega
theorem leII_total (a b : Int × Int) : (leII a b || leII b a) = true := by
  simp only [leII, Bool.or_eq_true, decide_eq_true_eq]
  omega
theorem leII_anti (a b : Int × Int) (h : leII a b = true) (g : leII b a = true) : a = b := by
  simp only [leII, decide_eq_true_eq] at *
  obtain ⟨a1, a2⟩ := a
  obtain ⟨b1, b2⟩ := b
  simp only at *
  have : a1 = b1 := by omega
  have : a2 = b2 := by omega
  simp [*]
theorem sorted_eqG {α : Type} {le : α → α → Bool} (anti : ∀ a b, le a b = true → le b a = true → a = b) : ∀ {l m : List α}, l.Pairwise (fun a b => le a b = true) → m.Pairwise (fun a b => le a b = true) → l.Perm m → l = m
  | [], m, _, _, p => (List.nil_perm.mp p).symm
  | a :: l, m, hl, hm, p => by
    cases m with
    | nil => exact absurd p.length_eq (by simp)
    | cons b m =>
      have ab : a = b := by
        have h1 : a ∈ b :: m := p.mem_iff.mp List.mem_cons_self
        have h2 : b ∈ a :: l := p.mem_iff.mpr List.mem_cons_self
        rcases List.mem_cons.mp h1 with z | z
        · exact z
        · rcases List.mem_cons.mp h2 with y | y
          · exact y.symm
          · exact anti _ _ ((List.pairwise_cons.mp hl).1 _ y) ((List.pairwise_cons.mp hm).1 _ z)
      subst ab
      rw [sorted_eqG anti (List.pairwise_cons.mp hl).2 (List.pairwise_cons.mp hm).2 (List.Perm.cons_inv p)]
theorem srtII_perm {l m : List (Int × Int)} (p : l.Perm m) : srtII l = srtII m :=
  sorted_eqG leII_anti (List.pairwise_mergeSort leII_trans leII_total l) (List.pairwise_mergeSort leII_trans leII_total m) ((List.mergeSort_perm l leII).trans (p.trans (List.mergeSort_perm m leII).symm))
theorem srtII_id {l : List (Int × Int)} (h : l.Pairwise fun a b => a.1 < b.1) : srtII l = l :=
  sorted_eqG leII_anti (List.pairwise_mergeSort leII_trans leII_total l) (h.imp fun {a b} z => by simp [leII, z]) (List.mergeSort_perm l leII)
theorem srtII_mem {l : List (Int × Int)} {x : Int × Int} : x ∈ srtII l ↔ x ∈ l := List.mem_mergeSort
theorem srtII_len {l : List (Int × Int)} : (srtII l).length = l.length := List.length_mergeSort l
theorem srtII_sorted (l : List (Int × Int)) : (srtII l).Pairwise fun a b => leII a b = true := List.pairwise_mergeSort leII_trans leII_total l
/-! ### pairs of a text and a number -/
def pSI (p : Str × Int) : D := .tup [.str p.1, .int p.2]
theorem okS_si (l : List (Str × Int)) : okS (l.map pSI) :=
  okS_tups (fun a => by simp [pSI]) (fun a b => by simp [pSI, D.py, pyL, PySem.W.alike, PySem.W.alikeAll]) fun a => ⟨_, _, by simp [pSI, D.py, pyL]; exact ⟨rfl, rfl⟩⟩
/-! ### dicts from pairs -/
theorem putK_new {kvs : List (Key × D)} {k : Key} {d : D} (h : k ∉ kvs.map (·.1)) : putK kvs k d = kvs ++ [(k, d)] := by
  unfold putK
  rw [if_neg]
  intro z
  obtain ⟨q, hq, e⟩ := List.any_eq_true.mp z
  exact h (List.mem_map.mpr ⟨q, hq, of_decide_eq_true e⟩)
theorem mergeD_app : ∀ (more kvs : List (Key × D)), (kvs ++ more).map (·.1) |>.Nodup → mergeD kvs more = kvs ++ more
  | [], kvs, _ => by simp [mergeD]
  | q :: r, kvs, h => by
    have e : mergeD kvs (q :: r) = mergeD (putK kvs q.1 q.2) r := rfl
    have hn : q.1 ∉ kvs.map (·.1) := by
      rw [List.map_append, List.map_cons] at h
      have := (List.nodup_append.mp h).2.2
      intro z
      exact this _ z _ List.mem_cons_self rfl
    rw [e, putK_new hn]
    have := mergeD_app r (kvs ++ [(q.1, q.2)]) (by simpa using h)
    rw [this]
    simp
theorem mergeD_id {kvs : List (Key × D)} (h : (kvs.map (·.1)).Nodup) : mergeD [] kvs = kvs := by
  have := mergeD_app kvs [] (by simpa using h)
  simpa using this
theorem pairsK_si (l : List (Str × Int)) : pairsK (l.map pSI) = some (l.map fun p => (.inr p.1, .int p.2)) := by
  induction l with
  | nil => rfl
  | cons p r ih => rw [List.map_cons, pairsK, ih]; rfl
theorem pairsK_ii (l : List (Int × Int)) : pairsK (l.map pII) = some (l.map fun p => (.inl p.1, .int p.2)) := by
  induction l with
  | nil => rfl
  | cons p r ih => rw [List.map_cons, pairsK, ih]; rfl
def dSI (l : List (Str × Int)) : List (Key × D) := l.map fun p => (.inr p.1, .int p.2)
def dII (l : List (Int × Int)) : List (Key × D) := l.map fun p => (.inl p.1, .int p.2)
theorem dSI_nodup {l : List (Str × Int)} (h : (l.map (·.1)).Nodup) : ((dSI l).map (·.1)).Nodup := by
  unfold dSI
  rw [List.map_map]
  have : (((fun x : Key × D => x.1) ∘ fun p : Str × Int => ((.inr p.1 : Key), D.int p.2))) = (Sum.inr : Str → Key) ∘ (fun p : Str × Int => p.1) := rfl
  rw [this, ← List.map_map]
  exact List.Pairwise.map _ (fun a b z e => z (Sum.inr.inj e)) h
theorem dII_nodup {l : List (Int × Int)} (h : (l.map (·.1)).Nodup) : ((dII l).map (·.1)).Nodup := by
  unfold dII
  rw [List.map_map]
  have : (((fun x : Key × D => x.1) ∘ fun p : Int × Int => ((.inl p.1 : Key), D.int p.2))) = (Sum.inl : Int → Key) ∘ (fun p : Int × Int => p.1) := rfl
  rw [this, ← List.map_map]
  exact List.Pairwise.map _ (fun a b z e => z (Sum.inl.inj e)) h
theorem onPairs_si {l : List (Str × Int)} {R : DK} (hn : (l.map (·.1)).Nodup) (h : R (.dct (dSI l))) : onPairs (l.map pSI) R := by
  unfold onPairs
  rw [pairsK_si]
  show R (.dct (mergeD [] (dSI l)))
  rw [mergeD_id (dSI_nodup hn)]
  exact h
theorem onPairs_ii {l : List (Int × Int)} {R : DK} (hn : (l.map (·.1)).Nodup) (h : R (.dct (dII l))) : onPairs (l.map pII) R := by
  unfold onPairs
  rw [pairsK_ii]
  show R (.dct (mergeD [] (dII l)))
  rw [mergeD_id (dII_nodup hn)]
  exact h
theorem lookK_mem : ∀ {l : List (Key × D)} {k : Key} {d : D}, (l.map (·.1)).Nodup → (k, d) ∈ l → lookK k l = some d
  | (j, e) :: r, k, d, hn, h => by
    rw [lookK]
    rcases List.mem_cons.mp h with z | z
    · cases z
      rw [if_pos rfl]
    · have : j ≠ k := fun e => by
        rw [List.map_cons, List.nodup_cons] at hn
        exact hn.1 (List.mem_map.mpr ⟨_, z, e.symm⟩)
      rw [if_neg this]
      rw [List.map_cons, List.nodup_cons] at hn
      exact lookK_mem hn.2 z
theorem lookK_none {l : List (Key × D)} {k : Key} (h : k ∉ l.map (·.1)) : lookK k l = none := by
  induction l with
  | nil => rfl
  | cons q r ih =>
    obtain ⟨j, e⟩ := q
    rw [List.map_cons, List.mem_cons, not_or] at h
    rw [lookK, if_neg fun z => h.1 z.symm]
    exact ih h.2
theorem putK_keys {l : List (Key × D)} {k : Key} {d : D} (hn : (l.map (·.1)).Nodup) : ((putK l k d).map (·.1)).Nodup := by
  unfold putK
  split
  · have e : (l.map fun kv => if kv.1 = k then (kv.1, d) else kv).map (·.1) = l.map (·.1) := by
      rw [List.map_map]
      refine List.map_congr_left fun q _ => ?_
      simp only [Function.comp_apply]
      split <;> rfl
    rw [e]
    exact hn
  · rename_i h
    rw [List.map_append]
    refine List.nodup_append.mpr ⟨hn, by simp, ?_⟩
    rintro a ha b hb rfl
    simp at hb
    subst hb
    apply h
    obtain ⟨q, hq, e⟩ := List.mem_map.mp ha
    exact List.any_eq_true.mpr ⟨q, hq, decide_eq_true e⟩
/-- a put, told as a list in any order -/
theorem putK_perm {l : List (Key × D)} {k : Key} {d : D} (hn : (l.map (·.1)).Nodup) : (putK l k d).Perm ((l.filter fun q => !decide (q.1 = k)) ++ [(k, d)]) := by
  induction l with
  | nil => exact List.Perm.refl _
  | cons q r ih =>
    rw [List.map_cons, List.nodup_cons] at hn
    by_cases c : q.1 = k
    · have hr : ∀ z ∈ r, z.1 ≠ k := fun z hz e => hn.1 (by rw [c, ← e]; exact List.mem_map_of_mem hz)
      have e1 : putK (q :: r) k d = (k, d) :: r := by
        unfold putK
        rw [if_pos (by simp [c])]
        rw [List.map_cons, if_pos c, c]
        congr 1
        conv => rhs; rw [← List.map_id r]
        exact List.map_congr_left fun z hz => by rw [if_neg (hr z hz)]; rfl
      have e2 : ((q :: r).filter fun q => !decide (q.1 = k)) = r := by
        rw [List.filter_cons_of_neg (by simp [c])]
        exact List.filter_eq_self.mpr fun z hz => by simp [hr z hz]
      rw [e1, e2]
      exact (List.perm_append_singleton _ _).symm
    · have e1 : putK (q :: r) k d = q :: putK r k d := by
        unfold putK
        by_cases h : (r.any fun kv => decide (kv.1 = k)) = true
        · rw [if_pos h, if_pos (by simp [c] at h ⊢; exact h), List.map_cons, if_neg c]
        · rw [if_neg h, if_neg (by simp [c] at h ⊢; exact h)]
          rfl
      rw [e1, List.filter_cons_of_pos (by simp [c])]
      exact (ih hn.2).cons q
/-! ### drawn lists -/
/-- some of the items (all, where sk is false) in their order, each told by p -/
inductive Sub2 {α β : Type} (sk : Bool) (p : α → β → Prop) : List α → List β → Prop where
  | nil : Sub2 sk p [] []
  | skip {a : α} {l : List α} {m : List β} (h : sk = true) (r : Sub2 sk p l m) : Sub2 sk p (a :: l) m
  | keep {a : α} {b : β} {l : List α} {m : List β} (h : p a b) (r : Sub2 sk p l m) : Sub2 sk p (a :: l) (b :: m)
theorem Sub2.len {α β : Type} {sk : Bool} {p : α → β → Prop} {l : List α} {m : List β} (h : Sub2 sk p l m) : m.length ≤ l.length := by
  induction h with
  | nil => simp
  | skip _ _ ih => simp; omega
  | keep _ _ ih => simp; omega
theorem Sub2.sub {α β : Type} {sk : Bool} {p : α → β → Prop} {g : β → α} (hg : ∀ a b, p a b → g b = a) {l : List α} {m : List β} (h : Sub2 sk p l m) : (m.map g).Sublist l := by
  induction h with
  | nil => exact List.Sublist.refl _
  | skip _ _ ih => exact ih.cons _
  | keep h _ ih => rw [List.map_cons, hg _ _ h]; exact ih.cons₂ _
theorem Sub2.all {α β : Type} {p : α → β → Prop} {g : β → α} (hg : ∀ a b, p a b → g b = a) {l : List α} {m : List β} (h : Sub2 false p l m) : m.map g = l := by
  induction h with
  | nil => rfl
  | skip h _ _ => cases h
  | keep h _ ih => rw [List.map_cons, hg _ _ h, ih]
theorem Sub2.mem {α β : Type} {sk : Bool} {p : α → β → Prop} {l : List α} {m : List β} (h : Sub2 sk p l m) : ∀ b ∈ m, ∃ a ∈ l, p a b := by
  induction h with
  | nil => simp
  | skip _ _ ih => exact fun b hb => let ⟨a, ha, h⟩ := ih b hb; ⟨a, List.mem_cons_of_mem _ ha, h⟩
  | keep h _ ih =>
    intro b hb
    rcases List.mem_cons.mp hb with rfl | hb
    · exact ⟨_, List.mem_cons_self, h⟩
    · obtain ⟨a, ha, h⟩ := ih b hb
      exact ⟨a, List.mem_cons_of_mem _ ha, h⟩
theorem lcGo_gen {α β : Type} {G : FG} {e : FE} {ρ : Ren} {t : FT} (sk : Bool) (p : α → β → Prop) (enc : α → D) (f : β → D) : ∀ (l : List α) {n : Nat} {R : List D → Prop},
    (∀ x ∈ l, ∀ (R : Ren → Prop), (∀ ρ', (∀ Q : Bool → Prop, Q true → (sk = true → Q false) → t ρ' Q) → (∀ Q : DK, (∀ b, p x b → Q (f b)) → e ρ' Q) → R ρ') → G (enc x) ρ R) →
    l.length ≤ n → (∀ m : List β, Sub2 sk p l m → R (m.map f)) → lcGo G t (lcEl e) ρ (l.map enc) n R
  | [], _, _, _, _, h => by
    rw [List.map_nil, lcGo_nil]
    exact h [] .nil
  | d :: r, n, R, hG, hn, h => by
    rw [List.map_cons, lcGo_cons]
    refine hG d List.mem_cons_self _ fun ρ' ht he => ?_
    simp only [List.length_cons] at hn
    refine ht _ ?_ fun hs => ?_
    · rw [if_pos rfl]
      refine he _ fun b hb => ⟨by omega, ?_⟩
      exact lcGo_gen sk p enc f r (fun d hd => hG d (List.mem_cons_of_mem _ hd)) (by simp only [List.length_singleton]; omega) fun m hm => h (b :: m) (.keep hb hm)
    · rw [if_neg Bool.false_ne_true]
      exact lcGo_gen sk p enc f r (fun d hd => hG d (List.mem_cons_of_mem _ hd)) (by omega) fun m hm => h m (.skip hs hm)
theorem erase_map {α β : Type} {f : α → β} : ∀ {l : List α} {k : Nat}, (l.map f).eraseIdx k = (l.eraseIdx k).map f
  | [], _ => rfl
  | x :: r, 0 => rfl
  | x :: r, k + 1 => by
    rw [List.map_cons, List.eraseIdx_cons_succ, List.eraseIdx_cons_succ, List.map_cons, erase_map]
theorem erase_perm {α : Type} : ∀ {l : List α} {k : Nat} (h : k < l.length), ([l[k]] ++ l.eraseIdx k).Perm l
  | x :: r, 0, _ => List.Perm.refl _
  | x :: r, k + 1, h => by
    have hk : k < r.length := by simpa using h
    have := erase_perm (l := r) (k := k) hk
    rw [List.eraseIdx_cons_succ, List.getElem_cons_succ]
    exact (List.Perm.swap x r[k] (r.eraseIdx k)).trans (this.cons x)
theorem getD_at {α : Type} {l : List α} {k : Nat} {d : α} (h : k < l.length) : l.getD k d = l[k] := by simp [List.getD, List.getElem?_eq_getElem h]
/-! ### sorted numbers -/
def leI (p q : Int) : Bool := decide (p ≤ q)
def srtI (l : List Int) : List Int := l.mergeSort leI
theorem srt_i (l : List Int) : srt (l.map D.int) = (srtI l).map D.int := by
  refine (PySem.W.sort_maps (r := leI) (s := PySem.W.dataLe false D.py) D.int fun a _ b _ => ?_).symm
  have := congrFun (congrFun (PySem.W.dataLe_int (fun x : Int => x)) a) b
  exact this.symm
theorem okS_i (l : List Int) : okS (l.map D.int) := by
  have e : pyL (l.map D.int) = l.map PyData.int := by rw [pyL_map, List.map_map]; rfl
  refine ⟨?_, ?_, ?_, ?_⟩
  · rw [datL_all]; simp
  · rw [e]; exact PySem.W.AllAlike.of (enc := PyData.int) fun b b' => by simp [PySem.W.alike]
  · rw [e]; exact PySem.W.Sortable.others (enc := PyData.int) fun b => ⟨by simp, by simp⟩
  · intro d hd
    obtain ⟨x, _, rfl⟩ := List.mem_map.mp hd
    simp
theorem srtI_mem {l : List Int} {x : Int} : x ∈ srtI l ↔ x ∈ l := List.mem_mergeSort
theorem srtI_len {l : List Int} : (srtI l).length = l.length := List.length_mergeSort l
theorem srtI_pw (l : List Int) : (srtI l).Pairwise fun a b => leI a b = true := List.pairwise_mergeSort (fun a b c h g => by simp [leI] at *; omega) (fun a b => by simp [leI]; omega) l
theorem srtI_perm {l m : List Int} (p : l.Perm m) : srtI l = srtI m :=
  sorted_eqG (le := leI) (fun a b h g => by simp [leI] at *; omega) (srtI_pw l) (srtI_pw m) ((List.mergeSort_perm l leI).trans (p.trans (List.mergeSort_perm m leI).symm))
/-- a sorted list of told items is told of a list in some order -/
theorem srt_tell {α : Type} (f : α → D) (l : List α) : ∃ m : List α, m.Perm l ∧ srt (l.map f) = m.map f := by
  have p : (srt (l.map f)).Perm (l.map f) := List.mergeSort_perm _ _
  have key : ∀ (a b : List D), a.Perm b → ∀ l : List α, b = l.map f → ∃ m : List α, m.Perm l ∧ a = m.map f := by
    intro a b h
    induction h with
    | nil => intro l e; cases l with
      | nil => exact ⟨[], .nil, rfl⟩
      | cons _ _ => simp at e
    | cons x h ih =>
      intro l e
      cases l with
      | nil => simp at e
      | cons y r =>
        simp at e
        obtain ⟨m, h1, h2⟩ := ih r e.2
        exact ⟨y :: m, h1.cons y, by rw [h2, e.1]; rfl⟩
    | swap x y h =>
      intro l e
      match l, e with
      | c :: d :: r, e =>
        simp at e
        exact ⟨d :: c :: r, .swap c d r, by simp [e]⟩
    | trans h1 h2 ih1 ih2 =>
      intro l e
      obtain ⟨m, p1, e1⟩ := ih2 l e
      obtain ⟨m2, p2, e2⟩ := ih1 m e1
      exact ⟨m2, p2.trans p1, e2⟩
  exact key _ _ p l rfl
theorem forGo_cont {α : Type} {G : FG} {b : FS} {P : Po} (enc : α → D) : ∀ (l : List α) (I : List α → Ren → Prop) {ρ : Ren}, I l ρ → (∀ x r ρ, I (x :: r) ρ → ∀ K : Ren → Prop, (∀ ρ', I r ρ' → K ρ') → G (enc x) ρ fun ρ' => b ⟨K, P.rt, P.nx, K⟩ ρ') → (∀ ρ, I [] ρ → P.nx ρ) → forGo G b P (l.map enc) ρ
  | [], I, ρ, h, _, last => by rw [List.map_nil, forGo]; exact last _ h
  | x :: r, I, ρ, h, step, last => by
    rw [List.map_cons, forGo]
    exact step x r ρ h _ fun ρ' h' => forGo_cont enc r I h' step last
theorem fAny_l {l : List D} {R : DK} : fAny [.lst l] R = (match bools l with
  | some bs => R (.bl (bs.any id))
  | none => False) := propext Iff.rfl
theorem fAny_map {α : Type} {f : α → Bool} {l : List α} {R : DK} (h : R (.bl (l.any f))) : fAny [.lst (l.map fun x => D.bl (f x))] R := by
  rw [fAny_l, bools_map]
  simpa [List.any_map, Function.comp_def] using h
theorem len_any {α : Type} {f : α → Bool} {l : List α} : decide (0 < (l.filter f).length) = l.any f := by
  rw [Bool.eq_iff_iff, decide_eq_true_iff, List.length_pos_iff, List.any_eq_true]
  constructor
  · intro h
    obtain ⟨x, hx⟩ := List.exists_mem_of_ne_nil _ h
    rw [List.mem_filter] at hx
    exact ⟨x, hx⟩
  · rintro ⟨x, hx, e⟩ z
    have : x ∈ l.filter f := List.mem_filter.mpr ⟨hx, e⟩
    rw [z] at this
    cases this
end Fn
end P_GG
section P_M_k05
set_option maxHeartbeats 4000000
namespace Fn
open PySem PySem.Spec PyProof.Rows L2
def m_l_spread_7026 : GA := fnD 4 1 (sSeq (sSet 1 (eBin bMod (eCall fInt (aCons (eVar 0) aNil)) (eC (.int 2147483647)))) (sSeq (sSet 2 (eC (.int 1))) (sSeq (sFor (iRng1 (eC (.int 4))) (Fn.gName 3) (sSeq (sSet 1 (eBin bMod (eCall fInt (aCons (eBin bAdd (eBin bAdd (eBin bMulA (eVar 1) (eC (.int 48271))) (eC (.int 12345))) (eVar 3)) aNil)) (eC (.int 2147483647)))) (sSet 2 (eBin bAdd (eBin bMulA (eVar 2) (eC (.int 2147483647))) (eVar 1))))) (sRet (eVar 2)))))
def m_l_pick_491d : GA := fnD 2 2 (sRet (eBin bIx (eVar 1) (eCall fDraw (aCons (eVar 0) (aCons (eCall fLen (aCons (eVar 1) aNil)) aNil)))))
def m_l_expression_45ac : GA := fnD 2 2 (sRet (eIf (tVal (eBin cEq (eCall fDraw (aCons (eVar 0) (aCons (eC (.int 4)) aNil))) (eC (.int 0)))) (eC (.str "nil")) (eCall m_l_pick_491d (aCons (eVar 0) (aCons (eVar 1) aNil)))))
def m_l_fact_d440 : GA := fnD 2 2 (sRet (eTup (aCons (eCall m_l_pick_491d (aCons (eVar 0) (aCons (eLst (aCons (eC (.str "same")) (aCons (eC (.str "other")) (aCons (eC (.str "other")) aNil)))) aNil))) (aCons (eCall m_l_pick_491d (aCons (eVar 0) (aCons (eVar 1) aNil))) (aCons (eCall m_l_expression_45ac (aCons (eVar 0) (aCons (eVar 1) aNil))) aNil)))))
def m_l_case_7e14 : GA := fnD 7 4 (sSeq (sSet 4 (eCall fTuple (aCons (eLc (iRng1 (eCall fDraw (aCons (eVar 0) (aCons (eBin bAdd (eVar 2) (eC (.int 1))) aNil)))) (Fn.gName 6) tYes (lcEl (eCall m_l_fact_d440 (aCons (eVar 0) (aCons (eVar 1) aNil)))) [6]) aNil))) (sSeq (sSet 5 (eLc (iRng1 (eCall fDraw (aCons (eVar 0) (aCons (eBin bAdd (eVar 3) (eC (.int 1))) aNil)))) (Fn.gName 6) tYes (lcEl (eTup (aCons (eCall m_l_pick_491d (aCons (eVar 0) (aCons (eLst (aCons (eC (.str "cell")) (aCons (eC (.str "list")) (aCons (eC (.str "list")) aNil)))) aNil))) (aCons (eCall m_l_pick_491d (aCons (eVar 0) (aCons (eVar 1) aNil))) (aCons (eCall m_l_expression_45ac (aCons (eVar 0) (aCons (eVar 1) aNil))) aNil))))) [6])) (sRet (eTup (aCons (eVar 4) (aCons (eCall fTuple (aCons (eVar 5) aNil)) aNil))))))
def m_l_assertion_f77c : GA := fnD 6 5 (sRet (eCall fTuple (aCons (eLc (iRng1 (eBin bAdd (eC (.int 1)) (eCall fDraw (aCons (eVar 0) (aCons (eBin bAdd (eVar 2) (eC (.int 1))) aNil))))) (Fn.gName 5) tYes (lcEl (eCall m_l_case_7e14 (aCons (eVar 0) (aCons (eVar 1) (aCons (eVar 3) (aCons (eVar 4) aNil)))))) [5]) aNil)))
def m_l_value_48b4 : GA := fnD 2 2 (sRet (eIf (tVal (eBin cEq (eVar 1) (eC (.str "nil")))) (eC (.int 0)) (eBin bIx (eCall fDictA (aCons (eBin bIx (eVar 0) (eC (.int 0))) aNil)) (eVar 1))))
def m_l_part_6cd0 : GA := fnD 7 2 (sSeq (sPar [2, 3, 4] (aCons (eCall m_l_value_48b4 (aCons (eVar 1) (aCons (eBin bIx (eVar 0) (eC (.int 1))) aNil))) (aCons (eCall m_l_value_48b4 (aCons (eVar 1) (aCons (eBin bIx (eVar 0) (eC (.int 2))) aNil))) (aCons (eCall fDictA (aCons (eBin bIx (eVar 1) (eC (.int 1))) aNil)) aNil)))) (sSeq (sIf (tVal (eBin cEq (eBin bIx (eVar 0) (eC (.int 0))) (eC (.str "cell")))) (sRet (eIf (tAnd (tVal (eBin cIn (eVar 2) (eVar 4))) (tVal (eBin cEq (eBin bIx (eVar 4) (eVar 2)) (eVar 3)))) (eLst (aCons (eVar 2) aNil)) (eC .non))) sSkip) (sSeq (sSet 5 (eLst aNil)) (sSeq (sFor (iRng1 (eBin bAdd (eCall fLen (aCons (eVar 4) aNil)) (eC (.int 1)))) (Fn.gName 6) (sSeq (sIf (tVal (eBin cEq (eVar 2) (eVar 3))) (sRet (eCall fSorted (aCons (eVar 5) aNil))) sSkip) (sSeq (sIf (tOr (tVal (eBin cNotIn (eVar 2) (eVar 4))) (tVal (eBin cIn (eVar 2) (eVar 5)))) (sRet (eC .non)) sSkip) (sSeq (sApp 5 (eVar 2)) (sSet 2 (eBin bIx (eVar 4) (eVar 2))))))) (sRet (eC .non))))))
def m_l_fact_holds_8e8f : GA := fnD 2 2 (sRet (eBin cEq (eBin cEq (eCall m_l_value_48b4 (aCons (eVar 1) (aCons (eBin bIx (eVar 0) (eC (.int 1))) aNil))) (eCall m_l_value_48b4 (aCons (eVar 1) (aCons (eBin bIx (eVar 0) (eC (.int 2))) aNil)))) (eBin cEq (eBin bIx (eVar 0) (eC (.int 0))) (eC (.str "same")))))
def m_l_parts_a546 : GA := fnD 7 2 (sSeq (sIf (tVal (eBin cGt (eCall fLen (aCons (eLc (iSeq (eBin bIx (eVar 0) (eC (.int 0)))) (Fn.gName 5) (tNot (tVal (eCall m_l_fact_holds_8e8f (aCons (eVar 5) (aCons (eVar 1) aNil))))) (lcEl (eVar 5)) [5]) aNil)) (eC (.int 0)))) (sRet (eC .non)) sSkip) (sSeq (sSet 2 (eLst aNil)) (sSeq (sFor (iSeq (eBin bIx (eVar 0) (eC (.int 1)))) (Fn.gName 3) (sSeq (sSet 4 (eCall m_l_part_6cd0 (aCons (eVar 3) (aCons (eVar 1) aNil)))) (sSeq (sIf (tOr (tVal (eBin cIs (eVar 4) (eC .non))) (tVal (eBin cGt (eCall fLen (aCons (eLc (iSeq (eVar 4)) (Fn.gName 6) (tVal (eBin cIn (eVar 6) (eVar 2))) (lcEl (eVar 6)) [6]) aNil)) (eC (.int 0))))) (sRet (eC .non)) sSkip) (sSet 2 (eBin bAdd (eVar 2) (eVar 4)))))) (sRet (eCall fSorted (aCons (eVar 2) aNil))))))
def m_l_holds_8c93 : GA := fnD 5 2 (sSeq (sSet 2 (eLc (iSeq (eBin bIx (eVar 1) (eC (.int 1)))) (Fn.gName 3) tYes (lcEl (eBin bIx (eVar 3) (eC (.int 0)))) [3])) (sRet (eBin cGt (eCall fLen (aCons (eLc (iSeq (eVar 0)) (Fn.gName 4) (tVal (eBin cEq (eCall m_l_parts_a546 (aCons (eVar 4) (aCons (eVar 1) aNil))) (eVar 2))) (lcEl (eVar 4)) [4]) aNil)) (eC (.int 0)))))
def m_l_state_of_115e : GA := fnD 20 4 (sSeq (sSet 4 (eCall fDictA (aCons (eLc (iSeq (eVar 2)) (Fn.gName 8) tYes (lcEl (eTup (aCons (eVar 8) (aCons (eCall fDraw (aCons (eVar 0) (aCons (eC (.int 6)) aNil))) aNil)))) [8]) aNil))) (sSeq (sFor (iSeq (eBin bIx (eVar 1) (eC (.int 0)))) (Fn.gName 5) (sIf (tAnd (tVal (eBin cEq (eBin bIx (eVar 5) (eC (.int 0))) (eC (.str "same")))) (tVal (eBin cNe (eBin bIx (eVar 5) (eC (.int 1))) (eC (.str "nil"))))) (sPutD 4 (eBin bIx (eVar 5) (eC (.int 1))) (eIf (tVal (eBin cEq (eBin bIx (eVar 5) (eC (.int 2))) (eC (.str "nil")))) (eC (.int 0)) (eBin bIx (eVar 4) (eBin bIx (eVar 5) (eC (.int 2)))))) sSkip)) (sSeq (sPar [6, 7] (aCons (eC (.dct [])) (aCons (eC (.int 6)) aNil))) (sSeq (sFor (iSeq (eBin bIx (eVar 1) (eC (.int 1)))) (Fn.gTup (gsCons (Fn.gName 8) (gsCons (Fn.gName 9) (gsCons (Fn.gName 10) gsNil)))) (sSeq (sAsg (eTup (aCons (eIf (tVal (eBin cEq (eVar 9) (eC (.str "nil")))) (eC (.int 0)) (eBin bIx (eVar 4) (eVar 9))) (aCons (eIf (tVal (eBin cEq (eVar 10) (eC (.str "nil")))) (eC (.int 0)) (eBin bIx (eVar 4) (eVar 10))) aNil))) (Fn.gTup (gsCons (Fn.gName 11) (gsCons (Fn.gName 12) gsNil)))) (sSeq (sSet 13 (eIf (tVal (eBin cEq (eVar 8) (eC (.str "cell")))) (eC (.int 1)) (eIf (tVal (eBin cEq (eVar 11) (eVar 12))) (eC (.int 0)) (eBin bAdd (eC (.int 1)) (eCall fDraw (aCons (eVar 0) (aCons (eVar 3) aNil))))))) (sFor (iRng1 (eVar 13)) (Fn.gName 14) (sSeq (sIf (tOr (tVal (eBin cEq (eVar 11) (eC (.int 0)))) (tVal (eBin cIn (eVar 11) (eVar 6)))) (sRet (eC .non)) sSkip) (sSeq (sSet 15 (eLc (iSeq (eVar 2)) (Fn.gName 18) (tAnd (tVal (eBin cNotIn (eBin bIx (eVar 4) (eVar 18)) (eVar 6))) (tVal (eBin cNotIn (eBin bIx (eVar 4) (eVar 18)) (eTup (aCons (eC (.int 0)) (aCons (eVar 11) (aCons (eVar 12) aNil))))))) (lcEl (eBin bIx (eVar 4) (eVar 18))) [18])) (sSeq (sIf (tVal (eBin cEq (eVar 14) (eBin bSub (eVar 13) (eC (.int 1))))) (sSet 16 (eVar 12)) (sIf (tAnd (tVal (eBin cGt (eCall fLen (aCons (eVar 15) aNil)) (eC (.int 0)))) (tVal (eBin cEq (eCall fDraw (aCons (eVar 0) (aCons (eC (.int 3)) aNil))) (eC (.int 0))))) (sSet 16 (eCall m_l_pick_491d (aCons (eVar 0) (aCons (eVar 15) aNil)))) (sPar [16, 7] (aCons (eVar 7) (aCons (eBin bAdd (eVar 7) (eC (.int 1))) aNil))))) (sSeq (sPutD 6 (eVar 11) (eVar 16)) (sSet 11 (eVar 16)))))))))) (sSeq (sSet 17 (eTup (aCons (eCall fTuple (aCons (eCall fSorted (aCons (eLc (iSeq (eVar 2)) (Fn.gName 8) tYes (lcEl (eTup (aCons (eVar 8) (aCons (eBin bIx (eVar 4) (eVar 8)) aNil)))) [8]) aNil)) aNil)) (aCons (eCall fTuple (aCons (eCall fSorted (aCons (eLc (iSeq (eCall fListA (aCons (eVar 6) aNil))) (Fn.gName 19) tYes (lcEl (eTup (aCons (eVar 19) (aCons (eBin bIx (eVar 6) (eVar 19)) aNil)))) [19]) aNil)) aNil)) aNil)))) (sRet (eIf (tVal (eCall m_l_holds_8c93 (aCons (eTup (aCons (eVar 1) aNil)) (aCons (eVar 17) aNil)))) (eVar 17) (eC .non))))))))
def m_l_states_of_520a : GA := fnD 8 5 (sSeq (sSet 5 (eLst aNil)) (sSeq (sFor (iRng1 (eVar 3)) (Fn.gName 6) (sIf (tVal (eBin cGt (eCall fLen (aCons (eVar 1) aNil)) (eC (.int 0)))) (sSeq (sSet 7 (eCall m_l_state_of_115e (aCons (eVar 0) (aCons (eCall m_l_pick_491d (aCons (eVar 0) (aCons (eVar 1) aNil))) (aCons (eVar 2) (aCons (eVar 4) aNil)))))) (sSet 5 (eBin bAdd (eVar 5) (eIf (tVal (eBin cIsNot (eVar 7) (eC .non))) (eLst (aCons (eVar 7) aNil)) (eLst aNil))))) sSkip)) (sRet (eVar 5))))
def m_l_put_cell_512e : GA := fnD 4 3 (sRet (eTup (aCons (eBin bIx (eVar 0) (eC (.int 0))) (aCons (eCall fTuple (aCons (eCall fSorted (aCons (eBin bAdd (eLc (iSeq (eBin bIx (eVar 0) (eC (.int 1)))) (Fn.gName 3) (tVal (eBin cNe (eBin bIx (eVar 3) (eC (.int 0))) (eVar 1))) (lcEl (eVar 3)) [3]) (eLst (aCons (eTup (aCons (eVar 1) (aCons (eVar 2) aNil))) aNil))) aNil)) aNil)) aNil))))
def m_value_of_48b4 : GA := fnD 2 2 (sRet (eIf (tVal (eBin cEq (eVar 1) (eC (.str "nil")))) (eC (.int 0)) (eBin bIx (eCall fDictA (aCons (eBin bIx (eVar 0) (eC (.int 0))) aNil)) (eVar 1))))
def m_part_of_0339 : GA := fnD 6 2 (sSeq (sPar [2, 3] (aCons (eCall m_value_of_48b4 (aCons (eVar 1) (aCons (eBin bIx (eVar 0) (eC (.int 1))) aNil))) (aCons (eCall m_value_of_48b4 (aCons (eVar 1) (aCons (eBin bIx (eVar 0) (eC (.int 2))) aNil))) aNil))) (sSeq (sSet 4 (eCall fDictA (aCons (eBin bIx (eVar 1) (eC (.int 1))) aNil))) (sSeq (sIf (tVal (eBin cEq (eBin bIx (eVar 0) (eC (.int 0))) (eC (.str "cell")))) (sRet (eIf (tVal (eBin cEq (eGet (eVar 4) (eVar 2)) (eVar 3))) (eTup (aCons (eVar 2) aNil)) (eC .non))) sSkip) (sSeq (sSet 5 (eLst aNil)) (sSeq (sWhile 100000 (tVal (eBin cNe (eVar 2) (eVar 3))) (sSeq (sIf (tOr (tVal (eBin cNotIn (eVar 2) (eVar 4))) (tVal (eBin cIn (eVar 2) (eVar 5)))) (sRet (eC .non)) sSkip) (sSeq (sApp 5 (eVar 2)) (sSet 2 (eBin bIx (eVar 4) (eVar 2)))))) (sRet (eCall fTuple (aCons (eCall fSorted (aCons (eVar 5) aNil)) aNil))))))))
def m_fact_holds_1e76 : GA := fnD 2 2 (sRet (eBin cEq (eBin cEq (eCall m_value_of_48b4 (aCons (eVar 1) (aCons (eBin bIx (eVar 0) (eC (.int 1))) aNil))) (eCall m_value_of_48b4 (aCons (eVar 1) (aCons (eBin bIx (eVar 0) (eC (.int 2))) aNil)))) (eBin cEq (eBin bIx (eVar 0) (eC (.int 0))) (eC (.str "same")))))
def m_parts_of_05ba : GA := fnD 7 2 (sSeq (sIf (tNot (tVal (eCall fAll (aCons (eLc (iSeq (eBin bIx (eVar 0) (eC (.int 0)))) (Fn.gName 5) tYes (lcEl (eCall m_fact_holds_1e76 (aCons (eVar 5) (aCons (eVar 1) aNil)))) [5]) aNil)))) (sRet (eC .non)) sSkip) (sSeq (sSet 2 (eLst aNil)) (sSeq (sFor (iSeq (eBin bIx (eVar 0) (eC (.int 1)))) (Fn.gName 3) (sSeq (sSet 4 (eCall m_part_of_0339 (aCons (eVar 3) (aCons (eVar 1) aNil)))) (sSeq (sIf (tOr (tVal (eBin cIs (eVar 4) (eC .non))) (tNot (tVal (eCall fAll (aCons (eLc (iSeq (eVar 4)) (Fn.gName 6) tYes (lcEl (eBin cNotIn (eVar 6) (eVar 2))) [6]) aNil))))) (sRet (eC .non)) sSkip) (sExt 2 (eVar 4))))) (sRet (eCall fSorted (aCons (eVar 2) aNil))))))
def m_case_holds_4b11 : GA := fnD 4 2 (sRet (eBin cEq (eCall m_parts_of_05ba (aCons (eVar 0) (aCons (eVar 1) aNil))) (eLc (iSeq (eBin bIx (eVar 1) (eC (.int 1)))) (Fn.gTup (gsCons (Fn.gName 2) (gsCons (Fn.gName 3) gsNil))) tYes (lcEl (eVar 2)) [2, 3])))
def m_holds_4831 : GA := fnD 3 2 (sRet (eCall fAny (aCons (eLc (iSeq (eVar 0)) (Fn.gName 2) tYes (lcEl (eCall m_case_holds_4b11 (aCons (eVar 2) (aCons (eVar 1) aNil)))) [2]) aNil)))
def m_holds_in_part_0669 : GA := fnD 3 2 (sRet (eCall fAny (aCons (eLc (iSeq (eVar 0)) (Fn.gName 2) tYes (lcEl (eBin cIsNot (eCall m_parts_of_05ba (aCons (eVar 2) (aCons (eVar 1) aNil))) (eC .non))) [2]) aNil)))
def m_l_state_74e1 : GA := fnD 8 4 (sSeq (sSet 4 (eCall fTuple (aCons (eLc (iSeq (eCall fSorted (aCons (eVar 1) aNil))) (Fn.gName 7) tYes (lcEl (eTup (aCons (eVar 7) (aCons (eCall fDraw (aCons (eVar 0) (aCons (eBin bAdd (eVar 2) (eC (.int 1))) aNil))) aNil)))) [7]) aNil))) (sSeq (sSet 5 (eLc (iRng2 (eC (.int 1)) (eBin bAdd (eVar 2) (eC (.int 2)))) (Fn.gName 6) (tVal (eBin cLt (eCall fDraw (aCons (eVar 0) (aCons (eC (.int 3)) aNil))) (eVar 3))) (lcEl (eTup (aCons (eVar 6) (aCons (eCall fDraw (aCons (eVar 0) (aCons (eBin bAdd (eVar 2) (eC (.int 2))) aNil))) aNil)))) [6])) (sRet (eTup (aCons (eVar 4) (aCons (eCall fTuple (aCons (eVar 5) aNil)) aNil))))))
def m_l_same_bae6 : Nat → GA
  | 0 => fun _ _ => False
  | n + 1 => fnD 3 2 (sSeq (sIf (tOr (tVal (eUn (fIs .tuple) (eVar 1))) (tVal (eUn (fIs .list) (eVar 1)))) (sSeq (sIf (tOr (tVal (eBin cNe (eUn (fIs .tuple) (eVar 1)) (eUn (fIs .tuple) (eVar 0)))) (tVal (eBin cNe (eUn (fIs .list) (eVar 1)) (eUn (fIs .list) (eVar 0))))) (sRet (eC (.bl false))) sSkip) (sSeq (sIf (tVal (eBin cNe (eCall fLen (aCons (eVar 0) aNil)) (eCall fLen (aCons (eVar 1) aNil)))) (sRet (eC (.bl false))) sSkip) (sRet (eBin cEq (eCall fLen (aCons (eLc (iRng1 (eCall fLen (aCons (eVar 1) aNil))) (Fn.gName 2) (tNot (tVal (eCall (m_l_same_bae6 n) (aCons (eBin bIx (eVar 0) (eVar 2)) (aCons (eBin bIx (eVar 1) (eVar 2)) aNil))))) (lcEl (eVar 2)) [2]) aNil)) (eC (.int 0)))))) sSkip) (sSeq (sIf (tVal (eBin cIs (eVar 1) (eC .non))) (sRet (eBin cIs (eVar 0) (eC .non))) sSkip) (sSeq (sIf (tOr (tVal (eUn (fIs .bool) (eVar 1))) (tVal (eUn (fIs .bool) (eVar 0)))) (sRet (eAnd (eUn (fIs .bool) (eVar 1)) (eAnd (eUn (fIs .bool) (eVar 0)) (eBin cEq (eVar 0) (eVar 1))))) sSkip) (sSeq (sIf (tVal (eUn (fIs .int) (eVar 1))) (sRet (eAnd (eUn (fIs .int) (eVar 0)) (eBin cEq (eVar 0) (eVar 1)))) sSkip) (sRet (eAnd (eUn (fIs .str) (eVar 0)) (eBin cEq (eVar 0) (eVar 1))))))))
def m_l_holds_in_part_c090 : GA := fnD 3 2 (sRet (eBin cGt (eCall fLen (aCons (eLc (iSeq (eVar 0)) (Fn.gName 2) (tVal (eBin cIsNot (eCall m_l_parts_a546 (aCons (eVar 2) (aCons (eVar 1) aNil))) (eC .non))) (lcEl (eVar 2)) [2]) aNil)) (eC (.int 0))))
def m_law_b902 : FS := (sSeq (sSet 2 (eLst (aCons (eC (.str "x")) (aCons (eC (.str "y")) (aCons (eC (.str "z")) aNil))))) (sSeq (sSet 3 (eCall m_l_assertion_f77c (aCons (eVar 1) (aCons (eVar 2) (aCons (eC (.int 2)) (aCons (eC (.int 1)) (aCons (eC (.int 2)) aNil))))))) (sSeq (sSet 4 (eBin bAdd (eLst (aCons (eCall m_l_state_74e1 (aCons (eVar 1) (aCons (eVar 2) (aCons (eC (.int 4)) (aCons (eC (.int 2)) aNil))))) (aCons (eCall m_l_state_74e1 (aCons (eVar 1) (aCons (eVar 2) (aCons (eC (.int 3)) (aCons (eC (.int 3)) aNil))))) aNil))) (eCall m_l_states_of_520a (aCons (eVar 1) (aCons (eVar 3) (aCons (eVar 2) (aCons (eC (.int 4)) (aCons (eC (.int 7)) aNil)))))))) (sSeq (sFor (iSeq (eVar 4)) (Fn.gName 5) (sSeq (sSet 6 (eTup (aCons (eBin bIx (eVar 5) (eC (.int 0))) (aCons (eCall fTuple (aCons (eLc (iSeq (eBin bIx (eVar 5) (eC (.int 1)))) (Fn.gName 13) (tVal (eBin cGt (eCall fDraw (aCons (eVar 1) (aCons (eC (.int 5)) aNil))) (eC (.int 0)))) (lcEl (eVar 13)) [13]) aNil)) aNil)))) (sSeq (sSet 7 (eCall m_l_put_cell_512e (aCons (eVar 5) (aCons (eBin bAdd (eC (.int 40)) (eCall fDraw (aCons (eVar 1) (aCons (eC (.int 3)) aNil)))) (aCons (eCall fDraw (aCons (eVar 1) (aCons (eC (.int 50)) aNil))) aNil))))) (sFor (iSeq (eLst (aCons (eVar 5) (aCons (eVar 6) (aCons (eVar 7) aNil))))) (Fn.gName 8) (sSeq (sIf (tNot (tVal (eCall (m_l_same_bae6 12) (aCons (eLst (aCons (eCall m_holds_4831 (aCons (eVar 3) (aCons (eVar 8) aNil))) (aCons (eCall m_holds_in_part_0669 (aCons (eVar 3) (aCons (eVar 8) aNil))) aNil))) (aCons (eLst (aCons (eCall m_l_holds_8c93 (aCons (eVar 3) (aCons (eVar 8) aNil))) (aCons (eCall m_l_holds_in_part_c090 (aCons (eVar 3) (aCons (eVar 8) aNil))) aNil))) aNil))))) (sRet (eC (.bl false))) sSkip) (sFor (iRng1 (eC (.int 3))) (Fn.gName 9) (sSeq (sSet 10 (eTup (aCons (eCall m_l_pick_491d (aCons (eVar 1) (aCons (eLst (aCons (eC (.str "cell")) (aCons (eC (.str "list")) (aCons (eC (.str "list")) aNil)))) aNil))) (aCons (eCall m_l_expression_45ac (aCons (eVar 1) (aCons (eVar 2) aNil))) (aCons (eCall m_l_expression_45ac (aCons (eVar 1) (aCons (eVar 2) aNil))) aNil))))) (sSeq (sPar [11, 12] (aCons (eCall m_l_part_6cd0 (aCons (eVar 10) (aCons (eVar 8) aNil))) (aCons (eCall m_l_fact_d440 (aCons (eVar 1) (aCons (eVar 2) aNil))) aNil))) (sIf (tNot (tVal (eCall (m_l_same_bae6 12) (aCons (eLst (aCons (eCall m_part_of_0339 (aCons (eVar 10) (aCons (eVar 8) aNil))) (aCons (eCall m_fact_holds_1e76 (aCons (eVar 12) (aCons (eVar 8) aNil))) aNil))) (aCons (eLst (aCons (eIf (tVal (eBin cIs (eVar 11) (eC .non))) (eC .non) (eCall fTuple (aCons (eVar 11) aNil))) (aCons (eCall m_l_fact_holds_8e8f (aCons (eVar 12) (aCons (eVar 8) aNil))) aNil))) aNil))))) (sRet (eC (.bl false))) sSkip))))))))) (sRet (eAnd (eNot (eCall m_holds_4831 (aCons (eTup aNil) (aCons (eBin bIx (eVar 4) (eC (.int 0))) aNil)))) (eAnd (eCall m_holds_4831 (aCons (eTup (aCons (eTup (aCons (eTup aNil) (aCons (eTup aNil) aNil))) aNil)) (aCons (eTup (aCons (eBin bIx (eBin bIx (eVar 4) (eC (.int 0))) (eC (.int 0))) (aCons (eTup aNil) aNil))) aNil))) (eCall m_holds_in_part_0669 (aCons (eTup (aCons (eTup (aCons (eTup aNil) (aCons (eTup aNil) aNil))) aNil)) (aCons (eBin bIx (eVar 4) (eC (.int 0))) aNil))))))))))
end Fn
end P_M_k05
section P_S_k05
set_option maxHeartbeats 4000000
namespace Fn
open PySem
theorem m_l_spread_7026_any : ∀ (c : Int) (R : DK), (∀ n, R (.int n)) → m_l_spread_7026 [.int c] R := by
  intro c R h
  unfold m_l_spread_7026
  simp [↓sSeq_s, rng, List.range, List.range.loop]
  exact h _
theorem pick_d {l : List D} {R : DK} (h0 : 0 < l.length) (h1 : l.length < 1073741824) (h : ∀ d ∈ l, R d) : m_l_pick_491d [.pool, .lst l] R := by
  unfold m_l_pick_491d
  simp
  refine draw_any (by omega) (by omega) fun k hk => bIx_lst (by omega) (h _ (List.getElem_mem _))
theorem pick_t {l : List D} {R : DK} (h0 : 0 < l.length) (h1 : l.length < 1073741824) (h : ∀ d ∈ l, R d) : m_l_pick_491d [.pool, .tup l] R := by
  unfold m_l_pick_491d
  simp
  refine draw_any (by omega) (by omega) fun k hk => bIx_tup (by omega) (h _ (List.getElem_mem _))
theorem list_of {α : Type} {enc : α → D} {p : α → Prop} : ∀ {l : List D}, (∀ y ∈ l, ∃ x, p x ∧ y = enc x) → ∃ xs : List α, l = xs.map enc ∧ ∀ x ∈ xs, p x
  | [], _ => ⟨[], rfl, by simp⟩
  | y :: r, h => by
    obtain ⟨x, hx, rfl⟩ := h y List.mem_cons_self
    obtain ⟨xs, rfl, h2⟩ := list_of (l := r) fun z hz => h z (List.mem_cons_of_mem _ hz)
    exact ⟨x :: xs, rfl, fun z hz => (List.mem_cons.mp hz).elim (fun e => e ▸ hx) (h2 z)⟩
theorem rng_mem {n : Nat} {d : D} (h : d ∈ rng 0 n) : ∃ k : Nat, k < n ∧ d = .int k := by
  unfold rng at h
  obtain ⟨k, hk, rfl⟩ := List.mem_map.mp h
  exact ⟨k, List.mem_range.mp hk, by simp⟩
abbrev Row := Str × Str × Str
abbrev Case := List Row × List Row
abbrev Asr := List Case
def eRow (r : Row) : D := .tup [.str r.1, .str r.2.1, .str r.2.2]
def eRows (l : List Row) : D := .tup (l.map eRow)
def eCase (c : Case) : D := .tup [eRows c.1, eRows c.2]
def eAsr (a : Asr) : D := .tup (a.map eCase)
theorem expression_d {ws : List Str} {R : DK} (h0 : 0 < ws.length) (h1 : ws.length < 1073741824) (h : ∀ e : Str, e = ("nil" : Str) ∨ e ∈ ws → R (.str e)) : m_l_expression_45ac [.pool, .lst (ws.map D.str)] R := by
  unfold m_l_expression_45ac
  simp
  refine draw_any (by omega) (by omega) fun k hk => ?_
  simp
  split
  · exact h _ (.inl rfl)
  · exact pick_d (by simpa using h0) (by simpa using h1) fun d hd => by
      obtain ⟨e, he, rfl⟩ := List.mem_map.mp hd
      exact h e (.inr he)
def rowOk (ks ws : List Str) (r : Row) : Prop := r.1 ∈ ks ∧ r.2.1 ∈ ws ∧ (r.2.2 = ("nil" : Str) ∨ r.2.2 ∈ ws)
theorem fact_d {ws : List Str} {R : DK} (h0 : 0 < ws.length) (h1 : ws.length < 1073741824) (h : ∀ r, rowOk ["same", "other"] ws r → R (eRow r)) : m_l_fact_d440 [.pool, .lst (ws.map D.str)] R := by
  unfold m_l_fact_d440
  simp
  refine pick_d (by simp) (by simp) fun d hd => ?_
  have : ∃ k : Str, k ∈ ([("same" : Str), "other"] : List Str) ∧ d = .str k := by
    simp at hd
    rcases hd with rfl | rfl
    · exact ⟨_, by simp, rfl⟩
    · exact ⟨_, by simp, rfl⟩
  obtain ⟨k, hk, rfl⟩ := this
  refine pick_d (by simpa using h0) (by simpa using h1) fun d hd => ?_
  obtain ⟨w, hw, rfl⟩ := List.mem_map.mp hd
  refine expression_d h0 h1 fun e he => ?_
  exact h (k, w, e) ⟨hk, hw, he⟩
def caseOk (ws : List Str) (f t : Nat) (c : Case) : Prop := (c.1.length ≤ f ∧ ∀ r ∈ c.1, rowOk ["same", "other"] ws r) ∧ c.2.length ≤ t ∧ ∀ r ∈ c.2, rowOk ["cell", "list"] ws r
theorem case_d {ws : List Str} {f t : Nat} {R : DK} (h0 : 0 < ws.length) (h1 : ws.length < 1073741824) (hf : f < 1000) (ht : t < 1000) (h : ∀ c, caseOk ws f t c → R (eCase c)) : m_l_case_7e14 [.pool, .lst (ws.map D.str), .int f, .int t] R := by
  unfold m_l_case_7e14
  simp [↓sSeq_s]
  refine draw_any (by omega) (by omega) fun k hk => ?_
  simp
  refine ⟨by omega, lcGo_any (fun d => ∃ r, rowOk ["same", "other"] ws r ∧ d = eRow r) _ _ _ (fun d _ R hR => ?_) (by rw [rng_len]; omega) fun l hl hp => ?_⟩
  · refine hR _ (fun Q q => q) fun Q q => ?_
    exact fact_d h0 h1 fun r hr => q _ ⟨r, hr, rfl⟩
  · obtain ⟨rs, rfl, hr⟩ := list_of hp
    rw [rng_len] at hl
    refine draw_any (by omega) (by omega) fun k2 hk2 => ?_
    refine ⟨by omega, lcGo_any (fun d => ∃ r, rowOk ["cell", "list"] ws r ∧ d = eRow r) _ _ _ (fun d _ R hR => ?_) (by rw [rng_len]; omega) fun l hl2 hp => ?_⟩
    · refine hR _ (fun Q q => q) fun Q q => ?_
      simp
      refine pick_d (by simp) (by simp) fun d hd => ?_
      have : ∃ k : Str, k ∈ ([("cell" : Str), "list"] : List Str) ∧ d = .str k := by
        simp at hd
        rcases hd with rfl | rfl
        · exact ⟨_, by simp, rfl⟩
        · exact ⟨_, by simp, rfl⟩
      obtain ⟨k, hk, rfl⟩ := this
      refine pick_d (by simpa using h0) (by simpa using h1) fun d hd => ?_
      obtain ⟨w, hw, rfl⟩ := List.mem_map.mp hd
      refine expression_d h0 h1 fun e he => ?_
      exact q _ ⟨(k, w, e), ⟨hk, hw, he⟩, rfl⟩
    · obtain ⟨ts, rfl, ht⟩ := list_of hp
      rw [rng_len] at hl2
      simp only [List.length_map] at hl hl2
      refine h (rs, ts) ⟨⟨?_, hr⟩, ?_, ht⟩
      · simp only; omega
      · simp only; omega
theorem assertion_d {ws : List Str} {c f t : Nat} {R : DK} (h0 : 0 < ws.length) (h1 : ws.length < 1073741824) (hc : c < 1000) (hf : f < 1000) (ht : t < 1000) (h : ∀ a : Asr, 1 ≤ a.length → a.length ≤ c + 1 → (∀ x ∈ a, caseOk ws f t x) → R (eAsr a)) : m_l_assertion_f77c [.pool, .lst (ws.map D.str), .int c, .int f, .int t] R := by
  unfold m_l_assertion_f77c
  simp
  refine draw_any (by omega) (by omega) fun k hk => ?_
  refine ⟨by omega, lcGo_any (fun d => ∃ r, caseOk ws f t r ∧ d = eCase r) _ _ _ (fun d _ R hR => ?_) (by rw [rng_len]; omega) fun l hl hp => ?_⟩
  · refine hR _ (fun Q q => q) fun Q q => ?_
    exact case_d h0 h1 hf ht fun r hr => q _ ⟨r, hr, rfl⟩
  · obtain ⟨rs, rfl, hr⟩ := list_of hp
    rw [rng_len] at hl
    simp only [List.length_map] at hl
    exact h rs (by omega) (by omega) hr
abbrev Stk := List (Str × Int)
abbrev Hep := List (Int × Int)
abbrev Sta := Stk × Hep
def eStk (s : Stk) : D := .tup (s.map pSI)
def eHep (s : Hep) : D := .tup (s.map pII)
def eSta (s : Sta) : D := .tup [eStk s.1, eHep s.2]
structure StaOk (ws : List Str) (most : Nat) (s : Sta) : Prop where
  words : s.1.map (·.1) = ws
  vals : ∀ p ∈ s.1, 0 ≤ p.2 ∧ p.2 ≤ most
  inc : s.2.Pairwise fun a b => a.1 < b.1
  heap : ∀ p ∈ s.2, 1 ≤ p.1 ∧ p.1 ≤ most + 1 ∧ 0 ≤ p.2 ∧ p.2 ≤ most + 1
  len : s.2.length ≤ most + 1
theorem rng_pair {a : Int} {n : Nat} : (((List.range n).map fun k : Nat => a + k) : List Int).Pairwise (· < ·) := by
  rw [List.pairwise_map]
  exact List.pairwise_lt_range.imp fun {x y} h => by omega
theorem StaOk.nodW {ws : List Str} {most : Nat} {s : Sta} (h : StaOk ws most s) (hn : ws.Nodup) : (s.1.map (·.1)).Nodup := by rw [h.words]; exact hn
theorem inc_nodup {l : Hep} (h : l.Pairwise fun a b => a.1 < b.1) : (l.map (·.1)).Nodup := by
  rw [List.Nodup, List.pairwise_map]
  exact h.imp fun {a b} z e => by omega
/-- the value of the word w -/
def valW (s : Stk) (w : Str) : Int := ((s.find? fun p => decide (p.1 = w)).map (·.2)).getD 0
theorem lookK_si {s : Stk} {w : Str} (h : w ∈ s.map (·.1)) : lookK (.inr w) (dSI s) = some (.int (valW s w)) := by
  induction s with
  | nil => cases h
  | cons p r ih =>
    show (if (Sum.inr p.1 : Key) = Sum.inr w then _ else _) = _
    by_cases c : p.1 = w
    · rw [if_pos (by rw [c])]
      simp [valW, c]
    · rw [if_neg fun z => c (Sum.inr.inj z)]
      have hr : w ∈ r.map (·.1) := by
        rcases List.mem_cons.mp h with z | z
        · exact absurd z.symm c
        · exact z
      have := ih hr
      unfold dSI at this
      rw [this]
      simp [valW, c]
theorem dSI_pairs (s : Stk) : (dSI s).map pairD = s.map pSI := by simp [dSI, pairD, pSI, Function.comp_def]
theorem dII_pairs (s : Hep) : (dII s).map pairD = s.map pII := by simp [dII, pairD, pII, Function.comp_def]
def putS (s : Stk) (w : Str) (n : Int) : Stk := if (s.any fun p => decide (p.1 = w)) = true then s.map fun p => if p.1 = w then (p.1, n) else p else s ++ [(w, n)]
def putH (s : Hep) (w : Int) (n : Int) : Hep := if (s.any fun p => decide (p.1 = w)) = true then s.map fun p => if p.1 = w then (p.1, n) else p else s ++ [(w, n)]
theorem putK_si (s : Stk) (w : Str) (n : Int) : putK (dSI s) (.inr w) (.int n) = dSI (putS s w n) := by
  have e : ((dSI s).any fun kv => decide (kv.1 = (.inr w : Key))) = s.any fun p => decide (p.1 = w) := by
    unfold dSI
    rw [List.any_map]
    congr 1
    funext p
    simp
  unfold putK putS
  rw [e]
  split
  · unfold dSI
    rw [List.map_map, List.map_map]
    refine List.map_congr_left fun p _ => ?_
    simp only [Function.comp_apply]
    by_cases c : p.1 = w
    · simp [c]
    · rw [if_neg fun z => c (Sum.inr.inj z), if_neg c]
  · simp [dSI]
theorem putK_ii (s : Hep) (w : Int) (n : Int) : putK (dII s) (.inl w) (.int n) = dII (putH s w n) := by
  have e : ((dII s).any fun kv => decide (kv.1 = (.inl w : Key))) = s.any fun p => decide (p.1 = w) := by
    unfold dII
    rw [List.any_map]
    congr 1
    funext p
    simp
  unfold putK putH
  rw [e]
  split
  · unfold dII
    rw [List.map_map, List.map_map]
    refine List.map_congr_left fun p _ => ?_
    simp only [Function.comp_apply]
    by_cases c : p.1 = w
    · simp [c]
    · rw [if_neg fun z => c (Sum.inl.inj z), if_neg c]
  · simp [dII]
theorem putS_len {s : Stk} {w : Str} {n : Int} : (putS s w n).length ≤ s.length + 1 := by
  unfold putS; split <;> simp
theorem putH_len {s : Hep} {w : Int} {n : Int} : (putH s w n).length ≤ s.length + 1 := by
  unfold putH; split <;> simp
theorem putS_nodup {s : Stk} {w : Str} {n : Int} (hn : (s.map (·.1)).Nodup) : ((putS s w n).map (·.1)).Nodup := by
  have := putK_keys (k := .inr w) (d := .int n) (dSI_nodup hn)
  rw [putK_si] at this
  have e : (dSI (putS s w n)).map (·.1) = ((putS s w n).map (·.1)).map Sum.inr := by simp [dSI, Function.comp_def]
  rw [e, List.Nodup, List.pairwise_map] at this
  exact this.imp fun {a b} z e => z (by rw [e])
def srtSI (l : Stk) : D := .tup (srt (l.map pSI))
theorem putH_perm {s : Hep} {w n : Int} (hn : (s.map (·.1)).Nodup) : (putH s w n).Perm ((s.filter fun p => !decide (p.1 = w)) ++ [(w, n)]) := by
  have := (putK_perm (k := .inl w) (d := .int n) (dII_nodup hn)).map fun q : Key × D => (match q.1, q.2 with
    | .inl i, .int j => (i, j)
    | _, _ => ((0 : Int), (0 : Int)))
  rw [putK_ii] at this
  have e1 : ∀ l : Hep, (dII l).map (fun q : Key × D => (match q.1, q.2 with
    | .inl i, .int j => (i, j)
    | _, _ => ((0 : Int), (0 : Int)))) = l := by
    intro l
    induction l with
    | nil => rfl
    | cons p r ih =>
      unfold dII at ih ⊢
      rw [List.map_cons, List.map_cons, ih]
  rw [e1, List.map_append] at this
  have e2 : (dII s).filter (fun q => !decide (q.1 = (.inl w : Key))) = dII (s.filter fun p => !decide (p.1 = w)) := by
    unfold dII
    rw [List.filter_map]
    congr 1
    refine List.filter_congr fun p _ => ?_
    simp [Function.comp_apply]
  rw [e2, e1] at this
  exact this
theorem lookK_ii' {l : Hep} {p : Int × Int} (hn : (l.map (·.1)).Nodup) (h : p ∈ l) : lookK (.inl p.1) (dII l) = some (.int p.2) :=
  lookK_mem (dII_nodup hn) (List.mem_map.mpr ⟨p, h, rfl⟩)
theorem value_of_d {s : Sta} {w : Str} {R : DK} (hn : (s.1.map (·.1)).Nodup) (hw : w = ("nil" : Str) ∨ w ∈ s.1.map (·.1)) (h : R (.int (if w = ("nil" : Str) then 0 else valW s.1 w))) : m_value_of_48b4 [eSta s, .str w] R := by
  unfold m_value_of_48b4
  simp
  by_cases c : w = ("nil" : Str)
  · simp [c] at h ⊢
    exact h
  · simp [c] at h ⊢
    show bIx (eSta s) (.int 0) _
    simp only [eSta, bIx_t0, eStk, fDictA_tup]
    refine onPairs_si hn ?_
    show match lookK (.inr w) (dSI s.1) with | some d => R d | none => False
    rw [lookK_si (hw.resolve_left c)]
    exact h
theorem same_refl {b : Nat} (hb : b ≤ 10000) : ∀ (n : Nat) (d : D) (R : DK), wf b n d → R (.bl true) → m_l_same_bae6 n [d, d] R
  | 0, _, _, h, _ => h.elim
  | n + 1, .tup l, R, h, q => by
    unfold m_l_same_bae6
    simp [↓sSeq_s]
    have h1 : l.length ≤ 10000 := Nat.le_trans (And.left h) hb
    refine ⟨by omega, lcGo_fil (fun _ => false) (fun d => d) _ _ _ (fun d hd R hR => ?_) (by simp [rng]; omega) ?_⟩
    · obtain ⟨k, hk, rfl⟩ := rng_mem hd
      refine hR _ (fun Q q => ?_) (fun e => nomatch e)
      simp
      refine bIx_tup hk (bIx_tup hk ?_)
      exact same_refl hb n _ _ (And.right h _ (List.getElem_mem _)) q
    · simpa using q
  | n + 1, .lst l, R, h, q => by
    unfold m_l_same_bae6
    simp [↓sSeq_s]
    have h1 : l.length ≤ 10000 := Nat.le_trans (And.left h) hb
    refine ⟨by omega, lcGo_fil (fun _ => false) (fun d => d) _ _ _ (fun d hd R hR => ?_) (by simp [rng]; omega) ?_⟩
    · obtain ⟨k, hk, rfl⟩ := rng_mem hd
      refine hR _ (fun Q q => ?_) (fun e => nomatch e)
      simp
      refine bIx_lst hk (bIx_lst hk ?_)
      exact same_refl hb n _ _ (And.right h _ (List.getElem_mem _)) q
    · simpa using q
  | n + 1, .non, R, h, q => by
    unfold m_l_same_bae6
    simp [↓sSeq_s, uIsN, D.isNon, q]
  | n + 1, .bl c, R, h, q => by
    unfold m_l_same_bae6
    simp [↓sSeq_s, uIsN, D.isNon, q]
  | n + 1, .int i, R, h, q => by
    unfold m_l_same_bae6
    simp [↓sSeq_s, uIsN, D.isNon, q]
  | n + 1, .str x, R, h, q => by
    unfold m_l_same_bae6
    simp [↓sSeq_s, uIsN, D.isNon, q]
/-- any state that the laws walk -/
structure StG (ws : List Str) (s : Sta) : Prop where
  nodS : (s.1.map (·.1)).Nodup
  has : ∀ w ∈ ws, w ∈ s.1.map (·.1)
  nodH : (s.2.map (·.1)).Nodup
  lenS : s.1.length ≤ 100
  lenH : s.2.length ≤ 500
def valE (s : Sta) (w : Str) : Int := if w = ("nil" : Str) then 0 else valW s.1 w
def factB (s : Sta) (f : Row) : Bool := decide (valE s f.2.1 = valE s f.2.2) == decide (f.1 = ("same" : Str))
def hget (h : Hep) (a : Int) : Option Int := (h.find? fun p => decide (p.1 = a)).map (·.2)
theorem hget_look {h : Hep} {a : Int} : lookK (.inl a) (dII h) = (hget h a).map D.int := by
  induction h with
  | nil => rfl
  | cons p r ih =>
    show (if (Sum.inl p.1 : Key) = Sum.inl a then some (D.int p.2) else lookK (.inl a) (dII r)) = _
    by_cases c : p.1 = a
    · rw [if_pos (by rw [c])]
      simp [hget, c]
    · rw [if_neg fun z => c (Sum.inl.inj z), ih]
      simp [hget, c]
theorem hget_mem {h : Hep} {a b : Int} (e : hget h a = some b) : a ∈ h.map (·.1) := by
  unfold hget at e
  cases hf : h.find? (fun p => decide (p.1 = a)) with
  | none => rw [hf] at e; cases e
  | some p =>
    have h1 := List.find?_some hf
    have h2 := List.mem_of_find?_eq_some hf
    exact List.mem_map.mpr ⟨p, h2, of_decide_eq_true h1⟩
/-- the words of a row are words of the state -/
def rowIn (ws : List Str) (r : Row) : Prop := (r.2.1 = ("nil" : Str) ∨ r.2.1 ∈ ws) ∧ (r.2.2 = ("nil" : Str) ∨ r.2.2 ∈ ws)
theorem val_d {ws : List Str} {s : Sta} {w : Str} {R : DK} (g : StG ws s) (hw : w = ("nil" : Str) ∨ w ∈ ws) (h : R (.int (valE s w))) : m_value_of_48b4 [eSta s, .str w] R :=
  value_of_d g.nodS (hw.imp id (g.has w)) h
theorem bl_eq {x y : Bool} : eqb (.bl x) (.bl y) = (x == y) := by rw [eqb_bl]; cases x <;> cases y <;> rfl
theorem fact_holds_d {ws : List Str} {s : Sta} {f : Row} {R : DK} (g : StG ws s) (hf : rowIn ws f) (h : R (.bl (factB s f))) : m_fact_holds_1e76 [eRow f, eSta s] R := by
  unfold m_fact_holds_1e76
  simp [eRow]
  refine val_d g hf.1 ?_
  refine val_d g hf.2 ?_
  simp
  exact h
theorem l_fact_holds_d {ws : List Str} {s : Sta} {f : Row} {R : DK} (g : StG ws s) (hf : rowIn ws f) (h : R (.bl (factB s f))) : m_l_fact_holds_8e8f [eRow f, eSta s] R := by
  unfold m_l_fact_holds_8e8f
  simp [eRow]
  refine val_d g hf.1 ?_
  refine val_d g hf.2 ?_
  simp
  exact h
def segW (h : Hep) (goal : Int) : Nat → Int → List Int → Option (List Int)
  | 0, _, _ => none
  | n + 1, at_, found => if at_ = goal then some found else match hget h at_ with
    | none => none
    | some nx => if at_ ∈ found then none else segW h goal n nx (found ++ [at_])
def partP (s : Sta) (a : Row) : Option (List Int) := if a.1 = ("cell" : Str) then (if hget s.2 (valE s a.2.1) = some (valE s a.2.2) then some [valE s a.2.1] else none)
  else (segW s.2 (valE s a.2.2) (s.2.length + 1) (valE s a.2.1) []).map srtI
def optT : Option (List Int) → D
  | none => .non
  | some l => .tup (l.map D.int)
def optL : Option (List Int) → D
  | none => .non
  | some l => .lst (l.map D.int)
theorem isIn_dct {x : Int} {h : Hep} {R : Bool → Prop} (q : R (hget h x).isSome) : isIn (.int x) (.dct (dII h)) R := by
  show match (some (.inl x) : Option Key) with | some k => R (lookK k (dII h)).isSome | none => False
  dsimp only
  rw [hget_look]
  cases hh : hget h x <;> (rw [hh] at q; exact q)
theorem bIx_dct {x y : Int} {h : Hep} {R : DK} (e : hget h x = some y) (q : R (.int y)) : bIx (.dct (dII h)) (.int x) R := by
  show match lookK (.inl x) (dII h) with | some d => R d | none => False
  rw [hget_look, e]
  exact q
theorem isIn_intsL {x : Int} {l : List Int} {R : Bool → Prop} (h : R (decide (x ∈ l))) : isIn (.int x) (.lst (l.map D.int)) R := by
  rw [isIn_lst]
  refine ⟨⟨rfl, by simp, by rw [datL_all]; simp⟩, ?_⟩
  have : (l.map D.int).any (fun z => eqb z (.int x)) = decide (x ∈ l) := by
    rw [List.any_map, Bool.eq_iff_iff, List.any_eq_true, decide_eq_true_iff]
    simp
  rw [this]
  exact h
theorem nod_le {h : Hep} {found : List Int} (hn : found.Nodup) (hs : ∀ x ∈ found, x ∈ h.map (·.1)) : found.length ≤ h.length := by
  have := hn.length_le_of_subset hs
  simpa using this
theorem part_while {h : Hep} {goal : Int} {R : DK} {x0 x1 : Option D} : ∀ (k n : Nat) (at_ : Int) (found : List Int), found.Nodup → (∀ x ∈ found, x ∈ h.map (·.1)) → found.length + k = h.length + 1 → h.length ≤ 500 → k + 1 ≤ n → R (optT ((segW h goal k at_ found).map srtI)) →
    whGo (tVal (eBin cNe (eVar 2) (eVar 3))) (sSeq (sIf (tOr (tVal (eBin cNotIn (eVar 2) (eVar 4))) (tVal (eBin cIn (eVar 2) (eVar 5)))) (sRet (eC .non)) sSkip) (sSeq (sApp 5 (eVar 2)) (sSet 2 (eBin bIx (eVar 4) (eVar 2)))))
      ⟨(sRet (eCall fTuple (aCons (eCall fSorted (aCons (eVar 5) aNil)) aNil))) ⟨fun _ => R .non, R, fun _ => False, fun _ => False⟩, R, fun _ => False, fun _ => False⟩ n [x0, x1, some (.int at_), some (.int goal), some (.dct (dII h)), some (.lst (found.map D.int))]
  | 0, n, at_, found, hn, hs, hl, _, _, _ => by have := nod_le hn hs; omega
  | k + 1, 0, at_, found, hn, hs, hl, _, hf, _ => by omega
  | k + 1, n + 1, at_, found, hn, hs, hl, hh, hf, q => by
    unfold segW at q
    rw [whGo]
    simp
    by_cases c : at_ = goal
    · rw [if_pos c] at q
      rw [if_pos c, srt_i]
      exact ⟨okS_i _, q⟩
    · rw [if_neg c] at q
      rw [if_neg c]
      refine sSeq_i ?_
      simp
      refine isIn_dct ?_
      cases hg : hget h at_ with
      | none =>
        rw [hg] at q
        have q : R .non := q
        simpa using q
      | some nx =>
        rw [hg] at q
        dsimp only at q
        simp
        refine isIn_intsL ?_
        by_cases c2 : at_ ∈ found
        · rw [if_pos c2] at q
          have q : R .non := q
          simpa [c2] using q
        · rw [if_neg c2] at q
          simp [c2]
          refine sSeq_i ?_
          have := nod_le hn hs
          simp
          refine ⟨by omega, bIx_dct hg ?_⟩
          have e : found.map D.int ++ [D.int at_] = (found ++ [at_]).map D.int := by simp
          rw [e]
          refine part_while k n nx (found ++ [at_]) (List.nodup_append.mpr ⟨hn, by simp, fun a ha b hb e => ?_⟩) (fun x hx => ?_) (by simp; omega) hh (by omega) q
          · simp at hb
            exact c2 (by rw [← hb, ← e]; exact ha)
          · rcases List.mem_append.mp hx with y | y
            · exact hs x y
            · simp at y
              rw [y]
              exact hget_mem hg
theorem part_of_d {ws : List Str} {s : Sta} {a : Row} {R : DK} (g : StG ws s) (ha : rowIn ws a) (h : R (optT (partP s a))) : m_part_of_0339 [eRow a, eSta s] R := by
  unfold m_part_of_0339
  refine ⟨rfl, ?_⟩
  refine sSeq_i ?_
  simp [eRow]
  refine val_d g ha.1 ?_
  refine val_d g ha.2 ?_
  refine sSeq_i ?_
  have es : eSta s = .tup [eStk s.1, .tup (s.2.map pII)] := rfl
  rw [es]
  simp
  refine onPairs_ii g.nodH ?_
  refine sSeq_i ?_
  simp
  unfold partP at h
  by_cases c : a.1 = ("cell" : Str)
  · rw [if_pos c] at h
    rw [if_pos c, hget_look]
    cases hg : hget s.2 (valE s a.2.1) with
    | none =>
      rw [hg] at h
      simp [optT] at h
      have e : eqb .non (.int (valE s a.2.2)) = false := by
        show PyData.eqv .none (.int _) = false
        simp [PyData.eqv]
      simp [e]
      exact h
    | some y =>
      rw [hg] at h
      simp
      by_cases c2 : y = valE s a.2.2
      · simp [c2, optT] at h ⊢
        exact h
      · rw [if_neg fun z => c2 (Option.some.inj z)] at h
        simp [c2]
        exact h
  · rw [if_neg c] at h
    rw [if_neg c]
    refine sSeq_i ?_
    simp
    refine sSeq_i ?_
    exact part_while (s.2.length + 1) 100000 (valE s a.2.1) [] List.nodup_nil (by simp) (by simp) g.lenH (by have := g.lenH; omega) h
theorem l_part_loop {h : Hep} {goal : Int} {R : DK} {x0 x1 : Option D} (hh : h.length ≤ 500) : ∀ (k : Nat) (l : List D) (at_ : Int) (found : List Int) (x6 : Option D), l.length = k → found.Nodup → (∀ x ∈ found, x ∈ h.map (·.1)) → R (optL ((segW h goal k at_ found).map srtI)) →
    forGo (Fn.gName 6) (sSeq (sIf (tVal (eBin cEq (eVar 2) (eVar 3))) (sRet (eCall fSorted (aCons (eVar 5) aNil))) sSkip) (sSeq (sIf (tOr (tVal (eBin cNotIn (eVar 2) (eVar 4))) (tVal (eBin cIn (eVar 2) (eVar 5)))) (sRet (eC .non)) sSkip) (sSeq (sApp 5 (eVar 2)) (sSet 2 (eBin bIx (eVar 4) (eVar 2))))))
      ⟨(sRet (eC .non)) ⟨fun _ => R .non, R, fun _ => False, fun _ => False⟩, R, fun _ => False, fun _ => False⟩ l [x0, x1, some (.int at_), some (.int goal), some (.dct (dII h)), some (.lst (found.map D.int)), x6]
  | 0, [], at_, found, x6, _, hn, hs, q => by
    rw [forGo]
    simp
    exact q
  | k + 1, d :: l, at_, found, x6, hl, hn, hs, q => by
    unfold segW at q
    rw [forGo]
    simp only [gName_s, setN_6]
    refine sSeq_i ?_
    simp
    by_cases c : at_ = goal
    · rw [if_pos c] at q
      rw [if_pos c, srt_i]
      exact ⟨okS_i _, q⟩
    · rw [if_neg c] at q
      rw [if_neg c]
      refine sSeq_i ?_
      simp
      refine isIn_dct ?_
      cases hg : hget h at_ with
      | none =>
        rw [hg] at q
        have q : R .non := q
        simpa using q
      | some nx =>
        rw [hg] at q
        dsimp only at q
        simp
        refine isIn_intsL ?_
        by_cases c2 : at_ ∈ found
        · rw [if_pos c2] at q
          have q : R .non := q
          simpa [c2] using q
        · rw [if_neg c2] at q
          simp [c2]
          refine sSeq_i ?_
          have := nod_le hn hs
          simp
          refine ⟨by omega, bIx_dct hg ?_⟩
          have e : found.map D.int ++ [D.int at_] = (found ++ [at_]).map D.int := by simp
          rw [e]
          refine l_part_loop hh k l nx (found ++ [at_]) _ (by simpa using hl) (List.nodup_append.mpr ⟨hn, by simp, fun a ha b hb e => ?_⟩) (fun x hx => ?_) q
          · simp at hb
            exact c2 (by rw [← hb, ← e]; exact ha)
          · rcases List.mem_append.mp hx with y | y
            · exact hs x y
            · simp at y
              rw [y]
              exact hget_mem hg
theorem l_part_d {ws : List Str} {s : Sta} {a : Row} {R : DK} (g : StG ws s) (ha : rowIn ws a) (h : R (optL (partP s a))) : m_l_part_6cd0 [eRow a, eSta s] R := by
  unfold m_l_part_6cd0
  refine ⟨rfl, ?_⟩
  refine sSeq_i ?_
  simp [eRow]
  refine val_d g ha.1 ?_
  refine val_d g ha.2 ?_
  have es : eSta s = .tup [eStk s.1, .tup (s.2.map pII)] := rfl
  rw [es]
  simp
  refine onPairs_ii g.nodH ?_
  refine sSeq_i ?_
  simp
  unfold partP at h
  by_cases c : a.1 = ("cell" : Str)
  · rw [if_pos c] at h
    rw [if_pos c]
    refine isIn_dct ?_
    cases hg : hget s.2 (valE s a.2.1) with
    | none =>
      rw [hg] at h
      simpa [optL] using h
    | some y =>
      rw [hg] at h
      simp
      refine bIx_dct hg ?_
      by_cases c2 : y = valE s a.2.2
      · simp [c2, optL] at h ⊢
        exact h
      · rw [if_neg fun z => c2 (Option.some.inj z)] at h
        simp [c2]
        exact h
  · rw [if_neg c] at h
    rw [if_neg c]
    refine sSeq_i ?_
    simp
    refine sSeq_i ?_
    have hd : (dII s.2).length = s.2.length := by simp [dII]
    simp
    have := g.lenH
    refine ⟨by omega, ?_⟩
    exact l_part_loop g.lenH (s.2.length + 1) _ (valE s a.2.1) [] none (by rw [rng_len]; omega) List.nodup_nil (by simp) h
theorem segW_len {h : Hep} {goal : Int} : ∀ (n : Nat) (at_ : Int) (found l : List Int), segW h goal n at_ found = some l → l.length ≤ found.length + n
  | 0, _, _, _, e => by simp [segW] at e
  | n + 1, at_, found, l, e => by
    unfold segW at e
    split at e
    · cases e; omega
    · split at e
      · cases e
      · split at e
        · cases e
        · have := segW_len n _ _ _ e
          simp at this
          omega
theorem partP_len {ws : List Str} {s : Sta} {a : Row} {l : List Int} (g : StG ws s) (e : partP s a = some l) : l.length ≤ 600 := by
  unfold partP at e
  split at e
  · split at e
    · cases e; simp
    · cases e
  · cases hs : segW s.2 (valE s a.2.2) (s.2.length + 1) (valE s a.2.1) [] with
    | none => rw [hs] at e; cases e
    | some m =>
      rw [hs] at e
      have e : srtI m = l := Option.some.inj e
      have := segW_len _ _ _ _ hs
      have := g.lenH
      rw [← e, srtI_len]
      simp at *
      omega
def partsGo (s : Sta) : List Row → List Int → Option (List Int)
  | [], found => some found
  | a :: r, found => match partP s a with
    | none => none
    | some p => if (p.all fun x => !decide (x ∈ found)) = true then partsGo s r (found ++ p) else none
def partsP (s : Sta) (c : Case) : Option (List Int) := if c.1.all (factB s) = true then (partsGo s c.2 []).map srtI else none
structure CaseIn (ws : List Str) (c : Case) : Prop where
  facts : ∀ r ∈ c.1, rowIn ws r
  atoms : ∀ r ∈ c.2, rowIn ws r
  lf : c.1.length ≤ 10
  la : c.2.length ≤ 10
theorem parts_of_d {ws : List Str} {s : Sta} {c : Case} {R : DK} (g : StG ws s) (hc : CaseIn ws c) (h : R (optL (partsP s c))) : m_parts_of_05ba [eCase c, eSta s] R := by
  unfold m_parts_of_05ba
  refine ⟨rfl, ?_⟩
  refine sSeq_i ?_
  have ec : eCase c = .tup [.tup (c.1.map eRow), .tup (c.2.map eRow)] := rfl
  rw [ec]
  simp
  have hlf := hc.lf
  have hla := hc.la
  refine lcGo_mapE eRow (fun f => .bl (factB s f)) c.1 (fun f hf R hR => ?_) (by omega) (fAll_map ?_)
  · refine hR _ (fun Q q => q) fun Q q => ?_
    simp
    exact fact_holds_d g (hc.facts f hf) q
  unfold partsP at h
  generalize c.1.all (factB s) = fb at h ⊢
  cases fb with
  | false =>
    have h : R .non := h
    simpa using h
  | true =>
  rw [if_pos rfl] at h
  simp
  refine sSeq_i ?_
  simp
  refine sSeq_i ?_
  simp
  refine forGo_cont eRow c.2 (fun rest ρ => ∃ (found : List Int) (x3 x4 x5 x6 : Option D), ρ = [some (.tup [.tup (c.1.map eRow), .tup (c.2.map eRow)]), some (eSta s), some (.lst (found.map D.int)), x3, x4, x5, x6] ∧ found.length + 600 * rest.length ≤ 10000 ∧ (∀ r ∈ rest, rowIn ws r) ∧ R (optL ((partsGo s rest found).map srtI))) ⟨[], _, _, _, _, rfl, by simp; omega, hc.atoms, h⟩ ?_ ?_
  · rintro a rest ρ ⟨found, x3, x4, x5, x6, rfl, hl, hr, q⟩ K hK
    simp at hl
    simp only [gName_s, setN_3]
    refine sSeq_i ?_
    simp
    refine part_of_d g (hr a List.mem_cons_self) ?_
    unfold partsGo at q
    refine sSeq_i ?_
    cases hp : partP s a with
    | none =>
      rw [hp] at q
      have q : R .non := q
      simp [optT]
      exact q
    | some p =>
      rw [hp] at q
      dsimp only at q
      have hpl := partP_len g hp
      simp [optT]
      refine lcGo_mapE D.int (fun x => .bl (!decide (x ∈ found))) p (fun x hx R hR => ?_) (by omega) (fAll_map ?_)
      · refine hR _ (fun Q q => q) fun Q q => ?_
        simp
        exact isIn_intsL (by simpa using q)
      generalize (p.all fun x => !decide (x ∈ found)) = pb at q ⊢
      cases pb with
      | false =>
        have q : R .non := q
        simpa using q
      | true =>
      rw [if_pos rfl] at q
      simp
      refine ⟨by omega, ?_⟩
      have e : found.map D.int ++ p.map D.int = (found ++ p).map D.int := by simp
      rw [e]
      exact hK _ ⟨found ++ p, _, _, _, _, rfl, by simp; omega, fun r hr2 => hr r (List.mem_cons_of_mem _ hr2), q⟩
  · rintro ρ ⟨found, x3, x4, x5, x6, rfl, hl, hr, q⟩
    dsimp only
    simp
    rw [srt_i]
    exact ⟨okS_i _, q⟩
theorem l_parts_d {ws : List Str} {s : Sta} {c : Case} {R : DK} (g : StG ws s) (hc : CaseIn ws c) (h : R (optL (partsP s c))) : m_l_parts_a546 [eCase c, eSta s] R := by
  unfold m_l_parts_a546
  refine ⟨rfl, ?_⟩
  refine sSeq_i ?_
  have ec : eCase c = .tup [.tup (c.1.map eRow), .tup (c.2.map eRow)] := rfl
  rw [ec]
  simp
  have hlf := hc.lf
  have hla := hc.la
  refine lcGo_filE eRow eRow (fun f => !factB s f) c.1 (fun f hf R hR => ?_) (by omega) ?_
  · refine hR _ (fun Q q => ?_) fun _ Q q => by simpa using q
    simp
    exact l_fact_holds_d g (hc.facts f hf) q
  unfold partsP at h
  have hlen : ((c.1.filter fun f => !factB s f) = []) ↔ c.1.all (factB s) = true := by simp
  by_cases hfb : c.1.all (factB s) = true
  case neg =>
    rw [if_neg hfb] at h
    have h : R .non := h
    have := List.length_pos_iff.mpr fun z => hfb (hlen.mp z)
    rw [if_pos (by simpa using this)]
    exact h
  rw [if_pos hfb] at h
  rw [hlen.mpr hfb]
  simp
  refine sSeq_i ?_
  simp
  refine sSeq_i ?_
  simp
  refine forGo_cont eRow c.2 (fun rest ρ => ∃ (found : List Int) (x3 x4 x5 x6 : Option D), ρ = [some (.tup [.tup (c.1.map eRow), .tup (c.2.map eRow)]), some (eSta s), some (.lst (found.map D.int)), x3, x4, x5, x6] ∧ found.length + 600 * rest.length ≤ 10000 ∧ (∀ r ∈ rest, rowIn ws r) ∧ R (optL ((partsGo s rest found).map srtI))) ⟨[], _, _, _, _, rfl, by simp; omega, hc.atoms, h⟩ ?_ ?_
  · rintro a rest ρ ⟨found, x3, x4, x5, x6, rfl, hl, hr, q⟩ K hK
    simp at hl
    simp only [gName_s, setN_3]
    refine sSeq_i ?_
    simp
    refine l_part_d g (hr a List.mem_cons_self) ?_
    unfold partsGo at q
    refine sSeq_i ?_
    cases hp : partP s a with
    | none =>
      rw [hp] at q
      have q : R .non := q
      simp [optL]
      exact q
    | some p =>
      rw [hp] at q
      dsimp only at q
      have hpl := partP_len g hp
      simp [optL]
      refine lcGo_filE D.int D.int (fun x => decide (x ∈ found)) p (fun x hx R hR => ?_) (by omega) ?_
      · refine hR _ (fun Q q => ?_) fun _ Q q => by simpa using q
        simp
        exact isIn_intsL (by simpa using q)
      have hpb : (p.filter fun x => decide (x ∈ found)) = [] ↔ (p.all fun x => !decide (x ∈ found)) = true := by simp
      by_cases hpa : (p.all fun x => !decide (x ∈ found)) = true
      case neg =>
        rw [if_neg hpa] at q
        have q : R .non := q
        have := List.length_pos_iff.mpr fun z => hpa (hpb.mp z)
        rw [if_pos (by simpa using this)]
        exact q
      rw [if_pos hpa] at q
      rw [hpb.mpr hpa]
      simp
      refine ⟨by omega, ?_⟩
      have e : found.map D.int ++ p.map D.int = (found ++ p).map D.int := by simp
      rw [e]
      exact hK _ ⟨found ++ p, _, _, _, _, rfl, by simp; omega, fun r hr2 => hr r (List.mem_cons_of_mem _ hr2), q⟩
  · rintro ρ ⟨found, x3, x4, x5, x6, rfl, hl, hr, q⟩
    dsimp only
    simp
    rw [srt_i]
    exact ⟨okS_i _, q⟩
def dueD (s : Sta) : D := .lst ((s.2.map (·.1)).map D.int)
def caseH (s : Sta) (c : Case) : Bool := eqb (optL (partsP s c)) (dueD s)
theorem optL_ok {o : Option (List Int)} : (optL o).dat = true ∧ (optL o).dep ≤ 3 := by
  cases o with
  | none => simp [optL]
  | some l =>
    have h : ∀ l : List Int, datL (l.map D.int) = true ∧ depL (l.map D.int) ≤ 1 := by
      intro l
      induction l with
      | nil => simp
      | cons x r ih => simp [ih.1]; omega
    have := h l
    simp [optL, this.1]
    omega
theorem dueD_ok {s : Sta} : (dueD s).dat = true ∧ (dueD s).dep ≤ 3 := optL_ok (o := some (s.2.map fun p : Int × Int => p.1))
theorem case_holds_d {ws : List Str} {s : Sta} {c : Case} {R : DK} (g : StG ws s) (hc : CaseIn ws c) (h : R (.bl (caseH s c))) : m_case_holds_4b11 [eCase c, eSta s] R := by
  unfold m_case_holds_4b11
  have hl := g.lenH
  simp
  refine parts_of_d g hc ?_
  have es : eSta s = .tup [eStk s.1, .tup (s.2.map pII)] := rfl
  rw [es]
  simp
  refine lcGo_mapE pII (fun p => .int p.1) s.2 (fun p hp R hR => ?_) (by omega) ?_
  · simp [pII]
    exact hR _ (fun Q q => q) fun Q q => by simpa using q
  have e : s.2.map (fun p => D.int p.1) = (s.2.map (·.1)).map D.int := by simp
  rw [e]
  exact ⟨⟨optL_ok.1, dueD_ok.1, by have := @optL_ok (partsP s c); omega⟩, h⟩
theorem holds_d {ws : List Str} {s : Sta} {a : Asr} {R : DK} (g : StG ws s) (ha : ∀ c ∈ a, CaseIn ws c) (hl : a.length ≤ 1000) (h : R (.bl (a.any (caseH s)))) : m_holds_4831 [eAsr a, eSta s] R := by
  unfold m_holds_4831
  simp [eAsr]
  refine lcGo_mapE eCase (fun c => .bl (caseH s c)) a (fun c hc R hR => ?_) (by omega) (fAny_map h)
  refine hR _ (fun Q q => q) fun Q q => ?_
  simp
  exact case_holds_d g (ha c hc) q
def partH (s : Sta) (c : Case) : Bool := !(optL (partsP s c)).isNon
theorem holds_in_part_d {ws : List Str} {s : Sta} {a : Asr} {R : DK} (g : StG ws s) (ha : ∀ c ∈ a, CaseIn ws c) (hl : a.length ≤ 1000) (h : R (.bl (a.any (partH s)))) : m_holds_in_part_0669 [eAsr a, eSta s] R := by
  unfold m_holds_in_part_0669
  simp [eAsr]
  refine lcGo_mapE eCase (fun c => .bl (partH s c)) a (fun c hc R hR => ?_) (by omega) (fAny_map h)
  refine hR _ (fun Q q => q) fun Q q => ?_
  simp
  exact parts_of_d g (ha c hc) q
theorem l_holds_d {ws : List Str} {s : Sta} {a : Asr} {R : DK} (g : StG ws s) (ha : ∀ c ∈ a, CaseIn ws c) (hl : a.length ≤ 1000) (h : R (.bl (a.any (caseH s)))) : m_l_holds_8c93 [eAsr a, eSta s] R := by
  unfold m_l_holds_8c93
  have hl2 := g.lenH
  refine ⟨rfl, ?_⟩
  refine sSeq_i ?_
  have es : eSta s = .tup [eStk s.1, .tup (s.2.map pII)] := rfl
  rw [es]
  simp
  refine lcGo_mapE pII (fun p => .int p.1) s.2 (fun p hp R hR => ?_) (by omega) ?_
  · refine hR _ (fun Q q => q) fun Q q => ?_
    simp [pII]
    exact q
  have e : D.lst (s.2.map fun p => D.int p.1) = dueD s := by simp [dueD]
  rw [e, ← es]
  simp [eAsr]
  refine lcGo_filE eCase eCase (caseH s) a (fun c hc R hR => ?_) (by omega) ?_
  · refine hR _ (fun Q q => ?_) fun _ Q q => by simpa using q
    simp
    refine l_parts_d g (ha c hc) ?_
    refine ⟨⟨optL_ok.1, dueD_ok.1, by have := @optL_ok (partsP s c); omega⟩, q⟩
  simp only [List.length_map, Int.natCast_pos, len_any]
  exact h
theorem l_holds_in_part_d {ws : List Str} {s : Sta} {a : Asr} {R : DK} (g : StG ws s) (ha : ∀ c ∈ a, CaseIn ws c) (hl : a.length ≤ 1000) (h : R (.bl (a.any (partH s)))) : m_l_holds_in_part_c090 [eAsr a, eSta s] R := by
  unfold m_l_holds_in_part_c090
  simp [eAsr]
  refine lcGo_filE eCase eCase (partH s) a (fun c hc R hR => ?_) (by omega) ?_
  · refine hR _ (fun Q q => ?_) fun _ Q q => by simpa using q
    simp
    exact l_parts_d g (ha c hc) (by simpa [partH] using q)
  simp only [List.length_map, Int.natCast_pos, len_any]
  exact h
def bnd (i : Int) : Prop := i.natAbs < 2 ^ 40
structure StkOk (ws : List Str) (st : Stk) : Prop where
  keys : st.map (·.1) = ws
  vals : ∀ p ∈ st, bnd p.2
theorem valW_bnd {ws : List Str} {st : Stk} (h : StkOk ws st) (w : Str) : bnd (valW st w) := by
  unfold valW
  cases hf : st.find? fun p => decide (p.1 = w) with
  | none => exact (by decide : (0 : Int).natAbs < 2 ^ 40)
  | some p => exact h.vals p (List.mem_of_find?_eq_some hf)
theorem putS_ok {ws : List Str} {st : Stk} {w : Str} {n : Int} (h : StkOk ws st) (hw : w ∈ ws) (hn : bnd n) : StkOk ws (putS st w n) := by
  have hw2 : w ∈ st.map (·.1) := by rw [h.keys]; exact hw
  have ha : (st.any fun p => decide (p.1 = w)) = true := by
    obtain ⟨p, hp, e⟩ := List.mem_map.mp hw2
    exact List.any_eq_true.mpr ⟨p, hp, decide_eq_true e⟩
  unfold putS
  rw [if_pos ha]
  refine ⟨?_, fun p hp => ?_⟩
  · rw [← h.keys, List.map_map]
    refine List.map_congr_left fun p _ => ?_
    simp only [Function.comp_apply]
    split <;> rfl
  · obtain ⟨q, hq, rfl⟩ := List.mem_map.mp hp
    split
    · exact hn
    · exact h.vals q hq
structure HepOk (n : Nat) (h : Hep) : Prop where
  nod : (h.map (·.1)).Nodup
  vals : ∀ p ∈ h, bnd p.1 ∧ bnd p.2
  len : h.length ≤ n
theorem putH_ok {n : Nat} {h : Hep} {a b : Int} (k : HepOk n h) (ha : bnd a) (hb : bnd b) : HepOk (n + 1) (putH h a b) := by
  refine ⟨?_, fun p hp => ?_, by have := putH_len (s := h) (w := a) (n := b); have := k.len; omega⟩
  · have := putK_keys (k := .inl a) (d := .int b) (dII_nodup k.nod)
    rw [putK_ii] at this
    have e : (dII (putH h a b)).map (·.1) = ((putH h a b).map (·.1)).map Sum.inl := by simp [dII, Function.comp_def]
    rw [e, List.Nodup, List.pairwise_map] at this
    exact this.imp fun {a b} z e => z (by rw [e])
  · unfold putH at hp
    split at hp
    · obtain ⟨q, hq, rfl⟩ := List.mem_map.mp hp
      split
      · exact ⟨(k.vals q hq).1, hb⟩
      · exact k.vals q hq
    · rcases List.mem_append.mp hp with z | z
      · exact k.vals p z
      · simp at z
        subst z
        exact ⟨ha, hb⟩
theorem bIx_si {st : Stk} {w : Str} {R : DK} (hw : w ∈ st.map (·.1)) (q : R (.int (valW st w))) : bIx (.dct (dSI st)) (.str w) R := by
  show match lookK (.inr w) (dSI st) with | some d => R d | none => False
  rw [lookK_si hw]
  exact q
theorem isIn_intsT {x : Int} {l : List Int} {R : Bool → Prop} (h : R (decide (x ∈ l))) : isIn (.int x) (.tup (l.map D.int)) R := by
  rw [isIn_tup]
  refine ⟨⟨rfl, by simp, by rw [datL_all]; simp⟩, ?_⟩
  have : (l.map D.int).any (fun z => eqb z (.int x)) = decide (x ∈ l) := by
    rw [List.any_map, Bool.eq_iff_iff, List.any_eq_true, decide_eq_true_iff]
    simp
  rw [this]
  exact h
structure StB (ws : List Str) (s : Sta) : Prop where
  g : StG ws s
  bS : ∀ p ∈ s.1, bnd p.2
  bH : ∀ p ∈ s.2, bnd p.1 ∧ bnd p.2
theorem bnd_small {i : Int} (h : bnd i) : i.natAbs < 2 ^ 64 := by unfold bnd at h; omega
theorem bnd_of {i : Int} (h : i.natAbs ≤ 100000) : bnd i := by unfold bnd; omega
theorem state_of_d {ws : List Str} {c : Case} {most : Nat} {R : DK} (hn : ws.Nodup) (hl : ws.length ≤ 10) (hc : CaseIn ws c) (hm0 : 0 < most) (hm : most ≤ 8) (hnon : R .non) (h : ∀ s : Sta, StB ws s → s.2.length ≤ 100 → R (eSta s)) : m_l_state_of_115e [.pool, eCase c, .lst (ws.map D.str), .int most] R := by
  have hlf := hc.lf
  have hla := hc.la
  unfold m_l_state_of_115e
  refine ⟨rfl, ?_⟩
  refine sSeq_i ?_
  have ec : eCase c = .tup [.tup (c.1.map eRow), .tup (c.2.map eRow)] := rfl
  rw [ec]
  simp
  refine lcGo_gen false (fun (x : Str) (b : Str × Int) => b.1 = x ∧ bnd b.2) D.str pSI ws (fun x hx R hR => ?_) (by omega) fun st0 hst => ?_
  · refine hR _ (fun Q q _ => q) fun Q q => ?_
    simp
    refine draw_any (by omega) (by omega) fun k hk => q (x, k) ⟨rfl, bnd_of (by simp; omega)⟩
  have ok0 : StkOk ws st0 := ⟨hst.all fun a b z => z.1, fun p hp => by obtain ⟨a, _, z⟩ := hst.mem p hp; exact z.2⟩
  refine onPairs_si (by rw [ok0.keys]; exact hn) ?_
  refine sSeq_i ?_
  simp
  refine forGo_cont eRow c.1 (fun rest ρ => ∃ (st : Stk) (x5 : Option D), StkOk ws st ∧ (∀ r ∈ rest, rowIn ws r) ∧ ρ = [some .pool, some (.tup [.tup (c.1.map eRow), .tup (c.2.map eRow)]), some (.lst (ws.map D.str)), some (.int most), some (.dct (dSI st)), x5, none, none, none, none, none, none, none, none, none, none, none, none, none, none]) ⟨st0, none, ok0, hc.facts, rfl⟩ ?_ ?_
  · rintro f rest ρ ⟨st, x5, ok, hr, rfl⟩ K hK
    have hf := hr f List.mem_cons_self
    have hr2 := fun r z => hr r (List.mem_cons_of_mem _ z)
    simp [eRow]
    by_cases c1 : f.1 = ("same" : Str)
    · by_cases c2 : f.2.1 = ("nil" : Str)
      · simp [c1, c2]
        exact hK _ ⟨st, _, ok, hr2, rfl⟩
      · simp [c1, c2]
        have hw := hf.1.resolve_left c2
        have hlen : (dSI st).length = st.length := by simp [dSI]
        have hstl : st.length = ws.length := by rw [← ok.keys, List.length_map]
        by_cases c3 : f.2.2 = ("nil" : Str)
        · simp [c3]
          rw [putK_si]
          exact ⟨by omega, hK _ ⟨_, _, putS_ok ok hw (bnd_of (by decide)), hr2, rfl⟩⟩
        · simp [c3]
          refine bIx_si (by rw [ok.keys]; exact hf.2.resolve_left c3) ?_
          rw [putK_si]
          exact ⟨by omega, hK _ ⟨_, _, putS_ok ok hw (valW_bnd ok _), hr2, rfl⟩⟩
    · simp [c1]
      exact hK _ ⟨st, _, ok, hr2, rfl⟩
  rintro ρ ⟨st, x5, ok, _, rfl⟩
  dsimp only
  refine sSeq_i ?_
  simp
  refine sSeq_i ?_
  simp
  refine forGo_cont eRow c.2 (fun rest ρ => ∃ (h : Hep) (n : Nat) (b : Int) (x5 x8 x9 x10 x11 x12 x13 x14 x15 x16 : Option D), HepOk n h ∧ n + 8 * rest.length ≤ 100 ∧ b.natAbs + 8 * rest.length ≤ 1000 ∧ (∀ r ∈ rest, rowIn ws r) ∧ ρ = [some .pool, some (.tup [.tup (c.1.map eRow), .tup (c.2.map eRow)]), some (.lst (ws.map D.str)), some (.int most), some (.dct (dSI st)), x5, some (.dct (dII h)), some (.int b), x8, x9, x10, x11, x12, x13, x14, x15, x16, none, none, none]) ⟨[], 0, 6, x5, none, none, none, none, none, none, none, none, none, ⟨List.nodup_nil, by simp, by simp⟩, by omega, by simp; omega, hc.atoms, rfl⟩ ?_ ?_
  · rintro f rest ρ ⟨h0, n0, b0, x5, x8, x9, x10, x11, x12, x13, x14, x15, x16, hk, hl1, hl2, hr, rfl⟩ K hK
    have hf := hr f List.mem_cons_self
    have hr2 := fun r z => hr r (List.mem_cons_of_mem _ z)
    simp only [List.length_cons] at hl1 hl2
    simp [eRow]
    refine sSeq_i ?_
    have hval : ∀ (w : Str) (R : DK), (w = ("nil" : Str) ∨ w ∈ ws) → (∀ v, bnd v → R (.int v)) → (if w = ("nil" : Str) then R (.int 0) else bIx (.dct (dSI st)) (.str w) R) := by
      intro w R hw hh
      by_cases c0 : w = ("nil" : Str)
      · rw [if_pos c0]
        exact hh 0 (bnd_of (by decide))
      · rw [if_neg c0]
        exact bIx_si (by rw [ok.keys]; exact hw.resolve_left c0) (hh _ (valW_bnd ok w))
    simp
    refine hval _ _ hf.1 fun at0 ha0 => ?_
    refine hval _ _ hf.2 fun goal hgo => ?_
    refine sSeq_i ?_
    have hmany : ∀ (ρ : Ren) (Q : DK), ρ = [some .pool, some (.tup [.tup (c.1.map eRow), .tup (c.2.map eRow)]), some (.lst (ws.map D.str)), some (.int most), some (.dct (dSI st)), x5, some (.dct (dII h0)), some (.int b0), some (.str f.1), some (.str f.2.1), some (.str f.2.2), some (.int at0), some (.int goal), x13, x14, x15, x16, none, none, none] → (∀ k : Nat, k ≤ 8 → Q (.int k)) →
        eIf (tVal (eBin cEq (eVar 8) (eC (.str "cell")))) (eC (.int 1)) (eIf (tVal (eBin cEq (eVar 11) (eVar 12))) (eC (.int 0)) (eBin bAdd (eC (.int 1)) (eCall fDraw (aCons (eVar 0) (aCons (eVar 3) aNil))))) ρ Q := by
      rintro ρ Q rfl hh
      simp
      by_cases d1 : f.1 = ("cell" : Str)
      · rw [if_pos d1]
        exact hh 1 (by omega)
      · rw [if_neg d1]
        by_cases d2 : at0 = goal
        · rw [if_pos d2]
          exact hh 0 (by omega)
        · rw [if_neg d2]
          refine draw_any (by omega) (by omega) fun k hk => ?_
          rw [bAdd_int]
          have := hh (1 + k) (by omega)
          simpa using this
    simp only [sSet_s]
    refine hmany _ _ rfl fun many hmn => ?_
    simp only [setN_13]
    simp
    refine ⟨by omega, ?_⟩
    refine forGo_cont (fun k : Nat => D.int (0 + k)) (List.range many) (fun rest2 ρ => ∃ (h1 : Hep) (n1 : Nat) (b1 at1 : Int) (x14 x15 x16 : Option D), HepOk n1 h1 ∧ n1 + rest2.length + 8 * rest.length ≤ 100 ∧ b1.natAbs + rest2.length + 8 * rest.length ≤ 1000 ∧ bnd at1 ∧ ρ = [some .pool, some (.tup [.tup (c.1.map eRow), .tup (c.2.map eRow)]), some (.lst (ws.map D.str)), some (.int most), some (.dct (dSI st)), x5, some (.dct (dII h1)), some (.int b1), some (.str f.1), some (.str f.2.1), some (.str f.2.2), some (.int at1), some (.int goal), some (.int many), x14, x15, x16, none, none, none]) ⟨h0, n0, b0, at0, x14, x15, x16, hk, by simp; omega, by simp; omega, ha0, rfl⟩ ?_ ?_
    · rintro k rest2 ρ ⟨h1, n1, b1, at1, x14, x15, x16, hk1, hm1, hm2, hat, rfl⟩ K2 hK2
      simp only [List.length_cons] at hm1 hm2
      simp only [gName_s, setN_14]
      refine sSeq_i ?_
      simp
      by_cases d1 : at1 = 0
      · simp [d1]
        exact hnon
      simp [d1]
      refine isIn_dct ?_
      cases hg : (hget h1 at1).isSome with
      | true => simpa using hnon
      | false =>
      simp
      refine sSeq_i ?_
      simp
      refine lcGo_filE D.str (fun w => .int (valW st w)) (fun w => !(hget h1 (valW st w)).isSome && !decide (valW st w ∈ [0, at1, goal])) ws (fun w hw R hR => ?_) (by omega) ?_
      · have hw2 : w ∈ st.map (·.1) := by rw [ok.keys]; exact hw
        refine hR _ (fun Q q => ?_) fun _ Q q => ?_
        · simp
          refine bIx_si hw2 ?_
          refine isIn_dct ?_
          cases e1 : (hget h1 (valW st w)).isSome with
          | true => rw [e1] at q; simpa using q
          | false =>
            rw [e1] at q
            simp
            refine bIx_si hw2 ?_
            exact isIn_intsT (l := [0, at1, goal]) (by simpa using q)
        · simp
          exact bIx_si hw2 q
      generalize hso : ws.filter (fun w => !(hget h1 (valW st w)).isSome && !decide (valW st w ∈ [0, at1, goal])) = some_
      have hsl : some_.length ≤ 10 := by rw [← hso]; exact Nat.le_trans (List.length_filter_le _ _) hl
      refine sSeq_i ?_
      have fin : ∀ (after b2 : Int) (x16' : Option D), bnd after → b2.natAbs ≤ b1.natAbs + 1 → x16' = some (.int after) → sSeq (sPutD 6 (eVar 11) (eVar 16)) (sSet 11 (eVar 16)) ⟨K2, R, K, K2⟩ [some .pool, some (.tup [.tup (c.1.map eRow), .tup (c.2.map eRow)]), some (.lst (ws.map D.str)), some (.int most), some (.dct (dSI st)), x5, some (.dct (dII h1)), some (.int b2), some (.str f.1), some (.str f.2.1), some (.str f.2.2), some (.int at1), some (.int goal), some (.int many), some (.int k), some (.lst (some_.map fun w => .int (valW st w))), x16', none, none, none] := by
        rintro after b2 x16' haf hb2 rfl
        refine sSeq_i ?_
        simp
        have : (dII h1).length = h1.length := by simp [dII]
        have := hk1.len
        rw [putK_ii]
        exact ⟨by omega, hK2 _ ⟨_, n1 + 1, b2, after, _, _, _, putH_ok hk1 hat haf, by omega, by omega, haf, rfl⟩⟩
      simp
      split
      · exact fin goal b1 _ hgo (by omega) rfl
      · split
        · rename_i hpos
          refine draw_any (by omega) (by omega) fun j hj => ?_
          refine ⟨by simp, ?_⟩
          split
          · refine pick_d (by simpa using hpos) (by simp; omega) fun d hd => ?_
            obtain ⟨w, _, rfl⟩ := List.mem_map.mp hd
            exact fin _ b1 _ (valW_bnd ok w) (by omega) rfl
          · exact fin b1 (b1 + 1) _ (bnd_of (by omega)) (by omega) rfl
        · exact fin b1 (b1 + 1) _ (bnd_of (by omega)) (by omega) rfl
    · rintro ρ ⟨h1, n1, b1, at1, x14, x15, x16, hk1, hm1, hm2, hat, rfl⟩
      dsimp only
      simp at hm1 hm2
      exact hK _ ⟨h1, n1, b1, x5, _, _, _, _, _, _, x14, x15, x16, hk1, by omega, by omega, hr2, rfl⟩
  · rintro ρ ⟨h1, n1, b1, x5, x8, x9, x10, x11, x12, x13, x14, x15, x16, hk1, hm1, hm2, _, rfl⟩
    dsimp only
    simp at hm1
    have hl1 := hk1.len
    refine sSeq_i ?_
    simp
    refine lcGo_mapE D.str (fun w => pSI (w, valW st w)) ws (fun w hw R hR => ?_) (by omega) ?_
    · refine hR _ (fun Q q => q) fun Q q => ?_
      simp
      exact bIx_si (by rw [ok.keys]; exact hw) q
    have e1 : ws.map (fun w => pSI (w, valW st w)) = (ws.map fun w => (w, valW st w)).map pSI := by simp
    rw [e1]
    refine ⟨okS_si _, ?_⟩
    obtain ⟨S2, pS2, eS2⟩ := srt_tell pSI (ws.map fun w => (w, valW st w))
    rw [eS2]
    have ek : (dII h1).map (fun kv => keyD kv.1) = h1.map fun p => D.int p.1 := by simp [dII, Function.comp_def]
    rw [ek]
    refine lcGo_mapE (fun p : Int × Int => D.int p.1) pII h1 (fun p hp R hR => ?_) (by omega) ?_
    · refine hR _ (fun Q q => q) fun Q q => ?_
      simp
      show match lookK (.inl p.1) (dII h1) with | some d => Q (.tup [.int p.1, d]) | none => False
      rw [lookK_ii' hk1.nod hp]
      exact q
    refine ⟨okS_ii _, ?_⟩
    rw [srt_ii]
    have hS2 : (S2.map (·.1)).Perm ws := by
      have := pS2.map (·.1)
      rwa [List.map_map, show ((fun x : Str × Int => x.1) ∘ fun w => (w, valW st w)) = id from rfl, List.map_id] at this
    have g : StG ws (S2, srtII h1) := ⟨hS2.nodup_iff.mpr hn, fun w hw => hS2.mem_iff.mpr hw, ((List.mergeSort_perm h1 leII).map (·.1)).nodup_iff.mpr hk1.nod, by have := hS2.length_eq; simp at this; show S2.length ≤ 100; omega, by show (srtII h1).length ≤ 500; rw [srtII_len]; omega⟩
    have B : StB ws (S2, srtII h1) := ⟨g, fun p hp => by
      obtain ⟨w, _, rfl⟩ := List.mem_map.mp (pS2.mem_iff.mp hp)
      exact valW_bnd ok w, fun p hp => hk1.vals p (srtII_mem.mp hp)⟩
    have es : D.tup [.tup (S2.map pSI), .tup ((srtII h1).map pII)] = eSta (S2, srtII h1) := rfl
    rw [es]
    have ea : D.tup [.tup [.tup (c.1.map eRow), .tup (c.2.map eRow)]] = eAsr [c] := rfl
    rw [ea]
    refine l_holds_d g (fun z hz => by simp at hz; rw [hz]; exact hc) (by simp) ?_
    simp
    split
    · exact h _ B (by show (srtII h1).length ≤ 100; rw [srtII_len]; omega)
    · exact hnon
theorem states_of_d {ws : List Str} {a : Asr} {most many : Nat} {R : DK} (hn : ws.Nodup) (hl : ws.length ≤ 10) (ha : ∀ c ∈ a, CaseIn ws c) (hal : a.length ≤ 1000) (hm0 : 0 < most) (hm : most ≤ 8) (hmany : many ≤ 1000) (h : ∀ l : List Sta, (∀ s ∈ l, StB ws s ∧ s.2.length ≤ 100) → l.length ≤ many → R (.lst (l.map eSta))) : m_l_states_of_520a [.pool, eAsr a, .lst (ws.map D.str), .int many, .int most] R := by
  unfold m_l_states_of_520a
  refine ⟨rfl, ?_⟩
  refine sSeq_i ?_
  simp
  refine sSeq_i ?_
  simp
  refine ⟨by omega, ?_⟩
  have er : rng 0 many = (List.range many).map fun k : Nat => D.int (0 + k) := rfl
  rw [er]
  refine forGo_cont (fun k : Nat => D.int (0 + k)) (List.range many) (fun rest ρ => ∃ (l : List Sta) (x6 x7 : Option D), (∀ s ∈ l, StB ws s ∧ s.2.length ≤ 100) ∧ l.length + rest.length ≤ many ∧ ρ = [some .pool, some (eAsr a), some (.lst (ws.map D.str)), some (.int many), some (.int most), some (.lst (l.map eSta)), x6, x7]) ⟨[], none, none, by simp, by simp, rfl⟩ ?_ ?_
  · rintro k rest ρ ⟨l, x6, x7, hs, hlen, rfl⟩ K hK
    simp only [List.length_cons] at hlen
    simp [eAsr]
    split
    · rename_i hpos
      refine sSeq_i ?_
      simp
      refine pick_t (by simpa using hpos) (by simp; omega) fun d hd => ?_
      obtain ⟨c, hc, rfl⟩ := List.mem_map.mp hd
      refine state_of_d hn hl (ha c hc) hm0 hm ?_ fun s B B2 => ?_
      · simp
        exact ⟨by omega, hK _ ⟨l, _, _, hs, by omega, rfl⟩⟩
      · simp [eSta]
        refine ⟨by omega, hK _ ⟨l ++ [s], some (.int k), some (eSta s), fun z hz => ?_, by simp; omega, ?_⟩⟩
        · rcases List.mem_append.mp hz with y | y
          · exact hs z y
          · simp at y
            rw [y]
            exact ⟨B, B2⟩
        · simp [eSta, eAsr]
    · exact hK _ ⟨l, _, _, hs, by omega, rfl⟩
  · rintro ρ ⟨l, x6, x7, hs, hlen, rfl⟩
    dsimp only
    simp
    exact h l hs (by simpa using hlen)
theorem state_d {ws : List Str} {most : Nat} {cells : Int} {R : DK} (hw : ws.length ≤ 1000) (hm : most ≤ 1000) (h : ∀ s : Sta, StaOk (srtS ws) most s → R (eSta s)) : m_l_state_74e1 [.pool, .lst (ws.map D.str), .int most, .int cells] R := by
  unfold m_l_state_74e1
  refine ⟨rfl, ?_⟩
  refine sSeq_i ?_
  simp
  refine ⟨okS_strs ws, ?_⟩
  rw [srt_strs]
  refine lcGo_gen false (fun (x : Str) (b : Str × Int) => b.1 = x ∧ 0 ≤ b.2 ∧ b.2 ≤ most) D.str pSI (srtS ws) (fun x hx R hR => ?_) (by rw [srtS_len]; omega) fun stk hstk => ?_
  · refine hR _ (fun Q q _ => q) fun Q q => ?_
    simp
    refine draw_any (by omega) (by omega) fun k hk => q (x, k) ⟨rfl, by simp, by simp; omega⟩
  refine sSeq_i ?_
  simp
  refine ⟨by omega, ?_⟩
  have e : rng 1 (((most : Int) + 2).toNat - 1) = ((List.range (most + 1)).map fun k : Nat => ((1 : Int) + k)).map D.int := by
    have : ((most : Int) + 2).toNat - 1 = most + 1 := by omega
    rw [this, List.map_map]
    rfl
  rw [e]
  refine lcGo_gen true (fun (x : Int) (b : Int × Int) => b.1 = x ∧ 0 ≤ b.2 ∧ b.2 ≤ most + 1) D.int pII _ (fun x hx R hR => ?_) (by simp; omega) fun hep hhep => ?_
  · refine hR _ (fun Q q1 q2 => ?_) fun Q q => ?_
    · simp
      refine draw_any (by omega) (by omega) fun k hk => ?_
      simp
      cases decide ((k : Int) < cells)
      · exact q2 rfl
      · exact q1
    · simp
      refine draw_any (by omega) (by omega) fun k hk => q (x, k) ⟨rfl, by simp, by simp; omega⟩
  refine h (stk, hep) ⟨hstk.all fun a b z => z.1, fun p hp => ?_, ?_, fun p hp => ?_, ?_⟩
  · obtain ⟨a, _, z⟩ := hstk.mem p hp
    exact z.2
  · have := hhep.sub (g := fun b => b.1) (fun a b z => z.1)
    have := rng_pair.sublist this
    rwa [List.pairwise_map] at this
  · obtain ⟨a, ha, z⟩ := hhep.mem p hp
    obtain ⟨k, hk, rfl⟩ := List.mem_map.mp ha
    have := List.mem_range.mp hk
    exact ⟨by omega, by omega, z.2⟩
  · have := hhep.len
    simpa using this
theorem l_put_cell_d {s : Sta} {w : Int} {n : Int} {R : DK} (hn : (s.2.map (·.1)).Nodup) (hl : s.2.length ≤ 1000) (h : R (.tup [eStk s.1, eHep (srtII (putH s.2 w n))])) : m_l_put_cell_512e [eSta s, .int w, .int n] R := by
  unfold m_l_put_cell_512e
  simp [eSta, eHep]
  refine lcGo_filE pII pII (fun p => !decide (p.1 = w)) s.2 (fun p hp R hR => ?_) (by omega) ?_
  · refine hR _ (fun Q q => ?_) fun _ Q q => ?_
    · simp [pII]
      simpa using q
    · simpa using q
  · have hf := List.length_filter_le (fun p : Int × Int => !decide (p.1 = w)) s.2
    simp
    refine ⟨by omega, ?_⟩
    have e : (s.2.filter fun p => !decide (p.1 = w)).map pII ++ [D.tup [.int w, .int n]] = ((s.2.filter fun p => !decide (p.1 = w)) ++ [(w, n)]).map pII := by simp [pII]
    rw [e, srt_ii, ← srtII_perm (putH_perm hn)]
    exact ⟨okS_ii _, h⟩
theorem row_in {ks ws : List Str} {r : Row} (h : rowOk ks ws r) : rowIn ws r := ⟨.inr h.2.1, h.2.2⟩
theorem case_in {ws : List Str} {f t : Nat} {c : Case} (hf : f ≤ 10) (ht : t ≤ 10) (h : caseOk ws f t c) : CaseIn ws c :=
  ⟨fun r hr => row_in (h.1.2 r hr), fun r hr => row_in (h.2.2 r hr), by have := h.1.1; omega, by have := h.2.1; omega⟩
theorem sta_b {ws : List Str} {most : Nat} {s : Sta} (hn : ws.Nodup) (hl : ws.length ≤ 10) (hm : most ≤ 100) (h : StaOk (srtS ws) most s) : StB ws s := by
  have hw : (s.1.map (·.1)).Perm ws := by rw [h.words]; exact List.mergeSort_perm ws leS
  refine ⟨⟨hw.nodup_iff.mpr hn, fun w z => hw.mem_iff.mpr z, inc_nodup h.inc, ?_, by have := h.len; omega⟩, fun p hp => ?_, fun p hp => ?_⟩
  · have := hw.length_eq
    simp at this
    omega
  · have := h.vals p hp
    exact bnd_of (by omega)
  · have := h.heap p hp
    exact ⟨bnd_of (by omega), bnd_of (by omega)⟩
theorem cut_b {ws : List Str} {s : Sta} {h : Hep} (B : StB ws s) (hs : h.Sublist s.2) : StB ws (s.1, h) :=
  ⟨⟨B.g.nodS, B.g.has, List.Nodup.sublist (hs.map _) B.g.nodH, B.g.lenS, Nat.le_trans hs.length_le B.g.lenH⟩, B.bS, fun p hp => B.bH p (hs.subset hp)⟩
theorem segW_mem {h : Hep} {goal : Int} : ∀ (n : Nat) (at_ : Int) (found l : List Int), (∀ x ∈ found, x ∈ h.map (·.1)) → segW h goal n at_ found = some l → ∀ x ∈ l, x ∈ h.map (·.1)
  | 0, _, _, _, _, e => by simp [segW] at e
  | n + 1, at_, found, l, hf, e => by
    unfold segW at e
    split at e
    · cases e; exact hf
    · split at e
      · cases e
      · rename_i nx hg
        split at e
        · cases e
        · refine segW_mem n _ _ _ (fun x hx => ?_) e
          rcases List.mem_append.mp hx with z | z
          · exact hf x z
          · simp at z
            rw [z]
            exact hget_mem hg
theorem partP_mem {s : Sta} {a : Row} {l : List Int} (e : partP s a = some l) : ∀ x ∈ l, x ∈ s.2.map (·.1) := by
  unfold partP at e
  split at e
  · split at e
    · rename_i hg
      cases e
      intro x hx
      simp at hx
      rw [hx]
      exact hget_mem hg
    · cases e
  · cases hs : segW s.2 (valE s a.2.2) (s.2.length + 1) (valE s a.2.1) [] with
    | none => rw [hs] at e; cases e
    | some m =>
      rw [hs] at e
      have e : srtI m = l := Option.some.inj e
      rw [← e]
      exact fun x hx => segW_mem _ _ _ _ (by simp) hs x (srtI_mem.mp hx)
theorem small_int {i : Int} (h : i.natAbs < 2 ^ 64) : i.natAbs.log2 < 1900 := by
  have := PySem.Flt.log2_lt_of (k := 64) (by decide) h
  omega
theorem wf_optT {ws : List Str} {s : Sta} {a : Row} {n : Nat} (B : StB ws s) : wf 10000 (n + 2) (optT (partP s a)) := by
  cases e : partP s a with
  | none => trivial
  | some l =>
    refine ⟨by have := partP_len B.g e; simp; omega, fun d hd => ?_⟩
    obtain ⟨x, hx, rfl⟩ := List.mem_map.mp hd
    obtain ⟨p, hp, rfl⟩ := List.mem_map.mp (partP_mem e x hx)
    exact small_int (bnd_small (B.bH p hp).1)
theorem law_plain : m_law_b902 poT (none :: some .pool :: List.replicate 12 none) := by
  unfold m_law_b902
  have nW : ([("x" : Str), "y", "z"] : List Str).Nodup := by decide
  refine sSeq_i ?_
  simp
  refine sSeq_i ?_
  simp
  refine assertion_d (ws := ["x", "y", "z"]) (c := 2) (f := 1) (t := 2) (by simp) (by simp) (by decide) (by decide) (by decide) fun a h0 h1 h2 => ?_
  have hA : ∀ c ∈ a, CaseIn ["x", "y", "z"] c := fun c hc => case_in (by decide) (by decide) (h2 c hc)
  refine sSeq_i ?_
  simp
  refine state_d (ws := ["x", "y", "z"]) (most := 4) (by simp) (by omega) fun s1 hs1 => ?_
  refine state_d (ws := ["x", "y", "z"]) (most := 3) (by simp) (by omega) fun s2 hs2 => ?_
  have b1 := sta_b nW (by simp) (by omega) hs1
  have b2 := sta_b nW (by simp) (by omega) hs2
  refine states_of_d (ws := ["x", "y", "z"]) (most := 7) (many := 4) nW (by simp) hA (by omega) (by omega) (by omega) (by omega) fun l hl hll => ?_
  simp
  refine ⟨by omega, ?_⟩
  refine sSeq_i ?_
  simp [-forGo_cons]
  have hB : ∀ s ∈ s1 :: s2 :: l, StB ["x", "y", "z"] s ∧ s.2.length ≤ 100 := by
    intro s hs
    rcases List.mem_cons.mp hs with rfl | hs
    · exact ⟨b1, by have := hs1.len; omega⟩
    · rcases List.mem_cons.mp hs with rfl | hs
      · exact ⟨b2, by have := hs2.len; omega⟩
      · exact hl s hs
  have el : eSta s1 :: eSta s2 :: l.map eSta = (s1 :: s2 :: l).map eSta := rfl
  rw [el]
  generalize hst : s1 :: s2 :: l = sts at *
  refine forGo_cont eSta sts (fun rest ρ => ∃ (x5 x6 x7 x8 x9 x10 x11 x12 : Option D), (∀ s ∈ rest, StB ["x", "y", "z"] s ∧ s.2.length ≤ 100) ∧ ρ = [none, some .pool, some (.lst [.str "x", .str "y", .str "z"]), some (eAsr a), some (.lst (sts.map eSta)), x5, x6, x7, x8, x9, x10, x11, x12, none]) ⟨none, none, none, none, none, none, none, none, hB, rfl⟩ ?_ ?_
  · rintro s rest ρ ⟨x5, x6, x7, x8, x9, x10, x11, x12, hr, rfl⟩ K hK
    obtain ⟨B, B100⟩ := hr s List.mem_cons_self
    have hr2 := fun r z => hr r (List.mem_cons_of_mem _ z)
    have gl := B.g.lenH
    simp only [gName_s, setN_5]
    refine sSeq_i ?_
    have es : eSta s = .tup [eStk s.1, .tup (s.2.map pII)] := rfl
    simp [es, -forGo_cons]
    refine lcGo_gen true (fun a b : Int × Int => b = a) pII pII s.2 (fun p hp R hR => ?_) (by omega) fun cut hcut => ?_
    · refine hR _ (fun Q q1 q2 => ?_) fun Q q => ?_
      · simp
        refine draw_any (by omega) (by omega) fun k hk => ?_
        simp
        cases decide (0 < k)
        · exact q2 rfl
        · exact q1
      · simpa using q p rfl
    have scut : cut.Sublist s.2 := by simpa using hcut.sub (g := id) (fun a b z => z)
    rw [← es]
    refine sSeq_i ?_
    simp [-forGo_cons]
    refine draw_any (by omega) (by omega) fun k1 hk1 => ?_
    rw [bAdd_int]
    refine draw_any (by omega) (by omega) fun k2 hk2 => ?_
    refine l_put_cell_d B.g.nodH (by omega) ?_
    have eM : D.tup [eStk s.1, eHep (srtII (putH s.2 (40 + (k1 : Int)) k2))] = eSta (s.1, srtII (putH s.2 (40 + (k1 : Int)) k2)) := rfl
    have eC : D.tup [eStk s.1, .tup (cut.map pII)] = eSta (s.1, cut) := rfl
    rw [eM, eC]
    have BC := cut_b B scut
    have hPk := putH_ok (n := 499) (a := 40 + (k1 : Int)) (b := k2) ⟨B.g.nodH, B.bH, by omega⟩ (bnd_of (by omega)) (bnd_of (by omega))
    have BM : StB ["x", "y", "z"] (s.1, srtII (putH s.2 (40 + (k1 : Int)) k2)) := ⟨⟨B.g.nodS, B.g.has, ((List.mergeSort_perm _ leII).map (·.1)).nodup_iff.mpr hPk.nod, B.g.lenS, by show (srtII _).length ≤ 500; rw [srtII_len]; exact hPk.len⟩, B.bS, fun p hp => hPk.vals p (srtII_mem.mp hp)⟩
    have e3 : [eSta s, eSta (s.1, cut), eSta (s.1, srtII (putH s.2 (40 + (k1 : Int)) k2))] = [s, (s.1, cut), (s.1, srtII (putH s.2 (40 + (k1 : Int)) k2))].map eSta := rfl
    rw [e3]
    refine forGo_cont eSta _ (fun rest3 ρ => ∃ (z8 z9 z10 z11 z12 : Option D), (∀ s ∈ rest3, StB ["x", "y", "z"] s) ∧ ρ = [none, some .pool, some (.lst [.str "x", .str "y", .str "z"]), some (eAsr a), some (.lst (sts.map eSta)), some (eSta s), some (eSta (s.1, cut)), some (eSta (s.1, srtII (putH s.2 (40 + (k1 : Int)) k2))), z8, z9, z10, z11, z12, none]) ⟨_, _, _, _, _, fun z hz => ?_, rfl⟩ ?_ ?_
    · simp at hz
      rcases hz with rfl | rfl | rfl
      · exact B
      · exact BC
      · exact BM
    · rintro here rest3 ρ ⟨z8, z9, z10, z11, z12, hr3, rfl⟩ K3 hK3
      have H := hr3 here List.mem_cons_self
      have hr4 := fun r z => hr3 r (List.mem_cons_of_mem _ z)
      simp only [gName_s, setN_8]
      refine sSeq_i ?_
      simp
      refine holds_d H.g hA (by omega) ?_
      refine holds_in_part_d H.g hA (by omega) ?_
      refine l_holds_d H.g hA (by omega) ?_
      refine l_holds_in_part_d H.g hA (by omega) ?_
      refine same_refl (b := 100) (by decide) 12 _ _ ⟨by simp, fun z hz => ?_⟩ ?_
      · simp at hz
        rcases hz with rfl | rfl <;> trivial
      rw [onBl_b, if_pos rfl]
      have er : rng 0 3 = (List.range 3).map fun k : Nat => D.int (0 + k) := rfl
      rw [er]
      refine forGo_cont (fun k : Nat => D.int (0 + k)) (List.range 3) (fun _ ρ => ∃ (z9 z10 z11 z12 : Option D), ρ = [none, some .pool, some (.lst [.str "x", .str "y", .str "z"]), some (eAsr a), some (.lst (sts.map eSta)), some (eSta s), some (eSta (s.1, cut)), some (eSta (s.1, srtII (putH s.2 (40 + (k1 : Int)) k2))), some (eSta here), z9, z10, z11, z12, none]) ⟨_, _, _, _, rfl⟩ ?_ ?_
      · rintro k rest5 ρ ⟨z9, z10, z11, z12, rfl⟩ K5 hK5
        simp only [gName_s, setN_9]
        refine sSeq_i ?_
        simp
        refine pick_d (by simp) (by simp) fun d hd => ?_
        obtain ⟨kd, rfl⟩ : ∃ kd : Str, d = .str kd := by
          simp at hd
          rcases hd with rfl | rfl <;> exact ⟨_, rfl⟩
        refine expression_d (ws := ["x", "y", "z"]) (by simp) (by simp) fun e1 he1 => ?_
        refine expression_d (ws := ["x", "y", "z"]) (by simp) (by simp) fun e2 he2 => ?_
        have ea : D.tup [.str kd, .str e1, .str e2] = eRow (kd, e1, e2) := rfl
        rw [ea]
        have hin : rowIn ["x", "y", "z"] (kd, e1, e2) := ⟨he1, he2⟩
        refine sSeq_i ?_
        simp
        refine l_part_d H.g hin ?_
        refine fact_d (ws := ["x", "y", "z"]) (by simp) (by simp) fun fact hf => ?_
        refine part_of_d H.g hin ?_
        refine fact_holds_d H.g (row_in hf) ?_
        have hw := wf_optT (n := 9) (a := (kd, e1, e2)) H
        cases hp : partP here (kd, e1, e2) with
        | none =>
          rw [hp] at hw
          simp only [optL, optT, isNon_non, if_true]
          refine l_fact_holds_d H.g (row_in hf) ?_
          refine same_refl (b := 100) (by decide) 12 _ _ ⟨by simp, fun z hz => ?_⟩ ?_
          · simp at hz
            rcases hz with rfl | rfl <;> trivial
          rw [onBl_b, if_pos rfl]
          exact hK5 _ ⟨_, _, _, _, rfl⟩
        | some pl =>
          rw [hp] at hw
          simp only [optL, optT, isNon_lst, Bool.false_eq_true, if_false, fTuple_lst]
          refine l_fact_holds_d H.g (row_in hf) ?_
          refine same_refl (b := 10000) (by decide) 12 _ _ ⟨by simp, fun z hz => ?_⟩ ?_
          · simp at hz
            rcases hz with rfl | rfl
            · exact hw
            · trivial
          rw [onBl_b, if_pos rfl]
          exact hK5 _ ⟨_, _, _, _, rfl⟩
      · rintro ρ ⟨z9, z10, z11, z12, rfl⟩
        exact hK3 _ ⟨_, _, _, _, _, hr4, rfl⟩
    · rintro ρ ⟨z8, z9, z10, z11, z12, _, rfl⟩
      exact hK _ ⟨_, _, _, _, _, _, _, _, hr2, rfl⟩
  · rintro ρ ⟨x5, x6, x7, x8, x9, x10, x11, x12, _, rfl⟩
    dsimp only
    rw [← hst]
    simp
    have g0 := hB s1 (by rw [← hst]; simp)
    have hnone : ∀ {R : DK}, R (.bl false) → m_holds_4831 [.tup [], eSta s1] R := fun h => holds_d (a := []) g0.1.g (by simp) (by simp) h
    refine hnone ?_
    simp
    have es : eSta s1 = .tup [eStk s1.1, eHep s1.2] := rfl
    have hb : ∀ {R : DK}, R (eStk s1.1) → bIx (eSta s1) (.int 0) R := fun h => by
      rw [es, bIx_t0]
      exact h
    refine hb ?_
    have ea : D.tup [.tup [.tup [], .tup []]] = eAsr [([], [])] := rfl
    have ee : D.tup [eStk s1.1, .tup []] = eSta (s1.1, []) := rfl
    rw [ea, ee]
    have cE : ∀ c ∈ ([([], [])] : Asr), CaseIn ["x", "y", "z"] c := fun c hc => by
      simp at hc
      rw [hc]
      exact ⟨by simp, by simp, by simp, by simp⟩
    have B0 := cut_b (h := []) g0.1 (List.nil_sublist _)
    refine holds_d B0.g cE (by simp) ?_
    have e1 : caseH (s1.1, []) ([], []) = true := by
      have : srtI [] = [] := by simp [srtI]
      simp [caseH, partsP, partsGo, this, optL, dueD]
      show PyData.eqv (D.lst []).py (D.lst []).py = true
      simp [D.py, pyL, PyData.eqv, PyData.eqvAll]
    simp [e1]
    refine holds_in_part_d g0.1.g cE (by simp) ?_
    simp [partH, partsP, partsGo, optL]
    rfl
end Fn
end P_S_k05
section P_K_k05
set_option maxHeartbeats 0
namespace Fn
open PySem PySem.Spec PyProof.Rows L2
def topS (i : Nat) : Stmt := PySem.Challenge.pw_heapsplit_k05_whole_truth_in_states.main.body.getD i (.Pass ⟨0, 0, 0, 0⟩)
abbrev s__law_pool : Stmt := topS 10
theorem sc__law_pool : FnScope ["script", "salt", "cell"] ["script"] (defScope s__law_pool) := ⟨rfl, rfl, rfl, by decide +kernel, rfl, by decide +kernel, by decide +kernel⟩
abbrev s__law_spread : Stmt := topS 11
theorem sc__law_spread : FnScope ["cell", "blended", "whole_sum", "k"] ["cell"] (defScope s__law_spread) := ⟨rfl, rfl, rfl, by decide +kernel, rfl, by decide +kernel, by decide +kernel⟩
abbrev s__law_draw : Stmt := topS 12
theorem sc__law_draw : FnScope ["pool", "many", "cell", "blended", "value"] ["pool", "many"] (defScope s__law_draw) := ⟨rfl, rfl, rfl, by decide +kernel, rfl, by decide +kernel, by decide +kernel⟩
abbrev s__law_pick : Stmt := topS 13
theorem sc__law_pick : FnScope ["pool", "items"] ["pool", "items"] (defScope s__law_pick) := ⟨rfl, rfl, rfl, by decide +kernel, rfl, by decide +kernel, by decide +kernel⟩
abbrev s__law_expression : Stmt := topS 14
theorem sc__law_expression : FnScope ["pool", "words"] ["pool", "words"] (defScope s__law_expression) := ⟨rfl, rfl, rfl, by decide +kernel, rfl, by decide +kernel, by decide +kernel⟩
abbrev s__law_fact : Stmt := topS 15
theorem sc__law_fact : FnScope ["pool", "words"] ["pool", "words"] (defScope s__law_fact) := ⟨rfl, rfl, rfl, by decide +kernel, rfl, by decide +kernel, by decide +kernel⟩
abbrev s__law_case : Stmt := topS 16
theorem sc__law_case : FnScope ["pool", "words", "facts", "atoms", "some", "rows", "k"] ["pool", "words", "facts", "atoms"] (defScope s__law_case) := ⟨rfl, rfl, rfl, by decide +kernel, rfl, by decide +kernel, by decide +kernel⟩
abbrev s__law_assertion : Stmt := topS 17
theorem sc__law_assertion : FnScope ["pool", "words", "cases", "facts", "atoms", "k"] ["pool", "words", "cases", "facts", "atoms"] (defScope s__law_assertion) := ⟨rfl, rfl, rfl, by decide +kernel, rfl, by decide +kernel, by decide +kernel⟩
abbrev s__law_value : Stmt := topS 19
theorem sc__law_value : FnScope ["state", "expression"] ["state", "expression"] (defScope s__law_value) := ⟨rfl, rfl, rfl, by decide +kernel, rfl, by decide +kernel, by decide +kernel⟩
abbrev s__law_part : Stmt := topS 21
theorem sc__law_part : FnScope ["atom", "state", "at", "goal", "heap", "found", "k"] ["atom", "state"] (defScope s__law_part) := ⟨rfl, rfl, rfl, by decide +kernel, rfl, by decide +kernel, by decide +kernel⟩
abbrev s__law_fact_holds : Stmt := topS 20
theorem sc__law_fact_holds : FnScope ["fact", "state"] ["fact", "state"] (defScope s__law_fact_holds) := ⟨rfl, rfl, rfl, by decide +kernel, rfl, by decide +kernel, by decide +kernel⟩
abbrev s__law_parts : Stmt := topS 22
theorem sc__law_parts : FnScope ["case", "state", "found", "atom", "part", "fact", "address"] ["case", "state"] (defScope s__law_parts) := ⟨rfl, rfl, rfl, by decide +kernel, rfl, by decide +kernel, by decide +kernel⟩
abbrev s__law_holds : Stmt := topS 23
theorem sc__law_holds : FnScope ["assertion", "state", "due", "row", "case"] ["assertion", "state"] (defScope s__law_holds) := ⟨rfl, rfl, rfl, by decide +kernel, rfl, by decide +kernel, by decide +kernel⟩
abbrev s__law_state_of : Stmt := topS 24
theorem sc__law_state_of : FnScope ["pool", "case", "words", "most", "stack", "fact", "heap", "beyond", "word", "one", "two", "at", "goal", "many", "k", "some", "after", "state", "name", "address"] ["pool", "case", "words", "most"] (defScope s__law_state_of) := ⟨rfl, rfl, rfl, by decide +kernel, rfl, by decide +kernel, by decide +kernel⟩
abbrev s__law_states_of : Stmt := topS 25
theorem sc__law_states_of : FnScope ["pool", "assertion", "words", "many", "most", "found", "k", "state"] ["pool", "assertion", "words", "many", "most"] (defScope s__law_states_of) := ⟨rfl, rfl, rfl, by decide +kernel, rfl, by decide +kernel, by decide +kernel⟩
abbrev s__law_put_cell : Stmt := topS 26
theorem sc__law_put_cell : FnScope ["state", "address", "number", "row"] ["state", "address", "number"] (defScope s__law_put_cell) := ⟨rfl, rfl, rfl, by decide +kernel, rfl, by decide +kernel, by decide +kernel⟩
abbrev s_value_of : Stmt := topS 1
theorem sc_value_of : FnScope ["state", "expression"] ["state", "expression"] (defScope s_value_of) := ⟨rfl, rfl, rfl, by decide +kernel, rfl, by decide +kernel, by decide +kernel⟩
abbrev s_part_of : Stmt := topS 4
theorem sc_part_of : FnScope ["atom", "state", "at", "goal", "heap", "found"] ["atom", "state"] (defScope s_part_of) := ⟨rfl, rfl, rfl, by decide +kernel, rfl, by decide +kernel, by decide +kernel⟩
abbrev s_fact_holds : Stmt := topS 3
theorem sc_fact_holds : FnScope ["fact", "state"] ["fact", "state"] (defScope s_fact_holds) := ⟨rfl, rfl, rfl, by decide +kernel, rfl, by decide +kernel, by decide +kernel⟩
abbrev s_parts_of : Stmt := topS 5
theorem sc_parts_of : FnScope ["case", "state", "found", "atom", "part", "fact", "address"] ["case", "state"] (defScope s_parts_of) := ⟨rfl, rfl, rfl, by decide +kernel, rfl, by decide +kernel, by decide +kernel⟩
abbrev s_case_holds : Stmt := topS 6
theorem sc_case_holds : FnScope ["case", "state", "address", "_"] ["case", "state"] (defScope s_case_holds) := ⟨rfl, rfl, rfl, by decide +kernel, rfl, by decide +kernel, by decide +kernel⟩
abbrev s_holds : Stmt := topS 7
theorem sc_holds : FnScope ["assertion", "state", "case"] ["assertion", "state"] (defScope s_holds) := ⟨rfl, rfl, rfl, by decide +kernel, rfl, by decide +kernel, by decide +kernel⟩
abbrev s_holds_in_part : Stmt := topS 8
theorem sc_holds_in_part : FnScope ["assertion", "state", "case"] ["assertion", "state"] (defScope s_holds_in_part) := ⟨rfl, rfl, rfl, by decide +kernel, rfl, by decide +kernel, by decide +kernel⟩
abbrev s__law_state : Stmt := topS 18
theorem sc__law_state : FnScope ["pool", "words", "most", "cells", "stack", "heap", "address", "word"] ["pool", "words", "most", "cells"] (defScope s__law_state) := ⟨rfl, rfl, rfl, by decide +kernel, rfl, by decide +kernel, by decide +kernel⟩
abbrev s__law_same : Stmt := topS 27
theorem sc__law_same : FnScope ["actual", "due", "k"] ["actual", "due"] (defScope s__law_same) := ⟨rfl, rfl, rfl, by decide +kernel, rfl, by decide +kernel, by decide +kernel⟩
abbrev s__law_holds_in_part : Stmt := topS 28
theorem sc__law_holds_in_part : FnScope ["assertion", "state", "case"] ["assertion", "state"] (defScope s__law_holds_in_part) := ⟨rfl, rfl, rfl, by decide +kernel, rfl, by decide +kernel, by decide +kernel⟩
abbrev s_law : Stmt := topS 29
theorem sc_law : FnScope ["script", "pool", "words", "assertion", "states", "state", "cut", "more", "here", "k", "atom", "due", "fact", "row"] ["script"] (defScope s_law) := ⟨rfl, rfl, rfl, by decide +kernel, rfl, by decide +kernel, by decide +kernel⟩
section
variable {P : Program} {w : World} {K : PySem.W.Frag} {mg : Str → Option Value} {base : Heap}
theorem ok__law_pool (B : Bi mg) (D : DefF K mg "_law_pool" s__law_pool ["script"]) : ∃ fA fd ps, FnOk P w K mg base L2.CX0 1 fA fd ps (spPool K) ∧ mg "_law_pool" = some (.ref fA) ∧ PySem.W.keepIn K (.ref fA) = true ∧ Binds K fd ps [] := by
  obtain ⟨f, fd, F, hm, hB⟩ := D
  refine ⟨f, fd, _, F.ok sc__law_pool (fun vs H Q E h => pool_len h) (fun cdv A outer s H vs Q E hr h => ?_), hm, F.kp, hB⟩
  exact ⟨t_pool K, PSs.nox (pss_cons (ps_set (i := 1) sc__law_pool.nd rfl (Or.inl rfl) pe_int)
    (pss_cons (ps_for PassesOwn.never rfl (pi_list (pe_slice sl_list (pv 0) po_none (po_some pe_int))) (pg_name (i := 2) sc__law_pool.nd rfl (Or.inl rfl))
      (pss_one (ps_set (i := 1) sc__law_pool.nd rfl (Or.inl rfl) (pe_op L2.op_mod (pe_callTy (call_int1) (by rfl) B.int (by decide +kernel) (pa_cons (pe_op op_add (pe_op op_mul (pv 1) pe_int) (pv 2)) pa_nil)) pe_int))))
    (pss_one (ps_ret (pe_lst (pa_cons (pe_callTy call_list_of (by rfl) B.list (by decide +kernel) (pa_cons (pv 0) pa_nil)) (pa_cons pe_int (pa_cons pe_int (pa_cons pe_int (pa_cons (pv 1) pa_nil)))))))))), pool_sem h⟩
theorem ok__law_spread (B : Bi mg) (D : DefF K mg "_law_spread" s__law_spread ["cell"])  : Call P w K mg base 1 "_law_spread" m_l_spread_7026 := Call.of (k := 0) (fun i => false) D sc__law_spread rfl rfl (by decide) (by decide) (fun f =>
  (vss_cons (vs_s 1 sc__law_spread.nd (ve_bin od_mod (VE.toR (ve_callT cd_int B.int (vra_cons (rr 0) vra_nil))) (VE.toR ve_int))) (vss_cons (vs_s 2 sc__law_spread.nd ve_int) (vss_cons (vs_for (vi_range1 B.range (VE.toR ve_int)) (gg 3 sc__law_spread.nd) (vss_cons (vs_s 1 sc__law_spread.nd (ve_bin od_mod (VE.toR (ve_callT cd_int B.int (vra_cons (VE.toR (ve_bin od_add (VE.toR (ve_bin od_add (VE.toR (ve_bin od_mulA (rr 1) (VE.toR ve_int))) (VE.toR ve_int))) (rr 3))) vra_nil))) (VE.toR ve_int))) (vss_one (vs_s 2 sc__law_spread.nd (ve_bin od_add (VE.toR (ve_bin od_mulA (rr 2) (VE.toR ve_int))) (rr 1)))))) (vss_one (vs_ret (vv 2)))))))
theorem ok__law_draw {g : GA} (B : Bi mg) (D : DefF K mg "_law_draw" s__law_draw ["pool", "many"]) (hS : Call P w K mg base 1 "_law_spread" g) (hg : ∀ c R, (∀ n, R (.int n)) → g [.int c] R) : Call P w K mg base 2 "_law_draw" fDraw := by
  obtain ⟨f, fd, F, hm, hB⟩ := D
  obtain ⟨fS, fdS, psS, GS, hmS, kpS, bS⟩ := hS
  refine ⟨f, fd, _, F.ok sc__law_draw (fun vs H Q E h => draw_len h) (fun cdv A outer s H vs Q E hr h => ?_), hm, F.kp, hB⟩
  exact ⟨t_draw K g, PSs.nox (pss_cons (ps_if (PW.pt (pw_and (pt_cmpR op_le (pe_ix ix_list (pv 0) pe_int (fun _ _ => rfl)) pe_int (nomark _)) (pw_and1 (pt_cmpR op_lt (pe_ix ix_list (pv 0) pe_int (fun _ _ => rfl)) (pe_callB call_len_seq (by rfl) B.len PySem.boot_len (pa_cons (pe_ix ix_list (pv 0) pe_int (fun _ _ => rfl)) pa_nil)) (nomark _)))))
        (pss_cons (ps_set (i := 2) sc__law_draw.nd rfl (Or.inl rfl) (pe_ix ix_list (pe_ix ix_list (pv 0) pe_int (fun _ _ => rfl)) (pe_ix ix_list (pv 0) pe_int (fun _ _ => rfl)) (fun _ _ => rfl)))
        (pss_cons (ps_asg (pe_op op_add (pe_ix ix_list (pv 0) pe_int (fun _ _ => rfl)) pe_int) (pg_sub (pv 0) pe_int set_list))
        (pss_cons (ps_asg (pv 2) (pg_sub (pv 0) pe_int set_list))
        (pss_one (ps_if (pt_cmpR op_lt (pv 2) pe_int (nomark _)) (pss_one (ps_asg (pe_call GS hr (by rfl) hmS kpS bS .nil pass0 (pa_cons (pv 2) pa_nil)) (pg_sub (pv 0) pe_int set_list))) pss_nil))))) pss_nil)
      (pss_cons (ps_asg (pe_op op_add (pe_ix ix_list (pv 0) pe_int (fun _ _ => rfl)) pe_int) (pg_sub (pv 0) pe_int set_list))
      (pss_cons (ps_if (pt_cmpR op_le (pe_ix ix_list (pv 0) pe_int (fun _ _ => rfl)) pe_int (nomark _))
        (pss_cons (ps_set (i := 3) sc__law_draw.nd rfl (Or.inl rfl) (pe_op L2.op_mod (pe_callTy (call_int1) (by rfl) B.int (by decide +kernel) (pa_cons (pe_op op_add (pe_op op_add (pe_op op_mul (pe_ix ix_list (pv 0) pe_int (fun _ _ => rfl)) pe_int) (pe_op op_mul (pe_ix ix_list (pv 0) pe_int (fun _ _ => rfl)) pe_int)) pe_int) pa_nil)) pe_int))
        (pss_cons (ps_set (i := 3) sc__law_draw.nd rfl (Or.inl rfl) (pe_op L2.op_mod (pe_callTy (call_int1) (by rfl) B.int (by decide +kernel) (pa_cons (pe_op op_add (pe_op op_mul (pv 3) pe_int) (pe_ix ix_list (pv 0) pe_int (fun _ _ => rfl))) pa_nil)) pe_int))
        (pss_one (ps_ret (pe_op L2.op_mod (pe_op op_fdivW (pv 3) pe_int) (pv 1))))))
        pss_nil)
      (pss_cons (ps_set (i := 4) sc__law_draw.nd rfl (Or.inl rfl) (pe_op L2.op_mod (pe_callTy (call_int1) (by rfl) B.int (by decide +kernel) (pa_cons (pe_ix ix_list (pv 0) pe_int (fun _ _ => rfl)) pa_nil)) (pv 1)))
      (pss_cons (ps_asg (pe_op op_fdivW (pe_ix ix_list (pv 0) pe_int (fun _ _ => rfl)) (pv 1)) (pg_sub (pv 0) pe_int set_list))
      (pss_one (ps_ret (pv 4)))))))), draw_sem hg h⟩
theorem ok__law_pick (B : Bi mg) (D : DefF K mg "_law_pick" s__law_pick ["pool", "items"]) (h__law_draw : Call P w K mg base 2 "_law_draw" fDraw) : Call P w K mg base 3 "_law_pick" m_l_pick_491d := Call.of (k := 2) (fun i => false) D sc__law_pick rfl rfl (by decide) (by decide) (fun f =>
  (vss_one (vs_ret (ve_ix xd_ix (rr 1) (VE.toR (ve_cl h__law_draw (va_cons (vv 0) (va_cons (ve_callB cd_len B.len (vra_cons (rr 1) vra_nil)) va_nil))))))))
theorem ok__law_expression (B : Bi mg) (D : DefF K mg "_law_expression" s__law_expression ["pool", "words"]) (h__law_draw : Call P w K mg base 2 "_law_draw" fDraw) (h__law_pick : Call P w K mg base 3 "_law_pick" m_l_pick_491d) : Call P w K mg base 4 "_law_expression" m_l_expression_45ac := Call.of (k := 3) (fun i => false) D sc__law_expression rfl rfl (by decide) (by decide) (fun f =>
  (vss_one (vs_ret (ve_if (vt_cmp od_eq (VE.toR (ve_cl h__law_draw (va_cons (vv 0) (va_cons ve_int va_nil)))) (VE.toR ve_int) (nomark _)) ve_str (ve_cl h__law_pick (va_cons (vv 0) (va_cons (vv 1) va_nil)))))))
theorem ok__law_fact (B : Bi mg) (D : DefF K mg "_law_fact" s__law_fact ["pool", "words"]) (h__law_expression : Call P w K mg base 4 "_law_expression" m_l_expression_45ac) (h__law_pick : Call P w K mg base 3 "_law_pick" m_l_pick_491d) : Call P w K mg base 5 "_law_fact" m_l_fact_d440 := Call.of (k := 4) (fun i => false) D sc__law_fact rfl rfl (by decide) (by decide) (fun f =>
  (vss_one (vs_ret (ve_tup (va_cons (ve_cl h__law_pick (va_cons (vv 0) (va_cons (VF.toE (vf_lst (va_cons ve_str (va_cons ve_str (va_cons ve_str va_nil))))) va_nil))) (va_cons (ve_cl h__law_pick (va_cons (vv 0) (va_cons (vv 1) va_nil))) (va_cons (ve_cl h__law_expression (va_cons (vv 0) (va_cons (vv 1) va_nil))) va_nil)))))))
theorem ok__law_case (B : Bi mg) (D : DefF K mg "_law_case" s__law_case ["pool", "words", "facts", "atoms"]) (h__law_draw : Call P w K mg base 2 "_law_draw" fDraw) (h__law_expression : Call P w K mg base 4 "_law_expression" m_l_expression_45ac) (h__law_fact : Call P w K mg base 5 "_law_fact" m_l_fact_d440) (h__law_pick : Call P w K mg base 3 "_law_pick" m_l_pick_491d) : Call P w K mg base 6 "_law_case" m_l_case_7e14 := Call.of (k := 5) (fun i => false) D sc__law_case rfl rfl (by decide) (by decide) (fun f =>
  (vss_cons (vs_s 4 sc__law_case.nd (ve_callT cd_tuple B.tuple (vra_cons (VE.toR (VF.toE (vf_lcN (own := [("k", 6)]) sc__law_case.nd (VI.toR (vi_range1 B.range (VE.toR (ve_cl h__law_draw (va_cons (vv 0) (va_cons (ve_bin od_add (rr 2) (VE.toR ve_int)) va_nil)))))) (fun _ => blkOk_by (by rfl)) (gg 6 sc__law_case.nd) (by decide) vts_nil (vc_el (ve_cl h__law_fact (va_cons (vv 0) (va_cons (vv 1) va_nil)))) (by decide)))) vra_nil))) (vss_cons (vs_sLc 5 (own := [("k", 6)]) sc__law_case.nd (VI.toR (vi_range1 B.range (VE.toR (ve_cl h__law_draw (va_cons (vv 0) (va_cons (ve_bin od_add (rr 3) (VE.toR ve_int)) va_nil)))))) (fun _ => blkOk_by (by rfl)) (gg 6 sc__law_case.nd) (by decide) vts_nil (vc_el (ve_tup (va_cons (ve_cl h__law_pick (va_cons (vv 0) (va_cons (VF.toE (vf_lst (va_cons ve_str (va_cons ve_str (va_cons ve_str va_nil))))) va_nil))) (va_cons (ve_cl h__law_pick (va_cons (vv 0) (va_cons (vv 1) va_nil))) (va_cons (ve_cl h__law_expression (va_cons (vv 0) (va_cons (vv 1) va_nil))) va_nil))))) (by decide)) (vss_one (vs_ret (ve_tup (va_cons (vv 4) (va_cons (ve_callT cd_tuple B.tuple (vra_cons (rr 5) vra_nil)) va_nil))))))))
theorem ok__law_assertion (B : Bi mg) (D : DefF K mg "_law_assertion" s__law_assertion ["pool", "words", "cases", "facts", "atoms"]) (h__law_case : Call P w K mg base 6 "_law_case" m_l_case_7e14) (h__law_draw : Call P w K mg base 2 "_law_draw" fDraw) : Call P w K mg base 7 "_law_assertion" m_l_assertion_f77c := Call.of (k := 6) (fun i => false) D sc__law_assertion rfl rfl (by decide) (by decide) (fun f =>
  (vss_one (vs_ret (ve_callT cd_tuple B.tuple (vra_cons (VE.toR (VF.toE (vf_lcN (own := [("k", 5)]) sc__law_assertion.nd (VI.toR (vi_range1 B.range (VE.toR (ve_bin od_add (VE.toR ve_int) (VE.toR (ve_cl h__law_draw (va_cons (vv 0) (va_cons (ve_bin od_add (rr 2) (VE.toR ve_int)) va_nil)))))))) (fun _ => blkOk_by (by rfl)) (gg 5 sc__law_assertion.nd) (by decide) vts_nil (vc_el (ve_cl h__law_case (va_cons (vv 0) (va_cons (vv 1) (va_cons (vv 3) (va_cons (vv 4) va_nil)))))) (by decide)))) vra_nil)))))
theorem ok__law_value (B : Bi mg) (D : DefF K mg "_law_value" s__law_value ["state", "expression"])  : Call P w K mg base 1 "_law_value" m_l_value_48b4 := Call.of (k := 0) (fun i => false) D sc__law_value rfl rfl (by decide) (by decide) (fun f =>
  (vss_one (vs_ret (ve_if (vt_cmp od_eq (rr 1) (VE.toR ve_str) (nomark _)) ve_int (ve_ix xd_ix (VE.toR (ve_callT cd_dictA B.dict (vra_cons (VE.toR (ve_ix xd_ix (rr 0) (VE.toR ve_int))) vra_nil))) (rr 1))))))
theorem ok__law_part (B : Bi mg) (D : DefF K mg "_law_part" s__law_part ["atom", "state"]) (h__law_value : Call P w K mg base 1 "_law_value" m_l_value_48b4) : Call P w K mg base 2 "_law_part" m_l_part_6cd0 := Call.of (k := 1) (fun i => i == 5) D sc__law_part rfl rfl (by decide) (by decide) (fun f =>
  (vss_cons (vs_par3 2 3 4 sc__law_part.nd (vp_cons 2 (ve_cl h__law_value (va_cons (vv 1) (va_cons (ve_ix xd_ix (rr 0) (VE.toR ve_int)) va_nil))) (vp_cons 3 (ve_cl h__law_value (va_cons (vv 1) (va_cons (ve_ix xd_ix (rr 0) (VE.toR ve_int)) va_nil))) (vp_cons 4 (ve_callT cd_dictA B.dict (vra_cons (VE.toR (ve_ix xd_ix (rr 1) (VE.toR ve_int))) vra_nil)) vp_nil)))) (vss_cons (vs_if (vt_cmp od_eq (VE.toR (ve_ix xd_ix (rr 0) (VE.toR ve_int))) (VE.toR ve_str) (nomark _)) (vss_one (vs_ret (ve_if (VW.toT (vw_and (vt_cmp od_in (rr 2) (rr 4) (by with_unfolding_all rfl)) (vw_and1 (vt_cmp od_eq (VE.toR (ve_ix xd_ix (rr 4) (rr 2))) (rr 3) (nomark _))))) (VF.toE (vf_lst (va_cons (vv 2) va_nil))) ve_non))) vss_nil) (vss_cons (vs_sO 5 sc__law_part.nd (vf_lst va_nil)) (vss_cons (vs_for (vi_range1 B.range (VE.toR (ve_bin od_add (VE.toR (ve_callB cd_len B.len (vra_cons (rr 4) vra_nil))) (VE.toR ve_int)))) (gg 6 sc__law_part.nd) (vss_cons (vs_if (vt_cmp od_eq (rr 2) (rr 3) (nomark _)) (vss_one (vs_ret (ve_callB cd_sorted B.sorted (vra_cons (rr 5) vra_nil)))) vss_nil) (vss_cons (vs_if (VW.toT (vw_or (vt_cmp od_notIn (rr 2) (rr 4) (by with_unfolding_all rfl)) (vw_or1 (vt_cmp od_in (rr 2) (rr 5) (by with_unfolding_all rfl))))) (vss_one (vs_ret ve_non)) vss_nil) (vss_cons (vs_ap 5 (vv 2)) (vss_one (vs_s 2 sc__law_part.nd (ve_ix xd_ix (rr 4) (rr 2)))))))) (vss_one (vs_ret ve_non)))))))
theorem ok__law_fact_holds (B : Bi mg) (D : DefF K mg "_law_fact_holds" s__law_fact_holds ["fact", "state"]) (h__law_value : Call P w K mg base 1 "_law_value" m_l_value_48b4) : Call P w K mg base 2 "_law_fact_holds" m_l_fact_holds_8e8f := Call.of (k := 1) (fun i => false) D sc__law_fact_holds rfl rfl (by decide) (by decide) (fun f =>
  (vss_one (vs_ret (ve_cmp od_eq (VE.toR (ve_cmp od_eq (VE.toR (ve_cl h__law_value (va_cons (vv 1) (va_cons (ve_ix xd_ix (rr 0) (VE.toR ve_int)) va_nil)))) (VE.toR (ve_cl h__law_value (va_cons (vv 1) (va_cons (ve_ix xd_ix (rr 0) (VE.toR ve_int)) va_nil)))) (nomark _))) (VE.toR (ve_cmp od_eq (VE.toR (ve_ix xd_ix (rr 0) (VE.toR ve_int))) (VE.toR ve_str) (nomark _))) (nomark _)))))
theorem ok__law_parts (B : Bi mg) (D : DefF K mg "_law_parts" s__law_parts ["case", "state"]) (h__law_fact_holds : Call P w K mg base 2 "_law_fact_holds" m_l_fact_holds_8e8f) (h__law_part : Call P w K mg base 2 "_law_part" m_l_part_6cd0) : Call P w K mg base 3 "_law_parts" m_l_parts_a546 := Call.of (k := 2) (fun i => false) D sc__law_parts rfl rfl (by decide) (by decide) (fun f =>
  (vss_cons (vs_if (vt_cmp od_gt (VE.toR (ve_callB cd_len B.len (vra_cons (VE.toR (VF.toE (vf_lcN (own := [("fact", 5)]) sc__law_parts.nd (vir_seq (VE.toR (ve_ix xd_ix (rr 0) (VE.toR ve_int)))) (fun _ => blkOk_by (by rfl)) (gg 5 sc__law_parts.nd) (by decide) (vts_one (vt_not (vt_val (ve_cl h__law_fact_holds (va_cons (vv 5) (va_cons (vv 1) va_nil)))))) (vc_el (vv 5)) (by decide)))) vra_nil))) (VE.toR ve_int) (nomark _)) (vss_one (vs_ret ve_non)) vss_nil) (vss_cons (vs_s 2 sc__law_parts.nd (VF.toE (vf_lst va_nil))) (vss_cons (vs_for (vi_seq (ve_ix xd_ix (rr 0) (VE.toR ve_int))) (gg 3 sc__law_parts.nd) (vss_cons (vs_s 4 sc__law_parts.nd (ve_cl h__law_part (va_cons (vv 3) (va_cons (vv 1) va_nil)))) (vss_cons (vs_if (VW.toT (vw_or (vt_cmp od_is (rr 4) (VE.toR ve_non) (nomark _)) (vw_or1 (vt_cmp od_gt (VE.toR (ve_callB cd_len B.len (vra_cons (VE.toR (VF.toE (vf_lcN (own := [("address", 6)]) sc__law_parts.nd (vir_seq (rr 4)) (fun _ => blkOk_by (by rfl)) (gg 6 sc__law_parts.nd) (by decide) (vts_one (vt_cmp od_in (rr 6) (rr 2) (by with_unfolding_all rfl))) (vc_el (vv 6)) (by decide)))) vra_nil))) (VE.toR ve_int) (nomark _))))) (vss_one (vs_ret ve_non)) vss_nil) (vss_one (vs_s 2 sc__law_parts.nd (ve_bin od_add (rr 2) (rr 4))))))) (vss_one (vs_ret (ve_callB cd_sorted B.sorted (vra_cons (rr 2) vra_nil))))))))
theorem ok__law_holds (B : Bi mg) (D : DefF K mg "_law_holds" s__law_holds ["assertion", "state"]) (h__law_parts : Call P w K mg base 3 "_law_parts" m_l_parts_a546) : Call P w K mg base 4 "_law_holds" m_l_holds_8c93 := Call.of (k := 3) (fun i => false) D sc__law_holds rfl rfl (by decide) (by decide) (fun f =>
  (vss_cons (vs_s 2 sc__law_holds.nd (VF.toE (vf_lcN (own := [("row", 3)]) sc__law_holds.nd (vir_seq (VE.toR (ve_ix xd_ix (rr 1) (VE.toR ve_int)))) (fun _ => blkOk_by (by rfl)) (gg 3 sc__law_holds.nd) (by decide) vts_nil (vc_el (ve_ix xd_ix (rr 3) (VE.toR ve_int))) (by decide)))) (vss_one (vs_ret (ve_cmp od_gt (VE.toR (ve_callB cd_len B.len (vra_cons (VE.toR (VF.toE (vf_lcN (own := [("case", 4)]) sc__law_holds.nd (vir_seq (rr 0)) (fun _ => blkOk_by (by rfl)) (gg 4 sc__law_holds.nd) (by decide) (vts_one (vt_cmp od_eq (VE.toR (ve_cl h__law_parts (va_cons (vv 4) (va_cons (vv 1) va_nil)))) (rr 2) (nomark _))) (vc_el (vv 4)) (by decide)))) vra_nil))) (VE.toR ve_int) (nomark _))))))
theorem ok__law_state_of (B : Bi mg) (D : DefF K mg "_law_state_of" s__law_state_of ["pool", "case", "words", "most"]) (h__law_draw : Call P w K mg base 2 "_law_draw" fDraw) (h__law_holds : Call P w K mg base 4 "_law_holds" m_l_holds_8c93) (h__law_pick : Call P w K mg base 3 "_law_pick" m_l_pick_491d) : Call P w K mg base 5 "_law_state_of" m_l_state_of_115e := Call.of (k := 4) (fun i => i == 4 || i == 6) D sc__law_state_of rfl rfl (by decide) (by decide) (fun f =>
  (vss_cons (vs_sO 4 sc__law_state_of.nd (vf_callT cf_dictA B.dict (vra_cons (VE.toR (VF.toE (vf_lcN (own := [("word", 8)]) sc__law_state_of.nd (vir_seq (rr 2)) (fun _ => blkOk_by (by rfl)) (gg 8 sc__law_state_of.nd) (by decide) vts_nil (vc_el (ve_tup (va_cons (vv 8) (va_cons (ve_cl h__law_draw (va_cons (vv 0) (va_cons ve_int va_nil))) va_nil)))) (by decide)))) vra_nil))) (vss_cons (vs_for (vi_seq (ve_ix xd_ix (rr 1) (VE.toR ve_int))) (gg 5 sc__law_state_of.nd) (vss_one (vs_if (VW.toT (vw_and (vt_cmp od_eq (VE.toR (ve_ix xd_ix (rr 5) (VE.toR ve_int))) (VE.toR ve_str) (nomark _)) (vw_and1 (vt_cmp od_ne (VE.toR (ve_ix xd_ix (rr 5) (VE.toR ve_int))) (VE.toR ve_str) (nomark _))))) (vss_one (vs_putD 4 (ve_if (vt_cmp od_eq (VE.toR (ve_ix xd_ix (rr 5) (VE.toR ve_int))) (VE.toR ve_str) (nomark _)) ve_int (ve_ix xd_ix (rr 4) (VE.toR (ve_ix xd_ix (rr 5) (VE.toR ve_int))))) (VE.toR (ve_ix xd_ix (rr 5) (VE.toR ve_int))))) vss_nil))) (vss_cons (vs_parT (vp_own 6 vf_dnew (vp_cons 7 ve_int vp_nil)) (vn_cons 6 sc__law_state_of.nd (vn_cons 7 sc__law_state_of.nd vn_nil))) (vss_cons (vs_for (vi_seq (ve_ix xd_ix (rr 1) (VE.toR ve_int))) (vg_tup (vgs_cons (gg 8 sc__law_state_of.nd) (vgs_cons (gg 9 sc__law_state_of.nd) (vgs_cons (gg 10 sc__law_state_of.nd) vgs_nil))) 3 (gsl_name (gsl_name (gsl_name gsl_nil)))) (vss_cons (vs_asg (ve_tup (va_cons (ve_if (vt_cmp od_eq (rr 9) (VE.toR ve_str) (nomark _)) ve_int (ve_ix xd_ix (rr 4) (rr 9))) (va_cons (ve_if (vt_cmp od_eq (rr 10) (VE.toR ve_str) (nomark _)) ve_int (ve_ix xd_ix (rr 4) (rr 10))) va_nil))) (vg_tup (vgs_cons (gg 11 sc__law_state_of.nd) (vgs_cons (gg 12 sc__law_state_of.nd) vgs_nil)) 2 (gsl_name (gsl_name gsl_nil)))) (vss_cons (vs_s 13 sc__law_state_of.nd (ve_if (vt_cmp od_eq (rr 8) (VE.toR ve_str) (nomark _)) ve_int (ve_if (vt_cmp od_eq (rr 11) (rr 12) (nomark _)) ve_int (ve_bin od_add (VE.toR ve_int) (VE.toR (ve_cl h__law_draw (va_cons (vv 0) (va_cons (vv 3) va_nil)))))))) (vss_one (vs_for (vi_range1 B.range (rr 13)) (gg 14 sc__law_state_of.nd) (vss_cons (vs_if (VW.toT (vw_or (vt_cmp od_eq (rr 11) (VE.toR ve_int) (nomark _)) (vw_or1 (vt_cmp od_in (rr 11) (rr 6) (by with_unfolding_all rfl))))) (vss_one (vs_ret ve_non)) vss_nil) (vss_cons (vs_sLc 15 (own := [("name", 18)]) sc__law_state_of.nd (vir_seq (rr 2)) (fun _ => blkOk_by (by rfl)) (gg 18 sc__law_state_of.nd) (by decide) (vts_one (VW.toT (vw_and (vt_cmp od_notIn (VE.toR (ve_ix xd_ix (rr 4) (rr 18))) (rr 6) (by with_unfolding_all rfl)) (vw_and1 (vt_cmp od_notIn (VE.toR (ve_ix xd_ix (rr 4) (rr 18))) (VE.toR (ve_tup (va_cons ve_int (va_cons (vv 11) (va_cons (vv 12) va_nil))))) (by with_unfolding_all rfl)))))) (vc_el (ve_ix xd_ix (rr 4) (rr 18))) (by decide)) (vss_cons (vs_if (vt_cmp od_eq (rr 14) (VE.toR (ve_bin od_sub (rr 13) (VE.toR ve_int))) (nomark _)) (vss_one (vs_s 16 sc__law_state_of.nd (vv 12))) (vss_one (vs_if (VW.toT (vw_and (vt_cmp od_gt (VE.toR (ve_callB cd_len B.len (vra_cons (rr 15) vra_nil))) (VE.toR ve_int) (nomark _)) (vw_and1 (vt_cmp od_eq (VE.toR (ve_cl h__law_draw (va_cons (vv 0) (va_cons ve_int va_nil)))) (VE.toR ve_int) (nomark _))))) (vss_one (vs_s 16 sc__law_state_of.nd (ve_cl h__law_pick (va_cons (vv 0) (va_cons (vv 15) va_nil))))) (vss_one (vs_par2 16 7 sc__law_state_of.nd (vp_cons 16 (vv 7) (vp_cons 7 (ve_bin od_add (rr 7) (VE.toR ve_int)) vp_nil))))))) (vss_cons (vs_putD 6 (vv 16) (rr 11)) (vss_one (vs_s 11 sc__law_state_of.nd (vv 16)))))))))))) (vss_cons (vs_s 17 sc__law_state_of.nd (ve_tup (va_cons (ve_callT cd_tuple B.tuple (vra_cons (VE.toR (ve_callB cd_sorted B.sorted (vra_cons (VE.toR (VF.toE (vf_lcN (own := [("word", 8)]) sc__law_state_of.nd (vir_seq (rr 2)) (fun _ => blkOk_by (by rfl)) (gg 8 sc__law_state_of.nd) (by decide) vts_nil (vc_el (ve_tup (va_cons (vv 8) (va_cons (ve_ix xd_ix (rr 4) (rr 8)) va_nil)))) (by decide)))) vra_nil))) vra_nil)) (va_cons (ve_callT cd_tuple B.tuple (vra_cons (VE.toR (ve_callB cd_sorted B.sorted (vra_cons (VE.toR (VF.toE (vf_lcN (own := [("address", 19)]) sc__law_state_of.nd (vir_seq (VE.toR (ve_callT cd_listA B.list (vra_cons (rr 6) vra_nil)))) (fun _ => blkOk_by (by rfl)) (gg 19 sc__law_state_of.nd) (by decide) vts_nil (vc_el (ve_tup (va_cons (vv 19) (va_cons (ve_ix xd_ix (rr 6) (rr 19)) va_nil)))) (by decide)))) vra_nil))) vra_nil)) va_nil)))) (vss_one (vs_ret (ve_if (vt_val (ve_cl h__law_holds (va_cons (ve_tup (va_cons (vv 1) va_nil)) (va_cons (vv 17) va_nil)))) (vv 17) ve_non)))))))))
theorem ok__law_states_of (B : Bi mg) (D : DefF K mg "_law_states_of" s__law_states_of ["pool", "assertion", "words", "many", "most"]) (h__law_pick : Call P w K mg base 3 "_law_pick" m_l_pick_491d) (h__law_state_of : Call P w K mg base 5 "_law_state_of" m_l_state_of_115e) : Call P w K mg base 6 "_law_states_of" m_l_states_of_520a := Call.of (k := 5) (fun i => false) D sc__law_states_of rfl rfl (by decide) (by decide) (fun f =>
  (vss_cons (vs_s 5 sc__law_states_of.nd (VF.toE (vf_lst va_nil))) (vss_cons (vs_for (vi_range1 B.range (rr 3)) (gg 6 sc__law_states_of.nd) (vss_one (vs_if (vt_cmp od_gt (VE.toR (ve_callB cd_len B.len (vra_cons (rr 1) vra_nil))) (VE.toR ve_int) (nomark _)) (vss_cons (vs_s 7 sc__law_states_of.nd (ve_cl h__law_state_of (va_cons (vv 0) (va_cons (ve_cl h__law_pick (va_cons (vv 0) (va_cons (vv 1) va_nil))) (va_cons (vv 2) (va_cons (vv 4) va_nil)))))) (vss_one (vs_s 5 sc__law_states_of.nd (ve_bin od_add (rr 5) (VE.toR (ve_if (vt_cmp od_isNot (rr 7) (VE.toR ve_non) (nomark _)) (VF.toE (vf_lst (va_cons (vv 7) va_nil))) (VF.toE (vf_lst va_nil)))))))) vss_nil))) (vss_one (vs_ret (vv 5))))))
theorem ok__law_put_cell (B : Bi mg) (D : DefF K mg "_law_put_cell" s__law_put_cell ["state", "address", "number"])  : Call P w K mg base 1 "_law_put_cell" m_l_put_cell_512e := Call.of (k := 0) (fun i => false) D sc__law_put_cell rfl rfl (by decide) (by decide) (fun f =>
  (vss_one (vs_ret (ve_tup (va_cons (ve_ix xd_ix (rr 0) (VE.toR ve_int)) (va_cons (ve_callT cd_tuple B.tuple (vra_cons (VE.toR (ve_callB cd_sorted B.sorted (vra_cons (VE.toR (ve_bin od_add (VE.toR (VF.toE (vf_lcN (own := [("row", 3)]) sc__law_put_cell.nd (vir_seq (VE.toR (ve_ix xd_ix (rr 0) (VE.toR ve_int)))) (fun _ => blkOk_by (by rfl)) (gg 3 sc__law_put_cell.nd) (by decide) (vts_one (vt_cmp od_ne (VE.toR (ve_ix xd_ix (rr 3) (VE.toR ve_int))) (rr 1) (nomark _))) (vc_el (vv 3)) (by decide)))) (VE.toR (VF.toE (vf_lst (va_cons (ve_tup (va_cons (vv 1) (va_cons (vv 2) va_nil))) va_nil)))))) vra_nil))) vra_nil)) va_nil))))))
theorem ok_value_of (B : Bi mg) (D : DefF K mg "value_of" s_value_of ["state", "expression"])  : Call P w K mg base 1 "value_of" m_value_of_48b4 := Call.of (k := 0) (fun i => false) D sc_value_of rfl rfl (by decide) (by decide) (fun f =>
  (vss_one (vs_ret (ve_if (vt_cmp od_eq (rr 1) (VE.toR ve_str) (nomark _)) ve_int (ve_ix xd_ix (VE.toR (ve_callT cd_dictA B.dict (vra_cons (VE.toR (ve_ix xd_ix (rr 0) (VE.toR ve_int))) vra_nil))) (rr 1))))))
theorem ok_part_of (B : Bi mg) (D : DefF K mg "part_of" s_part_of ["atom", "state"]) (h_value_of : Call P w K mg base 1 "value_of" m_value_of_48b4) : Call P w K mg base 2 "part_of" m_part_of_0339 := Call.of (k := 1) (fun i => i == 5) D sc_part_of rfl rfl (by decide) (by decide) (fun f =>
  (vss_cons (vs_par2 2 3 sc_part_of.nd (vp_cons 2 (ve_cl h_value_of (va_cons (vv 1) (va_cons (ve_ix xd_ix (rr 0) (VE.toR ve_int)) va_nil))) (vp_cons 3 (ve_cl h_value_of (va_cons (vv 1) (va_cons (ve_ix xd_ix (rr 0) (VE.toR ve_int)) va_nil))) vp_nil))) (vss_cons (vs_s 4 sc_part_of.nd (ve_callT cd_dictA B.dict (vra_cons (VE.toR (ve_ix xd_ix (rr 1) (VE.toR ve_int))) vra_nil))) (vss_cons (vs_if (vt_cmp od_eq (VE.toR (ve_ix xd_ix (rr 0) (VE.toR ve_int))) (VE.toR ve_str) (nomark _)) (vss_one (vs_ret (ve_if (vt_cmp od_eq (VE.toR (ve_get1 (rr 4) (rr 2))) (rr 3) (nomark _)) (ve_tup (va_cons (vv 2) va_nil)) ve_non))) vss_nil) (vss_cons (vs_sO 5 sc_part_of.nd (vf_lst va_nil)) (vss_cons (vs_while 100000 (vt_cmp od_ne (rr 2) (rr 3) (nomark _)) (vss_cons (vs_if (VW.toT (vw_or (vt_cmp od_notIn (rr 2) (rr 4) (by with_unfolding_all rfl)) (vw_or1 (vt_cmp od_in (rr 2) (rr 5) (by with_unfolding_all rfl))))) (vss_one (vs_ret ve_non)) vss_nil) (vss_cons (vs_ap 5 (vv 2)) (vss_one (vs_s 2 sc_part_of.nd (ve_ix xd_ix (rr 4) (rr 2))))))) (vss_one (vs_ret (ve_callT cd_tuple B.tuple (vra_cons (VE.toR (ve_callB cd_sorted B.sorted (vra_cons (rr 5) vra_nil))) vra_nil))))))))))
theorem ok_fact_holds (B : Bi mg) (D : DefF K mg "fact_holds" s_fact_holds ["fact", "state"]) (h_value_of : Call P w K mg base 1 "value_of" m_value_of_48b4) : Call P w K mg base 2 "fact_holds" m_fact_holds_1e76 := Call.of (k := 1) (fun i => false) D sc_fact_holds rfl rfl (by decide) (by decide) (fun f =>
  (vss_one (vs_ret (ve_cmp od_eq (VE.toR (ve_cmp od_eq (VE.toR (ve_cl h_value_of (va_cons (vv 1) (va_cons (ve_ix xd_ix (rr 0) (VE.toR ve_int)) va_nil)))) (VE.toR (ve_cl h_value_of (va_cons (vv 1) (va_cons (ve_ix xd_ix (rr 0) (VE.toR ve_int)) va_nil)))) (nomark _))) (VE.toR (ve_cmp od_eq (VE.toR (ve_ix xd_ix (rr 0) (VE.toR ve_int))) (VE.toR ve_str) (nomark _))) (nomark _)))))
theorem ok_parts_of (B : Bi mg) (D : DefF K mg "parts_of" s_parts_of ["case", "state"]) (h_fact_holds : Call P w K mg base 2 "fact_holds" m_fact_holds_1e76) (h_part_of : Call P w K mg base 2 "part_of" m_part_of_0339) : Call P w K mg base 3 "parts_of" m_parts_of_05ba := Call.of (k := 2) (fun i => i == 2) D sc_parts_of rfl rfl (by decide) (by decide) (fun f =>
  (vss_cons (vs_if (vt_not (vt_val (ve_callB cd_all B.all (vra_cons (VE.toR (VF.toE (vf_lcN (own := [("fact", 5)]) sc_parts_of.nd (vir_seq (VE.toR (ve_ix xd_ix (rr 0) (VE.toR ve_int)))) (fun _ => blkOk_by (by rfl)) (gg 5 sc_parts_of.nd) (by decide) vts_nil (vc_el (ve_cl h_fact_holds (va_cons (vv 5) (va_cons (vv 1) va_nil)))) (by decide)))) vra_nil)))) (vss_one (vs_ret ve_non)) vss_nil) (vss_cons (vs_sO 2 sc_parts_of.nd (vf_lst va_nil)) (vss_cons (vs_for (vi_seq (ve_ix xd_ix (rr 0) (VE.toR ve_int))) (gg 3 sc_parts_of.nd) (vss_cons (vs_s 4 sc_parts_of.nd (ve_cl h_part_of (va_cons (vv 3) (va_cons (vv 1) va_nil)))) (vss_cons (vs_if (VW.toT (vw_or (vt_cmp od_is (rr 4) (VE.toR ve_non) (nomark _)) (vw_or1 (vt_not (vt_val (ve_callB cd_all B.all (vra_cons (VE.toR (VF.toE (vf_lcN (own := [("address", 6)]) sc_parts_of.nd (vir_seq (rr 4)) (fun _ => blkOk_by (by rfl)) (gg 6 sc_parts_of.nd) (by decide) vts_nil (vc_el (ve_cmp od_notIn (rr 6) (rr 2) (by with_unfolding_all rfl))) (by decide)))) vra_nil))))))) (vss_one (vs_ret ve_non)) vss_nil) (vss_one (vs_ex 2 (rr 4)))))) (vss_one (vs_ret (ve_callB cd_sorted B.sorted (vra_cons (rr 2) vra_nil))))))))
theorem ok_case_holds (B : Bi mg) (D : DefF K mg "case_holds" s_case_holds ["case", "state"]) (h_parts_of : Call P w K mg base 3 "parts_of" m_parts_of_05ba) : Call P w K mg base 4 "case_holds" m_case_holds_4b11 := Call.of (k := 3) (fun i => false) D sc_case_holds rfl rfl (by decide) (by decide) (fun f =>
  (vss_one (vs_ret (ve_cmp od_eq (VE.toR (ve_cl h_parts_of (va_cons (vv 0) (va_cons (vv 1) va_nil)))) (VE.toR (VF.toE (vf_lcN (own := [("address", 2), ("_", 3)]) sc_case_holds.nd (vir_seq (VE.toR (ve_ix xd_ix (rr 1) (VE.toR ve_int)))) (fun _ => blkOk_by (by rfl)) (vg_tup (vgs_cons (gg 2 sc_case_holds.nd) (vgs_cons (gg 3 sc_case_holds.nd) vgs_nil)) 2 (gsl_name (gsl_name gsl_nil))) (by decide) vts_nil (vc_el (vv 2)) (by decide)))) (nomark _)))))
theorem ok_holds (B : Bi mg) (D : DefF K mg "holds" s_holds ["assertion", "state"]) (h_case_holds : Call P w K mg base 4 "case_holds" m_case_holds_4b11) : Call P w K mg base 5 "holds" m_holds_4831 := Call.of (k := 4) (fun i => false) D sc_holds rfl rfl (by decide) (by decide) (fun f =>
  (vss_one (vs_ret (ve_callB cd_any B.any (vra_cons (VE.toR (VF.toE (vf_lcN (own := [("case", 2)]) sc_holds.nd (vir_seq (rr 0)) (fun _ => blkOk_by (by rfl)) (gg 2 sc_holds.nd) (by decide) vts_nil (vc_el (ve_cl h_case_holds (va_cons (vv 2) (va_cons (vv 1) va_nil)))) (by decide)))) vra_nil)))))
theorem ok_holds_in_part (B : Bi mg) (D : DefF K mg "holds_in_part" s_holds_in_part ["assertion", "state"]) (h_parts_of : Call P w K mg base 3 "parts_of" m_parts_of_05ba) : Call P w K mg base 4 "holds_in_part" m_holds_in_part_0669 := Call.of (k := 3) (fun i => false) D sc_holds_in_part rfl rfl (by decide) (by decide) (fun f =>
  (vss_one (vs_ret (ve_callB cd_any B.any (vra_cons (VE.toR (VF.toE (vf_lcN (own := [("case", 2)]) sc_holds_in_part.nd (vir_seq (rr 0)) (fun _ => blkOk_by (by rfl)) (gg 2 sc_holds_in_part.nd) (by decide) vts_nil (vc_el (ve_cmp od_isNot (VE.toR (ve_cl h_parts_of (va_cons (vv 2) (va_cons (vv 1) va_nil)))) (VE.toR ve_non) (nomark _))) (by decide)))) vra_nil)))))
theorem ok__law_state (B : Bi mg) (D : DefF K mg "_law_state" s__law_state ["pool", "words", "most", "cells"]) (h__law_draw : Call P w K mg base 2 "_law_draw" fDraw) : Call P w K mg base 3 "_law_state" m_l_state_74e1 := Call.of (k := 2) (fun i => false) D sc__law_state rfl rfl (by decide) (by decide) (fun f =>
  (vss_cons (vs_s 4 sc__law_state.nd (ve_callT cd_tuple B.tuple (vra_cons (VE.toR (VF.toE (vf_lcN (own := [("word", 7)]) sc__law_state.nd (vir_seq (VE.toR (ve_callB cd_sorted B.sorted (vra_cons (rr 1) vra_nil)))) (fun _ => blkOk_by (by rfl)) (gg 7 sc__law_state.nd) (by decide) vts_nil (vc_el (ve_tup (va_cons (vv 7) (va_cons (ve_cl h__law_draw (va_cons (vv 0) (va_cons (ve_bin od_add (rr 2) (VE.toR ve_int)) va_nil))) va_nil)))) (by decide)))) vra_nil))) (vss_cons (vs_sLc 5 (own := [("address", 6)]) sc__law_state.nd (VI.toR (vi_range2 B.range (VE.toR ve_int) (VE.toR (ve_bin od_add (rr 2) (VE.toR ve_int))))) (fun _ => blkOk_by (by rfl)) (gg 6 sc__law_state.nd) (by decide) (vts_one (vt_cmp od_lt (VE.toR (ve_cl h__law_draw (va_cons (vv 0) (va_cons ve_int va_nil)))) (rr 3) (nomark _))) (vc_el (ve_tup (va_cons (vv 6) (va_cons (ve_cl h__law_draw (va_cons (vv 0) (va_cons (ve_bin od_add (rr 2) (VE.toR ve_int)) va_nil))) va_nil)))) (by decide)) (vss_one (vs_ret (ve_tup (va_cons (vv 4) (va_cons (ve_callT cd_tuple B.tuple (vra_cons (rr 5) vra_nil)) va_nil))))))))
theorem ok__law_same (B : Bi mg) (D : DefF K mg "_law_same" s__law_same ["actual", "due"])  : ∀ n, Call P w K mg base (0 + n) "_law_same" (m_l_same_bae6 n)
  | 0 => (Call.zero D).up (Nat.zero_le _)
  | n + 1 => by
    have h__law_same := ok__law_same B D  n
    exact Call.of (k := 0 + n) (fun i => false) D sc__law_same rfl rfl (by decide) (by decide) (fun f => (vss_cons (vs_if (VW.toT (vw_or (vt_val (ve_isi .tuple B.isinstance B.tuple (rr 1))) (vw_or1 (vt_val (ve_isi .list B.isinstance B.list (rr 1)))))) (vss_cons (vs_if (VW.toT (vw_or (vt_cmp od_ne (VE.toR (ve_isi .tuple B.isinstance B.tuple (rr 1))) (VE.toR (ve_isi .tuple B.isinstance B.tuple (rr 0))) (nomark _)) (vw_or1 (vt_cmp od_ne (VE.toR (ve_isi .list B.isinstance B.list (rr 1))) (VE.toR (ve_isi .list B.isinstance B.list (rr 0))) (nomark _))))) (vss_one (vs_ret ve_bl)) vss_nil) (vss_cons (vs_if (vt_cmp od_ne (VE.toR (ve_callB cd_len B.len (vra_cons (rr 0) vra_nil))) (VE.toR (ve_callB cd_len B.len (vra_cons (rr 1) vra_nil))) (nomark _)) (vss_one (vs_ret ve_bl)) vss_nil) (vss_one (vs_ret (ve_cmp od_eq (VE.toR (ve_callB cd_len B.len (vra_cons (VE.toR (VF.toE (vf_lcN (own := [("k", 2)]) sc__law_same.nd (VI.toR (vi_range1 B.range (VE.toR (ve_callB cd_len B.len (vra_cons (rr 1) vra_nil))))) (fun _ => blkOk_by (by rfl)) (gg 2 sc__law_same.nd) (by decide) (vts_one (vt_not (vt_val (ve_cl (hr := Nat.le_refl _) h__law_same (va_cons (ve_ix xd_ix (rr 0) (rr 2)) (va_cons (ve_ix xd_ix (rr 1) (rr 2)) va_nil)))))) (vc_el (vv 2)) (by decide)))) vra_nil))) (VE.toR ve_int) (nomark _)))))) vss_nil) (vss_cons (vs_if (vt_cmp od_is (rr 1) (VE.toR ve_non) (nomark _)) (vss_one (vs_ret (ve_cmp od_is (rr 0) (VE.toR ve_non) (nomark _)))) vss_nil) (vss_cons (vs_if (VW.toT (vw_or (vt_val (ve_isi .bool B.isinstance B.bool (rr 1))) (vw_or1 (vt_val (ve_isi .bool B.isinstance B.bool (rr 0)))))) (vss_one (vs_ret (ve_and (ve_isi .bool B.isinstance B.bool (rr 1)) (ve_and (ve_isi .bool B.isinstance B.bool (rr 0)) (ve_one (ve_cmp od_eq (rr 0) (rr 1) (nomark _))))))) vss_nil) (vss_cons (vs_if (vt_val (ve_isi .int B.isinstance B.int (rr 1))) (vss_one (vs_ret (ve_and (ve_isi .int B.isinstance B.int (rr 0)) (ve_one (ve_cmp od_eq (rr 0) (rr 1) (nomark _)))))) vss_nil) (vss_one (vs_ret (ve_and (ve_isi .str B.isinstance B.str (rr 0)) (ve_one (ve_cmp od_eq (rr 0) (rr 1) (nomark _)))))))))))
theorem ok__law_holds_in_part (B : Bi mg) (D : DefF K mg "_law_holds_in_part" s__law_holds_in_part ["assertion", "state"]) (h__law_parts : Call P w K mg base 3 "_law_parts" m_l_parts_a546) : Call P w K mg base 4 "_law_holds_in_part" m_l_holds_in_part_c090 := Call.of (k := 3) (fun i => false) D sc__law_holds_in_part rfl rfl (by decide) (by decide) (fun f =>
  (vss_one (vs_ret (ve_cmp od_gt (VE.toR (ve_callB cd_len B.len (vra_cons (VE.toR (VF.toE (vf_lcN (own := [("case", 2)]) sc__law_holds_in_part.nd (vir_seq (rr 0)) (fun _ => blkOk_by (by rfl)) (gg 2 sc__law_holds_in_part.nd) (by decide) (vts_one (vt_cmp od_isNot (VE.toR (ve_cl h__law_parts (va_cons (vv 2) (va_cons (vv 1) va_nil)))) (VE.toR ve_non) (nomark _))) (vc_el (vv 2)) (by decide)))) vra_nil))) (VE.toR ve_int) (nomark _)))))
theorem ok_law {f : Addr} {fd : FuncData} (B : Bi mg) (F : FunD K "law" "law" (defArgs s_law) (defBody s_law) (defScope s_law) [] [] f fd) (h__law_assertion : Call P w K mg base 7 "_law_assertion" m_l_assertion_f77c) (h__law_draw : Call P w K mg base 2 "_law_draw" fDraw) (h__law_expression : Call P w K mg base 4 "_law_expression" m_l_expression_45ac) (h__law_fact : Call P w K mg base 5 "_law_fact" m_l_fact_d440) (h__law_fact_holds : Call P w K mg base 2 "_law_fact_holds" m_l_fact_holds_8e8f) (h__law_holds : Call P w K mg base 4 "_law_holds" m_l_holds_8c93) (h__law_holds_in_part : Call P w K mg base 4 "_law_holds_in_part" m_l_holds_in_part_c090) (h__law_part : Call P w K mg base 2 "_law_part" m_l_part_6cd0) (h__law_pick : Call P w K mg base 3 "_law_pick" m_l_pick_491d) (h__law_put_cell : Call P w K mg base 1 "_law_put_cell" m_l_put_cell_512e) (h__law_same : Call P w K mg base 12 "_law_same" (m_l_same_bae6 12)) (h__law_state : Call P w K mg base 3 "_law_state" m_l_state_74e1) (h__law_states_of : Call P w K mg base 6 "_law_states_of" m_l_states_of_520a) (h_fact_holds : Call P w K mg base 2 "fact_holds" m_fact_holds_1e76) (h_holds : Call P w K mg base 5 "holds" m_holds_4831) (h_holds_in_part : Call P w K mg base 4 "holds_in_part" m_holds_in_part_0669) (h_part_of : Call P w K mg base 2 "part_of" m_part_of_0339) (hP : ∃ fA fd ps, FnOk P w K mg base L2.CX0 1 fA fd ps (spPool K) ∧ mg "_law_pool" = some (.ref fA) ∧ PySem.W.keepIn K (.ref fA) = true ∧ Binds K fd ps [])
    (HP : m_law_b902 poT (none :: some .pool :: List.replicate 12 none)) : FnOk P w K mg base L2.CX0 (12 + 1) f fd ["script"] (spLaw K) := by
  obtain ⟨fP, fdP, psP, GP, hmP, kpP, bP⟩ := hP
  exact law_ok (k := 12) (O := fun i => false) F sc_law rfl rfl rfl (fun z => ps_asg (pe_call GP (z.hr.mono (by decide)) (by rfl) hmP kpP bP .nil pass0 (pa_cons (pv 0) pa_nil)) (pg_name (i := 1) sc_law.nd rfl (Or.inr rfl)))
    ((vss_cons (vs_s 2 sc_law.nd (VF.toE (vf_lst (va_cons ve_str (va_cons ve_str (va_cons ve_str va_nil)))))) (vss_cons (vs_s 3 sc_law.nd (ve_cl h__law_assertion (va_cons (vv 1) (va_cons (vv 2) (va_cons ve_int (va_cons ve_int (va_cons ve_int va_nil))))))) (vss_cons (vs_s 4 sc_law.nd (ve_bin od_add (VE.toR (VF.toE (vf_lst (va_cons (ve_cl h__law_state (va_cons (vv 1) (va_cons (vv 2) (va_cons ve_int (va_cons ve_int va_nil))))) (va_cons (ve_cl h__law_state (va_cons (vv 1) (va_cons (vv 2) (va_cons ve_int (va_cons ve_int va_nil))))) va_nil))))) (VE.toR (ve_cl h__law_states_of (va_cons (vv 1) (va_cons (vv 3) (va_cons (vv 2) (va_cons ve_int (va_cons ve_int va_nil))))))))) (vss_cons (vs_for (vi_seq (vv 4)) (gg 5 sc_law.nd) (vss_cons (vs_s 6 sc_law.nd (ve_tup (va_cons (ve_ix xd_ix (rr 5) (VE.toR ve_int)) (va_cons (ve_callT cd_tuple B.tuple (vra_cons (VE.toR (VF.toE (vf_lcN (own := [("row", 13)]) sc_law.nd (vir_seq (VE.toR (ve_ix xd_ix (rr 5) (VE.toR ve_int)))) (fun _ => blkOk_by (by rfl)) (gg 13 sc_law.nd) (by decide) (vts_one (vt_cmp od_gt (VE.toR (ve_cl h__law_draw (va_cons (vv 1) (va_cons ve_int va_nil)))) (VE.toR ve_int) (nomark _))) (vc_el (vv 13)) (by decide)))) vra_nil)) va_nil)))) (vss_cons (vs_s 7 sc_law.nd (ve_cl h__law_put_cell (va_cons (vv 5) (va_cons (ve_bin od_add (VE.toR ve_int) (VE.toR (ve_cl h__law_draw (va_cons (vv 1) (va_cons ve_int va_nil))))) (va_cons (ve_cl h__law_draw (va_cons (vv 1) (va_cons ve_int va_nil))) va_nil))))) (vss_one (vs_for (vi_seq (VF.toE (vf_lst (va_cons (vv 5) (va_cons (vv 6) (va_cons (vv 7) va_nil)))))) (gg 8 sc_law.nd) (vss_cons (vs_if (vt_not (vt_val (ve_cl h__law_same (va_cons (VF.toE (vf_lst (va_cons (ve_cl h_holds (va_cons (vv 3) (va_cons (vv 8) va_nil))) (va_cons (ve_cl h_holds_in_part (va_cons (vv 3) (va_cons (vv 8) va_nil))) va_nil)))) (va_cons (VF.toE (vf_lst (va_cons (ve_cl h__law_holds (va_cons (vv 3) (va_cons (vv 8) va_nil))) (va_cons (ve_cl h__law_holds_in_part (va_cons (vv 3) (va_cons (vv 8) va_nil))) va_nil)))) va_nil))))) (vss_one (vs_ret ve_bl)) vss_nil) (vss_one (vs_for (vi_range1 B.range (VE.toR ve_int)) (gg 9 sc_law.nd) (vss_cons (vs_s 10 sc_law.nd (ve_tup (va_cons (ve_cl h__law_pick (va_cons (vv 1) (va_cons (VF.toE (vf_lst (va_cons ve_str (va_cons ve_str (va_cons ve_str va_nil))))) va_nil))) (va_cons (ve_cl h__law_expression (va_cons (vv 1) (va_cons (vv 2) va_nil))) (va_cons (ve_cl h__law_expression (va_cons (vv 1) (va_cons (vv 2) va_nil))) va_nil))))) (vss_cons (vs_par2 11 12 sc_law.nd (vp_cons 11 (ve_cl h__law_part (va_cons (vv 10) (va_cons (vv 8) va_nil))) (vp_cons 12 (ve_cl h__law_fact (va_cons (vv 1) (va_cons (vv 2) va_nil))) vp_nil))) (vss_one (vs_if (vt_not (vt_val (ve_cl h__law_same (va_cons (VF.toE (vf_lst (va_cons (ve_cl h_part_of (va_cons (vv 10) (va_cons (vv 8) va_nil))) (va_cons (ve_cl h_fact_holds (va_cons (vv 12) (va_cons (vv 8) va_nil))) va_nil)))) (va_cons (VF.toE (vf_lst (va_cons (ve_if (vt_cmp od_is (rr 11) (VE.toR ve_non) (nomark _)) ve_non (ve_callT cd_tuple B.tuple (vra_cons (rr 11) vra_nil))) (va_cons (ve_cl h__law_fact_holds (va_cons (vv 12) (va_cons (vv 8) va_nil))) va_nil)))) va_nil))))) (vss_one (vs_ret ve_bl)) vss_nil)))))))))))) (vss_one (vs_ret (ve_and (ve_not (ve_cl h_holds (va_cons (ve_tup va_nil) (va_cons (ve_ix xd_ix (rr 4) (VE.toR ve_int)) va_nil)))) (ve_and (ve_cl h_holds (va_cons (ve_tup (va_cons (ve_tup (va_cons (ve_tup va_nil) (va_cons (ve_tup va_nil) va_nil))) va_nil)) (va_cons (ve_tup (va_cons (ve_ix xd_ix (VE.toR (ve_ix xd_ix (rr 4) (VE.toR ve_int))) (VE.toR ve_int)) (va_cons (ve_tup va_nil) va_nil))) va_nil))) (ve_one (ve_cl h_holds_in_part (va_cons (ve_tup (va_cons (ve_tup (va_cons (ve_tup va_nil) (va_cons (ve_tup va_nil) va_nil))) va_nil)) (va_cons (ve_ix xd_ix (rr 4) (VE.toR ve_int)) va_nil))))))))))))) HP
end
end Fn
end P_K_k05
section P_H_k05
set_option maxHeartbeats 0
namespace Fn
open PySem PySem.Spec PyProof.Rows L2
def d__law_pool : He.DefD := ⟨("_law_pool", none), "_law_pool", "_law_pool", defArgs s__law_pool, defBody s__law_pool, defScope s__law_pool, [], []⟩
def d__law_spread : He.DefD := ⟨("_law_spread", none), "_law_spread", "_law_spread", defArgs s__law_spread, defBody s__law_spread, defScope s__law_spread, [], []⟩
def d__law_draw : He.DefD := ⟨("_law_draw", none), "_law_draw", "_law_draw", defArgs s__law_draw, defBody s__law_draw, defScope s__law_draw, [], []⟩
def d__law_pick : He.DefD := ⟨("_law_pick", none), "_law_pick", "_law_pick", defArgs s__law_pick, defBody s__law_pick, defScope s__law_pick, [], []⟩
def d__law_expression : He.DefD := ⟨("_law_expression", none), "_law_expression", "_law_expression", defArgs s__law_expression, defBody s__law_expression, defScope s__law_expression, [], []⟩
def d__law_fact : He.DefD := ⟨("_law_fact", none), "_law_fact", "_law_fact", defArgs s__law_fact, defBody s__law_fact, defScope s__law_fact, [], []⟩
def d__law_case : He.DefD := ⟨("_law_case", none), "_law_case", "_law_case", defArgs s__law_case, defBody s__law_case, defScope s__law_case, [], []⟩
def d__law_assertion : He.DefD := ⟨("_law_assertion", none), "_law_assertion", "_law_assertion", defArgs s__law_assertion, defBody s__law_assertion, defScope s__law_assertion, [], []⟩
def d__law_value : He.DefD := ⟨("_law_value", none), "_law_value", "_law_value", defArgs s__law_value, defBody s__law_value, defScope s__law_value, [], []⟩
def d__law_part : He.DefD := ⟨("_law_part", none), "_law_part", "_law_part", defArgs s__law_part, defBody s__law_part, defScope s__law_part, [], []⟩
def d__law_fact_holds : He.DefD := ⟨("_law_fact_holds", none), "_law_fact_holds", "_law_fact_holds", defArgs s__law_fact_holds, defBody s__law_fact_holds, defScope s__law_fact_holds, [], []⟩
def d__law_parts : He.DefD := ⟨("_law_parts", none), "_law_parts", "_law_parts", defArgs s__law_parts, defBody s__law_parts, defScope s__law_parts, [], []⟩
def d__law_holds : He.DefD := ⟨("_law_holds", none), "_law_holds", "_law_holds", defArgs s__law_holds, defBody s__law_holds, defScope s__law_holds, [], []⟩
def d__law_state_of : He.DefD := ⟨("_law_state_of", none), "_law_state_of", "_law_state_of", defArgs s__law_state_of, defBody s__law_state_of, defScope s__law_state_of, [], []⟩
def d__law_states_of : He.DefD := ⟨("_law_states_of", none), "_law_states_of", "_law_states_of", defArgs s__law_states_of, defBody s__law_states_of, defScope s__law_states_of, [], []⟩
def d__law_put_cell : He.DefD := ⟨("_law_put_cell", none), "_law_put_cell", "_law_put_cell", defArgs s__law_put_cell, defBody s__law_put_cell, defScope s__law_put_cell, [], []⟩
def d_value_of : He.DefD := ⟨("value_of", none), "value_of", "value_of", defArgs s_value_of, defBody s_value_of, defScope s_value_of, [], []⟩
def d_part_of : He.DefD := ⟨("part_of", none), "part_of", "part_of", defArgs s_part_of, defBody s_part_of, defScope s_part_of, [], []⟩
def d_fact_holds : He.DefD := ⟨("fact_holds", none), "fact_holds", "fact_holds", defArgs s_fact_holds, defBody s_fact_holds, defScope s_fact_holds, [], []⟩
def d_parts_of : He.DefD := ⟨("parts_of", none), "parts_of", "parts_of", defArgs s_parts_of, defBody s_parts_of, defScope s_parts_of, [], []⟩
def d_case_holds : He.DefD := ⟨("case_holds", none), "case_holds", "case_holds", defArgs s_case_holds, defBody s_case_holds, defScope s_case_holds, [], []⟩
def d_holds : He.DefD := ⟨("holds", none), "holds", "holds", defArgs s_holds, defBody s_holds, defScope s_holds, [], []⟩
def d_holds_in_part : He.DefD := ⟨("holds_in_part", none), "holds_in_part", "holds_in_part", defArgs s_holds_in_part, defBody s_holds_in_part, defScope s_holds_in_part, [], []⟩
def d__law_state : He.DefD := ⟨("_law_state", none), "_law_state", "_law_state", defArgs s__law_state, defBody s__law_state, defScope s__law_state, [], []⟩
def d__law_same : He.DefD := ⟨("_law_same", none), "_law_same", "_law_same", defArgs s__law_same, defBody s__law_same, defScope s__law_same, [], []⟩
def d__law_holds_in_part : He.DefD := ⟨("_law_holds_in_part", none), "_law_holds_in_part", "_law_holds_in_part", defArgs s__law_holds_in_part, defBody s__law_holds_in_part, defScope s__law_holds_in_part, [], []⟩
def d_law : He.DefD := ⟨("law", none), "law", "law", defArgs s_law, defBody s_law, defScope s_law, [], []⟩
def fn : List He.DefD := [d__law_pool, d__law_spread, d__law_draw, d__law_pick, d__law_expression, d__law_fact, d__law_case, d__law_assertion, d__law_value, d__law_part, d__law_fact_holds, d__law_parts, d__law_holds, d__law_state_of, d__law_states_of, d__law_put_cell, d_value_of, d_part_of, d_fact_holds, d_parts_of, d_case_holds, d_holds, d_holds_in_part, d__law_state, d__law_same, d__law_holds_in_part, d_law]
def fa : List He.Fa := [.glo "_law_pool", .glo "_law_spread", .glo "_law_draw", .glo "_law_pick", .glo "_law_expression", .glo "_law_fact", .glo "_law_case", .glo "_law_assertion", .glo "_law_value", .glo "_law_part", .glo "_law_fact_holds", .glo "_law_parts", .glo "_law_holds", .glo "_law_state_of", .glo "_law_states_of", .glo "_law_put_cell", .glo "value_of", .glo "part_of", .glo "fact_holds", .glo "parts_of", .glo "case_holds", .glo "holds", .glo "holds_in_part", .glo "_law_state", .glo "_law_same", .glo "_law_holds_in_part", .glo "law", .free "len", .free "tuple", .free "list", .free "all", .free "any", .free "int", .free "isinstance", .free "range", .free "sorted", .free "max", .free "min", .free "dict", .free "enumerate", .free "zip", .free "str", .free "repr", .free "bool"]
def ex : PySem.W.Frag → Bool := fun K => true
abbrev R : PySem.W.OpenRow := PySem.W.OpenLaw.row PySem.Challenge.rw_heapsplit_k05_whole_truth_in_states
abbrev hk : PySem.W.Hook := He.hookX 4 fa fn [] [] ex
def ob (s : PySem.W.SharedT) : He.AlX := He.obsX 4 fa fn [] [] ex (HandSHeadRun.getT s)
theorem ob_eq (s : PySem.W.SharedT) : ob s = hk.obs s.abs := He.obsX_eq (HandSHeadRun.getT_eq s)
def loose : List Str := ((["value_of", "fact_holds", "part_of", "parts_of", "case_holds", "holds", "holds_in_part", "_law_pool", "_law_spread", "_law_draw", "_law_pick", "_law_expression", "_law_fact", "_law_case", "_law_assertion", "_law_state", "_law_value", "_law_fact_holds", "_law_part", "_law_parts", "_law_holds", "_law_state_of", "_law_states_of", "_law_put_cell", "_law_same"] : List Str) ++ (["_law_holds_in_part"] : List Str))
theorem run (w : World) : HandSHeadRun.RunEq R (PySem.W.view R.prog [29]) hk ob 1000 loose w := by
  intro os
  kernel_rfl
theorem facts {P : Program} {w : World} {K : PySem.W.Frag} {h : Heap} {mg : Str → Option Value} {f : Addr} (HP : m_law_b902 poT (none :: some .pool :: List.replicate 12 none)) (X : K.In h) (G : h.Ns mainGlobals mg) (hfa : mg ("law" : Str) = some (.ref f)) (cx : He.SaysX fa fn [] [] ex w h K) :
    ∃ fd : FuncData, (∀ (s : Shared) (v : Value), BindsTo s fd ⟨[v], []⟩ [("script", v)]) ∧ ∀ base : Heap, K.In base → base.Ns mainGlobals mg → FnOk P w K mg base CX0 13 f fd ["script"] (spLaw K) := by
  have c : He.SaysD fa fn K := cx.t.d
  have ce : ex K = true := cx.more
  obtain ⟨fd, F⟩ := c.def_ 26 (d := d_law) rfl
  have e := hfa.symm.trans (He.glo_ok X G (c.fact 26 (f := .glo "law") rfl))
  cases e
  have b := FunD.bindsA (ps := ["script"]) F fun _ _ _ _ _ _ us hl => match us, hl with | [_], _ => rfl
  obtain ⟨f__law_pool, F__law_pool⟩ := c.def_ 0 (d := d__law_pool) rfl
  obtain ⟨f__law_spread, F__law_spread⟩ := c.def_ 1 (d := d__law_spread) rfl
  obtain ⟨f__law_draw, F__law_draw⟩ := c.def_ 2 (d := d__law_draw) rfl
  obtain ⟨f__law_pick, F__law_pick⟩ := c.def_ 3 (d := d__law_pick) rfl
  obtain ⟨f__law_expression, F__law_expression⟩ := c.def_ 4 (d := d__law_expression) rfl
  obtain ⟨f__law_fact, F__law_fact⟩ := c.def_ 5 (d := d__law_fact) rfl
  obtain ⟨f__law_case, F__law_case⟩ := c.def_ 6 (d := d__law_case) rfl
  obtain ⟨f__law_assertion, F__law_assertion⟩ := c.def_ 7 (d := d__law_assertion) rfl
  obtain ⟨f__law_value, F__law_value⟩ := c.def_ 8 (d := d__law_value) rfl
  obtain ⟨f__law_part, F__law_part⟩ := c.def_ 9 (d := d__law_part) rfl
  obtain ⟨f__law_fact_holds, F__law_fact_holds⟩ := c.def_ 10 (d := d__law_fact_holds) rfl
  obtain ⟨f__law_parts, F__law_parts⟩ := c.def_ 11 (d := d__law_parts) rfl
  obtain ⟨f__law_holds, F__law_holds⟩ := c.def_ 12 (d := d__law_holds) rfl
  obtain ⟨f__law_state_of, F__law_state_of⟩ := c.def_ 13 (d := d__law_state_of) rfl
  obtain ⟨f__law_states_of, F__law_states_of⟩ := c.def_ 14 (d := d__law_states_of) rfl
  obtain ⟨f__law_put_cell, F__law_put_cell⟩ := c.def_ 15 (d := d__law_put_cell) rfl
  obtain ⟨f_value_of, F_value_of⟩ := c.def_ 16 (d := d_value_of) rfl
  obtain ⟨f_part_of, F_part_of⟩ := c.def_ 17 (d := d_part_of) rfl
  obtain ⟨f_fact_holds, F_fact_holds⟩ := c.def_ 18 (d := d_fact_holds) rfl
  obtain ⟨f_parts_of, F_parts_of⟩ := c.def_ 19 (d := d_parts_of) rfl
  obtain ⟨f_case_holds, F_case_holds⟩ := c.def_ 20 (d := d_case_holds) rfl
  obtain ⟨f_holds, F_holds⟩ := c.def_ 21 (d := d_holds) rfl
  obtain ⟨f_holds_in_part, F_holds_in_part⟩ := c.def_ 22 (d := d_holds_in_part) rfl
  obtain ⟨f__law_state, F__law_state⟩ := c.def_ 23 (d := d__law_state) rfl
  obtain ⟨f__law_same, F__law_same⟩ := c.def_ 24 (d := d__law_same) rfl
  obtain ⟨f__law_holds_in_part, F__law_holds_in_part⟩ := c.def_ 25 (d := d__law_holds_in_part) rfl
  have D__law_pool : DefF K mg "_law_pool" s__law_pool ["script"] := ⟨_, _, F__law_pool, He.glo_ok X G (c.fact 0 (f := .glo "_law_pool") rfl), F__law_pool.bindsN fun _ _ _ _ _ _ us hl => match us, hl with | [_], _ => rfl⟩
  have D__law_spread : DefF K mg "_law_spread" s__law_spread ["cell"] := ⟨_, _, F__law_spread, He.glo_ok X G (c.fact 1 (f := .glo "_law_spread") rfl), F__law_spread.bindsN fun _ _ _ _ _ _ us hl => match us, hl with | [_], _ => rfl⟩
  have D__law_draw : DefF K mg "_law_draw" s__law_draw ["pool", "many"] := ⟨_, _, F__law_draw, He.glo_ok X G (c.fact 2 (f := .glo "_law_draw") rfl), F__law_draw.bindsN fun _ _ _ _ _ _ us hl => match us, hl with | [_, _], _ => rfl⟩
  have D__law_pick : DefF K mg "_law_pick" s__law_pick ["pool", "items"] := ⟨_, _, F__law_pick, He.glo_ok X G (c.fact 3 (f := .glo "_law_pick") rfl), F__law_pick.bindsN fun _ _ _ _ _ _ us hl => match us, hl with | [_, _], _ => rfl⟩
  have D__law_expression : DefF K mg "_law_expression" s__law_expression ["pool", "words"] := ⟨_, _, F__law_expression, He.glo_ok X G (c.fact 4 (f := .glo "_law_expression") rfl), F__law_expression.bindsN fun _ _ _ _ _ _ us hl => match us, hl with | [_, _], _ => rfl⟩
  have D__law_fact : DefF K mg "_law_fact" s__law_fact ["pool", "words"] := ⟨_, _, F__law_fact, He.glo_ok X G (c.fact 5 (f := .glo "_law_fact") rfl), F__law_fact.bindsN fun _ _ _ _ _ _ us hl => match us, hl with | [_, _], _ => rfl⟩
  have D__law_case : DefF K mg "_law_case" s__law_case ["pool", "words", "facts", "atoms"] := ⟨_, _, F__law_case, He.glo_ok X G (c.fact 6 (f := .glo "_law_case") rfl), F__law_case.bindsN fun _ _ _ _ _ _ us hl => match us, hl with | [_, _, _, _], _ => rfl⟩
  have D__law_assertion : DefF K mg "_law_assertion" s__law_assertion ["pool", "words", "cases", "facts", "atoms"] := ⟨_, _, F__law_assertion, He.glo_ok X G (c.fact 7 (f := .glo "_law_assertion") rfl), F__law_assertion.bindsN fun _ _ _ _ _ _ us hl => match us, hl with | [_, _, _, _, _], _ => rfl⟩
  have D__law_value : DefF K mg "_law_value" s__law_value ["state", "expression"] := ⟨_, _, F__law_value, He.glo_ok X G (c.fact 8 (f := .glo "_law_value") rfl), F__law_value.bindsN fun _ _ _ _ _ _ us hl => match us, hl with | [_, _], _ => rfl⟩
  have D__law_part : DefF K mg "_law_part" s__law_part ["atom", "state"] := ⟨_, _, F__law_part, He.glo_ok X G (c.fact 9 (f := .glo "_law_part") rfl), F__law_part.bindsN fun _ _ _ _ _ _ us hl => match us, hl with | [_, _], _ => rfl⟩
  have D__law_fact_holds : DefF K mg "_law_fact_holds" s__law_fact_holds ["fact", "state"] := ⟨_, _, F__law_fact_holds, He.glo_ok X G (c.fact 10 (f := .glo "_law_fact_holds") rfl), F__law_fact_holds.bindsN fun _ _ _ _ _ _ us hl => match us, hl with | [_, _], _ => rfl⟩
  have D__law_parts : DefF K mg "_law_parts" s__law_parts ["case", "state"] := ⟨_, _, F__law_parts, He.glo_ok X G (c.fact 11 (f := .glo "_law_parts") rfl), F__law_parts.bindsN fun _ _ _ _ _ _ us hl => match us, hl with | [_, _], _ => rfl⟩
  have D__law_holds : DefF K mg "_law_holds" s__law_holds ["assertion", "state"] := ⟨_, _, F__law_holds, He.glo_ok X G (c.fact 12 (f := .glo "_law_holds") rfl), F__law_holds.bindsN fun _ _ _ _ _ _ us hl => match us, hl with | [_, _], _ => rfl⟩
  have D__law_state_of : DefF K mg "_law_state_of" s__law_state_of ["pool", "case", "words", "most"] := ⟨_, _, F__law_state_of, He.glo_ok X G (c.fact 13 (f := .glo "_law_state_of") rfl), F__law_state_of.bindsN fun _ _ _ _ _ _ us hl => match us, hl with | [_, _, _, _], _ => rfl⟩
  have D__law_states_of : DefF K mg "_law_states_of" s__law_states_of ["pool", "assertion", "words", "many", "most"] := ⟨_, _, F__law_states_of, He.glo_ok X G (c.fact 14 (f := .glo "_law_states_of") rfl), F__law_states_of.bindsN fun _ _ _ _ _ _ us hl => match us, hl with | [_, _, _, _, _], _ => rfl⟩
  have D__law_put_cell : DefF K mg "_law_put_cell" s__law_put_cell ["state", "address", "number"] := ⟨_, _, F__law_put_cell, He.glo_ok X G (c.fact 15 (f := .glo "_law_put_cell") rfl), F__law_put_cell.bindsN fun _ _ _ _ _ _ us hl => match us, hl with | [_, _, _], _ => rfl⟩
  have D_value_of : DefF K mg "value_of" s_value_of ["state", "expression"] := ⟨_, _, F_value_of, He.glo_ok X G (c.fact 16 (f := .glo "value_of") rfl), F_value_of.bindsN fun _ _ _ _ _ _ us hl => match us, hl with | [_, _], _ => rfl⟩
  have D_part_of : DefF K mg "part_of" s_part_of ["atom", "state"] := ⟨_, _, F_part_of, He.glo_ok X G (c.fact 17 (f := .glo "part_of") rfl), F_part_of.bindsN fun _ _ _ _ _ _ us hl => match us, hl with | [_, _], _ => rfl⟩
  have D_fact_holds : DefF K mg "fact_holds" s_fact_holds ["fact", "state"] := ⟨_, _, F_fact_holds, He.glo_ok X G (c.fact 18 (f := .glo "fact_holds") rfl), F_fact_holds.bindsN fun _ _ _ _ _ _ us hl => match us, hl with | [_, _], _ => rfl⟩
  have D_parts_of : DefF K mg "parts_of" s_parts_of ["case", "state"] := ⟨_, _, F_parts_of, He.glo_ok X G (c.fact 19 (f := .glo "parts_of") rfl), F_parts_of.bindsN fun _ _ _ _ _ _ us hl => match us, hl with | [_, _], _ => rfl⟩
  have D_case_holds : DefF K mg "case_holds" s_case_holds ["case", "state"] := ⟨_, _, F_case_holds, He.glo_ok X G (c.fact 20 (f := .glo "case_holds") rfl), F_case_holds.bindsN fun _ _ _ _ _ _ us hl => match us, hl with | [_, _], _ => rfl⟩
  have D_holds : DefF K mg "holds" s_holds ["assertion", "state"] := ⟨_, _, F_holds, He.glo_ok X G (c.fact 21 (f := .glo "holds") rfl), F_holds.bindsN fun _ _ _ _ _ _ us hl => match us, hl with | [_, _], _ => rfl⟩
  have D_holds_in_part : DefF K mg "holds_in_part" s_holds_in_part ["assertion", "state"] := ⟨_, _, F_holds_in_part, He.glo_ok X G (c.fact 22 (f := .glo "holds_in_part") rfl), F_holds_in_part.bindsN fun _ _ _ _ _ _ us hl => match us, hl with | [_, _], _ => rfl⟩
  have D__law_state : DefF K mg "_law_state" s__law_state ["pool", "words", "most", "cells"] := ⟨_, _, F__law_state, He.glo_ok X G (c.fact 23 (f := .glo "_law_state") rfl), F__law_state.bindsN fun _ _ _ _ _ _ us hl => match us, hl with | [_, _, _, _], _ => rfl⟩
  have D__law_same : DefF K mg "_law_same" s__law_same ["actual", "due"] := ⟨_, _, F__law_same, He.glo_ok X G (c.fact 24 (f := .glo "_law_same") rfl), F__law_same.bindsN fun _ _ _ _ _ _ us hl => match us, hl with | [_, _], _ => rfl⟩
  have D__law_holds_in_part : DefF K mg "_law_holds_in_part" s__law_holds_in_part ["assertion", "state"] := ⟨_, _, F__law_holds_in_part, He.glo_ok X G (c.fact 25 (f := .glo "_law_holds_in_part") rfl), F__law_holds_in_part.bindsN fun _ _ _ _ _ _ us hl => match us, hl with | [_, _], _ => rfl⟩
  have B : Bi mg := ⟨He.free_ok X G (c.fact 27 (f := .free "len") rfl), He.free_ok X G (c.fact 28 (f := .free "tuple") rfl), He.free_ok X G (c.fact 29 (f := .free "list") rfl), He.free_ok X G (c.fact 30 (f := .free "all") rfl), He.free_ok X G (c.fact 31 (f := .free "any") rfl), He.free_ok X G (c.fact 32 (f := .free "int") rfl), He.free_ok X G (c.fact 33 (f := .free "isinstance") rfl), He.free_ok X G (c.fact 34 (f := .free "range") rfl), He.free_ok X G (c.fact 35 (f := .free "sorted") rfl), He.free_ok X G (c.fact 36 (f := .free "max") rfl), He.free_ok X G (c.fact 37 (f := .free "min") rfl), He.free_ok X G (c.fact 38 (f := .free "dict") rfl), He.free_ok X G (c.fact 39 (f := .free "enumerate") rfl), He.free_ok X G (c.fact 40 (f := .free "zip") rfl), He.free_ok X G (c.fact 41 (f := .free "str") rfl), He.free_ok X G (c.fact 42 (f := .free "repr") rfl), He.free_ok X G (c.fact 43 (f := .free "bool") rfl)⟩
  refine ⟨fd, fun s v => b s [v] rfl, fun base _ _ => ?_⟩
  · skip
    have h__law_pool := ok__law_pool (P := P) (w := w) (base := base) B D__law_pool
    have h__law_spread := ok__law_spread (P := P) (w := w) (base := base) B D__law_spread 
    have h__law_draw := ok__law_draw B D__law_draw h__law_spread m_l_spread_7026_any
    have h__law_pick := ok__law_pick (P := P) (w := w) (base := base) B D__law_pick h__law_draw
    have h__law_expression := ok__law_expression (P := P) (w := w) (base := base) B D__law_expression h__law_draw h__law_pick
    have h__law_fact := ok__law_fact (P := P) (w := w) (base := base) B D__law_fact h__law_expression h__law_pick
    have h__law_case := ok__law_case (P := P) (w := w) (base := base) B D__law_case h__law_draw h__law_expression h__law_fact h__law_pick
    have h__law_assertion := ok__law_assertion (P := P) (w := w) (base := base) B D__law_assertion h__law_case h__law_draw
    have h__law_value := ok__law_value (P := P) (w := w) (base := base) B D__law_value 
    have h__law_part := ok__law_part (P := P) (w := w) (base := base) B D__law_part h__law_value
    have h__law_fact_holds := ok__law_fact_holds (P := P) (w := w) (base := base) B D__law_fact_holds h__law_value
    have h__law_parts := ok__law_parts (P := P) (w := w) (base := base) B D__law_parts h__law_fact_holds h__law_part
    have h__law_holds := ok__law_holds (P := P) (w := w) (base := base) B D__law_holds h__law_parts
    have h__law_state_of := ok__law_state_of (P := P) (w := w) (base := base) B D__law_state_of h__law_draw h__law_holds h__law_pick
    have h__law_states_of := ok__law_states_of (P := P) (w := w) (base := base) B D__law_states_of h__law_pick h__law_state_of
    have h__law_put_cell := ok__law_put_cell (P := P) (w := w) (base := base) B D__law_put_cell 
    have h_value_of := ok_value_of (P := P) (w := w) (base := base) B D_value_of 
    have h_part_of := ok_part_of (P := P) (w := w) (base := base) B D_part_of h_value_of
    have h_fact_holds := ok_fact_holds (P := P) (w := w) (base := base) B D_fact_holds h_value_of
    have h_parts_of := ok_parts_of (P := P) (w := w) (base := base) B D_parts_of h_fact_holds h_part_of
    have h_case_holds := ok_case_holds (P := P) (w := w) (base := base) B D_case_holds h_parts_of
    have h_holds := ok_holds (P := P) (w := w) (base := base) B D_holds h_case_holds
    have h_holds_in_part := ok_holds_in_part (P := P) (w := w) (base := base) B D_holds_in_part h_parts_of
    have h__law_state := ok__law_state (P := P) (w := w) (base := base) B D__law_state h__law_draw
    have h__law_same := ok__law_same (P := P) (w := w) (base := base) B D__law_same  12
    have h__law_holds_in_part := ok__law_holds_in_part (P := P) (w := w) (base := base) B D__law_holds_in_part h__law_parts
    exact ok_law B F h__law_assertion h__law_draw h__law_expression h__law_fact h__law_fact_holds h__law_holds h__law_holds_in_part h__law_part h__law_pick h__law_put_cell h__law_same h__law_state h__law_states_of h_fact_holds h_holds h_holds_in_part h_part_of h__law_pool HP
end Fn
open PySem PySem.W PySem.Calls PyProof.Rows
theorem PySem.Challenge.cw_heapsplit_k05_whole_truth_in_states_holds : PySem.Challenge.rw_heapsplit_k05_whole_truth_in_states.Holds := by
  w_on; o_law
  refine HandSHeadRun.head_any (r := OpenLaw.row PySem.Challenge.rw_heapsplit_k05_whole_truth_in_states) (q := view (OpenLaw.row PySem.Challenge.rw_heapsplit_k05_whole_truth_in_states).prog [29]) (H := Fn.hk) (ob := Fn.ob) (M := 1000) (loose := Fn.loose) (d := HandSHeadRun.topDef (OpenLaw.row PySem.Challenge.rw_heapsplit_k05_whole_truth_in_states).prog 29) (kwd := []) Fn.ob_eq
    (by kernel_rfl) (fun s => by kernel_rfl) Fn.run (by kernel_rfl) (by kernel_rfl) (by kernel_rfl) (by rfl) (by first | assumption | decide +kernel) (by decide +kernel) ⟨rfl, rfl, rfl, rfl, rfl, by decide +kernel⟩ ?hw ?hc
  case hw => w_witness2
  case hc =>
    refine L2.walk_ofE (l := PySem.Challenge.rw_heapsplit_k05_whole_truth_in_states) (n := 63) (k := 13) (x := "script") (CX := L2.CX0) rfl (by decide) (by kernel_rfl) ⟨rfl, by decide, by decide⟩ ?F (fun _ _ _ _ z => z)
    intro w mg fa h Y G hmg0
    obtain ⟨K, KX, c⟩ := Y
    have hmg : mg ("law" : PySem.Str) = some (.ref fa) := by
      have e : (HandSHeadRun.topDef (OpenLaw.row PySem.Challenge.rw_heapsplit_k05_whole_truth_in_states).prog 29).name = ("law" : PySem.Str) := by kernel_rfl
      rw [← e]
      exact hmg0
    obtain ⟨fd, hb, hF⟩ := Fn.facts (P := (PySem.Challenge.rw_heapsplit_k05_whole_truth_in_states).prog) (w := w) Fn.law_plain KX G hmg c
    exact ⟨K, fd, Fn.spLaw K, KX, hb, fun H a ns hl _ hS => ⟨a, ns, rfl, hS, fun _ => rfl⟩, hF⟩
end P_H_k05
