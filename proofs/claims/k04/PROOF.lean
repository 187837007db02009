import PyProof.Rows.All
import Wide.All
import OpenK.AllK
import Wide.FinOn
import KE.SortData
import KE.DataEq
import HandS.Base
import HandS.Call
import HandS.List
import HandS.Comp
import HandS.Ends
import HandS.Dict
import HandS.Iter
import HandS.Text
import HandS.More
import HandS.Words
import HandS.WordsList
import HandS.Walk
import HandS.IsInst
import HandS.Wide
import HandS.TupAny
import HandS.TupMul
import HandS.Style
import HandS.Deep
import HandS.Defaults
import HandS.Head0
import HandS.Head1
import HandS.Head2
import HandS.HeadEnd
import HandS.HeadHook1
import HandS.HeadHook2
import PySem.Challenge.RW_heapsplit_k04_assertions_made
set_option Elab.async false
set_option linter.all false
set_option maxRecDepth 100000
section P_FD
/-! The plain layer: data D without a heap, and what each construct asks of them. -/
namespace Fn
open PySem

abbrev Key := Sum Int Str
/-- data: None, bools, ints, texts, tuples, lists, dicts with int and text keys, closures, the pool of draws -/
inductive D where
  | non | bl (b : Bool) | int (i : Int) | str (x : Str) | tup (l : List D) | lst (l : List D) | dct (l : List (Key × D)) | clo (c : Nat) (l : List D) | pool

mutual
def D.py : D → PyData
  | .non => .none
  | .bl b => .bool b
  | .int i => .int i
  | .str x => .str x
  | .tup l => .tuple (pyL l)
  | .lst l => .list (pyL l)
  | .dct _ => .none
  | .clo _ _ => .none
  | .pool => .none
def pyL : List D → List PyData
  | [] => []
  | x :: r => x.py :: pyL r
end
mutual
def D.dat : D → Bool
  | .non => true
  | .bl _ => true
  | .int _ => true
  | .str _ => true
  | .tup l => datL l
  | .lst l => datL l
  | .dct _ => false
  | .clo _ _ => false
  | .pool => false
def datL : List D → Bool
  | [] => true
  | x :: r => x.dat && datL r
end
mutual
def D.dep : D → Nat
  | .tup l => depL l + 1
  | .lst l => depL l + 1
  | _ => 1
def depL : List D → Nat
  | [] => 0
  | x :: r => max x.dep (depL r)
end
theorem pyL_map : ∀ l : List D, pyL l = l.map D.py
  | [] => rfl
  | x :: r => by rw [pyL, List.map_cons, pyL_map r]
theorem datL_all : ∀ l : List D, datL l = l.all D.dat
  | [] => rfl
  | x :: r => by rw [datL, List.all_cons, datL_all r]

/-- Python's == of data -/
def eqb (x y : D) : Bool := PyData.eqv x.py y.py

abbrev Ren := List (Option D)
abbrev DK := D → Prop
abbrev FE := Ren → DK → Prop
abbrev FT := Ren → (Bool → Prop) → Prop
abbrev FA := Ren → (List D → Prop) → Prop
abbrev FI := Ren → (List D → Prop) → Prop
abbrev FG := D → Ren → (Ren → Prop) → Prop
abbrev G1 := D → DK → Prop
abbrev G2 := D → D → DK → Prop
abbrev GA := List D → DK → Prop
structure Po where
  nx : Ren → Prop
  rt : DK
  bk : Ren → Prop
  ct : Ren → Prop
abbrev FS := Po → Ren → Prop

/-! ### expressions -/
def eVar (i : Nat) : FE := fun ρ R => match ρ[i]? with
  | some (some d) => R d
  | _ => False
def eC (d : D) : FE := fun _ R => R d
def eUn (g : G1) (a : FE) : FE := fun ρ R => a ρ fun x => g x R
def eBin (g : G2) (a b : FE) : FE := fun ρ R => a ρ fun x => b ρ fun y => g x y R
def aNil : FA := fun _ R => R []
def aCons (a : FE) (r : FA) : FA := fun ρ R => a ρ fun x => r ρ fun l => R (x :: l)
def eTup (a : FA) : FE := fun ρ R => a ρ fun l => l.length ≤ 16777216 ∧ R (.tup l)
def eLst (a : FA) : FE := fun ρ R => a ρ fun l => l.length ≤ 16777216 ∧ R (.lst l)
def eCall (g : GA) (a : FA) : FE := fun ρ R => a ρ fun l => g l R
def eIf (t : FT) (a b : FE) : FE := fun ρ R => t ρ fun c => if c = true then a ρ R else b ρ R
def eBool (t : FT) : FE := fun ρ R => t ρ fun c => R (.bl c)
/-! ### tests -/
def tVal (a : FE) : FT := fun ρ R => a ρ fun x => match x with
  | .bl b => R b
  | _ => False
def tAnd (a b : FT) : FT := fun ρ R => a ρ fun c => if c = true then b ρ R else R false
def tOr (a b : FT) : FT := fun ρ R => a ρ fun c => if c = true then R true else b ρ R
def tNot (a : FT) : FT := fun ρ R => a ρ fun c => R (!c)
/-! ### operators -/
def bAdd : G2 := fun x y R => match x, y with
  | .int i, .int j => R (.int (i + j))
  | .str a, .str b => a.length + b.length ≤ 16777216 ∧ R (.str (a ++ b))
  | .tup a, .tup b => a.length + b.length ≤ 16777216 ∧ R (.tup (a ++ b))
  | .lst a, .lst b => a.length + b.length ≤ 16777216 ∧ R (.lst (a ++ b))
  | _, _ => False
def bSub : G2 := fun x y R => match x, y with
  | .int i, .int j => R (.int (i - j))
  | _, _ => False
def bMul : G2 := fun x y R => match x, y with
  | .int i, .int j => ((-(2 ^ 64) < i ∧ i < 2 ^ 64) ∨ (-(2 ^ 64) < j ∧ j < 2 ^ 64)) ∧ R (.int (i * j))
  | .tup l, .int k => l.length * k.toNat ≤ 16777216 ∧ -(2 ^ 63) ≤ k ∧ k < 2 ^ 63 ∧ R (.tup ((List.replicate k.toNat l).flatten))
  | _, _ => False
def bMod : G2 := fun x y R => match x, y with
  | .int i, .int j => 0 < j ∧ R (.int (i % j))
  | _, _ => False
def bDiv : G2 := fun x y R => match x, y with
  | .int i, .int j => (0 < j ∧ j < 1073741824) ∧ R (.int (i / j))
  | _, _ => False
def bPow : G2 := fun x y R => match x, y with
  | .int i, .int j => (0 ≤ j ∧ j ≤ 1000000 ∧ i.natAbs < 2 ^ 64) ∧ R (.int (i ^ j.toNat))
  | _, _ => False
def uNeg : G1 := fun x R => match x with
  | .int i => R (.int (-i))
  | _ => False
def okE (x y : D) : Prop := x.dat = true ∧ y.dat = true ∧ min x.dep y.dep ≤ 64
def cEq : G2 := fun x y R => okE x y ∧ R (.bl (eqb x y))
def cNe : G2 := fun x y R => okE x y ∧ R (.bl (!eqb x y))
def ltS (a b : Str) : Bool := decide (a.cps.toList < b.cps.toList)
def cLt : G2 := fun x y R => match x, y with
  | .int i, .int j => R (.bl (decide (i < j)))
  | .str i, .str j => R (.bl (ltS i j))
  | _, _ => False
def cGt : G2 := fun x y R => match x, y with
  | .int i, .int j => R (.bl (decide (j < i)))
  | .str i, .str j => R (.bl (ltS j i))
  | _, _ => False
def cLe : G2 := fun x y R => match x, y with
  | .int i, .int j => R (.bl (decide (i ≤ j)))
  | .str i, .str j => R (.bl (!ltS j i))
  | _, _ => False
def cGe : G2 := fun x y R => match x, y with
  | .int i, .int j => R (.bl (decide (j ≤ i)))
  | .str i, .str j => R (.bl (!ltS i j))
  | _, _ => False
def lookK (k : Key) : List (Key × D) → Option D
  | [] => none
  | (j, d) :: r => if j = k then some d else lookK k r
def D.key : D → Option Key
  | .int i => some (.inl i)
  | .str x => some (.inr x)
  | _ => none
def isIn (x y : D) (R : Bool → Prop) : Prop := match y with
  | .tup l => (x.dat = true ∧ x.dep ≤ 64 ∧ datL l = true) ∧ R (l.any fun z => eqb z x)
  | .lst l => (x.dat = true ∧ x.dep ≤ 64 ∧ datL l = true) ∧ R (l.any fun z => eqb z x)
  | .dct kvs => match x.key with
    | some k => R (lookK k kvs).isSome
    | none => False
  | .str z => match x with
    | .str c => ∃ n, c = ⟨#[n]⟩ ∧ R (decide (n ∈ z.cps.toList))
    | _ => False
  | _ => False
def cIn : G2 := fun x y R => isIn x y fun b => R (.bl b)
def cNotIn : G2 := fun x y R => isIn x y fun b => R (.bl (!b))
def D.isNon : D → Bool
  | .non => true
  | _ => false
def uIsN : G1 := fun x R => R (.bl x.isNon)
def uNotN : G1 := fun x R => R (.bl (!x.isNon))
/-! ### subscripts -/
def ixN (n : Nat) (i : Int) : Option Nat := if 0 ≤ i then (if i < n then some i.toNat else none) else if -(n : Int) ≤ i then some (i + n).toNat else none
def atI {α : Type} (xs : List α) (i : Int) : Option α := (ixN xs.length i).bind fun j => xs[j]?
def sIx (n d : Nat) : Option Int → Nat
  | none => d
  | some v => if v < 0 then (v + (n : Int)).toNat else min v.toNat n
def cut {α : Type} (xs : List α) (lo hi : Option Int) : List α := (xs.drop (sIx xs.length 0 lo)).take (sIx xs.length xs.length hi - sIx xs.length 0 lo)
def bIx : G2 := fun x y R => match x, y with
  | .tup l, .int i => (match atI l i with
    | some d => R d
    | none => False)
  | .lst l, .int i => (match atI l i with
    | some d => R d
    | none => False)
  | .str z, .int i => z.length ≤ 16777216 ∧ (match atI z.cps.toList i with
    | some c => R (.str ⟨#[c]⟩)
    | none => False)
  | .dct kvs, .int i => (match lookK (.inl i) kvs with
    | some d => R d
    | none => False)
  | .dct kvs, .str i => (match lookK (.inr i) kvs with
    | some d => R d
    | none => False)
  | _, _ => False
def gSl (x : D) (lo hi : Option Int) (R : DK) : Prop := match x with
  | .tup l => R (.tup (cut l lo hi))
  | .lst l => R (.lst (cut l lo hi))
  | .str z => z.length ≤ 16777216 ∧ R (.str ⟨(cut z.cps.toList lo hi).toArray⟩)
  | _ => False
abbrev FO := Ren → (Option Int → Prop) → Prop
def oNone : FO := fun _ R => R none
def oSome (a : FE) : FO := fun ρ R => a ρ fun x => match x with
  | .int i => R (some i)
  | _ => False
def eSl (a : FE) (lo hi : FO) : FE := fun ρ R => a ρ fun x => lo ρ fun l => hi ρ fun h => gSl x l h R
def uRev : G1 := fun x R => match x with
  | .tup l => R (.tup l.reverse)
  | .lst l => R (.lst l.reverse)
  | _ => False
/-! ### built-in functions -/
def fLen : GA := fun l R => match l with
  | [.tup l] => R (.int l.length)
  | [.lst l] => R (.int l.length)
  | [.str z] => z.length ≤ 16777216 ∧ R (.int z.length)
  | [.dct l] => R (.int l.length)
  | _ => False
def fInt : GA := fun l R => match l with
  | [.int i] => R (.int i)
  | _ => False
def fTuple : GA := fun l R => match l with
  | [.tup l] => R (.tup l)
  | [.lst l] => R (.tup l)
  | _ => False
def fList : GA := fun l R => match l with
  | [.tup l] => R (.lst l)
  | [.lst l] => R (.lst l)
  | _ => False
def bools : List D → Option (List Bool)
  | [] => some []
  | .bl b :: r => (bools r).map (b :: ·)
  | _ :: _ => none
def fAll : GA := fun l R => match l with
  | [.lst l] => (match bools l with
    | some bs => R (.bl (bs.all id))
    | none => False)
  | _ => False
def fAny : GA := fun l R => match l with
  | [.lst l] => (match bools l with
    | some bs => R (.bl (bs.any id))
    | none => False)
  | _ => False
/-- the built-in class of data -/
def D.tyN : D → Option String
  | .non => some "NoneType"
  | .bl _ => some "bool"
  | .int _ => some "int"
  | .str _ => some "str"
  | .tup _ => some "tuple"
  | .lst _ => some "list"
  | .dct _ => some "dict"
  | .clo _ _ => none
  | .pool => none
inductive Ty where
  | int | bool | str | tuple | list
def isT : Ty → D → Bool
  | .int, .int _ => true
  | .int, .bl _ => true
  | .bool, .bl _ => true
  | .str, .str _ => true
  | .tuple, .tup _ => true
  | .list, .lst _ => true
  | _, _ => false
def fIs (t : Ty) : G1 := fun x R => x.tyN ≠ none ∧ R (.bl (isT t x))
/-! ### comprehensions -/
def wipe (ρ : Ren) : List Nat → Ren
  | [] => ρ
  | v :: vs => (wipe ρ vs).set v none
/-- the loop of one clause, n elements may still come -/
def lcGo (G : FG) (t : FT) (e : Ren → Nat → (List D → Prop) → Prop) (ρ : Ren) : List D → Nat → (List D → Prop) → Prop
  | [], _, R => R []
  | d :: r, n, R => G d ρ fun ρ' => t ρ' fun b => if b = true then e ρ' n fun l => lcGo G t e ρ r (n - l.length) fun l' => R (l ++ l') else lcGo G t e ρ r n R
def lcEl (e : FE) : Ren → Nat → (List D → Prop) → Prop := fun ρ n R => e ρ fun y => 0 < n ∧ R [y]
def lcCl (wi : FI) (G : FG) (t : FT) (vs : List Nat) (e : Ren → Nat → (List D → Prop) → Prop) : Ren → Nat → (List D → Prop) → Prop := fun ρ n R => wi ρ fun items => lcGo G t e (wipe ρ vs) items n R
/-- [elt for .. if ..]: the first source is told outside of the block -/
def eLc (wi : FI) (G : FG) (t : FT) (e : Ren → Nat → (List D → Prop) → Prop) (own : List Nat) : FE := fun ρ R => wi ρ fun items => lcGo G t e (wipe ρ own) items 16777216 fun l => R (.lst l)
def tYes : FT := fun _ R => R true
def gName (i : Nat) : FG := fun d ρ R => R (ρ.set i (some d))
abbrev FGs := List D → Ren → (Ren → Prop) → Prop
def gsNil : FGs := fun l ρ R => match l with
  | [] => R ρ
  | _ => False
def gsCons (t : FG) (u : FGs) : FGs := fun l ρ R => match l with
  | d :: r => t d ρ fun ρ' => u r ρ' R
  | [] => False
def gTup (u : FGs) : FG := fun d ρ R => match d with
  | .tup l => u l ρ R
  | _ => False
/-! ### what a loop walks -/
def iSeq (a : FE) : FI := fun ρ R => a ρ fun x => match x with
  | .tup l => R l
  | .lst l => R l
  | _ => False
def rng (lo : Int) (n : Nat) : List D := (List.range n).map fun (k : Nat) => D.int (lo + k)
def iRng1 (a : FE) : FI := fun ρ R => a ρ fun x => match x with
  | .int j => (-(2 ^ 62) ≤ j ∧ j < 2 ^ 62) ∧ R (rng 0 j.toNat)
  | _ => False
def iRng2 (a b : FE) : FI := fun ρ R => a ρ fun x => b ρ fun y => match x, y with
  | .int i, .int j => (-(2 ^ 62) ≤ i ∧ i < 2 ^ 62 ∧ -(2 ^ 62) ≤ j ∧ j < 2 ^ 62) ∧ R (rng i (j - i).toNat)
  | _, _ => False
def iStr (a : FE) : FI := fun ρ R => a ρ fun x => match x with
  | .str z => R (z.cps.toList.map fun c => D.str ⟨#[c]⟩)
  | _ => False
/-! ### statements -/
def sSkip : FS := fun P ρ => P.nx ρ
def sSeq (a b : FS) : FS := fun P ρ => a { P with nx := b P } ρ
def sSet (i : Nat) (e : FE) : FS := fun P ρ => e ρ fun d => P.nx (ρ.set i (some d))
def sAsg (e : FE) (G : FG) : FS := fun P ρ => e ρ fun d => G d ρ P.nx
def sRet (e : FE) : FS := fun P ρ => e ρ P.rt
def sRetN : FS := fun P _ => P.rt .non
def sIf (t : FT) (a b : FS) : FS := fun P ρ => t ρ fun c => if c = true then a P ρ else b P ρ
def forGo (G : FG) (b : FS) (P : Po) : List D → Ren → Prop
  | [], ρ => P.nx ρ
  | d :: r, ρ => G d ρ fun ρ' => b { nx := forGo G b P r, rt := P.rt, bk := P.nx, ct := forGo G b P r } ρ'
def sFor (wi : FI) (G : FG) (b : FS) : FS := fun P ρ => wi ρ fun l => forGo G b P l ρ
def whGo (t : FT) (b : FS) (P : Po) : Nat → Ren → Prop
  | 0, _ => False
  | n + 1, ρ => t ρ fun c => if c = true then b { nx := whGo t b P n, rt := P.rt, bk := P.nx, ct := whGo t b P n } ρ else P.nx ρ
def sWhile (n : Nat) (t : FT) (b : FS) : FS := fun P ρ => whGo t b P n ρ
def sBrk : FS := fun P ρ => P.bk ρ
def sCnt : FS := fun P ρ => P.ct ρ
def sExp (e : FE) : FS := fun P ρ => e ρ fun _ => P.nx ρ
/-- x.append(e), x one's own list in the slot i -/
def sApp (i : Nat) (e : FE) : FS := fun P ρ => match ρ[i]? with
  | some (some (.lst l)) => e ρ fun d => l.length < 16777216 ∧ P.nx (ρ.set i (some (.lst (l ++ [d]))))
  | _ => False
/-- x.extend(e) -/
def sExt (i : Nat) (e : FE) : FS := fun P ρ => match ρ[i]? with
  | some (some (.lst l)) => e ρ fun d => (match d with
    | .lst m => l.length + m.length ≤ 16777216 ∧ P.nx (ρ.set i (some (.lst (l ++ m))))
    | _ => False)
  | _ => False
def setR (ρ : Ren) : List Nat → List D → Ren
  | j :: js, d :: l => setR (ρ.set j (some d)) js l
  | _, _ => ρ
/-- x, y = a, b: plain names -/
def sPar (js : List Nat) (a : FA) : FS := fun P ρ => a ρ fun l => P.nx (setR ρ js l)
def eChain (g g2 : G2) (a b c : FE) : FE := fun ρ R => a ρ fun x => b ρ fun y => g x y fun z => match z with
  | .bl k => if k = true then c ρ fun u => g2 y u R else R (.bl false)
  | _ => False
/-- x[j] = e, x one's own list or dict in the slot i -/
def putK (kvs : List (Key × D)) (k : Key) (x : D) : List (Key × D) := if (kvs.any fun kv => decide (kv.1 = k)) = true then kvs.map (fun kv => if kv.1 = k then (kv.1, x) else kv) else kvs ++ [(k, x)]
def sPut (i : Nat) (k e : FE) : FS := fun P ρ => e ρ fun d => match ρ[i]? with
  | some (some (.lst l)) => k ρ fun j => (match j with
    | .int j => (match ixN l.length j with
      | some m => P.nx (ρ.set i (some (.lst (l.set m d))))
      | none => False)
    | _ => False)
  | some (some (.dct l)) => k ρ fun j => (match j.key with
    | some q => l.length < 16777216 ∧ P.nx (ρ.set i (some (.dct (putK l q d))))
    | none => False)
  | _ => False
/-- a def: its slots and parameters -/
def fnD (n p : Nat) (F : FS) : GA := fun ds R => ds.length = p ∧ F ⟨fun _ => R .non, R, fun _ => False, fun _ => False⟩ (ds.map some ++ List.replicate (n - p) none)
/-- a draw -/
def fDraw : GA := fun l R => match l with
  | [.pool, .int m] => 0 < m ∧ m < 1073741824 ∧ ∀ k : Int, 0 ≤ k → k < m → R (.int k)
  | _ => False
end Fn
end P_FD
section P_FR
set_option maxHeartbeats 2000000
/-! Data over the abstract heap: what stands for what, and what stays. -/
namespace Fn
open PySem PySem.Spec PyProof.Rows L2

/-- where the pool of draws stands, and its list of numbers -/
abbrev Pi := Option (Addr × Addr)
def isPl (π : Pi) (a : Addr) : Prop := ∃ l, π = some (a, l)
section
variable (K : PySem.W.Frag)
def KT (a : Addr) (xs : List V) : Prop := ∃ (o : Obj) (its : Array Value) (n : Nat), K.lookup a = some o ∧ o.cls = .type "tuple" ∧ o.data = .seq its n ∧ its.size ≤ sizeLine ∧ Vals xs its.toList
/-- a closure: what is known of it is told by a predicate of its own -/
abbrev Clo := Nat → List D → Hp → Addr → Prop
mutual
def Rep (M : Addr → Prop) (π : Pi) (H : Hp) : D → V → Prop
  | .non, v => v = .non
  | .bl b, v => v = .bl b
  | .int i, v => v = .int i
  | .str x, v => v = .str x
  | .tup l, v => ∃ a xs, v = .ref a ∧ ((¬ M a ∧ Rd H a (.tup xs)) ∨ KT K a xs) ∧ RepL M π H l xs
  | .lst l, v => ∃ a xs, v = .ref a ∧ (¬ M a ∧ H a = some (.lst xs)) ∧ RepL M π H l xs
  | .dct l, v => ∃ a kvs, v = .ref a ∧ (¬ M a ∧ Rd H a (.dK kvs)) ∧ RepK M π H l kvs
  | .clo _ _, _ => False
  | .pool, v => ∃ p, π = some p ∧ v = .ref p.1
def RepL (M : Addr → Prop) (π : Pi) (H : Hp) : List D → List V → Prop
  | [], xs => xs = []
  | d :: r, xs => ∃ v vs, xs = v :: vs ∧ Rep M π H d v ∧ RepL M π H r vs
def RepP (M : Addr → Prop) (π : Pi) (H : Hp) : L2.Key × D → L2.Key × V → Prop
  | (k, d), q => q.1 = k ∧ Rep M π H d q.2
def RepK (M : Addr → Prop) (π : Pi) (H : Hp) : List (L2.Key × D) → List (L2.Key × V) → Prop
  | [], xs => xs = []
  | p :: r, xs => ∃ q qs, xs = q :: qs ∧ RepP M π H p q ∧ RepK M π H r qs
end
/-- the pool of draws at p, its numbers at l -/
def PoolAt (H : Hp) (p : Addr × Addr) : Prop := ∃ (ns : List Int) (i c n s : Int), H p.1 = some (.lst [.ref p.2, .int i, .int c, .int n, .int s]) ∧ H p.2 = some (.lst (ns.map V.int)) ∧ p.2 ≠ p.1 ∧ 0 ≤ i
/-- all but the pool is as it was -/
structure Keep (π : Pi) (H H' : Hp) : Prop where
  same : ∀ a o, H a = some o → ¬ isPl π a → H' a = some o
  pool : ∀ p, π = some p → PoolAt H' p
/-- what M does not bar is as it was -/
def Hold (N : Addr → Prop) (H H' : Hp) : Prop := ∀ a o, H a = some o → ¬ N a → H' a = some o

theorem Hold.refl (N : Addr → Prop) (H : Hp) : Hold N H H := fun _ _ h _ => h
theorem Hold.trans {N : Addr → Prop} {H H1 H2 : Hp} (x : Hold N H H1) (y : Hold N H1 H2) : Hold N H H2 := fun a o h n => y a o (x a o h n) n
theorem Keep.hold {N : Addr → Prop} {π : Pi} {H H' : Hp} (k : Keep π H H') (hp : ∀ p, isPl π p → N p) : Hold N H H' :=
  fun a o h n => k.same a o h fun e => n (hp a e)
theorem Keep.trans {π : Pi} {H H1 H2 : Hp} (x : Keep π H H1) (y : Keep π H1 H2) : Keep π H H2 :=
  ⟨fun a o h n => y.same a o (x.same a o h n) n, y.pool⟩
end

section
variable {K : PySem.W.Frag} {M M' : Addr → Prop} {π : Pi} {H H' : Hp}
theorem rd_hold {a : Addr} {u : HO} (k : ∀ o, H a = some o → H' a = some o) (r : Rd H a u) : Rd H' a u := by
  rcases r with r | ⟨o, r⟩
  · exact .inl (k _ r)
  · exact .inr ⟨o, k _ r⟩
theorem rd_there {a : Addr} {u : HO} (r : Rd H a u) : ∃ o, H a = some o := by
  rcases r with r | ⟨o, r⟩
  · exact ⟨_, r⟩
  · exact ⟨_, r⟩
/-! frozen data stay where what M does not bar stays; the bars may change as long as what is barred anew was not there -/
mutual
theorem Rep.hold (k : Hold M H H') (hm : ∀ a, M' a → M a ∨ H a = none) : ∀ (d : D) (v : V), Rep K M π H d v → Rep K M' π H' d v
  | .non, _, h => h
  | .bl _, _, h => h
  | .int _, _, h => h
  | .str _, _, h => h
  | .tup l, _, ⟨a, xs, e, h, r⟩ => by
    refine ⟨a, xs, e, ?_, RepL.hold k hm l xs r⟩
    rcases h with ⟨n, h⟩ | h
    · refine .inl ⟨fun z => ?_, rd_hold (fun o q => k a o q n) h⟩
      obtain ⟨o, q⟩ := rd_there h
      rcases hm a z with z | z
      · exact n z
      · rw [q] at z; cases z
    · exact .inr h
  | .lst l, _, ⟨a, xs, e, ⟨n, h⟩, r⟩ => by
    refine ⟨a, xs, e, ⟨fun z => ?_, k a _ h n⟩, RepL.hold k hm l xs r⟩
    rcases hm a z with z | z
    · exact n z
    · rw [h] at z; cases z
  | .dct l, _, ⟨a, xs, e, ⟨n, h⟩, r⟩ => by
    refine ⟨a, xs, e, ⟨fun z => ?_, rd_hold (fun o q => k a o q n) h⟩, RepK.hold k hm l xs r⟩
    obtain ⟨o, q⟩ := rd_there h
    rcases hm a z with z | z
    · exact n z
    · rw [q] at z; cases z
  | .clo _ _, _, h => h
  | .pool, _, h => h
theorem RepL.hold (k : Hold M H H') (hm : ∀ a, M' a → M a ∨ H a = none) : ∀ (l : List D) (xs : List V), RepL K M π H l xs → RepL K M' π H' l xs
  | [], _, h => h
  | d :: r, _, ⟨v, vs, e, h1, h2⟩ => ⟨v, vs, e, Rep.hold k hm d v h1, RepL.hold k hm r vs h2⟩
theorem RepP.hold (k : Hold M H H') (hm : ∀ a, M' a → M a ∨ H a = none) : ∀ (p : L2.Key × D) (q : L2.Key × V), RepP K M π H p q → RepP K M' π H' p q
  | (_, d), q, ⟨e, h⟩ => ⟨e, Rep.hold k hm d q.2 h⟩
theorem RepK.hold (k : Hold M H H') (hm : ∀ a, M' a → M a ∨ H a = none) : ∀ (l : List (L2.Key × D)) (xs : List (L2.Key × V)), RepK K M π H l xs → RepK K M' π H' l xs
  | [], _, h => h
  | p :: r, _, ⟨q, qs, e, h1, h2⟩ => ⟨q, qs, e, RepP.hold k hm p q h1, RepK.hold k hm r qs h2⟩
end
theorem RepL.length : ∀ {l : List D} {xs : List V}, RepL K M π H l xs → xs.length = l.length
  | [], _, h => by cases h; rfl
  | _ :: _, _, ⟨_, _, e, _, h⟩ => by subst e; rw [List.length_cons, List.length_cons, RepL.length h]
theorem RepL.get : ∀ {l : List D} {xs : List V} {i : Nat} {d : D}, RepL K M π H l xs → l[i]? = some d → ∃ v, xs[i]? = some v ∧ Rep K M π H d v
  | [], _, _, _, _, e => by simp at e
  | d :: r, _, 0, d', ⟨v, vs, e, h1, h2⟩, q => by subst e; simp at q; subst q; exact ⟨v, rfl, h1⟩
  | d :: r, _, i + 1, d', ⟨v, vs, e, h1, h2⟩, q => by
    subst e
    obtain ⟨u, e1, e2⟩ := RepL.get (i := i) (d := d') h2 (by simpa using q)
    exact ⟨u, by simpa using e1, e2⟩
theorem RepL.get' : ∀ {l : List D} {xs : List V} {i : Nat} {v : V}, RepL K M π H l xs → xs[i]? = some v → ∃ d, l[i]? = some d ∧ Rep K M π H d v
  | [], _, _, _, h, e => by cases h; simp at e
  | d :: r, _, 0, v', ⟨v, vs, e, h1, h2⟩, q => by subst e; simp at q; subst q; exact ⟨d, rfl, h1⟩
  | d :: r, _, i + 1, v', ⟨v, vs, e, h1, h2⟩, q => by
    subst e
    obtain ⟨u, e1, e2⟩ := RepL.get' (i := i) (v := v') h2 (by simpa using q)
    exact ⟨u, by simpa using e1, e2⟩
theorem RepL.append : ∀ {l m : List D} {xs ys : List V}, RepL K M π H l xs → RepL K M π H m ys → RepL K M π H (l ++ m) (xs ++ ys)
  | [], _, _, _, h, h' => by cases h; exact h'
  | d :: r, _, _, _, ⟨v, vs, e, h1, h2⟩, h' => by subst e; exact ⟨v, vs ++ _, rfl, h1, RepL.append h2 h'⟩
theorem RepL.snoc {l : List D} {xs : List V} {d : D} {v : V} (h : RepL K M π H l xs) (h' : Rep K M π H d v) : RepL K M π H (l ++ [d]) (xs ++ [v]) :=
  h.append ⟨v, [], rfl, h', rfl⟩
theorem RepL.take : ∀ {l : List D} {xs : List V} (n : Nat), RepL K M π H l xs → RepL K M π H (l.take n) (xs.take n)
  | _, _, 0, _ => rfl
  | [], _, _ + 1, h => by cases h; rfl
  | d :: r, _, n + 1, ⟨v, vs, e, h1, h2⟩ => by subst e; exact ⟨v, vs.take n, rfl, h1, RepL.take n h2⟩
theorem RepL.drop : ∀ {l : List D} {xs : List V} (n : Nat), RepL K M π H l xs → RepL K M π H (l.drop n) (xs.drop n)
  | _, _, 0, h => h
  | [], _, _ + 1, h => by cases h; rfl
  | d :: r, _, n + 1, ⟨v, vs, e, h1, h2⟩ => by subst e; exact RepL.drop n h2
theorem RepL.reverse : ∀ {l : List D} {xs : List V}, RepL K M π H l xs → RepL K M π H l.reverse xs.reverse
  | [], _, h => by cases h; exact rfl
  | d :: r, _, ⟨v, vs, e, h1, h2⟩ => by
    subst e
    rw [List.reverse_cons, List.reverse_cons]
    exact (RepL.reverse h2).snoc h1
theorem RepL.ints : ∀ {ns : List Int}, RepL K M π H (ns.map D.int) (ns.map V.int)
  | [] => rfl
  | n :: r => ⟨.int n, r.map V.int, rfl, rfl, RepL.ints⟩
/-- a list, a dict of whatever owner, seen from above -/
def RepO (K : PySem.W.Frag) (M : Addr → Prop) (π : Pi) (H : Hp) (d : D) (v : V) : Prop := match d with
  | .lst l => ∃ a xs, v = .ref a ∧ ¬ isPl π a ∧ H a = some (.lst xs) ∧ RepL K M π H l xs
  | .dct l => ∃ a kvs, v = .ref a ∧ ¬ isPl π a ∧ Rd H a (.dK kvs) ∧ RepK K M π H l kvs
  | d => Rep K M π H d v
theorem Rep.open (hp : ∀ p, isPl π p → M p) : ∀ {d : D} {v : V}, Rep K M π H d v → RepO K M π H d v
  | .non, _, h => h
  | .bl _, _, h => h
  | .int _, _, h => h
  | .str _, _, h => h
  | .tup _, _, h => h
  | .lst _, _, ⟨a, xs, e, h, r⟩ => ⟨a, xs, e, fun z => h.1 (hp a z), h.2, r⟩
  | .dct _, _, ⟨a, xs, e, h, r⟩ => ⟨a, xs, e, fun z => h.1 (hp a z), h.2, r⟩
  | .clo _ _, _, h => h
  | .pool, _, h => h
theorem Rep.sqT {l : List D} {v : V} (h : Rep K M π H (.tup l) v) : ∃ a xs, v = .ref a ∧ SqT K H a xs ∧ RepL K M π H l xs := by
  obtain ⟨a, xs, e, h, r⟩ := h
  exact ⟨a, xs, e, h.elim (fun z => .inl z.2) .inr, r⟩
theorem same_upd {p : Addr} {o : HO} (h : H p = none) : ∀ b x, H b = some x → upd H p o b = some x := fun b x e => by
  rw [upd_ne (ne_of_none e h)]
  exact e
theorem hold_upd {N : Addr → Prop} {p : Addr} {o : HO} (h : H p = none) : Hold N H (upd H p o) := fun b x e _ => same_upd h b x e
theorem PoolAt.grow {p : Addr × Addr} {q : Addr} {o : HO} (h : PoolAt H p) (n : H q = none) : PoolAt (upd H q o) p := by
  obtain ⟨ns, i, c, k, s, e1, e2, e3, e4⟩ := h
  exact ⟨ns, i, c, k, s, same_upd n _ _ e1, same_upd n _ _ e2, e3, e4⟩
theorem PoolAt.other {p : Addr × Addr} {q : Addr} {o : HO} (h : PoolAt H p) (n1 : p.1 ≠ q) (n2 : p.2 ≠ q) : PoolAt (upd H q o) p := by
  obtain ⟨ns, i, c, k, s, e1, e2, e3, e4⟩ := h
  exact ⟨ns, i, c, k, s, by rw [upd_ne n1]; exact e1, by rw [upd_ne n2]; exact e2, e3, e4⟩
theorem Keep.new {p : Addr} {o : HO} (hp : ∀ p, π = some p → PoolAt H p) (n : H p = none) : Keep π H (upd H p o) :=
  ⟨fun a x e _ => same_upd n a x e, fun q e => (hp q e).grow n⟩
theorem Keep.refl (hp : ∀ p, π = some p → PoolAt H p) : Keep π H H := ⟨fun _ _ h _ => h, hp⟩
/-- a new object o at p, of parts that stood: a tuple -/
theorem Rep.newT {l : List D} {xs : List V} {p : Addr} (r : RepL K M π H l xs) (n : H p = none) (hm : ∀ a, M a → ∃ o, H a = some o) : Rep K M π (upd H p (.tup xs)) (.tup l) (.ref p) := by
  refine ⟨p, xs, rfl, .inl ⟨fun z => ?_, .inl upd_same⟩, RepL.hold (hold_upd n) (fun a z => .inl z) l xs r⟩
  obtain ⟨o, e⟩ := hm p z
  rw [e] at n; cases n
theorem Rep.newL {l : List D} {xs : List V} {p : Addr} (r : RepL K M π H l xs) (n : H p = none) (hm : ∀ a, M a → ∃ o, H a = some o) : Rep K M π (upd H p (.lst xs)) (.lst l) (.ref p) := by
  refine ⟨p, xs, rfl, ⟨fun z => ?_, upd_same⟩, RepL.hold (hold_upd n) (fun a z => .inl z) l xs r⟩
  obtain ⟨o, e⟩ := hm p z
  rw [e] at n; cases n

/-! ### what holds at each point -/
structure Ctx (N : Addr → Prop) (π : Pi) (H : Hp) : Prop where
  alloc : ∀ a, N a → ∃ o, H a = some o
  pool : ∀ p, π = some p → (N p.1 ∧ N p.2) ∧ PoolAt H p
theorem Ctx.keep {N : Addr → Prop} (c : Ctx N π H) (k : Keep π H H') : Ctx N π H' := by
  refine ⟨fun a h => ?_, fun p e => ⟨(c.pool p e).1, k.pool p e⟩⟩
  obtain ⟨o, q⟩ := c.alloc a h
  by_cases z : isPl π a
  · obtain ⟨l, z⟩ := z
    obtain ⟨_, _, _, _, _, q, _⟩ := k.pool _ z
    exact ⟨_, q⟩
  · exact ⟨o, k.same a o q z⟩
theorem Ctx.hp {N : Addr → Prop} (c : Ctx N π H) : ∀ p, isPl π p → N p := fun p ⟨l, e⟩ => (c.pool _ e).1.1
theorem Ctx.keepRefl {N : Addr → Prop} (c : Ctx N π H) : Keep π H H := Keep.refl fun p e => (c.pool p e).2
theorem Ctx.keepNew {N : Addr → Prop} (c : Ctx N π H) {p : Addr} {o : HO} (n : H p = none) : Keep π H (upd H p o) := Keep.new (fun p e => (c.pool p e).2) n
theorem Rep.keep (c : Ctx M π H) (k : Keep π H H') {d : D} {v : V} (r : Rep K M π H d v) : Rep K M π H' d v := Rep.hold (k.hold c.hp) (fun _ z => .inl z) d v r
theorem RepL.keep (c : Ctx M π H) (k : Keep π H H') {l : List D} {xs : List V} (r : RepL K M π H l xs) : RepL K M π H' l xs := RepL.hold (k.hold c.hp) (fun _ z => .inl z) l xs r
theorem RepK.keep (c : Ctx M π H) (k : Keep π H H') {l : List (L2.Key × D)} {xs : List (L2.Key × V)} (r : RepK K M π H l xs) : RepK K M π H' l xs := RepK.hold (k.hold c.hp) (fun _ z => .inl z) l xs r
theorem RepO.keep (c : Ctx M π H) (k : Keep π H H') : ∀ {d : D} {v : V}, RepO K M π H d v → RepO K M π H' d v
  | .non, _, h => h
  | .bl _, _, h => h
  | .int _, _, h => h
  | .str _, _, h => h
  | .tup _, _, h => Rep.keep c k (d := .tup _) h
  | .lst _, _, ⟨a, xs, e, n, h, r⟩ => ⟨a, xs, e, n, k.same a _ h n, r.keep c k⟩
  | .dct _, _, ⟨a, xs, e, n, h, r⟩ => ⟨a, xs, e, n, rd_hold (fun o q => k.same a o q n) h, r.keep c k⟩
  | .clo _ _, _, h => h
  | .pool, _, h => h
def RepOL (K : PySem.W.Frag) (M : Addr → Prop) (π : Pi) (H : Hp) : List D → List V → Prop
  | [], xs => xs = []
  | d :: r, xs => ∃ v vs, xs = v :: vs ∧ RepO K M π H d v ∧ RepOL K M π H r vs
theorem RepOL.keep (c : Ctx M π H) (k : Keep π H H') : ∀ {l : List D} {xs : List V}, RepOL K M π H l xs → RepOL K M π H' l xs
  | [], _, h => h
  | _ :: _, _, ⟨v, vs, e, h1, h2⟩ => ⟨v, vs, e, h1.keep c k, RepOL.keep c k h2⟩
/-- what a def's own lists and dicts bar too -/
def Bar (M : Addr → Prop) (own : Nat → Option Addr) (a : Addr) : Prop := M a ∨ ∃ i, own i = some a
def OwnRep (K : PySem.W.Frag) (N : Addr → Prop) (π : Pi) (H : Hp) (a : Addr) (d : D) : Prop := match d with
  | .lst l => ∃ xs, H a = some (.lst xs) ∧ RepL K N π H l xs
  | .dct l => ∃ kvs, H a = some (.dK kvs) ∧ RepK K N π H l kvs
  | _ => False
structure EnvOk (K : PySem.W.Frag) (M : Addr → Prop) (π : Pi) (O : Nat → Bool) (own : Nat → Option Addr) (σ : L2.St) (H : Hp) (ρ : Ren) : Prop where
  alloc : ∀ a, M a → ∃ o, H a = some o
  pool : ∀ p, π = some p → (M p.1 ∧ M p.2) ∧ PoolAt H p
  own1 : ∀ i a, own i = some a → O i = true ∧ (∃ o, H a = some o) ∧ ¬ M a
  inj : ∀ i j a, own i = some a → own j = some a → i = j
  len : σ.length = ρ.length
  slot : ∀ i d, ρ[i]? = some (some d) → ∃ v, σ[i]? = some (some v) ∧ (if O i = true then ∃ a, own i = some a ∧ v = .ref a ∧ OwnRep K (Bar M own) π H a d else Rep K (Bar M own) π H d v)
section
variable {O : Nat → Bool} {own : Nat → Option Addr} {σ : L2.St} {ρ : Ren}
theorem EnvOk.ctx (x : EnvOk K M π O own σ H ρ) : Ctx (Bar M own) π H :=
  ⟨fun a h => h.elim (x.alloc a) fun ⟨i, e⟩ => (x.own1 i a e).2.1, fun p e => ⟨⟨.inl (x.pool p e).1.1, .inl (x.pool p e).1.2⟩, (x.pool p e).2⟩⟩
theorem EnvOk.notpool (x : EnvOk K M π O own σ H ρ) {i : Nat} {a : Addr} (e : own i = some a) : ¬ isPl π a := fun ⟨l, z⟩ => (x.own1 i a e).2.2 (x.pool _ z).1.1
theorem OwnRep.keep {N : Addr → Prop} {a : Addr} {d : D} (c : Ctx N π H) (k : Keep π H H') (n : ¬ isPl π a) (h : OwnRep K N π H a d) : OwnRep K N π H' a d := by
  cases d with
  | lst l => obtain ⟨xs, e, r⟩ := h; exact ⟨xs, k.same _ _ e n, r.keep c k⟩
  | dct l => obtain ⟨xs, e, r⟩ := h; exact ⟨xs, k.same _ _ e n, r.keep c k⟩
  | _ => exact h
theorem EnvOk.keep (x : EnvOk K M π O own σ H ρ) (k : Keep π H H') : EnvOk K M π O own σ H' ρ := by
  have c' := x.ctx.keep k
  refine ⟨fun a h => c'.alloc a (.inl h), fun p e => ⟨(x.pool p e).1, k.pool p e⟩, fun i a e => ⟨(x.own1 i a e).1, c'.alloc a (.inr ⟨i, e⟩), (x.own1 i a e).2.2⟩, x.inj, x.len, fun i d e => ?_⟩
  obtain ⟨v, e1, h⟩ := x.slot i d e
  refine ⟨v, e1, ?_⟩
  by_cases hO : O i = true
  · rw [if_pos hO] at h ⊢
    obtain ⟨a, e2, e3, h⟩ := h
    exact ⟨a, e2, e3, h.keep x.ctx k (x.notpool e2)⟩
  · rw [if_neg hO] at h ⊢
    exact h.keep x.ctx k
end
end
end Fn
end P_FR
section P_FV
set_option maxHeartbeats 4000000
/-! The judgements over data, and their rules. -/
namespace Fn
open PySem PySem.Spec PyProof.Rows L2

abbrev Own := Nat → Option Addr
/-- a family of contexts: a def's body at any call, a comprehension's block in it .. -/
structure Fam where
  ι : Type
  X : ι → Cx
  P : Program
  w : World
  K : PySem.W.Frag
  mg : Str → Option Value
  base : Heap
  N : List Str
  k : Nat
  hP : ∀ i, (X i).prog = P
  hw : ∀ i, (X i).w = w
  hK : ∀ i, (X i).K = K
  hmg : ∀ i, (X i).mg = mg
  hbase : ∀ i, (X i).base = base
  hN : ∀ i, (X i).N = N
  calm : ∀ i, (X i).calm = true
  room : ∀ i, Room k (X i).A
theorem Fam.units (F : Fam) (i : F.ι) : (F.X i).A.units + 65 < cLine := by
  have := (F.room i).un
  omega
section
variable (K : PySem.W.Frag) (O : Nat → Bool)
def SemE (t : TE) (f : FE) : Prop := ∀ M π (own : Own) (σ : L2.St) H ρ (R : DK) (Q : VK), EnvOk K M π O own σ H ρ → f ρ R → (∀ d v H', Keep π H H' → Rep K (Bar M own) π H' d v → R d → Q v H') → t σ H Q
def SemR (t : TE) (f : FE) : Prop := ∀ M π (own : Own) (σ : L2.St) H ρ (R : DK) (Q : VK), EnvOk K M π O own σ H ρ → f ρ R → (∀ d v H', Keep π H H' → RepO K (Bar M own) π H' d v → R d → Q v H') → t σ H Q
def SemF (t : TE) (f : FE) : Prop := ∀ M π (own : Own) (σ : L2.St) H ρ (R : DK) (Q : VK), EnvOk K M π O own σ H ρ → f ρ R → (∀ d a H', Keep π H H' → H a = none → OwnRep K (fun b => Bar M own b ∨ b = a) π H' a d → R d → Q (.ref a) H') → t σ H Q
def SemT (t : TT) (f : FT) : Prop := ∀ M π (own : Own) (σ : L2.St) H ρ (R : Bool → Prop) (Q : Bool → Hp → Prop), EnvOk K M π O own σ H ρ → f ρ R → (∀ b H', Keep π H H' → R b → Q b H') → t σ H Q
def SemA (t : TA) (f : FA) : Prop := ∀ M π (own : Own) (σ : L2.St) H ρ (R : List D → Prop) (Q : List V → Hp → Prop), EnvOk K M π O own σ H ρ → f ρ R → (∀ l xs H', Keep π H H' → RepL K (Bar M own) π H' l xs → R l → Q xs H') → t σ H Q
def SemRA (t : TA) (f : FA) : Prop := ∀ M π (own : Own) (σ : L2.St) H ρ (R : List D → Prop) (Q : List V → Hp → Prop), EnvOk K M π O own σ H ρ → f ρ R → (∀ l xs H', Keep π H H' → RepOL K (Bar M own) π H' l xs → R l → Q xs H') → t σ H Q
end
section
variable (F : Fam) (O : Nat → Bool)
def VE (e : Expr) (f : FE) : Prop := ∃ t : TE, (∀ i, PE (F.X i) e t) ∧ SemE F.K O t f
/-- read only: one's own lists too -/
def VR (e : Expr) (f : FE) : Prop := ∃ t : TE, (∀ i, PE (F.X i) e t) ∧ SemR F.K O t f
/-- a list or dict that nobody else has yet -/
def VF (e : Expr) (f : FE) : Prop := ∃ t : TE, (∀ i, PE (F.X i) e t) ∧ SemF F.K O t f
def VT (e : Expr) (f : FT) : Prop := ∃ t : TT, (∀ i, PT (F.X i) e t) ∧ SemT F.K O t f
def VW (e : Expr) (f : FT) : Prop := ∃ t : TT, (∀ i, PW (F.X i) e t) ∧ SemT F.K O t f
def VTs (es : List Expr) (f : FT) : Prop := ∃ t : TT, (∀ i, PTs (F.X i) es t) ∧ SemT F.K O t f
def VA (es : List Expr) (f : FA) : Prop := ∃ t : TA, (∀ i, PA (F.X i) es t) ∧ SemA F.K O t f
def VRA (es : List Expr) (f : FA) : Prop := ∃ t : TA, (∀ i, PA (F.X i) es t) ∧ SemRA F.K O t f
def OpD (f : Value → Value → Sem Value) (g : G2) : Prop := ∃ r : R2, (∀ i, OpR (F.X i) f r) ∧ ∀ N π H x y a b (R : DK) (Q : VK), Ctx N π H → RepO F.K N π H x a → RepO F.K N π H y b → g x y R → (∀ d v H', Keep π H H' → Rep F.K N π H' d v → R d → Q v H') → r a b H Q
def UnD (f : Value → Sem Value) (g : G1) : Prop := ∃ r : V → Hp → VK → Prop, (∀ i, UnR (F.X i) f r) ∧ ∀ N π H x a (R : DK) (Q : VK), Ctx N π H → RepO F.K N π H x a → g x R → (∀ d v H', Keep π H H' → Rep F.K N π H' d v → R d → Q v H') → r a H Q
def CallD (f : Value) (g : GA) : Prop := ∃ r : List V → Hp → VK → Prop, (∀ i, CallR (F.X i) f r) ∧ ∀ N π H l xs (R : DK) (Q : VK), Ctx N π H → RepOL F.K N π H l xs → g l R → (∀ d v H', Keep π H H' → Rep F.K N π H' d v → R d → Q v H') → r xs H Q
def IxD (g : G2) : Prop := ∃ r : R2, (∀ i, IxR (F.X i) r) ∧ ∀ N π H x y a b (R : DK) (Q : VK), Ctx N π H → RepO F.K N π H x a → RepO F.K N π H y b → g x y R → (∀ d v H', Keep π H H' → Rep F.K N π H' d v → R d → Q v H') → r a b H Q
/-- what a target stores, into the slots S -/
def VG (tg : Expr) (S : List Nat) (G : FG) : Prop := ∃ t : TG, (∀ i, PG (F.X i) tg t) ∧ ∀ M π (own : Own) (σ : L2.St) H ρ d v (R : Ren → Prop) (Q : L2.St → Hp → Prop), EnvOk F.K M π O own σ H ρ → Rep F.K (Bar M own) π H d v → G d ρ R →
  (∀ σ' ρ', EnvOk F.K M π O own σ' H ρ' → (∀ vs, (∀ i ∈ S, i ∈ vs) → L2.wipe σ' vs = L2.wipe σ vs) → R ρ' → Q σ' H) → t v σ H Q
def VGs (tgs : List Expr) (S : List Nat) (G : FGs) : Prop := ∃ t : TGs, (∀ i, PGs (F.X i) tgs t) ∧ ∀ M π (own : Own) (σ : L2.St) H ρ l xs (R : Ren → Prop) (Q : L2.St → Hp → Prop), EnvOk F.K M π O own σ H ρ → RepL F.K (Bar M own) π H l xs → G l ρ R →
  (∀ σ' ρ', EnvOk F.K M π O own σ' H ρ' → (∀ vs, (∀ i ∈ S, i ∈ vs) → L2.wipe σ' vs = L2.wipe σ vs) → R ρ' → Q σ' H) → t xs σ H Q
end
/-- a walk over data: C may change, N is barred -/
def WalkD (K : PySem.W.Frag) (C N : Addr → Prop) (π : Pi) (H1 : Hp) (l : List D) (J : It) : Prop :=
  ∃ (G : Hp → Prop) (Y : Nat → Hp → V → Hp → Prop), Walk J l.length G Y ∧ (∀ H, Hold C H1 H → G H) ∧ ∀ i H x H', i < l.length → Hold C H1 H → (∀ p, π = some p → PoolAt H p) → Y i H x H' →
    Keep π H H' ∧ ∃ d, l[i]? = some d ∧ ∀ N' : Addr → Prop, (∀ a, N' a → (N a ∨ H1 a = none) ∧ ∃ o, H a = some o) → Rep K N' π H' d x
section
variable (F : Fam) (O : Nat → Bool)
def VI (tg it : Expr) (f : FI) : Prop := ∃ w : TI, (∀ i, PI (F.X i) tg it w) ∧ ∀ M π (own : Own) (σ : L2.St) H ρ (R : List D → Prop) (Q : It → Hp → Prop), EnvOk F.K M π O own σ H ρ → f ρ R → (∀ l J H1, Keep π H H1 → WalkD F.K (Bar M own) (Bar M own) π H1 l J → R l → Q J H1) → w σ H Q
def VIR (tg it : Expr) (f : FI) : Prop := ∃ w : TI, (∀ i, PI (F.X i) tg it w) ∧ ∀ M π (own : Own) (σ : L2.St) H ρ (R : List D → Prop) (Q : It → Hp → Prop), EnvOk F.K M π O own σ H ρ → f ρ R → (∀ l J H1, Keep π H H1 → WalkD F.K (isPl π) (Bar M own) π H1 l J → R l → Q J H1) → w σ H Q
end
/-- all but B and the pool is as it was at H0 -/
structure KeepB (π : Pi) (B : Addr → Prop) (H0 H : Hp) : Prop where
  keep : ∀ a o, H0 a = some o → ¬ B a → ¬ isPl π a → H a = some o
  pool : ∀ p, π = some p → PoolAt H p
/-- since H0 (a def's entry, a loop's start): what stood stands, but for B, the own lists of then; own lists are of these or new -/
structure Fr0 (M : Addr → Prop) (π : Pi) (H0 : Hp) (B : Addr → Prop) (own : Own) (H : Hp) : Prop where
  kb : KeepB π B H0 H
  newo : ∀ i a, own i = some a → B a ∨ H0 a = none
  old : ∀ a, M a → ∃ o, H0 a = some o
structure EndsOk (K : PySem.W.Frag) (M : Addr → Prop) (π : Pi) (H0 : Hp) (B : Addr → Prop) (O : Nat → Bool) (P : Po) (D : Ends) : Prop where
  nx : ∀ (own : Own) (σ : L2.St) H ρ, EnvOk K M π O own σ H ρ → Fr0 M π H0 B own H → P.nx ρ → D.nx σ H
  rt : ∀ d v H, KeepB π B H0 H → Rep K M π H d v → P.rt d → D.rt v H
  bk : ∀ (own : Own) (σ : L2.St) H ρ, EnvOk K M π O own σ H ρ → Fr0 M π H0 B own H → P.bk ρ → D.bk σ H
  ct : ∀ (own : Own) (σ : L2.St) H ρ, EnvOk K M π O own σ H ρ → Fr0 M π H0 B own H → P.ct ρ → D.ct σ H
section
variable (F : Fam) (O : Nat → Bool)
def SemS (K : PySem.W.Frag) (t : TS) (f : FS) : Prop := ∀ M π H0 B (own : Own) (σ : L2.St) H ρ (P : Po) (D : Ends), EnvOk K M π O own σ H ρ → Fr0 M π H0 B own H → f P ρ → EndsOk K M π H0 B O P D → t D σ H
def VS (st : Stmt) (f : FS) : Prop := ∃ t : TS, (∀ i, PS (F.X i) st t) ∧ SemS O F.K t f
def VSs (sts : List Stmt) (f : FS) : Prop := ∃ t : TS, (∀ i, PSs (F.X i) sts t) ∧ SemS O F.K t f
end

section
variable {F : Fam} {O : Nat → Bool} {e a b : Expr} {es : List Expr} {f fa fb : FE} {pos : Pos}
theorem KeepB.step {π : Pi} {B : Addr → Prop} {H0 H H' : Hp} (x : KeepB π B H0 H) (k : Keep π H H') : KeepB π B H0 H' := ⟨fun a o h n z => k.same a o (x.keep a o h n z) z, k.pool⟩
theorem Fr0.step {M : Addr → Prop} {π : Pi} {H0 H H' : Hp} {B : Addr → Prop} {own : Own} (x : Fr0 M π H0 B own H) (k : Keep π H H') : Fr0 M π H0 B own H' := ⟨x.kb.step k, x.newo, x.old⟩
theorem Keep.none {π : Pi} {H H' : Hp} (k : Keep π H H') (hp : ∀ p, isPl π p → ∃ o, H p = some o) {a : Addr} (n : H' a = none) : H a = none := by
  cases q : H a with
  | none => rfl
  | some o =>
    by_cases z : isPl π a
    · obtain ⟨l, z⟩ := z
      obtain ⟨_, _, _, _, _, q, _⟩ := k.pool _ z
      rw [q] at n; cases n
    · rw [k.same a o q z] at n; cases n
theorem Ctx.noneOf {N : Addr → Prop} {π : Pi} {H H' : Hp} (c : Ctx N π H) (k : Keep π H H') {a : Addr} (n : H' a = none) : H a = none :=
  k.none (fun p e => c.alloc p (c.hp p e)) n

/-! ### expressions -/
theorem VE.toR (h : VE F O e f) : VR F O e f := by
  obtain ⟨t, p, g⟩ := h
  refine ⟨t, p, fun M π own σ H ρ R Q x hf hq => g M π own σ H ρ R Q x hf fun d v H' k r => hq d v H' k (r.open (x.ctx.keep k).hp)⟩
theorem ve_var (i : Nat) {x : Str} (h : ∀ j, PE (F.X j) (.Name x pos) (tVar i)) (hO : O i = false) : VE F O (.Name x pos) (eVar i) := by
  refine ⟨_, h, fun M π own σ H ρ R Q x hf hq => ?_⟩
  unfold eVar at hf
  split at hf
  · rename_i d e
    obtain ⟨v, e1, h1⟩ := x.slot i d e
    rw [if_neg (by rw [hO]; decide)] at h1
    exact ⟨v, e1, hq d v H x.ctx.keepRefl h1 hf⟩
  · exact hf.elim
theorem vr_var (i : Nat) {x : Str} (h : ∀ j, PE (F.X j) (.Name x pos) (tVar i)) : VR F O (.Name x pos) (eVar i) := by
  refine ⟨_, h, fun M π own σ H ρ R Q x hf hq => ?_⟩
  unfold eVar at hf
  split at hf
  · rename_i d e
    obtain ⟨v, e1, h1⟩ := x.slot i d e
    refine ⟨v, e1, hq d v H x.ctx.keepRefl ?_ hf⟩
    by_cases hO : O i = true
    · rw [if_pos hO] at h1
      obtain ⟨a, e2, e3, h1⟩ := h1
      subst e3
      cases d with
      | lst l => obtain ⟨xs, q, r⟩ := h1; exact ⟨a, xs, rfl, x.notpool e2, q, r⟩
      | dct l => obtain ⟨xs, q, r⟩ := h1; exact ⟨a, xs, rfl, x.notpool e2, .inl q, r⟩
      | _ => exact h1.elim
    · rw [if_neg hO] at h1
      exact h1.open x.ctx.hp
  · exact hf.elim
theorem ve_c {d : D} {v : V} (h : ∀ j, PE (F.X j) e (tC v)) (r : ∀ N π H, Rep F.K N π H d v) : VE F O e (eC d) :=
  ⟨_, h, fun M π own σ H ρ R Q x hf hq => hq d v H x.ctx.keepRefl (r _ _ _) hf⟩
theorem ve_int {i j} : VE F O (.Constant (.int i) j pos) (eC (.int i)) := ve_c (fun _ => pe_int) fun _ _ _ => rfl
theorem ve_bl {b j} : VE F O (.Constant (.bool b) j pos) (eC (.bl b)) := ve_c (fun _ => pe_bl) fun _ _ _ => rfl
theorem ve_non {j} : VE F O (.Constant .none j pos) (eC .non) := ve_c (fun _ => pe_non) fun _ _ _ => rfl
theorem ve_str {x j} : VE F O (.Constant (.str x) j pos) (eC (.str x)) := ve_c (fun _ => pe_str) fun _ _ _ => rfl
theorem ve_bin {op : Operator} {g : G2} (ho : OpD F (binaryOp op) g) (ha : VR F O a fa) (hb : VR F O b fb) : VE F O (.BinOp a op b pos) (eBin g fa fb) := by
  obtain ⟨r, hr, gr⟩ := ho
  obtain ⟨ta, pa, ga⟩ := ha
  obtain ⟨tb, pb, gb⟩ := hb
  refine ⟨_, fun i => pe_op (hr i) (pa i) (pb i), fun M π own σ H ρ R Q x hf hq => ?_⟩
  refine ga M π own σ H ρ _ _ x hf fun d v H1 k1 r1 h1 => ?_
  have x1 := x.keep k1
  refine gb M π own σ H1 ρ _ _ x1 h1 fun d2 v2 H2 k2 r2 h2 => ?_
  exact gr _ π H2 d d2 v v2 _ _ (x1.keep k2).ctx (r1.keep x1.ctx k2) r2 h2 fun d3 v3 H3 k3 => hq d3 v3 H3 ((k1.trans k2).trans k3)
theorem ve_un {op : UnaryOp} {g : G1} (ho : UnD F (unaryOp op) g) (ha : VR F O a fa) : VE F O (.UnaryOp op a pos) (eUn g fa) := by
  obtain ⟨r, hr, gr⟩ := ho
  obtain ⟨ta, pa, ga⟩ := ha
  refine ⟨_, fun i => pe_un (hr i) (pa i), fun M π own σ H ρ R Q x hf hq => ?_⟩
  refine ga M π own σ H ρ _ _ x hf fun d v H1 k1 r1 h1 => ?_
  exact gr _ π H1 d v _ _ (x.keep k1).ctx r1 h1 fun d3 v3 H3 k3 => hq d3 v3 H3 (k1.trans k3)
theorem ve_cmp {op : CmpOp} {g : G2} (ho : OpD F (compareOp op) g) (ha : VR F O a fa) (hb : VR F O b fb) (hm : behindInMarks op b = false) : VE F O (.Compare a [op] [b] pos) (eBin g fa fb) := by
  obtain ⟨r, hr, gr⟩ := ho
  obtain ⟨ta, pa, ga⟩ := ha
  obtain ⟨tb, pb, gb⟩ := hb
  refine ⟨_, fun i => pe_cmpR (hr i) (pa i) (pb i) hm, fun M π own σ H ρ R Q x hf hq => ?_⟩
  refine ga M π own σ H ρ _ _ x hf fun d v H1 k1 r1 h1 => ?_
  have x1 := x.keep k1
  refine gb M π own σ H1 ρ _ _ x1 h1 fun d2 v2 H2 k2 r2 h2 => ?_
  exact gr _ π H2 d d2 v v2 _ _ (x1.keep k2).ctx (r1.keep x1.ctx k2) r2 h2 fun d3 v3 H3 k3 => hq d3 v3 H3 ((k1.trans k2).trans k3)
theorem vt_cmp {op : CmpOp} {g : G2} (ho : OpD F (compareOp op) g) (ha : VR F O a fa) (hb : VR F O b fb) (hm : behindInMarks op b = false) : VT F O (.Compare a [op] [b] pos) (tVal (eBin g fa fb)) := by
  obtain ⟨r, hr, gr⟩ := ho
  obtain ⟨ta, pa, ga⟩ := ha
  obtain ⟨tb, pb, gb⟩ := hb
  refine ⟨_, fun i => pt_cmpR (hr i) (pa i) (pb i) hm, fun M π own σ H ρ R Q x hf hq => ?_⟩
  refine ga M π own σ H ρ _ _ x hf fun d v H1 k1 r1 h1 => ?_
  have x1 := x.keep k1
  refine gb M π own σ H1 ρ _ _ x1 h1 fun d2 v2 H2 k2 r2 h2 => ?_
  refine gr _ π H2 d d2 v v2 _ _ (x1.keep k2).ctx (r1.keep x1.ctx k2) r2 h2 fun d3 v3 H3 k3 r3 h3 => ?_
  cases d3 with
  | bl c => exact ⟨c, r3, hq c H3 ((k1.trans k2).trans k3) h3⟩
  | _ => exact h3.elim
theorem vt_val (ha : VE F O e f) (he : ∀ i whole, isTrue e (F.X i).env whole = (do let v ← whole; standAt e.pos; holding [v] (truthy v)) := by intro _ _; rfl) : VT F O e (tVal f) := by
  obtain ⟨t, p, g⟩ := ha
  refine ⟨_, fun i => pt_val (p i) (he i), fun M π own σ H ρ R Q x hf hq => ?_⟩
  refine g M π own σ H ρ _ _ x hf fun d v H1 k1 r1 h1 => ?_
  cases d with
  | bl c => exact ⟨c, r1, hq c H1 k1 h1⟩
  | _ => exact h1.elim
theorem VW.toT {t : FT} (h : VW F O e t) : VT F O e t := by
  obtain ⟨t, p, g⟩ := h
  exact ⟨t, fun i => (p i).pt, g⟩
variable {tA tB' : FT} {rest : List Expr}
theorem vw_and1 (ha : VT F O a tA) : VW F O (.BoolOp .And [a] pos) tA := by
  obtain ⟨t, p, g⟩ := ha
  exact ⟨_, fun i => pw_and1 (p i), g⟩
theorem vw_or1 (ha : VT F O a tA) : VW F O (.BoolOp .Or [a] pos) tA := by
  obtain ⟨t, p, g⟩ := ha
  exact ⟨_, fun i => pw_or1 (p i), g⟩
theorem vw_and (ha : VT F O a tA) (hb : VW F O (.BoolOp .And (b :: rest) pos) tB') : VW F O (.BoolOp .And (a :: b :: rest) pos) (Fn.tAnd tA tB') := by
  obtain ⟨t, p, g⟩ := ha
  obtain ⟨u, q, g'⟩ := hb
  refine ⟨_, fun i => pw_and (p i) (q i), fun M π own σ H ρ R Q x hf hq => ?_⟩
  refine g M π own σ H ρ _ _ x hf fun c H1 k1 h1 => ?_
  cases c with
  | true => exact g' M π own σ H1 ρ R Q (x.keep k1) h1 fun b H2 k2 => hq b H2 (k1.trans k2)
  | false => exact hq false H1 k1 h1
theorem vw_or (ha : VT F O a tA) (hb : VW F O (.BoolOp .Or (b :: rest) pos) tB') : VW F O (.BoolOp .Or (a :: b :: rest) pos) (Fn.tOr tA tB') := by
  obtain ⟨t, p, g⟩ := ha
  obtain ⟨u, q, g'⟩ := hb
  refine ⟨_, fun i => pw_or (p i) (q i), fun M π own σ H ρ R Q x hf hq => ?_⟩
  refine g M π own σ H ρ _ _ x hf fun c H1 k1 h1 => ?_
  cases c with
  | false => exact g' M π own σ H1 ρ R Q (x.keep k1) h1 fun b H2 k2 => hq b H2 (k1.trans k2)
  | true => exact hq true H1 k1 h1
theorem vt_not (ha : VT F O a tA) : VT F O (.UnaryOp .Not a pos) (Fn.tNot tA) := by
  obtain ⟨t, p, g⟩ := ha
  refine ⟨_, fun i => pt_not (p i), fun M π own σ H ρ R Q x hf hq => ?_⟩
  exact g M π own σ H ρ _ _ x hf fun c H1 k1 h1 => hq (!c) H1 k1 h1
/-! as values: each part a bool -/
theorem ve_one {op} (h : VE F O a f) : VE F O (.BoolOp op [a] pos) f := by
  obtain ⟨t, p, g⟩ := h
  exact ⟨_, fun i => pe_one (p i), g⟩
/-- and, or, not as values of bools -/
def eAnd (a b : FE) : FE := fun ρ R => a ρ fun x => match x with
  | .bl c => if c = true then b ρ R else R (.bl false)
  | _ => False
def eOr (a b : FE) : FE := fun ρ R => a ρ fun x => match x with
  | .bl c => if c = true then R (.bl true) else b ρ R
  | _ => False
def eNot (a : FE) : FE := fun ρ R => a ρ fun x => match x with
  | .bl c => R (.bl (!c))
  | _ => False
theorem ve_and (ha : VE F O a fa) (hb : VE F O (.BoolOp .And (b :: rest) pos) fb) : VE F O (.BoolOp .And (a :: b :: rest) pos) (eAnd fa fb) := by
  obtain ⟨t, p, g⟩ := ha
  obtain ⟨u, q, g'⟩ := hb
  refine ⟨_, fun i => pe_and (p i) (q i), fun M π own σ H ρ R Q x hf hq => ?_⟩
  refine g M π own σ H ρ _ _ x hf fun d v H1 k1 r1 h1 => ?_
  cases d with
  | bl c =>
    refine ⟨c, r1, ?_⟩
    cases c with
    | true => exact g' M π own σ H1 ρ R Q (x.keep k1) h1 fun b v H2 k2 => hq b v H2 (k1.trans k2)
    | false => exact hq (.bl false) _ H1 k1 rfl h1
  | _ => exact h1.elim
theorem ve_or (ha : VE F O a fa) (hb : VE F O (.BoolOp .Or (b :: rest) pos) fb) : VE F O (.BoolOp .Or (a :: b :: rest) pos) (eOr fa fb) := by
  obtain ⟨t, p, g⟩ := ha
  obtain ⟨u, q, g'⟩ := hb
  refine ⟨_, fun i => pe_or (p i) (q i), fun M π own σ H ρ R Q x hf hq => ?_⟩
  refine g M π own σ H ρ _ _ x hf fun d v H1 k1 r1 h1 => ?_
  cases d with
  | bl c =>
    refine ⟨c, r1, ?_⟩
    cases c with
    | false => exact g' M π own σ H1 ρ R Q (x.keep k1) h1 fun b v H2 k2 => hq b v H2 (k1.trans k2)
    | true => exact hq (.bl true) _ H1 k1 rfl h1
  | _ => exact h1.elim
theorem ve_not (ha : VE F O a fa) : VE F O (.UnaryOp .Not a pos) (eNot fa) := by
  obtain ⟨t, p, g⟩ := ha
  refine ⟨_, fun i => pe_not (p i), fun M π own σ H ρ R Q x hf hq => ?_⟩
  refine g M π own σ H ρ _ _ x hf fun d v H1 k1 r1 h1 => ?_
  cases d with
  | bl c => exact ⟨c, r1, hq (.bl (!c)) _ H1 k1 rfl h1⟩
  | _ => exact h1.elim
theorem ve_if {c : Expr} (hc : VT F O c tA) (ha : VE F O a fa) (hb : VE F O b fb) : VE F O (.IfExp c a b pos) (eIf tA fa fb) := by
  obtain ⟨t, p, g⟩ := hc
  obtain ⟨ta, pa, ga⟩ := ha
  obtain ⟨tb, pb, gb⟩ := hb
  refine ⟨_, fun i => pe_ifExp (p i) (pa i) (pb i), fun M π own σ H ρ R Q x hf hq => ?_⟩
  refine g M π own σ H ρ _ _ x hf fun c H1 k1 h1 => ?_
  cases c with
  | true => exact ga M π own σ H1 ρ R Q (x.keep k1) h1 fun b v H2 k2 => hq b v H2 (k1.trans k2)
  | false => exact gb M π own σ H1 ρ R Q (x.keep k1) h1 fun b v H2 k2 => hq b v H2 (k1.trans k2)
/-! ### argument lists -/
theorem va_nil : VA F O [] aNil := ⟨_, fun _ => pa_nil, fun M π own σ H ρ R Q x hf hq => hq [] [] H x.ctx.keepRefl rfl hf⟩
theorem va_cons {fr : FA} (ha : VE F O e f) (hr : VA F O es fr) (hs : ∀ i, starEach (e :: es) (F.X i).env = (false, eval e (F.X i).env) :: starEach es (F.X i).env := by intro _; rfl) : VA F O (e :: es) (aCons f fr) := by
  obtain ⟨ta, pa, ga⟩ := ha
  obtain ⟨tr, pr, gr⟩ := hr
  refine ⟨_, fun i => pa_cons (pa i) (pr i) (hs i), fun M π own σ H ρ R Q x hf hq => ?_⟩
  refine ga M π own σ H ρ _ _ x hf fun d v H1 k1 r1 h1 => ?_
  have x1 := x.keep k1
  exact gr M π own σ H1 ρ _ _ x1 h1 fun l xs H2 k2 r2 h2 => hq (d :: l) (v :: xs) H2 (k1.trans k2) ⟨v, xs, rfl, r1.keep x1.ctx k2, r2⟩ h2
theorem vra_nil : VRA F O [] aNil := ⟨_, fun _ => pa_nil, fun M π own σ H ρ R Q x hf hq => hq [] [] H x.ctx.keepRefl rfl hf⟩
theorem vra_cons {fr : FA} (ha : VR F O e f) (hr : VRA F O es fr) (hs : ∀ i, starEach (e :: es) (F.X i).env = (false, eval e (F.X i).env) :: starEach es (F.X i).env := by intro _; rfl) : VRA F O (e :: es) (aCons f fr) := by
  obtain ⟨ta, pa, ga⟩ := ha
  obtain ⟨tr, pr, gr⟩ := hr
  refine ⟨_, fun i => pa_cons (pa i) (pr i) (hs i), fun M π own σ H ρ R Q x hf hq => ?_⟩
  refine ga M π own σ H ρ _ _ x hf fun d v H1 k1 r1 h1 => ?_
  have x1 := x.keep k1
  exact gr M π own σ H1 ρ _ _ x1 h1 fun l xs H2 k2 r2 h2 => hq (d :: l) (v :: xs) H2 (k1.trans k2) ⟨v, xs, rfl, r1.keep x1.ctx k2, r2⟩ h2
theorem ve_tup {x1} {fl : FA} (h : VA F O es fl) : VE F O (.Tuple es x1 pos) (Fn.eTup fl) := by
  obtain ⟨t, p, g⟩ := h
  refine ⟨_, fun i => pe_tup (p i), fun M π own σ H ρ R Q x hf hq => ?_⟩
  refine g M π own σ H ρ _ _ x hf fun l xs H1 k1 r1 h1 => ?_
  refine ⟨by rw [r1.length, sizeLine_eq]; exact h1.1, fun p np => hq _ _ _ (k1.trans ((x.keep k1).ctx.keepNew np)) (Rep.newT r1 np (x.keep k1).ctx.alloc) h1.2⟩
theorem ve_lst {fl : FA} (h : VA F O es fl) : VE F O (.List es pos) (Fn.eLst fl) := by
  obtain ⟨t, p, g⟩ := h
  refine ⟨_, fun i => pe_lst (p i), fun M π own σ H ρ R Q x hf hq => ?_⟩
  refine g M π own σ H ρ _ _ x hf fun l xs H1 k1 r1 h1 => ?_
  refine ⟨by rw [r1.length, sizeLine_eq]; exact h1.1, fun p np => hq _ _ _ (k1.trans ((x.keep k1).ctx.keepNew np)) (Rep.newL r1 np (x.keep k1).ctx.alloc) h1.2⟩
/-- a new list is new -/
theorem vf_lst {fl : FA} (h : VA F O es fl) : VF F O (.List es pos) (Fn.eLst fl) := by
  obtain ⟨t, p, g⟩ := h
  refine ⟨_, fun i => pe_lst (p i), fun M π own σ H ρ R Q x hf hq => ?_⟩
  refine g M π own σ H ρ _ _ x hf fun l xs H1 k1 r1 h1 => ?_
  refine ⟨by rw [r1.length, sizeLine_eq]; exact h1.1, fun p np => hq (.lst l) _ _ (k1.trans ((x.keep k1).ctx.keepNew np)) (x.ctx.noneOf k1 np) ⟨xs, upd_same, ?_⟩ h1.2⟩
  exact RepL.hold (hold_upd np) (fun a z => z.elim .inl fun e => .inr (e ▸ np)) l xs r1
end
end Fn
end P_FV
section P_FO
set_option maxHeartbeats 4000000
/-! Operators, subscripts, slices, built-in functions over data. -/
namespace Fn
open PySem PySem.Spec PyProof.Rows L2
section
variable {X : Cx} {F : Fam} {O : Nat → Bool} {e a b : Expr} {es : List Expr} {f fa fb : FE} {pos : Pos}
theorem RepO.tup {K : PySem.W.Frag} {N : Addr → Prop} {π : Pi} {H : Hp} {l : List D} {v : V} (h : RepO K N π H (.tup l) v) : ∃ a xs, v = .ref a ∧ SqT K H a xs ∧ RepL K N π H l xs := Rep.sqT h
theorem RepO.repT {K : PySem.W.Frag} {N : Addr → Prop} {π : Pi} {H : Hp} {l : List D} {v : V} (h : RepO K N π H (.tup l) v) : Rep K N π H (.tup l) v := h
theorem RepO.lst {K : PySem.W.Frag} {N : Addr → Prop} {π : Pi} {H : Hp} {l : List D} {v : V} (h : RepO K N π H (.lst l) v) : ∃ a xs, v = .ref a ∧ H a = some (.lst xs) ∧ RepL K N π H l xs := by
  obtain ⟨a, xs, e, _, q, r⟩ := h
  exact ⟨a, xs, e, q, r⟩
theorem repL_len {K : PySem.W.Frag} {N : Addr → Prop} {π : Pi} {H : Hp} {l : List D} {xs : List V} (h : RepL K N π H l xs) : xs.length = l.length := h.length
theorem repL_nil {K : PySem.W.Frag} {N : Addr → Prop} {π : Pi} {H : Hp} {l : List D} {xs : List V} (h : RepL K N π H l xs) : xs = [] ↔ l = [] := by
  have := h.length
  constructor
  · intro e; subst e; exact List.length_eq_zero_iff.mp this.symm
  · intro e; subst e; exact List.length_eq_zero_iff.mp this
theorem od_add : OpD F (binaryOp .Add) bAdd := by
  refine ⟨_, fun i => (op_add.or op_add_str).or ((by rw [← F.hK i]; exact op_catA : OpR (F.X i) (binaryOp .Add) (rCatA F.K)).or op_cat), fun N π H x y v u R Q c rx ry h hq => ?_⟩
  cases x with
  | int i => cases y with
    | int j => exact .inl (.inl ⟨i, j, rx, ry, hq (.int (i + j)) _ H c.keepRefl rfl h⟩)
    | _ => exact h.elim
  | str i => cases y with
    | str j => exact .inl (.inr ⟨i, j, rx, ry, by rw [sizeLine_eq]; exact h.1, hq (.str (i ++ j)) _ H c.keepRefl rfl h.2⟩)
    | _ => exact h.elim
  | tup l => cases y with
    | tup m =>
      have rx' := rx.repT
      have ry' := ry.repT
      obtain ⟨a, xs, e1, s1, r1⟩ := rx.tup
      obtain ⟨b, ys, e2, s2, r2⟩ := ry.tup
      refine .inr (.inl ⟨a, b, xs, ys, e1, e2, s1, s2, by rw [r1.length, r2.length, sizeLine_eq]; exact h.1, fun z => ?_, fun _ z => ?_, fun _ _ p np => ?_⟩)
      · have : l = [] := (repL_nil r1).mp z
        subst this
        rw [← e2]
        exact hq (.tup m) _ H c.keepRefl ry' h.2
      · have : m = [] := (repL_nil r2).mp z
        subst this
        rw [← e1]
        exact hq (.tup l) _ H c.keepRefl rx' (by have := h.2; rwa [List.append_nil] at this)
      · exact hq (.tup (l ++ m)) _ _ (c.keepNew np) (Rep.newT (r1.append r2) np c.alloc) h.2
    | _ => exact h.elim
  | lst l => cases y with
    | lst m =>
      obtain ⟨a, xs, e1, s1, r1⟩ := rx.lst
      obtain ⟨b, ys, e2, s2, r2⟩ := ry.lst
      exact .inr (.inr ⟨a, b, xs, ys, e1, e2, s1, s2, by rw [r1.length, r2.length, sizeLine_eq]; exact h.1, fun p np => hq (.lst (l ++ m)) _ _ (c.keepNew np) (Rep.newL (r1.append r2) np c.alloc) h.2⟩)
    | _ => exact h.elim
  | _ => exact h.elim
theorem od_sub : OpD F (binaryOp .Sub) bSub := by
  refine ⟨_, fun _ => op_sub, fun N π H x y v u R Q c rx ry h hq => ?_⟩
  cases x with
  | int i => cases y with
    | int j => exact ⟨i, j, rx, ry, hq (.int (i - j)) _ H c.keepRefl rfl h⟩
    | _ => exact h.elim
  | _ => exact h.elim
/-- the products that are served: of ints -/
def bMulI : G2 := fun x y R => match x, y with
  | .int i, .int j => ((-(2 ^ 64) < i ∧ i < 2 ^ 64) ∨ (-(2 ^ 64) < j ∧ j < 2 ^ 64)) ∧ R (.int (i * j))
  | _, _ => False
theorem od_mul : OpD F (binaryOp .Mult) bMulI := by
  refine ⟨_, fun _ => op_mul, fun N π H x y v u R Q c rx ry h hq => ?_⟩
  cases x with
  | int i => cases y with
    | int j => exact ⟨i, j, rx, ry, h.1, hq (.int (i * j)) _ H c.keepRefl rfl h.2⟩
    | _ => exact h.elim
  | _ => exact h.elim
theorem od_mod : OpD F (binaryOp .Mod) bMod := by
  refine ⟨_, fun _ => L2.op_mod, fun N π H x y v u R Q c rx ry h hq => ?_⟩
  cases x with
  | int i => cases y with
    | int j => exact ⟨i, j, rx, ry, h.1, hq (.int (i % j)) _ H c.keepRefl rfl h.2⟩
    | _ => exact h.elim
  | _ => exact h.elim
theorem od_pow : OpD F (binaryOp .Pow) bPow := by
  refine ⟨_, fun _ => L2.op_pow, fun N π H x y v u R Q c rx ry h hq => ?_⟩
  cases x with
  | int i => cases y with
    | int j => exact ⟨i, j, rx, ry, h.1, hq (.int (i ^ j.toNat)) _ H c.keepRefl rfl h.2⟩
    | _ => exact h.elim
  | _ => exact h.elim
theorem ud_neg : UnD F (unaryOp .USub) uNeg := by
  refine ⟨_, fun _ => un_neg, fun N π H x v R Q c rx h hq => ?_⟩
  cases x with
  | int i => exact ⟨i, rx, hq (.int (-i)) _ H c.keepRefl rfl h⟩
  | _ => exact h.elim
/-! ### == and in -/
mutual
theorem rep_dp {K : PySem.W.Frag} {N : Addr → Prop} {π : Pi} {H : Hp} : ∀ (d : D) (v : V), d.dat = true → Rep K N π H d v → Dp K H v d.py
  | .non, _, _, h => by cases h; exact .non
  | .bl b, _, _, h => by cases h; exact .bl b
  | .int i, _, _, h => by cases h; exact .int i
  | .str x, _, _, h => by cases h; exact .str x
  | .tup l, _, hd, h => by
    obtain ⟨a, xs, e, s, r⟩ := Rep.sqT h
    subst e
    exact .tup s (repL_dp l xs (by simpa [D.dat] using hd) r)
  | .lst l, _, hd, ⟨a, xs, e, s, r⟩ => by
    subst e
    exact .lst (SqL.of s.2) (repL_dp l xs (by simpa [D.dat] using hd) r)
  | .dct _, _, hd, _ => by simp [D.dat] at hd
  | .clo _ _, _, hd, _ => by simp [D.dat] at hd
  | .pool, _, hd, _ => by simp [D.dat] at hd
theorem repL_dp {K : PySem.W.Frag} {N : Addr → Prop} {π : Pi} {H : Hp} : ∀ (l : List D) (xs : List V), datL l = true → RepL K N π H l xs → DpAll K H xs (pyL l)
  | [], _, _, h => by cases h; exact .nil
  | d :: r, _, hd, ⟨v, vs, e, h1, h2⟩ => by
    subst e
    have hd' : d.dat = true ∧ datL r = true := by simpa [datL] using hd
    exact .cons (rep_dp d v hd'.1 h1) (repL_dp r vs hd'.2 h2)
end
theorem repO_dp {K : PySem.W.Frag} {N : Addr → Prop} {π : Pi} {H : Hp} {d : D} {v : V} (hd : d.dat = true) (h : RepO K N π H d v) : Dp K H v d.py := by
  cases d with
  | lst l =>
    obtain ⟨a, xs, e, s, r⟩ := h.lst
    subst e
    exact .lst (SqL.of s) (repL_dp l xs (by simpa [D.dat] using hd) r)
  | dct l => simp [D.dat] at hd
  | _ => exact rep_dp (N := N) (π := π) _ v hd h
mutual
theorem py_plain : ∀ d : D, d.py.plain = true
  | .non => rfl
  | .bl _ => rfl
  | .int _ => rfl
  | .str _ => rfl
  | .tup l => by rw [D.py, PyData.plain]; exact pyL_plain l
  | .lst l => by rw [D.py, PyData.plain]; exact pyL_plain l
  | .dct _ => rfl
  | .clo _ _ => rfl
  | .pool => rfl
theorem pyL_plain : ∀ l : List D, PyData.plainAll (pyL l) = true
  | [] => rfl
  | d :: r => by rw [pyL, PyData.plainAll, py_plain d, pyL_plain r]; rfl
end
mutual
theorem py_depth : ∀ d : D, d.py.depth ≤ d.dep
  | .non => by simp [D.py, D.dep, PyData.depth]
  | .bl _ => by simp [D.py, D.dep, PyData.depth]
  | .int _ => by simp [D.py, D.dep, PyData.depth]
  | .str _ => by simp [D.py, D.dep, PyData.depth]
  | .tup l => by
    have := pyL_depth l
    simp only [D.py, D.dep, PyData.depth]
    omega
  | .lst l => by
    have := pyL_depth l
    simp only [D.py, D.dep, PyData.depth]
    omega
  | .dct _ => by simp [D.py, D.dep, PyData.depth]
  | .clo _ _ => by simp [D.py, D.dep, PyData.depth]
  | .pool => by simp [D.py, D.dep, PyData.depth]
theorem pyL_depth : ∀ l : List D, PyData.depthAll (pyL l) ≤ depL l
  | [] => by simp [pyL, depL, PyData.depthAll]
  | d :: r => by
    have h1 := py_depth d
    have h2 := pyL_depth r
    simp only [pyL, depL, PyData.depthAll]
    omega
end

theorem od_eq : OpD F (compareOp .Eq) cEq := by
  refine ⟨fun x y H Q => ∃ d e, Dp F.K H x d ∧ Dp F.K H y e ∧ d.plain = true ∧ e.plain = true ∧ min d.depth e.depth ≤ 64 ∧ Q (.bl (PyData.eqv d e)) H, ?_, fun N π H x y v u R Q c rx ry h hq => ?_⟩
  · intro i pins s σ H x y v u Q I rx ry ⟨d, e, hd, he, pd, pe, hm, q⟩
    have hu := F.units i
    rw [← F.hK i] at hd he
    obtain ⟨as, r1⟩ := Dp.reads I d x v hd rx
    obtain ⟨bs, r2⟩ := Dp.reads I e y u he ry
    exact SeqAt.eq_plain r1 r2 pd pe (by omega) ⟨.bl _, H, I, rfl, q⟩
  · obtain ⟨⟨d1, d2, d3⟩, h⟩ := h
    have l1 := py_depth x
    have l2 := py_depth y
    exact ⟨_, _, repO_dp d1 rx, repO_dp d2 ry, py_plain x, py_plain y, by omega, hq (.bl _) _ H c.keepRefl rfl h⟩
theorem od_ne : OpD F (compareOp .NotEq) cNe := by
  refine ⟨fun x y H Q => ∃ d e, Dp F.K H x d ∧ Dp F.K H y e ∧ d.plain = true ∧ e.plain = true ∧ min d.depth e.depth ≤ 64 ∧ Q (.bl (!PyData.eqv d e)) H, ?_, fun N π H x y v u R Q c rx ry h hq => ?_⟩
  · intro i pins s σ H x y v u Q I rx ry ⟨d, e, hd, he, pd, pe, hm, q⟩
    have hu := F.units i
    rw [← F.hK i] at hd he
    obtain ⟨as, r1⟩ := Dp.reads I d x v hd rx
    obtain ⟨bs, r2⟩ := Dp.reads I e y u he ry
    exact SeqAt.ne_plain r1 r2 pd pe (by omega) ⟨.bl _, H, I, rfl, q⟩
  · obtain ⟨⟨d1, d2, d3⟩, h⟩ := h
    have l1 := py_depth x
    have l2 := py_depth y
    exact ⟨_, _, repO_dp d1 rx, repO_dp d2 ry, py_plain x, py_plain y, by omega, hq (.bl _) _ H c.keepRefl rfl h⟩
theorem any_eqv (x : D) : ∀ l : List D, ((pyL l).any fun y => PyData.eqv y x.py) = l.any fun z => eqb z x
  | [] => rfl
  | d :: r => by rw [pyL, List.any_cons, List.any_cons, any_eqv x r]; rfl
theorem repK_look {K : PySem.W.Frag} {N : Addr → Prop} {π : Pi} {H : Hp} (k : L2.Key) : ∀ (l : List (L2.Key × D)) (kvs : List (L2.Key × V)), RepK K N π H l kvs →
    (lookK k l = none → valV kvs k = none) ∧ ∀ d, lookK k l = some d → ∃ v, valV kvs k = some v ∧ Rep K N π H d v
  | [], _, h => by cases h; exact ⟨fun _ => rfl, fun d e => by simp [lookK] at e⟩
  | (j, d) :: r, _, ⟨q, qs, e, ⟨h1, h2⟩, h3⟩ => by
    subst e
    obtain ⟨i1, i2⟩ := repK_look k r qs h3
    by_cases hj : j = k
    · refine ⟨fun e => ?_, fun d' e => ?_⟩
      · rw [lookK, if_pos hj] at e; cases e
      · rw [lookK, if_pos hj] at e
        cases e
        exact ⟨q.2, valV_pos (h1.trans hj), h2⟩
    · refine ⟨fun e => ?_, fun d' e => ?_⟩
      · rw [lookK, if_neg hj] at e
        rw [valV_neg (fun z => hj (h1.symm.trans z))]
        exact i1 e
      · rw [lookK, if_neg hj] at e
        rw [valV_neg (fun z => hj (h1.symm.trans z))]
        exact i2 d' e
theorem key_v {K : PySem.W.Frag} {N : Addr → Prop} {π : Pi} {H : Hp} {x : D} {v : V} {k : L2.Key} (e : x.key = some k) (h : RepO K N π H x v) : v = kV k := by
  cases x with
  | int i => cases e; exact h
  | str i => cases e; exact h
  | _ => cases e
/-- in a dict: the library's rule, as a rule of values -/
def rInK (neg : Bool) : R2 := fun x y H Q => ∃ d kvs k, y = .ref d ∧ x = kV k ∧ Rd H d (.dK kvs) ∧ Q (.bl (if neg then !(valV kvs k).isSome else (valV kvs k).isSome)) H
/-- in a list, a tuple, a text, a dict -/
def rInP (K : PySem.W.Frag) (neg : Bool) : R2 := fun x y H Q => ∃ d ds, Dp K H x d ∧ (Dp K H y (.list ds) ∨ Dp K H y (.tuple ds)) ∧ d.plain = true ∧ PyData.plainAll ds = true ∧ d.depth ≤ 64 ∧ Q (.bl (if neg then !(ds.any fun z => PyData.eqv z d) else ds.any fun z => PyData.eqv z d)) H
theorem op_inP (hu : X.A.units + 65 < cLine) : OpR X (compareOp .In) (rInP X.K false) := by
  intro pins s σ H x y v u Q I rx ry ⟨d, ds, hd, hs, pd, ps, hm, q⟩
  obtain ⟨as, r1⟩ := Dp.reads I d x v hd rx
  rcases hs with hs | hs
  · obtain ⟨bs, r2⟩ := Dp.reads I _ y u hs ry
    exact SeqAt.in_list_data r2 r1 ps pd (by omega) ⟨.bl _, H, I, rfl, q⟩
  · obtain ⟨bs, r2⟩ := Dp.reads I _ y u hs ry
    exact SeqAt.in_tuple_data r2 r1 ps pd (by omega) ⟨.bl _, H, I, rfl, q⟩
theorem op_notInP (hu : X.A.units + 65 < cLine) : OpR X (compareOp .NotIn) (rInP X.K true) := by
  intro pins s σ H x y v u Q I rx ry ⟨d, ds, hd, hs, pd, ps, hm, q⟩
  obtain ⟨as, r1⟩ := Dp.reads I d x v hd rx
  rcases hs with hs | hs
  · obtain ⟨bs, r2⟩ := Dp.reads I _ y u hs ry
    exact SeqAt.notIn_list_data r2 r1 ps pd (by omega) ⟨.bl _, H, I, rfl, q⟩
  · obtain ⟨bs, r2⟩ := Dp.reads I _ y u hs ry
    exact SeqAt.notIn_tuple_data r2 r1 ps pd (by omega) ⟨.bl _, H, I, rfl, q⟩
theorem rInP_of {K : PySem.W.Frag} {N : Addr → Prop} {π : Pi} {H : Hp} {neg : Bool} {x y : D} {v u : V} {Q : VK} {R : Bool → Prop} (rx : RepO K N π H x v) (ry : RepO K N π H y u) (hy : (∃ l, y = .tup l) ∨ ∃ l, y = .lst l) (h : isIn x y R)
    (hq : ∀ b, R b → Q (.bl (if neg then !b else b)) H) : rInP K neg v u H Q := by
  have dx := py_depth x
  rcases hy with ⟨l, rfl⟩ | ⟨l, rfl⟩
  · obtain ⟨⟨h1, h2, h3⟩, h4⟩ := h
    refine ⟨x.py, pyL l, repO_dp h1 rx, .inr (repO_dp (d := .tup l) (by simpa [D.dat] using h3) ry), py_plain x, pyL_plain l, by omega, ?_⟩
    rw [any_eqv]
    exact hq _ h4
  · obtain ⟨⟨h1, h2, h3⟩, h4⟩ := h
    refine ⟨x.py, pyL l, repO_dp h1 rx, .inl (repO_dp (d := .lst l) (by simpa [D.dat] using h3) ry), py_plain x, pyL_plain l, by omega, ?_⟩
    rw [any_eqv]
    exact hq _ h4

theorem op_inK (hu : X.A.units + 65 < cLine) : OpR X (compareOp .In) (rInK false) := by
  intro pins s σ H x y v u Q I rx ry ⟨d, kvs, k, ey, ex, hd, q⟩
  subst ey ex
  cases ry
  exact d_in (o := valV kvs k) (by omega) I (.inl ⟨kvs, k, hd, rfl, rfl⟩) rx fun s' I' => ⟨.bl _, H, I', rfl, q⟩
theorem op_notInK (hu : X.A.units + 65 < cLine) : OpR X (compareOp .NotIn) (rInK true) := by
  intro pins s σ H x y v u Q I rx ry ⟨d, kvs, k, ey, ex, hd, q⟩
  subst ey ex
  cases ry
  exact d_notIn (o := valV kvs k) (by omega) I (.inl ⟨kvs, k, hd, rfl, rfl⟩) rx fun s' I' => ⟨.bl _, H, I', rfl, q⟩
theorem isIn_any {K : PySem.W.Frag} {N : Addr → Prop} {π : Pi} {H : Hp} {neg : Bool} {x y : D} {v u : V} {Q : VK} {R : Bool → Prop} (rx : RepO K N π H x v) (ry : RepO K N π H y u) (h : isIn x y R)
    (hq : ∀ b, R b → Q (.bl (if neg then !b else b)) H) : (rInP K neg v u H Q ∨ rInK neg v u H Q) ∨ ∃ (c : Nat) (z : Str), v = .str ⟨#[c]⟩ ∧ u = .str z ∧ Q (.bl (if neg then !decide (c ∈ z.cps.toList) else decide (c ∈ z.cps.toList))) H := by
  cases y with
  | tup l => exact .inl (.inl (rInP_of rx ry (.inl ⟨l, rfl⟩) h hq))
  | lst l => exact .inl (.inl (rInP_of rx ry (.inr ⟨l, rfl⟩) h hq))
  | dct l =>
    obtain ⟨a, kvs, e, _, hd, r⟩ := ry
    have h : match x.key with
      | some k => R (lookK k l).isSome
      | none => False := h
    cases hk : x.key with
    | none => rw [hk] at h; exact h.elim
    | some k =>
      rw [hk] at h
      have ex := key_v hk rx
      obtain ⟨i1, i2⟩ := repK_look k l kvs r
      have es : (lookK k l).isSome = (valV kvs k).isSome := by
        cases q : lookK k l with
        | none => rw [i1 q]; rfl
        | some d => obtain ⟨v', e', _⟩ := i2 d q; rw [e']; rfl
      refine .inl (.inr ⟨a, kvs, k, e, ex, hd, ?_⟩)
      have h : R (lookK k l).isSome := h
      rw [es] at h
      exact hq _ h
  | str z =>
    cases x with
    | str c =>
      obtain ⟨n, e, h⟩ := h
      exact .inr ⟨n, z, by rw [← e]; exact rx, ry, hq _ h⟩
    | _ => exact h.elim
  | _ => exact h.elim
theorem od_in : OpD F (compareOp .In) cIn :=
  ⟨_, fun i => ((by rw [← F.hK i]; exact op_inP (F.units i) : OpR (F.X i) (compareOp .In) (rInP F.K false)).or (op_inK (F.units i))).or op_in_sign, fun N π H x y v u R Q c rx ry h hq => isIn_any (neg := false) rx ry h fun b hb => hq (.bl b) _ H c.keepRefl rfl hb⟩
theorem od_notIn : OpD F (compareOp .NotIn) cNotIn :=
  ⟨_, fun i => ((by rw [← F.hK i]; exact op_notInP (F.units i) : OpR (F.X i) (compareOp .NotIn) (rInP F.K true)).or (op_notInK (F.units i))).or op_notIn_sign, fun N π H x y v u R Q c rx ry h hq => isIn_any (neg := true) rx ry h fun b hb => hq (.bl (!b)) _ H c.keepRefl rfl hb⟩
theorem od_lt : OpD F (compareOp .Lt) cLt := by
  refine ⟨_, fun _ => op_lt.or op_lt_str, fun N π H x y v u R Q c rx ry h hq => ?_⟩
  cases x with
  | int i => cases y with
    | int j => exact .inl ⟨i, j, rx, ry, hq (.bl _) _ H c.keepRefl rfl h⟩
    | _ => exact h.elim
  | str i => cases y with
    | str j => exact .inr ⟨i, j, rx, ry, hq (.bl (ltS i j)) _ H c.keepRefl rfl h⟩
    | _ => exact h.elim
  | _ => exact h.elim
theorem od_gt : OpD F (compareOp .Gt) cGt := by
  refine ⟨_, fun _ => op_gt.or op_gt_str, fun N π H x y v u R Q c rx ry h hq => ?_⟩
  cases x with
  | int i => cases y with
    | int j => exact .inl ⟨i, j, rx, ry, hq (.bl _) _ H c.keepRefl rfl h⟩
    | _ => exact h.elim
  | str i => cases y with
    | str j => exact .inr ⟨i, j, rx, ry, hq (.bl (ltS j i)) _ H c.keepRefl rfl h⟩
    | _ => exact h.elim
  | _ => exact h.elim
theorem od_le : OpD F (compareOp .LtE) cLe := by
  refine ⟨_, fun _ => op_le.or op_le_str, fun N π H x y v u R Q c rx ry h hq => ?_⟩
  cases x with
  | int i => cases y with
    | int j => exact .inl ⟨i, j, rx, ry, hq (.bl _) _ H c.keepRefl rfl h⟩
    | _ => exact h.elim
  | str i => cases y with
    | str j => exact .inr ⟨i, j, rx, ry, hq (.bl (!ltS j i)) _ H c.keepRefl rfl h⟩
    | _ => exact h.elim
  | _ => exact h.elim
theorem od_ge : OpD F (compareOp .GtE) cGe := by
  refine ⟨_, fun _ => op_ge.or op_ge_str, fun N π H x y v u R Q c rx ry h hq => ?_⟩
  cases x with
  | int i => cases y with
    | int j => exact .inl ⟨i, j, rx, ry, hq (.bl _) _ H c.keepRefl rfl h⟩
    | _ => exact h.elim
  | str i => cases y with
    | str j => exact .inr ⟨i, j, rx, ry, hq (.bl (!ltS i j)) _ H c.keepRefl rfl h⟩
    | _ => exact h.elim
  | _ => exact h.elim
/-- is None -/
theorem isNon_v {K : PySem.W.Frag} {N : Addr → Prop} {π : Pi} {H : Hp} {x : D} {v : V} (h : RepO K N π H x v) : decide (v = .non) = x.isNon := by
  cases x with
  | non => cases h; rfl
  | bl b => cases h; rfl
  | int b => cases h; rfl
  | str b => cases h; rfl
  | tup l => obtain ⟨a, xs, e, _⟩ := h.tup; subst e; rfl
  | lst l => obtain ⟨a, xs, e, _⟩ := h.lst; subst e; rfl
  | dct l => obtain ⟨a, xs, e, _⟩ := h; subst e; rfl
  | clo _ _ => exact h.elim
  | pool => obtain ⟨p, _, e⟩ := h; subst e; rfl
/-- x is None, x is not None: the second side is None -/
def cIs : G2 := fun x y R => y.isNon = true ∧ R (.bl x.isNon)
def cIsNot : G2 := fun x y R => y.isNon = true ∧ R (.bl (!x.isNon))
theorem non_of {K : PySem.W.Frag} {N : Addr → Prop} {π : Pi} {H : Hp} {x : D} {v : V} (h : RepO K N π H x v) (e : x.isNon = true) : v = .non := by
  cases x with
  | non => exact h
  | _ => cases e
theorem od_is : OpD F (compareOp .Is) cIs := by
  refine ⟨_, fun _ => op_isN, fun N π H x y v u R Q c rx ry h hq => ⟨non_of ry h.1, ?_⟩⟩
  rw [isNon_v rx]
  exact hq (.bl _) _ H c.keepRefl rfl h.2
theorem od_isNot : OpD F (compareOp .IsNot) cIsNot := by
  refine ⟨_, fun _ => op_notN, fun N π H x y v u R Q c rx ry h hq => ⟨non_of ry h.1, ?_⟩⟩
  rw [isNon_v rx]
  exact hq (.bl _) _ H c.keepRefl rfl h.2
/-! ### subscripts -/
theorem ixN_eq (n : Nat) (i : Int) : L2.ixN n i = Fn.ixN n i := rfl
theorem atI_rep {K : PySem.W.Frag} {N : Addr → Prop} {π : Pi} {H : Hp} {l : List D} {xs : List V} {i : Int} {d : D} (r : RepL K N π H l xs) (h : Fn.atI l i = some d) : ∃ v, L2.atI xs i = some v ∧ Rep K N π H d v := by
  unfold Fn.atI at h
  cases q : Fn.ixN l.length i with
  | none => rw [q] at h; cases h
  | some j =>
    rw [q] at h
    obtain ⟨v, e, r'⟩ := r.get (show l[j]? = some d from h)
    refine ⟨v, ?_, r'⟩
    unfold L2.atI
    rw [r.length, show L2.ixN l.length i = some j from q]
    exact e
theorem ix_dict (hu : X.A.units + 65 < cLine) : IxR X (fun x y H Q => ∃ a v, x = .ref a ∧ DGet H a y (some v) ∧ Q v H) := by
  intro value slice pins s σ H x y v u Q I rx ry ⟨a, w, ex, g, q⟩ hs
  subst ex
  obtain rfl : v = Value.ref a := rx
  exact tail_any (dict_typeIs I g) PySem.F.slot_dict_getitem.lookup (d_getItem (by omega) I g ry fun w' s3 I3 rw' => ⟨w, H, I3, rw', q⟩) hs
theorem xd_ix : IxD F bIx := by
  refine ⟨_, fun i => (by rw [← F.hK i]; exact ix_seq : IxR (F.X i) (rIx F.K)).or (ix_dict (F.units i)), fun N π H x y v u R Q c rx ry h hq => ?_⟩
  cases x with
  | tup l => cases y with
    | int i =>
      obtain ⟨a, xs, e, s, r⟩ := rx.tup
      have h : match Fn.atI l i with
        | some d => R d
        | none => False := h
      cases q : Fn.atI l i with
      | none => rw [q] at h; exact h.elim
      | some d =>
        rw [q] at h
        obtain ⟨w, e2, r2⟩ := atI_rep r q
        exact .inl (.inr (.inl ⟨a, xs, i, w, e, ry, s, e2, hq d w H c.keepRefl r2 h⟩))
    | _ => exact h.elim
  | lst l => cases y with
    | int i =>
      obtain ⟨a, xs, e, s, r⟩ := rx.lst
      have h : match Fn.atI l i with
        | some d => R d
        | none => False := h
      cases q : Fn.atI l i with
      | none => rw [q] at h; exact h.elim
      | some d =>
        rw [q] at h
        obtain ⟨w, e2, r2⟩ := atI_rep r q
        exact .inl (.inl ⟨a, xs, i, w, e, ry, SqL.of s, e2, hq d w H c.keepRefl r2 h⟩)
    | _ => exact h.elim
  | str z => cases y with
    | int i =>
      obtain ⟨hz, h⟩ := h
      cases q : Fn.atI z.cps.toList i with
      | none => rw [q] at h; exact h.elim
      | some d =>
        rw [q] at h
        exact .inl (.inr (.inr ⟨z, i, d, rx, ry, by rw [sizeLine_eq]; exact hz, q, hq (.str ⟨#[d]⟩) _ H c.keepRefl rfl h⟩))
    | _ => exact h.elim
  | dct l =>
    obtain ⟨a, kvs, e, _, hd, r⟩ := rx
    have go : ∀ k : L2.Key, u = kV k → (match lookK k l with
      | some d => R d
      | none => False) → ∃ a' w, v = .ref a' ∧ DGet H a' u (some w) ∧ Q w H := fun k ek h => by
      cases q : lookK k l with
      | none => rw [q] at h; exact h.elim
      | some d =>
        rw [q] at h
        obtain ⟨w, e2, r2⟩ := (repK_look k l kvs r).2 d q
        exact ⟨a, w, e, .inl ⟨kvs, k, hd, ek, e2.symm⟩, hq d w H c.keepRefl r2 h⟩
    cases y with
    | int i => exact .inr (go (.inl i) ry h)
    | str i => exact .inr (go (.inr i) ry h)
    | _ => exact h.elim
  | _ => exact h.elim
theorem ve_ix {g : G2} (ho : IxD F g) (ha : VR F O a fa) (hb : VR F O b fb) (hs : PlainIx b := by intro _ _; rfl) : VE F O (.Subscript a b pos) (eBin g fa fb) := by
  obtain ⟨r, hr, gr⟩ := ho
  obtain ⟨ta, pa, ga⟩ := ha
  obtain ⟨tb, pb, gb⟩ := hb
  refine ⟨_, fun i => pe_ix (hr i) (pa i) (pb i) hs, fun M π own σ H ρ R Q x hf hq => ?_⟩
  refine ga M π own σ H ρ _ _ x hf fun d v H1 k1 r1 h1 => ?_
  have x1 := x.keep k1
  refine gb M π own σ H1 ρ _ _ x1 h1 fun d2 v2 H2 k2 r2 h2 => ?_
  exact gr _ π H2 d d2 v v2 _ _ (x1.keep k2).ctx (r1.keep x1.ctx k2) r2 h2 fun d3 v3 H3 k3 => hq d3 v3 H3 ((k1.trans k2).trans k3)
/-! ### slices -/
def VO (F : Fam) (O : Nat → Bool) (e : Option Expr) (f : FO) : Prop := ∃ t : TO, (∀ i, PO (F.X i) e t) ∧ ∀ M π (own : Own) (σ : L2.St) H ρ (R : Option Int → Prop) (Q : Option Int → Hp → Prop), EnvOk F.K M π O own σ H ρ → f ρ R → (∀ i H', Keep π H H' → R i → Q i H') → t σ H Q
theorem vo_none : VO F O none oNone := ⟨_, fun _ => po_none, fun M π own σ H ρ R Q x hf hq => hq _ H x.ctx.keepRefl hf⟩
theorem vo_some (ha : VR F O a fa) : VO F O (some a) (oSome fa) := by
  obtain ⟨t, p, g⟩ := ha
  refine ⟨_, fun i => po_some (p i), fun M π own σ H ρ R Q x hf hq => ?_⟩
  refine g M π own σ H ρ _ _ x hf fun d v H1 k1 r1 h1 => ?_
  cases d with
  | int i => exact ⟨i, r1, hq _ H1 k1 h1⟩
  | _ => exact h1.elim
theorem rep_cut {K : PySem.W.Frag} {N : Addr → Prop} {π : Pi} {H : Hp} {l : List D} {xs : List V} (r : RepL K N π H l xs) (lo hi : Option Int) : RepL K N π H (cut l lo hi) (cutV xs lo hi) := by
  unfold cut cutV
  rw [r.length]
  exact (r.drop _).take _
theorem cut_whole {α : Type} {l : List α} {lo hi : Option Int} (h : HT.sIx l.length 0 lo = 0 ∧ HT.sIx l.length l.length hi = l.length) : cut l lo hi = l := by
  unfold cut
  have h1 : Fn.sIx l.length 0 lo = 0 := h.1
  have h2 : Fn.sIx l.length l.length hi = l.length := h.2
  rw [h1, h2]
  simp
theorem ve_sl {p2 : Pos} {lo hi : Option Expr} {fl fh : FO} (ha : VR F O a fa) (hl : VO F O lo fl) (hh : VO F O hi fh) : VE F O (.Subscript a (.Slice lo hi none p2) pos) (eSl fa fl fh) := by
  obtain ⟨ta, pa, ga⟩ := ha
  obtain ⟨tl, pl, gl⟩ := hl
  obtain ⟨th, ph, gh⟩ := hh
  refine ⟨_, fun i => pe_slice (((by rw [← F.hK i]; exact sl_tupA : SlR (F.X i) (rSlA F.K)).or (by rw [← F.hK i]; exact sl_list : SlR (F.X i) (rSlL F.K))).or sl_str) (pa i) (pl i) (ph i), fun M π own σ H ρ R Q x hf hq => ?_⟩
  refine ga M π own σ H ρ _ _ x hf fun d v H1 k1 r1 h1 => ?_
  have x1 := x.keep k1
  refine gl M π own σ H1 ρ _ _ x1 h1 fun i H2 k2 h2 => ?_
  have x2 := x1.keep k2
  refine gh M π own σ H2 ρ _ _ x2 h2 fun j H3 k3 h3 => ?_
  have x3 := x2.keep k3
  have r3 := (r1.keep x1.ctx k2).keep x2.ctx k3
  have kk := (k1.trans k2).trans k3
  cases d with
  | tup l =>
    have rT := r3.repT
    obtain ⟨a, xs, e, s, r⟩ := r3.tup
    refine .inl (.inl ⟨a, xs, e, s, fun z => ?_, fun z p np => ?_⟩)
    · have z' := z
      rw [r.length] at z'
      have h3 : R (.tup (cut l i j)) := h3
      rw [cut_whole z'] at h3
      rw [← e]
      exact hq (.tup l) _ H3 kk rT h3
    · exact hq (.tup (cut l i j)) _ _ (kk.trans (x3.ctx.keepNew np)) (Rep.newT (rep_cut r i j) np x3.ctx.alloc) h3
  | lst l =>
    obtain ⟨a, xs, e, s, r⟩ := r3.lst
    exact .inl (.inr ⟨a, xs, e, SqL.of s, fun p np => hq (.lst (cut l i j)) _ _ (kk.trans (x3.ctx.keepNew np)) (Rep.newL (rep_cut r i j) np x3.ctx.alloc) h3⟩)
  | str z =>
    refine .inr ⟨z, r3, by rw [sizeLine_eq]; exact h3.1, hq (.str _) _ H3 kk ?_ h3.2⟩
    have e : z.cps.toList.length = z.length := by simp [Str.length]
    show V.str (cutS z i j) = _
    unfold cutS cut
    rw [e]
    rfl
  | _ => exact h3.elim
end
end Fn
end P_FO
section P_FW
set_option maxHeartbeats 4000000
/-! Calls over data: built-in functions, one's own defs. -/
namespace Fn
open PySem PySem.Spec PyProof.Rows L2
section
variable {X : Cx} {F : Fam} {O : Nat → Bool} {e a b : Expr} {es : List Expr} {f fa fb : FE} {pos p p2 : Pos}
theorem repOL1 {K : PySem.W.Frag} {N : Addr → Prop} {π : Pi} {H : Hp} {d : D} {xs : List V} (h : RepOL K N π H [d] xs) : ∃ v, xs = [v] ∧ RepO K N π H d v := by
  obtain ⟨v, vs, e, h1, h2⟩ := h
  cases h2
  exact ⟨v, e, h1⟩
/-- a built-in function called -/
theorem ve_callB {x : Str} {id : String} {g : GA} {fl : FA} (hc : CallD F (.builtin id) g) (hm : F.mg x = none) (ha : VRA F O (e :: es) fl) (hg : ∀ i, Gl (F.X i) x := by intro _; rfl) (hv : bootBuiltins x = some (.builtin id) := by decide +kernel) (hn : x ≠ "__name__" := by decide)
    (hdb : (x == ("__debug__" : Str)) = false := by decide)
    (he : ∀ i, starEach (e :: es) (F.X i).env = (false, eval e (F.X i).env) :: starEach es (F.X i).env := by intro _; rfl) (hpl : ∀ i, (backTo pos (starEach es (F.X i).env)).any (·.1) = false := by intro _; rfl) : VE F O (.Call (.Name x p) (e :: es) [] pos) (eCall g fl) := by
  obtain ⟨r, hr, gr⟩ := hc
  obtain ⟨t, pt, gt⟩ := ha
  refine ⟨_, fun i => pe_callB (hr i) (hg i) (by rw [F.hmg i]; exact hm) hv (pt i) hn hdb (he i) (hpl i), fun M π own σ H ρ R Q x hf hq => ?_⟩
  refine gt M π own σ H ρ _ _ x hf fun l xs H1 k1 r1 h1 => ?_
  exact gr _ π H1 l xs _ _ (x.keep k1).ctx r1 h1 fun d v H2 k2 => hq d v H2 (k1.trans k2)
theorem ve_callT {x : Str} {T : String} {g : GA} {fl : FA} (hc : CallD F (.type T) g) (hm : F.mg x = none) (ha : VRA F O (e :: es) fl) (hg : ∀ i, Gl (F.X i) x := by intro _; rfl) (hv : bootBuiltins x = some (.type T) := by decide +kernel) (hn : x ≠ "__name__" := by decide)
    (hdb : (x == ("__debug__" : Str)) = false := by decide)
    (he : ∀ i, starEach (e :: es) (F.X i).env = (false, eval e (F.X i).env) :: starEach es (F.X i).env := by intro _; rfl) (hpl : ∀ i, (backTo pos (starEach es (F.X i).env)).any (·.1) = false := by intro _; rfl) : VE F O (.Call (.Name x p) (e :: es) [] pos) (eCall g fl) := by
  obtain ⟨r, hr, gr⟩ := hc
  obtain ⟨t, pt, gt⟩ := ha
  refine ⟨_, fun i => pe_callTy (hr i) (hg i) (by rw [F.hmg i]; exact hm) hv (pt i) hn hdb (he i) (hpl i), fun M π own σ H ρ R Q x hf hq => ?_⟩
  refine gt M π own σ H ρ _ _ x hf fun l xs H1 k1 r1 h1 => ?_
  exact gr _ π H1 l xs _ _ (x.keep k1).ctx r1 h1 fun d v H2 k2 => hq d v H2 (k1.trans k2)
theorem repK_len {K : PySem.W.Frag} {N : Addr → Prop} {π : Pi} {H : Hp} : ∀ {l : List (L2.Key × D)} {xs : List (L2.Key × V)}, RepK K N π H l xs → xs.length = l.length
  | [], _, h => by cases h; rfl
  | _ :: _, _, ⟨_, _, e, _, h⟩ => by subst e; rw [List.length_cons, List.length_cons, repK_len h]
theorem call_lenR : CallR X (.builtin "len") (fun xs H Q => ∃ a kvs, xs = [V.ref a] ∧ Rd H a (.dK kvs) ∧ Q (.int kvs.length) H) := by
  intro pins s σ H xs us Q I r h
  obtain ⟨a, kvs, rfl, ha, q⟩ := h
  obtain ⟨u, rfl, ru⟩ := vals1 r
  cases ru
  exact d_len I ha fun t s' I' => ⟨.int kvs.length, H, I', ⟨t, rfl⟩, q⟩
theorem cd_len : CallD F (.builtin "len") fLen := by
  refine ⟨_, fun i => (by rw [← F.hK i]; exact call_len : CallR (F.X i) (.builtin "len") (fun xs H Q => ∃ x n, xs = [x] ∧ LenV F.K x H n ∧ Q (.int n) H)).or call_lenR, fun N π H l xs R Q c r h hq => ?_⟩
  match l, h with
  | [.tup l], h =>
    obtain ⟨v, e, r⟩ := repOL1 r
    obtain ⟨a, ys, e2, s, r2⟩ := r.tup
    subst e e2
    exact .inl ⟨_, ys.length, rfl, .inr ⟨ys, s, rfl⟩, hq (.int ys.length) _ H c.keepRefl rfl (by rw [r2.length]; exact h)⟩
  | [.lst l], h =>
    obtain ⟨v, e, r⟩ := repOL1 r
    obtain ⟨a, ys, e2, s, r2⟩ := r.lst
    subst e e2
    exact .inl ⟨_, ys.length, rfl, .inl ⟨ys, SqL.of s, rfl⟩, hq (.int ys.length) _ H c.keepRefl rfl (by rw [r2.length]; exact h)⟩
  | [.str z], h =>
    obtain ⟨v, e, r⟩ := repOL1 r
    cases r
    subst e
    exact .inl ⟨_, z.length, rfl, ⟨by rw [sizeLine_eq]; exact h.1, rfl⟩, hq (.int z.length) _ H c.keepRefl rfl h.2⟩
  | [.dct l], h =>
    obtain ⟨v, e, r⟩ := repOL1 r
    obtain ⟨a, kvs, e2, _, s, r2⟩ := r
    subst e e2
    exact .inr ⟨a, kvs, rfl, s, hq (.int kvs.length) _ H c.keepRefl rfl (by rw [repK_len r2]; exact h)⟩
theorem cd_int : CallD F (.type "int") fInt := by
  refine ⟨_, fun _ => call_int1, fun N π H l xs R Q c r h hq => ?_⟩
  match l, h with
  | [.int i], h =>
    obtain ⟨v, e, r⟩ := repOL1 r
    cases r
    subst e
    exact .inl ⟨i, rfl, hq (.int i) _ H c.keepRefl rfl h⟩
theorem cd_tuple : CallD F (.type "tuple") fTuple := by
  refine ⟨fun xs H Q => ∃ p ys, xs = [.ref p] ∧ ((SqL F.K H p ys ∧ ∀ l, H l = none → Q (.ref l) (upd H l (.tup ys))) ∨ (SqT F.K H p ys ∧ Q (.ref p) H)), fun i => by rw [← F.hK i]; exact call_tuple_of, fun N π H l xs R Q c r h hq => ?_⟩
  match l, h with
  | [.tup l], h =>
    obtain ⟨v, e, r⟩ := repOL1 r
    have rT := r.repT
    obtain ⟨a, ys, e2, s, r2⟩ := r.tup
    subst e
    rw [e2] at rT
    exact ⟨a, ys, by rw [e2], .inr ⟨s, hq (.tup l) _ H c.keepRefl rT h⟩⟩
  | [.lst l], h =>
    obtain ⟨v, e, r⟩ := repOL1 r
    obtain ⟨a, ys, e2, s, r2⟩ := r.lst
    subst e e2
    exact ⟨a, ys, rfl, .inl ⟨SqL.of s, fun q nq => hq (.tup l) _ _ (c.keepNew nq) (Rep.newT r2 nq c.alloc) h⟩⟩
theorem cd_list : CallD F (.type "list") fList := by
  refine ⟨fun xs H Q => ∃ p ys, xs = [.ref p] ∧ (SqL F.K H p ys ∨ SqT F.K H p ys) ∧ ∀ l, H l = none → Q (.ref l) (upd H l (.lst ys)), fun i => by rw [← F.hK i]; exact call_list_of, fun N π H l xs R Q c r h hq => ?_⟩
  match l, h with
  | [.tup l], h =>
    obtain ⟨v, e, r⟩ := repOL1 r
    obtain ⟨a, ys, e2, s, r2⟩ := r.tup
    subst e e2
    exact ⟨a, ys, rfl, .inr s, fun q nq => hq (.lst l) _ _ (c.keepNew nq) (Rep.newL r2 nq c.alloc) h⟩
  | [.lst l], h =>
    obtain ⟨v, e, r⟩ := repOL1 r
    obtain ⟨a, ys, e2, s, r2⟩ := r.lst
    subst e e2
    exact ⟨a, ys, rfl, .inl (SqL.of s), fun q nq => hq (.lst l) _ _ (c.keepNew nq) (Rep.newL r2 nq c.alloc) h⟩
theorem bools_v {K : PySem.W.Frag} {N : Addr → Prop} {π : Pi} {H : Hp} : ∀ {l : List D} {bs : List Bool} {xs : List V}, bools l = some bs → RepL K N π H l xs → xs = bs.map V.bl
  | [], _, _, e, h => by cases e; cases h; rfl
  | .bl b :: r, bs, _, e, ⟨v, vs, e2, h1, h2⟩ => by
    unfold bools at e
    cases q : bools r with
    | none => rw [q] at e; cases e
    | some cs =>
      rw [q] at e
      cases e
      cases h1
      rw [e2, bools_v q h2]
      rfl
  | .non :: _, _, _, e, _ => by cases e
  | .int _ :: _, _, _, e, _ => by cases e
  | .str _ :: _, _, _, e, _ => by cases e
  | .tup _ :: _, _, _, e, _ => by cases e
  | .lst _ :: _, _, _, e, _ => by cases e
  | .dct _ :: _, _, _, e, _ => by cases e
  | .clo _ _ :: _, _, _, e, _ => by cases e
  | .pool :: _, _, _, e, _ => by cases e
theorem cd_all : CallD F (.builtin "all") fAll := by
  refine ⟨rAll F.K, fun i => by rw [← F.hK i]; exact cr_all (F.calm i), fun N π H l xs R Q c r h hq => ?_⟩
  match l, h with
  | [.lst l], h =>
    obtain ⟨v, e, r⟩ := repOL1 r
    obtain ⟨a, ys, e2, s, r2⟩ := r.lst
    subst e e2
    have h : match bools l with
      | some bs => R (.bl (bs.all id))
      | none => False := h
    cases q : bools l with
    | none => rw [q] at h; exact h.elim
    | some bs =>
      rw [q] at h
      have := bools_v q r2
      subst this
      exact ⟨a, bs, rfl, SqL.of s, hq (.bl _) _ H c.keepRefl rfl h⟩
theorem cd_any : CallD F (.builtin "any") fAny := by
  refine ⟨rAny F.K, fun i => by rw [← F.hK i]; exact cr_any (F.calm i), fun N π H l xs R Q c r h hq => ?_⟩
  match l, h with
  | [.lst l], h =>
    obtain ⟨v, e, r⟩ := repOL1 r
    obtain ⟨a, ys, e2, s, r2⟩ := r.lst
    subst e e2
    have h : match bools l with
      | some bs => R (.bl (bs.any id))
      | none => False := h
    cases q : bools l with
    | none => rw [q] at h; exact h.elim
    | some bs =>
      rw [q] at h
      have := bools_v q r2
      subst this
      exact ⟨a, bs, rfl, SqL.of s, hq (.bl _) _ H c.keepRefl rfl h⟩
/-! ### isinstance -/
def Ty.name : Ty → String
  | .int => "int"
  | .bool => "bool"
  | .str => "str"
  | .tuple => "tuple"
  | .list => "list"
theorem kit_isT : ∀ (t : Ty) (d : D) (n : String), d.tyN = some n → kitB n t.name = some (isT t d) := by
  intro t d n h
  cases d with
  | clo _ _ => cases h
  | pool => cases h
  | non => cases h; cases t <;> decide +kernel
  | bl _ => cases h; cases t <;> (show kitB _ _ = some _; first | exact (by decide +kernel : kitB "bool" "int" = some true) | exact (by decide +kernel : kitB "bool" "bool" = some true) | exact (by decide +kernel : kitB "bool" "str" = some false) | exact (by decide +kernel : kitB "bool" "tuple" = some false) | exact (by decide +kernel : kitB "bool" "list" = some false))
  | int _ => cases h; cases t <;> (show kitB _ _ = some _; first | exact (by decide +kernel : kitB "int" "int" = some true) | exact (by decide +kernel : kitB "int" "bool" = some false) | exact (by decide +kernel : kitB "int" "str" = some false) | exact (by decide +kernel : kitB "int" "tuple" = some false) | exact (by decide +kernel : kitB "int" "list" = some false))
  | str _ => cases h; cases t <;> (show kitB _ _ = some _; first | exact (by decide +kernel : kitB "str" "int" = some false) | exact (by decide +kernel : kitB "str" "bool" = some false) | exact (by decide +kernel : kitB "str" "str" = some true) | exact (by decide +kernel : kitB "str" "tuple" = some false) | exact (by decide +kernel : kitB "str" "list" = some false))
  | tup _ => cases h; cases t <;> (show kitB _ _ = some _; first | exact (by decide +kernel : kitB "tuple" "int" = some false) | exact (by decide +kernel : kitB "tuple" "bool" = some false) | exact (by decide +kernel : kitB "tuple" "str" = some false) | exact (by decide +kernel : kitB "tuple" "tuple" = some true) | exact (by decide +kernel : kitB "tuple" "list" = some false))
  | lst _ => cases h; cases t <;> (show kitB _ _ = some _; first | exact (by decide +kernel : kitB "list" "int" = some false) | exact (by decide +kernel : kitB "list" "bool" = some false) | exact (by decide +kernel : kitB "list" "str" = some false) | exact (by decide +kernel : kitB "list" "tuple" = some false) | exact (by decide +kernel : kitB "list" "list" = some true))
  | dct _ => cases h; cases t <;> (show kitB _ _ = some _; first | exact (by decide +kernel : kitB "dict" "int" = some false) | exact (by decide +kernel : kitB "dict" "bool" = some false) | exact (by decide +kernel : kitB "dict" "str" = some false) | exact (by decide +kernel : kitB "dict" "tuple" = some false) | exact (by decide +kernel : kitB "dict" "list" = some false))
theorem rep_ty {K : PySem.W.Frag} {N : Addr → Prop} {π : Pi} {H : Hp} {d : D} {v : V} {n : String} (h : RepO K N π H d v) (e : d.tyN = some n) : TyX K H v (.type n) := by
  cases d with
  | non => cases e; cases h; exact .base .non
  | bl b => cases e; cases h; exact .base (.bl b)
  | int b => cases e; cases h; exact .base (.int b)
  | str b => cases e; cases h; exact .base (.str b)
  | tup l =>
    cases e
    obtain ⟨a, xs, e2, s, _⟩ := h.tup
    subst e2
    rcases s with (s | ⟨o, s⟩) | ⟨o, its, n, h1, h2, _⟩
    · exact .base (.tup s)
    · exact .fTuple s
    · exact .kTuple h1 h2
  | lst l =>
    cases e
    obtain ⟨a, xs, e2, s, _⟩ := h.lst
    subst e2
    exact .base (.lst s)
  | dct l =>
    cases e
    obtain ⟨a, xs, e2, _, s, _⟩ := h
    subst e2
    rcases s with s | ⟨o, s⟩
    · exact .base (.dK s)
    · exact .fDict s
  | clo _ _ => cases e
  | pool => cases e
/-- isinstance(e, T) -/
theorem ve_is (t : Ty) {y : Str} (hm : F.mg "isinstance" = none) (ha : VR F O e f) (hT : ∀ i, PE (F.X i) (.Name y p2) (tC (.ty t.name)))
    (hg : ∀ i, Gl (F.X i) "isinstance" := by intro _; rfl) (hs : ∀ i, starEach [e, .Name y p2] (F.X i).env = (false, eval e (F.X i).env) :: starEach [.Name y p2] (F.X i).env := by intro _; rfl) :
    VE F O (.Call (.Name "isinstance" p) [e, .Name y p2] [] pos) (eUn (fIs t) f) := by
  obtain ⟨ta, pa, ga⟩ := ha
  refine ⟨tCB (rIsi F.K) (tCons ta (tCons (tC (.ty t.name)) tNil)), fun i => pe_callB (by rw [← F.hK i]; exact call_isi) (hg i) (by rw [F.hmg i]; exact hm) (by decide +kernel) (pa_cons (pa i) (pa_cons (hT i) pa_nil (by rfl)) (hs i)) (by decide) (by decide) (hs i) (by rfl), fun M π own σ H ρ R Q x hf hq => ?_⟩
  refine ga M π own σ H ρ _ _ x hf fun d v H1 k1 r1 h1 => ?_
  obtain ⟨hn, h1⟩ := h1
  cases q : d.tyN with
  | none => exact (hn q).elim
  | some n => exact ⟨v, .ty t.name, .type n, .type t.name, isT t d, rfl, .ty _, rep_ty r1 q, kit_ty (kit_isT t d n q), hq (.bl _) _ H1 k1 rfl h1⟩
/-! ### one's own defs -/
/-- the promise of a def over data -/
def spD (K : PySem.W.Frag) (g : GA) : Sp := fun vs H Q _ => ∃ N π ds R, Ctx N π H ∧ RepL K N π H ds vs ∧ g ds R ∧ ∀ d v H', Keep π H H' → Rep K N π H' d v → R d → Q v H'
theorem ve_call {x : Str} {fA : Addr} {fd : FuncData} {ps : List Str} {k : Nat} {g : GA} {fl : FA} (G : FnOk F.P F.w F.K F.mg F.base L2.CX0 k fA fd ps (spD F.K g)) (hr : k ≤ F.k) (hm : F.mg x = some (.ref fA)) (hk : PySem.W.keepIn F.K (.ref fA) = true)
    (hb : Binds F.K fd ps []) (ha : VA F O (e :: es) fl) (hg : ∀ i, Gl (F.X i) x := by intro _; rfl)
    (hdb : (x == ("__debug__" : Str)) = false := by decide) (he : ∀ i, starEach (e :: es) (F.X i).env = (false, eval e (F.X i).env) :: starEach es (F.X i).env := by intro _; rfl) (hpl : ∀ i, (backTo pos (starEach es (F.X i).env)).any (·.1) = false := by intro _; rfl) :
    VE F O (.Call (.Name x p) (e :: es) [] pos) (eCall g fl) := by
  obtain ⟨t, pt, gt⟩ := ha
  refine ⟨_, fun i => pe_call (F := by rw [F.hP i, F.hw i, F.hK i, F.hmg i, F.hbase i]; exact G) ((F.room i).mono hr) (hg i) (by rw [F.hmg i]; exact hm) (by rw [F.hK i]; exact hk) (by rw [F.hK i]; exact hb) .nil L2.pass0 (pt i) hdb (he i) (hpl i), fun M π own σ H ρ R Q x hf hq => ?_⟩
  refine gt M π own σ H ρ _ _ x hf fun l xs H1 k1 r1 h1 => ?_
  refine ⟨_, π, l, R, (x.keep k1).ctx, by rw [List.append_nil]; exact r1, h1, fun d v H2 k2 => hq d v H2 (k1.trans k2)⟩
theorem ve_call0 {x : Str} {fA : Addr} {fd : FuncData} {ps : List Str} {k : Nat} {g : GA} (G : FnOk F.P F.w F.K F.mg F.base L2.CX0 k fA fd ps (spD F.K g)) (hr : k ≤ F.k) (hm : F.mg x = some (.ref fA)) (hk : PySem.W.keepIn F.K (.ref fA) = true)
    (hb : Binds F.K fd ps []) (hg : ∀ i, Gl (F.X i) x := by intro _; rfl) (hdb : (x == ("__debug__" : Str)) = false := by decide) : VE F O (.Call (.Name x p) [] [] pos) (eCall g aNil) := by
  refine ⟨_, fun i => pe_call0 (F := by rw [F.hP i, F.hw i, F.hK i, F.hmg i, F.hbase i]; exact G) ((F.room i).mono hr) (hg i) (by rw [F.hmg i]; exact hm) (by rw [F.hK i]; exact hk) (by rw [F.hK i]; exact hb) .nil L2.pass0 hdb, fun M π own σ H ρ R Q x hf hq => ?_⟩
  exact ⟨_, π, [], R, x.ctx, rfl, hf, fun d v H2 k2 => hq d v H2 k2⟩
end
end Fn
end P_FW
section P_FC
set_option maxHeartbeats 4000000
/-! Targets, what is walked, comprehensions over data. -/
namespace Fn
open PySem PySem.Spec PyProof.Rows L2
section
variable {K : PySem.W.Frag} {M : Addr → Prop} {π : Pi} {O : Nat → Bool} {own : Own} {σ : L2.St} {H H' : Hp} {ρ : Ren}
theorem wipe_set' {i : Nat} {x : Option V} : ∀ {vs : List Nat} {σ : L2.St}, (L2.wipe (σ.set i x) vs).set i none = (L2.wipe σ vs).set i none
  | [], σ => by simp [L2.wipe]
  | v :: vs, σ => by
    simp only [L2.wipe]
    by_cases h : v = i
    · subst h
      rw [List.set_set, List.set_set, wipe_set']
    · rw [List.set_comm _ _ h, wipe_set', List.set_comm _ _ h]
theorem wipe_set {i : Nat} {x : Option V} : ∀ {vs : List Nat} {σ : L2.St}, i ∈ vs → L2.wipe (σ.set i x) vs = L2.wipe σ vs
  | [], _, h => by cases h
  | v :: vs, σ, h => by
    simp only [L2.wipe]
    by_cases e : v = i
    · subst e
      exact wipe_set'
    · have : i ∈ vs := by
        rcases List.mem_cons.mp h with z | z
        · exact absurd z.symm e
        · exact z
      rw [wipe_set this]
theorem wipe_noneC {i : Nat} : ∀ {vs : List Nat} {σ : L2.St}, L2.wipe (σ.set i none) vs = (L2.wipe σ vs).set i none
  | [], _ => rfl
  | v :: vs, σ => by
    simp only [L2.wipe]
    by_cases e : v = i
    · subst e
      rw [wipe_noneC]
    · rw [wipe_noneC, List.set_comm _ _ (Ne.symm e)]
theorem wipe_idem : ∀ {vs : List Nat} {σ : L2.St}, L2.wipe (L2.wipe σ vs) vs = L2.wipe σ vs
  | [], _ => rfl
  | v :: vs, σ => by
    show (L2.wipe ((L2.wipe σ vs).set v none) vs).set v none = (L2.wipe σ vs).set v none
    rw [wipe_noneC, wipe_idem, List.set_set]
theorem EnvOk.set (x : EnvOk K M π O own σ H ρ) {i : Nat} {d : D} {v : V} (hO : O i = false) (r : Rep K (Bar M own) π H d v) : EnvOk K M π O own (σ.set i (some v)) H (ρ.set i (some d)) := by
  refine ⟨x.alloc, x.pool, x.own1, x.inj, by simp [x.len], fun j d' e => ?_⟩
  by_cases h : i = j
  · subst h
    by_cases hl : i < ρ.length
    · rw [List.getElem?_set_self hl] at e
      cases e
      refine ⟨v, List.getElem?_set_self (by rw [x.len]; exact hl), ?_⟩
      rw [if_neg (by rw [hO]; decide)]
      exact r
    · rw [List.getElem?_eq_none (by simpa using Nat.le_of_not_lt hl)] at e
      cases e
  · rw [List.getElem?_set_ne h] at e
    obtain ⟨w, e1, h1⟩ := x.slot j d' e
    exact ⟨w, by rw [List.getElem?_set_ne h]; exact e1, h1⟩
theorem rwipe_some {i : Nat} {d : D} : ∀ {vs : List Nat} {ρ : Ren}, (Fn.wipe ρ vs)[i]? = some (some d) → ρ[i]? = some (some d) ∧ i ∉ vs
  | [], _, h => ⟨h, by simp⟩
  | v :: vs, ρ, h => by
    unfold Fn.wipe at h
    by_cases hi : v = i
    · subst hi
      by_cases hv : v < (Fn.wipe ρ vs).length
      · rw [List.getElem?_set_self hv] at h; cases h
      · rw [List.getElem?_eq_none (by simpa using hv)] at h; cases h
    · rw [List.getElem?_set_ne hi] at h
      obtain ⟨h1, h2⟩ := rwipe_some h
      exact ⟨h1, by simp only [List.mem_cons, not_or]; exact ⟨fun e => hi e.symm, h2⟩⟩
theorem rwipe_length (ρ : Ren) : ∀ vs : List Nat, (Fn.wipe ρ vs).length = ρ.length
  | [] => rfl
  | v :: vs => by unfold Fn.wipe; rw [List.length_set, rwipe_length ρ vs]
theorem EnvOk.wipe (x : EnvOk K M π O own σ H ρ) (vs : List Nat) : EnvOk K M π O own (L2.wipe σ vs) H (Fn.wipe ρ vs) := by
  refine ⟨x.alloc, x.pool, x.own1, x.inj, by rw [L2.wipe_length, rwipe_length, x.len], fun j d e => ?_⟩
  obtain ⟨e1, e2⟩ := rwipe_some e
  obtain ⟨v, e3, h⟩ := x.slot j d e1
  exact ⟨v, by rw [wipe_out e2]; exact e3, h⟩
/-- a new object D is barred too -/
theorem EnvOk.bar (x : EnvOk K M π O own σ H ρ) {D : Addr} (n : H D = none) (k : ∀ a o, H a = some o → ¬ isPl π a → H' a = some o) (hp : ∀ p, π = some p → PoolAt H' p) (hD : ∃ o, H' D = some o) :
    EnvOk K (fun a => M a ∨ a = D) π O own σ H' ρ := by
  have kk : Keep π H H' := ⟨k, hp⟩
  have y := x.keep kk
  have hh : Hold (Bar M own) H H' := kk.hold x.ctx.hp
  refine ⟨fun a z => z.elim (y.alloc a) fun e => e ▸ hD, fun p e => ⟨⟨.inl (x.pool p e).1.1, .inl (x.pool p e).1.2⟩, hp p e⟩, fun i a e => ⟨(x.own1 i a e).1, (y.own1 i a e).2.1, fun z => ?_⟩, x.inj, x.len, fun i d e => ?_⟩
  · rcases z with z | z
    · exact (x.own1 i a e).2.2 z
    · obtain ⟨o, q⟩ := (x.own1 i a e).2.1
      rw [z, n] at q; cases q
  · obtain ⟨v, e1, h⟩ := x.slot i d e
    refine ⟨v, e1, ?_⟩
    have hm : ∀ a, Bar (fun a => M a ∨ a = D) own a → Bar M own a ∨ H a = none := fun a z => by
      rcases z with (z | z) | z
      · exact .inl (.inl z)
      · exact .inr (z ▸ n)
      · exact .inl (.inr z)
    by_cases hO : O i = true
    · rw [if_pos hO] at h ⊢
      obtain ⟨a, e2, e3, h⟩ := h
      refine ⟨a, e2, e3, ?_⟩
      have np := x.notpool e2
      cases d with
      | lst l => obtain ⟨xs, q, r⟩ := h; exact ⟨xs, k _ _ q np, RepL.hold hh hm _ _ r⟩
      | dct l => obtain ⟨xs, q, r⟩ := h; exact ⟨xs, k _ _ q np, RepK.hold hh hm _ _ r⟩
      | _ => exact h
    · rw [if_neg hO] at h ⊢
      exact Rep.hold hh hm _ _ h
/-- the barred object D is written -/
theorem EnvOk.put (x : EnvOk K M π O own σ H ρ) {D : Addr} {o : HO} (hD : M D) (hp1 : ∀ p, π = some p → p.1 ≠ D ∧ p.2 ≠ D) : EnvOk K M π O own σ (upd H D o) ρ := by
  have hh : Hold (Bar M own) H (upd H D o) := fun a u q nb => by
    rw [upd_ne (fun z => nb (.inl (by rw [z]; exact hD)))]
    exact q
  have al : ∀ a, (∃ u, H a = some u) → ∃ u, upd H D o a = some u := fun a ⟨u, q⟩ => by
    by_cases z : a = D
    · exact ⟨o, by rw [z]; exact upd_same⟩
    · exact ⟨u, by rw [upd_ne z]; exact q⟩
  refine ⟨fun a z => al a (x.alloc a z), fun p e => ⟨(x.pool p e).1, (x.pool p e).2.other (hp1 p e).1 (hp1 p e).2⟩, fun i a e => ⟨(x.own1 i a e).1, al a (x.own1 i a e).2.1, (x.own1 i a e).2.2⟩, x.inj, x.len, fun i d e => ?_⟩
  obtain ⟨v, e1, h⟩ := x.slot i d e
  refine ⟨v, e1, ?_⟩
  by_cases hO : O i = true
  · rw [if_pos hO] at h ⊢
    obtain ⟨a, e2, e3, h⟩ := h
    refine ⟨a, e2, e3, ?_⟩
    have na : a ≠ D := fun z => (x.own1 i a e2).2.2 (by rw [z]; exact hD)
    cases d with
    | lst l => obtain ⟨xs, q, r⟩ := h; exact ⟨xs, by rw [upd_ne na]; exact q, RepL.hold hh (fun _ z => .inl z) _ _ r⟩
    | dct l => obtain ⟨xs, q, r⟩ := h; exact ⟨xs, by rw [upd_ne na]; exact q, RepK.hold hh (fun _ z => .inl z) _ _ r⟩
    | _ => exact h
  · rw [if_neg hO] at h ⊢
    exact Rep.hold hh (fun _ z => .inl z) _ _ h
end
section
variable {F : Fam} {O : Nat → Bool} {e : Expr} {es : List Expr} {f : FE} {pos p : Pos}
/-! ### targets -/
theorem vg_name (j : Nat) {x : Str} (hN : F.N.Nodup) (hj : F.N[j]? = some x) (hO : O j = false) (hx : ∀ i, Loc (F.X i).env.scope x) (hf : ∀ i, (F.X i).fn x = true ∨ (F.X i).env.scope.names.lookup x = some .local) :
    VG F O (.Name x pos) [j] (Fn.gName j) := by
  refine ⟨L2.gName j, fun i => pg_name (by rw [F.hN i]; exact hN) (by rw [F.hN i]; exact hj) (hx i) (hf i), fun M π own σ H ρ d v R Q x r hf hq => ?_⟩
  exact hq _ _ (x.set hO r) (fun vs hv => wipe_set (hv j (List.mem_singleton.mpr rfl))) hf
theorem vgs_nil : VGs F O [] [] gsNil := by
  refine ⟨_, fun _ => pgs_nil, fun M π own σ H ρ l xs R Q x r hf hq => ?_⟩
  match l, hf with
  | [], hf =>
    cases r
    exact ⟨rfl, hq σ ρ x (fun _ _ => rfl) hf⟩
theorem vgs_cons {S1 S2 : List Nat} {G : FG} {U : FGs} (h1 : VG F O e S1 G) (h2 : VGs F O es S2 U)
    (hs : ∀ i, (assignEach (e :: es) (F.X i).env).map (·.2) = assign e (F.X i).env :: (assignEach es (F.X i).env).map (·.2) := by intro _; rfl) : VGs F O (e :: es) (S1 ++ S2) (gsCons G U) := by
  obtain ⟨t, pt, gt⟩ := h1
  obtain ⟨u, pu, gu⟩ := h2
  refine ⟨_, fun i => pgs_cons (pt i) (pu i) (hs i), fun M π own σ H ρ l xs R Q x r hf hq => ?_⟩
  match l, hf with
  | d :: l, hf =>
    obtain ⟨v, vs, e, r1, r2⟩ := r
    subst e
    refine ⟨v, vs, rfl, gt M π own σ H ρ d v _ _ x r1 hf fun σ' ρ' x' w1 hf' => ?_⟩
    exact gu M π own σ' H ρ' l vs R Q x' r2 hf' fun σ'' ρ'' x'' w2 => hq σ'' ρ'' x'' fun vs hv => (w2 vs fun i hi => hv i (List.mem_append_right _ hi)).trans (w1 vs fun i hi => hv i (List.mem_append_left _ hi))
theorem vg_tup {k : Nat} {S : List Nat} {U : FGs} (h : VGs F O es S U) (n : Nat) (hl : ∀ l ρ (R : Ren → Prop), U l ρ R → l.length = n)
    (hn : ∀ i, (assignEach es (F.X i).env).length = n := by intro _; rfl) (hst : ∀ i, (assignEach es (F.X i).env).findIdx? (·.1) = none := by intro _; rfl) : VG F O (.Tuple es k pos) S (Fn.gTup U) := by
  obtain ⟨t, pt, gt⟩ := h
  refine ⟨L2.gTup F.K n t, fun i => by rw [← F.hK i]; exact pg_tup (F.calm i) (pt i) (hn i) (hst i), fun M π own σ H ρ d v R Q x r hf hq => ?_⟩
  cases d with
  | tup l =>
    obtain ⟨a, xs, e, s, r2⟩ := Rep.sqT r
    exact ⟨a, xs, e, s, by rw [r2.length]; exact hl _ _ _ hf, gt M π own σ H ρ l xs R Q x r2 hf hq⟩
  | _ => exact hf.elim
/-! ### what is walked -/
theorem WalkD.toR {K : PySem.W.Frag} {C N : Addr → Prop} {π : Pi} {H1 : Hp} {l : List D} {J : It} (h : WalkD K C N π H1 l J) (hp : ∀ p, isPl π p → C p) : WalkD K (isPl π) N π H1 l J := by
  obtain ⟨G, Y, w, g, y⟩ := h
  refine ⟨G, Y, w, fun H hh => g H fun a o e n => hh a o e fun z => n (hp a z), fun i H x H' hi hh => y i H x H' hi fun a o e n => hh a o e fun z => n (hp a z)⟩
theorem VI.toR {tg it : Expr} {fi : FI} (h : VI F O tg it fi) : VIR F O tg it fi := by
  obtain ⟨w, pw, gw⟩ := h
  exact ⟨w, pw, fun M π own σ H ρ R Q x hf hq => gw M π own σ H ρ R Q x hf fun l J H1 k hw => hq l J H1 k (hw.toR (x.keep k).ctx.hp)⟩
/-- list, tuple or text: as its value is -/
theorem pi_any {X : Cx} {tg l : Expr} {tl : TE} (hl : PE X l tl) : PI X tg l (fun σ H R => tl σ H fun x H1 => (∃ a, x = .ref a ∧ (∃ xs, SqL X.K H1 a xs) ∧ R (Itl X.K a) H1) ∨ ∃ a, x = .ref a ∧ (∃ xs, SqT X.K H1 a xs) ∧ R (Itt X.K a) H1) := by
  refine ⟨fun pins s σ H R I h => ?_⟩
  refine thn (hl.run pins s σ H _ I h) fun v s1 ⟨x, H1, I1, r1, q1⟩ => ?_
  rcases q1 with ⟨a, e, ⟨xs, hq⟩, q⟩ | ⟨a, e, ⟨xs, hq⟩, q⟩
  · subst e
    cases r1
    obtain ⟨its, rv, p, hz⟩ := I1.list hq
    refine wpAny_pyIter_list p.isList ?_
    refine ⟨s1.heap.objs.size, [s1.heap.objs.size], _, _, H1, rfl, I1.kept (t' := s1.toks) fun b o e => Heap.get?_push_of_some _ e, turn_list a _, ⟨_, Heap.get?_push_size _ rfl, rfl, rfl⟩, fun b hb => ?_, q⟩
    have e : b = s1.heap.objs.size := by simpa using hb
    subst e
    exact I1.fpOk (Nat.le_refl _) (I1.hok.fresh (Nat.le_refl _))
  · subst e
    cases r1
    obtain ⟨its, rv, p, hz⟩ := I1.tuple hq
    refine wpAny_pyIter_tuple (show s1.heap.IsTuple a its.toArray from p) ?_
    refine ⟨s1.heap.objs.size, [s1.heap.objs.size], _, _, H1, rfl, I1.kept (t' := s1.toks) fun b o e => Heap.get?_push_of_some _ e, turn_tuple a _, ⟨_, Heap.get?_push_size _ rfl, rfl, rfl⟩, fun b hb => ?_, q⟩
    have e : b = s1.heap.objs.size := by simpa using hb
    subst e
    exact I1.fpOk (Nat.le_refl _) (I1.hok.fresh (Nat.le_refl _))
theorem walk_elems {K : PySem.W.Frag} {C N : Addr → Prop} {π : Pi} {H1 : Hp} {l : List D} {xs : List V} (hC : ∀ a, C a → N a) (c : Ctx N π H1) (r : RepL K N π H1 l xs) :
    ∀ i H x H', i < l.length → Hold C H1 H → (∀ p, π = some p → PoolAt H p) → YAt xs i H x H' →
    Keep π H H' ∧ ∃ d, l[i]? = some d ∧ ∀ N' : Addr → Prop, (∀ a, N' a → (N a ∨ H1 a = none) ∧ ∃ o, H a = some o) → Rep K N' π H' d x := by
  intro i H x H' hi hh hp y
  obtain ⟨e, y⟩ := y
  subst e
  obtain ⟨d, e1, r1⟩ := r.get' y
  exact ⟨Keep.refl hp, d, e1, fun N' hN => Rep.hold (fun a o q n => hh a o q fun z => n (hC a z)) (fun a z => (hN a z).1) d x r1⟩
theorem hold_sqT {K : PySem.W.Frag} {C : Addr → Prop} {H1 H : Hp} {a : Addr} {xs : List V} (hh : Hold C H1 H) (h : (¬ C a ∧ Rd H1 a (.tup xs)) ∨ KT K a xs) : SqT K H a xs := by
  rcases h with ⟨n, h⟩ | h
  · exact .inl (rd_hold (fun o q => hh a o q n) h)
  · exact .inr h
theorem vi_seq (ha : VE F O e f) {tg : Expr} : VI F O tg e (iSeq f) := by
  obtain ⟨t, p, g⟩ := ha
  refine ⟨fun σ H R => t σ H fun x H1 => (∃ a, x = .ref a ∧ (∃ xs, SqL F.K H1 a xs) ∧ R (Itl F.K a) H1) ∨ ∃ a, x = .ref a ∧ (∃ xs, SqT F.K H1 a xs) ∧ R (Itt F.K a) H1, fun i => by rw [← F.hK i]; exact pi_any (p i), fun M π own σ H ρ R Q x hf hq => ?_⟩
  refine g M π own σ H ρ _ _ x hf fun d v H1 k1 r1 h1 => ?_
  have c1 := (x.keep k1).ctx
  cases d with
  | tup l =>
    obtain ⟨a, xs, e, s, r⟩ := r1
    have hl := r.length
    refine .inr ⟨a, e, ⟨xs, s.elim (fun z => .inl z.2) .inr⟩, hq l _ H1 k1 ⟨fun H => SqT F.K H a xs, YAt xs, by rw [← hl]; exact walk_tup, fun H hh => hold_sqT hh s, walk_elems (fun _ z => z) c1 r⟩ h1⟩
  | lst l =>
    obtain ⟨a, xs, e, s, r⟩ := r1
    have hl := r.length
    exact .inl ⟨a, e, ⟨xs, SqL.of s.2⟩, hq l _ H1 k1 ⟨fun H => SqL F.K H a xs, YAt xs, by rw [← hl]; exact walk_list, fun H hh => SqL.of (hh a _ s.2 s.1), walk_elems (fun _ z => z) c1 r⟩ h1⟩
  | _ => exact h1.elim
theorem vir_seq (ha : VR F O e f) {tg : Expr} : VIR F O tg e (iSeq f) := by
  obtain ⟨t, p, g⟩ := ha
  refine ⟨fun σ H R => t σ H fun x H1 => (∃ a, x = .ref a ∧ (∃ xs, SqL F.K H1 a xs) ∧ R (Itl F.K a) H1) ∨ ∃ a, x = .ref a ∧ (∃ xs, SqT F.K H1 a xs) ∧ R (Itt F.K a) H1, fun i => by rw [← F.hK i]; exact pi_any (p i), fun M π own σ H ρ R Q x hf hq => ?_⟩
  refine g M π own σ H ρ _ _ x hf fun d v H1 k1 r1 h1 => ?_
  have c1 := (x.keep k1).ctx
  cases d with
  | tup l =>
    obtain ⟨a, xs, e, s, r⟩ := r1
    have hl := r.length
    refine .inr ⟨a, e, ⟨xs, s.elim (fun z => .inl z.2) .inr⟩, hq l _ H1 k1 ⟨fun H => SqT F.K H a xs, YAt xs, by rw [← hl]; exact walk_tup, fun H hh => hold_sqT hh (s.elim (fun z => .inl ⟨fun w => z.1 (c1.hp a w), z.2⟩) .inr), walk_elems c1.hp c1 r⟩ h1⟩
  | lst l =>
    obtain ⟨a, xs, e, s, q, r⟩ := r1
    have hl := r.length
    exact .inl ⟨a, e, ⟨xs, SqL.of q⟩, hq l _ H1 k1 ⟨fun H => SqL F.K H a xs, YAt xs, by rw [← hl]; exact walk_list, fun H hh => SqL.of (hh a _ q s), walk_elems c1.hp c1 r⟩ h1⟩
  | _ => exact h1.elim
theorem rng_get {lo : Int} {n i : Nat} (h : i < n) : (rng lo n)[i]? = some (.int (lo + i)) := by
  unfold rng
  rw [List.getElem?_map, List.getElem?_range h]
  rfl
theorem rng_len {lo : Int} {n : Nat} : (rng lo n).length = n := by
  unfold rng
  rw [List.length_map, List.length_range]
theorem walk_rng {K : PySem.W.Frag} {C N : Addr → Prop} {π : Pi} {H1 : Hp} {lo : Int} {n : Nat} : WalkD K C N π H1 (rng lo n) (Itr lo n) := by
  refine ⟨fun _ => True, YFn fun i => .int (lo + i), by rw [rng_len]; exact walk_range, fun _ _ => trivial, fun i H x H' hi hh hp y => ?_⟩
  obtain ⟨e, y⟩ := y
  subst e y
  exact ⟨Keep.refl hp, _, rng_get (by rw [rng_len] at hi; exact hi), fun _ _ => rfl⟩
theorem vi_range1 {tg : Expr} (hm : F.mg "range" = none) (ha : VR F O e f) (hg : ∀ i, Gl (F.X i) "range" := by intro _; rfl) (hs : ∀ i, starEach [e] (F.X i).env = [(false, eval e (F.X i).env)] := by intro _; rfl) : VI F O tg (.Call (.Name "range" p) [e] [] pos) (Fn.iRng1 f) := by
  obtain ⟨t, pt, g⟩ := ha
  refine ⟨_, fun i => pi_range1 (hg i) (by rw [F.hmg i]; exact hm) (pa_cons (pt i) pa_nil (hs i)) (hs i), fun M π own σ H ρ R Q x hf hq => ?_⟩
  refine g M π own σ H ρ _ _ x hf fun d v H1 k1 r1 h1 => ?_
  cases d with
  | int j =>
    cases r1
    exact ⟨j, rfl, h1.1.1, h1.1.2, hq _ _ H1 k1 walk_rng h1.2⟩
  | _ => exact h1.elim
theorem vi_range2 {tg e2 : Expr} {f2 : FE} (hm : F.mg "range" = none) (ha : VR F O e f) (hb : VR F O e2 f2) (hg : ∀ i, Gl (F.X i) "range" := by intro _; rfl)
    (hs : ∀ i, starEach [e, e2] (F.X i).env = [(false, eval e (F.X i).env), (false, eval e2 (F.X i).env)] := by intro _; rfl) (hs2 : ∀ i, starEach [e2] (F.X i).env = [(false, eval e2 (F.X i).env)] := by intro _; rfl) : VI F O tg (.Call (.Name "range" p) [e, e2] [] pos) (Fn.iRng2 f f2) := by
  obtain ⟨t, pt, g⟩ := ha
  obtain ⟨t2, pt2, g2⟩ := hb
  refine ⟨_, fun i => pi_range2 (hg i) (by rw [F.hmg i]; exact hm) (pa_cons (pt i) (pa_cons (pt2 i) pa_nil (hs2 i)) (by rw [hs i, hs2 i])) (hs i) (hs2 i), fun M π own σ H ρ R Q x hf hq => ?_⟩
  refine g M π own σ H ρ _ _ x hf fun d v H1 k1 r1 h1 => ?_
  refine g2 M π own σ H1 ρ _ _ (x.keep k1) h1 fun d2 v2 H2 k2 r2 h2 => ?_
  have kk := k1.trans k2
  cases d with
  | int j => cases d2 with
    | int j2 =>
      cases r1
      cases r2
      exact ⟨j, j2, rfl, h2.1, hq _ _ H2 kk walk_rng h2.2⟩
    | _ => exact h2.elim
  | _ => exact h2.elim
theorem vi_str {tg : Expr} (ha : VR F O e f) : VI F O tg e (Fn.iStr f) := by
  obtain ⟨t, p, g⟩ := ha
  refine ⟨_, fun i => pi_str (p i), fun M π own σ H ρ R Q x hf hq => ?_⟩
  refine g M π own σ H ρ _ _ x hf fun d v H1 k1 r1 h1 => ?_
  cases d with
  | str z =>
    refine ⟨z, r1, hq _ _ H1 k1 ⟨fun _ => True, _, by rw [List.length_map, Array.length_toList]; exact walk_str, fun _ _ => trivial, fun i H x H' hi hh hp y => ?_⟩ h1⟩
    obtain ⟨e, c, y, e2⟩ := y
    subst e e2
    exact ⟨Keep.refl hp, .str ⟨#[c]⟩, by rw [List.getElem?_map]; simp [y], fun _ _ => rfl⟩
  | _ => exact h1.elim
/-! ### tests of a comprehension -/
theorem vts_nil : VTs F O [] Fn.tYes := ⟨_, fun _ => pts_nil, fun M π own σ H ρ R Q x hf hq => hq true H x.ctx.keepRefl hf⟩
theorem vts_one {t : FT} (h : VT F O e t) : VTs F O [e] t := by
  obtain ⟨u, p, g⟩ := h
  exact ⟨_, fun i => pts_one (p i), g⟩
/-! ### a comprehension of one clause -/
def Fam.blk (F : Fam) (scope : Scope) : Fam where
  ι := F.ι × Shared × Hp × Addr × List (Str × Addr) × List Addr
  X := fun z => (F.X z.1).blk z.2.1 z.2.2.1 scope (compEnvC scope z.2.2.2.2.1 z.2.2.2.1 (F.X z.1).env) z.2.2.2.2.2
  P := F.P
  w := F.w
  K := F.K
  mg := F.mg
  base := F.base
  N := F.N
  k := F.k
  hP := fun z => F.hP z.1
  hw := fun z => F.hw z.1
  hK := fun z => F.hK z.1
  hmg := fun z => F.hmg z.1
  hbase := fun z => F.hbase z.1
  hN := fun z => F.hN z.1
  calm := fun z => F.calm z.1
  room := fun z => F.room z.1

theorem gsl_nil : ∀ l ρ (R : Ren → Prop), gsNil l ρ R → l.length = 0 := fun l ρ R h => by
  match l, h with
  | [], _ => rfl
theorem gsl_name {j n : Nat} {U : FGs} (h : ∀ l ρ (R : Ren → Prop), U l ρ R → l.length = n) : ∀ l ρ (R : Ren → Prop), gsCons (Fn.gName j) U l ρ R → l.length = n + 1 := fun l ρ R q => by
  match l, q with
  | _ :: r, q => rw [List.length_cons, h r _ R q]
/-- what the turns of a comprehension keep: the new list at L -/
theorem lc_sem {K : PySem.W.Frag} {g : TG} {tt : TT} {te : TE} {G : FG} {ft : FT} {fe : FE} {vs S : List Nat} (hS : ∀ i ∈ S, i ∈ vs)
    (gg : ∀ M π (own : Own) (σ : L2.St) H ρ d v (R : Ren → Prop) (Q : L2.St → Hp → Prop), EnvOk K M π O own σ H ρ → Rep K (Bar M own) π H d v → G d ρ R →
      (∀ σ' ρ', EnvOk K M π O own σ' H ρ' → (∀ vs, (∀ i ∈ S, i ∈ vs) → L2.wipe σ' vs = L2.wipe σ vs) → R ρ' → Q σ' H) → g v σ H Q)
    (gt : SemT K O tt ft) (ge : SemE K O te fe) {M : Addr → Prop} {π : Pi} {own : Own} {σ : L2.St} {H1 : Hp} {ρ : Ren} {R : List D → Prop} {Qd : Hp → Prop} {l : List D} {J : It} {L : Addr}
    (x : EnvOk K M π O own σ H1 ρ) (hw : WalkD K (isPl π) (Bar M own) π H1 l J) (hL : H1 L = none) (hf : lcGo G ft (lcEl fe) (Fn.wipe ρ vs) l 16777216 R)
    (hq : ∀ ds xs H, Keep π H1 H → H L = some (.lst xs) → RepL K (fun b => Bar M own b ∨ b = L) π H ds xs → R ds → Qd H) :
    ∃ W : Nat → Nat → Hp → Prop, (∃ m, W 0 m (upd H1 L (.lst []))) ∧ ∀ i m H, W i m H →
      (J.stop i H ∧ Qd H) ∨ (J.go i H ∧ ∃ Nx : Hp → Prop, (∀ H', Nx H' → ∃ m', m' < m ∧ W (i + 1) m' H') ∧ ∀ x H', J.yld i H x H' → g x (L2.wipe σ vs) H' fun σ2 H2 => L2.wipe σ2 vs = L2.wipe σ vs ∧ tt σ2 H2 fun b H3 =>
        if b = true then te σ2 H3 fun y H4 => ∃ acc, H4 L = some (.lst acc) ∧ acc.length < sizeLine ∧ Nx (upd H4 L (.lst (acc ++ [y]))) else Nx H3) := by
  obtain ⟨Gw, Y, w, gw, yw⟩ := hw
  have hsz : sizeLine = 16777216 := sizeLine_eq
  have nL : ∀ a o, H1 a = some o → a ≠ L := fun a o q z => by rw [z, hL] at q; cases q
  have npL : ∀ p, π = some p → p.1 ≠ L ∧ p.2 ≠ L := fun p e => by
    obtain ⟨_, _, _, _, _, e1, e2, _⟩ := (x.pool p e).2
    exact ⟨nL _ _ e1, nL _ _ e2⟩
  have nplL : ¬ isPl π L := fun ⟨l, z⟩ => (npL _ z).1 rfl
  -- the invariant
  refine lc_it w (fun i H => ∃ ds acc, Keep π H1 H ∧ H L = some (.lst acc) ∧ EnvOk K (fun a => M a ∨ a = L) π O own σ H ρ ∧ RepL K (Bar (fun a => M a ∨ a = L) own) π H ds acc ∧ ds.length ≤ 16777216 ∧ lcGo G ft (lcEl fe) (Fn.wipe ρ vs) (l.drop i) (16777216 - ds.length) fun r => R (ds ++ r)) ?_ ?_ ?_ ?_
  · refine ⟨[], [], x.ctx.keepNew hL, upd_same, x.bar hL (fun a o q _ => same_upd hL a o q) (fun p e => (x.pool p e).2.grow hL) ⟨_, upd_same⟩, rfl, by simp, by simpa using hf⟩
  · intro i H hi ⟨ds, acc, kk, _⟩
    exact gw H fun a o q n => kk.same a o q n
  · intro i y H H' hi ⟨ds, acc, kk, hA, xe, ra, hlen, hgo⟩ hy
    obtain ⟨k2, d, ed, rd⟩ := yw i H y H' hi (fun a o q n => kk.same a o q n) (fun p e => (xe.pool p e).2) hy
    have x2 := xe.keep k2
    have hdrop : l.drop i = d :: l.drop (i + 1) := by
      obtain ⟨h1, h2⟩ := List.getElem?_eq_some_iff.mp ed
      rw [← h2]
      exact List.drop_eq_getElem_cons h1
    rw [hdrop] at hgo
    have rdd : Rep K (Bar (fun a => M a ∨ a = L) own) π H' d y := rd _ fun a z => by
      refine ⟨?_, xe.ctx.alloc a z⟩
      rcases z with (z | z) | z
      · exact .inl (.inl z)
      · exact .inr (z ▸ hL)
      · exact .inl (.inr z)
    have hgo : G d (Fn.wipe ρ vs) (fun ρ' => ft ρ' fun b => if b = true then lcEl fe ρ' (16777216 - ds.length) fun l1 => lcGo G ft (lcEl fe) (Fn.wipe ρ vs) (l.drop (i + 1)) (16777216 - ds.length - l1.length) fun l2 => R (ds ++ (l1 ++ l2)) else lcGo G ft (lcEl fe) (Fn.wipe ρ vs) (l.drop (i + 1)) (16777216 - ds.length) fun r => R (ds ++ r)) := hgo
    refine gg _ π own _ H' _ d y _ _ (x2.wipe vs) rdd hgo fun σ2 ρ2 x3 hws ht => ⟨?_, ?_⟩
    · rw [hws vs hS]
      exact wipe_idem
    refine gt _ π own σ2 H' ρ2 _ _ x3 ht fun b H3 k3 hb => ?_
    have k13 : Keep π H1 H3 := (kk.trans k2).trans k3
    have hA3 : H3 L = some (.lst acc) := (k2.trans k3).same _ _ hA nplL
    have ra3 := (ra.keep xe.ctx k2).keep x2.ctx k3
    cases b with
    | false =>
      rw [if_neg Bool.false_ne_true] at hb ⊢
      exact ⟨ds, acc, k13, hA3, (xe.keep k2).keep k3, ra3, hlen, hb⟩
    | true =>
      rw [if_pos rfl] at hb ⊢
      refine ge _ π own σ2 H3 ρ2 _ _ (x3.keep k3) hb fun d4 v4 H4 k4 r4 h4 => ?_
      obtain ⟨hn, h4⟩ := h4
      have hA4 : H4 L = some (.lst acc) := k4.same _ _ hA3 nplL
      have x4 := ((xe.keep k2).keep k3).keep k4
      have hacc : acc.length = ds.length := ra.length
      refine ⟨acc, hA4, by omega, ds ++ [d4], acc ++ [v4], ⟨fun a o q n => ?_, fun p e => (x4.pool p e).2.other (npL p e).1 (npL p e).2⟩, upd_same, x4.put (.inr rfl) npL, ?_, by simp; omega, ?_⟩
      · rw [upd_ne (nL a o q)]
        exact (k13.trans k4).same a o q n
      · refine RepL.hold (fun a u q nb => ?_) (fun _ z => .inl z) _ _ ((ra3.keep ((xe.keep k2).keep k3).ctx k4).snoc r4)
        rw [upd_ne (fun z => nb (.inl (.inr z)))]
        exact q
      · rw [show 16777216 - (ds ++ [d4]).length = 16777216 - ds.length - [d4].length by simp; omega]
        simpa using h4
  · intro H ⟨ds, acc, kk, hA, xe, ra, hlen, hgo⟩
    rw [List.drop_length] at hgo
    have hgo : R (ds ++ []) := hgo
    rw [List.append_nil] at hgo
    refine hq ds acc H kk hA (RepL.hold (Hold.refl _ H) (fun a z => .inl ?_) ds acc ra) hgo
    rcases z with (z | z) | z
    · exact .inl (.inl z)
    · exact .inr z
    · exact .inl (.inr z)
end
end Fn
end P_FC
section P_FT
set_option maxHeartbeats 4000000
/-! Comprehensions of one clause; statements; defs. -/
namespace Fn
open PySem PySem.Spec PyProof.Rows L2
section
variable {F : Fam} {O : Nat → Bool} {e : Expr} {es : List Expr} {f : FE} {pos p : Pos}
theorem lc_semF {K : PySem.W.Frag} {wi : TI} {g : TG} {tt : TT} {te : TE} {fi : FI} {G : FG} {ft : FT} {fe : FE} {vs S : List Nat} (hS : ∀ i ∈ S, i ∈ vs)
    (gw : ∀ M π (own : Own) (σ : L2.St) H ρ (R : List D → Prop) (Q : It → Hp → Prop), EnvOk K M π O own σ H ρ → fi ρ R → (∀ l J H1, Keep π H H1 → WalkD K (isPl π) (Bar M own) π H1 l J → R l → Q J H1) → wi σ H Q)
    (gg : ∀ M π (own : Own) (σ : L2.St) H ρ d v (R : Ren → Prop) (Q : L2.St → Hp → Prop), EnvOk K M π O own σ H ρ → Rep K (Bar M own) π H d v → G d ρ R →
      (∀ σ' ρ', EnvOk K M π O own σ' H ρ' → (∀ vs, (∀ i ∈ S, i ∈ vs) → L2.wipe σ' vs = L2.wipe σ vs) → R ρ' → Q σ' H) → g v σ H Q)
    (gt : SemT K O tt ft) (ge : SemE K O te fe) : SemF K O (tLc wi g tt te vs) (eLc fi G ft (lcEl fe) vs) := by
  intro M π own σ H ρ R Q x hf hq
  refine gw M π own σ H ρ _ _ x hf fun l J H1 k1 hw hl L hL => ?_
  exact lc_sem hS gg gt ge (x.keep k1) hw hL hl fun ds xs H2 k2 e2 r2 h2 => hq (.lst ds) L H2 (k1.trans k2) (x.ctx.noneOf k1 hL) ⟨xs, e2, r2⟩ h2
theorem SemF.toE {K : PySem.W.Frag} {t : TE} {f : FE} (h : SemF K O t f) : SemE K O t f := by
  intro M π own σ H ρ R Q x hf hq
  refine h M π own σ H ρ R Q x hf fun d a H' k n r hr => hq d _ H' k ?_ hr
  cases d with
  | lst l =>
    obtain ⟨xs, q, r⟩ := r
    refine ⟨a, xs, rfl, ⟨fun z => ?_, q⟩, RepL.hold (Hold.refl _ _) (fun _ z => .inl (.inl z)) _ _ r⟩
    obtain ⟨o, e⟩ := x.ctx.alloc a z
    rw [n] at e; cases e
  | dct l =>
    obtain ⟨xs, q, r⟩ := r
    refine ⟨a, xs, rfl, ⟨fun z => ?_, .inl q⟩, RepK.hold (Hold.refl _ _) (fun _ z => .inl (.inl z)) _ _ r⟩
    obtain ⟨o, e⟩ := x.ctx.alloc a z
    rw [n] at e; cases e
  | _ => exact r.elim
theorem VF.toE (h : VF F O e f) : VE F O e f := by
  obtain ⟨t, p, g⟩ := h
  exact ⟨t, p, g.toE⟩
theorem vf_lc {elt tg iter : Expr} {ifs : List Expr} {scope : Scope} {own : List (Str × Nat)} {fi : FI} {G : FG} {ft : FT} {fe : FE} {S : List Nat} (hN : F.N.Nodup) (hi : VIR F O tg iter fi) (ok : ∀ i, BlkOk F.N (F.X i).env.scope scope own)
    (hg : VG (F.blk scope) O tg S G) (hS : ∀ i ∈ S, i ∈ own.map (·.2)) (ht : VTs (F.blk scope) O ifs ft) (he : VE (F.blk scope) O elt fe) (hs : ∀ i x, foldedSetIterable iter (F.X i).env x = pure x := by intro _ _; rfl) :
    VF F O (.ListComp elt [⟨tg, iter, ifs, 0⟩] scope pos) (eLc fi G ft (lcEl fe) (own.map (·.2))) := by
  obtain ⟨wi, pw, gw⟩ := hi
  obtain ⟨g, pg, gg⟩ := hg
  obtain ⟨tt, pt, gt⟩ := ht
  obtain ⟨te, pe, ge⟩ := he
  exact ⟨_, fun i => pe_lc (F.calm i) (by rw [F.hN i]; exact hN) (pw i) (by rw [F.hN i]; exact ok i) (fun s H C cl fp => pg (i, s, H, C, cl, fp)) (fun s H C cl fp => pt (i, s, H, C, cl, fp)) (fun s H C cl fp => pe (i, s, H, C, cl, fp)) (hs i), lc_semF hS gw gg gt ge⟩
/-! ### statements -/
variable {st : Stmt} {sts : List Stmt} {a b : FS} {body orelse : List Stmt}
theorem vss_nil : VSs F O [] sSkip := ⟨_, fun _ => pss_nil, fun M π H0 B own σ H ρ P D x fr hf hd => hd.nx own σ H ρ x fr hf⟩
theorem EndsOk.with_nx {K : PySem.W.Frag} {M : Addr → Prop} {π : Pi} {H0 : Hp} {B : Addr → Prop} {P : Po} {D : Ends} (h : EndsOk K M π H0 B O P D) {nx : Ren → Prop} {tn : L2.St → Hp → Prop}
    (hn : ∀ (own : Own) (σ : L2.St) H ρ, EnvOk K M π O own σ H ρ → Fr0 M π H0 B own H → nx ρ → tn σ H) : EndsOk K M π H0 B O { P with nx := nx } { D with nx := tn } := ⟨hn, h.rt, h.bk, h.ct⟩
theorem vss_cons (h1 : VS F O st a) (h2 : VSs F O sts b) : VSs F O (st :: sts) (sSeq a b) := by
  obtain ⟨t, p, g⟩ := h1
  obtain ⟨u, q, g2⟩ := h2
  refine ⟨_, fun i => pss_cons (p i) (q i), fun M π H0 B own σ H ρ P D x fr hf hd => ?_⟩
  exact g M π H0 B own σ H ρ _ _ x fr hf (hd.with_nx fun own' σ' H' ρ' x' fr' hb => g2 M π H0 B own' σ' H' ρ' P D x' fr' hb hd)
theorem vss_one (h1 : VS F O st a) : VSs F O [st] a := by
  obtain ⟨t, p, g⟩ := h1
  exact ⟨_, fun i => pss_one (p i), g⟩
theorem vs_expr (he : VE F O e f) (hs : ∀ i, swapsWith e none pos.line (F.X i).env = pure false := by intro _; rfl) : VS F O (.Expr e pos) (sExp f) := by
  obtain ⟨t, p, g⟩ := he
  refine ⟨_, fun i => ps_expr (p i) (hs i), fun M π H0 B own σ H ρ P D x fr hf hd => ?_⟩
  exact g M π own σ H ρ _ _ x hf fun d v H1 k1 r1 h1 => hd.nx own σ H1 ρ (x.keep k1) (fr.step k1) h1
theorem Rep.barOut {K : PySem.W.Frag} {M : Addr → Prop} {π : Pi} {H : Hp} {own : Own} {d : D} {v : V} (r : Rep K (Bar M own) π H d v) : Rep K M π H d v := Rep.hold (Hold.refl _ _) (fun _ z => .inl (.inl z)) _ _ r
theorem vs_ret (he : VE F O e f) : VS F O (.Return (some e) pos) (sRet f) := by
  obtain ⟨t, p, g⟩ := he
  refine ⟨_, fun i => ps_ret (p i), fun M π H0 B own σ H ρ P D x fr hf hd => ?_⟩
  exact g M π own σ H ρ _ _ x hf fun d v H1 k1 r1 h1 => hd.rt d v H1 (fr.kb.step k1) (Rep.barOut r1) h1
/-- return x, x one's own list -/
theorem vs_retO (j : Nat) {y : Str} {p2 : Pos} (h : ∀ i, PE (F.X i) (.Name y p2) (tVar j)) (hO : O j = true) : VS F O (.Return (some (.Name y p2)) pos) (sRet (eVar j)) := by
  refine ⟨_, fun i => ps_ret (h i), fun M π H0 B own σ H ρ P D x fr hf hd => ?_⟩
  unfold sRet eVar at hf
  split at hf
  · rename_i d e
    obtain ⟨v, e1, h1⟩ := x.slot j d e
    rw [if_pos hO] at h1
    obtain ⟨a, e2, e3, h1⟩ := h1
    refine ⟨v, e1, hd.rt d v H fr.kb ?_ hf⟩
    subst e3
    have na : ¬ M a := (x.own1 j a e2).2.2
    cases d with
    | lst l => obtain ⟨xs, q, r⟩ := h1; exact ⟨a, xs, rfl, ⟨na, q⟩, RepL.hold (Hold.refl _ _) (fun _ z => .inl (.inl z)) _ _ r⟩
    | dct l => obtain ⟨xs, q, r⟩ := h1; exact ⟨a, xs, rfl, ⟨na, .inl q⟩, RepK.hold (Hold.refl _ _) (fun _ z => .inl (.inl z)) _ _ r⟩
    | _ => exact h1.elim
  · exact hf.elim
theorem vs_retN : VS F O (.Return none pos) sRetN := ⟨_, fun _ => ps_retN, fun M π H0 B own σ H ρ P D x fr hf hd => hd.rt .non _ H fr.kb rfl hf⟩
theorem vs_if {c : Expr} {t : FT} (hc : VT F O c t) (h1 : VSs F O body a) (h2 : VSs F O orelse b) : VS F O (.If c body orelse pos) (sIf t a b) := by
  obtain ⟨tc, pc, gc⟩ := hc
  obtain ⟨t1, p1, g1⟩ := h1
  obtain ⟨t2, p2, g2⟩ := h2
  refine ⟨_, fun i => ps_if (pc i) (p1 i) (p2 i), fun M π H0 B own σ H ρ P D x fr hf hd => ?_⟩
  refine gc M π own σ H ρ _ _ x hf fun c H1 k1 h1 => ?_
  cases c with
  | true => exact g1 M π H0 B own σ H1 ρ P D (x.keep k1) (fr.step k1) h1 hd
  | false => exact g2 M π H0 B own σ H1 ρ P D (x.keep k1) (fr.step k1) h1 hd
theorem vs_asg {tg : Expr} {S : List Nat} {G : FG} (he : VE F O e f) (hg : VG F O tg S G) (hs : ∀ i, swapsWithSole [tg] e pos.line (F.X i).env = pure false := by intro _; rfl) (hw : ∀ i, swappedStores [tg] e (F.X i).env = pure none := by intro _; rfl)
    (h1 : ∀ i, (assignEach [tg] (F.X i).env).map (·.2) = [assign tg (F.X i).env] := by intro _; rfl) : VS F O (.Assign [tg] e pos) (sAsg f G) := by
  obtain ⟨t, p, g⟩ := he
  obtain ⟨u, q, g2⟩ := hg
  refine ⟨_, fun i => ps_asg (p i) (q i) (hs i) (hw i) (h1 i), fun M π H0 B own σ H ρ P D x fr hf hd => ?_⟩
  refine g M π own σ H ρ _ _ x hf fun d v H1 k1 r1 h1 => ?_
  exact g2 M π own σ H1 ρ d v _ _ (x.keep k1) r1 h1 fun σ' ρ' x' _ h => hd.nx own σ' H1 ρ' x' (fr.step k1) h
theorem vs_set (j : Nat) {x : Str} {p2 : Pos} (hN : F.N.Nodup) (hj : F.N[j]? = some x) (hO : O j = false) (hx : ∀ i, Loc (F.X i).env.scope x) (hf : ∀ i, (F.X i).fn x = true ∨ (F.X i).env.scope.names.lookup x = some .local) (he : VE F O e f)
    (hs : ∀ i, swapsWith e (some (.Name x p2)) pos.line (F.X i).env = pure false := by intro _; rfl) : VS F O (.Assign [.Name x p2] e pos) (sSet j f) := by
  obtain ⟨t, p, g⟩ := he
  refine ⟨_, fun i => ps_set (by rw [F.hN i]; exact hN) (by rw [F.hN i]; exact hj) (hx i) (p i) (hs i) (hf i), fun M π H0 B own σ H ρ P D x fr hf hd => ?_⟩
  exact g M π own σ H ρ _ _ x hf fun d v H1 k1 r1 h1 => hd.nx own _ H1 _ ((x.keep k1).set hO r1) (fr.step k1) h1
/-- y = [..]: a plain local name -/
theorem vs_setLc (j : Nat) {y : Str} {py : Pos} {elt tg iter : Expr} {ifs : List Expr} {scope : Scope} {own : List (Str × Nat)} {fi : FI} {G : FG} {ft : FT} {fe : FE} {S : List Nat} (hN : F.N.Nodup) (hj : F.N[j]? = some y) (hO : O j = false) (hyl : ∀ i, (F.X i).env.scope.names.lookup y = some .local)
    (hsw : ∀ i, swapsWith (.ListComp elt [⟨tg, iter, ifs, 0⟩] scope p) (some (.Name y py)) pos.line (F.X i).env = pure true)
    (hi : VIR F O tg iter fi) (ok : ∀ i, BlkOk F.N (F.X i).env.scope scope own)
    (hg : VG (F.blk scope) O tg S G) (hS : ∀ i ∈ S, i ∈ own.map (·.2)) (ht : VTs (F.blk scope) O ifs ft) (he : VE (F.blk scope) O elt fe) (hs : ∀ i x, foldedSetIterable iter (F.X i).env x = pure x := by intro _ _; rfl) :
    VS F O (.Assign [.Name y py] (.ListComp elt [⟨tg, iter, ifs, 0⟩] scope p) pos) (sSet j (eLc fi G ft (lcEl fe) (own.map (·.2)))) := by
  obtain ⟨wi, pw, gw⟩ := hi
  obtain ⟨g, pg, gg⟩ := hg
  obtain ⟨tt, pt, gt⟩ := ht
  obtain ⟨te, pe, ge⟩ := he
  refine ⟨_, fun i => ps_setLc (F.calm i) (by rw [F.hN i]; exact hN) (by rw [F.hN i]; exact hj) (hyl i) (hsw i) (pw i) (by rw [F.hN i]; exact ok i) (fun s H C cl fp => pg (i, s, H, C, cl, fp)) (fun s H C cl fp => pt (i, s, H, C, cl, fp)) (fun s H C cl fp => pe (i, s, H, C, cl, fp)) (hs i), fun M π H0 B own' σ H ρ P D x fr hf hd => ?_⟩
  exact (lc_semF (O := O) hS gw gg gt ge).toE M π own' σ H ρ _ _ x hf fun d v H1 k1 r1 h1 => hd.nx own' _ H1 _ ((x.keep k1).set hO r1) (fr.step k1) h1
/-- an own list or dict gets its slot -/
def ownAt (own : Own) (j : Nat) (a : Addr) : Own := fun i => if i = j then some a else own i
theorem EnvOk.setO {K : PySem.W.Frag} {M : Addr → Prop} {π : Pi} {own : Own} {σ : L2.St} {H H' : Hp} {ρ : Ren} {j : Nat} {a : Addr} {d : D} (x : EnvOk K M π O own σ H ρ) (k : Keep π H H') (n : H a = none) (hO : O j = true)
    (r : OwnRep K (fun b => Bar M own b ∨ b = a) π H' a d) : EnvOk K M π O (ownAt own j a) (σ.set j (some (.ref a))) H' (ρ.set j (some d)) := by
  have y := x.keep k
  have hh : Hold (Bar M own) H H' := k.hold x.ctx.hp
  have hM : ∀ b, M b → b ≠ a := fun b z e => by
    obtain ⟨o, q⟩ := x.alloc b z
    rw [e, n] at q; cases q
  have hW : ∀ i b, own i = some b → b ≠ a := fun i b z e => by
    obtain ⟨o, q⟩ := (x.own1 i b z).2.1
    rw [e, n] at q; cases q
  have hth : ∃ o, H' a = some o := by
    cases d with
    | lst l => obtain ⟨xs, q, _⟩ := r; exact ⟨_, q⟩
    | dct l => obtain ⟨xs, q, _⟩ := r; exact ⟨_, q⟩
    | _ => exact r.elim
  have hb : ∀ b, Bar M (ownAt own j a) b → Bar M own b ∨ b = a := fun b z => by
    rcases z with z | ⟨i, z⟩
    · exact .inl (.inl z)
    · unfold ownAt at z
      split at z
      · cases z; exact .inr rfl
      · exact .inl (.inr ⟨i, z⟩)
  have hbn : ∀ b, Bar M (ownAt own j a) b → Bar M own b ∨ H b = none := fun b z => (hb b z).imp id fun e => by rw [e]; exact n
  refine ⟨y.alloc, y.pool, fun i b e => ?_, fun i i' b e e' => ?_, by simp [x.len], fun i d' e => ?_⟩
  · unfold ownAt at e
    split at e
    · rename_i h
      cases e
      exact ⟨by rw [h]; exact hO, hth, fun z => hM _ z rfl⟩
    · exact y.own1 i b e
  · unfold ownAt at e e'
    split at e <;> split at e'
    · rename_i h h'; rw [h, h']
    · cases e; exact absurd rfl (hW _ _ e')
    · cases e'; exact absurd rfl (hW _ _ e)
    · exact x.inj _ _ _ e e'
  · by_cases h : j = i
    · subst h
      by_cases hl : j < ρ.length
      · rw [List.getElem?_set_self hl] at e
        cases e
        refine ⟨_, List.getElem?_set_self (by rw [x.len]; exact hl), ?_⟩
        rw [if_pos hO]
        refine ⟨a, by unfold ownAt; rw [if_pos rfl], rfl, ?_⟩
        cases d with
        | lst l => obtain ⟨xs, q, r⟩ := r; exact ⟨xs, q, RepL.hold (Hold.refl _ _) (fun b z => .inl (hb b z)) _ _ r⟩
        | dct l => obtain ⟨xs, q, r⟩ := r; exact ⟨xs, q, RepK.hold (Hold.refl _ _) (fun b z => .inl (hb b z)) _ _ r⟩
        | _ => exact r.elim
      · rw [List.getElem?_eq_none (by simpa using Nat.le_of_not_lt hl)] at e
        cases e
    · rw [List.getElem?_set_ne h] at e
      obtain ⟨v, e1, h1⟩ := x.slot i d' e
      refine ⟨v, by rw [List.getElem?_set_ne h]; exact e1, ?_⟩
      by_cases hOi : O i = true
      · rw [if_pos hOi] at h1 ⊢
        obtain ⟨c, e2, e3, h1⟩ := h1
        refine ⟨c, by unfold ownAt; rw [if_neg (Ne.symm h)]; exact e2, e3, ?_⟩
        have np := x.notpool e2
        cases d' with
        | lst l => obtain ⟨xs, q, r⟩ := h1; exact ⟨xs, k.same _ _ q np, RepL.hold hh hbn _ _ r⟩
        | dct l => obtain ⟨xs, q, r⟩ := h1; exact ⟨xs, k.same _ _ q np, RepK.hold hh hbn _ _ r⟩
        | _ => exact h1
      · rw [if_neg hOi] at h1 ⊢
        exact Rep.hold hh hbn _ _ h1
theorem Fr0.setO {M : Addr → Prop} {π : Pi} {H0 H H' : Hp} {B : Addr → Prop} {own : Own} {j : Nat} {a : Addr} (fr : Fr0 M π H0 B own H) (k : Keep π H H') (n : H a = none) (hp : ∀ p, isPl π p → ∃ o, H p = some o) : Fr0 M π H0 B (ownAt own j a) H' := by
  refine ⟨fr.kb.step k, fun i b e => ?_, fr.old⟩
  unfold ownAt at e
  split at e
  · cases e
    by_cases hB : B a
    · exact .inl hB
    · refine .inr ?_
      cases q : H0 a with
      | none => rfl
      | some o =>
        by_cases z : isPl π a
        · obtain ⟨o', q'⟩ := hp a z
          rw [n] at q'; cases q'
        · rw [fr.kb.keep a o q hB z] at n; cases n
  · exact fr.newo i b e
theorem EnvOk.plThere {K : PySem.W.Frag} {M : Addr → Prop} {π : Pi} {H : Hp} {own : Own} {σ : L2.St} {ρ : Ren} (x : EnvOk K M π O own σ H ρ) : ∀ p, isPl π p → ∃ o, H p = some o := fun p ⟨l, z⟩ => x.alloc p (x.pool _ z).1.1
theorem vs_setO (j : Nat) {x : Str} {p2 : Pos} (hN : F.N.Nodup) (hj : F.N[j]? = some x) (hO : O j = true) (hx : ∀ i, Loc (F.X i).env.scope x) (hf : ∀ i, (F.X i).fn x = true ∨ (F.X i).env.scope.names.lookup x = some .local) (he : VF F O e f)
    (hs : ∀ i, swapsWith e (some (.Name x p2)) pos.line (F.X i).env = pure false := by intro _; rfl) : VS F O (.Assign [.Name x p2] e pos) (sSet j f) := by
  obtain ⟨t, p, g⟩ := he
  refine ⟨_, fun i => ps_set (by rw [F.hN i]; exact hN) (by rw [F.hN i]; exact hj) (hx i) (p i) (hs i) (hf i), fun M π H0 B own σ H ρ P D x fr hf hd => ?_⟩
  exact g M π own σ H ρ _ _ x hf fun d a H1 k1 n1 r1 h1 => hd.nx _ _ H1 _ (x.setO k1 n1 hO r1) (fr.setO k1 n1 x.plThere) h1

/-! ### loops -/
theorem vs_for {tg it : Expr} {S : List Nat} {G : FG} {fi : FI} (hi : VI F O tg it fi) (hg : VG F O tg S G) (hb : VSs F O body b) (hp : ∀ i, PassesOwn (model (F.X i).prog (F.X i).w) (F.X i).A (F.X i).env (F.X i).xe := by intro _; exact PassesOwn.never)
    (hs : ∀ i x, foldedSetIterable it (F.X i).env x = pure x := by intro _ _; rfl) : VS F O (.For tg it body [] pos) (sFor fi G b) := by
  obtain ⟨wi, pw, gw⟩ := hi
  obtain ⟨g, pg, gg⟩ := hg
  obtain ⟨tb, pb, gb⟩ := hb
  refine ⟨_, fun i => ps_for (hp i) (F.calm i) (pw i) (pg i) (pb i) (hs i), fun M π H0 B own σ H ρ P D x fr hf hd => ?_⟩
  refine gw M π own σ H ρ _ _ x hf fun l J H1 k1 hw hl => ?_
  have x1 := x.keep k1
  have fr1 := fr.step k1
  obtain ⟨Gw, Y, w, gw', yw⟩ := hw
  have hold_of : ∀ {own' : Own} {H' : Hp}, Fr0 M π H1 (fun a => ∃ i, own i = some a) own' H' → Hold (Bar M own) H1 H' := fun fr' a o q nb => fr'.kb.keep a o q (fun z => nb (.inr z)) fun ⟨l, z⟩ => nb (.inl (x1.pool _ z).1.1)
  have out : ∀ {own' : Own} {H' : Hp}, Fr0 M π H1 (fun a => ∃ i, own i = some a) own' H' → Fr0 M π H0 B own' H' := fun fr' => by
    refine ⟨⟨fun a o q nB np => fr'.kb.keep a o (fr1.kb.keep a o q nB np) (fun ⟨i, z⟩ => ?_) np, fr'.kb.pool⟩, fun i a e => ?_, fr1.old⟩
    · rcases fr1.newo i a z with z | z
      · exact nB z
      · rw [q] at z; cases z
    · rcases fr'.newo i a e with ⟨i', z⟩ | z
      · exact fr1.newo i' a z
      · by_cases hB : B a
        · exact .inl hB
        · refine .inr ?_
          cases q : H0 a with
          | none => rfl
          | some o =>
            by_cases zp : isPl π a
            · obtain ⟨o', q'⟩ := x1.plThere a zp
              rw [z] at q'; cases q'
            · rw [fr1.kb.keep a o q hB zp] at z; cases z
  refine for_it w (fun i σ' H' => ∃ (own' : Own) (ρ' : Ren), EnvOk F.K M π O own' σ' H' ρ' ∧ Fr0 M π H1 (fun a => ∃ i, own i = some a) own' H' ∧ forGo G b P (l.drop i) ρ') ?_ ?_ ?_ ?_
  · exact ⟨own, ρ, x1, ⟨⟨fun a o q _ _ => q, fun p e => (x1.pool p e).2⟩, fun i a e => .inl ⟨i, e⟩, fun a z => x1.alloc a z⟩, by simpa using hl⟩
  · intro i σ' H' hi ⟨own', ρ', x', fr', _⟩
    exact gw' H' (hold_of fr')
  · intro i y σ' H' H2 hi ⟨own', ρ', x', fr', hgo⟩ hy
    obtain ⟨k2, d, ed, rd⟩ := yw i H' y H2 hi (hold_of fr') (fun p e => (x'.pool p e).2) hy
    have hdrop : l.drop i = d :: l.drop (i + 1) := by
      obtain ⟨h1, h2⟩ := List.getElem?_eq_some_iff.mp ed
      rw [← h2]
      exact List.drop_eq_getElem_cons h1
    rw [hdrop] at hgo
    have rdd : Rep F.K (Bar M own') π H2 d y := rd _ fun a z => by
      refine ⟨?_, x'.ctx.alloc a z⟩
      rcases z with z | ⟨i, z⟩
      · exact .inl (.inl z)
      · rcases fr'.newo i a z with z | z
        · exact .inl (.inr z)
        · exact .inr z
    refine gg M π own' σ' H2 ρ' d y _ _ (x'.keep k2) rdd hgo fun σ3 ρ3 x3 _ hb3 => ?_
    refine gb M π H1 _ own' σ3 H2 ρ3 _ _ x3 (fr'.step k2) hb3 ⟨fun own4 σ4 H4 ρ4 x4 fr4 h4 => ⟨own4, ρ4, x4, fr4, h4⟩, fun d v H4 kb r h => ?_, fun own4 σ4 H4 ρ4 x4 fr4 h4 => hd.nx own4 σ4 H4 ρ4 x4 (out fr4) h4, fun own4 σ4 H4 ρ4 x4 fr4 h4 => ⟨own4, ρ4, x4, fr4, h4⟩⟩
    have := out (own' := fun _ => none) (H' := H4) ⟨kb, (by intro i a e; exact nomatch e), fun a z => x1.alloc a z⟩
    exact hd.rt d v H4 this.kb r h
  · intro σ' H' ⟨own', ρ', x', fr', hgo⟩
    rw [List.drop_length] at hgo
    exact hd.nx own' σ' H' ρ' x' (out fr') hgo
theorem vs_while {c : Expr} {t : FT} (n : Nat) (hc : VT F O c t) (hb : VSs F O body b) (hp : ∀ i, PassesOwn (model (F.X i).prog (F.X i).w) (F.X i).A (F.X i).env (F.X i).xe := by intro _; exact PassesOwn.never) : VS F O (.While c body [] pos) (sWhile n t b) := by
  obtain ⟨tc, pc, gc⟩ := hc
  obtain ⟨tb, pb, gb⟩ := hb
  refine ⟨_, fun i => ps_while (hp i) (pc i) (pb i), fun M π H0 B own σ H ρ P D x fr hf hd => ?_⟩
  refine ⟨fun m σ H => ∃ (own : Own) (ρ : Ren), EnvOk F.K M π O own σ H ρ ∧ Fr0 M π H0 B own H ∧ whGo t b P m ρ, ⟨n, own, ρ, x, fr, hf⟩, fun m σ H ⟨own, ρ, x, fr, hg⟩ => ?_⟩
  cases m with
  | zero => exact hg.elim
  | succ m =>
    refine gc M π own σ H ρ _ _ x hg fun c H1 k1 h1 => ?_
    cases c with
    | true =>
      rw [if_pos rfl] at h1 ⊢
      refine ⟨fun σ H => ∃ (own : Own) (ρ : Ren), EnvOk F.K M π O own σ H ρ ∧ Fr0 M π H0 B own H ∧ whGo t b P m ρ, fun σ' H' h => ⟨m, Nat.lt_succ_self m, h⟩, ?_⟩
      exact gb M π H0 B own σ H1 ρ _ _ (x.keep k1) (fr.step k1) h1 ⟨fun own4 σ4 H4 ρ4 x4 fr4 h4 => ⟨own4, ρ4, x4, fr4, h4⟩, hd.rt, hd.nx, fun own4 σ4 H4 ρ4 x4 fr4 h4 => ⟨own4, ρ4, x4, fr4, h4⟩⟩
    | false =>
      rw [if_neg Bool.false_ne_true] at h1 ⊢
      exact hd.nx own σ H1 ρ (x.keep k1) (fr.step k1) h1
theorem vs_brk : VS F O (.Break pos) sBrk := ⟨_, fun _ => ps_break, fun M π H0 B own σ H ρ P D x fr hf hd => hd.bk own σ H ρ x fr hf⟩
theorem vs_pass : VS F O (.Pass pos) sSkip := ⟨_, fun _ => ps_pass, fun M π H0 B own σ H ρ P D x fr hf hd => hd.nx own σ H ρ x fr hf⟩
/-- an own list is written -/
theorem EnvOk.putO {K : PySem.W.Frag} {M : Addr → Prop} {π : Pi} {own : Own} {σ : L2.St} {H : Hp} {ρ : Ren} {j : Nat} {a : Addr} {d : D} {u : HO} (x : EnvOk K M π O own σ H ρ) (hj : own j = some a) {d0 : D} (h0 : ρ[j]? = some (some d0))
    (r : OwnRep K (Bar M own) π (upd H a u) a d) : EnvOk K M π O own σ (upd H a u) (ρ.set j (some d)) := by
  have hO := (x.own1 j a hj).1
  have nM := (x.own1 j a hj).2.2
  have hh : Hold (Bar M own) H (upd H a u) := fun b o q nb => by
    rw [upd_ne (fun z => nb (.inr ⟨j, by rw [z]; exact hj⟩))]
    exact q
  have al : ∀ b, (∃ o, H b = some o) → ∃ o, upd H a u b = some o := fun b ⟨o, q⟩ => by
    by_cases z : b = a
    · exact ⟨u, by rw [z]; exact upd_same⟩
    · exact ⟨o, by rw [upd_ne z]; exact q⟩
  refine ⟨fun b z => al b (x.alloc b z), fun p e => ⟨(x.pool p e).1, (x.pool p e).2.other (fun z => nM (by rw [← z]; exact (x.pool p e).1.1)) (fun z => nM (by rw [← z]; exact (x.pool p e).1.2))⟩, fun i b e => ⟨(x.own1 i b e).1, al b (x.own1 i b e).2.1, (x.own1 i b e).2.2⟩, x.inj, by simp [x.len], fun i d' e => ?_⟩
  by_cases h : j = i
  · subst h
    by_cases hlt : j < ρ.length
    · rw [List.getElem?_set_self hlt] at e
      cases e
      obtain ⟨v, e1, h1⟩ := x.slot j d0 h0
      rw [if_pos hO] at h1
      obtain ⟨c, e2, e3, _⟩ := h1
      rw [hj] at e2
      cases e2
      exact ⟨v, e1, by rw [if_pos hO]; exact ⟨a, hj, e3, r⟩⟩
    · rw [List.getElem?_eq_none (by simpa using Nat.le_of_not_lt hlt)] at e
      cases e
  · rw [List.getElem?_set_ne h] at e
    obtain ⟨v, e1, h1⟩ := x.slot i d' e
    refine ⟨v, e1, ?_⟩
    by_cases hOi : O i = true
    · rw [if_pos hOi] at h1 ⊢
      obtain ⟨c, e2, e3, h1⟩ := h1
      refine ⟨c, e2, e3, ?_⟩
      have ne : c ≠ a := fun z => h (x.inj j i a hj (z ▸ e2))
      cases d' with
      | lst l => obtain ⟨xs, q, r⟩ := h1; exact ⟨xs, by rw [upd_ne ne]; exact q, RepL.hold hh (fun _ z => .inl z) _ _ r⟩
      | dct l => obtain ⟨xs, q, r⟩ := h1; exact ⟨xs, by rw [upd_ne ne]; exact q, RepK.hold hh (fun _ z => .inl z) _ _ r⟩
      | _ => exact h1
    · rw [if_neg hOi] at h1 ⊢
      exact Rep.hold hh (fun _ z => .inl z) _ _ h1

theorem Fr0.putO {M : Addr → Prop} {π : Pi} {H0 H : Hp} {B : Addr → Prop} {own : Own} {j : Nat} {a : Addr} {u : HO} (fr : Fr0 M π H0 B own H) (hj : own j = some a) (hp : ∀ p, π = some p → PoolAt (upd H a u) p) : Fr0 M π H0 B own (upd H a u) := by
  refine ⟨⟨fun b o q nB np => ?_, hp⟩, fr.newo, fr.old⟩
  rw [upd_ne]
  · exact fr.kb.keep b o q nB np
  · intro z
    rcases fr.newo j a hj with z2 | z2
    · exact nB (by rw [z]; exact z2)
    · rw [z, z2] at q; cases q
/-- x.append(e) -/
theorem vs_app (j : Nat) {y : Str} {p2 p3 : Pos} (h : ∀ i, PE (F.X i) (.Name y p2) (tVar j)) (hO : O j = true) (he : VE F O e f)
    (hbase : ∀ i, attributeBase (.Name y p2) "append" (F.X i).env (eval (.Name y p2) (F.X i).env) = eval (.Name y p2) (F.X i).env := by intro _; rfl)
    (hfew : ∀ i, ((backTo p (starEach [e] (F.X i).env)).all (fun x => !x.1) && (backToKw p (keywordEach [] (F.X i).env)).all (fun x => x.1.isSome)
      && decide ([e].length + ([] : List Keyword).length + (if ([] : List Keyword).isEmpty then 0 else 1) < 30)) = true := by intro _; rfl)
    (hline : (p3.endLine == p.line) = true := by rfl) (hs : ∀ i, starEach [e] (F.X i).env = [(false, eval e (F.X i).env)] := by intro _; rfl)
    (hw : ∀ i, swapsWith (.Call (.Attribute (.Name y p2) "append" p3) [e] [] p) none pos.line (F.X i).env = pure false := by intro _; rfl) :
    VS F O (.Expr (.Call (.Attribute (.Name y p2) "append" p3) [e] [] p) pos) (sApp j f) := by
  obtain ⟨t, pt, g⟩ := he
  refine ⟨tDrop (tBM F.K "list" rAppend (tVar j) (tCons t tNil)), fun i => ?_, fun M π H0 B own σ H ρ P D x fr hf hd => ?_⟩
  · rw [← F.hK i]
    exact ps_expr (pe_bm PySem.F.plainAttrs_list PySem.F.slot_list_append PySem.F.type_list_append mt_append (h i) (pa_cons (pt i) pa_nil (hs i)) (hbase i) (hfew i) hline (hs i) (by rfl)) (hw i)
  · unfold sApp at hf
    split at hf
    · rename_i l e0
      obtain ⟨v, e1, h1⟩ := x.slot j (.lst l) e0
      rw [if_pos hO] at h1
      obtain ⟨a, e2, e3, xs, q, r⟩ := h1
      subst e3
      refine ⟨.ref a, e1, .inl ⟨rfl, xs, SqL.of q⟩, g M π own σ H ρ _ _ x hf fun d v H1 k1 r1 h1 => ?_⟩
      have x1 := x.keep k1
      have q1 : H1 a = some (.lst xs) := k1.same _ _ q (x.notpool e2)
      have r' := r.keep x.ctx k1
      have hlen := r.length
      refine ⟨a, xs, v, rfl, rfl, q1, by rw [hlen, sizeLine_eq]; exact h1.1, ?_⟩
      have hh : Hold (Bar M own) H1 (upd H1 a (.lst (xs ++ [v]))) := fun b o q nb => by
        rw [upd_ne (fun z => nb (.inr ⟨j, by rw [z]; exact e2⟩))]
        exact q
      have x2 := x1.putO (u := .lst (xs ++ [v])) e2 e0 (d := .lst (l ++ [d])) ⟨_, upd_same, RepL.hold hh (fun _ z => .inl z) _ _ (r'.snoc r1)⟩
      exact hd.nx own σ _ _ x2 ((fr.step k1).putO e2 fun p e => (x2.pool p e).2) h1.2
    · exact hf.elim

/-- x.extend(e) -/
theorem vs_ext (j : Nat) {y : Str} {p2 p3 : Pos} (h : ∀ i, PE (F.X i) (.Name y p2) (tVar j)) (hO : O j = true) (he : VR F O e f)
    (hbase : ∀ i, attributeBase (.Name y p2) "extend" (F.X i).env (eval (.Name y p2) (F.X i).env) = eval (.Name y p2) (F.X i).env := by intro _; rfl)
    (hfew : ∀ i, ((backTo p (starEach [e] (F.X i).env)).all (fun x => !x.1) && (backToKw p (keywordEach [] (F.X i).env)).all (fun x => x.1.isSome)
      && decide ([e].length + ([] : List Keyword).length + (if ([] : List Keyword).isEmpty then 0 else 1) < 30)) = true := by intro _; rfl)
    (hline : (p3.endLine == p.line) = true := by rfl) (hs : ∀ i, starEach [e] (F.X i).env = [(false, eval e (F.X i).env)] := by intro _; rfl)
    (hw : ∀ i, swapsWith (.Call (.Attribute (.Name y p2) "extend" p3) [e] [] p) none pos.line (F.X i).env = pure false := by intro _; rfl) :
    VS F O (.Expr (.Call (.Attribute (.Name y p2) "extend" p3) [e] [] p) pos) (sExt j f) := by
  obtain ⟨t, pt, g⟩ := he
  refine ⟨tDrop (tBM F.K "list" rExtend (tVar j) (tCons t tNil)), fun i => ?_, fun M π H0 B own σ H ρ P D x fr hf hd => ?_⟩
  · rw [← F.hK i]
    exact ps_expr (pe_bm PySem.F.plainAttrs_list PySem.F.slot_list_extend PySem.F.type_list_extend mt_extend (h i) (pa_cons (pt i) pa_nil (hs i)) (hbase i) (hfew i) hline (hs i) (by rfl)) (hw i)
  · unfold sExt at hf
    split at hf
    · rename_i l e0
      obtain ⟨v, e1, h1⟩ := x.slot j (.lst l) e0
      rw [if_pos hO] at h1
      obtain ⟨a, e2, e3, xs, q, r⟩ := h1
      subst e3
      refine ⟨.ref a, e1, .inl ⟨rfl, xs, SqL.of q⟩, g M π own σ H ρ _ _ x hf fun d v H1 k1 r1 h1 => ?_⟩
      have x1 := x.keep k1
      have q1 : H1 a = some (.lst xs) := k1.same _ _ q (x.notpool e2)
      have r' := r.keep x.ctx k1
      have hlen := r.length
      cases d with
      | lst m =>
        obtain ⟨b, zs, eb, _, qb, rb⟩ := r1
        subst eb
        have hlen2 := rb.length
        refine ⟨a, b, xs, zs, rfl, rfl, q1, qb, by rw [hlen, hlen2, sizeLine_eq]; exact h1.1, ?_⟩
        have hh : Hold (Bar M own) H1 (upd H1 a (.lst (xs ++ zs))) := fun b o q nb => by
          rw [upd_ne (fun z => nb (.inr ⟨j, by rw [z]; exact e2⟩))]
          exact q
        have x2 := x1.putO (u := .lst (xs ++ zs)) e2 e0 (d := .lst (l ++ m)) ⟨_, upd_same, RepL.hold hh (fun _ z => .inl z) _ _ (r'.append rb)⟩
        exact hd.nx own σ _ _ x2 ((fr.step k1).putO e2 fun p e => (x2.pool p e).2) h1.2
      | _ => exact h1.elim
    · exact hf.elim
end
/-! ### a def -/
structure Ent (k : Nat) (qual : Str) (scope : Scope) (f : Addr) where
  cdv : Value
  A : Around
  outer : List Env
  s : Shared
  H : Hp
  E : XK
  hr : Room k (A.deeper (envOfC qual scope s.heap.objs.size f cdv))
/-- a def's body at any call -/
def famD (P : Program) (w : World) (K : PySem.W.Frag) (mg : Str → Option Value) (base : Heap) (N : List Str) (qual : Str) (scope : Scope) (f : Addr) (k : Nat) : Fam where
  ι := Ent k qual scope f
  X := fun z => (cxOf L2.CX0 P w K mg base N qual scope f z.cdv z.A z.outer z.s z.H z.E).nox
  P := P
  w := w
  K := K
  mg := mg
  base := base
  N := N
  k := k
  hP := fun _ => rfl
  hw := fun _ => rfl
  hK := fun _ => rfl
  hmg := fun _ => rfl
  hbase := fun _ => rfl
  hN := fun _ => rfl
  calm := fun _ => rfl
  room := fun z => z.hr
theorem get_start {N : List Str} {vs : List V} {i : Nat} {v : V} (h : vs[i]? = some v) : (L2.start N vs)[i]? = some (some v) := by
  unfold L2.start
  have hl : i < vs.length := (List.getElem?_eq_some_iff.mp h).1
  rw [List.getElem?_append_left (by simpa using hl), List.getElem?_map, h]
  rfl
theorem ok_def {P : Program} {w : World} {K : PySem.W.Frag} {mg : Str → Option Value} {base : Heap} {x qual : Str} {params : Arguments} {body : List Stmt} {scope : Scope} {f : Addr} {fd : FuncData} {N ps : List Str} {k : Nat} {O : Nat → Bool} {b : FS} {n p : Nat}
    (F : FunD K x qual params body scope [] [] f fd) (S : FnScope N ps scope) (hn : N.length = n) (hp : ps.length = p) (hO : ∀ i, i < p → O i = false) (hle : p ≤ n) (hb : VSs (famD P w K mg base N qual scope f k) O body b) :
    FnOk P w K mg base L2.CX0 (k + 1) f fd ps (spD K (fnD n p b)) := by
  subst hn hp
  obtain ⟨t, pt, g⟩ := hb
  refine F.ok S (fun vs H Q E h => ?_) (fun cdv A outer s H vs Q E hr h => ?_)
  · obtain ⟨N', π, ds, R, c, r, h, _⟩ := h
    rw [r.length]
    exact h.1
  · obtain ⟨M, π, ds, R, c, r, ⟨h1, h2⟩, hq⟩ := h
    refine ⟨t, PSs.nox (pt ⟨cdv, A, outer, s, H, E, hr⟩), ?_⟩
    have hl := r.length
    refine g M π H (fun _ => False) (fun _ => none) (L2.start N vs) H _ _ _ ⟨c.alloc, c.pool, (by intro i a e; exact nomatch e), (by intro i j a e; exact nomatch e), ?_, fun i d e => ?_⟩ ⟨⟨fun a o q _ _ => q, fun p e => (c.pool p e).2⟩, (by intro i a e; exact nomatch e), c.alloc⟩ h2 ⟨fun own σ H' ρ x fr h => ?_, fun d v H' kb r' h => ?_, fun _ _ _ _ _ _ h => h.elim, fun _ _ _ _ _ _ h => h.elim⟩
    · unfold L2.start
      simp only [List.length_append, List.length_map, List.length_replicate]
      omega
    · have hi : i < ds.length := by
        rcases Nat.lt_or_ge i ds.length with z | z
        · exact z
        · rw [List.getElem?_append_right (by simpa using z)] at e
          have := List.mem_of_getElem? e
          have := List.eq_of_mem_replicate this
          cases this
      rw [List.getElem?_append_left (by simpa using hi), List.getElem?_map] at e
      have ed : ds[i]? = some d := by
        rw [List.getElem?_eq_getElem hi] at e ⊢
        simpa using e
      obtain ⟨v, ev, rv⟩ := r.get ed
      refine ⟨v, get_start ev, ?_⟩
      rw [if_neg (by rw [hO i (by omega)]; decide)]
      exact Rep.hold (Hold.refl _ _) (fun a z => z.elim .inl (by intro ⟨_, e⟩; exact nomatch e)) _ _ rv
    · exact hq .non _ H' ⟨fun a o q n => fr.kb.keep a o q (fun z => z) n, fr.kb.pool⟩ rfl h
    · exact hq d v H' ⟨fun a o q n => kb.keep a o q (fun z => z) n, kb.pool⟩ r' h
end Fn
end P_FT
section P_FG
set_option maxHeartbeats 4000000
/-! Comprehensions of any number of clauses. -/
namespace Fn
open PySem PySem.Spec PyProof.Rows L2
/-- the comprehension e: its clauses, and what an element does -/
structure Kd (e : Expr) (gens : List Comprehension) (emit : Value → Env → Sem Unit) : Prop where
  cl : clausesOf e = gens
  und : ∀ (A : Around) (k : Nat) (itv acc : Value) (env : Env), A.under (.compLoop e k itv acc env) = A ∧ A.under (.compStart e k itv acc env) = A
  den : ∀ (prog : Program) (w : World) (k : Nat) (itv acc : Value) (env : Env), (model prog w).den (.compLoop e k itv acc env) = (compTurn e k itv acc env).onRaise (fun x => do noteFrame x env; theTreesLotGoes x) ∧
    (model prog w).den (.compStart e k itv acc env) = (compStart e k itv acc env).onRaise (fun x => do noteFrame x env; standAt theWindowsPlace)
  last : ∀ {k : Nat} {t i : Expr} {ifs : List Expr}, gens[k]? = some ⟨t, i, ifs, 0⟩ → gens[k + 1]? = none → ∀ (itv acc : Value) (env : Env), compTurn e k itv acc env = (do
      standAt i.pos
      match ← pyNext itv with
      | none => pure (.done .next)
      | some v =>
        letOwnedTupleGo t itv v
        assign t env v
        let mut ok := true
        for c in ifs do
          if ok then ok ← isTrue c env (eval c env)
        if ok then
          emit acc env
        again (.compLoop e k itv acc env))
  next : ∀ {k : Nat} {t i t1 i1 : Expr} {ifs ifs1 : List Expr}, gens[k]? = some ⟨t, i, ifs, 0⟩ → gens[k + 1]? = some ⟨t1, i1, ifs1, 0⟩ → ∀ (itv acc : Value) (env : Env), compTurn e k itv acc env = (do
      standAt i.pos
      match ← pyNext itv with
      | none => pure (.done .next)
      | some v =>
        letOwnedTupleGo t itv v
        assign t env v
        let mut ok := true
        for c in ifs do
          if ok then ok ← isTrue c env (eval c env)
        if ok then
          let x ← eval i1 env
          standAt i1.pos
          let x ← foldedSetIterable i1 env x
          let _ ← runOwn (.compStart e (k + 1) (← holding [x] (pyIter x)) acc env) env
        again (.compLoop e k itv acc env))
theorem kd_list (elt : Expr) (gens : List Comprehension) (scope : Scope) (pos : Pos) : Kd (.ListComp elt gens scope pos) gens (fun acc env => do let _ ← call (.builtin "list.append") [acc, ← eval elt env]) where
  cl := rfl
  und := fun _ _ _ _ _ => ⟨rfl, rfl⟩
  den := fun _ _ _ _ _ _ => ⟨rfl, rfl⟩
  last := fun hg hn itv acc env => by
    unfold compTurn
    simp only [hg, hn]
    rfl
  next := fun hg hn itv acc env => by
    unfold compTurn
    simp only [hg, hn]
    rfl
theorem kd_set (elt : Expr) (gens : List Comprehension) (scope : Scope) (pos : Pos) : Kd (.SetComp elt gens scope pos) gens (fun acc env => do let v ← eval elt env; standAt elt.pos; let _ ← call (.builtin "set.add") [acc, v]) where
  cl := rfl
  und := fun _ _ _ _ _ => ⟨rfl, rfl⟩
  den := fun _ _ _ _ _ _ => ⟨rfl, rfl⟩
  last := fun hg hn itv acc env => by
    unfold compTurn
    simp only [hg, hn]
    rfl
  next := fun hg hn itv acc env => by
    unfold compTurn
    simp only [hg, hn]
    rfl
section
variable {prog : Program} {w : World} {A : Around} {R : Result → Shared → Prop} {s : Shared} {e : Expr} {gens : List Comprehension} {emit : Value → Env → Sem Unit} {acc : Value} {env : Env} {k : Nat} {t i t1 i1 : Expr} {ifs ifs1 : List Expr}
abbrev testsT (ifs : List Expr) (env : Env) : Sem Bool := forIn ifs true fun c r => if r = true then do let ok ← isTrue c env (eval c env); pure (ForInStep.yield ok) else pure (ForInStep.yield r)
/-- a clause's loop: cont tells what is asked where the tests hold -/
theorem loopK {itv : Value} (kd : Kd e gens emit) (hg : gens[k]? = some ⟨t, i, ifs, 0⟩) (I : Nat → Shared → Prop) (cont : Nat → Shared → Prop)
    (hc : ∀ n s, cont n s → (gens[k + 1]? = none ∧ wpAny (model prog w) A (emit acc env) (fun _ s' => ∃ m, m < n ∧ I m s') (fun _ _ => False) s) ∨
      ∃ t1 i1 ifs1, gens[k + 1]? = some ⟨t1, i1, ifs1, 0⟩ ∧ (∀ x, foldedSetIterable i1 env x = pure x) ∧ wpAny (model prog w) A (eval i1 env) (fun x s₄ => wpAny (model prog w) A (pyIter x) (fun it1 s₅ =>
        codeAny (model prog w) A (.compStart e (k + 1) it1 acc env) (fun r s' => match r with
          | .ok _ => ∃ m, m < n ∧ I m s'
          | .error _ => False) s₅) (fun _ _ => False) s₄) (fun _ _ => False) s)
    (hk : (∃ t1 i1 ifs1, gens[k + 1]? = some ⟨t1, i1, ifs1, 0⟩) ∨ gens[k + 1]? = none)
    (turn : ∀ n s, I n s → wpAny (model prog w) A (pyNext itv) (fun r s₁ => match r with
      | none => R (.ok .next) s₁
      | some v => wpAny (model prog w) A (letOwnedTupleGo t itv v) (fun _ s₁' => wpAny (model prog w) A (assign t env v) (fun _ s₂ =>
          wpAny (model prog w) A (testsT ifs env) (fun ok s₃ => if ok = true then cont n s₃ else ∃ m, m < n ∧ I m s₃) (fun _ _ => False) s₂) (fun _ _ => False) s₁') (fun _ _ => False) s₁) (fun _ _ => False) s)
    (n : Nat) (h : I n s) : codeAny (model prog w) A (.compLoop e k itv acc env) R s := by
  refine codeAny_loop rfl I (fun n s hI => ?_) n h
  rw [(kd.und A k itv acc env).1, (kd.den prog w k itv acc env).1]
  refine wpAny_noted ?_
  have ff : ∀ {α : Type} {T : Sem α} {Q : α → Shared → Prop} {E : Value → Shared → Prop} {s : Shared}, wpAny (model prog w) A T Q (fun _ _ => False) s → wpAny (model prog w) A T Q E s := fun h => wpAny_mono h (fun _ _ z => z) fun _ _ z => z.elim
  rcases hk with ⟨t1, i1, ifs1, hn⟩ | hn
  · rw [kd.next hg hn]
    refine wpAny_bind (wpAny_standAt (wpAny_bind (wpAny_mono (ff (turn n s hI)) (fun r s₁ h₁ => ?_) fun _ _ h' => h')))
    cases r with
    | none => exact wpAny_pure h₁
    | some v =>
      refine wpAny_bind (wpAny_mono (ff h₁) (fun _ s₁' h₁' => ?_) fun _ _ h' => h')
      refine wpAny_bind (wpAny_mono (ff h₁') (fun _ s₂ h₂ => wpAny_bind (wpAny_mono (ff h₂) (fun ok s₃ h₃ => ?_) fun _ _ h' => h')) fun _ _ h' => h')
      cases ok with
      | false => exact wpAny_pure ⟨rfl, h₃⟩
      | true =>
        rcases hc n s₃ h₃ with ⟨hn', _⟩ | ⟨t2, i2, ifs2, hn', hs, h₃⟩
        · rw [hn] at hn'; cases hn'
        · rw [hn] at hn'
          cases hn'
          refine wpAny_bind (wpAny_mono (ff h₃) (fun x s₄ h₄ => ?_) fun _ _ h' => h')
          refine wpAny_bind (wpAny_standAt (wpAny_bind (wpAny_of_eq (hs x) (wpAny_bind (wpAny_holding (wpAny_mono (ff h₄) (fun it1 s₅ h₅ => ?_) fun _ _ h' => h'))))))
          refine wpAny_bind (wpAny_runOwn ?_)
          rw [Around.mark_none]
          refine codeAny_mono h₅ fun r s' hr => ?_
          cases r with
          | ok f =>
            first
              | exact wpAny_pure ⟨rfl, hr⟩
              | exact wpAny_bind (wpAny_pure (wpAny_pure ⟨rfl, hr⟩))
          | error e => exact hr.elim
  · rw [kd.last hg hn]
    refine wpAny_bind (wpAny_standAt (wpAny_bind (wpAny_mono (ff (turn n s hI)) (fun r s₁ h₁ => ?_) fun _ _ h' => h')))
    cases r with
    | none => exact wpAny_pure h₁
    | some v =>
      refine wpAny_bind (wpAny_mono (ff h₁) (fun _ s₁' h₁' => ?_) fun _ _ h' => h')
      refine wpAny_bind (wpAny_mono (ff h₁') (fun _ s₂ h₂ => wpAny_bind (wpAny_mono (ff h₂) (fun ok s₃ h₃ => ?_) fun _ _ h' => h')) fun _ _ h' => h')
      cases ok with
      | false => exact wpAny_pure ⟨rfl, h₃⟩
      | true =>
        rcases hc n s₃ h₃ with ⟨_, h₃⟩ | ⟨t2, i2, ifs2, hn', _⟩
        · exact wpAny_bind (wpAny_mono (ff h₃) (fun _ s₅ h₅ => wpAny_pure ⟨rfl, h₅⟩) fun _ _ h' => h')
        · rw [hn] at hn'; cases hn'
/-- a clause's start -/
theorem startK {itv : Value} (kd : Kd e gens emit) (hg : gens[k]? = some ⟨t, i, ifs, 0⟩) (h0 : codeAny (model prog w) A (.compLoop e k itv acc env) R s)
    (h : wpAny (model prog w) A (pyIter itv) (fun it' s' => codeAny (model prog w) A (.compLoop e k it' acc env) R s') (notedBy (model prog w) A env fun x s' => R (.error x) s') s) :
    codeAny (model prog w) A (.compStart e k itv acc env) R s := by
  refine codeAny_of_tree ?_
  rw [(kd.und A k itv acc env).2, (kd.den prog w k itv acc env).2]
  refine wpAny_notedAt ?_
  unfold compStart
  rw [kd.cl, hg]
  show wpAny _ _ (ask >>= _) _ _ s
  refine wpAny_bind (wpAny_askSetting (wpAny_ite ?_))
  split
  · first
      | exact wpAny_bind (wpAny_pure (wpAny_pure (And.intro rfl h0)))
      | exact wpAny_pure (And.intro rfl h0)
  · first
      | exact wpAny_bind (wpAny_rule (wpAny_bind (wpAny_standAt (wpAny_bind (wpAny_mono h (fun it' s' h' => wpAny_pure (And.intro rfl h')) fun _ _ x => x)))))
      | (refine wpAny_bind (wpAny_rule ?_); show wpAny _ _ (standAt i.pos >>= _) _ _ s; exact wpAny_bind (wpAny_standAt (wpAny_bind (wpAny_mono h (fun it' s' h' => wpAny_pure (And.intro rfl h')) fun _ _ x => x))))
end
/-! ### the readings -/
abbrev TEm := L2.St → Hp → (Hp → Prop) → Prop
/-- one clause's loop from H to N; r: what follows the tests -/
def tLp (J : It) (g : TG) (tt : TT) (vs : List Nat) (r : TEm) : TEm := fun σ H N => ∃ W : Nat → Nat → Hp → Prop, (∃ m, W 0 m H) ∧ ∀ i m H, W i m H →
  (J.stop i H ∧ N H) ∨ (J.go i H ∧ ∃ N1 : Hp → Prop, (∀ H', N1 H' → ∃ m', m' < m ∧ W (i + 1) m' H') ∧ ∀ x H', J.yld i H x H' → g x (L2.wipe σ vs) H' fun σ2 H2 => L2.wipe σ2 vs = L2.wipe σ vs ∧ tt σ2 H2 fun b H3 =>
    if b = true then r σ2 H3 N1 else N1 H3)
abbrev ClR := TI × TG × TT × List Nat
def tCl (em : TEm) : List ClR → TEm
  | [] => em
  | (wi, g, tt, vs) :: cs => fun σ H N => wi σ H fun J H1 => tLp J g tt vs (tCl em cs) σ H1 N
/-- the clauses behind the k-th -/
inductive Cls (Y : Cx) : List Comprehension → List ClR → List Nat → Prop where
  | nil : Cls Y [] [] []
  | cons {t i : Expr} {ifs : List Expr} {gs : List Comprehension} {wi : TI} {g : TG} {tt : TT} {vs vs' : List Nat} {cs : List ClR} (hi : PI Y t i wi) (hg : PG Y t g) (ht : PTs Y ifs tt) (hs : ∀ x, foldedSetIterable i Y.env x = pure x) (hv : ∀ j ∈ vs', j ∈ vs) (h : Cls Y gs cs vs') :
      Cls Y (⟨t, i, ifs, 0⟩ :: gs) ((wi, g, tt, vs) :: cs) vs
section
variable {Y : Cx} {e : Expr} {gens : List Comprehension} {emit : Value → Env → Sem Unit} {acc : Value} {em : TEm}
/-- an element's work -/
def EmOk (Y : Cx) (emit : Value → Env → Sem Unit) (acc : Value) (em : TEm) : Prop := ∀ (pins : List (Addr × Obj)) (s : Shared) (σ : L2.St) (H : Hp) (N : Hp → Prop), Inv Y pins σ H s → em σ H N →
  wpAny (model Y.prog Y.w) Y.A (emit acc Y.env) (fun _ s' => ∃ H', Inv Y pins σ H' s' ∧ N H') (fun _ _ => False) s
theorem loop_ok (kd : Kd e gens emit) (hc : Y.calm = true) (he : EmOk Y emit acc em) (hx : Y.xe = fun _ _ => False) : ∀ (gs : List Comprehension) (cs : List ClR) (vs' : List Nat), Cls Y gs cs vs' → ∀ (k : Nat) (t i : Expr) (ifs : List Expr) (g : TG) (tt : TT) (vs : List Nat),
    gens[k]? = some ⟨t, i, ifs, 0⟩ → (∀ j, gens[k + 1 + j]? = gs[j]?) → PG Y t g → PTs Y ifs tt → (∀ j ∈ vs', j ∈ vs) →
    ∀ (pins : List (Addr × Obj)) (s : Shared) (σ : L2.St) (H : Hp) (N : Hp → Prop) (J : It) (fp : List Addr) (it : Addr) (tn : Nat → Heap → Prop), Inv Y pins σ H s → Turn Y.prog Y.w Y.K t J fp it tn → tn 0 s.heap → (∀ b ∈ fp, FpOk Y pins H b) → tLp J g tt vs (tCl em cs) σ H N →
    codeAny (model Y.prog Y.w) Y.A (.compLoop e k (.ref it) acc Y.env) (fun r s' => match r with
      | .ok _ => ∃ H', Inv Y pins (L2.wipe σ vs) H' s' ∧ N H'
      | .error _ => False) s := by
  intro gs
  induction gs with
  | nil =>
    intro cs vs' hcs k t i ifs g tt vs hg hd pg pt hv pins s σ H N J fp it tn I T st hf hw
    cases hcs
    obtain ⟨W, ⟨m0, w0⟩, turn⟩ := hw
    have hn : gens[k + 1]? = none := by simpa using hd 0
    have stat : ∀ {H' : Hp}, (∀ b ∈ fp, H' b = none) → ∀ b ∈ fp, FpOk Y pins H' b := fun hn b hb => ⟨hn b hb, (hf b hb).2⟩
    refine loopK kd hg (fun n s' => ∃ j H', Inv Y pins (L2.wipe σ vs) H' s' ∧ tn j s'.heap ∧ (∀ b ∈ fp, H' b = none) ∧ W j n H')
      (fun n s' => wpAny (model Y.prog Y.w) Y.A (emit acc Y.env) (fun _ s' => ∃ m, m < n ∧ ∃ j H', Inv Y pins (L2.wipe σ vs) H' s' ∧ tn j s'.heap ∧ (∀ b ∈ fp, H' b = none) ∧ W j m H') (fun _ _ => False) s')
      (fun n s' h => .inl ⟨hn, h⟩) (.inr hn) ?_ m0 ⟨0, H, I.weak (L2.wipe_length _ _) (fun j v e => (L2.wipe_some e).1), st, fun b hb => (hf b hb).1, w0⟩
    rintro n s2 ⟨j, H2, I2, st2, n2, w2⟩
    rcases turn j n H2 w2 with ⟨stop, nx⟩ | ⟨go, N1, hN1, step⟩
    · refine thnF (T.done Y rfl rfl rfl hc j _ s2 _ H2 (fun _ _ => False) I2 (stat n2) st2 stop) fun r s3 ⟨hr, I3⟩ => ?_
      subst hr
      exact ⟨H2, I3, nx⟩
    · refine thnF (T.item Y rfl rfl rfl hc j _ s2 _ H2 (fun _ _ => False) I2 (stat n2) st2 go) fun r s3 ⟨u1, hr, h3⟩ => ?_
      subst hr
      refine thnF h3 fun _ s4 ⟨x1, H4, I4, r4, y4, st4, n4⟩ => ?_
      have I4' := I4.pinned (stat n4) (T.obj _ _ st4)
      have pgr := pg.run _ s4 _ H4 x1 u1 _ I4' r4 (step x1 H4 y4)
      rw [hx] at pgr
      refine thnF pgr fun _ s5 ⟨σ5, H5, I5, hw5, q5⟩ => ?_
      have ptr := pt.run _ s5 σ5 H5 _ I5 q5
      rw [hx] at ptr
      refine thnF ptr fun b1 s6 ⟨H6, I6, q6⟩ => ?_
      have fin : ∀ {s' : Shared} {H' : Hp}, Inv Y (pins ++ pinsAt fp s4.heap) σ5 H' s' → N1 H' → ∃ m, m < n ∧ ∃ j H', Inv Y pins (L2.wipe σ vs) H' s' ∧ tn j s'.heap ∧ (∀ b ∈ fp, H' b = none) ∧ W j m H' := fun {s' H'} I' nx => by
        obtain ⟨m', hm, w'⟩ := hN1 H' nx
        have pin' : ∀ b ∈ fp, ∀ o, s4.heap.get? b = some o → s'.heap.get? b = some o ∧ H' b = none := fun b hb o e =>
          let z := I'.pin (b, o) (List.mem_append_right _ (List.mem_append_right _ (mem_pinsAt hb e)))
          ⟨z.1, z.2.1⟩
        refine ⟨m', hm, j + 1, H', I'.unpinned.weak (by rw [← hw5, L2.wipe_length]) (fun j v e => by rw [← hw5] at e; exact (L2.wipe_some e).1), T.keep _ _ _ st4 fun b hb o e => (pin' b hb o e).1, fun b hb => ?_, w'⟩
        obtain ⟨o, e, _⟩ := T.obj _ _ st4 b hb
        exact (pin' b hb o e).2
      cases b1 with
      | false =>
        simp only [Bool.false_eq_true, if_false] at q6 ⊢
        exact fin I6 q6
      | true =>
        simp only [if_true] at q6 ⊢
        exact thnF (he _ s6 σ5 H6 _ I6 q6) fun _ s7 ⟨H7, I7, nx⟩ => fin I7 nx
  | cons g1 gs ih =>
    intro cs vs' hcs k t i ifs g tt vs hg hd pg pt hv pins s σ H N J fp it tn I T st hf hw
    cases hcs with
    | @cons t1 i1 ifs1 _ wi1 g1' tt1 _ vs2 cs' hi1 hg1 ht1 hs1 hv1 hcs' =>
    obtain ⟨W, ⟨m0, w0⟩, turn⟩ := hw
    have hn : gens[k + 1]? = some ⟨t1, i1, ifs1, 0⟩ := by simpa using hd 0
    have hd' : ∀ j, gens[k + 1 + 1 + j]? = gs[j]? := fun j => by
      have := hd (j + 1)
      rw [show k + 1 + (j + 1) = k + 1 + 1 + j by omega] at this
      simpa using this
    have stat : ∀ {H' : Hp}, (∀ b ∈ fp, H' b = none) → ∀ b ∈ fp, FpOk Y pins H' b := fun hn b hb => ⟨hn b hb, (hf b hb).2⟩
    refine loopK kd hg (fun n s' => ∃ j H', Inv Y pins (L2.wipe σ vs) H' s' ∧ tn j s'.heap ∧ (∀ b ∈ fp, H' b = none) ∧ W j n H')
      (fun n s' => wpAny (model Y.prog Y.w) Y.A (eval i1 Y.env) (fun x s₄ => wpAny (model Y.prog Y.w) Y.A (pyIter x) (fun it1 s₅ =>
        codeAny (model Y.prog Y.w) Y.A (.compStart e (k + 1) it1 acc Y.env) (fun r s' => match r with
          | .ok _ => ∃ m, m < n ∧ ∃ j H', Inv Y pins (L2.wipe σ vs) H' s' ∧ tn j s'.heap ∧ (∀ b ∈ fp, H' b = none) ∧ W j m H'
          | .error _ => False) s₅) (fun _ _ => False) s₄) (fun _ _ => False) s')
      (fun n s' h => .inr ⟨t1, i1, ifs1, hn, hs1, h⟩) (.inl ⟨t1, i1, ifs1, hn⟩) ?_ m0 ⟨0, H, I.weak (L2.wipe_length _ _) (fun j v e => (L2.wipe_some e).1), st, fun b hb => (hf b hb).1, w0⟩
    rintro n s2 ⟨j, H2, I2, st2, n2, w2⟩
    rcases turn j n H2 w2 with ⟨stop, nx⟩ | ⟨go, N1, hN1, step⟩
    · refine thnF (T.done Y rfl rfl rfl hc j _ s2 _ H2 (fun _ _ => False) I2 (stat n2) st2 stop) fun r s3 ⟨hr, I3⟩ => ?_
      subst hr
      exact ⟨H2, I3, nx⟩
    · refine thnF (T.item Y rfl rfl rfl hc j _ s2 _ H2 (fun _ _ => False) I2 (stat n2) st2 go) fun r s3 ⟨u1, hr, h3⟩ => ?_
      subst hr
      refine thnF h3 fun _ s4 ⟨x1, H4, I4, r4, y4, st4, n4⟩ => ?_
      have I4' := I4.pinned (stat n4) (T.obj _ _ st4)
      have pgr := pg.run _ s4 _ H4 x1 u1 _ I4' r4 (step x1 H4 y4)
      rw [hx] at pgr
      refine thnF pgr fun _ s5 ⟨σ5, H5, I5, hw5, q5⟩ => ?_
      have ptr := pt.run _ s5 σ5 H5 _ I5 q5
      rw [hx] at ptr
      refine thnF ptr fun b1 s6 ⟨H6, I6, q6⟩ => ?_
      have fin : ∀ {σ9 : L2.St} {s' : Shared} {H' : Hp}, Inv Y (pins ++ pinsAt fp s4.heap) σ9 H' s' → (L2.wipe σ vs).length = σ9.length → (∀ (j : Nat) v, (L2.wipe σ vs)[j]? = some (some v) → σ9[j]? = some (some v)) → N1 H' → ∃ m, m < n ∧ ∃ j H', Inv Y pins (L2.wipe σ vs) H' s' ∧ tn j s'.heap ∧ (∀ b ∈ fp, H' b = none) ∧ W j m H' := fun {σ9 s' H'} I' hl hk nx => by
        obtain ⟨m', hm, w'⟩ := hN1 H' nx
        have pin' : ∀ b ∈ fp, ∀ o, s4.heap.get? b = some o → s'.heap.get? b = some o ∧ H' b = none := fun b hb o e =>
          let z := I'.pin (b, o) (List.mem_append_right _ (List.mem_append_right _ (mem_pinsAt hb e)))
          ⟨z.1, z.2.1⟩
        refine ⟨m', hm, j + 1, H', I'.unpinned.weak hl hk, T.keep _ _ _ st4 fun b hb o e => (pin' b hb o e).1, fun b hb => ?_, w'⟩
        obtain ⟨o, e, _⟩ := T.obj _ _ st4 b hb
        exact (pin' b hb o e).2
      have hl5 : (L2.wipe σ vs).length = σ5.length := by rw [← hw5, L2.wipe_length]
      cases b1 with
      | false =>
        simp only [Bool.false_eq_true, if_false] at q6 ⊢
        exact fin I6 hl5 (fun j v e => by rw [← hw5] at e; exact (L2.wipe_some e).1) q6
      | true =>
        simp only [if_true] at q6 ⊢
        have hir := hi1.run _ s6 σ5 H6 _ I6 q6
        rw [hx] at hir
        refine thnF hir fun xv s7 hx7 => thnF hx7 fun itv s8 h8 => ?_
        obtain ⟨it1, fp1, tn1, J1, H8, e1, I8, T1, st8, f8, w8⟩ := h8
        subst e1
        have lp := ih cs' vs2 hcs' (k + 1) t1 i1 ifs1 g1' tt1 vs' hn hd' hg1 ht1 hv1 _ s8 σ5 H8 N1 J1 fp1 it1 tn1 I8 T1 st8 f8 w8
        have lp' := codeAny_mono lp (R' := fun r s' => match r with
          | .ok _ => ∃ m, m < n ∧ ∃ j H', Inv Y pins (L2.wipe σ vs) H' s' ∧ tn j s'.heap ∧ (∀ b ∈ fp, H' b = none) ∧ W j m H'
          | .error _ => False) fun r s' hr => by
            cases r with
            | ok f =>
              obtain ⟨H9, I9, nx⟩ := hr
              refine fin I9 (by rw [hl5, L2.wipe_length]) (fun j v e => ?_) nx
              rw [← hw5] at e
              obtain ⟨e1, e2⟩ := L2.wipe_some e
              rw [L2.wipe_out fun z => e2 (hv j z)]
              exact e1
            | error e => exact hr
        exact startK kd hn lp' (T1.self Y.A 0 _ _ _ st8 lp')
end
section
variable {X : Cx}
/-- [elt for .. for ..], {elt for ..}: L the new object, ho L what it is at first -/
def tLn (wi : TI) (g : TG) (tt : TT) (vs : List Nat) (ho : Addr → HO) (em : Addr → TEm) (cs : List ClR) : TE := fun σ H Q => wi σ H fun J H1 => ∀ L, H1 L = none → tLp J g tt vs (tCl (em L) cs) σ (upd H1 L (ho L)) fun H2 => Q (.ref L) H2
theorem comp_core {pins : List (Addr × Obj)} {s : Shared} {σ : L2.St} {H : Hp} {Q : VK} {e : Expr} {gs : List Comprehension} {emit : Value → Env → Sem Unit} {newAcc : Sem Value} {ob : Obj} {ho : Addr → HO} {em : Addr → TEm} {tg iter : Expr} {ifs : List Expr} {scope : Scope} {own : List (Str × Nat)} {vs' : List Nat} {pos' : Pos} {wi : TI} {g : TG} {tt : TT} {cs : List ClR} {use : Option (Value → Sem Unit)} {Qf : Value → Shared → Prop}
    (kd : Kd e (⟨tg, iter, ifs, 0⟩ :: gs) emit)
    (hnew : ∀ (s : Shared) (Q : Value → Shared → Prop) (E : Value → Shared → Prop), Q (.ref s.heap.objs.size) { s with heap := s.heap.push ob } → wpAny (model X.prog X.w) X.A newAcc Q E s)
    (hob : ∀ (H : Hp) (h : Heap), ObjOk X.prog X.w H (h.push ob) h.objs.size (ho h.objs.size))
    (hc : X.calm = true) (hN : X.N.Nodup) (I : Inv X pins σ H s) (hi : PI X tg iter wi) (ok : BlkOk X.N X.env.scope scope own) (hv : ∀ i ∈ vs', i ∈ own.map (·.2))
    (hg : ∀ (s : Shared) (H : Hp) (C : Addr) (cl : List (Str × Addr)) (fp : List Addr), PG (X.blk s H scope (compEnvC scope cl C X.env) fp) tg g) (ht : ∀ (s : Shared) (H : Hp) (C : Addr) (cl : List (Str × Addr)) (fp : List Addr), PTs (X.blk s H scope (compEnvC scope cl C X.env) fp) ifs tt)
    (he : ∀ (L : Addr) (s : Shared) (H : Hp) (C : Addr) (cl : List (Str × Addr)) (fp : List Addr), EmOk (X.blk s H scope (compEnvC scope cl C X.env) fp) emit (.ref L) (em L)) (hs : ∀ x, foldedSetIterable iter X.env x = pure x)
    (hcs : ∀ (s : Shared) (H : Hp) (C : Addr) (cl : List (Str × Addr)) (fp : List Addr), Cls (X.blk s H scope (compEnvC scope cl C X.env) fp) gs cs vs')
    (h : tLn wi g tt (own.map (·.2)) ho em cs σ H Q)
    (hRR : ∀ D C s' m H', Inv X pins σ H' s' → Q (.ref D) H' → s'.heap.Ns C m → FpOk X pins H' C → compPost (model X.prog X.w) X.A X.xe use Qf (.ref D) C (.ok .next) s') :
    wpAny (model X.prog X.w) X.A (comprehension e scope X.env pos' newAcc false (eval iter X.env) use) Qf X.xe s := by
  have hfree : ∀ y ∈ scope.names, y.2 = .free → ∃ c, X.env.cells.lookup y.1 = some c := fun y hy e => by
    rcases ok.free y hy e with k | k
    · exact I.ok.has _ (.inl k)
    · exact I.ok.has _ (.inr k)
  refine wpAny_comprehension_free (use := use) kd.cl hs (closure_ok hfree) ok.kind (fun y hy e => by rw [ok.uniq y hy, e])
    (thn (hi.run pins s σ H _ I h) fun xv s1 hx => thn hx fun itv s2 h2 => ?_)
  obtain ⟨it, fp, tn, J, H2, eit, I2, T, st2, f2, q⟩ := h2
  subst eit
  refine hnew _ _ _ (newEnv_comp ?_)
  generalize hD : s2.heap.objs.size = D
  have hDn : H2 D = none := I2.hok.fresh (Nat.le_of_eq hD)
  have lp := q D hDn
  -- the new object
  generalize hs3 : ({ s2 with heap := s2.heap.push ob } : Shared) = s3
  have I3 : Inv X pins σ (upd H2 D (ho D)) s3 := by
    rw [← hs3]
    refine I2.laid (t' := s2.toks) (fun b o e => Heap.get?_push_of_some _ e) (Nat.le_of_eq hD) ?_
    rw [← hD]
    exact hob _ _
  have h3 : s3.heap = s2.heap.push ob := by rw [← hs3]
  have sz : ∀ b ∈ fp, b < s2.heap.objs.size := fun b hb => by
    obtain ⟨o, e, _⟩ := T.obj _ _ st2 b hb
    exact Heap.lt_size e
  have f3 : ∀ b ∈ fp, FpOk X pins (upd H2 D (ho D)) b ∧ b < s3.heap.objs.size := fun b hb => by
    have hlt := sz b hb
    refine ⟨⟨?_, (f2 b hb).2⟩, by rw [h3, Heap.size_push]; exact Nat.lt_succ_of_lt hlt⟩
    rw [upd_ne (by rw [← hD]; exact Nat.ne_of_lt hlt)]
    exact (f2 b hb).1
  have st3 : tn 0 s3.heap := T.keep _ _ _ st2 fun b _ o e => by rw [h3]; exact Heap.get?_push_of_some _ e
  have I4 := block_start I3 ok hN f3
  have pg := hg s3 (upd H2 D (ho D)) s3.heap.objs.size (cellsFrom (s3.heap.objs.size + 1) scope.names (cloFrom X.env.cells scope.names [])) fp
  have pt := ht s3 (upd H2 D (ho D)) s3.heap.objs.size (cellsFrom (s3.heap.objs.size + 1) scope.names (cloFrom X.env.cells scope.names [])) fp
  have pe := he D s3 (upd H2 D (ho D)) s3.heap.objs.size (cellsFrom (s3.heap.objs.size + 1) scope.names (cloFrom X.env.cells scope.names [])) fp
  have pc := hcs s3 (upd H2 D (ho D)) s3.heap.objs.size (cellsFrom (s3.heap.objs.size + 1) scope.names (cloFrom X.env.cells scope.names [])) fp
  show codeAny _ _ (.compStart e 0 (.ref it) (.ref D) (compEnvC scope (cellsFrom (s3.heap.objs.size + 1) scope.names (cloFrom X.env.cells scope.names [])) s3.heap.objs.size X.env)) (compPost (model X.prog X.w) X.A X.xe use Qf (.ref D) s3.heap.objs.size) { s3 with heap := pushCells (s3.heap.push { cls := .type "dict", data := .dict #[] }) scope.names }
  have nfp : ∀ b ∈ fp, (upd H2 D (ho D)) b = none := fun b hb => (f3 b hb).1.1
  generalize hce : compEnvC scope (cellsFrom (s3.heap.objs.size + 1) scope.names (cloFrom X.env.cells scope.names [])) s3.heap.objs.size X.env = ce at I4 pg pt pe pc ⊢
  have cL : ce.locals = s3.heap.objs.size := by subst hce; rfl
  generalize hH3 : upd H2 D (ho D) = H3 at I3 I4 pg pt pe pc lp nfp f3
  generalize hs4 : ({ s3 with heap := pushCells (s3.heap.push { cls := .type "dict", data := .dict #[] }) scope.names } : Shared) = s4 at I4 ⊢
  have st4 : tn 0 s4.heap := T.keep _ _ _ st3 fun b _ o e => by rw [← hs4]; exact pushCells_keeps _ _ _ _ (Heap.get?_push_of_some _ e)
  have stat : ∀ b ∈ fp, FpOk (X.blk s3 H3 scope ce fp) [] H3 b := fun b hb =>
    ⟨nfp b hb, (I4.ok.exf b hb).1, I4.ok.exfs b hb, .inl hb, fun x c e => (I4.ok.exf b hb).2 x c e, fun p hp => absurd (show p ∈ ([] : List (Addr × Obj)) ++ [] from hp) (by simp)⟩
  have lp' : tLp J g tt (own.map (·.2)) (tCl (em D) cs) (L2.wipe σ (own.map (·.2))) H3 fun H2 => Q (.ref D) H2 := by
    obtain ⟨W, hm, turn⟩ := lp
    refine ⟨W, hm, fun i m H w => (turn i m H w).imp id fun ⟨a, N1, b, c⟩ => ⟨a, N1, b, fun x H' y => ?_⟩⟩
    rw [wipe_idem]
    exact c x H' y
  have loop := loop_ok (Y := X.blk s3 H3 scope ce fp) kd hc pe rfl gs cs vs' pc 0 tg iter ifs g tt (own.map (·.2)) rfl (fun j => by rw [show 0 + 1 + j = j + 1 by omega]; rfl) pg pt hv [] s4 _ H3 _ J fp it tn I4 T st4 stat lp'
  have loop' := codeAny_mono loop (R' := compPost (model X.prog X.w) X.A X.xe use Qf (.ref D) s3.heap.objs.size) fun r s6 hr => by
    cases r with
    | error x => exact hr.elim
    | ok f =>
      obtain ⟨H5, I6, qq⟩ := hr
      have I7 : Inv X pins σ H5 s6 := I3.call' (ch := fp) I6.os I6.base I6.hok I6.bare fun b hb => ⟨(f3 b hb).1.2.2.2.1, (f3 b hb).1.2.1, (f3 b hb).1.2.2.2.2.1, (f3 b hb).1.2.2.2.2.2⟩
      have nC : H5 s3.heap.objs.size = none := by
        have z : H5 ce.locals = none := I6.free
        rw [cL] at z
        exact z
      obtain ⟨m, hn, _⟩ := I6.loc
      have hn : s6.heap.Ns ce.locals m := hn
      rw [cL] at hn
      have hh := hRR D s3.heap.objs.size s6 m H5 I7 qq hn (I3.fpOk (Nat.le_refl _) nC)
      cases f <;> cases use <;> exact hh
  exact startK kd rfl loop' (T.self X.A 0 _ _ _ st4 loop')
/-- an element of a list -/
def emL (te : TE) (L : Addr) : TEm := fun σ H N => te σ H fun y H4 => ∃ acc, H4 L = some (.lst acc) ∧ acc.length < sizeLine ∧ N (upd H4 L (.lst (acc ++ [y])))
theorem emL_ok {Y : Cx} {elt : Expr} {te : TE} {L : Addr} (he : PE Y elt te) (hx : Y.xe = fun _ _ => False) : EmOk Y (fun acc env => do let _ ← call (.builtin "list.append") [acc, ← eval elt env]) (.ref L) (emL te L) := by
  intro pins s σ H N I h
  have pr := he.run pins s σ H _ I h
  rw [hx] at pr
  exact wpAny_bind (wpAny_mono pr (fun v s1 ⟨y, H1, I1, r1, acc, hA, hz, nx⟩ => wpAny_bind (wpAny_mono (app_ok (X := Y) (Q := fun _ s' => ∃ H', Inv Y pins σ H' s' ∧ N H') I1 hA hz r1 fun s2 I2 => ⟨_, I2, nx⟩) (fun _ _ q => wpAny_pure q) fun _ _ z => z)) fun _ _ z => z)
theorem listOb_ok {P : Program} {w : World} (H : Hp) (h : Heap) : ObjOk P w H (h.push { cls := .type "list", data := .seq ([] : List Value).toArray }) h.objs.size (.lst []) := ⟨Nat.zero_le _, [], 0, .nil, Heap.get?_push_size _ rfl⟩
theorem pe_lcN {elt tg iter : Expr} {ifs : List Expr} {gs : List Comprehension} {scope : Scope} {own : List (Str × Nat)} {vs' : List Nat} {pos : Pos} {wi : TI} {g : TG} {tt : TT} {te : TE} {cs : List ClR} (hc : X.calm = true) (hN : X.N.Nodup) (hi : PI X tg iter wi) (ok : BlkOk X.N X.env.scope scope own) (hv : ∀ i ∈ vs', i ∈ own.map (·.2))
    (hg : ∀ (s : Shared) (H : Hp) (C : Addr) (cl : List (Str × Addr)) (fp : List Addr), PG (X.blk s H scope (compEnvC scope cl C X.env) fp) tg g) (ht : ∀ (s : Shared) (H : Hp) (C : Addr) (cl : List (Str × Addr)) (fp : List Addr), PTs (X.blk s H scope (compEnvC scope cl C X.env) fp) ifs tt)
    (he : ∀ (s : Shared) (H : Hp) (C : Addr) (cl : List (Str × Addr)) (fp : List Addr), PE (X.blk s H scope (compEnvC scope cl C X.env) fp) elt te) (hs : ∀ x, foldedSetIterable iter X.env x = pure x)
    (hcs : ∀ (s : Shared) (H : Hp) (C : Addr) (cl : List (Str × Addr)) (fp : List Addr), Cls (X.blk s H scope (compEnvC scope cl C X.env) fp) gs cs vs') (hne : firstAsync (⟨tg, iter, ifs, 0⟩ :: gs) = false := by rfl) :
    PE X (.ListComp elt (⟨tg, iter, ifs, 0⟩ :: gs) scope pos) (tLn wi g tt (own.map (·.2)) (fun _ => .lst []) (emL te) cs) := by
  refine ⟨fun pins s σ H Q I h => ?_⟩
  rw [arm_eval_ListComp]
  refine comp_core (kd_list elt _ scope pos) (fun s Q E q => wpAny_newObj_type q (by show 0 ≤ sizeLine; decide)) (fun H h => listOb_ok H h) hc hN I hi ok hv hg ht (fun L s H C cl fp => emL_ok (he s H C cl fp) rfl) hs hcs h fun D C s' m H' I' q hn f => ⟨m, hn, fun h'' sb => ?_⟩
  obtain ⟨f0, f1, f2, f3, f4, f5⟩ := f
  exact ⟨.ref D, H', I'.turned (t' := s'.toks) (fun b o hb e => (sb.2 b hb).trans e) f0 f1 f3 f4 f5, rfl, q⟩
/-- name = [..] on one line, the name a local -/
theorem ps_setLcN {i : Nat} {y : Str} {py : Pos} {elt tg iter : Expr} {ifs : List Expr} {gs : List Comprehension} {scope : Scope} {own : List (Str × Nat)} {vs' : List Nat} {pos spos : Pos} {wi : TI} {g : TG} {tt : TT} {te : TE} {cs : List ClR} (hc : X.calm = true) (hN : X.N.Nodup) (hy : X.N[i]? = some y) (hyl : X.env.scope.names.lookup y = some .local)
    (hsw : swapsWith (.ListComp elt (⟨tg, iter, ifs, 0⟩ :: gs) scope pos) (some (.Name y py)) spos.line X.env = pure true) (hi : PI X tg iter wi) (ok : BlkOk X.N X.env.scope scope own) (hv : ∀ i ∈ vs', i ∈ own.map (·.2))
    (hg : ∀ (s : Shared) (H : Hp) (C : Addr) (cl : List (Str × Addr)) (fp : List Addr), PG (X.blk s H scope (compEnvC scope cl C X.env) fp) tg g) (ht : ∀ (s : Shared) (H : Hp) (C : Addr) (cl : List (Str × Addr)) (fp : List Addr), PTs (X.blk s H scope (compEnvC scope cl C X.env) fp) ifs tt)
    (he : ∀ (s : Shared) (H : Hp) (C : Addr) (cl : List (Str × Addr)) (fp : List Addr), PE (X.blk s H scope (compEnvC scope cl C X.env) fp) elt te) (hs : ∀ x, foldedSetIterable iter X.env x = pure x)
    (hcs : ∀ (s : Shared) (H : Hp) (C : Addr) (cl : List (Str × Addr)) (fp : List Addr), Cls (X.blk s H scope (compEnvC scope cl C X.env) fp) gs cs vs') :
    PS X (.Assign [.Name y py] (.ListComp elt (⟨tg, iter, ifs, 0⟩ :: gs) scope pos) spos) (tAsg (tLn wi g tt (own.map (·.2)) (fun _ => .lst []) (emL te) cs) (L2.gName i)) := by
  refine ⟨fun pins s σ H D I h => ?_⟩
  rw [exec_Assign_Name_used _ _ _ _ hsw]
  refine wpAny_bind (wpAny_standAt (wpAny_bind ?_))
  show wpAny _ X.A (do let _ ← comprehension (.ListComp elt (⟨tg, iter, ifs, 0⟩ :: gs) scope pos) scope X.env (firstIterPos (⟨tg, iter, ifs, 0⟩ :: gs) pos) (newList []) false (eval iter X.env) (some (assign (.Name y py) X.env))) _ _ s
  have h : tLn wi g tt (own.map (·.2)) (fun _ => .lst []) (emL te) cs σ H (fun x H1 => L2.gName i x σ H1 D.nx) := h
  refine wpAny_bind (thn (comp_core (Qf := fun _ s' => SP X pins D .next s') (kd_list elt _ scope pos) (fun s Q E q => wpAny_newObj_type q (by show 0 ≤ sizeLine; decide)) (fun H h => listOb_ok H h) hc hN I hi ok hv hg ht (fun L s H C cl fp => emL_ok (he s H C cl fp) rfl) hs hcs h fun L C s' m H' I' q hn f => ?_) fun _ s' hq => wpAny_pure (wpAny_pure hq))
  show wpAny _ _ (assign (.Name y py) X.env (.ref L)) _ _ _
  refine wpAny_assign_Name (store_ok2 (v := V.ref L) I' hN hy (.inl hyl) rfl (fun s2 I2 ⟨a, sb, ha⟩ => ?_) (.inr hyl))
  obtain ⟨f0, f1, f2, f3, f4, f5⟩ := f
  have haC : C ≠ a := by
    rcases ha with z | z
    · rw [z]; exact f1
    · exact fun e => f4 y a z e.symm
  refine ⟨m, hn.sameBut sb haC, fun h3 sb3 => ?_⟩
  exact ⟨_, H', I2.turned (t' := s2.toks) (fun b o hb e => (sb3.2 b hb).trans e) f0 f1 f3 f4 f5, q⟩
end
end Fn
end P_FG
section P_FH
set_option maxHeartbeats 4000000
/-! List comprehensions of any number of clauses, over data. -/
namespace Fn
open PySem PySem.Spec PyProof.Rows L2
theorem lp_it {J : It} {n : Nat} {G : Hp → Prop} {Y : Nat → Hp → V → Hp → Prop} (w : Walk J n G Y) {g : TG} {tt : TT} {vs : List Nat} {r : TEm} {σ : L2.St} {H : Hp} {N : Hp → Prop} (Pv : Nat → Hp → Prop) (h0 : Pv 0 H) (hG : ∀ i H, i ≤ n → Pv i H → G H)
    (hs : ∀ i x H H', i < n → Pv i H → Y i H x H' → g x (L2.wipe σ vs) H' fun σ2 H2 => L2.wipe σ2 vs = L2.wipe σ vs ∧ tt σ2 H2 fun b H3 => if b = true then r σ2 H3 (Pv (i + 1)) else Pv (i + 1) H3) (hd : ∀ H, Pv n H → N H) : tLp J g tt vs r σ H N := by
  refine ⟨fun i m H => m = n - i ∧ i ≤ n ∧ Pv i H, ⟨n, by simp, Nat.zero_le _, h0⟩, ?_⟩
  rintro i m H ⟨rfl, hi, p⟩
  have q := hG i H hi p
  by_cases hlt : i < n
  · exact .inr ⟨w.goes i H hlt q, Pv (i + 1), fun H' p' => ⟨n - (i + 1), by omega, rfl, hlt, p'⟩, fun x H' y => hs i x H H' hlt p (w.yields i H x H' hlt q y)⟩
  · have e : i = n := by omega
    subst e
    exact .inl ⟨w.stops H q, hd H p⟩
section
variable {K : PySem.W.Frag} {M : Addr → Prop} {π : Pi} {O : Nat → Bool} {own : Own} {σ : L2.St} {H H' : Hp} {ρ : Ren} {L : Addr}
theorem EnvOk.keepL (x : EnvOk K M π O own σ H ρ) (kb : KeepB π (· = L) H H') (hM : M L) (hL : ∃ o, H' L = some o) : EnvOk K M π O own σ H' ρ := by
  have hh : Hold (Bar M own) H H' := fun a o q nb => kb.keep a o q (fun z => nb (.inl (by rw [z]; exact hM))) fun z => nb (x.ctx.hp a z)
  have al : ∀ a, (∃ o, H a = some o) → ∃ o, H' a = some o := fun a ⟨o, q⟩ => by
    by_cases z : a = L
    · rw [z]; exact hL
    · by_cases zp : isPl π a
      · obtain ⟨l, zp⟩ := zp
        obtain ⟨_, _, _, _, _, q', _⟩ := kb.pool _ zp
        exact ⟨_, q'⟩
      · exact ⟨o, kb.keep a o q z zp⟩
  refine ⟨fun a z => al a (x.alloc a z), fun p e => ⟨(x.pool p e).1, kb.pool p e⟩, fun i a e => ⟨(x.own1 i a e).1, al a (x.own1 i a e).2.1, (x.own1 i a e).2.2⟩, x.inj, x.len, fun i d e => ?_⟩
  obtain ⟨v, e1, h⟩ := x.slot i d e
  refine ⟨v, e1, ?_⟩
  by_cases hO : O i = true
  · rw [if_pos hO] at h ⊢
    obtain ⟨a, e2, e3, h⟩ := h
    refine ⟨a, e2, e3, ?_⟩
    have na : a ≠ L := fun z => (x.own1 i a e2).2.2 (by rw [z]; exact hM)
    have np := x.notpool e2
    cases d with
    | lst l => obtain ⟨xs, q, r⟩ := h; exact ⟨xs, kb.keep _ _ q na np, RepL.hold hh (fun _ z => .inl z) _ _ r⟩
    | dct l => obtain ⟨xs, q, r⟩ := h; exact ⟨xs, kb.keep _ _ q na np, RepK.hold hh (fun _ z => .inl z) _ _ r⟩
    | _ => exact h
  · rw [if_neg hO] at h ⊢
    exact Rep.hold hh (fun _ z => .inl z) _ _ h
end
abbrev FL := Ren → Nat → (List D → Prop) → Prop
section
variable (K : PySem.W.Frag) (O : Nat → Bool) (L : Addr)
/-- what r adds to the list at L -/
def SemC (r : TEm) (c : FL) : Prop := ∀ M π (own : Own) (σ : L2.St) H ρ n ds acc (R : List D → Prop) (N : Hp → Prop), EnvOk K M π O own σ H ρ → M L → (∀ p, π = some p → p.1 ≠ L ∧ p.2 ≠ L) → H L = some (.lst acc) → RepL K (Bar M own) π H ds acc → ds.length + n ≤ 16777216 →
  c ρ n R → (∀ l acc' H', KeepB π (· = L) H H' → H' L = some (.lst acc') → RepL K (Bar M own) π H' (ds ++ l) acc' → l.length ≤ n → R l → N H') → r σ H N
end
section
variable {K : PySem.W.Frag} {O : Nat → Bool} {L : Addr}
theorem KeepB.trans {π : Pi} {B : Addr → Prop} {H H1 H2 : Hp} (x : KeepB π B H H1) (y : KeepB π B H1 H2) : KeepB π B H H2 := ⟨fun a o q n z => y.keep a o (x.keep a o q n z) n z, y.pool⟩
theorem Keep.toB {π : Pi} {B : Addr → Prop} {H H1 : Hp} (x : Keep π H H1) : KeepB π B H H1 := ⟨fun a o q _ z => x.same a o q z, x.pool⟩
theorem semC_el {te : TE} {fe : FE} (ge : SemE K O te fe) : SemC K O L (emL te L) (lcEl fe) := by
  intro M π own σ H ρ n ds acc R N x hM hp hA ra hlen hc hq
  have hsz : sizeLine = 16777216 := sizeLine_eq
  refine ge M π own σ H ρ _ _ x hc fun d v H1 k1 r1 h1 => ?_
  obtain ⟨hn, h1⟩ := h1
  have npl : ¬ isPl π L := fun ⟨l, z⟩ => (hp _ z).1 rfl
  have hA1 : H1 L = some (.lst acc) := k1.same _ _ hA npl
  have x1 := x.keep k1
  have ra1 := ra.keep x.ctx k1
  have hacc := ra.length
  refine ⟨acc, hA1, by omega, hq [d] (acc ++ [v]) _ ⟨fun a o q nL z => ?_, fun p e => (x1.pool p e).2.other (hp p e).1 (hp p e).2⟩ upd_same ?_ (by show 1 ≤ n; omega) h1⟩
  · rw [upd_ne nL]
    exact k1.same a o q z
  · refine RepL.hold (fun a u q nb => ?_) (fun _ z => .inl z) _ _ (ra1.snoc r1)
    rw [upd_ne (fun z => nb (.inl (by rw [z]; exact hM)))]
    exact q
theorem loop_sem {g : TG} {tt : TT} {G : FG} {ft : FT} {r : TEm} {c : FL} {vs S : List Nat} (hS : ∀ i ∈ S, i ∈ vs)
    (gg : ∀ M π (own : Own) (σ : L2.St) H ρ d v (R : Ren → Prop) (Q : L2.St → Hp → Prop), EnvOk K M π O own σ H ρ → Rep K (Bar M own) π H d v → G d ρ R →
      (∀ σ' ρ', EnvOk K M π O own σ' H ρ' → (∀ vs, (∀ i ∈ S, i ∈ vs) → L2.wipe σ' vs = L2.wipe σ vs) → R ρ' → Q σ' H) → g v σ H Q)
    (gt : SemT K O tt ft) (gc : SemC K O L r c) {M : Addr → Prop} {π : Pi} {own : Own} {σ : L2.St} {H1 Hs : Hp} {ρ : Ren} {C N : Addr → Prop} {n : Nat} {ds : List D} {acc : List V} {R : List D → Prop} {Nx : Hp → Prop} {items : List D} {J : It}
    (x : EnvOk K M π O own σ Hs ρ) (hM : M L) (hp : ∀ p, π = some p → p.1 ≠ L ∧ p.2 ≠ L) (hA : Hs L = some (.lst acc)) (ra : RepL K (Bar M own) π Hs ds acc) (hlen : ds.length + n ≤ 16777216)
    (hw : WalkD K C N π H1 items J) (hh : ∀ H, KeepB π (· = L) Hs H → Hold C H1 H) (hN : ∀ a, Bar M own a → N a ∨ H1 a = none) (hf : lcGo G ft c (Fn.wipe ρ vs) items n R)
    (hq : ∀ l acc' H', KeepB π (· = L) Hs H' → H' L = some (.lst acc') → RepL K (Bar M own) π H' (ds ++ l) acc' → l.length ≤ n → R l → Nx H') : tLp J g tt vs r σ Hs Nx := by
  obtain ⟨Gw, Y, w, gw, yw⟩ := hw
  have npl : ¬ isPl π L := fun ⟨l, z⟩ => (hp _ z).1 rfl
  refine lp_it w (fun i H => ∃ l acc', KeepB π (· = L) Hs H ∧ H L = some (.lst acc') ∧ RepL K (Bar M own) π H (ds ++ l) acc' ∧ l.length ≤ n ∧ EnvOk K M π O own σ H ρ ∧ lcGo G ft c (Fn.wipe ρ vs) (items.drop i) (n - l.length) fun l' => R (l ++ l')) ?_ ?_ ?_ ?_
  · exact ⟨[], acc, ⟨fun a o q _ _ => q, fun p e => (x.pool p e).2⟩, hA, by rw [List.append_nil]; exact ra, Nat.zero_le _, x, by simpa using hf⟩
  · intro i H hi ⟨l, acc', kb, _⟩
    exact gw H (hh H kb)
  · intro i y H H' hi ⟨l, acc', kb, hA', ra', hl, xe, hgo⟩ hy
    obtain ⟨k2, d, ed, rd⟩ := yw i H y H' hi (hh H kb) (fun p e => (xe.pool p e).2) hy
    have x2 := xe.keep k2
    have hdrop : items.drop i = d :: items.drop (i + 1) := by
      obtain ⟨h1, h2⟩ := List.getElem?_eq_some_iff.mp ed
      rw [← h2]
      exact List.drop_eq_getElem_cons h1
    rw [hdrop] at hgo
    have rdd : Rep K (Bar M own) π H' d y := rd _ fun a z => ⟨hN a z, xe.ctx.alloc a z⟩
    have hgo : G d (Fn.wipe ρ vs) (fun ρ' => ft ρ' fun b => if b = true then c ρ' (n - l.length) fun l1 => lcGo G ft c (Fn.wipe ρ vs) (items.drop (i + 1)) (n - l.length - l1.length) fun l2 => R (l ++ (l1 ++ l2)) else lcGo G ft c (Fn.wipe ρ vs) (items.drop (i + 1)) (n - l.length) fun l' => R (l ++ l')) := hgo
    refine gg M π own _ H' _ d y _ _ (x2.wipe vs) rdd hgo fun σ2 ρ2 x3 hws ht => ⟨?_, ?_⟩
    · rw [hws vs hS]
      exact wipe_idem
    refine gt M π own σ2 H' ρ2 _ _ x3 ht fun b H3 k3 hb => ?_
    have kb3 : KeepB π (· = L) Hs H3 := kb.trans ((k2.trans k3).toB)
    have hA3 : H3 L = some (.lst acc') := (k2.trans k3).same _ _ hA' npl
    have ra3 := (ra'.keep xe.ctx k2).keep x2.ctx k3
    cases b with
    | false =>
      rw [if_neg Bool.false_ne_true] at hb ⊢
      exact ⟨l, acc', kb3, hA3, ra3, hl, (xe.keep k2).keep k3, hb⟩
    | true =>
      rw [if_pos rfl] at hb ⊢
      refine gc M π own σ2 H3 ρ2 (n - l.length) (ds ++ l) acc' _ _ (x3.keep k3) hM hp hA3 ra3 (by rw [List.length_append]; omega) hb fun l1 acc4 H4 kb4 hA4 ra4 hl4 h4 => ?_
      refine ⟨l ++ l1, acc4, kb3.trans kb4, hA4, by rw [← List.append_assoc]; exact ra4, by rw [List.length_append]; omega, ((xe.keep k2).keep k3).keepL kb4 hM ⟨_, hA4⟩, ?_⟩
      rw [show n - (l ++ l1).length = n - l.length - l1.length by rw [List.length_append]; omega]
      simpa only [List.append_assoc] using h4
  · intro H ⟨l, acc', kb, hA', ra', hl, xe, hgo⟩
    rw [List.drop_length] at hgo
    have hgo : R (l ++ []) := hgo
    rw [List.append_nil] at hgo
    exact hq l acc' H kb hA' ra' hl hgo
theorem semC_cl {wi : TI} {g : TG} {tt : TT} {fi : FI} {G : FG} {ft : FT} {c : FL} {em : TEm} {cs : List ClR} {vs S : List Nat} (hS : ∀ i ∈ S, i ∈ vs)
    (gw : ∀ M π (own : Own) (σ : L2.St) H ρ (R : List D → Prop) (Q : It → Hp → Prop), EnvOk K M π O own σ H ρ → fi ρ R → (∀ l J H1, Keep π H H1 → WalkD K (Bar M own) (Bar M own) π H1 l J → R l → Q J H1) → wi σ H Q)
    (gg : ∀ M π (own : Own) (σ : L2.St) H ρ d v (R : Ren → Prop) (Q : L2.St → Hp → Prop), EnvOk K M π O own σ H ρ → Rep K (Bar M own) π H d v → G d ρ R →
      (∀ σ' ρ', EnvOk K M π O own σ' H ρ' → (∀ vs, (∀ i ∈ S, i ∈ vs) → L2.wipe σ' vs = L2.wipe σ vs) → R ρ' → Q σ' H) → g v σ H Q)
    (gt : SemT K O tt ft) (gc : SemC K O L (tCl em cs) c) : SemC K O L (tCl em ((wi, g, tt, vs) :: cs)) (lcCl fi G ft vs c) := by
  intro M π own σ H ρ n ds acc R N x hM hp hA ra hlen hc hq
  have npl : ¬ isPl π L := fun ⟨l, z⟩ => (hp _ z).1 rfl
  refine gw M π own σ H ρ _ _ x hc fun items J H1 k1 hw hgo => ?_
  have x1 := x.keep k1
  refine loop_sem hS gg gt gc x1 hM hp (k1.same _ _ hA npl) (ra.keep x.ctx k1) hlen hw (fun H kb a o q nb => kb.keep a o q (fun z => nb (.inl (by rw [z]; exact hM))) fun z => nb (x1.ctx.hp a z)) (fun a z => .inl z) hgo fun l acc' H' kb hA' ra' hl h => ?_
  exact hq l acc' H' (k1.toB.trans kb) hA' ra' hl h
theorem lcN_semF {wi : TI} {g : TG} {tt : TT} {te : TE} {fi : FI} {G : FG} {ft : FT} {c : FL} {cs : List ClR} {vs S : List Nat} (hS : ∀ i ∈ S, i ∈ vs)
    (gw : ∀ M π (own : Own) (σ : L2.St) H ρ (R : List D → Prop) (Q : It → Hp → Prop), EnvOk K M π O own σ H ρ → fi ρ R → (∀ l J H1, Keep π H H1 → WalkD K (isPl π) (Bar M own) π H1 l J → R l → Q J H1) → wi σ H Q)
    (gg : ∀ M π (own : Own) (σ : L2.St) H ρ d v (R : Ren → Prop) (Q : L2.St → Hp → Prop), EnvOk K M π O own σ H ρ → Rep K (Bar M own) π H d v → G d ρ R →
      (∀ σ' ρ', EnvOk K M π O own σ' H ρ' → (∀ vs, (∀ i ∈ S, i ∈ vs) → L2.wipe σ' vs = L2.wipe σ vs) → R ρ' → Q σ' H) → g v σ H Q)
    (gt : SemT K O tt ft) (gc : ∀ L, SemC K O L (tCl (emL te L) cs) c) : SemF K O (tLn wi g tt vs (fun _ => .lst []) (emL te) cs) (eLc fi G ft c vs) := by
  intro M π own σ H ρ R Q x hf hq
  refine gw M π own σ H ρ _ _ x hf fun items J H1 k1 hw hgo L hL => ?_
  have x1 := x.keep k1
  have nL : ∀ a o, H1 a = some o → a ≠ L := fun a o q z => by rw [z, hL] at q; cases q
  have hp : ∀ p, π = some p → p.1 ≠ L ∧ p.2 ≠ L := fun p e => by
    obtain ⟨_, _, _, _, _, e1, e2, _⟩ := (x1.pool p e).2
    exact ⟨nL _ _ e1, nL _ _ e2⟩
  have xL := x1.bar hL (H' := upd H1 L (.lst [])) (fun a o q _ => same_upd hL a o q) (fun p e => (x1.pool p e).2.grow hL) ⟨_, upd_same⟩
  refine loop_sem (ds := []) (acc := []) hS gg gt (gc L) xL (.inr rfl) hp upd_same rfl (by simp) hw (fun H kb a o q nb => kb.keep a o (same_upd hL a o q) (nL a o q) nb) (fun a z => ?_) hgo fun l acc' H' kb hA' ra' hl h => ?_
  · rcases z with (z | z) | z
    · exact .inl (.inl z)
    · exact .inr (z ▸ hL)
    · exact .inl (.inr z)
  · rw [List.nil_append] at ra'
    refine hq (.lst l) L H' (k1.trans ⟨fun a o q n => kb.keep a o (same_upd hL a o q) (nL a o q) n, kb.pool⟩) (x.ctx.noneOf k1 hL) ⟨acc', hA', RepL.hold (Hold.refl _ _) (fun a z => .inl ?_) _ _ ra'⟩ h
    rcases z with (z | z) | z
    · exact .inl (.inl z)
    · exact .inr z
    · exact .inl (.inr z)
end
/-! ### the rules -/
section
variable {F : Fam} {O : Nat → Bool} {e : Expr} {es : List Expr} {f : FE} {pos p : Pos}
/-- the clauses behind the first -/
def VC (F : Fam) (O : Nat → Bool) (gs : List Comprehension) (elt : Expr) (vs' : List Nat) (c : FL) : Prop := ∃ (te : TE) (cs : List ClR), (∀ i, PE (F.X i) elt te) ∧ (∀ i, Cls (F.X i) gs cs vs') ∧ ∀ L, SemC F.K O L (tCl (emL te L) cs) c
theorem vc_el {elt : Expr} {fe : FE} (he : VE F O elt fe) : VC F O [] elt [] (lcEl fe) := by
  obtain ⟨te, pe, ge⟩ := he
  exact ⟨te, [], pe, fun _ => .nil, fun L => semC_el ge⟩
theorem vc_cl {t i elt : Expr} {ifs : List Expr} {gs : List Comprehension} {vs' S : List Nat} {fi : FI} {G : FG} {ft : FT} {c : FL} (vs : List Nat) (hi : VI F O t i fi) (hg : VG F O t S G) (ht : VTs F O ifs ft) (hc : VC F O gs elt vs' c) (hS : ∀ j ∈ S, j ∈ vs) (hv : ∀ j ∈ vs', j ∈ vs)
    (hs : ∀ j x, foldedSetIterable i (F.X j).env x = pure x := by intro _ _; rfl) : VC F O (⟨t, i, ifs, 0⟩ :: gs) elt vs (lcCl fi G ft vs c) := by
  obtain ⟨wi, pw, gw⟩ := hi
  obtain ⟨g, pg, gg⟩ := hg
  obtain ⟨tt, pt, gt⟩ := ht
  obtain ⟨te, cs, pe, pc, gc⟩ := hc
  exact ⟨te, (wi, g, tt, vs) :: cs, pe, fun j => .cons (pw j) (pg j) (pt j) (hs j) hv (pc j), fun L => semC_cl hS gw gg gt (gc L)⟩
theorem vf_lcN {elt tg iter : Expr} {ifs : List Expr} {gs : List Comprehension} {scope : Scope} {own : List (Str × Nat)} {vs' : List Nat} {fi : FI} {G : FG} {ft : FT} {c : FL} {S : List Nat} (hN : F.N.Nodup) (hi : VIR F O tg iter fi) (ok : ∀ i, BlkOk F.N (F.X i).env.scope scope own)
    (hg : VG (F.blk scope) O tg S G) (hS : ∀ i ∈ S, i ∈ own.map (·.2)) (ht : VTs (F.blk scope) O ifs ft) (hc : VC (F.blk scope) O gs elt vs' c) (hv : ∀ i ∈ vs', i ∈ own.map (·.2)) (hs : ∀ i x, foldedSetIterable iter (F.X i).env x = pure x := by intro _ _; rfl)
    (hne : firstAsync (⟨tg, iter, ifs, 0⟩ :: gs) = false := by rfl) : VF F O (.ListComp elt (⟨tg, iter, ifs, 0⟩ :: gs) scope pos) (eLc fi G ft c (own.map (·.2))) := by
  obtain ⟨wi, pw, gw⟩ := hi
  obtain ⟨g, pg, gg⟩ := hg
  obtain ⟨tt, pt, gt⟩ := ht
  obtain ⟨te, cs, pe, pc, gc⟩ := hc
  exact ⟨_, fun i => pe_lcN (F.calm i) (by rw [F.hN i]; exact hN) (pw i) (by rw [F.hN i]; exact ok i) hv (fun s H C cl fp => pg (i, s, H, C, cl, fp)) (fun s H C cl fp => pt (i, s, H, C, cl, fp)) (fun s H C cl fp => pe (i, s, H, C, cl, fp)) (hs i) (fun s H C cl fp => pc (i, s, H, C, cl, fp)) hne, lcN_semF hS gw gg gt gc⟩
/-- y = [..]: a plain local name -/
theorem vs_setLcN (j : Nat) {y : Str} {py : Pos} {elt tg iter : Expr} {ifs : List Expr} {gs : List Comprehension} {scope : Scope} {own : List (Str × Nat)} {vs' : List Nat} {fi : FI} {G : FG} {ft : FT} {c : FL} {S : List Nat} (hN : F.N.Nodup) (hj : F.N[j]? = some y) (hyl : ∀ i, (F.X i).env.scope.names.lookup y = some .local)
    (hsw : ∀ i, swapsWith (.ListComp elt (⟨tg, iter, ifs, 0⟩ :: gs) scope p) (some (.Name y py)) pos.line (F.X i).env = pure true)
    (hi : VIR F O tg iter fi) (ok : ∀ i, BlkOk F.N (F.X i).env.scope scope own)
    (hg : VG (F.blk scope) O tg S G) (hS : ∀ i ∈ S, i ∈ own.map (·.2)) (ht : VTs (F.blk scope) O ifs ft) (hc : VC (F.blk scope) O gs elt vs' c) (hv : ∀ i ∈ vs', i ∈ own.map (·.2)) (hs : ∀ i x, foldedSetIterable iter (F.X i).env x = pure x := by intro _ _; rfl) :
    VS F O (.Assign [.Name y py] (.ListComp elt (⟨tg, iter, ifs, 0⟩ :: gs) scope p) pos) (sSet j (eLc fi G ft c (own.map (·.2)))) := by
  obtain ⟨wi, pw, gw⟩ := hi
  obtain ⟨g, pg, gg⟩ := hg
  obtain ⟨tt, pt, gt⟩ := ht
  obtain ⟨te, cs, pe, pc, gc⟩ := hc
  refine ⟨_, fun i => ps_setLcN (F.calm i) (by rw [F.hN i]; exact hN) (by rw [F.hN i]; exact hj) (hyl i) (hsw i) (pw i) (by rw [F.hN i]; exact ok i) hv (fun s H C cl fp => pg (i, s, H, C, cl, fp)) (fun s H C cl fp => pt (i, s, H, C, cl, fp)) (fun s H C cl fp => pe (i, s, H, C, cl, fp)) (hs i) (fun s H C cl fp => pc (i, s, H, C, cl, fp)), fun M π H0 B own' σ H ρ P D x fr hf hd => ?_⟩
  by_cases hO : O j = true
  · exact (lcN_semF (O := O) hS gw gg gt gc) M π own' σ H ρ _ _ x hf fun d a H1 k1 n1 r1 h1 => hd.nx _ _ H1 _ (x.setO k1 n1 hO r1) (fr.setO k1 n1 x.plThere) h1
  · exact (lcN_semF (O := O) hS gw gg gt gc).toE M π own' σ H ρ _ _ x hf fun d v H1 k1 r1 h1 => hd.nx own' _ H1 _ ((x.keep k1).set (by simpa using hO) r1) (fr.step k1) h1
end
end Fn
end P_FH
section P_FX
set_option maxHeartbeats 4000000
/-! Short forms for the printed terms; several targets at once; chains; calls. -/
namespace Fn
open PySem PySem.Spec PyProof.Rows L2
section
variable {F : Fam} {O : Nat → Bool} {e a b c : Expr} {es : List Expr} {f fa fb fc : FE} {pos p p2 : Pos}
theorem vv (i : Nat) {x : Str} (hN : ∀ j, (F.X j).N[i]? = some x := by intro _; rfl) (hv : ∀ j, Vis (F.X j).env.scope x := by intro _; first | exact Or.inl rfl | exact Or.inr (Or.inl rfl) | exact Or.inr (Or.inr rfl)) (hO : O i = false := by rfl)
    (hd : (x == ("__debug__" : Str)) = false := by decide) (hcd : (x == ("__classdict__" : Str)) = false := by decide) : VE F O (.Name x pos) (eVar i) := ve_var i (fun j => pe_var (hN j) (hv j) hd hcd) hO
theorem rr (i : Nat) {x : Str} (hN : ∀ j, (F.X j).N[i]? = some x := by intro _; rfl) (hv : ∀ j, Vis (F.X j).env.scope x := by intro _; first | exact Or.inl rfl | exact Or.inr (Or.inl rfl) | exact Or.inr (Or.inr rfl))
    (hd : (x == ("__debug__" : Str)) = false := by decide) (hcd : (x == ("__classdict__" : Str)) = false := by decide) : VR F O (.Name x pos) (eVar i) := vr_var i (fun j => pe_var (hN j) (hv j) hd hcd)
theorem gg (j : Nat) {x : Str} (hN : F.N.Nodup) (hj : F.N[j]? = some x := by rfl) (hO : O j = false := by rfl) (hx : ∀ i, Loc (F.X i).env.scope x := by intro _; first | exact Or.inl rfl | exact Or.inr rfl) (hf : ∀ i, (F.X i).fn x = true ∨ (F.X i).env.scope.names.lookup x = some .local := by intro _; first | exact Or.inl rfl | exact Or.inr rfl) :
    VG F O (.Name x pos) [j] (Fn.gName j) := vg_name j hN hj hO hx hf
theorem vs_s (j : Nat) {x : Str} (hN : F.N.Nodup) (he : VE F O e f) (hj : F.N[j]? = some x := by rfl) (hO : O j = false := by rfl) (hx : ∀ i, Loc (F.X i).env.scope x := by intro _; first | exact Or.inl rfl | exact Or.inr rfl) (hf : ∀ i, (F.X i).fn x = true ∨ (F.X i).env.scope.names.lookup x = some .local := by intro _; first | exact Or.inl rfl | exact Or.inr rfl)
    (hs : ∀ i, swapsWith e (some (.Name x p2)) pos.line (F.X i).env = pure false := by intro _; rfl) : VS F O (.Assign [.Name x p2] e pos) (sSet j f) := vs_set j hN hj hO hx hf he hs
theorem vs_sO (j : Nat) {x : Str} (hN : F.N.Nodup) (he : VF F O e f) (hj : F.N[j]? = some x := by rfl) (hO : O j = true := by rfl) (hx : ∀ i, Loc (F.X i).env.scope x := by intro _; first | exact Or.inl rfl | exact Or.inr rfl) (hf : ∀ i, (F.X i).fn x = true ∨ (F.X i).env.scope.names.lookup x = some .local := by intro _; first | exact Or.inl rfl | exact Or.inr rfl)
    (hs : ∀ i, swapsWith e (some (.Name x p2)) pos.line (F.X i).env = pure false := by intro _; rfl) : VS F O (.Assign [.Name x p2] e pos) (sSet j f) := vs_setO j hN hj hO hx hf he hs
theorem vs_rO (j : Nat) {y : Str} (hO : O j = true := by rfl) (hN : ∀ j', (F.X j').N[j]? = some y := by intro _; rfl) (hv : ∀ j, Vis (F.X j).env.scope y := by intro _; first | exact Or.inl rfl | exact Or.inr (Or.inl rfl) | exact Or.inr (Or.inr rfl))
    (hd : (y == ("__debug__" : Str)) = false := by decide) (hcd : (y == ("__classdict__" : Str)) = false := by decide) : VS F O (.Return (some (.Name y p2)) pos) (sRet (eVar j)) := vs_retO j (fun i => pe_var (hN i) (hv i) hd hcd) hO
theorem vs_sLc (j : Nat) {y : Str} {py : Pos} {elt tg iter : Expr} {ifs : List Expr} {gs : List Comprehension} {scope : Scope} {own : List (Str × Nat)} {vs' : List Nat} {fi : FI} {G : FG} {ft : FT} {c : FL} {S : List Nat} (hN : F.N.Nodup)
    (hi : VIR F O tg iter fi) (ok : ∀ i, BlkOk F.N (F.X i).env.scope scope own)
    (hg : VG (F.blk scope) O tg S G) (hS : ∀ i ∈ S, i ∈ own.map (·.2)) (ht : VTs (F.blk scope) O ifs ft) (hc : VC (F.blk scope) O gs elt vs' c) (hv : ∀ i ∈ vs', i ∈ own.map (·.2))
    (hj : F.N[j]? = some y := by rfl) (hyl : ∀ i, (F.X i).env.scope.names.lookup y = some .local := by intro _; rfl)
    (hsw : ∀ i, swapsWith (.ListComp elt (⟨tg, iter, ifs, 0⟩ :: gs) scope p) (some (.Name y py)) pos.line (F.X i).env = pure true := by intro _; rfl) (hs : ∀ i x, foldedSetIterable iter (F.X i).env x = pure x := by intro _ _; rfl) :
    VS F O (.Assign [.Name y py] (.ListComp elt (⟨tg, iter, ifs, 0⟩ :: gs) scope p) pos) (sSet j (eLc fi G ft c (own.map (·.2)))) := vs_setLcN j hN hj hyl hsw hi ok hg hS ht hc hv hs
theorem ve_isi (t : Ty) {y : Str} (hm : F.mg "isinstance" = none) (hm2 : F.mg y = none) (ha : VR F O e f) (hv : bootBuiltins y = some (.type t.name) := by decide +kernel) (hy : ∀ i, Gl (F.X i) y := by intro _; rfl) (hn : y ≠ "__name__" := by decide) (hd : (y == ("__debug__" : Str)) = false := by decide)
    (hg : ∀ i, Gl (F.X i) "isinstance" := by intro _; rfl) (hs : ∀ i, starEach [e, .Name y p2] (F.X i).env = (false, eval e (F.X i).env) :: starEach [.Name y p2] (F.X i).env := by intro _; rfl) :
    VE F O (.Call (.Name "isinstance" p) [e, .Name y p2] [] pos) (eUn (fIs t) f) := ve_is t hm ha (fun i => pe_bltn (hy i) (by rw [F.hmg i]; exact hm2) hv rfl hn hd) hg hs
/-! ### a op b op c -/
theorem ve_chain {op op' : CmpOp} {g g' : G2} (ho : OpD F (compareOp op) g) (ho' : OpD F (compareOp op') g') (ha : VR F O a fa) (hb : VR F O b fb) (hc : VR F O c fc) (hm : lastMarks [op, op'] [b, c] = false := by with_unfolding_all rfl) : VE F O (.Compare a [op, op'] [b, c] pos) (eChain g g' fa fb fc) := by
  obtain ⟨r, hr, gr⟩ := ho
  obtain ⟨r', hr', gr'⟩ := ho'
  obtain ⟨ta, pa, ga⟩ := ha
  obtain ⟨tb, pb, gb⟩ := hb
  obtain ⟨tc, pc, gc⟩ := hc
  refine ⟨_, fun i => pe_chain (hr i) (hr' i) (pa i) (pb i) (pc i) hm, fun M π own σ H ρ R Q x hf hq => ?_⟩
  refine ga M π own σ H ρ _ _ x hf fun d v H1 k1 r1 h1 => ?_
  have x1 := x.keep k1
  refine gb M π own σ H1 ρ _ _ x1 h1 fun d2 v2 H2 k2 r2 h2 => ?_
  have x2 := x1.keep k2
  refine gr _ π H2 d d2 v v2 _ _ x2.ctx (r1.keep x1.ctx k2) r2 h2 fun d3 v3 H3 k3 r3 h3 => ?_
  cases d3 with
  | bl k =>
    refine ⟨k, r3, ?_⟩
    cases k with
    | false => exact hq (.bl false) _ H3 ((k1.trans k2).trans k3) rfl h3
    | true =>
      have x3 := x2.keep k3
      refine gc M π own σ H3 ρ _ _ x3 h3 fun d4 v4 H4 k4 r4 h4 => ?_
      exact gr' _ π H4 d2 d4 v2 v4 _ _ (x3.keep k4).ctx ((r2.keep x2.ctx k3).keep x3.ctx k4) r4 h4 fun d5 v5 H5 k5 => hq d5 v5 H5 (((k1.trans k2).trans k3).trans (k4.trans k5))
  | _ => exact h3.elim
theorem vt_chain {op op' : CmpOp} {g g' : G2} (ho : OpD F (compareOp op) g) (ho' : OpD F (compareOp op') g') (ha : VR F O a fa) (hb : VR F O b fb) (hc : VR F O c fc) (hm : lastMarks [op, op'] [b, c] = false := by with_unfolding_all rfl) : VT F O (.Compare a [op, op'] [b, c] pos) (tVal (eChain g g' fa fb fc)) := by
  obtain ⟨r, hr, gr⟩ := ho
  obtain ⟨r', hr', gr'⟩ := ho'
  obtain ⟨ta, pa, ga⟩ := ha
  obtain ⟨tb, pb, gb⟩ := hb
  obtain ⟨tc, pc, gc⟩ := hc
  refine ⟨_, fun i => pt_chain (hr i) (hr' i) (pa i) (pb i) (pc i) hm, fun M π own σ H ρ R Q x hf hq => ?_⟩
  refine ga M π own σ H ρ _ _ x hf fun d v H1 k1 r1 h1 => ?_
  have x1 := x.keep k1
  refine gb M π own σ H1 ρ _ _ x1 h1 fun d2 v2 H2 k2 r2 h2 => ?_
  have x2 := x1.keep k2
  refine gr _ π H2 d d2 v v2 _ _ x2.ctx (r1.keep x1.ctx k2) r2 h2 fun d3 v3 H3 k3 r3 h3 => ?_
  cases d3 with
  | bl k =>
    refine ⟨k, r3, ?_⟩
    cases k with
    | false => exact ⟨false, rfl, hq false H3 ((k1.trans k2).trans k3) h3⟩
    | true =>
      have x3 := x2.keep k3
      refine gc M π own σ H3 ρ _ _ x3 h3 fun d4 v4 H4 k4 r4 h4 => ?_
      refine gr' _ π H4 d2 d4 v2 v4 _ _ (x3.keep k4).ctx ((r2.keep x2.ctx k3).keep x3.ctx k4) r4 h4 fun d5 v5 H5 k5 r5 h5 => ?_
      cases d5 with
      | bl k' => exact ⟨k', r5, hq k' H5 (((k1.trans k2).trans k3).trans (k4.trans k5)) h5⟩
      | _ => exact h5.elim
  | _ => exact h3.elim
/-! ### several plain names at once -/
def setS (σ : L2.St) : List Nat → List V → L2.St
  | j :: js, v :: vs => setS (σ.set j (some v)) js vs
  | _, _ => σ
theorem setS_comm {j : Nat} {x : Option V} : ∀ {js : List Nat} {vs : List V} {σ : L2.St}, j ∉ js → setS (σ.set j x) js vs = (setS σ js vs).set j x
  | [], _, _, _ => rfl
  | _ :: _, [], _, _ => rfl
  | i :: js, v :: vs, σ, h => by
    simp only [setS]
    rw [List.set_comm _ _ (fun z => h (by rw [z]; exact List.mem_cons_self)), setS_comm (fun z => h (List.mem_cons_of_mem _ z))]
theorem setR_comm {j : Nat} {x : Option D} : ∀ {js : List Nat} {vs : List D} {σ : Ren}, j ∉ js → setR (σ.set j x) js vs = (setR σ js vs).set j x
  | [], _, _, _ => rfl
  | _ :: _, [], _, _ => rfl
  | i :: js, v :: vs, σ, h => by
    simp only [setR]
    rw [List.set_comm _ _ (fun z => h (by rw [z]; exact List.mem_cons_self)), setR_comm (fun z => h (List.mem_cons_of_mem _ z))]
def SemP (K : PySem.W.Frag) (O : Nat → Bool) (js : List Nat) (t : TA) (f : FA) : Prop := ∀ M π (own : Own) (σ : L2.St) H ρ (R : List D → Prop) (Q : List V → Hp → Prop), EnvOk K M π O own σ H ρ → f ρ R →
  (∀ l xs H', Keep π H H' → l.length = js.length → xs.length = js.length → (∀ (σ0 : L2.St) ρ0, EnvOk K M π O own σ0 H ρ0 → ∃ own1 : Own, EnvOk K M π O own1 (setS σ0 js xs) H' (setR ρ0 js l) ∧ ∀ i a, own1 i = some a → own i = some a ∨ H a = none) → R l → Q xs H') → t σ H Q
def VP (F : Fam) (O : Nat → Bool) (js : List Nat) (es : List Expr) (f : FA) : Prop := ∃ t : TA, (∀ i, PA (F.X i) es t) ∧ SemP F.K O js t f
theorem vp_nil : VP F O [] [] aNil := ⟨_, fun _ => pa_nil, fun M π own σ H ρ R Q x hf hq => hq [] [] H x.ctx.keepRefl rfl rfl (fun σ0 ρ0 x0 => ⟨own, x0, fun i a e => .inl e⟩) hf⟩
theorem vp_cons (j : Nat) {js : List Nat} {fr : FA} (ha : VE F O e f) (hr : VP F O js es fr) (hO : O j = false := by rfl) (hs : ∀ i, starEach (e :: es) (F.X i).env = (false, eval e (F.X i).env) :: starEach es (F.X i).env := by intro _; rfl) : VP F O (j :: js) (e :: es) (aCons f fr) := by
  obtain ⟨ta, pa, ga⟩ := ha
  obtain ⟨tr, pr, gr⟩ := hr
  refine ⟨_, fun i => pa_cons (pa i) (pr i) (hs i), fun M π own σ H ρ R Q x hf hq => ?_⟩
  refine ga M π own σ H ρ _ _ x hf fun d v H1 k1 r1 h1 => ?_
  have x1 := x.keep k1
  refine gr M π own σ H1 ρ _ _ x1 h1 fun l xs H2 k2 l2 l3 hx h2 => hq (d :: l) (v :: xs) H2 (k1.trans k2) (by simp [l2]) (by simp [l3]) (fun σ0 ρ0 x0 => ?_) h2
  obtain ⟨own1, x3, hn⟩ := hx _ _ ((x0.keep k1).set hO r1)
  exact ⟨own1, x3, fun i a e => (hn i a e).imp id fun z => x.ctx.noneOf k1 z⟩
/-- an object goes from the barred to one's own -/
theorem EnvOk.adopt {K : PySem.W.Frag} {M : Addr → Prop} {π : Pi} {own : Own} {σ : L2.St} {H : Hp} {ρ : Ren} {j : Nat} {a : Addr} {d : D} (x : EnvOk K (fun b => M b ∨ b = a) π O own σ H ρ) (hM : ¬ M a) (hp : ∀ p, π = some p → M p.1 ∧ M p.2) (hO : O j = true)
    (r : OwnRep K (Bar (fun b => M b ∨ b = a) own) π H a d) : EnvOk K M π O (ownAt own j a) (σ.set j (some (.ref a))) H (ρ.set j (some d)) := by
  have hb : ∀ b, Bar M (ownAt own j a) b → Bar (fun b => M b ∨ b = a) own b := fun b z => by
    rcases z with z | ⟨i, z⟩
    · exact .inl (.inl z)
    · unfold ownAt at z
      split at z
      · cases z; exact .inl (.inr rfl)
      · exact .inr ⟨i, z⟩
  refine ⟨fun b z => x.alloc b (.inl z), fun p e => ⟨hp p e, (x.pool p e).2⟩, fun i b e => ?_, fun i i' b e e' => ?_, by simp [x.len], fun i d' e => ?_⟩
  · unfold ownAt at e
    split at e
    · rename_i h
      cases e
      exact ⟨by rw [h]; exact hO, x.alloc _ (.inr rfl), hM⟩
    · exact ⟨(x.own1 i b e).1, (x.own1 i b e).2.1, fun z => (x.own1 i b e).2.2 (.inl z)⟩
  · unfold ownAt at e e'
    split at e <;> split at e'
    · rename_i h h'; rw [h, h']
    · cases e; exact absurd (.inr rfl) (x.own1 _ _ e').2.2
    · cases e'; exact absurd (.inr rfl) (x.own1 _ _ e).2.2
    · exact x.inj _ _ _ e e'
  · by_cases h : j = i
    · subst h
      by_cases hl : j < ρ.length
      · rw [List.getElem?_set_self hl] at e
        cases e
        refine ⟨_, List.getElem?_set_self (by rw [x.len]; exact hl), ?_⟩
        rw [if_pos hO]
        refine ⟨a, by unfold ownAt; rw [if_pos rfl], rfl, ?_⟩
        cases d with
        | lst l => obtain ⟨xs, q, r⟩ := r; exact ⟨xs, q, RepL.hold (Hold.refl _ _) (fun b z => .inl (hb b z)) _ _ r⟩
        | dct l => obtain ⟨xs, q, r⟩ := r; exact ⟨xs, q, RepK.hold (Hold.refl _ _) (fun b z => .inl (hb b z)) _ _ r⟩
        | _ => exact r.elim
      · rw [List.getElem?_eq_none (by simpa using Nat.le_of_not_lt hl)] at e
        cases e
    · rw [List.getElem?_set_ne h] at e
      obtain ⟨v, e1, h1⟩ := x.slot i d' e
      refine ⟨v, by rw [List.getElem?_set_ne h]; exact e1, ?_⟩
      by_cases hOi : O i = true
      · rw [if_pos hOi] at h1 ⊢
        obtain ⟨c, e2, e3, h1⟩ := h1
        refine ⟨c, by unfold ownAt; rw [if_neg (Ne.symm h)]; exact e2, e3, ?_⟩
        cases d' with
        | lst l => obtain ⟨xs, q, r⟩ := h1; exact ⟨xs, q, RepL.hold (Hold.refl _ _) (fun b z => .inl (hb b z)) _ _ r⟩
        | dct l => obtain ⟨xs, q, r⟩ := h1; exact ⟨xs, q, RepK.hold (Hold.refl _ _) (fun b z => .inl (hb b z)) _ _ r⟩
        | _ => exact h1
      · rw [if_neg hOi] at h1 ⊢
        exact Rep.hold (Hold.refl _ _) (fun b z => .inl (hb b z)) _ _ h1
theorem vp_own (j : Nat) {js : List Nat} {fr : FA} (ha : VF F O e f) (hr : VP F O js es fr) (hj : j ∉ js := by decide) (hO : O j = true := by rfl) (hs : ∀ i, starEach (e :: es) (F.X i).env = (false, eval e (F.X i).env) :: starEach es (F.X i).env := by intro _; rfl) : VP F O (j :: js) (e :: es) (aCons f fr) := by
  obtain ⟨ta, pa, ga⟩ := ha
  obtain ⟨tr, pr, gr⟩ := hr
  refine ⟨_, fun i => pa_cons (pa i) (pr i) (hs i), fun M π own σ H ρ R Q x hf hq => ?_⟩
  refine ga M π own σ H ρ _ _ x hf fun d a H1 k1 n1 r1 h1 => ?_
  have hth : ∃ o, H1 a = some o := by
    cases d with
    | lst l => obtain ⟨xs, q, _⟩ := r1; exact ⟨_, q⟩
    | dct l => obtain ⟨xs, q, _⟩ := r1; exact ⟨_, q⟩
    | _ => exact r1.elim
  have x1 := x.bar n1 k1.same k1.pool hth
  refine gr _ π own σ H1 ρ _ _ x1 h1 fun l xs H2 k2 l2 l3 hx h2 => hq (d :: l) (.ref a :: xs) H2 (k1.trans k2) (by simp [l2]) (by simp [l3]) (fun σ0 ρ0 x0 => ?_) h2
  obtain ⟨own1, x3, hn⟩ := hx σ0 ρ0 (x0.bar n1 k1.same k1.pool hth)
  have hM : ¬ M a := fun z => by
    obtain ⟨o, q⟩ := x.alloc a z
    rw [n1] at q; cases q
  have npl : ¬ isPl π a := fun z => by
    obtain ⟨o, q⟩ := x.plThere a z
    rw [n1] at q; cases q
  refine ⟨ownAt own1 j a, ?_, fun i b e => ?_⟩
  · show EnvOk F.K M π O (ownAt own1 j a) (setS (σ0.set j (some (.ref a))) js xs) H2 (setR (ρ0.set j (some d)) js l)
    rw [setS_comm hj, setR_comm hj]
    refine x3.adopt hM (fun p e => (x.pool p e).1) hO ?_
    have hb : ∀ b, Bar (fun b => M b ∨ b = a) own1 b → (Bar M own b ∨ b = a) ∨ H1 b = none := fun b z => by
      rcases z with (z | z) | ⟨i, z⟩
      · exact .inl (.inl (.inl z))
      · exact .inl (.inr z)
      · rcases hn i b z with z | z
        · exact .inl (.inl (.inr ⟨i, z⟩))
        · exact .inr z
    have hh : Hold (fun b => Bar M own b ∨ b = a) H1 H2 := fun b o q nb => k2.same b o q fun z => nb (.inl (x.ctx.hp b z))
    cases d with
    | lst l => obtain ⟨ys, q, r⟩ := r1; exact ⟨ys, k2.same _ _ q npl, RepL.hold hh hb _ _ r⟩
    | dct l => obtain ⟨ys, q, r⟩ := r1; exact ⟨ys, k2.same _ _ q npl, RepK.hold hh hb _ _ r⟩
    | _ => exact r1.elim
  · unfold ownAt at e
    split at e
    · cases e; exact .inr n1
    · exact (hn i b e).imp id fun z => x.ctx.noneOf k1 z
theorem Fr0.par {M : Addr → Prop} {π : Pi} {H0 H H' : Hp} {B : Addr → Prop} {own own1 : Own} (fr : Fr0 M π H0 B own H) (k : Keep π H H') (hn : ∀ i a, own1 i = some a → own i = some a ∨ H a = none) (hp : ∀ p, isPl π p → ∃ o, H p = some o) : Fr0 M π H0 B own1 H' := by
  refine ⟨fr.kb.step k, fun i a e => ?_, fr.old⟩
  rcases hn i a e with z | z
  · exact fr.newo i a z
  · by_cases hB : B a
    · exact .inl hB
    · refine .inr ?_
      cases q : H0 a with
      | none => rfl
      | some o =>
        by_cases zp : isPl π a
        · obtain ⟨o', q'⟩ := hp a zp
          rw [z] at q'; cases q'
        · rw [fr.kb.keep a o q hB zp] at z; cases z
theorem len2 {α : Type} : ∀ {l : List α}, l.length = 2 → ∃ a b, l = [a, b]
  | [a, b], _ => ⟨a, b, rfl⟩
theorem len3 {α : Type} : ∀ {l : List α}, l.length = 3 → ∃ a b c, l = [a, b, c]
  | [a, b, c], _ => ⟨a, b, c, rfl⟩
theorem vs_par2 (i j : Nat) {x y : Str} {px py pt : Pos} {kt k2 : Nat} {pt2 : Pos} {fl : FA} (hN : F.N.Nodup) (h : VP F O [i, j] [a, b] fl) (hi : F.N[i]? = some x := by rfl) (hj : F.N[j]? = some y := by rfl) (hij : i ≠ j := by decide)
    (hx : ∀ q, (F.X q).env.scope.names.lookup x = some .local := by intro _; rfl) (hy : ∀ q, (F.X q).env.scope.names.lookup y = some .local := by intro _; rfl)
    (hw : ∀ q, swappedStores [.Tuple [.Name x px, .Name y py] kt pt] (.Tuple [a, b] k2 pt2) (F.X q).env = pure (some [x, y]) := by intro _; rfl)
    (hs : ∀ q, swapsWithSole [.Tuple [.Name x px, .Name y py] kt pt] (.Tuple [a, b] k2 pt2) pos.line (F.X q).env = pure false := by intro _; rfl) :
    VS F O (.Assign [.Tuple [.Name x px, .Name y py] kt pt] (.Tuple [a, b] k2 pt2) pos) (sPar [i, j] fl) := by
  obtain ⟨t, pt', g⟩ := h
  refine ⟨_, fun q => ps_par (F.calm q) (by rw [F.hN q]; exact hN) (by rw [F.hN q]; exact hi) (by rw [F.hN q]; exact hj) hij (hx q) (hy q) (pt' q) (hw q) (hs q), fun M π H0 B own σ H ρ P D x fr hf hd => ?_⟩
  refine g M π own σ H ρ _ _ x hf fun l xs H1 k1 l2 l3 hx1 h1 => ?_
  obtain ⟨own1, x1, hn⟩ := hx1 σ ρ x
  obtain ⟨v, w, e⟩ := len2 l3
  subst e
  exact ⟨v, w, rfl, hd.nx own1 _ H1 _ x1 (fr.par k1 hn x.plThere) h1⟩
theorem vs_par3 (i j l : Nat) {x y z : Str} {px py pz pt : Pos} {kt k2 : Nat} {pt2 : Pos} {fl : FA} (hN : F.N.Nodup) (h : VP F O [i, j, l] [a, b, c] fl) (hi : F.N[i]? = some x := by rfl) (hj : F.N[j]? = some y := by rfl) (hl : F.N[l]? = some z := by rfl) (hij : i ≠ j := by decide) (hil : i ≠ l := by decide) (hjl : j ≠ l := by decide)
    (hx : ∀ q, (F.X q).env.scope.names.lookup x = some .local := by intro _; rfl) (hy : ∀ q, (F.X q).env.scope.names.lookup y = some .local := by intro _; rfl) (hz : ∀ q, (F.X q).env.scope.names.lookup z = some .local := by intro _; rfl)
    (hw : ∀ q, swappedStores [.Tuple [.Name x px, .Name y py, .Name z pz] kt pt] (.Tuple [a, b, c] k2 pt2) (F.X q).env = pure (some [x, y, z]) := by intro _; rfl)
    (hs : ∀ q, swapsWithSole [.Tuple [.Name x px, .Name y py, .Name z pz] kt pt] (.Tuple [a, b, c] k2 pt2) pos.line (F.X q).env = pure false := by intro _; rfl) :
    VS F O (.Assign [.Tuple [.Name x px, .Name y py, .Name z pz] kt pt] (.Tuple [a, b, c] k2 pt2) pos) (sPar [i, j, l] fl) := by
  obtain ⟨t, pt', g⟩ := h
  refine ⟨_, fun q => ps_par3 (F.calm q) (by rw [F.hN q]; exact hN) (by rw [F.hN q]; exact hi) (by rw [F.hN q]; exact hj) (by rw [F.hN q]; exact hl) hij hil hjl (hx q) (hy q) (hz q) (pt' q) (hw q) (hs q), fun M π H0 B own σ H ρ P D x fr hf hd => ?_⟩
  refine g M π own σ H ρ _ _ x hf fun ds xs H1 k1 l2 l3 hx1 h1 => ?_
  obtain ⟨own1, x1, hn⟩ := hx1 σ ρ x
  obtain ⟨v, w, u, e⟩ := len3 l3
  subst e
  exact ⟨v, w, u, rfl, hd.nx own1 _ H1 _ x1 (fr.par k1 hn x.plThere) h1⟩
end
/-! ### calls and defs by name -/
section
variable (P : Program) (w : World) (K : PySem.W.Frag) (mg : Str → Option Value) (base : Heap)
/-- the def called x keeps g, at level k -/
def Call (k : Nat) (x : Str) (g : GA) : Prop := ∃ fA fd ps, FnOk P w K mg base L2.CX0 k fA fd ps (spD K g) ∧ mg x = some (.ref fA) ∧ PySem.W.keepIn K (.ref fA) = true ∧ Binds K fd ps []
/-- the def called x as it stands -/
def DefF (x : Str) (st : Stmt) (ps : List Str) : Prop := ∃ f fd, FunD K x x (defArgs st) (defBody st) (defScope st) [] [] f fd ∧ mg x = some (.ref f) ∧ Binds K fd ps []
end
section
variable {P : Program} {w : World} {K : PySem.W.Frag} {mg : Str → Option Value} {base : Heap} {F : Fam} {O : Nat → Bool} {e : Expr} {es : List Expr} {pos p : Pos}
theorem ve_cl {x : Str} {k : Nat} {g : GA} {fl : FA} (h : Call F.P F.w F.K F.mg F.base k x g) (ha : VA F O (e :: es) fl) (hr : k ≤ F.k := by exact Nat.le_of_ble_eq_true rfl) (hg : ∀ i, Gl (F.X i) x := by intro _; rfl)
    (hdb : (x == ("__debug__" : Str)) = false := by decide) (he : ∀ i, starEach (e :: es) (F.X i).env = (false, eval e (F.X i).env) :: starEach es (F.X i).env := by intro _; rfl) (hpl : ∀ i, (backTo pos (starEach es (F.X i).env)).any (·.1) = false := by intro _; rfl) :
    VE F O (.Call (.Name x p) (e :: es) [] pos) (eCall g fl) := by
  obtain ⟨fA, fd, ps, G, hm, hk, hb⟩ := h
  exact ve_call G hr hm hk hb ha hg hdb he hpl
theorem ve_c0 {x : Str} {k : Nat} {g : GA} (h : Call F.P F.w F.K F.mg F.base k x g) (hr : k ≤ F.k := by exact Nat.le_of_ble_eq_true rfl) (hg : ∀ i, Gl (F.X i) x := by intro _; rfl)
    (hdb : (x == ("__debug__" : Str)) = false := by decide) : VE F O (.Call (.Name x p) [] [] pos) (eCall g aNil) := by
  obtain ⟨fA, fd, ps, G, hm, hk, hb⟩ := h
  exact ve_call0 G hr hm hk hb hg hdb
theorem Call.of {x : Str} {st : Stmt} {ps N : List Str} {k n q : Nat} {b : FS} (O : Nat → Bool) (D : DefF K mg x st ps) (S : FnScope N ps (defScope st)) (hn : N.length = n) (hp : ps.length = q) (hO : ∀ i, i < q → O i = false) (hle : q ≤ n)
    (hb : ∀ f, VSs (famD P w K mg base N x (defScope st) f k) O (defBody st) b) : Call P w K mg base (k + 1) x (fnD n q b) := by
  obtain ⟨f, fd, F, hm, hB⟩ := D
  exact ⟨f, fd, ps, ok_def F S hn hp hO hle (hb f), hm, F.kp, hB⟩
theorem Call.zero {x : Str} {st : Stmt} {ps : List Str} {k : Nat} (D : DefF K mg x st ps) : Call P w K mg base k x (fun _ _ => False) := by
  obtain ⟨f, fd, F, hm, hB⟩ := D
  exact ⟨f, fd, ps, ⟨fun vs H Q E h => by obtain ⟨_, _, _, _, _, _, h, _⟩ := h; exact h.elim, fun A outer s H args us vs Q E hr he hb hv h => by obtain ⟨_, _, _, _, _, _, h, _⟩ := h; exact h.elim⟩, hm, F.kp, hB⟩
theorem Call.up {x : Str} {g : GA} {j k : Nat} (h : Call P w K mg base j x g) (hjk : j ≤ k) : Call P w K mg base k x g := by
  obtain ⟨f, fd, ps, G, r⟩ := h
  exact ⟨f, fd, ps, G.mono hjk, r⟩
end
/-- the built-in names that no text binds anew -/
structure Bi (mg : Str → Option Value) : Prop where
  len : mg "len" = none
  tuple : mg "tuple" = none
  list : mg "list" = none
  all : mg "all" = none
  any : mg "any" = none
  int : mg "int" = none
  isinstance : mg "isinstance" = none
  range : mg "range" = none
  sorted : mg "sorted" = none
  max : mg "max" = none
  min : mg "min" = none
  dict : mg "dict" = none
  enumerate : mg "enumerate" = none
  zip : mg "zip" = none
  str : mg "str" = none
  repr : mg "repr" = none
  bool : mg "bool" = none
end Fn
end P_FX
section P_FP
set_option maxHeartbeats 4000000
/-! The pool of draws: what its defs' bodies do. -/
namespace Fn
open PySem PySem.Spec PyProof.Rows L2
section
variable (K : PySem.W.Frag)
def dG (k : Nat) : TE := tOp (rIxL K) (tVar 0) (tC (.int k))
def dI (a : TE) : TE := tCB (fun xs H Q => (∃ i, xs = [V.int i] ∧ Q (V.int i) H) ∨ ∃ k, xs = [V.bl k] ∧ Q (V.int (if k = true then 1 else 0)) H) (tCons a tNil)
def dL (a : TE) : TE := tCB (fun xs H Q => ∃ p ys, xs = [V.ref p] ∧ (SqL K H p ys ∨ SqT K H p ys) ∧ Q (V.int ↑ys.length) H) (tCons a tNil)
def dLe (a b : TE) : TT := tTest (tOp (rI0 fun i j => V.bl (decide (i ≤ j))) a b)
def dLt (a b : TE) : TT := tTest (tOp (rI0 fun i j => V.bl (decide (i < j))) a b)
def dAdd (a b : TE) : TE := tOp (rI0 fun i j => V.int (i + j)) a b
def dMul (a b : TE) : TE := tOp (rI (fun i j => (-(2 ^ 64) < i ∧ i < 2 ^ 64) ∨ (-(2 ^ 64) < j ∧ j < 2 ^ 64)) fun i j => V.int (i * j)) a b
def dMod (a b : TE) : TE := tOp (rI (fun x j => 0 < j) fun i j => V.int (i % j)) a b
def dDiv (a b : TE) : TE := tOp (rI CDiv fun i j => V.int (i / j)) a b
def dP (k : Nat) (e : TE) : TS := tAsg e (gSub (tVar 0) (tC (.int k)) rSetL)
def dN (i : Int) : TE := tC (.int i)
def t_draw (g : GA) : TS :=
  tSeq (tIfS (L2.tAnd (dLe (dG K 2) (dN 0)) (dLt (dG K 1) (dL K (dG K 0))))
    (tSeq (tAsg (tOp (rIxL K) (dG K 0) (dG K 1)) (L2.gName 2))
    (tSeq (dP 1 (dAdd (dG K 1) (dN 1)))
    (tSeq (dP 2 (tVar 2))
      (tIfS (dLt (tVar 2) (dN 1000000000000000000)) (dP 2 (tCall (spD K g) [] E0 (tCons (tVar 2) tNil))) tNext)))) tNext)
  (tSeq (dP 3 (dAdd (dG K 3) (dN 1)))
  (tSeq (tIfS (dLe (dG K 2) (dN 0))
      (tSeq (tAsg (dMod (dI (dAdd (dAdd (dMul (dG K 4) (dN 48271)) (dMul (dG K 3) (dN 69621))) (dN 1))) (dN 2147483647)) (L2.gName 3))
      (tSeq (tAsg (dMod (dI (dAdd (dMul (tVar 3) (dN 16807)) (dG K 3))) (dN 2147483629)) (L2.gName 3))
        (tRet (dMod (dDiv (tVar 3) (dN 5)) (tVar 1)))))
      tNext)
  (tSeq (tAsg (dMod (dI (dG K 2)) (tVar 1)) (L2.gName 4))
  (tSeq (dP 2 (dDiv (dG K 2) (tVar 1)))
    (tRet (tVar 4))))))
variable {K}
theorem rd {σ : L2.St} {H : Hp} {p : Addr} {xs : List V} {k : Nat} {v : V} {Q : VK} (hs : σ[0]? = some (some (.ref p))) (hH : H p = some (.lst xs)) (hv : xs[k]? = some v) (q : Q v H) : dG K k σ H Q :=
  ⟨_, hs, p, xs, k, v, rfl, rfl, SqL.of hH, atI_nat hv, q⟩
theorem wr {σ : L2.St} {H : Hp} {p : Addr} {xs : List V} {k : Nat} {v : V} {Q : L2.St → Hp → Prop} (hs : σ[0]? = some (some (.ref p))) (hH : H p = some (.lst xs)) (hk : k < xs.length) (q : Q σ (upd H p (.lst (xs.set k v)))) : gSub (tVar 0) (tC (.int k)) rSetL v σ H Q :=
  ⟨_, hs, p, xs, k, k, rfl, rfl, hH, by unfold L2.ixN; rw [if_pos (Int.natCast_nonneg k), if_pos (by omega)]; rfl, q⟩
theorem goT {c : Prop} [Decidable c] {a b : Prop} (h : c) (q : a) : if decide c = true then a else b := by rw [if_pos (decide_eq_true h)]; exact q
theorem goF {c : Prop} [Decidable c] {a b : Prop} (h : ¬ c) (q : b) : if decide c = true then a else b := by rw [if_neg (by simpa using h)]; exact q
theorem fDraw_inv {ds : List D} {R : DK} (h : fDraw ds R) : ∃ m : Int, ds = [.pool, .int m] ∧ 0 < m ∧ m < 1073741824 ∧ ∀ k : Int, 0 ≤ k → k < m → R (.int k) := by
  unfold fDraw at h
  split at h
  · exact ⟨_, rfl, h⟩
  · exact h.elim
section
variable {H : Hp} {D : Ends} {p l : Addr} {ns : List Int} {sl m : Int}
def PA (H0 : Hp) (p l : Addr) (ns : List Int) (sl : Int) (H : Hp) (i c n : Int) : Prop := (∀ a o, H0 a = some o → a ≠ p → H a = some o) ∧ H p = some (.lst [.ref l, .int i, .int c, .int n, .int sl]) ∧ H l = some (.lst (ns.map V.int)) ∧ 0 ≤ i ∧ l ≠ p
theorem PA.upd {H0 H1 : Hp} {i c n i' c' n' : Int} (h : PA H0 p l ns sl H1 i c n) (hi : 0 ≤ i') : PA H0 p l ns sl (upd H1 p (.lst [.ref l, .int i', .int c', .int n', .int sl])) i' c' n' :=
  ⟨fun a o q z => by rw [upd_ne z]; exact h.1 a o q z, upd_same, by rw [upd_ne h.2.2.2.2]; exact h.2.2.1, hi, h.2.2.2.2⟩
theorem draw_tail {x y z : Option V} {i c n : Int} {H1 : Hp} (h : PA H p l ns sl H1 i c n) (hm0 : 0 < m) (hm1 : m < 1073741824) (fin : ∀ (k : Int) H' (i c n : Int), 0 ≤ k → k < m → PA H p l ns sl H' i c n → D.rt (.int k) H') :
    (tSeq (dP 3 (dAdd (dG K 3) (dN 1)))
  (tSeq (tIfS (dLe (dG K 2) (dN 0))
      (tSeq (tAsg (dMod (dI (dAdd (dAdd (dMul (dG K 4) (dN 48271)) (dMul (dG K 3) (dN 69621))) (dN 1))) (dN 2147483647)) (L2.gName 3))
      (tSeq (tAsg (dMod (dI (dAdd (dMul (tVar 3) (dN 16807)) (dG K 3))) (dN 2147483629)) (L2.gName 3))
        (tRet (dMod (dDiv (tVar 3) (dN 5)) (tVar 1)))))
      tNext)
  (tSeq (tAsg (dMod (dI (dG K 2)) (tVar 1)) (L2.gName 4))
  (tSeq (dP 2 (dDiv (dG K 2) (tVar 1)))
    (tRet (tVar 4)))))) D [some (.ref p), some (.int m), x, y, z] H1 := by
  refine rd (k := 3) rfl h.2.1 rfl ⟨_, _, rfl, rfl, ?_⟩
  refine wr (k := 3) rfl h.2.1 (by simp) ?_
  have h2 := h.upd (c' := c) (n' := n + 1) h.2.2.2.1
  refine rd (k := 2) rfl h2.2.1 rfl ⟨_, _, rfl, rfl, _, rfl, ?_⟩
  by_cases hc : c ≤ 0
  · refine goT hc ?_
    refine rd (k := 4) rfl h2.2.1 rfl ⟨_, _, rfl, rfl, .inr (by decide), ?_⟩
    refine rd (k := 3) rfl h2.2.1 rfl ⟨_, _, rfl, rfl, .inr (by decide), ⟨_, _, rfl, rfl, _, _, rfl, rfl, .inl ⟨_, rfl, _, _, rfl, rfl, (by show (0 : Int) < 2147483647; decide), ?_⟩⟩⟩
    refine ⟨_, rfl, _, _, rfl, rfl, .inr (by decide), ?_⟩
    refine rd (k := 3) rfl h2.2.1 rfl ⟨_, _, rfl, rfl, .inl ⟨_, rfl, _, _, rfl, rfl, (by show (0 : Int) < 2147483629; decide), ?_⟩⟩
    refine ⟨_, rfl, _, _, rfl, rfl, ⟨by decide, by decide⟩, _, rfl, _, _, rfl, rfl, hm0, fin _ _ _ _ _ (Int.emod_nonneg _ (by omega)) (Int.emod_lt_of_pos _ hm0) h2⟩
  · refine goF hc ?_
    refine rd (k := 2) rfl h2.2.1 rfl (.inl ⟨_, rfl, _, rfl, _, _, rfl, rfl, hm0, ?_⟩)
    refine rd (k := 2) rfl h2.2.1 rfl ⟨_, rfl, _, _, rfl, rfl, ⟨hm0, hm1⟩, ?_⟩
    refine wr (k := 2) rfl h2.2.1 (by simp) ?_
    have h3 := h2.upd (c' := c / m) (n' := n + 1) h2.2.2.2.1
    exact ⟨_, rfl, fin _ _ _ _ _ (Int.emod_nonneg _ (by omega)) (Int.emod_lt_of_pos _ hm0) h3⟩
theorem draw_all {g : GA} (hg : ∀ c R, (∀ n, R (.int n)) → g [.int c] R) {i c n : Int} (h : PA H p l ns sl H i c n) (hm0 : 0 < m) (hm1 : m < 1073741824) (fin : ∀ (k : Int) H' (i c n : Int), 0 ≤ k → k < m → PA H p l ns sl H' i c n → D.rt (.int k) H') :
    t_draw K g D [some (.ref p), some (.int m), none, none, none] H := by
  refine rd (k := 2) rfl h.2.1 rfl ⟨_, _, rfl, rfl, _, rfl, ?_⟩
  by_cases hc : c ≤ 0
  · refine goT hc ?_
    refine rd (k := 1) rfl h.2.1 rfl ?_
    refine rd (k := 0) rfl h.2.1 rfl ⟨_, _, rfl, .inl (SqL.of h.2.2.1), _, _, rfl, rfl, _, rfl, ?_⟩
    by_cases hi : i < (ns.map V.int).length
    · refine goT hi ?_
      refine rd (k := 0) rfl h.2.1 rfl ?_
      obtain ⟨j, rfl⟩ := Int.eq_ofNat_of_zero_le h.2.2.2.1
      have hj : j < ns.length := by simpa using hi
      refine rd (k := 1) rfl h.2.1 rfl ⟨_, _, _, .int (ns[j]'hj), rfl, rfl, SqL.of h.2.2.1, atI_nat (by rw [List.getElem?_map, List.getElem?_eq_getElem hj]; rfl), ?_⟩
      refine rd (k := 1) rfl h.2.1 rfl ⟨_, _, rfl, rfl, ?_⟩
      refine wr (k := 1) rfl h.2.1 (by simp) ?_
      have h2 := h.upd (i' := j + 1) (c' := c) (n' := n) (by omega)
      refine ⟨_, rfl, wr (k := 2) rfl h2.2.1 (by simp) ?_⟩
      have h3 := h2.upd (c' := ns[j]'hj) (n' := n) h2.2.2.2.1
      refine ⟨_, rfl, _, _, rfl, rfl, _, rfl, ?_⟩
      by_cases hz : ns[j]'hj < 1000000000000000000
      · refine goT hz ?_
        refine ⟨_, rfl, fun _ => False, none, [.int (ns[j]'hj)], fun d => ∃ n, d = .int n, ⟨fun _ z => z.elim, fun _ e => nomatch e⟩, ⟨_, _, rfl, rfl, rfl⟩, hg _ _ fun n => ⟨n, rfl⟩, fun d v H4 k4 r4 h4 => ?_⟩
        obtain ⟨n4, rfl⟩ := h4
        obtain rfl : v = .int n4 := r4
        have h5 : PA H p l ns sl H4 (j + 1) (ns[j]'hj) n := ⟨fun a o q z => k4.same _ _ (h3.1 a o q z) (fun ⟨_, e⟩ => nomatch e), k4.same _ _ h3.2.1 (fun ⟨_, e⟩ => nomatch e), k4.same _ _ h3.2.2.1 (fun ⟨_, e⟩ => nomatch e), h3.2.2.2⟩
        refine wr (k := 2) rfl h5.2.1 (by simp) ?_
        exact draw_tail (h5.upd (c' := n4) (n' := n) h5.2.2.2.1) hm0 hm1 fin
      · refine goF hz ?_
        exact draw_tail h3 hm0 hm1 fin
    · refine goF hi ?_
      exact draw_tail h hm0 hm1 fin
  · refine goF hc ?_
    exact draw_tail h hm0 hm1 fin
end
theorem draw_sem {g : GA} {vs : List V} {H : Hp} {Q : VK} {E : XK} {nx : L2.St → Hp → Prop} (hg : ∀ c R, (∀ n, R (.int n)) → g [.int c] R) (h : spD K fDraw vs H Q E) : t_draw K g { nx := nx, rt := Q } (L2.start ["pool", "many", "cell", "blended", "value"] vs) H := by
  obtain ⟨M, π, ds, R, c, r, h, hq⟩ := h
  obtain ⟨m, rfl, hm0, hm1, hR⟩ := fDraw_inv h
  obtain ⟨v1, vs1, rfl, r1, v2, vs2, rfl, r2, rfl⟩ := r
  obtain ⟨pl, hπ, rfl⟩ := r1
  obtain rfl : v2 = .int m := r2
  have h0 := (c.pool _ hπ).2
  obtain ⟨p, l⟩ := pl
  obtain ⟨ns, i, c0, n, sl, q1, q2, ne, hi⟩ := h0
  refine draw_all hg (p := p) (l := l) (ns := ns) (sl := sl) (i := i) (c := c0) (n := n) ⟨fun a o q _ => q, q1, q2, hi, ne⟩ hm0 hm1 fun k H' i c n h1 h2 h3 => ?_
  exact hq (.int k) _ H' ⟨fun a o q z => h3.1 a o q (fun e => z ⟨l, by rw [e]; exact hπ⟩), fun q e => by rw [hπ] at e; cases e; exact ⟨ns, i, c, n, sl, h3.2.1, h3.2.2.1, ne, h3.2.2.2.1⟩⟩ rfl (hR k h1 h2)
theorem draw_len {vs : List V} {H : Hp} {Q : VK} {E : XK} (h : spD K fDraw vs H Q E) : vs.length = 2 := by
  obtain ⟨M, π, ds, R, c, r, h, hq⟩ := h
  obtain ⟨m, rfl, _⟩ := fDraw_inv h
  rw [r.length]; rfl
end
section
variable (K : PySem.W.Frag)
/-- the pool is made of the script's numbers -/
def spPool : Sp := fun vs H Q _ => ∃ (a : Addr) (ns : List Int), vs = [.ref a] ∧ SqL K H a (ns.map V.int) ∧ ∀ (p l : Addr) (s : Int) (H' : Hp), H' p = some (.lst [.ref l, .int 0, .int 0, .int 0, .int s]) → H' l = some (.lst (ns.map V.int)) → l ≠ p → (∀ b o, H b = some o → H' b = some o) → Q (.ref p) H'
def t_pool : TS :=
  tSeq (tAsg (dN 7) (L2.gName 1))
  (tSeq (tFor (iList K (tSl (rSlL K) (tVar 0) (fun _ H Q => Q none H) (fun σ H Q => tC (.int 63) σ H fun v H1 => ∃ i, v = V.int i ∧ Q (some i) H1))) (L2.gName 2) (tAsg (dMod (dI (dAdd (dMul (tVar 1) (dN 31)) (tVar 2))) (dN 1000003)) (L2.gName 1)))
    (tRet (tLst (tCons (tCB (fun xs H Q => ∃ p ys, xs = [V.ref p] ∧ (SqL K H p ys ∨ SqT K H p ys) ∧ ∀ l, H l = none → Q (V.ref l) (upd H l (HO.lst ys))) (tCons (tVar 0) tNil)) (tCons (dN 0) (tCons (dN 0) (tCons (dN 0) (tCons (tVar 1) tNil))))))))
variable {K}
theorem cutV_get {xs : List V} {lo hi : Option Int} {i : Nat} {x : V} (h : (cutV xs lo hi)[i]? = some x) : x ∈ xs := by
  have h1 := List.mem_of_getElem? h
  unfold cutV at h1
  first
  | exact List.mem_of_mem_drop (List.mem_of_mem_take h1)
  | exact List.mem_of_mem_take (List.mem_of_mem_drop h1)
theorem sqL_grow {H : Hp} {a p : Addr} {xs : List V} {o : HO} (h : SqL K H a xs) (n : H p = none) : SqL K (upd H p o) a xs := by
  rcases h with h | h
  · exact .inl (rd_hold (fun x q => same_upd n _ _ q) h)
  · exact .inr h
theorem pool_sem {vs : List V} {H : Hp} {Q : VK} {E : XK} {nx : L2.St → Hp → Prop} (h : spPool K vs H Q E) : t_pool K { nx := nx, rt := Q } (L2.start ["script", "salt", "cell"] vs) H := by
  obtain ⟨a, ns, rfl, hS, hq⟩ := h
  refine ⟨_, rfl, _, rfl, a, _, rfl, hS, fun p np => ⟨p, rfl, ⟨_, SqL.of upd_same⟩, ?_⟩⟩
  refine for_list (xs := cutV (ns.map V.int) none (some 63)) (fun _ σ H1 => H1 = upd H p (.lst (cutV (ns.map V.int) none (some 63))) ∧ ∃ (s : Int) (x : Option V), σ = [some (.ref a), some (.int s), x]) ⟨rfl, 7, none, rfl⟩ (fun i σ H1 _ h => by rw [h.1]; exact SqL.of upd_same) (fun i x σ H1 hx h => ?_) (fun σ H1 h => ?_)
  · obtain ⟨hH, s, y, rfl⟩ := h
    have hm := cutV_get hx
    rw [List.mem_map] at hm
    obtain ⟨n, _, rfl⟩ := hm
    exact ⟨_, rfl, _, _, rfl, rfl, .inr (by decide), _, rfl, _, _, rfl, rfl, .inl ⟨_, rfl, _, _, rfl, rfl, (by show (0 : Int) < 1000003; decide), hH, _, _, rfl⟩⟩
  · obtain ⟨rfl, s, y, rfl⟩ := h
    refine ⟨_, rfl, a, _, rfl, .inl (sqL_grow hS np), fun l nl => ⟨_, rfl, by simp [sizeLine_eq], fun p2 np2 => ?_⟩⟩
    have n2 : l ≠ p2 := fun e => by rw [e, upd_same] at np2; cases np2
    exact hq p2 l s _ upd_same (by rw [upd_ne n2]; exact upd_same) n2 fun b o q => same_upd np2 _ _ (same_upd nl _ _ (same_upd np _ _ q))
theorem pool_len {vs : List V} {H : Hp} {Q : VK} {E : XK} (h : spPool K vs H Q E) : vs.length = 1 := by
  obtain ⟨a, ns, rfl, _⟩ := h
  rfl
end
/-- a law's run: a pool from the script, then plain -/
def spLaw (K : PySem.W.Frag) : Sp := fun vs H Q _ => ∃ (a : Addr) (ns : List Int), vs = [.ref a] ∧ SqL K H a (ns.map V.int) ∧ ∀ H', Q (.bl true) H'
def poT : Po := ⟨fun _ => False, fun d => d = .bl true, fun _ => False, fun _ => False⟩
theorem law_ok {P : Program} {w : World} {K : PySem.W.Frag} {mg : Str → Option Value} {base : Heap} {x qual : Str} {params : Arguments} {st1 : Stmt} {rest body : List Stmt} {scope : Scope} {f : Addr} {fd : FuncData} {N : List Str} {k : Nat} {O : Nat → Bool} {b : FS} {n : Nat}
    (F : FunD K x qual params body scope [] [] f fd) (S : FnScope N ["script"] scope) (hn : N.length = n + 2) (hO : O 1 = false) (hbody : body = st1 :: rest)
    (h1 : ∀ z : Ent k qual scope f, PS ((famD P w K mg base N qual scope f k).X z) st1 (tAsg (tCall (spPool K) [] E0 (tCons (tVar 0) tNil)) (L2.gName 1)))
    (hb : VSs (famD P w K mg base N qual scope f k) O rest b) (hp : b poT (none :: some .pool :: List.replicate n none)) :
    FnOk P w K mg base L2.CX0 (k + 1) f fd ["script"] (spLaw K) := by
  subst hbody
  obtain ⟨t, pt, g⟩ := hb
  refine F.ok S (fun vs H Q E h => ?_) (fun cdv A outer s H vs Q E hr h => ?_)
  · obtain ⟨a, ns, rfl, _⟩ := h
    rfl
  · obtain ⟨a, ns, rfl, hS, hq⟩ := h
    refine ⟨_, PSs.nox (pss_cons (h1 ⟨cdv, A, outer, s, H, E, hr⟩) (pt ⟨cdv, A, outer, s, H, E, hr⟩)), ?_⟩
    refine ⟨_, rfl, a, ns, rfl, hS, fun p l sl H' e1 e2 ne hk => ?_⟩
    have hst : L2.start N [V.ref a] = some (.ref a) :: none :: List.replicate n none := by
      unfold L2.start
      rw [hn]
      rfl
    rw [hst]
    have hP : PoolAt H' (p, l) := ⟨ns, 0, 0, 0, sl, e1, e2, ne, by decide⟩
    have hal : ∀ b, (b = p ∨ b = l) → ∃ o, H' b = some o := fun b z => by
      rcases z with rfl | rfl
      · exact ⟨_, e1⟩
      · exact ⟨_, e2⟩
    refine g (fun b => b = p ∨ b = l) (some (p, l)) H' (fun _ => False) (fun _ => none) (some (.ref a) :: some (.ref p) :: List.replicate n none) H' _ poT _ ⟨hal, fun q e => by cases e; exact ⟨⟨.inl rfl, .inr rfl⟩, hP⟩, (by intro i a e; exact nomatch e), (by intro i j a e; exact nomatch e), by simp, fun i d e => ?_⟩
      ⟨⟨fun a o q _ _ => q, fun q e => by cases e; exact hP⟩, (by intro i a e; exact nomatch e), hal⟩ hp ⟨fun _ _ _ _ _ _ h => h.elim, fun d v H2 kb r h => ?_, fun _ _ _ _ _ _ h => h.elim, fun _ _ _ _ _ _ h => h.elim⟩
    · match i, e with
      | 1, e =>
        cases e
        refine ⟨_, rfl, ?_⟩
        rw [if_neg (by rw [hO]; decide)]
        exact ⟨_, rfl, rfl⟩
      | i + 2, e =>
        have e : (List.replicate n (none : Option D))[i]? = some (some d) := e
        have := List.eq_of_mem_replicate (List.mem_of_getElem? e)
        cases this
    · have h : d = .bl true := h
      subst h
      obtain rfl : v = .bl true := r
      exact hq H2
end Fn
end P_FP
section P_FY
set_option maxHeartbeats 4000000
/-! Further rules. -/
namespace Fn
open PySem PySem.Spec PyProof.Rows L2
/-- list + list as a new list -/
def bCat : G2 := fun x y R => match x, y with
  | .lst a, .lst b => a.length + b.length ≤ 16777216 ∧ R (.lst (a ++ b))
  | _, _ => False
section
variable {F : Fam} {O : Nat → Bool} {e a b c : Expr} {es : List Expr} {f fa fb fc : FE} {pos p p2 p3 : Pos}
theorem vf_cat (ha : VR F O a fa) (hb : VR F O b fb) : VF F O (.BinOp a .Add b pos) (eBin bCat fa fb) := by
  obtain ⟨ta, pa, ga⟩ := ha
  obtain ⟨tb, pb, gb⟩ := hb
  refine ⟨_, fun i => pe_op op_cat (pa i) (pb i), fun M π own σ H ρ R Q x hf hq => ?_⟩
  refine ga M π own σ H ρ _ _ x hf fun d v H1 k1 r1 h1 => ?_
  have x1 := x.keep k1
  refine gb M π own σ H1 ρ _ _ x1 h1 fun d2 v2 H2 k2 r2 h2 => ?_
  have r3 := r1.keep x1.ctx k2
  unfold bCat at h2
  split at h2
  · rename_i l m
    obtain ⟨a1, xs, e1, q1, s1⟩ := r3.lst
    obtain ⟨a2, ys, e2, q2, s2⟩ := r2.lst
    subst e1 e2
    refine ⟨_, _, xs, ys, rfl, rfl, q1, q2, by rw [s1.length, s2.length, sizeLine_eq]; exact h2.1, fun p np => ?_⟩
    exact hq (.lst (l ++ m)) _ _ ((k1.trans k2).trans ((x1.keep k2).ctx.keepNew np)) (x.ctx.noneOf (k1.trans k2) np) ⟨_, upd_same, RepL.hold (hold_upd np) (fun a z => z.elim .inl fun e => .inr (e ▸ np)) _ _ (s1.append s2)⟩ h2.2
  · exact h2.elim
theorem vs_ap (j : Nat) {y : Str} (he : VE F O e f) (hN : ∀ i, (F.X i).N[j]? = some y := by intro _; rfl) (hv : ∀ i, Vis (F.X i).env.scope y := by intro _; first | exact Or.inl rfl | exact Or.inr (Or.inl rfl) | exact Or.inr (Or.inr rfl)) (hO : O j = true := by rfl)
    (hd : (y == ("__debug__" : Str)) = false := by decide) (hcd : (y == ("__classdict__" : Str)) = false := by decide)
    (hbase : ∀ i, attributeBase (.Name y p2) "append" (F.X i).env (eval (.Name y p2) (F.X i).env) = eval (.Name y p2) (F.X i).env := by intro _; rfl)
    (hfew : ∀ i, ((backTo p (starEach [e] (F.X i).env)).all (fun x => !x.1) && (backToKw p (keywordEach [] (F.X i).env)).all (fun x => x.1.isSome)
      && decide ([e].length + ([] : List Keyword).length + (if ([] : List Keyword).isEmpty then 0 else 1) < 30)) = true := by intro _; rfl)
    (hline : (p3.endLine == p.line) = true := by rfl) (hs : ∀ i, starEach [e] (F.X i).env = [(false, eval e (F.X i).env)] := by intro _; rfl)
    (hw : ∀ i, swapsWith (.Call (.Attribute (.Name y p2) "append" p3) [e] [] p) none pos.line (F.X i).env = pure false := by intro _; rfl) :
    VS F O (.Expr (.Call (.Attribute (.Name y p2) "append" p3) [e] [] p) pos) (sApp j f) := vs_app j (fun i => pe_var (hN i) (hv i) hd hcd) hO he hbase hfew hline hs hw
theorem vs_ex (j : Nat) {y : Str} (he : VR F O e f) (hN : ∀ i, (F.X i).N[j]? = some y := by intro _; rfl) (hv : ∀ i, Vis (F.X i).env.scope y := by intro _; first | exact Or.inl rfl | exact Or.inr (Or.inl rfl) | exact Or.inr (Or.inr rfl)) (hO : O j = true := by rfl)
    (hd : (y == ("__debug__" : Str)) = false := by decide) (hcd : (y == ("__classdict__" : Str)) = false := by decide)
    (hbase : ∀ i, attributeBase (.Name y p2) "extend" (F.X i).env (eval (.Name y p2) (F.X i).env) = eval (.Name y p2) (F.X i).env := by intro _; rfl)
    (hfew : ∀ i, ((backTo p (starEach [e] (F.X i).env)).all (fun x => !x.1) && (backToKw p (keywordEach [] (F.X i).env)).all (fun x => x.1.isSome)
      && decide ([e].length + ([] : List Keyword).length + (if ([] : List Keyword).isEmpty then 0 else 1) < 30)) = true := by intro _; rfl)
    (hline : (p3.endLine == p.line) = true := by rfl) (hs : ∀ i, starEach [e] (F.X i).env = [(false, eval e (F.X i).env)] := by intro _; rfl)
    (hw : ∀ i, swapsWith (.Call (.Attribute (.Name y p2) "extend" p3) [e] [] p) none pos.line (F.X i).env = pure false := by intro _; rfl) :
    VS F O (.Expr (.Call (.Attribute (.Name y p2) "extend" p3) [e] [] p) pos) (sExt j f) := vs_ext j (fun i => pe_var (hN i) (hv i) hd hcd) hO he hbase hfew hline hs hw
end
/-! ### several names by a tuple between -/
def namesT : List Nat → TGs
  | [] => gNil
  | j :: js => gCons (L2.gName j) (namesT js)
theorem namesT_run {Q : L2.St → Hp → Prop} {H : Hp} : ∀ {js : List Nat} {xs : List V} {σ : L2.St}, xs.length = js.length → Q (setS σ js xs) H → namesT js xs σ H Q
  | [], [], _, _, h => ⟨rfl, h⟩
  | j :: js, v :: xs, σ, e, h => ⟨v, xs, rfl, namesT_run (js := js) (by simpa using e) h⟩
def VN (F : Fam) (tgs : List Expr) (js : List Nat) : Prop := ∀ i, PGs (F.X i) tgs (namesT js)
theorem vn_nil {F : Fam} : VN F [] [] := fun _ => pgs_nil
theorem vn_cons {F : Fam} {tgs : List Expr} {js : List Nat} {p : Pos} {x : Str} (j : Nat) (hN : F.N.Nodup) (h : VN F tgs js) (hj : F.N[j]? = some x := by rfl) (hx : ∀ i, Loc (F.X i).env.scope x := by intro _; first | exact Or.inl rfl | exact Or.inr rfl) (hf : ∀ i, (F.X i).fn x = true ∨ (F.X i).env.scope.names.lookup x = some .local := by intro _; first | exact Or.inl rfl | exact Or.inr rfl)
    (hm : ∀ i, (assignEach (.Name x p :: tgs) (F.X i).env).map (·.2) = assign (.Name x p) (F.X i).env :: (assignEach tgs (F.X i).env).map (·.2) := by intro _; rfl) : VN F (.Name x p :: tgs) (j :: js) :=
  fun i => pgs_cons (pg_name (by rw [F.hN i]; exact hN) (by rw [F.hN i]; exact hj) (hx i) (hf i)) (h i) (hm i)
theorem vs_parT {F : Fam} {O : Nat → Bool} {tgs es : List Expr} {js : List Nat} {fl : FA} {kt k2 : Nat} {pt pt2 pos : Pos} (h : VP F O js es fl) (hv : VN F tgs js) (hl : js.length ≤ 16777216 := by decide)
    (hn : ∀ i, (assignEach tgs (F.X i).env).length = js.length := by intro _; rfl) (hst : ∀ i, (assignEach tgs (F.X i).env).findIdx? (·.1) = none := by intro _; rfl)
    (hs : ∀ i, swapsWithSole [.Tuple tgs kt pt] (.Tuple es k2 pt2) pos.line (F.X i).env = pure false := by intro _; rfl) (hw : ∀ i, swappedStores [.Tuple tgs kt pt] (.Tuple es k2 pt2) (F.X i).env = pure none := by intro _; rfl)
    (hm : ∀ i, (assignEach [.Tuple tgs kt pt] (F.X i).env).map (·.2) = [assign (.Tuple tgs kt pt) (F.X i).env] := by intro _; rfl) :
    VS F O (.Assign [.Tuple tgs kt pt] (.Tuple es k2 pt2) pos) (sPar js fl) := by
  obtain ⟨t, p, g⟩ := h
  refine ⟨tAsg (tTup t) (L2.gTup F.K js.length (namesT js)), fun i => by rw [← F.hK i]; exact ps_asg (pe_tup (p i)) (pg_tup (F.calm i) (hv i) (hn i) (hst i)) (hs i) (hw i) (hm i), fun M π H0 B own σ H ρ P D x fr hf hd => ?_⟩
  refine g M π own σ H ρ _ _ x hf fun l xs H1 k1 l2 l3 hx1 h1 => ?_
  obtain ⟨own1, x1, hn⟩ := hx1 σ ρ x
  refine ⟨by rw [l3, sizeLine_eq]; exact hl, fun q nq => ⟨q, xs, rfl, SqT.of upd_same, l3, namesT_run l3 ?_⟩⟩
  have k2 : Keep π H1 (upd H1 q (.tup xs)) := x1.ctx.keepNew nq
  exact hd.nx own1 _ _ _ (x1.keep k2) ((fr.par k1 hn x.plThere).step k2) h1
end Fn
end P_FY
section P_FS
set_option maxHeartbeats 4000000
/-! The plain layer's own laws: what a simp set says of each combinator; loops, comprehensions, draws. -/
namespace Fn
open PySem
/-! what a value is, once known -/
def onSeq (R : List D → Prop) : D → Prop
  | .tup l => R l
  | .lst l => R l
  | _ => False
def onBl (R : Bool → Prop) : D → Prop
  | .bl b => R b
  | _ => False
def onInt (R : Int → Prop) : D → Prop
  | .int i => R i
  | _ => False
@[simp ↓] theorem onSeq_t {R : List D → Prop} {l : List D} : onSeq R (.tup l) = R l := propext Iff.rfl
@[simp ↓] theorem onSeq_l {R : List D → Prop} {l : List D} : onSeq R (.lst l) = R l := propext Iff.rfl
@[simp ↓] theorem onBl_b {R : Bool → Prop} {b : Bool} : onBl R (.bl b) = R b := propext Iff.rfl
@[simp ↓] theorem onInt_i {R : Int → Prop} {i : Int} : onInt R (.int i) = R i := propext Iff.rfl
section
variable {ρ : Ren} {R : DK} {P : Po} {i j : Nat} {a b c : FE} {t u : FT} {fa : FA} {d : D}
@[simp ↓] theorem sSkip_s : sSkip P ρ = P.nx ρ := propext Iff.rfl
theorem sSeq_s {x y : FS} : sSeq x y P ρ = x ⟨y P, P.rt, P.bk, P.ct⟩ ρ := propext Iff.rfl
@[simp ↓] theorem sSet_s : sSet i a P ρ = a ρ fun d => P.nx (ρ.set i (some d)) := propext Iff.rfl
@[simp ↓] theorem sAsg_s {G : FG} : sAsg a G P ρ = a ρ fun d => G d ρ P.nx := propext Iff.rfl
@[simp ↓] theorem sRet_s : sRet a P ρ = a ρ P.rt := propext Iff.rfl
@[simp ↓] theorem sRetN_s : sRetN P ρ = P.rt .non := propext Iff.rfl
@[simp ↓] theorem sIf_s {x y : FS} : sIf t x y P ρ = t ρ fun c => if c = true then x P ρ else y P ρ := propext Iff.rfl
@[simp ↓] theorem sBrk_s : sBrk P ρ = P.bk ρ := propext Iff.rfl
@[simp ↓] theorem sCnt_s : sCnt P ρ = P.ct ρ := propext Iff.rfl
@[simp ↓] theorem sExp_s : sExp a P ρ = a ρ fun _ => P.nx ρ := propext Iff.rfl
@[simp ↓] theorem sPar_s {js : List Nat} : sPar js fa P ρ = fa ρ fun l => P.nx (setR ρ js l) := propext Iff.rfl
@[simp] theorem setR_nil {l : List D} : setR ρ [] l = ρ := by unfold setR; rfl
@[simp] theorem setR_cons {js : List Nat} {l : List D} : setR ρ (j :: js) (d :: l) = setR (ρ.set j (some d)) js l := rfl
@[simp ↓] theorem sFor_s {w : FI} {G : FG} {x : FS} : sFor w G x P ρ = w ρ fun l => forGo G x P l ρ := propext Iff.rfl
@[simp ↓] theorem sApp_s : sApp i a P ρ = (match ρ[i]? with
  | some (some (.lst l)) => a ρ fun d => l.length < 16777216 ∧ P.nx (ρ.set i (some (.lst (l ++ [d]))))
  | _ => False) := propext Iff.rfl
theorem eVar_s : eVar i ρ R = (match ρ[i]? with
  | some (some d) => R d
  | _ => False) := propext Iff.rfl
@[simp ↓] theorem eC_s : eC d ρ R = R d := propext Iff.rfl
@[simp ↓] theorem eUn_s {g : G1} : eUn g a ρ R = a ρ fun x => g x R := propext Iff.rfl
@[simp ↓] theorem eBin_s {g : G2} : eBin g a b ρ R = a ρ fun x => b ρ fun y => g x y R := propext Iff.rfl
@[simp ↓] theorem aNil_s {R : List D → Prop} : aNil ρ R = R [] := propext Iff.rfl
@[simp ↓] theorem aCons_s {R : List D → Prop} : aCons a fa ρ R = a ρ fun x => fa ρ fun l => R (x :: l) := propext Iff.rfl
@[simp ↓] theorem eTup_s : eTup fa ρ R = fa ρ fun l => l.length ≤ 16777216 ∧ R (.tup l) := propext Iff.rfl
@[simp ↓] theorem eLst_s : eLst fa ρ R = fa ρ fun l => l.length ≤ 16777216 ∧ R (.lst l) := propext Iff.rfl
@[simp ↓] theorem eCall_s {g : GA} : eCall g fa ρ R = fa ρ fun l => g l R := propext Iff.rfl
@[simp ↓] theorem eIf_s : eIf t a b ρ R = t ρ fun c => if c = true then a ρ R else b ρ R := propext Iff.rfl
@[simp ↓] theorem eLc_s {w : FI} {G : FG} {e : Ren → Nat → (List D → Prop) → Prop} {own : List Nat} : eLc w G t e own ρ R = w ρ fun items => lcGo G t e (wipe ρ own) items 16777216 fun l => R (.lst l) := propext Iff.rfl
@[simp ↓] theorem tVal_s {R : Bool → Prop} : tVal a ρ R = a ρ (onBl R) := propext Iff.rfl
@[simp ↓] theorem tAnd_s {R : Bool → Prop} : tAnd t u ρ R = t ρ fun c => if c = true then u ρ R else R false := propext Iff.rfl
@[simp ↓] theorem tOr_s {R : Bool → Prop} : tOr t u ρ R = t ρ fun c => if c = true then R true else u ρ R := propext Iff.rfl
@[simp ↓] theorem tNot_s {R : Bool → Prop} : tNot t ρ R = t ρ fun c => R (!c) := propext Iff.rfl
@[simp ↓] theorem eAnd_s : eAnd a b ρ R = a ρ (onBl fun k => if k = true then b ρ R else R (.bl false)) := propext Iff.rfl
@[simp ↓] theorem eOr_s : eOr a b ρ R = a ρ (onBl fun k => if k = true then R (.bl true) else b ρ R) := propext Iff.rfl
@[simp ↓] theorem eNot_s : eNot a ρ R = a ρ (onBl fun k => R (.bl (!k))) := propext Iff.rfl
@[simp ↓] theorem tYes_s {R : Bool → Prop} : tYes ρ R = R true := propext Iff.rfl
@[simp ↓] theorem gName_s {R : Ren → Prop} : Fn.gName i d ρ R = R (ρ.set i (some d)) := propext Iff.rfl
@[simp ↓] theorem gsNil_s {R : Ren → Prop} : gsNil [] ρ R = R ρ := propext Iff.rfl
@[simp ↓] theorem gsCons_s {R : Ren → Prop} {g : FG} {u : FGs} {l : List D} : gsCons g u (d :: l) ρ R = g d ρ fun ρ' => u l ρ' R := propext Iff.rfl
@[simp ↓] theorem gTup_s {R : Ren → Prop} {u : FGs} {l : List D} : Fn.gTup u (.tup l) ρ R = u l ρ R := propext Iff.rfl
@[simp ↓] theorem iSeq_s {R : List D → Prop} : iSeq a ρ R = a ρ (onSeq R) := propext Iff.rfl
@[simp ↓] theorem iRng1_s {R : List D → Prop} : iRng1 a ρ R = a ρ (onInt fun j => (-(2 ^ 62) ≤ j ∧ j < 2 ^ 62) ∧ R (rng 0 j.toNat)) := propext Iff.rfl
@[simp ↓] theorem iRng2_s {R : List D → Prop} : iRng2 a b ρ R = a ρ fun x => b ρ fun y => match x, y with
  | .int i, .int j => (-(2 ^ 62) ≤ i ∧ i < 2 ^ 62 ∧ -(2 ^ 62) ≤ j ∧ j < 2 ^ 62) ∧ R (rng i (j - i).toNat)
  | _, _ => False := rfl
@[simp ↓] theorem eSl_s {l h : FO} : eSl a l h ρ R = a ρ fun x => l ρ fun y => h ρ fun z => gSl x y z R := propext Iff.rfl
@[simp ↓] theorem oNone_s {R : Option Int → Prop} : oNone ρ R = R none := propext Iff.rfl
@[simp ↓] theorem oSome_s {R : Option Int → Prop} : oSome a ρ R = a ρ (onInt fun i => R (some i)) := propext Iff.rfl
@[simp ↓] theorem lcEl_s {n : Nat} {R : List D → Prop} : lcEl a ρ n R = a ρ fun y => 0 < n ∧ R [y] := propext Iff.rfl
@[simp] theorem wipe_nil : wipe ρ [] = ρ := rfl
@[simp] theorem wipe_cons {v : Nat} {vs : List Nat} : wipe ρ (v :: vs) = (wipe ρ vs).set v none := rfl
@[simp ↓] theorem fnD_s {n p : Nat} {F : FS} {ds : List D} : fnD n p F ds R = (ds.length = p ∧ F ⟨fun _ => R .non, R, fun _ => False, fun _ => False⟩ (ds.map some ++ List.replicate (n - p) none)) := propext Iff.rfl
theorem sSeq_i {x y : FS} (h : x ⟨y P, P.rt, P.bk, P.ct⟩ ρ) : sSeq x y P ρ := h
end
section
variable {R : DK} {r : Ren} {d y : Option D} {x0 x1 x2 x3 x4 x5 x6 x7 x8 x9 x10 x11 x12 x13 x14 x15 x16 x17 x18 x19 x20 x21 x22 x23 x24 x25 x26 x27 x28 x29 x30 x31 x32 x33 x34 x35 x36 x37 x38 x39 : Option D}
def onSome (R : DK) : Option D → Prop
  | some d => R d
  | none => False
@[simp ↓] theorem onSome_s {d : D} : onSome R (some d) = R d := propext Iff.rfl
@[simp ↓] theorem eVar_0 : eVar 0 (d :: r) R = onSome R d := by cases d <;> rfl
@[simp] theorem setN_0 : (d :: r).set 0 y = y :: r := rfl
@[simp ↓] theorem eVar_1 : eVar 1 (x0 :: d :: r) R = onSome R d := by cases d <;> rfl
@[simp] theorem setN_1 : (x0 :: d :: r).set 1 y = x0 :: y :: r := rfl
@[simp ↓] theorem eVar_2 : eVar 2 (x0 :: x1 :: d :: r) R = onSome R d := by cases d <;> rfl
@[simp] theorem setN_2 : (x0 :: x1 :: d :: r).set 2 y = x0 :: x1 :: y :: r := rfl
@[simp ↓] theorem eVar_3 : eVar 3 (x0 :: x1 :: x2 :: d :: r) R = onSome R d := by cases d <;> rfl
@[simp] theorem setN_3 : (x0 :: x1 :: x2 :: d :: r).set 3 y = x0 :: x1 :: x2 :: y :: r := rfl
@[simp ↓] theorem eVar_4 : eVar 4 (x0 :: x1 :: x2 :: x3 :: d :: r) R = onSome R d := by cases d <;> rfl
@[simp] theorem setN_4 : (x0 :: x1 :: x2 :: x3 :: d :: r).set 4 y = x0 :: x1 :: x2 :: x3 :: y :: r := rfl
@[simp ↓] theorem eVar_5 : eVar 5 (x0 :: x1 :: x2 :: x3 :: x4 :: d :: r) R = onSome R d := by cases d <;> rfl
@[simp] theorem setN_5 : (x0 :: x1 :: x2 :: x3 :: x4 :: d :: r).set 5 y = x0 :: x1 :: x2 :: x3 :: x4 :: y :: r := rfl
@[simp ↓] theorem eVar_6 : eVar 6 (x0 :: x1 :: x2 :: x3 :: x4 :: x5 :: d :: r) R = onSome R d := by cases d <;> rfl
@[simp] theorem setN_6 : (x0 :: x1 :: x2 :: x3 :: x4 :: x5 :: d :: r).set 6 y = x0 :: x1 :: x2 :: x3 :: x4 :: x5 :: y :: r := rfl
@[simp ↓] theorem eVar_7 : eVar 7 (x0 :: x1 :: x2 :: x3 :: x4 :: x5 :: x6 :: d :: r) R = onSome R d := by cases d <;> rfl
@[simp] theorem setN_7 : (x0 :: x1 :: x2 :: x3 :: x4 :: x5 :: x6 :: d :: r).set 7 y = x0 :: x1 :: x2 :: x3 :: x4 :: x5 :: x6 :: y :: r := rfl
@[simp ↓] theorem eVar_8 : eVar 8 (x0 :: x1 :: x2 :: x3 :: x4 :: x5 :: x6 :: x7 :: d :: r) R = onSome R d := by cases d <;> rfl
@[simp] theorem setN_8 : (x0 :: x1 :: x2 :: x3 :: x4 :: x5 :: x6 :: x7 :: d :: r).set 8 y = x0 :: x1 :: x2 :: x3 :: x4 :: x5 :: x6 :: x7 :: y :: r := rfl
@[simp ↓] theorem eVar_9 : eVar 9 (x0 :: x1 :: x2 :: x3 :: x4 :: x5 :: x6 :: x7 :: x8 :: d :: r) R = onSome R d := by cases d <;> rfl
@[simp] theorem setN_9 : (x0 :: x1 :: x2 :: x3 :: x4 :: x5 :: x6 :: x7 :: x8 :: d :: r).set 9 y = x0 :: x1 :: x2 :: x3 :: x4 :: x5 :: x6 :: x7 :: x8 :: y :: r := rfl
@[simp ↓] theorem eVar_10 : eVar 10 (x0 :: x1 :: x2 :: x3 :: x4 :: x5 :: x6 :: x7 :: x8 :: x9 :: d :: r) R = onSome R d := by cases d <;> rfl
@[simp] theorem setN_10 : (x0 :: x1 :: x2 :: x3 :: x4 :: x5 :: x6 :: x7 :: x8 :: x9 :: d :: r).set 10 y = x0 :: x1 :: x2 :: x3 :: x4 :: x5 :: x6 :: x7 :: x8 :: x9 :: y :: r := rfl
@[simp ↓] theorem eVar_11 : eVar 11 (x0 :: x1 :: x2 :: x3 :: x4 :: x5 :: x6 :: x7 :: x8 :: x9 :: x10 :: d :: r) R = onSome R d := by cases d <;> rfl
@[simp] theorem setN_11 : (x0 :: x1 :: x2 :: x3 :: x4 :: x5 :: x6 :: x7 :: x8 :: x9 :: x10 :: d :: r).set 11 y = x0 :: x1 :: x2 :: x3 :: x4 :: x5 :: x6 :: x7 :: x8 :: x9 :: x10 :: y :: r := rfl
@[simp ↓] theorem eVar_12 : eVar 12 (x0 :: x1 :: x2 :: x3 :: x4 :: x5 :: x6 :: x7 :: x8 :: x9 :: x10 :: x11 :: d :: r) R = onSome R d := by cases d <;> rfl
@[simp] theorem setN_12 : (x0 :: x1 :: x2 :: x3 :: x4 :: x5 :: x6 :: x7 :: x8 :: x9 :: x10 :: x11 :: d :: r).set 12 y = x0 :: x1 :: x2 :: x3 :: x4 :: x5 :: x6 :: x7 :: x8 :: x9 :: x10 :: x11 :: y :: r := rfl
@[simp ↓] theorem eVar_13 : eVar 13 (x0 :: x1 :: x2 :: x3 :: x4 :: x5 :: x6 :: x7 :: x8 :: x9 :: x10 :: x11 :: x12 :: d :: r) R = onSome R d := by cases d <;> rfl
@[simp] theorem setN_13 : (x0 :: x1 :: x2 :: x3 :: x4 :: x5 :: x6 :: x7 :: x8 :: x9 :: x10 :: x11 :: x12 :: d :: r).set 13 y = x0 :: x1 :: x2 :: x3 :: x4 :: x5 :: x6 :: x7 :: x8 :: x9 :: x10 :: x11 :: x12 :: y :: r := rfl
@[simp ↓] theorem eVar_14 : eVar 14 (x0 :: x1 :: x2 :: x3 :: x4 :: x5 :: x6 :: x7 :: x8 :: x9 :: x10 :: x11 :: x12 :: x13 :: d :: r) R = onSome R d := by cases d <;> rfl
@[simp] theorem setN_14 : (x0 :: x1 :: x2 :: x3 :: x4 :: x5 :: x6 :: x7 :: x8 :: x9 :: x10 :: x11 :: x12 :: x13 :: d :: r).set 14 y = x0 :: x1 :: x2 :: x3 :: x4 :: x5 :: x6 :: x7 :: x8 :: x9 :: x10 :: x11 :: x12 :: x13 :: y :: r := rfl
@[simp ↓] theorem eVar_15 : eVar 15 (x0 :: x1 :: x2 :: x3 :: x4 :: x5 :: x6 :: x7 :: x8 :: x9 :: x10 :: x11 :: x12 :: x13 :: x14 :: d :: r) R = onSome R d := by cases d <;> rfl
@[simp] theorem setN_15 : (x0 :: x1 :: x2 :: x3 :: x4 :: x5 :: x6 :: x7 :: x8 :: x9 :: x10 :: x11 :: x12 :: x13 :: x14 :: d :: r).set 15 y = x0 :: x1 :: x2 :: x3 :: x4 :: x5 :: x6 :: x7 :: x8 :: x9 :: x10 :: x11 :: x12 :: x13 :: x14 :: y :: r := rfl
@[simp ↓] theorem eVar_16 : eVar 16 (x0 :: x1 :: x2 :: x3 :: x4 :: x5 :: x6 :: x7 :: x8 :: x9 :: x10 :: x11 :: x12 :: x13 :: x14 :: x15 :: d :: r) R = onSome R d := by cases d <;> rfl
@[simp] theorem setN_16 : (x0 :: x1 :: x2 :: x3 :: x4 :: x5 :: x6 :: x7 :: x8 :: x9 :: x10 :: x11 :: x12 :: x13 :: x14 :: x15 :: d :: r).set 16 y = x0 :: x1 :: x2 :: x3 :: x4 :: x5 :: x6 :: x7 :: x8 :: x9 :: x10 :: x11 :: x12 :: x13 :: x14 :: x15 :: y :: r := rfl
@[simp ↓] theorem eVar_17 : eVar 17 (x0 :: x1 :: x2 :: x3 :: x4 :: x5 :: x6 :: x7 :: x8 :: x9 :: x10 :: x11 :: x12 :: x13 :: x14 :: x15 :: x16 :: d :: r) R = onSome R d := by cases d <;> rfl
@[simp] theorem setN_17 : (x0 :: x1 :: x2 :: x3 :: x4 :: x5 :: x6 :: x7 :: x8 :: x9 :: x10 :: x11 :: x12 :: x13 :: x14 :: x15 :: x16 :: d :: r).set 17 y = x0 :: x1 :: x2 :: x3 :: x4 :: x5 :: x6 :: x7 :: x8 :: x9 :: x10 :: x11 :: x12 :: x13 :: x14 :: x15 :: x16 :: y :: r := rfl
@[simp ↓] theorem eVar_18 : eVar 18 (x0 :: x1 :: x2 :: x3 :: x4 :: x5 :: x6 :: x7 :: x8 :: x9 :: x10 :: x11 :: x12 :: x13 :: x14 :: x15 :: x16 :: x17 :: d :: r) R = onSome R d := by cases d <;> rfl
@[simp] theorem setN_18 : (x0 :: x1 :: x2 :: x3 :: x4 :: x5 :: x6 :: x7 :: x8 :: x9 :: x10 :: x11 :: x12 :: x13 :: x14 :: x15 :: x16 :: x17 :: d :: r).set 18 y = x0 :: x1 :: x2 :: x3 :: x4 :: x5 :: x6 :: x7 :: x8 :: x9 :: x10 :: x11 :: x12 :: x13 :: x14 :: x15 :: x16 :: x17 :: y :: r := rfl
@[simp ↓] theorem eVar_19 : eVar 19 (x0 :: x1 :: x2 :: x3 :: x4 :: x5 :: x6 :: x7 :: x8 :: x9 :: x10 :: x11 :: x12 :: x13 :: x14 :: x15 :: x16 :: x17 :: x18 :: d :: r) R = onSome R d := by cases d <;> rfl
@[simp] theorem setN_19 : (x0 :: x1 :: x2 :: x3 :: x4 :: x5 :: x6 :: x7 :: x8 :: x9 :: x10 :: x11 :: x12 :: x13 :: x14 :: x15 :: x16 :: x17 :: x18 :: d :: r).set 19 y = x0 :: x1 :: x2 :: x3 :: x4 :: x5 :: x6 :: x7 :: x8 :: x9 :: x10 :: x11 :: x12 :: x13 :: x14 :: x15 :: x16 :: x17 :: x18 :: y :: r := rfl
@[simp ↓] theorem eVar_20 : eVar 20 (x0 :: x1 :: x2 :: x3 :: x4 :: x5 :: x6 :: x7 :: x8 :: x9 :: x10 :: x11 :: x12 :: x13 :: x14 :: x15 :: x16 :: x17 :: x18 :: x19 :: d :: r) R = onSome R d := by cases d <;> rfl
@[simp] theorem setN_20 : (x0 :: x1 :: x2 :: x3 :: x4 :: x5 :: x6 :: x7 :: x8 :: x9 :: x10 :: x11 :: x12 :: x13 :: x14 :: x15 :: x16 :: x17 :: x18 :: x19 :: d :: r).set 20 y = x0 :: x1 :: x2 :: x3 :: x4 :: x5 :: x6 :: x7 :: x8 :: x9 :: x10 :: x11 :: x12 :: x13 :: x14 :: x15 :: x16 :: x17 :: x18 :: x19 :: y :: r := rfl
@[simp ↓] theorem eVar_21 : eVar 21 (x0 :: x1 :: x2 :: x3 :: x4 :: x5 :: x6 :: x7 :: x8 :: x9 :: x10 :: x11 :: x12 :: x13 :: x14 :: x15 :: x16 :: x17 :: x18 :: x19 :: x20 :: d :: r) R = onSome R d := by cases d <;> rfl
@[simp] theorem setN_21 : (x0 :: x1 :: x2 :: x3 :: x4 :: x5 :: x6 :: x7 :: x8 :: x9 :: x10 :: x11 :: x12 :: x13 :: x14 :: x15 :: x16 :: x17 :: x18 :: x19 :: x20 :: d :: r).set 21 y = x0 :: x1 :: x2 :: x3 :: x4 :: x5 :: x6 :: x7 :: x8 :: x9 :: x10 :: x11 :: x12 :: x13 :: x14 :: x15 :: x16 :: x17 :: x18 :: x19 :: x20 :: y :: r := rfl
@[simp ↓] theorem eVar_22 : eVar 22 (x0 :: x1 :: x2 :: x3 :: x4 :: x5 :: x6 :: x7 :: x8 :: x9 :: x10 :: x11 :: x12 :: x13 :: x14 :: x15 :: x16 :: x17 :: x18 :: x19 :: x20 :: x21 :: d :: r) R = onSome R d := by cases d <;> rfl
@[simp] theorem setN_22 : (x0 :: x1 :: x2 :: x3 :: x4 :: x5 :: x6 :: x7 :: x8 :: x9 :: x10 :: x11 :: x12 :: x13 :: x14 :: x15 :: x16 :: x17 :: x18 :: x19 :: x20 :: x21 :: d :: r).set 22 y = x0 :: x1 :: x2 :: x3 :: x4 :: x5 :: x6 :: x7 :: x8 :: x9 :: x10 :: x11 :: x12 :: x13 :: x14 :: x15 :: x16 :: x17 :: x18 :: x19 :: x20 :: x21 :: y :: r := rfl
@[simp ↓] theorem eVar_23 : eVar 23 (x0 :: x1 :: x2 :: x3 :: x4 :: x5 :: x6 :: x7 :: x8 :: x9 :: x10 :: x11 :: x12 :: x13 :: x14 :: x15 :: x16 :: x17 :: x18 :: x19 :: x20 :: x21 :: x22 :: d :: r) R = onSome R d := by cases d <;> rfl
@[simp] theorem setN_23 : (x0 :: x1 :: x2 :: x3 :: x4 :: x5 :: x6 :: x7 :: x8 :: x9 :: x10 :: x11 :: x12 :: x13 :: x14 :: x15 :: x16 :: x17 :: x18 :: x19 :: x20 :: x21 :: x22 :: d :: r).set 23 y = x0 :: x1 :: x2 :: x3 :: x4 :: x5 :: x6 :: x7 :: x8 :: x9 :: x10 :: x11 :: x12 :: x13 :: x14 :: x15 :: x16 :: x17 :: x18 :: x19 :: x20 :: x21 :: x22 :: y :: r := rfl
@[simp ↓] theorem eVar_24 : eVar 24 (x0 :: x1 :: x2 :: x3 :: x4 :: x5 :: x6 :: x7 :: x8 :: x9 :: x10 :: x11 :: x12 :: x13 :: x14 :: x15 :: x16 :: x17 :: x18 :: x19 :: x20 :: x21 :: x22 :: x23 :: d :: r) R = onSome R d := by cases d <;> rfl
@[simp] theorem setN_24 : (x0 :: x1 :: x2 :: x3 :: x4 :: x5 :: x6 :: x7 :: x8 :: x9 :: x10 :: x11 :: x12 :: x13 :: x14 :: x15 :: x16 :: x17 :: x18 :: x19 :: x20 :: x21 :: x22 :: x23 :: d :: r).set 24 y = x0 :: x1 :: x2 :: x3 :: x4 :: x5 :: x6 :: x7 :: x8 :: x9 :: x10 :: x11 :: x12 :: x13 :: x14 :: x15 :: x16 :: x17 :: x18 :: x19 :: x20 :: x21 :: x22 :: x23 :: y :: r := rfl
@[simp ↓] theorem eVar_25 : eVar 25 (x0 :: x1 :: x2 :: x3 :: x4 :: x5 :: x6 :: x7 :: x8 :: x9 :: x10 :: x11 :: x12 :: x13 :: x14 :: x15 :: x16 :: x17 :: x18 :: x19 :: x20 :: x21 :: x22 :: x23 :: x24 :: d :: r) R = onSome R d := by cases d <;> rfl
@[simp] theorem setN_25 : (x0 :: x1 :: x2 :: x3 :: x4 :: x5 :: x6 :: x7 :: x8 :: x9 :: x10 :: x11 :: x12 :: x13 :: x14 :: x15 :: x16 :: x17 :: x18 :: x19 :: x20 :: x21 :: x22 :: x23 :: x24 :: d :: r).set 25 y = x0 :: x1 :: x2 :: x3 :: x4 :: x5 :: x6 :: x7 :: x8 :: x9 :: x10 :: x11 :: x12 :: x13 :: x14 :: x15 :: x16 :: x17 :: x18 :: x19 :: x20 :: x21 :: x22 :: x23 :: x24 :: y :: r := rfl
@[simp ↓] theorem eVar_26 : eVar 26 (x0 :: x1 :: x2 :: x3 :: x4 :: x5 :: x6 :: x7 :: x8 :: x9 :: x10 :: x11 :: x12 :: x13 :: x14 :: x15 :: x16 :: x17 :: x18 :: x19 :: x20 :: x21 :: x22 :: x23 :: x24 :: x25 :: d :: r) R = onSome R d := by cases d <;> rfl
@[simp] theorem setN_26 : (x0 :: x1 :: x2 :: x3 :: x4 :: x5 :: x6 :: x7 :: x8 :: x9 :: x10 :: x11 :: x12 :: x13 :: x14 :: x15 :: x16 :: x17 :: x18 :: x19 :: x20 :: x21 :: x22 :: x23 :: x24 :: x25 :: d :: r).set 26 y = x0 :: x1 :: x2 :: x3 :: x4 :: x5 :: x6 :: x7 :: x8 :: x9 :: x10 :: x11 :: x12 :: x13 :: x14 :: x15 :: x16 :: x17 :: x18 :: x19 :: x20 :: x21 :: x22 :: x23 :: x24 :: x25 :: y :: r := rfl
@[simp ↓] theorem eVar_27 : eVar 27 (x0 :: x1 :: x2 :: x3 :: x4 :: x5 :: x6 :: x7 :: x8 :: x9 :: x10 :: x11 :: x12 :: x13 :: x14 :: x15 :: x16 :: x17 :: x18 :: x19 :: x20 :: x21 :: x22 :: x23 :: x24 :: x25 :: x26 :: d :: r) R = onSome R d := by cases d <;> rfl
@[simp] theorem setN_27 : (x0 :: x1 :: x2 :: x3 :: x4 :: x5 :: x6 :: x7 :: x8 :: x9 :: x10 :: x11 :: x12 :: x13 :: x14 :: x15 :: x16 :: x17 :: x18 :: x19 :: x20 :: x21 :: x22 :: x23 :: x24 :: x25 :: x26 :: d :: r).set 27 y = x0 :: x1 :: x2 :: x3 :: x4 :: x5 :: x6 :: x7 :: x8 :: x9 :: x10 :: x11 :: x12 :: x13 :: x14 :: x15 :: x16 :: x17 :: x18 :: x19 :: x20 :: x21 :: x22 :: x23 :: x24 :: x25 :: x26 :: y :: r := rfl
@[simp ↓] theorem eVar_28 : eVar 28 (x0 :: x1 :: x2 :: x3 :: x4 :: x5 :: x6 :: x7 :: x8 :: x9 :: x10 :: x11 :: x12 :: x13 :: x14 :: x15 :: x16 :: x17 :: x18 :: x19 :: x20 :: x21 :: x22 :: x23 :: x24 :: x25 :: x26 :: x27 :: d :: r) R = onSome R d := by cases d <;> rfl
@[simp] theorem setN_28 : (x0 :: x1 :: x2 :: x3 :: x4 :: x5 :: x6 :: x7 :: x8 :: x9 :: x10 :: x11 :: x12 :: x13 :: x14 :: x15 :: x16 :: x17 :: x18 :: x19 :: x20 :: x21 :: x22 :: x23 :: x24 :: x25 :: x26 :: x27 :: d :: r).set 28 y = x0 :: x1 :: x2 :: x3 :: x4 :: x5 :: x6 :: x7 :: x8 :: x9 :: x10 :: x11 :: x12 :: x13 :: x14 :: x15 :: x16 :: x17 :: x18 :: x19 :: x20 :: x21 :: x22 :: x23 :: x24 :: x25 :: x26 :: x27 :: y :: r := rfl
@[simp ↓] theorem eVar_29 : eVar 29 (x0 :: x1 :: x2 :: x3 :: x4 :: x5 :: x6 :: x7 :: x8 :: x9 :: x10 :: x11 :: x12 :: x13 :: x14 :: x15 :: x16 :: x17 :: x18 :: x19 :: x20 :: x21 :: x22 :: x23 :: x24 :: x25 :: x26 :: x27 :: x28 :: d :: r) R = onSome R d := by cases d <;> rfl
@[simp] theorem setN_29 : (x0 :: x1 :: x2 :: x3 :: x4 :: x5 :: x6 :: x7 :: x8 :: x9 :: x10 :: x11 :: x12 :: x13 :: x14 :: x15 :: x16 :: x17 :: x18 :: x19 :: x20 :: x21 :: x22 :: x23 :: x24 :: x25 :: x26 :: x27 :: x28 :: d :: r).set 29 y = x0 :: x1 :: x2 :: x3 :: x4 :: x5 :: x6 :: x7 :: x8 :: x9 :: x10 :: x11 :: x12 :: x13 :: x14 :: x15 :: x16 :: x17 :: x18 :: x19 :: x20 :: x21 :: x22 :: x23 :: x24 :: x25 :: x26 :: x27 :: x28 :: y :: r := rfl
@[simp ↓] theorem eVar_30 : eVar 30 (x0 :: x1 :: x2 :: x3 :: x4 :: x5 :: x6 :: x7 :: x8 :: x9 :: x10 :: x11 :: x12 :: x13 :: x14 :: x15 :: x16 :: x17 :: x18 :: x19 :: x20 :: x21 :: x22 :: x23 :: x24 :: x25 :: x26 :: x27 :: x28 :: x29 :: d :: r) R = onSome R d := by cases d <;> rfl
@[simp] theorem setN_30 : (x0 :: x1 :: x2 :: x3 :: x4 :: x5 :: x6 :: x7 :: x8 :: x9 :: x10 :: x11 :: x12 :: x13 :: x14 :: x15 :: x16 :: x17 :: x18 :: x19 :: x20 :: x21 :: x22 :: x23 :: x24 :: x25 :: x26 :: x27 :: x28 :: x29 :: d :: r).set 30 y = x0 :: x1 :: x2 :: x3 :: x4 :: x5 :: x6 :: x7 :: x8 :: x9 :: x10 :: x11 :: x12 :: x13 :: x14 :: x15 :: x16 :: x17 :: x18 :: x19 :: x20 :: x21 :: x22 :: x23 :: x24 :: x25 :: x26 :: x27 :: x28 :: x29 :: y :: r := rfl
@[simp ↓] theorem eVar_31 : eVar 31 (x0 :: x1 :: x2 :: x3 :: x4 :: x5 :: x6 :: x7 :: x8 :: x9 :: x10 :: x11 :: x12 :: x13 :: x14 :: x15 :: x16 :: x17 :: x18 :: x19 :: x20 :: x21 :: x22 :: x23 :: x24 :: x25 :: x26 :: x27 :: x28 :: x29 :: x30 :: d :: r) R = onSome R d := by cases d <;> rfl
@[simp] theorem setN_31 : (x0 :: x1 :: x2 :: x3 :: x4 :: x5 :: x6 :: x7 :: x8 :: x9 :: x10 :: x11 :: x12 :: x13 :: x14 :: x15 :: x16 :: x17 :: x18 :: x19 :: x20 :: x21 :: x22 :: x23 :: x24 :: x25 :: x26 :: x27 :: x28 :: x29 :: x30 :: d :: r).set 31 y = x0 :: x1 :: x2 :: x3 :: x4 :: x5 :: x6 :: x7 :: x8 :: x9 :: x10 :: x11 :: x12 :: x13 :: x14 :: x15 :: x16 :: x17 :: x18 :: x19 :: x20 :: x21 :: x22 :: x23 :: x24 :: x25 :: x26 :: x27 :: x28 :: x29 :: x30 :: y :: r := rfl
@[simp ↓] theorem eVar_32 : eVar 32 (x0 :: x1 :: x2 :: x3 :: x4 :: x5 :: x6 :: x7 :: x8 :: x9 :: x10 :: x11 :: x12 :: x13 :: x14 :: x15 :: x16 :: x17 :: x18 :: x19 :: x20 :: x21 :: x22 :: x23 :: x24 :: x25 :: x26 :: x27 :: x28 :: x29 :: x30 :: x31 :: d :: r) R = onSome R d := by cases d <;> rfl
@[simp] theorem setN_32 : (x0 :: x1 :: x2 :: x3 :: x4 :: x5 :: x6 :: x7 :: x8 :: x9 :: x10 :: x11 :: x12 :: x13 :: x14 :: x15 :: x16 :: x17 :: x18 :: x19 :: x20 :: x21 :: x22 :: x23 :: x24 :: x25 :: x26 :: x27 :: x28 :: x29 :: x30 :: x31 :: d :: r).set 32 y = x0 :: x1 :: x2 :: x3 :: x4 :: x5 :: x6 :: x7 :: x8 :: x9 :: x10 :: x11 :: x12 :: x13 :: x14 :: x15 :: x16 :: x17 :: x18 :: x19 :: x20 :: x21 :: x22 :: x23 :: x24 :: x25 :: x26 :: x27 :: x28 :: x29 :: x30 :: x31 :: y :: r := rfl
@[simp ↓] theorem eVar_33 : eVar 33 (x0 :: x1 :: x2 :: x3 :: x4 :: x5 :: x6 :: x7 :: x8 :: x9 :: x10 :: x11 :: x12 :: x13 :: x14 :: x15 :: x16 :: x17 :: x18 :: x19 :: x20 :: x21 :: x22 :: x23 :: x24 :: x25 :: x26 :: x27 :: x28 :: x29 :: x30 :: x31 :: x32 :: d :: r) R = onSome R d := by cases d <;> rfl
@[simp] theorem setN_33 : (x0 :: x1 :: x2 :: x3 :: x4 :: x5 :: x6 :: x7 :: x8 :: x9 :: x10 :: x11 :: x12 :: x13 :: x14 :: x15 :: x16 :: x17 :: x18 :: x19 :: x20 :: x21 :: x22 :: x23 :: x24 :: x25 :: x26 :: x27 :: x28 :: x29 :: x30 :: x31 :: x32 :: d :: r).set 33 y = x0 :: x1 :: x2 :: x3 :: x4 :: x5 :: x6 :: x7 :: x8 :: x9 :: x10 :: x11 :: x12 :: x13 :: x14 :: x15 :: x16 :: x17 :: x18 :: x19 :: x20 :: x21 :: x22 :: x23 :: x24 :: x25 :: x26 :: x27 :: x28 :: x29 :: x30 :: x31 :: x32 :: y :: r := rfl
@[simp ↓] theorem eVar_34 : eVar 34 (x0 :: x1 :: x2 :: x3 :: x4 :: x5 :: x6 :: x7 :: x8 :: x9 :: x10 :: x11 :: x12 :: x13 :: x14 :: x15 :: x16 :: x17 :: x18 :: x19 :: x20 :: x21 :: x22 :: x23 :: x24 :: x25 :: x26 :: x27 :: x28 :: x29 :: x30 :: x31 :: x32 :: x33 :: d :: r) R = onSome R d := by cases d <;> rfl
@[simp] theorem setN_34 : (x0 :: x1 :: x2 :: x3 :: x4 :: x5 :: x6 :: x7 :: x8 :: x9 :: x10 :: x11 :: x12 :: x13 :: x14 :: x15 :: x16 :: x17 :: x18 :: x19 :: x20 :: x21 :: x22 :: x23 :: x24 :: x25 :: x26 :: x27 :: x28 :: x29 :: x30 :: x31 :: x32 :: x33 :: d :: r).set 34 y = x0 :: x1 :: x2 :: x3 :: x4 :: x5 :: x6 :: x7 :: x8 :: x9 :: x10 :: x11 :: x12 :: x13 :: x14 :: x15 :: x16 :: x17 :: x18 :: x19 :: x20 :: x21 :: x22 :: x23 :: x24 :: x25 :: x26 :: x27 :: x28 :: x29 :: x30 :: x31 :: x32 :: x33 :: y :: r := rfl
@[simp ↓] theorem eVar_35 : eVar 35 (x0 :: x1 :: x2 :: x3 :: x4 :: x5 :: x6 :: x7 :: x8 :: x9 :: x10 :: x11 :: x12 :: x13 :: x14 :: x15 :: x16 :: x17 :: x18 :: x19 :: x20 :: x21 :: x22 :: x23 :: x24 :: x25 :: x26 :: x27 :: x28 :: x29 :: x30 :: x31 :: x32 :: x33 :: x34 :: d :: r) R = onSome R d := by cases d <;> rfl
@[simp] theorem setN_35 : (x0 :: x1 :: x2 :: x3 :: x4 :: x5 :: x6 :: x7 :: x8 :: x9 :: x10 :: x11 :: x12 :: x13 :: x14 :: x15 :: x16 :: x17 :: x18 :: x19 :: x20 :: x21 :: x22 :: x23 :: x24 :: x25 :: x26 :: x27 :: x28 :: x29 :: x30 :: x31 :: x32 :: x33 :: x34 :: d :: r).set 35 y = x0 :: x1 :: x2 :: x3 :: x4 :: x5 :: x6 :: x7 :: x8 :: x9 :: x10 :: x11 :: x12 :: x13 :: x14 :: x15 :: x16 :: x17 :: x18 :: x19 :: x20 :: x21 :: x22 :: x23 :: x24 :: x25 :: x26 :: x27 :: x28 :: x29 :: x30 :: x31 :: x32 :: x33 :: x34 :: y :: r := rfl
@[simp ↓] theorem eVar_36 : eVar 36 (x0 :: x1 :: x2 :: x3 :: x4 :: x5 :: x6 :: x7 :: x8 :: x9 :: x10 :: x11 :: x12 :: x13 :: x14 :: x15 :: x16 :: x17 :: x18 :: x19 :: x20 :: x21 :: x22 :: x23 :: x24 :: x25 :: x26 :: x27 :: x28 :: x29 :: x30 :: x31 :: x32 :: x33 :: x34 :: x35 :: d :: r) R = onSome R d := by cases d <;> rfl
@[simp] theorem setN_36 : (x0 :: x1 :: x2 :: x3 :: x4 :: x5 :: x6 :: x7 :: x8 :: x9 :: x10 :: x11 :: x12 :: x13 :: x14 :: x15 :: x16 :: x17 :: x18 :: x19 :: x20 :: x21 :: x22 :: x23 :: x24 :: x25 :: x26 :: x27 :: x28 :: x29 :: x30 :: x31 :: x32 :: x33 :: x34 :: x35 :: d :: r).set 36 y = x0 :: x1 :: x2 :: x3 :: x4 :: x5 :: x6 :: x7 :: x8 :: x9 :: x10 :: x11 :: x12 :: x13 :: x14 :: x15 :: x16 :: x17 :: x18 :: x19 :: x20 :: x21 :: x22 :: x23 :: x24 :: x25 :: x26 :: x27 :: x28 :: x29 :: x30 :: x31 :: x32 :: x33 :: x34 :: x35 :: y :: r := rfl
@[simp ↓] theorem eVar_37 : eVar 37 (x0 :: x1 :: x2 :: x3 :: x4 :: x5 :: x6 :: x7 :: x8 :: x9 :: x10 :: x11 :: x12 :: x13 :: x14 :: x15 :: x16 :: x17 :: x18 :: x19 :: x20 :: x21 :: x22 :: x23 :: x24 :: x25 :: x26 :: x27 :: x28 :: x29 :: x30 :: x31 :: x32 :: x33 :: x34 :: x35 :: x36 :: d :: r) R = onSome R d := by cases d <;> rfl
@[simp] theorem setN_37 : (x0 :: x1 :: x2 :: x3 :: x4 :: x5 :: x6 :: x7 :: x8 :: x9 :: x10 :: x11 :: x12 :: x13 :: x14 :: x15 :: x16 :: x17 :: x18 :: x19 :: x20 :: x21 :: x22 :: x23 :: x24 :: x25 :: x26 :: x27 :: x28 :: x29 :: x30 :: x31 :: x32 :: x33 :: x34 :: x35 :: x36 :: d :: r).set 37 y = x0 :: x1 :: x2 :: x3 :: x4 :: x5 :: x6 :: x7 :: x8 :: x9 :: x10 :: x11 :: x12 :: x13 :: x14 :: x15 :: x16 :: x17 :: x18 :: x19 :: x20 :: x21 :: x22 :: x23 :: x24 :: x25 :: x26 :: x27 :: x28 :: x29 :: x30 :: x31 :: x32 :: x33 :: x34 :: x35 :: x36 :: y :: r := rfl
@[simp ↓] theorem eVar_38 : eVar 38 (x0 :: x1 :: x2 :: x3 :: x4 :: x5 :: x6 :: x7 :: x8 :: x9 :: x10 :: x11 :: x12 :: x13 :: x14 :: x15 :: x16 :: x17 :: x18 :: x19 :: x20 :: x21 :: x22 :: x23 :: x24 :: x25 :: x26 :: x27 :: x28 :: x29 :: x30 :: x31 :: x32 :: x33 :: x34 :: x35 :: x36 :: x37 :: d :: r) R = onSome R d := by cases d <;> rfl
@[simp] theorem setN_38 : (x0 :: x1 :: x2 :: x3 :: x4 :: x5 :: x6 :: x7 :: x8 :: x9 :: x10 :: x11 :: x12 :: x13 :: x14 :: x15 :: x16 :: x17 :: x18 :: x19 :: x20 :: x21 :: x22 :: x23 :: x24 :: x25 :: x26 :: x27 :: x28 :: x29 :: x30 :: x31 :: x32 :: x33 :: x34 :: x35 :: x36 :: x37 :: d :: r).set 38 y = x0 :: x1 :: x2 :: x3 :: x4 :: x5 :: x6 :: x7 :: x8 :: x9 :: x10 :: x11 :: x12 :: x13 :: x14 :: x15 :: x16 :: x17 :: x18 :: x19 :: x20 :: x21 :: x22 :: x23 :: x24 :: x25 :: x26 :: x27 :: x28 :: x29 :: x30 :: x31 :: x32 :: x33 :: x34 :: x35 :: x36 :: x37 :: y :: r := rfl
@[simp ↓] theorem eVar_39 : eVar 39 (x0 :: x1 :: x2 :: x3 :: x4 :: x5 :: x6 :: x7 :: x8 :: x9 :: x10 :: x11 :: x12 :: x13 :: x14 :: x15 :: x16 :: x17 :: x18 :: x19 :: x20 :: x21 :: x22 :: x23 :: x24 :: x25 :: x26 :: x27 :: x28 :: x29 :: x30 :: x31 :: x32 :: x33 :: x34 :: x35 :: x36 :: x37 :: x38 :: d :: r) R = onSome R d := by cases d <;> rfl
@[simp] theorem setN_39 : (x0 :: x1 :: x2 :: x3 :: x4 :: x5 :: x6 :: x7 :: x8 :: x9 :: x10 :: x11 :: x12 :: x13 :: x14 :: x15 :: x16 :: x17 :: x18 :: x19 :: x20 :: x21 :: x22 :: x23 :: x24 :: x25 :: x26 :: x27 :: x28 :: x29 :: x30 :: x31 :: x32 :: x33 :: x34 :: x35 :: x36 :: x37 :: x38 :: d :: r).set 39 y = x0 :: x1 :: x2 :: x3 :: x4 :: x5 :: x6 :: x7 :: x8 :: x9 :: x10 :: x11 :: x12 :: x13 :: x14 :: x15 :: x16 :: x17 :: x18 :: x19 :: x20 :: x21 :: x22 :: x23 :: x24 :: x25 :: x26 :: x27 :: x28 :: x29 :: x30 :: x31 :: x32 :: x33 :: x34 :: x35 :: x36 :: x37 :: x38 :: y :: r := rfl
end
section
variable {ρ : Ren} {R : DK} {P : Po} {i j : Nat} {a b c : FE} {t u : FT} {fa : FA} {d : D}
/-! operators -/
@[simp ↓] theorem bAdd_int {i j : Int} : bAdd (.int i) (.int j) R = R (.int (i + j)) := propext Iff.rfl
@[simp ↓] theorem bAdd_str {x y : Str} : bAdd (.str x) (.str y) R = (x.length + y.length ≤ 16777216 ∧ R (.str (x ++ y))) := propext Iff.rfl
@[simp ↓] theorem bAdd_tup {x y : List D} : bAdd (.tup x) (.tup y) R = (x.length + y.length ≤ 16777216 ∧ R (.tup (x ++ y))) := propext Iff.rfl
@[simp ↓] theorem bAdd_lst {x y : List D} : bAdd (.lst x) (.lst y) R = (x.length + y.length ≤ 16777216 ∧ R (.lst (x ++ y))) := propext Iff.rfl
@[simp ↓] theorem bCat_lst {x y : List D} : bCat (.lst x) (.lst y) R = (x.length + y.length ≤ 16777216 ∧ R (.lst (x ++ y))) := propext Iff.rfl
@[simp ↓] theorem bSub_int {i j : Int} : bSub (.int i) (.int j) R = R (.int (i - j)) := propext Iff.rfl
@[simp ↓] theorem bMulI_int {i j : Int} : bMulI (.int i) (.int j) R = (((-(2 ^ 64) < i ∧ i < 2 ^ 64) ∨ (-(2 ^ 64) < j ∧ j < 2 ^ 64)) ∧ R (.int (i * j))) := propext Iff.rfl
@[simp ↓] theorem bMod_int {i j : Int} : bMod (.int i) (.int j) R = (0 < j ∧ R (.int (i % j))) := propext Iff.rfl
@[simp ↓] theorem cEq_s {x y : D} : cEq x y R = (okE x y ∧ R (.bl (eqb x y))) := propext Iff.rfl
@[simp ↓] theorem cNe_s {x y : D} : cNe x y R = (okE x y ∧ R (.bl (!eqb x y))) := propext Iff.rfl
@[simp ↓] theorem cIn_s {x y : D} : cIn x y R = isIn x y fun b => R (.bl b) := propext Iff.rfl
@[simp ↓] theorem cNotIn_s {x y : D} : cNotIn x y R = isIn x y fun b => R (.bl (!b)) := propext Iff.rfl
@[simp ↓] theorem cLt_int {i j : Int} : cLt (.int i) (.int j) R = R (.bl (decide (i < j))) := propext Iff.rfl
@[simp ↓] theorem cGt_int {i j : Int} : cGt (.int i) (.int j) R = R (.bl (decide (j < i))) := propext Iff.rfl
@[simp ↓] theorem cLe_int {i j : Int} : cLe (.int i) (.int j) R = R (.bl (decide (i ≤ j))) := propext Iff.rfl
@[simp ↓] theorem cGe_int {i j : Int} : cGe (.int i) (.int j) R = R (.bl (decide (j ≤ i))) := propext Iff.rfl
@[simp ↓] theorem fIs_s {T : Ty} {x : D} : fIs T x R = (x.tyN ≠ none ∧ R (.bl (isT T x))) := propext Iff.rfl
@[simp] theorem tyN_tup {l : List D} : (D.tup l).tyN = some "tuple" := rfl
@[simp] theorem tyN_lst {l : List D} : (D.lst l).tyN = some "list" := rfl
@[simp] theorem tyN_str {x : Str} : (D.str x).tyN = some "str" := rfl
@[simp] theorem tyN_int {x : Int} : (D.int x).tyN = some "int" := rfl
@[simp] theorem tyN_bl {x : Bool} : (D.bl x).tyN = some "bool" := rfl
@[simp] theorem tyN_non : D.non.tyN = some "NoneType" := rfl
@[simp] theorem isT_ti {x : Int} : isT .tuple (.int x) = false := rfl
@[simp] theorem isT_tb {x : Bool} : isT .tuple (.bl x) = false := rfl
@[simp] theorem isT_ts {x : Str} : isT .tuple (.str x) = false := rfl
@[simp] theorem isT_tn : isT .tuple .non = false := rfl
@[simp] theorem isT_tl {x : List D} : isT .tuple (.lst x) = false := rfl
@[simp] theorem isT_tt {x : List D} : isT .tuple (.tup x) = true := rfl
@[simp] theorem isT_li {x : Int} : isT .list (.int x) = false := rfl
@[simp] theorem isT_lb {x : Bool} : isT .list (.bl x) = false := rfl
@[simp] theorem isT_ls {x : Str} : isT .list (.str x) = false := rfl
@[simp] theorem isT_ln : isT .list .non = false := rfl
@[simp] theorem isT_ll {x : List D} : isT .list (.lst x) = true := rfl
@[simp] theorem isT_lt {x : List D} : isT .list (.tup x) = false := rfl
@[simp] theorem isT_bi {x : Int} : isT .bool (.int x) = false := rfl
@[simp] theorem isT_bb {x : Bool} : isT .bool (.bl x) = true := rfl
@[simp] theorem isT_bs {x : Str} : isT .bool (.str x) = false := rfl
@[simp] theorem isT_bn : isT .bool .non = false := rfl
@[simp] theorem isT_bll {x : List D} : isT .bool (.lst x) = false := rfl
@[simp] theorem isT_bt {x : List D} : isT .bool (.tup x) = false := rfl
@[simp] theorem isT_ii {x : Int} : isT .int (.int x) = true := rfl
@[simp] theorem isT_ib {x : Bool} : isT .int (.bl x) = true := rfl
@[simp] theorem isT_is {x : Str} : isT .int (.str x) = false := rfl
@[simp] theorem isT_in : isT .int .non = false := rfl
@[simp] theorem isT_il {x : List D} : isT .int (.lst x) = false := rfl
@[simp] theorem isT_it {x : List D} : isT .int (.tup x) = false := rfl
@[simp] theorem isT_si {x : Int} : isT .str (.int x) = false := rfl
@[simp] theorem isT_sb {x : Bool} : isT .str (.bl x) = false := rfl
@[simp] theorem isT_ss {x : Str} : isT .str (.str x) = true := rfl
@[simp] theorem isT_sn : isT .str .non = false := rfl
@[simp] theorem isT_sl {x : List D} : isT .str (.lst x) = false := rfl
@[simp] theorem isT_st {x : List D} : isT .str (.tup x) = false := rfl
@[simp ↓] theorem fLen_tup {l : List D} : fLen [.tup l] R = R (.int l.length) := propext Iff.rfl
@[simp ↓] theorem fLen_lst {l : List D} : fLen [.lst l] R = R (.int l.length) := propext Iff.rfl
@[simp ↓] theorem fLen_str {z : Str} : fLen [.str z] R = (z.length ≤ 16777216 ∧ R (.int z.length)) := propext Iff.rfl
@[simp ↓] theorem fLen_dct {l : List (Key × D)} : fLen [.dct l] R = R (.int l.length) := propext Iff.rfl
@[simp ↓] theorem fInt_s {i : Int} : fInt [.int i] R = R (.int i) := propext Iff.rfl
@[simp ↓] theorem fTuple_tup {l : List D} : fTuple [.tup l] R = R (.tup l) := propext Iff.rfl
@[simp ↓] theorem fTuple_lst {l : List D} : fTuple [.lst l] R = R (.tup l) := propext Iff.rfl
@[simp ↓] theorem fList_tup {l : List D} : fList [.tup l] R = R (.lst l) := propext Iff.rfl
@[simp ↓] theorem fList_lst {l : List D} : fList [.lst l] R = R (.lst l) := propext Iff.rfl
@[simp ↓] theorem gSl_tup {l : List D} {x y : Option Int} : gSl (.tup l) x y R = R (.tup (cut l x y)) := propext Iff.rfl
@[simp ↓] theorem gSl_lst {l : List D} {x y : Option Int} : gSl (.lst l) x y R = R (.lst (cut l x y)) := propext Iff.rfl
/-! data -/
@[simp] theorem dat_str {x : Str} : (D.str x).dat = true := rfl
@[simp] theorem dat_int {x : Int} : (D.int x).dat = true := rfl
@[simp] theorem dat_bl {x : Bool} : (D.bl x).dat = true := rfl
@[simp] theorem dat_non : D.non.dat = true := rfl
@[simp] theorem dat_tup {l : List D} : (D.tup l).dat = datL l := by rw [D.dat]
@[simp] theorem dat_lst {l : List D} : (D.lst l).dat = datL l := by rw [D.dat]
@[simp] theorem datL_nil : datL [] = true := by rw [datL]
@[simp] theorem datL_cons {x : D} {l : List D} : datL (x :: l) = (x.dat && datL l) := by rw [datL]
@[simp] theorem dep_str {x : Str} : (D.str x).dep = 1 := by simp [D.dep]
@[simp] theorem dep_int {x : Int} : (D.int x).dep = 1 := by simp [D.dep]
@[simp] theorem dep_bl {x : Bool} : (D.bl x).dep = 1 := by simp [D.dep]
@[simp] theorem dep_non : D.non.dep = 1 := by simp [D.dep]
@[simp] theorem dep_tup {l : List D} : (D.tup l).dep = depL l + 1 := by simp [D.dep]
@[simp] theorem dep_lst {l : List D} : (D.lst l).dep = depL l + 1 := by simp [D.dep]
@[simp] theorem depL_nil : depL [] = 0 := by simp [depL]
@[simp] theorem depL_cons {x : D} {l : List D} : depL (x :: l) = max x.dep (depL l) := by simp [depL]
@[simp] theorem okE_s {x y : D} : okE x y = (x.dat = true ∧ y.dat = true ∧ min x.dep y.dep ≤ 64) := rfl
end
end Fn
end P_FS
section P_FL
set_option maxHeartbeats 4000000
/-! Equality of data, loops, comprehensions, draws. -/
namespace Fn
open PySem
@[simp] theorem eqb_int {i j : Int} : eqb (.int i) (.int j) = decide (i = j) := by
  show PyData.eqv (.int i) (.int j) = _
  rw [PyData.eqv.eq_5]
  by_cases h : i = j <;> simp [h]
@[simp] theorem eqb_bl {i j : Bool} : eqb (.bl i) (.bl j) = decide (i = j) := by
  show PyData.eqv (.bool i) (.bool j) = _
  rw [PyData.eqv.eq_2]
  cases i <;> cases j <;> rfl
@[simp] theorem eqb_str {x y : Str} : eqb (.str x) (.str y) = decide (x = y) := by
  show PyData.eqv (.str x) (.str y) = _
  rw [PyData.eqv.eq_6]
  by_cases h : x = y <;> simp [h]
/-! ### comprehensions of one clause -/
/-- each item turned by f -/
theorem lcGo_map {G : FG} {e : FE} {ρ : Ren} {t : FT} (f : D → D) : ∀ (ds : List D) (n : Nat) (R : List D → Prop), (∀ d ∈ ds, ∀ (R : Ren → Prop), (∀ ρ', (∀ Q : Bool → Prop, Q true → t ρ' Q) → (∀ Q : DK, Q (f d) → e ρ' Q) → R ρ') → G d ρ R) → ds.length ≤ n → R (ds.map f) → lcGo G t (lcEl e) ρ ds n R
  | [], _, _, _, _, h => h
  | d :: r, n, R, hG, hn, h => by
    unfold lcGo
    refine hG d List.mem_cons_self _ fun ρ' ht he => ?_
    refine ht _ ?_
    rw [if_pos rfl]
    simp only [List.length_cons] at hn
    refine he _ ⟨by omega, ?_⟩
    exact lcGo_map f r _ _ (fun d hd => hG d (List.mem_cons_of_mem _ hd)) (by simp only [List.length_singleton]; omega) h
theorem lcGo_mapE {α : Type} {G : FG} {e : FE} {ρ : Ren} {t : FT} (enc f : α → D) : ∀ (l : List α) {n : Nat} {R : List D → Prop}, (∀ x ∈ l, ∀ (R : Ren → Prop), (∀ ρ', (∀ Q : Bool → Prop, Q true → t ρ' Q) → (∀ Q : DK, Q (f x) → e ρ' Q) → R ρ') → G (enc x) ρ R) → l.length ≤ n → R (l.map f) → lcGo G t (lcEl e) ρ (l.map enc) n R
  | [], _, _, _, _, h => h
  | d :: r, n, R, hG, hn, h => by
    rw [List.map_cons]
    unfold lcGo
    refine hG d List.mem_cons_self _ fun ρ' ht he => ?_
    refine ht _ ?_
    rw [if_pos rfl]
    simp only [List.length_cons] at hn
    refine he _ ⟨by omega, ?_⟩
    exact lcGo_mapE enc f r (fun d hd => hG d (List.mem_cons_of_mem _ hd)) (by simp only [List.length_singleton]; omega) h
theorem lcGo_filE {α : Type} {G : FG} {e : FE} {ρ : Ren} {t : FT} (enc f : α → D) (c : α → Bool) : ∀ (l : List α) {n : Nat} {R : List D → Prop}, (∀ x ∈ l, ∀ (R : Ren → Prop), (∀ ρ', (∀ Q : Bool → Prop, Q (c x) → t ρ' Q) → (c x = true → ∀ Q : DK, Q (f x) → e ρ' Q) → R ρ') → G (enc x) ρ R) → l.length ≤ n → R ((l.filter c).map f) → lcGo G t (lcEl e) ρ (l.map enc) n R
  | [], _, _, _, _, h => h
  | d :: r, n, R, hG, hn, h => by
    rw [List.map_cons]
    unfold lcGo
    refine hG d List.mem_cons_self _ fun ρ' ht he => ?_
    refine ht _ ?_
    simp only [List.length_cons] at hn
    by_cases hc : c d = true
    · rw [if_pos hc]
      refine he hc _ ⟨by omega, ?_⟩
      refine lcGo_filE enc f c r (fun d hd => hG d (List.mem_cons_of_mem _ hd)) (by simp only [List.length_singleton]; omega) ?_
      rw [List.filter_cons_of_pos hc] at h
      exact h
    · rw [if_neg hc]
      refine lcGo_filE enc f c r (fun d hd => hG d (List.mem_cons_of_mem _ hd)) (by omega) ?_
      rw [List.filter_cons_of_neg hc] at h
      exact h
/-- each item gives something -/
theorem lcGo_any {G : FG} {e : FE} {ρ : Ren} {t : FT} (p : D → Prop) : ∀ (ds : List D) (n : Nat) (R : List D → Prop), (∀ d ∈ ds, ∀ (R : Ren → Prop), (∀ ρ', (∀ Q : Bool → Prop, Q true → t ρ' Q) → (∀ Q : DK, (∀ y, p y → Q y) → e ρ' Q) → R ρ') → G d ρ R) → ds.length ≤ n → (∀ l : List D, l.length = ds.length → (∀ y ∈ l, p y) → R l) → lcGo G t (lcEl e) ρ ds n R
  | [], _, _, _, _, h => h [] rfl (by simp)
  | d :: r, n, R, hG, hn, h => by
    unfold lcGo
    refine hG d List.mem_cons_self _ fun ρ' ht he => ?_
    refine ht _ ?_
    rw [if_pos rfl]
    simp only [List.length_cons] at hn
    refine he _ fun y hy => ⟨by omega, ?_⟩
    refine lcGo_any p r _ _ (fun d hd => hG d (List.mem_cons_of_mem _ hd)) (by simp only [List.length_singleton]; omega) fun l hl hp => h _ (by simp [hl]) fun z hz => ?_
    rcases List.mem_cons.mp hz with rfl | hz
    · exact hy
    · exact hp z hz
/-- items of which c is true, turned by f -/
theorem lcGo_fil {G : FG} {e : FE} {ρ : Ren} {t : FT} (c : D → Bool) (f : D → D) : ∀ (ds : List D) (n : Nat) (R : List D → Prop), (∀ d ∈ ds, ∀ (R : Ren → Prop), (∀ ρ', (∀ Q : Bool → Prop, Q (c d) → t ρ' Q) → (c d = true → ∀ Q : DK, Q (f d) → e ρ' Q) → R ρ') → G d ρ R) → ds.length ≤ n → R ((ds.filter c).map f) → lcGo G t (lcEl e) ρ ds n R
  | [], _, _, _, _, h => h
  | d :: r, n, R, hG, hn, h => by
    unfold lcGo
    refine hG d List.mem_cons_self _ fun ρ' ht he => ?_
    refine ht _ ?_
    simp only [List.length_cons] at hn
    by_cases hc : c d = true
    · rw [if_pos hc]
      refine he hc _ ⟨by omega, ?_⟩
      refine lcGo_fil c f r _ _ (fun d hd => hG d (List.mem_cons_of_mem _ hd)) (by simp only [List.length_singleton]; omega) ?_
      rw [List.filter_cons_of_pos hc] at h
      exact h
    · rw [if_neg hc]
      refine lcGo_fil c f r _ _ (fun d hd => hG d (List.mem_cons_of_mem _ hd)) (by omega) ?_
      rw [List.filter_cons_of_neg hc] at h
      exact h
/-- each item gives a list (what stands behind the first clause) -/
theorem lcGo_flat {G : FG} {e : Ren → Nat → (List D → Prop) → Prop} {ρ : Ren} {t : FT} (f : D → List D) : ∀ (ds : List D) (n : Nat) (R : List D → Prop), (∀ d ∈ ds, ∀ (R : Ren → Prop), (∀ ρ', (∀ Q : Bool → Prop, Q true → t ρ' Q) → (∀ m (Q : List D → Prop), (f d).length ≤ m → Q (f d) → e ρ' m Q) → R ρ') → G d ρ R) → (ds.flatMap f).length ≤ n → R (ds.flatMap f) → lcGo G t e ρ ds n R
  | [], _, _, _, _, h => h
  | d :: r, n, R, hG, hn, h => by
    unfold lcGo
    refine hG d List.mem_cons_self _ fun ρ' ht he => ?_
    refine ht _ ?_
    rw [if_pos rfl]
    simp only [List.flatMap_cons, List.length_append] at hn
    refine he _ _ (by omega) ?_
    exact lcGo_flat f r _ _ (fun d hd => hG d (List.mem_cons_of_mem _ hd)) (by omega) h
/-! ### for -/
theorem forGo_inv {α : Type} {G : FG} {b : FS} {P : Po} (enc : α → D) (I : List α → Ren → Prop) (l : List α) {ρ : Ren} (h0 : I [] ρ)
    (step : ∀ done x rest, l = done ++ x :: rest → ∀ ρ, I done ρ → ∀ K : Ren → Prop, (∀ ρ', I (done ++ [x]) ρ' → K ρ') → G (enc x) ρ fun ρ' => b ⟨K, P.rt, P.nx, K⟩ ρ') (last : ∀ ρ, I l ρ → P.nx ρ) : forGo G b P (l.map enc) ρ := by
  have key : ∀ (rest done : List α) (ρ : Ren), l = done ++ rest → I done ρ → forGo G b P (rest.map enc) ρ := by
    intro rest
    induction rest with
    | nil =>
      intro done ρ e h
      simp at e
      subst e
      exact last ρ h
    | cons x r ih =>
      intro done ρ e h
      exact step done x r e ρ h _ fun ρ' h' => ih (done ++ [x]) ρ' (by simp [e]) h'
  exact key l [] ρ (by simp) h0
/-! ### draws -/
theorem draw_any {m : Int} {R : DK} (h0 : 0 < m) (h1 : m < 1073741824) (h : ∀ k : Nat, (k : Int) < m → R (.int k)) : fDraw [.pool, .int m] R :=
  ⟨h0, h1, fun k h2 h3 => by
    obtain ⟨n, rfl⟩ := Int.eq_ofNat_of_zero_le h2
    exact h n h3⟩
theorem atI_of {α : Type} {l : List α} {k : Nat} (h : k < l.length) : Fn.atI l (k : Int) = some (l[k]'h) := by
  unfold Fn.atI Fn.ixN
  rw [if_pos (Int.natCast_nonneg k), if_pos (by omega)]
  simp [h]
theorem bIx_tup {l : List D} {k : Nat} {R : DK} (h : k < l.length) (q : R (l[k]'h)) : bIx (.tup l) (.int k) R := by
  show match Fn.atI l k with | some d => R d | none => False
  rw [atI_of h]; exact q
theorem bIx_lst {l : List D} {k : Nat} {R : DK} (h : k < l.length) (q : R (l[k]'h)) : bIx (.lst l) (.int k) R := by
  show match Fn.atI l k with | some d => R d | none => False
  rw [atI_of h]; exact q
section
variable {x y z : D} {r : List D} {R : DK}
@[simp ↓] theorem bIx_t0 : bIx (.tup (x :: r)) (.int 0) R = R x := by
  show (match Fn.atI (x :: r) 0 with | some d => R d | none => False) = _
  have : Fn.atI (x :: r) 0 = some x := atI_of (l := x :: r) (k := 0) (by simp)
  rw [this]
@[simp ↓] theorem bIx_t1 : bIx (.tup (x :: y :: r)) (.int 1) R = R y := by
  show (match Fn.atI (x :: y :: r) 1 with | some d => R d | none => False) = _
  have : Fn.atI (x :: y :: r) 1 = some y := atI_of (l := x :: y :: r) (k := 1) (by simp)
  rw [this]
@[simp ↓] theorem bIx_t2 : bIx (.tup (x :: y :: z :: r)) (.int 2) R = R z := by
  show (match Fn.atI (x :: y :: z :: r) 2 with | some d => R d | none => False) = _
  have : Fn.atI (x :: y :: z :: r) 2 = some z := atI_of (l := x :: y :: z :: r) (k := 2) (by simp)
  rw [this]
end
@[simp] theorem cut_one {α : Type} {x : α} {l : List α} : cut (x :: l) (some 1) none = l := by
  unfold cut sIx
  have : min (1 : Int).toNat (x :: l).length = 1 := by simp
  simp [this]
@[simp] theorem isNon_non : D.non.isNon = true := rfl
@[simp] theorem isNon_bl {b : Bool} : (D.bl b).isNon = false := rfl
@[simp] theorem isNon_int {b : Int} : (D.int b).isNon = false := rfl
@[simp] theorem isNon_str {b : Str} : (D.str b).isNon = false := rfl
@[simp] theorem isNon_tup {b : List D} : (D.tup b).isNon = false := rfl
@[simp] theorem isNon_lst {b : List D} : (D.lst b).isNon = false := rfl
@[simp] theorem isNon_dct {b : List (Key × D)} : (D.dct b).isNon = false := rfl
@[simp ↓] theorem cIs_s {x : D} {R : DK} : cIs x .non R = R (.bl x.isNon) := by simp [cIs]
@[simp ↓] theorem cIsNot_s {x : D} {R : DK} : cIsNot x .non R = R (.bl (!x.isNon)) := by simp [cIsNot]
@[simp ↓] theorem forGo_nil {G : FG} {b : FS} {P : Po} {ρ : Ren} : forGo G b P [] ρ = P.nx ρ := by rw [forGo]
@[simp ↓] theorem forGo_cons {G : FG} {b : FS} {P : Po} {ρ : Ren} {d : D} {r : List D} : forGo G b P (d :: r) ρ = G d ρ fun ρ' => b { nx := forGo G b P r, rt := P.rt, bk := P.nx, ct := forGo G b P r } ρ' := by rw [forGo]
@[simp ↓] theorem lcGo_nil {G : FG} {t : FT} {e : Ren → Nat → (List D → Prop) → Prop} {ρ : Ren} {n : Nat} {R : List D → Prop} : lcGo G t e ρ [] n R = R [] := by rw [lcGo]
@[simp ↓] theorem lcGo_cons {G : FG} {t : FT} {e : Ren → Nat → (List D → Prop) → Prop} {ρ : Ren} {n : Nat} {R : List D → Prop} {d : D} {r : List D} : lcGo G t e ρ (d :: r) n R = G d ρ fun ρ' => t ρ' fun b => if b = true then e ρ' n fun l => lcGo G t e ρ r (n - l.length) fun l' => R (l ++ l') else lcGo G t e ρ r n R := by rw [lcGo]
theorem sSet_via {e : FE} {P : Po} {ρ : Ren} {i : Nat} (d : D) (h1 : ∀ Q : D → Prop, Q d → e ρ Q) (h2 : P.nx (ρ.set i (some d))) : sSet i e P ρ := h1 _ h2
end Fn
end P_FL
section P_M_k04
set_option maxHeartbeats 4000000
namespace Fn
open PySem PySem.Spec PyProof.Rows L2
def m_l_same_bae6 : Nat → GA
  | 0 => fun _ _ => False
  | n + 1 => fnD 3 2 (sSeq (sIf (tOr (tVal (eUn (fIs .tuple) (eVar 1))) (tVal (eUn (fIs .list) (eVar 1)))) (sSeq (sIf (tOr (tVal (eBin cNe (eUn (fIs .tuple) (eVar 1)) (eUn (fIs .tuple) (eVar 0)))) (tVal (eBin cNe (eUn (fIs .list) (eVar 1)) (eUn (fIs .list) (eVar 0))))) (sRet (eC (.bl false))) sSkip) (sSeq (sIf (tVal (eBin cNe (eCall fLen (aCons (eVar 0) aNil)) (eCall fLen (aCons (eVar 1) aNil)))) (sRet (eC (.bl false))) sSkip) (sRet (eBin cEq (eCall fLen (aCons (eLc (iRng1 (eCall fLen (aCons (eVar 1) aNil))) (Fn.gName 2) (tNot (tVal (eCall (m_l_same_bae6 n) (aCons (eBin bIx (eVar 0) (eVar 2)) (aCons (eBin bIx (eVar 1) (eVar 2)) aNil))))) (lcEl (eVar 2)) [2]) aNil)) (eC (.int 0)))))) sSkip) (sSeq (sIf (tVal (eBin cIs (eVar 1) (eC .non))) (sRet (eBin cIs (eVar 0) (eC .non))) sSkip) (sSeq (sIf (tOr (tVal (eUn (fIs .bool) (eVar 1))) (tVal (eUn (fIs .bool) (eVar 0)))) (sRet (eAnd (eUn (fIs .bool) (eVar 1)) (eAnd (eUn (fIs .bool) (eVar 0)) (eBin cEq (eVar 0) (eVar 1))))) sSkip) (sSeq (sIf (tVal (eUn (fIs .int) (eVar 1))) (sRet (eAnd (eUn (fIs .int) (eVar 0)) (eBin cEq (eVar 0) (eVar 1)))) sSkip) (sRet (eAnd (eUn (fIs .str) (eVar 0)) (eBin cEq (eVar 0) (eVar 1))))))))
def m_l_spread_2596 : GA := fnD 4 1 (sSeq (sSet 1 (eBin bMod (eCall fInt (aCons (eVar 0) aNil)) (eC (.int 2147483647)))) (sSeq (sSet 2 (eC (.int 1))) (sSeq (sFor (iRng1 (eC (.int 4))) (Fn.gName 3) (sSeq (sSet 1 (eBin bMod (eCall fInt (aCons (eBin bAdd (eBin bAdd (eBin bMulI (eVar 1) (eC (.int 48271))) (eC (.int 12345))) (eVar 3)) aNil)) (eC (.int 2147483647)))) (sSet 2 (eBin bAdd (eBin bMulI (eVar 2) (eC (.int 2147483647))) (eVar 1))))) (sRet (eVar 2)))))
def m_l_pick_491d : GA := fnD 2 2 (sRet (eBin bIx (eVar 1) (eCall fDraw (aCons (eVar 0) (aCons (eCall fLen (aCons (eVar 1) aNil)) aNil)))))
def m_l_expression_45ac : GA := fnD 2 2 (sRet (eIf (tVal (eBin cEq (eCall fDraw (aCons (eVar 0) (aCons (eC (.int 4)) aNil))) (eC (.int 0)))) (eC (.str "nil")) (eCall m_l_pick_491d (aCons (eVar 0) (aCons (eVar 1) aNil)))))
def m_l_fact_d440 : GA := fnD 2 2 (sRet (eTup (aCons (eCall m_l_pick_491d (aCons (eVar 0) (aCons (eLst (aCons (eC (.str "same")) (aCons (eC (.str "other")) (aCons (eC (.str "other")) aNil)))) aNil))) (aCons (eCall m_l_pick_491d (aCons (eVar 0) (aCons (eVar 1) aNil))) (aCons (eCall m_l_expression_45ac (aCons (eVar 0) (aCons (eVar 1) aNil))) aNil)))))
def m_l_case_7e14 : GA := fnD 7 4 (sSeq (sSet 4 (eCall fTuple (aCons (eLc (iRng1 (eCall fDraw (aCons (eVar 0) (aCons (eBin bAdd (eVar 2) (eC (.int 1))) aNil)))) (Fn.gName 6) tYes (lcEl (eCall m_l_fact_d440 (aCons (eVar 0) (aCons (eVar 1) aNil)))) [6]) aNil))) (sSeq (sSet 5 (eLc (iRng1 (eCall fDraw (aCons (eVar 0) (aCons (eBin bAdd (eVar 3) (eC (.int 1))) aNil)))) (Fn.gName 6) tYes (lcEl (eTup (aCons (eCall m_l_pick_491d (aCons (eVar 0) (aCons (eLst (aCons (eC (.str "cell")) (aCons (eC (.str "list")) (aCons (eC (.str "list")) aNil)))) aNil))) (aCons (eCall m_l_pick_491d (aCons (eVar 0) (aCons (eVar 1) aNil))) (aCons (eCall m_l_expression_45ac (aCons (eVar 0) (aCons (eVar 1) aNil))) aNil))))) [6])) (sRet (eTup (aCons (eVar 4) (aCons (eCall fTuple (aCons (eVar 5) aNil)) aNil))))))
def m_l_assertion_f77c : GA := fnD 6 5 (sRet (eCall fTuple (aCons (eLc (iRng1 (eBin bAdd (eC (.int 1)) (eCall fDraw (aCons (eVar 0) (aCons (eBin bAdd (eVar 2) (eC (.int 1))) aNil))))) (Fn.gName 5) tYes (lcEl (eCall m_l_case_7e14 (aCons (eVar 0) (aCons (eVar 1) (aCons (eVar 3) (aCons (eVar 4) aNil)))))) [5]) aNil)))
def m_put_for_8fd2 : GA := fnD 9 3 (sSeq (sSet 3 (eLst aNil)) (sSeq (sFor (iSeq (eVar 0)) (Fn.gName 4) (sSeq (sSet 5 (eLst aNil)) (sSeq (sFor (iSeq (eVar 4)) (Fn.gName 6) (sApp 5 (eCall fTuple (aCons (eLc (iSeq (eVar 6)) (Fn.gName 7) tYes (lcEl (eBin bAdd (eTup (aCons (eBin bIx (eVar 7) (eC (.int 0))) aNil)) (eCall fTuple (aCons (eLc (iSeq (eSl (eVar 7) (oSome (eC (.int 1))) oNone)) (Fn.gName 8) tYes (lcEl (eIf (tVal (eBin cEq (eVar 8) (eVar 1))) (eVar 2) (eVar 8))) [8]) aNil)))) [7]) aNil)))) (sApp 3 (eCall fTuple (aCons (eVar 5) aNil)))))) (sRet (eCall fTuple (aCons (eVar 3) aNil)))))
def m_star_7b80 : GA := fnD 4 2 (sRet (eCall fTuple (aCons (eLc (iSeq (eVar 0)) (Fn.gName 2) tYes (lcCl (iSeq (eVar 1)) (Fn.gName 3) tYes [3] (lcEl (eTup (aCons (eBin bAdd (eBin bIx (eVar 2) (eC (.int 0))) (eBin bIx (eVar 3) (eC (.int 0)))) (aCons (eBin bAdd (eBin bIx (eVar 2) (eC (.int 1))) (eBin bIx (eVar 3) (eC (.int 1)))) aNil))))) [2, 3]) aNil)))
def m_with_fact_2df9 : GA := fnD 4 2 (sRet (eCall fTuple (aCons (eLc (iSeq (eVar 0)) (Fn.gTup (gsCons (Fn.gName 2) (gsCons (Fn.gName 3) gsNil))) tYes (lcEl (eTup (aCons (eBin bAdd (eVar 2) (eTup (aCons (eVar 1) aNil))) (aCons (eVar 3) aNil)))) [2, 3]) aNil)))
def m_opposite_f29a : GA := fnD 1 1 (sRet (eBin bAdd (eTup (aCons (eIf (tVal (eBin cEq (eBin bIx (eVar 0) (eC (.int 0))) (eC (.str "same")))) (eC (.str "other")) (eC (.str "same"))) aNil)) (eSl (eVar 0) (oSome (eC (.int 1))) oNone)))
def m_law_460c : FS := (sSeq (sSet 2 (eLst (aCons (eC (.str "x")) (aCons (eC (.str "y")) (aCons (eC (.str "z")) aNil))))) (sSeq (sAsg (eTup (aCons (eCall m_l_assertion_f77c (aCons (eVar 1) (aCons (eVar 2) (aCons (eC (.int 2)) (aCons (eC (.int 2)) (aCons (eC (.int 2)) aNil)))))) (aCons (eCall m_l_assertion_f77c (aCons (eVar 1) (aCons (eVar 2) (aCons (eC (.int 2)) (aCons (eC (.int 2)) (aCons (eC (.int 2)) aNil)))))) (aCons (eCall m_l_fact_d440 (aCons (eVar 1) (aCons (eVar 2) aNil))) aNil)))) (Fn.gTup (gsCons (Fn.gName 3) (gsCons (Fn.gName 4) (gsCons (Fn.gName 5) gsNil))))) (sSeq (sSet 6 (eLst aNil)) (sSeq (sFor (iSeq (eVar 3)) (Fn.gTup (gsCons (Fn.gName 7) (gsCons (Fn.gName 8) gsNil))) (sSet 6 (eBin bCat (eVar 6) (eLc (iSeq (eVar 4)) (Fn.gName 15) tYes (lcEl (eTup (aCons (eBin bAdd (eVar 7) (eBin bIx (eVar 15) (eC (.int 0)))) (aCons (eBin bAdd (eVar 8) (eBin bIx (eVar 15) (eC (.int 1)))) aNil)))) [15])))) (sSeq (sIf (tNot (tVal (eCall (m_l_same_bae6 12) (aCons (eLst (aCons (eCall m_star_7b80 (aCons (eVar 3) (aCons (eVar 4) aNil))) (aCons (eCall m_star_7b80 (aCons (eVar 3) (aCons (eTup aNil) aNil))) (aCons (eCall m_star_7b80 (aCons (eTup aNil) (aCons (eVar 4) aNil))) aNil)))) (aCons (eLst (aCons (eCall fTuple (aCons (eVar 6) aNil)) (aCons (eTup aNil) (aCons (eTup aNil) aNil)))) aNil))))) (sRet (eC (.bl false))) sSkip) (sSeq (sIf (tNot (tVal (eCall (m_l_same_bae6 12) (aCons (eLst (aCons (eCall m_with_fact_2df9 (aCons (eVar 3) (aCons (eVar 5) aNil))) (aCons (eCall m_with_fact_2df9 (aCons (eTup aNil) (aCons (eVar 5) aNil))) aNil))) (aCons (eLst (aCons (eCall fTuple (aCons (eLc (iSeq (eVar 3)) (Fn.gTup (gsCons (Fn.gName 7) (gsCons (Fn.gName 8) gsNil))) tYes (lcEl (eTup (aCons (eBin bAdd (eVar 7) (eTup (aCons (eVar 5) aNil))) (aCons (eVar 8) aNil)))) [7, 8]) aNil)) (aCons (eTup aNil) aNil))) aNil))))) (sRet (eC (.bl false))) sSkip) (sSeq (sSet 9 (eTup (aCons (eIf (tVal (eBin cEq (eBin bIx (eVar 5) (eC (.int 0))) (eC (.str "same")))) (eC (.str "other")) (eC (.str "same"))) (aCons (eBin bIx (eVar 5) (eC (.int 1))) (aCons (eBin bIx (eVar 5) (eC (.int 2))) aNil))))) (sSeq (sIf (tNot (tVal (eCall (m_l_same_bae6 12) (aCons (eLst (aCons (eCall m_opposite_f29a (aCons (eVar 5) aNil)) (aCons (eCall m_opposite_f29a (aCons (eVar 9) aNil)) aNil))) (aCons (eLst (aCons (eVar 9) (aCons (eVar 5) aNil))) aNil))))) (sRet (eC (.bl false))) sSkip) (sSeq (sPar [10, 11, 6] (aCons (eCall m_l_pick_491d (aCons (eVar 1) (aCons (eBin bAdd (eVar 2) (eLst (aCons (eC (.str "w")) aNil))) aNil))) (aCons (eCall m_l_expression_45ac (aCons (eVar 1) (aCons (eVar 2) aNil))) (aCons (eLst aNil) aNil)))) (sSeq (sFor (iSeq (eVar 3)) (Fn.gName 12) (sSeq (sSet 13 (eLst aNil)) (sSeq (sFor (iSeq (eVar 12)) (Fn.gName 14) (sApp 13 (eCall fTuple (aCons (eLc (iSeq (eVar 14)) (Fn.gName 16) tYes (lcEl (eTup (aCons (eBin bIx (eVar 16) (eC (.int 0))) (aCons (eIf (tVal (eBin cEq (eBin bIx (eVar 16) (eC (.int 1))) (eVar 10))) (eVar 11) (eBin bIx (eVar 16) (eC (.int 1)))) (aCons (eIf (tVal (eBin cEq (eBin bIx (eVar 16) (eC (.int 2))) (eVar 10))) (eVar 11) (eBin bIx (eVar 16) (eC (.int 2)))) aNil))))) [16]) aNil)))) (sApp 6 (eCall fTuple (aCons (eVar 13) aNil)))))) (sRet (eCall (m_l_same_bae6 12) (aCons (eCall m_put_for_8fd2 (aCons (eVar 3) (aCons (eVar 10) (aCons (eVar 11) aNil)))) (aCons (eCall fTuple (aCons (eVar 6) aNil)) aNil))))))))))))))
end Fn
end P_M_k04
section P_S_k04
set_option maxHeartbeats 4000000
namespace Fn
open PySem
theorem m_l_spread_2596_any : ∀ (c : Int) (R : DK), (∀ n, R (.int n)) → m_l_spread_2596 [.int c] R := by
  intro c R h
  unfold m_l_spread_2596
  simp [↓sSeq_s, rng, List.range, List.range.loop]
  exact h _
theorem pick_d {l : List D} {R : DK} (h0 : 0 < l.length) (h1 : l.length < 1073741824) (h : ∀ d ∈ l, R d) : m_l_pick_491d [.pool, .lst l] R := by
  unfold m_l_pick_491d
  simp
  refine draw_any (by omega) (by omega) fun k hk => bIx_lst (by omega) (h _ (List.getElem_mem _))
abbrev Row := Str × Str × Str
abbrev Case := List Row × List Row
abbrev Asr := List Case
def eRow (r : Row) : D := .tup [.str r.1, .str r.2.1, .str r.2.2]
def eRows (l : List Row) : D := .tup (l.map eRow)
def eCase (c : Case) : D := .tup [eRows c.1, eRows c.2]
def eAsr (a : Asr) : D := .tup (a.map eCase)
theorem expression_d {ws : List Str} {R : DK} (h0 : 0 < ws.length) (h1 : ws.length < 1073741824) (h : ∀ e : Str, e = ("nil" : Str) ∨ e ∈ ws → R (.str e)) : m_l_expression_45ac [.pool, .lst (ws.map D.str)] R := by
  unfold m_l_expression_45ac
  simp
  refine draw_any (by omega) (by omega) fun k hk => ?_
  simp
  split
  · exact h _ (.inl rfl)
  · exact pick_d (by simpa using h0) (by simpa using h1) fun d hd => by
      obtain ⟨e, he, rfl⟩ := List.mem_map.mp hd
      exact h e (.inr he)
def rowOk (ks ws : List Str) (r : Row) : Prop := r.1 ∈ ks ∧ r.2.1 ∈ ws ∧ (r.2.2 = ("nil" : Str) ∨ r.2.2 ∈ ws)
theorem fact_d {ws : List Str} {R : DK} (h0 : 0 < ws.length) (h1 : ws.length < 1073741824) (h : ∀ r, rowOk ["same", "other"] ws r → R (eRow r)) : m_l_fact_d440 [.pool, .lst (ws.map D.str)] R := by
  unfold m_l_fact_d440
  simp
  refine pick_d (by simp) (by simp) fun d hd => ?_
  have : ∃ k : Str, k ∈ ([("same" : Str), "other"] : List Str) ∧ d = .str k := by
    simp at hd
    rcases hd with rfl | rfl
    · exact ⟨_, by simp, rfl⟩
    · exact ⟨_, by simp, rfl⟩
  obtain ⟨k, hk, rfl⟩ := this
  refine pick_d (by simpa using h0) (by simpa using h1) fun d hd => ?_
  obtain ⟨w, hw, rfl⟩ := List.mem_map.mp hd
  refine expression_d h0 h1 fun e he => ?_
  exact h (k, w, e) ⟨hk, hw, he⟩
theorem list_of {α : Type} {enc : α → D} {p : α → Prop} : ∀ {l : List D}, (∀ y ∈ l, ∃ x, p x ∧ y = enc x) → ∃ xs : List α, l = xs.map enc ∧ ∀ x ∈ xs, p x
  | [], _ => ⟨[], rfl, by simp⟩
  | y :: r, h => by
    obtain ⟨x, hx, rfl⟩ := h y List.mem_cons_self
    obtain ⟨xs, rfl, h2⟩ := list_of (l := r) fun z hz => h z (List.mem_cons_of_mem _ hz)
    exact ⟨x :: xs, rfl, fun z hz => (List.mem_cons.mp hz).elim (fun e => e ▸ hx) (h2 z)⟩
def caseOk (ws : List Str) (f t : Nat) (c : Case) : Prop := (c.1.length ≤ f ∧ ∀ r ∈ c.1, rowOk ["same", "other"] ws r) ∧ c.2.length ≤ t ∧ ∀ r ∈ c.2, rowOk ["cell", "list"] ws r
theorem case_d {ws : List Str} {f t : Nat} {R : DK} (h0 : 0 < ws.length) (h1 : ws.length < 1073741824) (hf : f < 1000) (ht : t < 1000) (h : ∀ c, caseOk ws f t c → R (eCase c)) : m_l_case_7e14 [.pool, .lst (ws.map D.str), .int f, .int t] R := by
  unfold m_l_case_7e14
  simp [↓sSeq_s]
  refine draw_any (by omega) (by omega) fun k hk => ?_
  simp
  refine ⟨by omega, lcGo_any (fun d => ∃ r, rowOk ["same", "other"] ws r ∧ d = eRow r) _ _ _ (fun d _ R hR => ?_) (by rw [rng_len]; omega) fun l hl hp => ?_⟩
  · refine hR _ (fun Q q => q) fun Q q => ?_
    exact fact_d h0 h1 fun r hr => q _ ⟨r, hr, rfl⟩
  · obtain ⟨rs, rfl, hr⟩ := list_of hp
    rw [rng_len] at hl
    refine draw_any (by omega) (by omega) fun k2 hk2 => ?_
    refine ⟨by omega, lcGo_any (fun d => ∃ r, rowOk ["cell", "list"] ws r ∧ d = eRow r) _ _ _ (fun d _ R hR => ?_) (by rw [rng_len]; omega) fun l hl2 hp => ?_⟩
    · refine hR _ (fun Q q => q) fun Q q => ?_
      simp
      refine pick_d (by simp) (by simp) fun d hd => ?_
      have : ∃ k : Str, k ∈ ([("cell" : Str), "list"] : List Str) ∧ d = .str k := by
        simp at hd
        rcases hd with rfl | rfl
        · exact ⟨_, by simp, rfl⟩
        · exact ⟨_, by simp, rfl⟩
      obtain ⟨k, hk, rfl⟩ := this
      refine pick_d (by simpa using h0) (by simpa using h1) fun d hd => ?_
      obtain ⟨w, hw, rfl⟩ := List.mem_map.mp hd
      refine expression_d h0 h1 fun e he => ?_
      exact q _ ⟨(k, w, e), ⟨hk, hw, he⟩, rfl⟩
    · obtain ⟨ts, rfl, ht⟩ := list_of hp
      rw [rng_len] at hl2
      simp only [List.length_map] at hl hl2
      refine h (rs, ts) ⟨⟨?_, hr⟩, ?_, ht⟩
      · simp only; omega
      · simp only; omega
theorem assertion_d {ws : List Str} {c f t : Nat} {R : DK} (h0 : 0 < ws.length) (h1 : ws.length < 1073741824) (hc : c < 1000) (hf : f < 1000) (ht : t < 1000) (h : ∀ a : Asr, a.length ≤ c + 1 → (∀ x ∈ a, caseOk ws f t x) → R (eAsr a)) : m_l_assertion_f77c [.pool, .lst (ws.map D.str), .int c, .int f, .int t] R := by
  unfold m_l_assertion_f77c
  simp
  refine draw_any (by omega) (by omega) fun k hk => ?_
  refine ⟨by omega, lcGo_any (fun d => ∃ r, caseOk ws f t r ∧ d = eCase r) _ _ _ (fun d _ R hR => ?_) (by rw [rng_len]; omega) fun l hl hp => ?_⟩
  · refine hR _ (fun Q q => q) fun Q q => ?_
    exact case_d h0 h1 hf ht fun r hr => q _ ⟨r, hr, rfl⟩
  · obtain ⟨rs, rfl, hr⟩ := list_of hp
    rw [rng_len] at hl
    simp only [List.length_map] at hl
    exact h rs (by omega) hr
/-- data of None, numbers, texts, tuples, lists, no deeper than n -/
def wf : Nat → D → Prop
  | 0, _ => False
  | n + 1, .tup l => l.length ≤ 16777216 ∧ ∀ d ∈ l, wf n d
  | n + 1, .lst l => l.length ≤ 16777216 ∧ ∀ d ∈ l, wf n d
  | _ + 1, .non => True
  | _ + 1, .bl _ => True
  | _ + 1, .int _ => True
  | _ + 1, .str _ => True
  | _ + 1, _ => False
theorem rng_mem {n : Nat} {d : D} (h : d ∈ rng 0 n) : ∃ k : Nat, k < n ∧ d = .int k := by
  unfold rng at h
  obtain ⟨k, hk, rfl⟩ := List.mem_map.mp h
  exact ⟨k, List.mem_range.mp hk, by simp⟩
theorem same_refl : ∀ (n : Nat) (d : D) (R : DK), wf n d → R (.bl true) → m_l_same_bae6 n [d, d] R
  | 0, _, _, h, _ => h.elim
  | n + 1, .tup l, R, h, q => by
    unfold m_l_same_bae6
    simp [↓sSeq_s]
    have h1 : l.length ≤ 16777216 := And.left h
    refine ⟨by omega, lcGo_fil (fun _ => false) (fun d => d) _ _ _ (fun d hd R hR => ?_) (by simp [rng]; omega) ?_⟩
    · obtain ⟨k, hk, rfl⟩ := rng_mem hd
      refine hR _ (fun Q q => ?_) (fun e => nomatch e)
      simp
      refine bIx_tup hk (bIx_tup hk ?_)
      exact same_refl n _ _ (And.right h _ (List.getElem_mem _)) q
    · simpa using q
  | n + 1, .lst l, R, h, q => by
    unfold m_l_same_bae6
    simp [↓sSeq_s]
    have h1 : l.length ≤ 16777216 := And.left h
    refine ⟨by omega, lcGo_fil (fun _ => false) (fun d => d) _ _ _ (fun d hd R hR => ?_) (by simp [rng]; omega) ?_⟩
    · obtain ⟨k, hk, rfl⟩ := rng_mem hd
      refine hR _ (fun Q q => ?_) (fun e => nomatch e)
      simp
      refine bIx_lst hk (bIx_lst hk ?_)
      exact same_refl n _ _ (And.right h _ (List.getElem_mem _)) q
    · simpa using q
  | n + 1, .non, R, h, q => by
    unfold m_l_same_bae6
    simp [↓sSeq_s, uIsN, D.isNon, q]
  | n + 1, .bl b, R, h, q => by
    unfold m_l_same_bae6
    simp [↓sSeq_s, uIsN, D.isNon, q]
  | n + 1, .int i, R, h, q => by
    unfold m_l_same_bae6
    simp [↓sSeq_s, uIsN, D.isNon, q]
  | n + 1, .str x, R, h, q => by
    unfold m_l_same_bae6
    simp [↓sSeq_s, uIsN, D.isNon, q]
def small (a : Asr) : Prop := a.length ≤ 1000 ∧ ∀ c ∈ a, c.1.length ≤ 1000 ∧ c.2.length ≤ 1000
def starP (a b : Asr) : Asr := a.flatMap fun l => b.map fun r => (l.1 ++ r.1, l.2 ++ r.2)
theorem starP_len {a b : Asr} : (starP a b).length = a.length * b.length := by
  unfold starP
  induction a with
  | nil => simp
  | cons x r ih => simp [ih, Nat.succ_mul]; omega
theorem map_flat {α β : Type} {f : α → List β} {g : β → D} {enc : α → D} {h : D → List D} (hh : ∀ x, h (enc x) = (f x).map g) : ∀ l : List α, (l.map enc).flatMap h = (l.flatMap f).map g
  | [] => rfl
  | x :: r => by simp [hh, map_flat hh r]
/-- what a pair of cases gives, on data -/
def starD (l r : D) : D := match l, r with
  | .tup [.tup a, .tup b], .tup [.tup c, .tup d] => .tup [.tup (a ++ c), .tup (b ++ d)]
  | _, _ => .non
theorem starD_e (l r : Case) : starD (eCase l) (eCase r) = eCase (l.1 ++ r.1, l.2 ++ r.2) := by
  simp [starD, eCase, eRows]
theorem star_d {a b : Asr} {R : DK} (ha : small a) (hb : small b) (h : R (eAsr (starP a b))) : m_star_7b80 [eAsr a, eAsr b] R := by
  unfold m_star_7b80
  simp
  have hl : ((a.map eCase).flatMap fun l => (b.map eCase).map fun r => starD l r) = (starP a b).map eCase := by
    refine map_flat (h := fun l => (b.map eCase).map fun r => starD l r) (fun x => ?_) a
    simp [starD_e, Function.comp_def]
  have hn := @starP_len a b
  have hm : a.length * b.length ≤ 1000 * 1000 := Nat.mul_le_mul ha.1 hb.1
  unfold eAsr
  simp
  refine lcGo_flat (fun l => (b.map eCase).map fun r => starD l r) _ _ _ (fun d hd R hR => ?_) (by rw [hl]; simp; omega) (by rw [hl]; exact h)
  obtain ⟨l, hl, rfl⟩ := List.mem_map.mp hd
  refine hR _ (fun Q q => q) fun m Q hm q => ?_
  unfold lcCl
  simp
  refine lcGo_map (fun r => starD (eCase l) r) _ _ _ (fun d hd R hR => ?_) (by simpa using hm) q
  obtain ⟨r, hr, rfl⟩ := List.mem_map.mp hd
  refine hR _ (fun Q q => q) fun Q q => ?_
  have h1 := ha.2 l hl
  have h2 := hb.2 r hr
  rw [starD_e] at q
  simp [eCase, eRows]
  refine ⟨by omega, by omega, ?_⟩
  simpa [eCase, eRows] using q
theorem with_fact_d {a : Asr} {f : Row} {R : DK} (ha : small a) (h : R (eAsr (a.map fun c => (c.1 ++ [f], c.2)))) : m_with_fact_2df9 [eAsr a, eRow f] R := by
  unfold m_with_fact_2df9
  simp
  unfold eAsr
  simp
  refine lcGo_mapE eCase (fun c => eCase (c.1 ++ [f], c.2)) a (fun c hc R hR => ?_) (by have := ha.1; omega) (by simpa [eAsr, Function.comp_def] using h)
  have h1 := ha.2 c hc
  simp [eCase, eRows]
  refine hR _ (fun Q q => q) fun Q q => ?_
  simp
  refine ⟨by omega, ?_⟩
  simpa [eCase, eRows] using q
theorem opposite_d {f : Row} {R : DK} (h : R (eRow (if f.1 = ("same" : Str) then ("other" : Str) else ("same" : Str), f.2))) : m_opposite_f29a [eRow f] R := by
  unfold m_opposite_f29a
  simp [eRow]
  split <;> simp_all [eRow]
def putR (w e : Str) (r : Row) : Row := (r.1, if r.2.1 = w then e else r.2.1, if r.2.2 = w then e else r.2.2)
def putC (w e : Str) (c : Case) : Case := (c.1.map (putR w e), c.2.map (putR w e))
theorem put_for_d {a : Asr} {w e : Str} {R : DK} (ha : small a) (h : R (eAsr (a.map (putC w e)))) : m_put_for_8fd2 [eAsr a, .str w, .str e] R := by
  unfold m_put_for_8fd2
  simp [↓sSeq_s]
  unfold eAsr
  simp
  refine forGo_inv eCase (fun done ρ => ∃ x1 x2 x3 x4 x5, ρ = [some (eAsr a), some (.str w), some (.str e), some (.lst ((done.map (putC w e)).map eCase)), x1, x2, x3, x4, x5]) a ⟨_, _, _, _, _, rfl⟩ ?_ ?_
  · rintro done c rest hd ρ ⟨x1, x2, x3, x4, x5, rfl⟩ K hK
    have hc := ha.2 c (by rw [hd]; simp)
    have hlen := ha.1
    rw [hd] at hlen
    simp at hlen
    simp [eCase, ↓sSeq_s]
    have row : ∀ (l : List Row) (R : List D → Prop) (x0 x3 x4 x5 x6 x7 x8), l.length ≤ 1000 → R ((l.map (putR w e)).map eRow) → 
      lcGo (Fn.gName 7) tYes (lcEl (eBin bAdd (eTup (aCons (eBin bIx (eVar 7) (eC (.int 0))) aNil)) (eCall fTuple (aCons (eLc (iSeq (eSl (eVar 7) (oSome (eC (.int 1))) oNone)) (Fn.gName 8) tYes (lcEl (eIf (tVal (eBin cEq (eVar 8) (eVar 1))) (eVar 2) (eVar 8))) [8]) aNil)))) [x0, some (.str w), some (.str e), x3, x4, x5, x6, x7, x8] (l.map eRow) 16777216 R := by
      intro l R x0 x3 x4 x5 x6 x7 x8 h1 h
      refine lcGo_mapE eRow (fun r => eRow (putR w e r)) l (fun r hr R hR => ?_) (by omega) (by simpa [Function.comp_def] using h)
      refine hR _ (fun Q q => q) fun Q q => ?_
      simp [eRow]
      have q' : Q (.tup [.str r.1, .str (if r.2.1 = w then e else r.2.1), .str (if r.2.2 = w then e else r.2.2)]) := q
      by_cases c1 : r.2.1 = w
      · by_cases c2 : r.2.2 = w
        · rw [if_pos c1, if_pos c2] at q'
          simp [c1, c2]
          exact q'
        · rw [if_pos c1, if_neg c2] at q'
          simp [c1, c2]
          exact q'
      · by_cases c2 : r.2.2 = w
        · rw [if_neg c1, if_pos c2] at q'
          simp [c1, c2]
          exact q'
        · rw [if_neg c1, if_neg c2] at q'
          simp [c1, c2]
          exact q'
    refine row c.1 _ _ _ _ _ _ _ _ hc.1 ?_
    refine row c.2 _ _ _ _ _ _ _ _ hc.2 ?_
    have he : (List.map (eCase ∘ putC w e) done ++ [D.tup [D.tup (List.map eRow (List.map (putR w e) c.fst)), D.tup (List.map eRow (List.map (putR w e) c.snd))]]) = List.map eCase (List.map (putC w e) (done ++ [c])) := by
      simp [eCase, eRows, putC, Function.comp_def]
    rw [he]
    exact ⟨by omega, hK _ ⟨_, _, _, _, _, rfl⟩⟩
  · rintro ρ ⟨x1, x2, x3, x4, x5, rfl⟩
    simpa [eAsr] using h
def fits (a : Asr) : Prop := a.length ≤ 16777216 ∧ ∀ c ∈ a, c.1.length ≤ 16777216 ∧ c.2.length ≤ 16777216
theorem wf_row {n : Nat} {r : Row} : wf (n + 2) (eRow r) := ⟨by simp, fun d hd => by
  simp at hd
  rcases hd with rfl | rfl | rfl <;> trivial⟩
theorem wf_rows {n : Nat} {l : List Row} (h : l.length ≤ 16777216) : wf (n + 3) (eRows l) := ⟨by simpa using h, fun d hd => by
  obtain ⟨r, _, rfl⟩ := List.mem_map.mp hd
  exact wf_row⟩
theorem wf_case {n : Nat} {c : Case} (h : c.1.length ≤ 16777216 ∧ c.2.length ≤ 16777216) : wf (n + 4) (eCase c) := ⟨by simp, fun d hd => by
  simp at hd
  rcases hd with rfl | rfl
  · exact wf_rows h.1
  · exact wf_rows h.2⟩
theorem wf_asr {n : Nat} {a : Asr} (h : fits a) : wf (n + 5) (eAsr a) := ⟨by simpa using h.1, fun d hd => by
  obtain ⟨c, hc, rfl⟩ := List.mem_map.mp hd
  exact wf_case (h.2 c hc)⟩
theorem wf_lst {n : Nat} {l : List D} (h : l.length ≤ 16777216) (h2 : ∀ d ∈ l, wf n d) : wf (n + 1) (.lst l) := ⟨h, h2⟩
theorem small.fits {a : Asr} (h : small a) : fits a := ⟨by have := h.1; omega, fun c hc => by have := h.2 c hc; exact ⟨by omega, by omega⟩⟩
theorem fits_star {a b : Asr} (ha : small a) (hb : small b) : fits (starP a b) := by
  refine ⟨by rw [starP_len]; have : a.length * b.length ≤ 1000 * 1000 := Nat.mul_le_mul ha.1 hb.1; omega, fun c hc => ?_⟩
  unfold starP at hc
  obtain ⟨l, hl, hc⟩ := List.mem_flatMap.mp hc
  obtain ⟨r, hr, rfl⟩ := List.mem_map.mp hc
  have := ha.2 l hl
  have := hb.2 r hr
  simp
  omega
theorem small_nil : small [] := ⟨by simp, by simp⟩
theorem star_nil1 {a : Asr} : eAsr (starP a []) = .tup [] := by simp [starP, eAsr]
theorem star_nil2 {a : Asr} : eAsr (starP [] a) = .tup [] := by simp [starP, eAsr]
theorem law_plain : m_law_460c poT (none :: some .pool :: List.replicate 15 none) := by
  unfold m_law_460c
  refine sSeq_i ?_
  simp
  refine sSeq_i ?_
  simp
  refine assertion_d (ws := ["x", "y", "z"]) (c := 2) (f := 2) (t := 2) (by simp) (by simp) (by decide) (by decide) (by decide) fun one h1 o1 => ?_
  refine assertion_d (ws := ["x", "y", "z"]) (c := 2) (f := 2) (t := 2) (by simp) (by simp) (by decide) (by decide) (by decide) fun two h2 o2 => ?_
  refine fact_d (ws := ["x", "y", "z"]) (by simp) (by simp) fun fact hf => ?_
  refine sSeq_i ?_
  simp
  refine sSeq_i ?_
  simp
  have s1 : small one := ⟨by omega, fun c hc => by have := o1 c hc; exact ⟨by have := this.1.1; omega, by have := this.2.1; omega⟩⟩
  have s2 : small two := ⟨by omega, fun c hc => by have := o2 c hc; exact ⟨by have := this.1.1; omega, by have := this.2.1; omega⟩⟩
  refine forGo_inv eCase (fun done ρ => ∃ x7 x8 x9 x10 x11 x12 x13 x14 x15 x16, ρ = [none, some .pool, some (.lst [.str "x", .str "y", .str "z"]), some (eAsr one), some (eAsr two), some (eRow fact), some (.lst ((starP done two).map eCase)), x7, x8, x9, x10, x11, x12, x13, x14, x15, x16]) one ⟨_, _, _, _, _, _, _, _, _, _, rfl⟩ ?_ ?_
  · rintro done c rest hd ρ ⟨x7, x8, x9, x10, x11, x12, x13, x14, x15, x16, rfl⟩ K hK
    have hc := s1.2 c (by rw [hd]; simp)
    have hlen := s1.1
    rw [hd] at hlen
    simp at hlen
    simp [eCase]
    refine lcGo_mapE eCase (fun r => eCase (c.1 ++ r.1, c.2 ++ r.2)) two (fun r hr R hR => ?_) (by have := s2.1; omega) ?_
    · refine hR _ (fun Q q => q) fun Q q => ?_
      have := s2.2 r hr
      simp [eCase, eRows]
      refine ⟨by omega, by omega, ?_⟩
      simpa [eCase, eRows] using q
    · have hsz : (starP done two).length + two.length ≤ 16777216 := by
        rw [starP_len]
        have : done.length * two.length ≤ 1000 * 1000 := Nat.mul_le_mul (by omega) s2.1
        have := s2.1
        omega
      have he : List.map eCase (starP done two) ++ two.map (fun r => eCase (c.1 ++ r.1, c.2 ++ r.2)) = List.map eCase (starP (done ++ [c]) two) := by simp [starP, Function.comp_def]
      rw [he]
      exact ⟨by simpa using hsz, hK _ ⟨_, _, _, _, _, _, _, _, _, _, rfl⟩⟩
  · rintro ρ ⟨x7, x8, x9, x10, x11, x12, x13, x14, x15, x16, rfl⟩
    dsimp only
    refine sSeq_i ?_
    simp
    refine star_d s1 s2 ?_
    refine star_d (b := []) s1 small_nil ?_
    refine star_d (a := []) small_nil s2 ?_
    rw [star_nil1, star_nil2]
    refine same_refl 12 _ _ (wf_lst (by simp) fun d hd => ?_) ?_
    · simp at hd
      rcases hd with rfl | rfl
      · exact wf_asr (fits_star s1 s2)
      · exact wf_asr (a := []) small_nil.fits
    simp
    refine sSeq_i ?_
    simp
    refine with_fact_d s1 ?_
    refine with_fact_d (a := []) small_nil ?_
    refine lcGo_mapE eCase (fun c => eCase (c.1 ++ [fact], c.2)) one (fun c hc R hR => ?_) (by have := s1.1; omega) ?_
    · have hc := s1.2 c hc
      simp [eCase, eRows]
      refine hR _ (fun Q q => q) fun Q q => ?_
      simp
      refine ⟨by omega, ?_⟩
      simpa [eCase, eRows] using q
    have e1 : D.tup (one.map fun c => eCase (c.1 ++ [fact], c.2)) = eAsr (one.map fun c => (c.1 ++ [fact], c.2)) := by simp [eAsr, Function.comp_def]
    have e2 : eAsr (([] : Asr).map fun c => (c.1 ++ [fact], c.2)) = .tup [] := rfl
    rw [e1, e2]
    have f1 : fits (one.map fun c => (c.1 ++ [fact], c.2)) := by
      refine ⟨by have := s1.1; simp; omega, fun c hc => ?_⟩
      obtain ⟨d, hd, rfl⟩ := List.mem_map.mp hc
      have := s1.2 d hd
      simp
      omega
    refine same_refl 12 _ _ (wf_lst (by simp) fun d hd => ?_) ?_
    · simp at hd
      rcases hd with rfl | rfl
      · exact wf_asr f1
      · exact wf_asr (a := []) small_nil.fits
    simp
    refine sSeq_i ?_
    have hk : fact.1 = ("same" : Str) ∨ fact.1 = ("other" : Str) := by simpa using hf.1
    refine sSet_via (eRow (if fact.1 = ("same" : Str) then ("other" : Str) else ("same" : Str), fact.2)) (fun Q h => ?_) ?_
    · simp [eRow]
      split
      · rename_i c; simpa [eRow, c] using h
      · rename_i c; simpa [eRow, c] using h
    simp only [setN_9]
    refine sSeq_i ?_
    simp
    refine opposite_d ?_
    refine opposite_d ?_
    have e3 : (if (if fact.1 = ("same" : Str) then ("other" : Str) else ("same" : Str)) = ("same" : Str) then ("other" : Str) else ("same" : Str)) = fact.1 := by
      rcases hk with h | h <;> rw [h] <;> decide
    simp only [e3]
    refine same_refl 12 _ _ (wf_lst (by simp) fun d hd => ?_) ?_
    · simp at hd
      rcases hd with rfl | rfl
      · exact wf_row
      · exact wf_row
    simp
    refine sSeq_i ?_
    simp
    refine pick_d (by simp) (by simp) fun d hd => ?_
    have : ∃ w : Str, d = .str w := by
      simp at hd
      rcases hd with rfl | rfl | rfl | rfl <;> exact ⟨_, rfl⟩
    obtain ⟨w, rfl⟩ := this
    refine expression_d (ws := ["x", "y", "z"]) (by simp) (by simp) fun e he => ?_
    refine sSeq_i ?_
    simp
    refine forGo_inv eCase (fun done ρ => ∃ x7 x8 x9 x12 x13 x14 x15 x16, ρ = [none, some .pool, some (.lst [.str "x", .str "y", .str "z"]), some (eAsr one), some (eAsr two), some (eRow fact), some (.lst ((done.map (putC w e)).map eCase)), x7, x8, x9, some (.str w), some (.str e), x12, x13, x14, x15, x16]) one ⟨_, _, _, _, _, _, _, _, rfl⟩ ?_ ?_
    · rintro done c rest hd ρ ⟨x7, x8, x9, x12, x13, x14, x15, x16, rfl⟩ K hK
      have hc := s1.2 c (by rw [hd]; simp)
      have hlen := s1.1
      rw [hd] at hlen
      simp at hlen
      simp [eCase, ↓sSeq_s]
      have row : ∀ (l : List Row) (R : List D → Prop) (x0 x1 x2 x3 x4 x5 x6 x7 x8 x9 x12 x13 x14 x15 x16), l.length ≤ 1000 → R ((l.map (putR w e)).map eRow) →
        lcGo (Fn.gName 16) tYes (lcEl (eTup (aCons (eBin bIx (eVar 16) (eC (.int 0))) (aCons (eIf (tVal (eBin cEq (eBin bIx (eVar 16) (eC (.int 1))) (eVar 10))) (eVar 11) (eBin bIx (eVar 16) (eC (.int 1)))) (aCons (eIf (tVal (eBin cEq (eBin bIx (eVar 16) (eC (.int 2))) (eVar 10))) (eVar 11) (eBin bIx (eVar 16) (eC (.int 2)))) aNil))))) [x0, x1, x2, x3, x4, x5, x6, x7, x8, x9, some (.str w), some (.str e), x12, x13, x14, x15, x16] (l.map eRow) 16777216 R := by
        intro l R x0 x1 x2 x3 x4 x5 x6 x7 x8 x9 x12 x13 x14 x15 x16 h1 h
        refine lcGo_mapE eRow (fun r => eRow (putR w e r)) l (fun r hr R hR => ?_) (by omega) (by simpa [Function.comp_def] using h)
        refine hR _ (fun Q q => q) fun Q q => ?_
        simp [eRow]
        have q' : Q (.tup [.str r.1, .str (if r.2.1 = w then e else r.2.1), .str (if r.2.2 = w then e else r.2.2)]) := q
        by_cases c1 : r.2.1 = w
        · by_cases c2 : r.2.2 = w
          · rw [if_pos c1, if_pos c2] at q'
            simp [c1, c2]
            exact q'
          · rw [if_pos c1, if_neg c2] at q'
            simp [c1, c2]
            exact q'
        · by_cases c2 : r.2.2 = w
          · rw [if_neg c1, if_pos c2] at q'
            simp [c1, c2]
            exact q'
          · rw [if_neg c1, if_neg c2] at q'
            simp [c1, c2]
            exact q'
      refine row c.1 _ _ _ _ _ _ _ _ _ _ _ _ _ _ _ _ hc.1 ?_
      refine row c.2 _ _ _ _ _ _ _ _ _ _ _ _ _ _ _ _ hc.2 ?_
      have he : (List.map (eCase ∘ putC w e) done ++ [D.tup [D.tup (List.map eRow (List.map (putR w e) c.fst)), D.tup (List.map eRow (List.map (putR w e) c.snd))]]) = List.map eCase (List.map (putC w e) (done ++ [c])) := by
        simp [eCase, eRows, putC, Function.comp_def]
      rw [he]
      exact ⟨by omega, hK _ ⟨_, _, _, _, _, _, _, _, rfl⟩⟩
    · rintro ρ ⟨x7, x8, x9, x12, x13, x14, x15, x16, rfl⟩
      dsimp only
      simp
      refine put_for_d s1 ?_
      have e4 : D.tup (one.map (eCase ∘ putC w e)) = eAsr (one.map (putC w e)) := by simp [eAsr, Function.comp_def]
      rw [e4]
      refine same_refl 12 _ _ (wf_asr ⟨by have := s1.1; simp; omega, fun c hc => ?_⟩) rfl
      obtain ⟨d, hd, rfl⟩ := List.mem_map.mp hc
      have := s1.2 d hd
      simp [putC]
      omega
end Fn
end P_S_k04
section P_K_k04
set_option maxHeartbeats 0
namespace Fn
open PySem PySem.Spec PyProof.Rows L2
def topS (i : Nat) : Stmt := PySem.Challenge.pw_heapsplit_k04_assertions_made.main.body.getD i (.Pass ⟨0, 0, 0, 0⟩)
abbrev s__law_pool : Stmt := topS 6
theorem sc__law_pool : FnScope ["script", "salt", "cell"] ["script"] (defScope s__law_pool) := ⟨rfl, rfl, rfl, by decide +kernel, rfl, by decide +kernel, by decide +kernel⟩
abbrev s__law_same : Stmt := topS 14
theorem sc__law_same : FnScope ["actual", "due", "k"] ["actual", "due"] (defScope s__law_same) := ⟨rfl, rfl, rfl, by decide +kernel, rfl, by decide +kernel, by decide +kernel⟩
abbrev s__law_spread : Stmt := topS 7
theorem sc__law_spread : FnScope ["cell", "blended", "whole_sum", "k"] ["cell"] (defScope s__law_spread) := ⟨rfl, rfl, rfl, by decide +kernel, rfl, by decide +kernel, by decide +kernel⟩
abbrev s__law_draw : Stmt := topS 8
theorem sc__law_draw : FnScope ["pool", "many", "cell", "blended", "value"] ["pool", "many"] (defScope s__law_draw) := ⟨rfl, rfl, rfl, by decide +kernel, rfl, by decide +kernel, by decide +kernel⟩
abbrev s__law_pick : Stmt := topS 9
theorem sc__law_pick : FnScope ["pool", "items"] ["pool", "items"] (defScope s__law_pick) := ⟨rfl, rfl, rfl, by decide +kernel, rfl, by decide +kernel, by decide +kernel⟩
abbrev s__law_expression : Stmt := topS 10
theorem sc__law_expression : FnScope ["pool", "words"] ["pool", "words"] (defScope s__law_expression) := ⟨rfl, rfl, rfl, by decide +kernel, rfl, by decide +kernel, by decide +kernel⟩
abbrev s__law_fact : Stmt := topS 11
theorem sc__law_fact : FnScope ["pool", "words"] ["pool", "words"] (defScope s__law_fact) := ⟨rfl, rfl, rfl, by decide +kernel, rfl, by decide +kernel, by decide +kernel⟩
abbrev s__law_case : Stmt := topS 12
theorem sc__law_case : FnScope ["pool", "words", "facts", "atoms", "some", "rows", "k"] ["pool", "words", "facts", "atoms"] (defScope s__law_case) := ⟨rfl, rfl, rfl, by decide +kernel, rfl, by decide +kernel, by decide +kernel⟩
abbrev s__law_assertion : Stmt := topS 13
theorem sc__law_assertion : FnScope ["pool", "words", "cases", "facts", "atoms", "k"] ["pool", "words", "cases", "facts", "atoms"] (defScope s__law_assertion) := ⟨rfl, rfl, rfl, by decide +kernel, rfl, by decide +kernel, by decide +kernel⟩
abbrev s_put_for : Stmt := topS 4
theorem sc_put_for : FnScope ["assertion", "word", "expression", "found", "case", "parts", "rows", "row", "e"] ["assertion", "word", "expression"] (defScope s_put_for) := ⟨rfl, rfl, rfl, by decide +kernel, rfl, by decide +kernel, by decide +kernel⟩
abbrev s_star : Stmt := topS 1
theorem sc_star : FnScope ["one", "two", "left", "right"] ["one", "two"] (defScope s_star) := ⟨rfl, rfl, rfl, by decide +kernel, rfl, by decide +kernel, by decide +kernel⟩
abbrev s_with_fact : Stmt := topS 2
theorem sc_with_fact : FnScope ["assertion", "fact", "facts", "atoms"] ["assertion", "fact"] (defScope s_with_fact) := ⟨rfl, rfl, rfl, by decide +kernel, rfl, by decide +kernel, by decide +kernel⟩
abbrev s_opposite : Stmt := topS 3
theorem sc_opposite : FnScope ["fact"] ["fact"] (defScope s_opposite) := ⟨rfl, rfl, rfl, by decide +kernel, rfl, by decide +kernel, by decide +kernel⟩
abbrev s_law : Stmt := topS 15
theorem sc_law : FnScope ["script", "pool", "words", "one", "two", "fact", "due", "facts", "atoms", "turned", "word", "e", "case", "rows", "part", "other", "row"] ["script"] (defScope s_law) := ⟨rfl, rfl, rfl, by decide +kernel, rfl, by decide +kernel, by decide +kernel⟩
section
variable {P : Program} {w : World} {K : PySem.W.Frag} {mg : Str → Option Value} {base : Heap}
theorem ok__law_pool (B : Bi mg) (D : DefF K mg "_law_pool" s__law_pool ["script"]) : ∃ fA fd ps, FnOk P w K mg base L2.CX0 1 fA fd ps (spPool K) ∧ mg "_law_pool" = some (.ref fA) ∧ PySem.W.keepIn K (.ref fA) = true ∧ Binds K fd ps [] := by
  obtain ⟨f, fd, F, hm, hB⟩ := D
  refine ⟨f, fd, _, F.ok sc__law_pool (fun vs H Q E h => pool_len h) (fun cdv A outer s H vs Q E hr h => ?_), hm, F.kp, hB⟩
  exact ⟨t_pool K, PSs.nox (pss_cons (ps_set (i := 1) sc__law_pool.nd rfl (Or.inl rfl) pe_int)
    (pss_cons (ps_for PassesOwn.never rfl (pi_list (pe_slice sl_list (pv 0) po_none (po_some pe_int))) (pg_name (i := 2) sc__law_pool.nd rfl (Or.inl rfl))
      (pss_one (ps_set (i := 1) sc__law_pool.nd rfl (Or.inl rfl) (pe_op L2.op_mod (pe_callTy (call_int1) (by rfl) B.int (by decide +kernel) (pa_cons (pe_op op_add (pe_op op_mul (pv 1) pe_int) (pv 2)) pa_nil)) pe_int))))
    (pss_one (ps_ret (pe_lst (pa_cons (pe_callTy call_list_of (by rfl) B.list (by decide +kernel) (pa_cons (pv 0) pa_nil)) (pa_cons pe_int (pa_cons pe_int (pa_cons pe_int (pa_cons (pv 1) pa_nil)))))))))), pool_sem h⟩
theorem ok__law_same (B : Bi mg) (D : DefF K mg "_law_same" s__law_same ["actual", "due"])  : ∀ n, Call P w K mg base (0 + n) "_law_same" (m_l_same_bae6 n)
  | 0 => (Call.zero D).up (Nat.zero_le _)
  | n + 1 => by
    have h__law_same := ok__law_same B D  n
    exact Call.of (k := 0 + n) (fun i => false) D sc__law_same rfl rfl (by decide) (by decide) (fun f => (vss_cons (vs_if (VW.toT (vw_or (vt_val (ve_isi .tuple B.isinstance B.tuple (rr 1))) (vw_or1 (vt_val (ve_isi .list B.isinstance B.list (rr 1)))))) (vss_cons (vs_if (VW.toT (vw_or (vt_cmp od_ne (VE.toR (ve_isi .tuple B.isinstance B.tuple (rr 1))) (VE.toR (ve_isi .tuple B.isinstance B.tuple (rr 0))) (nomark _)) (vw_or1 (vt_cmp od_ne (VE.toR (ve_isi .list B.isinstance B.list (rr 1))) (VE.toR (ve_isi .list B.isinstance B.list (rr 0))) (nomark _))))) (vss_one (vs_ret ve_bl)) vss_nil) (vss_cons (vs_if (vt_cmp od_ne (VE.toR (ve_callB cd_len B.len (vra_cons (rr 0) vra_nil))) (VE.toR (ve_callB cd_len B.len (vra_cons (rr 1) vra_nil))) (nomark _)) (vss_one (vs_ret ve_bl)) vss_nil) (vss_one (vs_ret (ve_cmp od_eq (VE.toR (ve_callB cd_len B.len (vra_cons (VE.toR (VF.toE (vf_lcN (own := [("k", 2)]) sc__law_same.nd (VI.toR (vi_range1 B.range (VE.toR (ve_callB cd_len B.len (vra_cons (rr 1) vra_nil))))) (fun _ => blkOk_by (by rfl)) (gg 2 sc__law_same.nd) (by decide) (vts_one (vt_not (vt_val (ve_cl (hr := Nat.le_refl _) h__law_same (va_cons (ve_ix xd_ix (rr 0) (rr 2)) (va_cons (ve_ix xd_ix (rr 1) (rr 2)) va_nil)))))) (vc_el (vv 2)) (by decide)))) vra_nil))) (VE.toR ve_int) (nomark _)))))) vss_nil) (vss_cons (vs_if (vt_cmp od_is (rr 1) (VE.toR ve_non) (nomark _)) (vss_one (vs_ret (ve_cmp od_is (rr 0) (VE.toR ve_non) (nomark _)))) vss_nil) (vss_cons (vs_if (VW.toT (vw_or (vt_val (ve_isi .bool B.isinstance B.bool (rr 1))) (vw_or1 (vt_val (ve_isi .bool B.isinstance B.bool (rr 0)))))) (vss_one (vs_ret (ve_and (ve_isi .bool B.isinstance B.bool (rr 1)) (ve_and (ve_isi .bool B.isinstance B.bool (rr 0)) (ve_one (ve_cmp od_eq (rr 0) (rr 1) (nomark _))))))) vss_nil) (vss_cons (vs_if (vt_val (ve_isi .int B.isinstance B.int (rr 1))) (vss_one (vs_ret (ve_and (ve_isi .int B.isinstance B.int (rr 0)) (ve_one (ve_cmp od_eq (rr 0) (rr 1) (nomark _)))))) vss_nil) (vss_one (vs_ret (ve_and (ve_isi .str B.isinstance B.str (rr 0)) (ve_one (ve_cmp od_eq (rr 0) (rr 1) (nomark _)))))))))))
theorem ok__law_spread (B : Bi mg) (D : DefF K mg "_law_spread" s__law_spread ["cell"])  : Call P w K mg base 1 "_law_spread" m_l_spread_2596 := Call.of (k := 0) (fun i => false) D sc__law_spread rfl rfl (by decide) (by decide) (fun f =>
  (vss_cons (vs_s 1 sc__law_spread.nd (ve_bin od_mod (VE.toR (ve_callT cd_int B.int (vra_cons (rr 0) vra_nil))) (VE.toR ve_int))) (vss_cons (vs_s 2 sc__law_spread.nd ve_int) (vss_cons (vs_for (vi_range1 B.range (VE.toR ve_int)) (gg 3 sc__law_spread.nd) (vss_cons (vs_s 1 sc__law_spread.nd (ve_bin od_mod (VE.toR (ve_callT cd_int B.int (vra_cons (VE.toR (ve_bin od_add (VE.toR (ve_bin od_add (VE.toR (ve_bin od_mul (rr 1) (VE.toR ve_int))) (VE.toR ve_int))) (rr 3))) vra_nil))) (VE.toR ve_int))) (vss_one (vs_s 2 sc__law_spread.nd (ve_bin od_add (VE.toR (ve_bin od_mul (rr 2) (VE.toR ve_int))) (rr 1)))))) (vss_one (vs_ret (vv 2)))))))
theorem ok__law_draw {g : GA} (B : Bi mg) (D : DefF K mg "_law_draw" s__law_draw ["pool", "many"]) (hS : Call P w K mg base 1 "_law_spread" g) (hg : ∀ c R, (∀ n, R (.int n)) → g [.int c] R) : Call P w K mg base 2 "_law_draw" fDraw := by
  obtain ⟨f, fd, F, hm, hB⟩ := D
  obtain ⟨fS, fdS, psS, GS, hmS, kpS, bS⟩ := hS
  refine ⟨f, fd, _, F.ok sc__law_draw (fun vs H Q E h => draw_len h) (fun cdv A outer s H vs Q E hr h => ?_), hm, F.kp, hB⟩
  exact ⟨t_draw K g, PSs.nox (pss_cons (ps_if (PW.pt (pw_and (pt_cmpR op_le (pe_ix ix_list (pv 0) pe_int (fun _ _ => rfl)) pe_int (nomark _)) (pw_and1 (pt_cmpR op_lt (pe_ix ix_list (pv 0) pe_int (fun _ _ => rfl)) (pe_callB call_len_seq (by rfl) B.len PySem.boot_len (pa_cons (pe_ix ix_list (pv 0) pe_int (fun _ _ => rfl)) pa_nil)) (nomark _)))))
        (pss_cons (ps_set (i := 2) sc__law_draw.nd rfl (Or.inl rfl) (pe_ix ix_list (pe_ix ix_list (pv 0) pe_int (fun _ _ => rfl)) (pe_ix ix_list (pv 0) pe_int (fun _ _ => rfl)) (fun _ _ => rfl)))
        (pss_cons (ps_asg (pe_op op_add (pe_ix ix_list (pv 0) pe_int (fun _ _ => rfl)) pe_int) (pg_sub (pv 0) pe_int set_list))
        (pss_cons (ps_asg (pv 2) (pg_sub (pv 0) pe_int set_list))
        (pss_one (ps_if (pt_cmpR op_lt (pv 2) pe_int (nomark _)) (pss_one (ps_asg (pe_call GS hr (by rfl) hmS kpS bS .nil pass0 (pa_cons (pv 2) pa_nil)) (pg_sub (pv 0) pe_int set_list))) pss_nil))))) pss_nil)
      (pss_cons (ps_asg (pe_op op_add (pe_ix ix_list (pv 0) pe_int (fun _ _ => rfl)) pe_int) (pg_sub (pv 0) pe_int set_list))
      (pss_cons (ps_if (pt_cmpR op_le (pe_ix ix_list (pv 0) pe_int (fun _ _ => rfl)) pe_int (nomark _))
        (pss_cons (ps_set (i := 3) sc__law_draw.nd rfl (Or.inl rfl) (pe_op L2.op_mod (pe_callTy (call_int1) (by rfl) B.int (by decide +kernel) (pa_cons (pe_op op_add (pe_op op_add (pe_op op_mul (pe_ix ix_list (pv 0) pe_int (fun _ _ => rfl)) pe_int) (pe_op op_mul (pe_ix ix_list (pv 0) pe_int (fun _ _ => rfl)) pe_int)) pe_int) pa_nil)) pe_int))
        (pss_cons (ps_set (i := 3) sc__law_draw.nd rfl (Or.inl rfl) (pe_op L2.op_mod (pe_callTy (call_int1) (by rfl) B.int (by decide +kernel) (pa_cons (pe_op op_add (pe_op op_mul (pv 3) pe_int) (pe_ix ix_list (pv 0) pe_int (fun _ _ => rfl))) pa_nil)) pe_int))
        (pss_one (ps_ret (pe_op L2.op_mod (pe_op op_fdiv (pv 3) pe_int) (pv 1))))))
        pss_nil)
      (pss_cons (ps_set (i := 4) sc__law_draw.nd rfl (Or.inl rfl) (pe_op L2.op_mod (pe_callTy (call_int1) (by rfl) B.int (by decide +kernel) (pa_cons (pe_ix ix_list (pv 0) pe_int (fun _ _ => rfl)) pa_nil)) (pv 1)))
      (pss_cons (ps_asg (pe_op op_fdiv (pe_ix ix_list (pv 0) pe_int (fun _ _ => rfl)) (pv 1)) (pg_sub (pv 0) pe_int set_list))
      (pss_one (ps_ret (pv 4)))))))), draw_sem hg h⟩
theorem ok__law_pick (B : Bi mg) (D : DefF K mg "_law_pick" s__law_pick ["pool", "items"]) (h__law_draw : Call P w K mg base 2 "_law_draw" fDraw) : Call P w K mg base 3 "_law_pick" m_l_pick_491d := Call.of (k := 2) (fun i => false) D sc__law_pick rfl rfl (by decide) (by decide) (fun f =>
  (vss_one (vs_ret (ve_ix xd_ix (rr 1) (VE.toR (ve_cl h__law_draw (va_cons (vv 0) (va_cons (ve_callB cd_len B.len (vra_cons (rr 1) vra_nil)) va_nil))))))))
theorem ok__law_expression (B : Bi mg) (D : DefF K mg "_law_expression" s__law_expression ["pool", "words"]) (h__law_draw : Call P w K mg base 2 "_law_draw" fDraw) (h__law_pick : Call P w K mg base 3 "_law_pick" m_l_pick_491d) : Call P w K mg base 4 "_law_expression" m_l_expression_45ac := Call.of (k := 3) (fun i => false) D sc__law_expression rfl rfl (by decide) (by decide) (fun f =>
  (vss_one (vs_ret (ve_if (vt_cmp od_eq (VE.toR (ve_cl h__law_draw (va_cons (vv 0) (va_cons ve_int va_nil)))) (VE.toR ve_int) (nomark _)) ve_str (ve_cl h__law_pick (va_cons (vv 0) (va_cons (vv 1) va_nil)))))))
theorem ok__law_fact (B : Bi mg) (D : DefF K mg "_law_fact" s__law_fact ["pool", "words"]) (h__law_expression : Call P w K mg base 4 "_law_expression" m_l_expression_45ac) (h__law_pick : Call P w K mg base 3 "_law_pick" m_l_pick_491d) : Call P w K mg base 5 "_law_fact" m_l_fact_d440 := Call.of (k := 4) (fun i => false) D sc__law_fact rfl rfl (by decide) (by decide) (fun f =>
  (vss_one (vs_ret (ve_tup (va_cons (ve_cl h__law_pick (va_cons (vv 0) (va_cons (VF.toE (vf_lst (va_cons ve_str (va_cons ve_str (va_cons ve_str va_nil))))) va_nil))) (va_cons (ve_cl h__law_pick (va_cons (vv 0) (va_cons (vv 1) va_nil))) (va_cons (ve_cl h__law_expression (va_cons (vv 0) (va_cons (vv 1) va_nil))) va_nil)))))))
theorem ok__law_case (B : Bi mg) (D : DefF K mg "_law_case" s__law_case ["pool", "words", "facts", "atoms"]) (h__law_draw : Call P w K mg base 2 "_law_draw" fDraw) (h__law_expression : Call P w K mg base 4 "_law_expression" m_l_expression_45ac) (h__law_fact : Call P w K mg base 5 "_law_fact" m_l_fact_d440) (h__law_pick : Call P w K mg base 3 "_law_pick" m_l_pick_491d) : Call P w K mg base 6 "_law_case" m_l_case_7e14 := Call.of (k := 5) (fun i => false) D sc__law_case rfl rfl (by decide) (by decide) (fun f =>
  (vss_cons (vs_s 4 sc__law_case.nd (ve_callT cd_tuple B.tuple (vra_cons (VE.toR (VF.toE (vf_lcN (own := [("k", 6)]) sc__law_case.nd (VI.toR (vi_range1 B.range (VE.toR (ve_cl h__law_draw (va_cons (vv 0) (va_cons (ve_bin od_add (rr 2) (VE.toR ve_int)) va_nil)))))) (fun _ => blkOk_by (by rfl)) (gg 6 sc__law_case.nd) (by decide) vts_nil (vc_el (ve_cl h__law_fact (va_cons (vv 0) (va_cons (vv 1) va_nil)))) (by decide)))) vra_nil))) (vss_cons (vs_sLc 5 (own := [("k", 6)]) sc__law_case.nd (VI.toR (vi_range1 B.range (VE.toR (ve_cl h__law_draw (va_cons (vv 0) (va_cons (ve_bin od_add (rr 3) (VE.toR ve_int)) va_nil)))))) (fun _ => blkOk_by (by rfl)) (gg 6 sc__law_case.nd) (by decide) vts_nil (vc_el (ve_tup (va_cons (ve_cl h__law_pick (va_cons (vv 0) (va_cons (VF.toE (vf_lst (va_cons ve_str (va_cons ve_str (va_cons ve_str va_nil))))) va_nil))) (va_cons (ve_cl h__law_pick (va_cons (vv 0) (va_cons (vv 1) va_nil))) (va_cons (ve_cl h__law_expression (va_cons (vv 0) (va_cons (vv 1) va_nil))) va_nil))))) (by decide)) (vss_one (vs_ret (ve_tup (va_cons (vv 4) (va_cons (ve_callT cd_tuple B.tuple (vra_cons (rr 5) vra_nil)) va_nil))))))))
theorem ok__law_assertion (B : Bi mg) (D : DefF K mg "_law_assertion" s__law_assertion ["pool", "words", "cases", "facts", "atoms"]) (h__law_case : Call P w K mg base 6 "_law_case" m_l_case_7e14) (h__law_draw : Call P w K mg base 2 "_law_draw" fDraw) : Call P w K mg base 7 "_law_assertion" m_l_assertion_f77c := Call.of (k := 6) (fun i => false) D sc__law_assertion rfl rfl (by decide) (by decide) (fun f =>
  (vss_one (vs_ret (ve_callT cd_tuple B.tuple (vra_cons (VE.toR (VF.toE (vf_lcN (own := [("k", 5)]) sc__law_assertion.nd (VI.toR (vi_range1 B.range (VE.toR (ve_bin od_add (VE.toR ve_int) (VE.toR (ve_cl h__law_draw (va_cons (vv 0) (va_cons (ve_bin od_add (rr 2) (VE.toR ve_int)) va_nil)))))))) (fun _ => blkOk_by (by rfl)) (gg 5 sc__law_assertion.nd) (by decide) vts_nil (vc_el (ve_cl h__law_case (va_cons (vv 0) (va_cons (vv 1) (va_cons (vv 3) (va_cons (vv 4) va_nil)))))) (by decide)))) vra_nil)))))
theorem ok_put_for (B : Bi mg) (D : DefF K mg "put_for" s_put_for ["assertion", "word", "expression"])  : Call P w K mg base 1 "put_for" m_put_for_8fd2 := Call.of (k := 0) (fun i => i == 3 || i == 5) D sc_put_for rfl rfl (by decide) (by decide) (fun f =>
  (vss_cons (vs_sO 3 sc_put_for.nd (vf_lst va_nil)) (vss_cons (vs_for (vi_seq (vv 0)) (gg 4 sc_put_for.nd) (vss_cons (vs_sO 5 sc_put_for.nd (vf_lst va_nil)) (vss_cons (vs_for (vi_seq (vv 4)) (gg 6 sc_put_for.nd) (vss_one (vs_ap 5 (ve_callT cd_tuple B.tuple (vra_cons (VE.toR (VF.toE (vf_lcN (own := [("row", 7)]) sc_put_for.nd (vir_seq (rr 6)) (fun _ => blkOk_by (by rfl)) (gg 7 sc_put_for.nd) (by decide) vts_nil (vc_el (ve_bin od_add (VE.toR (ve_tup (va_cons (ve_ix xd_ix (rr 7) (VE.toR ve_int)) va_nil))) (VE.toR (ve_callT cd_tuple B.tuple (vra_cons (VE.toR (VF.toE (vf_lcN (own := [("e", 8)]) sc_put_for.nd (vir_seq (VE.toR (ve_sl (rr 7) (vo_some (VE.toR ve_int)) vo_none))) (fun _ => blkOk_by (by rfl)) (gg 8 sc_put_for.nd) (by decide) vts_nil (vc_el (ve_if (vt_cmp od_eq (rr 8) (rr 1) (nomark _)) (vv 2) (vv 8))) (by decide)))) vra_nil))))) (by decide)))) vra_nil))))) (vss_one (vs_ap 3 (ve_callT cd_tuple B.tuple (vra_cons (rr 5) vra_nil))))))) (vss_one (vs_ret (ve_callT cd_tuple B.tuple (vra_cons (rr 3) vra_nil)))))))
theorem ok_star (B : Bi mg) (D : DefF K mg "star" s_star ["one", "two"])  : Call P w K mg base 1 "star" m_star_7b80 := Call.of (k := 0) (fun i => false) D sc_star rfl rfl (by decide) (by decide) (fun f =>
  (vss_one (vs_ret (ve_callT cd_tuple B.tuple (vra_cons (VE.toR (VF.toE (vf_lcN (own := [("left", 2), ("right", 3)]) sc_star.nd (vir_seq (rr 0)) (fun _ => blkOk_by (by rfl)) (gg 2 sc_star.nd) (by decide) vts_nil (vc_cl [3] (vi_seq (vv 1)) (gg 3 sc_star.nd) vts_nil (vc_el (ve_tup (va_cons (ve_bin od_add (VE.toR (ve_ix xd_ix (rr 2) (VE.toR ve_int))) (VE.toR (ve_ix xd_ix (rr 3) (VE.toR ve_int)))) (va_cons (ve_bin od_add (VE.toR (ve_ix xd_ix (rr 2) (VE.toR ve_int))) (VE.toR (ve_ix xd_ix (rr 3) (VE.toR ve_int)))) va_nil)))) (by decide) (by decide)) (by decide)))) vra_nil)))))
theorem ok_with_fact (B : Bi mg) (D : DefF K mg "with_fact" s_with_fact ["assertion", "fact"])  : Call P w K mg base 1 "with_fact" m_with_fact_2df9 := Call.of (k := 0) (fun i => false) D sc_with_fact rfl rfl (by decide) (by decide) (fun f =>
  (vss_one (vs_ret (ve_callT cd_tuple B.tuple (vra_cons (VE.toR (VF.toE (vf_lcN (own := [("facts", 2), ("atoms", 3)]) sc_with_fact.nd (vir_seq (rr 0)) (fun _ => blkOk_by (by rfl)) (vg_tup (vgs_cons (gg 2 sc_with_fact.nd) (vgs_cons (gg 3 sc_with_fact.nd) vgs_nil)) 2 (gsl_name (gsl_name gsl_nil))) (by decide) vts_nil (vc_el (ve_tup (va_cons (ve_bin od_add (rr 2) (VE.toR (ve_tup (va_cons (vv 1) va_nil)))) (va_cons (vv 3) va_nil)))) (by decide)))) vra_nil)))))
theorem ok_opposite (B : Bi mg) (D : DefF K mg "opposite" s_opposite ["fact"])  : Call P w K mg base 1 "opposite" m_opposite_f29a := Call.of (k := 0) (fun i => false) D sc_opposite rfl rfl (by decide) (by decide) (fun f =>
  (vss_one (vs_ret (ve_bin od_add (VE.toR (ve_tup (va_cons (ve_if (vt_cmp od_eq (VE.toR (ve_ix xd_ix (rr 0) (VE.toR ve_int))) (VE.toR ve_str) (nomark _)) ve_str ve_str) va_nil))) (VE.toR (ve_sl (rr 0) (vo_some (VE.toR ve_int)) vo_none))))))
theorem ok_law {f : Addr} {fd : FuncData} (B : Bi mg) (F : FunD K "law" "law" (defArgs s_law) (defBody s_law) (defScope s_law) [] [] f fd) (h__law_assertion : Call P w K mg base 7 "_law_assertion" m_l_assertion_f77c) (h__law_expression : Call P w K mg base 4 "_law_expression" m_l_expression_45ac) (h__law_fact : Call P w K mg base 5 "_law_fact" m_l_fact_d440) (h__law_pick : Call P w K mg base 3 "_law_pick" m_l_pick_491d) (h__law_same : Call P w K mg base 12 "_law_same" (m_l_same_bae6 12)) (h_opposite : Call P w K mg base 1 "opposite" m_opposite_f29a) (h_put_for : Call P w K mg base 1 "put_for" m_put_for_8fd2) (h_star : Call P w K mg base 1 "star" m_star_7b80) (h_with_fact : Call P w K mg base 1 "with_fact" m_with_fact_2df9) (hP : ∃ fA fd ps, FnOk P w K mg base L2.CX0 1 fA fd ps (spPool K) ∧ mg "_law_pool" = some (.ref fA) ∧ PySem.W.keepIn K (.ref fA) = true ∧ Binds K fd ps [])
    (HP : m_law_460c poT (none :: some .pool :: List.replicate 15 none)) : FnOk P w K mg base L2.CX0 (12 + 1) f fd ["script"] (spLaw K) := by
  obtain ⟨fP, fdP, psP, GP, hmP, kpP, bP⟩ := hP
  exact law_ok (k := 12) (O := fun i => i == 6 || i == 13) F sc_law rfl rfl rfl (fun z => ps_asg (pe_call GP (z.hr.mono (by decide)) (by rfl) hmP kpP bP .nil pass0 (pa_cons (pv 0) pa_nil)) (pg_name (i := 1) sc_law.nd rfl (Or.inl rfl)))
    ((vss_cons (vs_s 2 sc_law.nd (VF.toE (vf_lst (va_cons ve_str (va_cons ve_str (va_cons ve_str va_nil)))))) (vss_cons (vs_asg (ve_tup (va_cons (ve_cl h__law_assertion (va_cons (vv 1) (va_cons (vv 2) (va_cons ve_int (va_cons ve_int (va_cons ve_int va_nil)))))) (va_cons (ve_cl h__law_assertion (va_cons (vv 1) (va_cons (vv 2) (va_cons ve_int (va_cons ve_int (va_cons ve_int va_nil)))))) (va_cons (ve_cl h__law_fact (va_cons (vv 1) (va_cons (vv 2) va_nil))) va_nil)))) (vg_tup (vgs_cons (gg 3 sc_law.nd) (vgs_cons (gg 4 sc_law.nd) (vgs_cons (gg 5 sc_law.nd) vgs_nil))) 3 (gsl_name (gsl_name (gsl_name gsl_nil))))) (vss_cons (vs_sO 6 sc_law.nd (vf_lst va_nil)) (vss_cons (vs_for (vi_seq (vv 3)) (vg_tup (vgs_cons (gg 7 sc_law.nd) (vgs_cons (gg 8 sc_law.nd) vgs_nil)) 2 (gsl_name (gsl_name gsl_nil))) (vss_one (vs_sO 6 sc_law.nd (vf_cat (rr 6) (VE.toR (VF.toE (vf_lcN (own := [("other", 15)]) sc_law.nd (vir_seq (rr 4)) (fun _ => blkOk_by (by rfl)) (gg 15 sc_law.nd) (by decide) vts_nil (vc_el (ve_tup (va_cons (ve_bin od_add (rr 7) (VE.toR (ve_ix xd_ix (rr 15) (VE.toR ve_int)))) (va_cons (ve_bin od_add (rr 8) (VE.toR (ve_ix xd_ix (rr 15) (VE.toR ve_int)))) va_nil)))) (by decide)))))))) (vss_cons (vs_if (vt_not (vt_val (ve_cl h__law_same (va_cons (VF.toE (vf_lst (va_cons (ve_cl h_star (va_cons (vv 3) (va_cons (vv 4) va_nil))) (va_cons (ve_cl h_star (va_cons (vv 3) (va_cons (ve_tup va_nil) va_nil))) (va_cons (ve_cl h_star (va_cons (ve_tup va_nil) (va_cons (vv 4) va_nil))) va_nil))))) (va_cons (VF.toE (vf_lst (va_cons (ve_callT cd_tuple B.tuple (vra_cons (rr 6) vra_nil)) (va_cons (ve_tup va_nil) (va_cons (ve_tup va_nil) va_nil))))) va_nil))))) (vss_one (vs_ret ve_bl)) vss_nil) (vss_cons (vs_if (vt_not (vt_val (ve_cl h__law_same (va_cons (VF.toE (vf_lst (va_cons (ve_cl h_with_fact (va_cons (vv 3) (va_cons (vv 5) va_nil))) (va_cons (ve_cl h_with_fact (va_cons (ve_tup va_nil) (va_cons (vv 5) va_nil))) va_nil)))) (va_cons (VF.toE (vf_lst (va_cons (ve_callT cd_tuple B.tuple (vra_cons (VE.toR (VF.toE (vf_lcN (own := [("facts", 7), ("atoms", 8)]) sc_law.nd (vir_seq (rr 3)) (fun _ => blkOk_by (by rfl)) (vg_tup (vgs_cons (gg 7 sc_law.nd) (vgs_cons (gg 8 sc_law.nd) vgs_nil)) 2 (gsl_name (gsl_name gsl_nil))) (by decide) vts_nil (vc_el (ve_tup (va_cons (ve_bin od_add (rr 7) (VE.toR (ve_tup (va_cons (vv 5) va_nil)))) (va_cons (vv 8) va_nil)))) (by decide)))) vra_nil)) (va_cons (ve_tup va_nil) va_nil)))) va_nil))))) (vss_one (vs_ret ve_bl)) vss_nil) (vss_cons (vs_s 9 sc_law.nd (ve_tup (va_cons (ve_if (vt_cmp od_eq (VE.toR (ve_ix xd_ix (rr 5) (VE.toR ve_int))) (VE.toR ve_str) (nomark _)) ve_str ve_str) (va_cons (ve_ix xd_ix (rr 5) (VE.toR ve_int)) (va_cons (ve_ix xd_ix (rr 5) (VE.toR ve_int)) va_nil))))) (vss_cons (vs_if (vt_not (vt_val (ve_cl h__law_same (va_cons (VF.toE (vf_lst (va_cons (ve_cl h_opposite (va_cons (vv 5) va_nil)) (va_cons (ve_cl h_opposite (va_cons (vv 9) va_nil)) va_nil)))) (va_cons (VF.toE (vf_lst (va_cons (vv 9) (va_cons (vv 5) va_nil)))) va_nil))))) (vss_one (vs_ret ve_bl)) vss_nil) (vss_cons (vs_parT (vp_cons 10 (ve_cl h__law_pick (va_cons (vv 1) (va_cons (ve_bin od_add (rr 2) (VE.toR (VF.toE (vf_lst (va_cons ve_str va_nil))))) va_nil))) (vp_cons 11 (ve_cl h__law_expression (va_cons (vv 1) (va_cons (vv 2) va_nil))) (vp_own 6 (vf_lst va_nil) vp_nil))) (vn_cons 10 sc_law.nd (vn_cons 11 sc_law.nd (vn_cons 6 sc_law.nd vn_nil)))) (vss_cons (vs_for (vi_seq (vv 3)) (gg 12 sc_law.nd) (vss_cons (vs_sO 13 sc_law.nd (vf_lst va_nil)) (vss_cons (vs_for (vi_seq (vv 12)) (gg 14 sc_law.nd) (vss_one (vs_ap 13 (ve_callT cd_tuple B.tuple (vra_cons (VE.toR (VF.toE (vf_lcN (own := [("row", 16)]) sc_law.nd (vir_seq (rr 14)) (fun _ => blkOk_by (by rfl)) (gg 16 sc_law.nd) (by decide) vts_nil (vc_el (ve_tup (va_cons (ve_ix xd_ix (rr 16) (VE.toR ve_int)) (va_cons (ve_if (vt_cmp od_eq (VE.toR (ve_ix xd_ix (rr 16) (VE.toR ve_int))) (rr 10) (nomark _)) (vv 11) (ve_ix xd_ix (rr 16) (VE.toR ve_int))) (va_cons (ve_if (vt_cmp od_eq (VE.toR (ve_ix xd_ix (rr 16) (VE.toR ve_int))) (rr 10) (nomark _)) (vv 11) (ve_ix xd_ix (rr 16) (VE.toR ve_int))) va_nil))))) (by decide)))) vra_nil))))) (vss_one (vs_ap 6 (ve_callT cd_tuple B.tuple (vra_cons (rr 13) vra_nil))))))) (vss_one (vs_ret (ve_cl h__law_same (va_cons (ve_cl h_put_for (va_cons (vv 3) (va_cons (vv 10) (va_cons (vv 11) va_nil)))) (va_cons (ve_callT cd_tuple B.tuple (vra_cons (rr 6) vra_nil)) va_nil)))))))))))))))) HP
end
end Fn
end P_K_k04
section P_H_k04
set_option maxHeartbeats 0
namespace Fn
open PySem PySem.Spec PyProof.Rows L2
def d__law_pool : He.DefD := ⟨("_law_pool", none), "_law_pool", "_law_pool", defArgs s__law_pool, defBody s__law_pool, defScope s__law_pool, [], []⟩
def d__law_same : He.DefD := ⟨("_law_same", none), "_law_same", "_law_same", defArgs s__law_same, defBody s__law_same, defScope s__law_same, [], []⟩
def d__law_spread : He.DefD := ⟨("_law_spread", none), "_law_spread", "_law_spread", defArgs s__law_spread, defBody s__law_spread, defScope s__law_spread, [], []⟩
def d__law_draw : He.DefD := ⟨("_law_draw", none), "_law_draw", "_law_draw", defArgs s__law_draw, defBody s__law_draw, defScope s__law_draw, [], []⟩
def d__law_pick : He.DefD := ⟨("_law_pick", none), "_law_pick", "_law_pick", defArgs s__law_pick, defBody s__law_pick, defScope s__law_pick, [], []⟩
def d__law_expression : He.DefD := ⟨("_law_expression", none), "_law_expression", "_law_expression", defArgs s__law_expression, defBody s__law_expression, defScope s__law_expression, [], []⟩
def d__law_fact : He.DefD := ⟨("_law_fact", none), "_law_fact", "_law_fact", defArgs s__law_fact, defBody s__law_fact, defScope s__law_fact, [], []⟩
def d__law_case : He.DefD := ⟨("_law_case", none), "_law_case", "_law_case", defArgs s__law_case, defBody s__law_case, defScope s__law_case, [], []⟩
def d__law_assertion : He.DefD := ⟨("_law_assertion", none), "_law_assertion", "_law_assertion", defArgs s__law_assertion, defBody s__law_assertion, defScope s__law_assertion, [], []⟩
def d_put_for : He.DefD := ⟨("put_for", none), "put_for", "put_for", defArgs s_put_for, defBody s_put_for, defScope s_put_for, [], []⟩
def d_star : He.DefD := ⟨("star", none), "star", "star", defArgs s_star, defBody s_star, defScope s_star, [], []⟩
def d_with_fact : He.DefD := ⟨("with_fact", none), "with_fact", "with_fact", defArgs s_with_fact, defBody s_with_fact, defScope s_with_fact, [], []⟩
def d_opposite : He.DefD := ⟨("opposite", none), "opposite", "opposite", defArgs s_opposite, defBody s_opposite, defScope s_opposite, [], []⟩
def d_law : He.DefD := ⟨("law", none), "law", "law", defArgs s_law, defBody s_law, defScope s_law, [], []⟩
def fn : List He.DefD := [d__law_pool, d__law_same, d__law_spread, d__law_draw, d__law_pick, d__law_expression, d__law_fact, d__law_case, d__law_assertion, d_put_for, d_star, d_with_fact, d_opposite, d_law]
def fa : List He.Fa := [.glo "_law_pool", .glo "_law_same", .glo "_law_spread", .glo "_law_draw", .glo "_law_pick", .glo "_law_expression", .glo "_law_fact", .glo "_law_case", .glo "_law_assertion", .glo "put_for", .glo "star", .glo "with_fact", .glo "opposite", .glo "law", .free "len", .free "tuple", .free "list", .free "all", .free "any", .free "int", .free "isinstance", .free "range", .free "sorted", .free "max", .free "min", .free "dict", .free "enumerate", .free "zip", .free "str", .free "repr", .free "bool"]
abbrev R : PySem.W.OpenRow := PySem.W.OpenLaw.row PySem.Challenge.rw_heapsplit_k04_assertions_made
abbrev hk : PySem.W.Hook := He.hookD 4 fa fn
def ob (s : PySem.W.SharedT) : He.AlD := He.obsDG 4 fa fn (HandSHeadRun.getT s)
theorem ob_eq (s : PySem.W.SharedT) : ob s = hk.obs s.abs := He.obsDG_eq (HandSHeadRun.getT_eq s)
def loose : List Str := ["star", "with_fact", "opposite", "put_for", "_law_pool", "_law_spread", "_law_draw", "_law_pick", "_law_expression", "_law_fact", "_law_case", "_law_assertion", "_law_same"]
theorem run (w : World) : HandSHeadRun.RunEq R (PySem.W.view R.prog [15]) hk ob 1000 loose w := by
  intro os
  kernel_rfl
theorem facts {P : Program} {w : World} {K : PySem.W.Frag} {h : Heap} {mg : Str → Option Value} {f : Addr} (HP : m_law_460c poT (none :: some .pool :: List.replicate 15 none)) (X : K.In h) (G : h.Ns mainGlobals mg) (hfa : mg ("law" : Str) = some (.ref f)) (c : He.SaysD fa fn K) :
    ∃ fd : FuncData, (∀ (s : Shared) (v : Value), BindsTo s fd ⟨[v], []⟩ [("script", v)]) ∧ ∀ base : Heap, K.In base → base.Ns mainGlobals mg → FnOk P w K mg base CX0 13 f fd ["script"] (spLaw K) := by
  obtain ⟨fd, F⟩ := c.def_ 13 (d := d_law) rfl
  have e := hfa.symm.trans (He.glo_ok X G (c.fact 13 (f := .glo "law") rfl))
  cases e
  have b := FunD.bindsA (ps := ["script"]) F fun _ _ _ _ _ _ us hl => match us, hl with | [_], _ => rfl
  obtain ⟨f__law_pool, F__law_pool⟩ := c.def_ 0 (d := d__law_pool) rfl
  obtain ⟨f__law_same, F__law_same⟩ := c.def_ 1 (d := d__law_same) rfl
  obtain ⟨f__law_spread, F__law_spread⟩ := c.def_ 2 (d := d__law_spread) rfl
  obtain ⟨f__law_draw, F__law_draw⟩ := c.def_ 3 (d := d__law_draw) rfl
  obtain ⟨f__law_pick, F__law_pick⟩ := c.def_ 4 (d := d__law_pick) rfl
  obtain ⟨f__law_expression, F__law_expression⟩ := c.def_ 5 (d := d__law_expression) rfl
  obtain ⟨f__law_fact, F__law_fact⟩ := c.def_ 6 (d := d__law_fact) rfl
  obtain ⟨f__law_case, F__law_case⟩ := c.def_ 7 (d := d__law_case) rfl
  obtain ⟨f__law_assertion, F__law_assertion⟩ := c.def_ 8 (d := d__law_assertion) rfl
  obtain ⟨f_put_for, F_put_for⟩ := c.def_ 9 (d := d_put_for) rfl
  obtain ⟨f_star, F_star⟩ := c.def_ 10 (d := d_star) rfl
  obtain ⟨f_with_fact, F_with_fact⟩ := c.def_ 11 (d := d_with_fact) rfl
  obtain ⟨f_opposite, F_opposite⟩ := c.def_ 12 (d := d_opposite) rfl
  have D__law_pool : DefF K mg "_law_pool" s__law_pool ["script"] := ⟨_, _, F__law_pool, He.glo_ok X G (c.fact 0 (f := .glo "_law_pool") rfl), F__law_pool.bindsN fun _ _ _ _ _ _ us hl => match us, hl with | [_], _ => rfl⟩
  have D__law_same : DefF K mg "_law_same" s__law_same ["actual", "due"] := ⟨_, _, F__law_same, He.glo_ok X G (c.fact 1 (f := .glo "_law_same") rfl), F__law_same.bindsN fun _ _ _ _ _ _ us hl => match us, hl with | [_, _], _ => rfl⟩
  have D__law_spread : DefF K mg "_law_spread" s__law_spread ["cell"] := ⟨_, _, F__law_spread, He.glo_ok X G (c.fact 2 (f := .glo "_law_spread") rfl), F__law_spread.bindsN fun _ _ _ _ _ _ us hl => match us, hl with | [_], _ => rfl⟩
  have D__law_draw : DefF K mg "_law_draw" s__law_draw ["pool", "many"] := ⟨_, _, F__law_draw, He.glo_ok X G (c.fact 3 (f := .glo "_law_draw") rfl), F__law_draw.bindsN fun _ _ _ _ _ _ us hl => match us, hl with | [_, _], _ => rfl⟩
  have D__law_pick : DefF K mg "_law_pick" s__law_pick ["pool", "items"] := ⟨_, _, F__law_pick, He.glo_ok X G (c.fact 4 (f := .glo "_law_pick") rfl), F__law_pick.bindsN fun _ _ _ _ _ _ us hl => match us, hl with | [_, _], _ => rfl⟩
  have D__law_expression : DefF K mg "_law_expression" s__law_expression ["pool", "words"] := ⟨_, _, F__law_expression, He.glo_ok X G (c.fact 5 (f := .glo "_law_expression") rfl), F__law_expression.bindsN fun _ _ _ _ _ _ us hl => match us, hl with | [_, _], _ => rfl⟩
  have D__law_fact : DefF K mg "_law_fact" s__law_fact ["pool", "words"] := ⟨_, _, F__law_fact, He.glo_ok X G (c.fact 6 (f := .glo "_law_fact") rfl), F__law_fact.bindsN fun _ _ _ _ _ _ us hl => match us, hl with | [_, _], _ => rfl⟩
  have D__law_case : DefF K mg "_law_case" s__law_case ["pool", "words", "facts", "atoms"] := ⟨_, _, F__law_case, He.glo_ok X G (c.fact 7 (f := .glo "_law_case") rfl), F__law_case.bindsN fun _ _ _ _ _ _ us hl => match us, hl with | [_, _, _, _], _ => rfl⟩
  have D__law_assertion : DefF K mg "_law_assertion" s__law_assertion ["pool", "words", "cases", "facts", "atoms"] := ⟨_, _, F__law_assertion, He.glo_ok X G (c.fact 8 (f := .glo "_law_assertion") rfl), F__law_assertion.bindsN fun _ _ _ _ _ _ us hl => match us, hl with | [_, _, _, _, _], _ => rfl⟩
  have D_put_for : DefF K mg "put_for" s_put_for ["assertion", "word", "expression"] := ⟨_, _, F_put_for, He.glo_ok X G (c.fact 9 (f := .glo "put_for") rfl), F_put_for.bindsN fun _ _ _ _ _ _ us hl => match us, hl with | [_, _, _], _ => rfl⟩
  have D_star : DefF K mg "star" s_star ["one", "two"] := ⟨_, _, F_star, He.glo_ok X G (c.fact 10 (f := .glo "star") rfl), F_star.bindsN fun _ _ _ _ _ _ us hl => match us, hl with | [_, _], _ => rfl⟩
  have D_with_fact : DefF K mg "with_fact" s_with_fact ["assertion", "fact"] := ⟨_, _, F_with_fact, He.glo_ok X G (c.fact 11 (f := .glo "with_fact") rfl), F_with_fact.bindsN fun _ _ _ _ _ _ us hl => match us, hl with | [_, _], _ => rfl⟩
  have D_opposite : DefF K mg "opposite" s_opposite ["fact"] := ⟨_, _, F_opposite, He.glo_ok X G (c.fact 12 (f := .glo "opposite") rfl), F_opposite.bindsN fun _ _ _ _ _ _ us hl => match us, hl with | [_], _ => rfl⟩
  have B : Bi mg := ⟨He.free_ok X G (c.fact 14 (f := .free "len") rfl), He.free_ok X G (c.fact 15 (f := .free "tuple") rfl), He.free_ok X G (c.fact 16 (f := .free "list") rfl), He.free_ok X G (c.fact 17 (f := .free "all") rfl), He.free_ok X G (c.fact 18 (f := .free "any") rfl), He.free_ok X G (c.fact 19 (f := .free "int") rfl), He.free_ok X G (c.fact 20 (f := .free "isinstance") rfl), He.free_ok X G (c.fact 21 (f := .free "range") rfl), He.free_ok X G (c.fact 22 (f := .free "sorted") rfl), He.free_ok X G (c.fact 23 (f := .free "max") rfl), He.free_ok X G (c.fact 24 (f := .free "min") rfl), He.free_ok X G (c.fact 25 (f := .free "dict") rfl), He.free_ok X G (c.fact 26 (f := .free "enumerate") rfl), He.free_ok X G (c.fact 27 (f := .free "zip") rfl), He.free_ok X G (c.fact 28 (f := .free "str") rfl), He.free_ok X G (c.fact 29 (f := .free "repr") rfl), He.free_ok X G (c.fact 30 (f := .free "bool") rfl)⟩
  refine ⟨fd, fun s v => b s [v] rfl, fun base _ _ => ?_⟩
  · skip
    have h__law_pool := ok__law_pool (P := P) (w := w) (base := base) B D__law_pool
    have h__law_same := ok__law_same (P := P) (w := w) (base := base) B D__law_same  12
    have h__law_spread := ok__law_spread (P := P) (w := w) (base := base) B D__law_spread 
    have h__law_draw := ok__law_draw B D__law_draw h__law_spread m_l_spread_2596_any
    have h__law_pick := ok__law_pick (P := P) (w := w) (base := base) B D__law_pick h__law_draw
    have h__law_expression := ok__law_expression (P := P) (w := w) (base := base) B D__law_expression h__law_draw h__law_pick
    have h__law_fact := ok__law_fact (P := P) (w := w) (base := base) B D__law_fact h__law_expression h__law_pick
    have h__law_case := ok__law_case (P := P) (w := w) (base := base) B D__law_case h__law_draw h__law_expression h__law_fact h__law_pick
    have h__law_assertion := ok__law_assertion (P := P) (w := w) (base := base) B D__law_assertion h__law_case h__law_draw
    have h_put_for := ok_put_for (P := P) (w := w) (base := base) B D_put_for 
    have h_star := ok_star (P := P) (w := w) (base := base) B D_star 
    have h_with_fact := ok_with_fact (P := P) (w := w) (base := base) B D_with_fact 
    have h_opposite := ok_opposite (P := P) (w := w) (base := base) B D_opposite 
    exact ok_law B F h__law_assertion h__law_expression h__law_fact h__law_pick h__law_same h_opposite h_put_for h_star h_with_fact h__law_pool HP
end Fn
open PySem PySem.W PySem.Calls PyProof.Rows
theorem PySem.Challenge.cw_heapsplit_k04_assertions_made_holds : PySem.Challenge.rw_heapsplit_k04_assertions_made.Holds := by
  w_on; o_law
  refine HandSHeadRun.head_any (r := OpenLaw.row PySem.Challenge.rw_heapsplit_k04_assertions_made) (q := view (OpenLaw.row PySem.Challenge.rw_heapsplit_k04_assertions_made).prog [15]) (H := Fn.hk) (ob := Fn.ob) (M := 1000) (loose := Fn.loose) (d := HandSHeadRun.topDef (OpenLaw.row PySem.Challenge.rw_heapsplit_k04_assertions_made).prog 15) (kwd := []) Fn.ob_eq
    (by kernel_rfl) (fun s => by kernel_rfl) Fn.run (by kernel_rfl) (by kernel_rfl) (by kernel_rfl) (by rfl) (by first | assumption | decide +kernel) (by decide +kernel) ⟨rfl, rfl, rfl, rfl, rfl, by decide +kernel⟩ ?hw ?hc
  case hw => w_witness2
  case hc =>
    refine L2.walk_ofE (l := PySem.Challenge.rw_heapsplit_k04_assertions_made) (n := 63) (k := 13) (x := "script") (CX := L2.CX0) rfl (by decide) (by kernel_rfl) ⟨rfl, by decide, by decide⟩ ?F (fun _ _ _ _ z => z)
    intro w mg fa h Y G hmg0
    obtain ⟨K, KX, c⟩ := Y
    have hmg : mg ("law" : PySem.Str) = some (.ref fa) := by
      have e : (HandSHeadRun.topDef (OpenLaw.row PySem.Challenge.rw_heapsplit_k04_assertions_made).prog 15).name = ("law" : PySem.Str) := by kernel_rfl
      rw [← e]
      exact hmg0
    obtain ⟨fd, hb, hF⟩ := Fn.facts (P := (PySem.Challenge.rw_heapsplit_k04_assertions_made).prog) (w := w) Fn.law_plain KX G hmg c
    exact ⟨K, fd, Fn.spLaw K, KX, hb, fun H a ns hl _ hS => ⟨a, ns, rfl, hS, fun _ => rfl⟩, hF⟩
end P_H_k04
