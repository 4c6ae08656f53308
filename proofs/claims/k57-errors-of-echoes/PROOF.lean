import PyProof.Rows.All
import Wide.All
import OpenK.AllK
import Wide.FinOn
import PySem.Challenge.RW_hiddenandsought_k57_errors_of_echoes
import HandS.ForMost
import HandS.ForExc
import HandS.Flow
import HandS.Wide
import HandS.Gcd
import HandS.Deep
import HandS.Style
import HandS.CallSlots
import HandS.TryMany
import KE.SortData
import KE.DataMinMax
import HandS.TupAny
import HandS.Text
import KE.DataCmp
import KE.DataEq
import KE.KDictWalk
import KE.KeyNested
import KE.KDictKeyed
import KE.KTupSum
import HandS.Conv
import HandS.SetFor
import HandS.RaiseMore
import HandS.TupSets
import HandS.Star
import HandS.NoneIn
import HandS.Strs
import PyProof.DictMoreH
import HandS.ExcCtx
import HandS.ExcInit
import KE.KExcSuper
import HandS.ExcField
import HandS.IsInst
import HandS.ExcInitHot
import HandS.ExcIs
import HandS.Words
import HandS.HotCalls
section
set_option Elab.async false
set_option linter.all false
set_option maxRecDepth 100000
namespace Ev
open PySem

/-! ## the values, the slots -/
/-- a slot of a def: nothing known; shared data; a list or dict that is the def's own (len: lent by the caller; lk: walked just now); the exception of a suite -/
inductive Sl | no | sh (d : PyData) | ow (len lk : Bool) (d : PyData) | ex (c : Nat) (a : PyData)
abbrev En := List Sl
/-- what an expression gives: shared data; a fresh object's content; the content of an own slot -/
inductive Vl | d (x : PyData) | o (x : PyData) | p (i : Nat)
inductive R | ok (v : Vl) (e : En) | oks (v : List Vl) (e : En) | ex (c : Nat) (a : PyData) (e : En) | its (xs : List PyData) (ls : List Nat) (e : En) | nx (e : En) | rt (v : Vl) (e : En) | bk (e : En) | ct (e : En) | bad

def getS : En → Nat → Sl
  | [], _ => .no
  | s :: _, 0 => s
  | _ :: r, i + 1 => getS r i
def setS : En → Nat → Sl → En
  | [], _, _ => []
  | _ :: r, 0, t => t :: r
  | s :: r, i + 1, t => s :: setS r i t
def res (e : En) : Vl → Option PyData
  | .d x => some x
  | .o x => some x
  | .p i => match getS e i with
    | .ow _ _ x => some x
    | .sh x => some x
    | _ => none
/-- the value goes into other data -/
def take (e : En) : Vl → Option (PyData × En)
  | .d x => some (x, e)
  | .o (.dict _) => none
  | .o x => some (x, e)
  | .p i => match getS e i with
    | .ow false false (.dict _) => none
    | .ow false false x => some (x, setS e i (.sh x))
    | .sh x => some (x, e)
    | _ => none
def takes : En → List Vl → Option (List PyData × En)
  | e, [] => some ([], e)
  | e, v :: vs => match take e v with
    | some (x, e1) => match takes e1 vs with
      | some (xs, e2) => some (x :: xs, e2)
      | none => none
    | none => none
def ress (e : En) : List Vl → Option (List PyData)
  | [] => some []
  | v :: vs => match res e v, ress e vs with
    | some x, some xs => some (x :: xs)
    | _, _ => none

def R.bd (r : R) (f : Vl → En → R) : R := match r with
  | .ok v e => f v e
  | .ex c a e => .ex c a e
  | _ => .bad
def R.bds (r : R) (f : List Vl → En → R) : R := match r with
  | .oks v e => f v e
  | .ex c a e => .ex c a e
  | _ => .bad
def R.sq (r : R) (f : En → R) : R := match r with
  | .nx e => f e
  | .ok _ _ => .bad
  | .oks _ _ => .bad
  | .its _ _ _ => .bad
  | r => r
/-- the same end, the slots turned -/
def R.mp (g : En → En) : R → R
  | .nx e => .nx (g e)
  | .rt v e => .rt v (g e)
  | .ex c a e => .ex c a (g e)
  | r => r
def oR (o : Option Vl) (e : En) : R := match o with
  | some v => .ok v e
  | none => .bad

/-! ## operators over data -/
def lim : Nat := 1048576
def lenOk : Nat → Bool := fun n => Nat.ble n lim
inductive Bop | add | sub | mul | div | mod | pow | shl | shr | band
/-- how often an int stands in a list of ints -/
def cntI (j : Int) : List PyData → Option Nat
  | [] => some 0
  | .int i :: r => match cntI j r with
    | some n => some (if i = j then n + 1 else n)
    | none => none
  | _ => none
def bigOk (i : Int) : Bool := Nat.ble i.natAbs.log2 100000
def bop : Bop → PyData → PyData → Option Vl
  | .add, .int i, .int j => some (.d (.int (i + j)))
  | .add, .list xs, .list ys => if lenOk (xs.length + ys.length) then some (.o (.list (xs ++ ys))) else none
  | .add, .str x, .str y => if lenOk (x.length + y.length) then some (.d (.str (x ++ y))) else none
  | .add, .tuple xs, .tuple ys => if lenOk (xs.length + ys.length) then some (.d (.tuple (xs ++ ys))) else none
  | .sub, .int i, .int j => some (.d (.int (i - j)))
  | .mul, .int i, .int j => if bigOk i && bigOk j then some (.d (.int (i * j))) else none
  | .mul, .list xs, .int j => if lenOk (xs.length * j.toNat) && decide (j < 1048576) && decide (-1048576 < j) then some (.o (.list (List.replicate j.toNat xs).flatten)) else none
  | .div, .int i, .int j => if decide (0 < j) && Nat.ble j.natAbs.log2 8000 then some (.d (.int (i / j))) else none
  | .mod, .int i, .int j => if decide (0 < j) then some (.d (.int (i % j))) else none
  | .pow, .int i, .int j => if decide (0 ≤ j) && decide (j ≤ 1000) && decide (i.natAbs < 1048576) then some (.d (.int (i ^ j.toNat))) else none
  | .shl, .int i, .int j => if decide (0 ≤ j) && decide (j ≤ 1000) && decide (i.natAbs < 1048576) then some (.d (.int (i * 2 ^ j.toNat))) else none
  | .shr, .int i, .int j => if decide (0 ≤ j) then some (.d (.int (i / 2 ^ j.toNat))) else none
  | _, _, _ => none
def truth : PyData → Option Bool
  | .none => some false
  | .bool b => some b
  | .int i => some (i != 0)
  | .str x => if lenOk x.length then some (x.length != 0) else none
  | .list xs => some (!xs.isEmpty)
  | .tuple xs => some (!xs.isEmpty)
  | .dict _ => none
/-- ints, texts alone: is x among them -/
def amongI (i : Int) : List PyData → Option Bool
  | [] => some false
  | .int j :: r => match amongI i r with
    | some b => some (decide (j = i) || b)
    | none => none
  | _ => none
def amongS (x : Str) : List PyData → Option Bool
  | [] => some false
  | .str y :: r => match amongS x r with
    | some b => some (decide (y = x) || b)
    | none => none
  | _ => none
def among : PyData → List PyData → Option Bool
  | .int i, ys => amongI i ys
  | .str x, ys => amongS x ys
  | _, _ => none
mutual
/-- a key of a dict, up to == -/
def keyN : PyData → Option NestedKey
  | .none => some .none
  | .bool b => some (.num (cond b 1 0))
  | .int i => some (.num i)
  | .str x => some (.text x)
  | .tuple xs => (keyNs xs).map .tup
  | _ => none
def keyNs : List PyData → Option (List NestedKey)
  | [] => some []
  | x :: xs => match keyN x, keyNs xs with
    | some k, some ks => some (k :: ks)
    | _, _ => none
end
/-- the keys that are served: tuples, not too deep -/
def keyT (x : PyData) : Option NestedKey := match x with
  | .tuple xs => match keyNs xs with
    | some ks => if Nat.ble (NestedKey.tup ks).depth 8 then some (.tup ks) else none
    | none => none
  | _ => none
/-- whole numbers alike, quick in the kernel -/
def ieq : Int → Int → Bool
  | .ofNat a, .ofNat b => Nat.beq a b
  | .negSucc a, .negSucc b => Nat.beq a b
  | _, _ => false
mutual
def isKey : NestedKey → PyData → Bool
  | .none, .none => true
  | .num i, .int j => ieq i j
  | .num i, .bool b => ieq i (cond b 1 0)
  | .text x, .str y => decide (x = y)
  | .tup ks, .tuple xs => isKeys ks xs
  | _, _ => false
def isKeys : List NestedKey → List PyData → Bool
  | [], [] => true
  | k :: ks, x :: xs => isKey k x && isKeys ks xs
  | _, _ => false
end
def lookN (k : NestedKey) : List (PyData × PyData) → Option PyData
  | [] => none
  | (x, d) :: r => if isKey k x then some d else lookN k r
def replN (k : NestedKey) (y : PyData) : List (PyData × PyData) → List (PyData × PyData)
  | [] => []
  | (x, d) :: r => (if isKey k x then (x, y) else (x, d)) :: replN k y r
def putN (kd : PyData) (k : NestedKey) (y : PyData) (kvs : List (PyData × PyData)) : List (PyData × PyData) := match lookN k kvs with
  | some _ => replN k y kvs
  | none => kvs ++ [(kd, y)]
/-- a dict, not a range (which is told by keys that are lists) -/
def dctB : List (PyData × PyData) → Bool
  | (.list _, _) :: _ => false
  | _ => true
/-- a range object -/
def rngD (lo hi : Int) : PyData := .dict [(.list [], .int lo), (.list [], .int hi)]
inductive Cop | lt | le | gt | ge | eq | ne | isn | nis | inn | nin
mutual
/-- no dict in it, at most n deep, its texts as they may be -/
def okD : Nat → PyData → Bool
  | _, .none => true
  | _, .bool _ => true
  | _, .int _ => true
  | _, .str x => PyData.strOk x
  | n, .list xs => okDs n xs
  | n, .tuple xs => okDs n xs
  | _, .dict _ => false
def okDs : Nat → List PyData → Bool
  | _, [] => true
  | 0, _ :: _ => false
  | n + 1, x :: xs => okD n x && okDs (n + 1) xs
end
def shp (x : PyData) : Bool := okD 40 x
/-- the make of data that can be ordered -/
inductive Tm | z | i | s | b | t (l : List Tm) | v (x : Tm) | l (x : Tm)
mutual
def fits : Tm → PyData → Bool
  | .i, .int _ => true
  | .s, .str _ => true
  | .b, .bool _ => true
  | .t ts, .tuple xs => fitsT ts xs
  | .v x, .tuple xs => fitsL x xs
  | .l x, .list xs => fitsL x xs
  | _, _ => false
def fitsT : List Tm → List PyData → Bool
  | [], [] => true
  | t :: ts, x :: xs => fits t x && fitsT ts xs
  | _, _ => false
def fitsL : Tm → List PyData → Bool
  | _, [] => true
  | t, x :: xs => fits t x && fitsL t xs
end
mutual
def mrg : Tm → Tm → Tm
  | .z, y => y
  | .t xs, .t ys => if xs.length == ys.length then .t (mrgs xs ys) else .v (mrgA (mrgA .z xs) ys)
  | .v x, .t ys => .v (mrgA x ys)
  | .l x, .l y => .l (mrg x y)
  | x, _ => x
def mrgs : List Tm → List Tm → List Tm
  | x :: xs, y :: ys => mrg x y :: mrgs xs ys
  | xs, _ => xs
def mrgA : Tm → List Tm → Tm
  | x, [] => x
  | x, y :: ys => mrgA x ys
end
mutual
def tmOf : PyData → Tm
  | .int _ => .i
  | .str _ => .s
  | .bool _ => .b
  | .tuple xs => .t (tmEach xs)
  | .list xs => .l (tmL .z xs)
  | _ => .z
def tmEach : List PyData → List Tm
  | [] => []
  | x :: xs => tmOf x :: tmEach xs
def tmL : Tm → List PyData → Tm
  | t, [] => t
  | t, x :: xs => tmL (mrg t (tmOf x)) xs
end
mutual
def Tm.dep : Tm → Nat
  | .t xs => Tm.deps xs + 1
  | .v x => x.dep + 1
  | .l x => x.dep + 1
  | _ => 0
def Tm.deps : List Tm → Nat
  | [] => 0
  | x :: xs => Nat.max x.dep (Tm.deps xs)
end
def notN : PyData → Bool
  | .none => false
  | _ => true
/-- can be compared by < -/
def ordOk (x y : PyData) : Bool := shp x && shp y && PySem.W.alike x y && notN x
def cop : Cop → PyData → PyData → Option Bool
  | .lt, .int i, .int j => some (decide (i < j))
  | .le, .int i, .int j => some (decide (i ≤ j))
  | .gt, .int i, .int j => some (decide (j < i))
  | .ge, .int i, .int j => some (decide (j ≤ i))
  | .eq, .int i, .int j => some (decide (i = j))
  | .ne, .int i, .int j => some (!decide (i = j))
  | .lt, x, y => if ordOk x y then some (PySem.W.dataLt x y) else none
  | .gt, x, y => if ordOk x y then some (PySem.W.dataLt y x) else none
  | .le, x, y => if ordOk x y then some (!PySem.W.dataLt y x) else none
  | .ge, x, y => if ordOk x y then some (!PySem.W.dataLt x y) else none
  | .eq, x, y => if shp x && shp y then some (PyData.eqv x y) else none
  | .ne, x, y => if shp x && shp y then some (!PyData.eqv x y) else none
  | .isn, x, .none => some (match x with | .none => true | _ => false)
  | .nis, x, .none => some (match x with | .none => false | _ => true)
  | .isn, .bool a, .bool b => some (decide (a = b))
  | .nis, .bool a, .bool b => some (!decide (a = b))
  | .inn, x, .list ys => if shp x && shp (.list ys) then some (ys.any fun z => PyData.eqv z x) else none
  | .nin, x, .list ys => if shp x && shp (.list ys) then some (!ys.any fun z => PyData.eqv z x) else none
  | .inn, x, .tuple ys => match among x ys with
    | some b => some b
    | none => if shp x && shp (.tuple ys) then some (ys.any fun z => PyData.eqv z x) else none
  | .nin, x, .tuple ys => match among x ys with
    | some b => some (!b)
    | none => if shp x && shp (.tuple ys) then some (!ys.any fun z => PyData.eqv z x) else none
  | .inn, x, .dict kvs => match keyT x with
    | some k => if dctB kvs then some (lookN k kvs).isSome else none
    | none => none
  | .nin, x, .dict kvs => match keyT x with
    | some k => if dctB kvs then some (!(lookN k kvs).isSome) else none
    | none => none
  | _, _, _ => none
end Ev
end

section
set_option Elab.async false
set_option linter.all false
set_option maxRecDepth 100000
namespace Ev
open PySem
/-! ## what the constructs mean -/
inductive CR | ret (v : Vl) (f : List Sl) | ex (c : Nat) (a : PyData) | bad
/-- what stands around: the defs by number, which of their arguments are lent, the module's constants, the classes' order, a bound for while -/
structure Pm where
  call : Nat → List Sl → CR
  lens : Nat → List Bool
  gcs : Nat → PyData
  sub : Nat → Nat → Option Bool
  fuel : Nat
inductive Tg | nm (i : Nat) | tp (ts : List Tg)

def dVar (i : Nat) (e : En) : R := match getS e i with
  | .sh x => .ok (.d x) e
  | .ow _ _ _ => .ok (.p i) e
  | _ => .bad
def dLit (x : PyData) (e : En) : R := .ok (.d x) e
def dNil (e : En) : R := .oks [] e
def dCons (fa fb : En → R) (e : En) : R := (fa e).bd fun v e1 => (fb e1).bds fun vs e2 => .oks (v :: vs) e2
/-- [*a, ..] -/
def dStar (fa fb : En → R) (e : En) : R := (fa e).bd fun v e1 => match res e1 v with
  | some (.list xs) => (fb e1).bds fun vs e2 => .oks (xs.map Vl.d ++ vs) e2
  | some (.tuple xs) => (fb e1).bds fun vs e2 => .oks (xs.map Vl.d ++ vs) e2
  | _ => .bad
def dTup (fa : En → R) (e : En) : R := (fa e).bds fun vs e1 => match takes e1 vs with
  | some (xs, e2) => if lenOk xs.length then .ok (.d (.tuple xs)) e2 else .bad
  | none => .bad
def dLst (fa : En → R) (e : En) : R := (fa e).bds fun vs e1 => match takes e1 vs with
  | some (xs, e2) => if lenOk xs.length then .ok (.o (.list xs)) e2 else .bad
  | none => .bad
def dBin (o : Bop) (fa fb : En → R) (e : En) : R := (fa e).bd fun va e1 => (fb e1).bd fun vb e2 => match res e2 va, res e2 vb with
  | some a, some b => oR (bop o a b) e2
  | _, _ => .bad
def dNeg (fa : En → R) (e : En) : R := (fa e).bd fun v e1 => match res e1 v with
  | some (.int i) => .ok (.d (.int (-i))) e1
  | _ => .bad
/-- the truth of a value -/
def tru (v : Vl) (e : En) (k : Bool → R) : R := match res e v with
  | some x => match truth x with
    | some b => k b
    | none => .bad
  | none => .bad
def dNot (fa : En → R) (e : En) : R := (fa e).bd fun v e1 => tru v e1 fun b => .ok (.d (.bool (!b))) e1
def dAnd (fa fb : En → R) (e : En) : R := (fa e).bd fun v e1 => tru v e1 fun b => match b with
  | true => fb e1
  | false => .ok v e1
def dOr (fa fb : En → R) (e : En) : R := (fa e).bd fun v e1 => tru v e1 fun b => match b with
  | true => .ok v e1
  | false => fb e1
def dIte (fc fa fb : En → R) (e : En) : R := (fc e).bd fun v e1 => tru v e1 fun b => match b with
  | true => fa e1
  | false => fb e1
def cR (o : Option Bool) (e : En) : R := match o with
  | some b => .ok (.d (.bool b)) e
  | none => .bad
def dCmp (o : Cop) (fa fb : En → R) (e : En) : R := (fa e).bd fun va e1 => (fb e1).bd fun vb e2 => match res e2 va, res e2 vb with
  | some a, some b => cR (cop o a b) e2
  | _, _ => .bad
def dCh2 (o p : Cop) (fa fb fc : En → R) (e : En) : R := (fa e).bd fun va e1 => (fb e1).bd fun vb e2 => match res e2 va, res e2 vb with
  | some a, some b => match cop o a b with
    | some true => (fc e2).bd fun vc e3 => match res e3 vb, res e3 vc with
      | some b', some c => cR (cop p b' c) e3
      | _, _ => .bad
    | some false => .ok (.d (.bool false)) e2
    | none => .bad
  | _, _ => .bad
/-- the place of an index that may be below 0 -/
def ixF (n : Nat) (i : Int) : Option Nat := match i with
  | .ofNat k => if Nat.ble (k + 1) n then some k else none
  | .negSucc k => if Nat.ble (k + 1) n then some (n - (k + 1)) else none
def ixD (a b : PyData) : Option PyData := match a, b with
  | .list xs, .int i => (ixF xs.length i).bind fun j => xs[j]?
  | .tuple xs, .int i => (ixF xs.length i).bind fun j => xs[j]?
  | .str x, .int i => if lenOk x.length then (ixF x.cps.toList.length i).bind fun j => (x.cps.toList[j]?).map fun c => .str ⟨#[c]⟩ else none
  | .dict kvs, .tuple xs => match keyT (.tuple xs) with
    | some k => if dctB kvs then lookN k kvs else none
    | none => none
  | _, _ => none
def dIx (fa fb : En → R) (e : En) : R := (fa e).bd fun va e1 => (fb e1).bd fun vb e2 => match res e2 va, res e2 vb with
  | some a, some b => match ixD a b with
    | some x => .ok (.d x) e2
    | none => .bad
  | _, _ => .bad
def cutD {α : Type} (xs : List α) (lo hi : Option Int) : List α := (xs.drop (HT.sIx xs.length 0 lo)).take (HT.sIx xs.length xs.length hi - HT.sIx xs.length 0 lo)
def slD (a : PyData) (lo hi : Option Int) : Option Vl := match a with
  | .list xs => some (.o (.list (cutD xs lo hi)))
  | .tuple xs => some (.d (.tuple (cutD xs lo hi)))
  | .str x => if lenOk x.length then some (.d (.str (L2.cutS x lo hi))) else none
  | _ => none
def dSl (fa fb fc : En → R) (e : En) : R := (fa e).bd fun va e1 => (fb e1).bd fun vb e2 => match res e2 vb with
  | some (.int i) => (fc e2).bd fun vc e3 => match res e3 va, res e3 vc with
    | some a, some (.int j) => oR (slD a (some i) (some j)) e3
    | _, _ => .bad
  | _ => .bad
def dSlL (fa fb : En → R) (e : En) : R := (fa e).bd fun va e1 => (fb e1).bd fun vb e2 => match res e2 va, res e2 vb with
  | some a, some (.int i) => oR (slD a (some i) none) e2
  | _, _ => .bad
def dSlH (fa fb : En → R) (e : En) : R := (fa e).bd fun va e1 => (fb e1).bd fun vb e2 => match res e2 va, res e2 vb with
  | some a, some (.int i) => oR (slD a none (some i)) e2
  | _, _ => .bad
def dSlA (fa : En → R) (e : En) : R := (fa e).bd fun va e1 => match res e1 va with
  | some a => oR (slD a none none) e1
  | _ => .bad
def dRev (fa : En → R) (e : En) : R := (fa e).bd fun v e1 => match res e1 v with
  | some (.list xs) => .ok (.o (.list xs.reverse)) e1
  | _ => .bad

/-! calls -/
/-- the parameters' slots; which slots are lent, and whether they were lent to us; the slots left -/
def bindA : List Bool → List Vl → En → Option (List Sl × List (Option (Nat × Bool)) × En)
  | [], [], e => some ([], [], e)
  | true :: ls, .p i :: vs, e => match getS e i with
    | .ow l false x => (bindA ls vs (setS e i .no)).map fun q => (.ow true false x :: q.1, some (i, l) :: q.2.1, q.2.2)
    | .sh x => (bindA ls vs e).map fun q => (.sh x :: q.1, none :: q.2.1, q.2.2)
    | _ => none
  | true :: ls, .o x :: vs, e => (bindA ls vs e).map fun q => (.ow true false x :: q.1, none :: q.2.1, q.2.2)
  | true :: ls, .d x :: vs, e => (bindA ls vs e).map fun q => (.sh x :: q.1, none :: q.2.1, q.2.2)
  | false :: ls, v :: vs, e => match take e v with
    | some (x, e1) => (bindA ls vs e1).map fun q => (.sh x :: q.1, none :: q.2.1, q.2.2)
    | none => none
  | _, _, _ => none
/-- the lent slots come back -/
def backA : List (Option (Nat × Bool)) → List Sl → En → En
  | some (i, l) :: ms, .ow true false x :: fs, e => backA ms fs (setS e i (.ow l false x))
  | _ :: ms, _ :: fs, e => backA ms fs e
  | _, _, e => e
def callR (M : Pm) (f : Nat) (vs : List Vl) (e1 : En) : R := match bindA (M.lens f) vs e1 with
  | some (sl, ms, e2) => match M.call f sl with
    | .ret (.p _) _ => .bad
    | .ret v fs => .ok v (backA ms fs e2)
    | .ex c a => .ex c a e2
    | .bad => .bad
  | none => .bad
def dCall (M : Pm) (f : Nat) (fa : En → R) (e : En) : R := (fa e).bds fun vs e1 => callR M f vs e1
def dPick (M : Pm) (fs : List Nat) (fa fb : En → R) (e : En) : R := (fa e).bd fun v e1 => match res e1 v with
  | some (.int i) => match (ixF fs.length i).bind fun j => fs[j]? with
    | some f => (fb e1).bds fun vs e2 => callR M f vs e2
    | none => .bad
  | _ => .bad
def dCallX (M : Pm) (f s : Nat) (e : En) : R := match getS e s with
  | .ex c a => match M.call f [.ex c a] with
    | .ret (.d y) _ => .ok (.d y) e
    | _ => .bad
  | _ => .bad
def dIsi (M : Pm) (s c : Nat) (e : En) : R := match getS e s with
  | .ex c' _ => match M.sub c' c with
    | some b => .ok (.d (.bool b)) e
    | none => .bad
  | _ => .bad
def dXat (s : Nat) (e : En) : R := match getS e s with
  | .ex _ a => .ok (.d a) e
  | _ => .bad

/-! built-in functions -/
def ints? : List PyData → Option (List Int)
  | [] => some []
  | .int i :: r => (ints? r).map (i :: ·)
  | _ => none
def bools? : List PyData → Option (List Bool)
  | [] => some []
  | .bool b :: r => (bools? r).map (b :: ·)
  | _ => none
def seqOf : PyData → Option (List PyData)
  | .list xs => some xs
  | .tuple xs => some xs
  | _ => none
def maxI : Int → List Int → Int
  | m, [] => m
  | m, x :: r => maxI (if m < x then x else m) r
def minI : Int → List Int → Int
  | m, [] => m
  | m, x :: r => minI (if x < m then x else m) r
def sumI : Int → List Int → Int
  | m, [] => m
  | m, x :: r => sumI (m + x) r
def ins (x : PyData) : List PyData → List PyData
  | [] => [x]
  | y :: r => if PySem.W.dataLt y x then y :: ins x r else x :: y :: r
def isort : List PyData → List PyData
  | [] => []
  | x :: r => ins x (isort r)
def sortable : Tm → Bool
  | .i => true
  | .s => true
  | .b => true
  | .l _ => true
  | .t (_ :: _) => true
  | _ => false
def sortT (t : Tm) (xs : List PyData) : Bool := sortable t && fitsL t xs
def sortOk (xs : List PyData) : Bool := lenOk xs.length && shp (.list xs) && (xs.isEmpty || sortT (tmL .z xs) xs)
def minOk (xs : List PyData) : Bool := shp (.list xs) && fitsL (tmL .z xs) xs
mutual
/-- ints that are not too long to be shown; the weight -/
def intsOk : PyData → Bool
  | .int i => Nat.ble i.natAbs.log2 899
  | .list xs => intsOks xs
  | .tuple xs => intsOks xs
  | _ => true
def intsOks : List PyData → Bool
  | [] => true
  | x :: xs => intsOk x && intsOks xs
end
mutual
def wgt : PyData → Nat
  | .str x => x.cps.size
  | .list xs => wgts xs
  | .tuple xs => wgts xs
  | .int i => i.natAbs.log2 + 1
  | _ => 0
def wgts : List PyData → Nat
  | [] => 0
  | x :: xs => wgt x + 1 + wgts xs
end
def showOk (x : PyData) : Bool := shp x && intsOk x && Nat.ble (wgt x) 8192
/-- into a row that ascends strictly, by a number told of each -/
def insK {α : Type} (f : α → Int) (x : α) : List α → List α
  | [] => [x]
  | y :: r => if f x < f y then x :: y :: r else if f x = f y then y :: r else y :: insK f x r
def sortK {α : Type} (f : α → Int) : List α → List α
  | [] => []
  | x :: r => insK f x (sortK f r)
def rows? : List PyData → Option (List (List Int))
  | [] => some []
  | .tuple ys :: r => match ints? ys, rows? r with
    | some n, some q => some (n :: q)
    | _, _ => none
  | _ => none
def rowOk (d : Nat) (r : List Int) : Bool := Nat.beq r.length d && r.all fun i => decide (0 ≤ i) && decide (i < 1048576)
def rowD (r : List Int) : PyData := .tuple (r.map .int)
/-- the members once each, ascending: ints, rows of as many natural numbers -/
def nodupI : List Int → Bool
  | [] => true
  | n :: r => !(r.any fun m => decide (m = n)) && nodupI r
def setU (xs : List PyData) : Option (List PyData) := if Nat.ble xs.length 60 then (match ints? xs with
  | some ns => some ((sortK id ns).map .int)
  | none => match rows? xs with
    | some (r :: rs) => if Nat.ble 1 r.length && (r :: rs).all (rowOk r.length) then some ((sortK (TS.code 1048576) (r :: rs)).map rowD) else none
    | _ => none) else none
def upto (lo : Int) : Nat → List PyData
  | 0 => []
  | n + 1 => .int lo :: upto (lo + 1) n
def rngOk (i : Int) : Bool := decide (-1048576 ≤ i) && decide (i ≤ 1048576)
def bltF : Nat → List PyData → Option Vl
  | 0, [.list xs] => some (.d (.int xs.length))
  | 0, [.tuple xs] => some (.d (.int xs.length))
  | 0, [.str x] => if lenOk x.length then some (.d (.int x.length)) else none
  | 1, [.int i] => some (.d (.int i))
  | 1, [.bool b] => some (.d (.int (if b then 1 else 0)))
  | 2, [.int i] => some (.d (.int (if i < 0 then -i else i)))
  | 3, [.list xs] => (ints? xs).map fun ns => .d (.int (sumI 0 ns))
  | 4, [.list xs] => match ints? xs with
    | some (m :: r) => some (.d (.int (maxI m r)))
    | some [] => none
    | none => match xs with
      | x :: r => if minOk (x :: r) then some (.d (PySem.W.maxD x r)) else none
      | [] => none
  | 5, [.list xs] => match ints? xs with
    | some (m :: r) => some (.d (.int (minI m r)))
    | some [] => none
    | none => match xs with
      | x :: r => if minOk (x :: r) then some (.d (PySem.W.minD x r)) else none
      | [] => none
  | 6, [.int i, .int j] => some (.d (.int (if j > i then j else i)))
  | 7, [.int i, .int j] => some (.d (.int (if j < i then j else i)))
  | 9, [.list xs] => some (.o (.list xs))
  | 9, [.tuple xs] => some (.o (.list xs))
  | 10, [.list xs] => some (.d (.tuple xs))
  | 10, [.tuple xs] => some (.d (.tuple xs))
  | 11, [.list xs] => if showOk (.list xs) then some (.d (.str (PyData.list xs).shown)) else none
  | 11, [.tuple xs] => if showOk (.tuple xs) then some (.d (.str (PyData.tuple xs).shown)) else none
  | 12, [.list xs] => (bools? xs).map fun bs => .d (.bool (bs.all id))
  | 13, [.list xs] => (bools? xs).map fun bs => .d (.bool (bs.any id))
  | 30, [] => some (.o (.dict []))
  | 14, [.int a, .int b] => some (.d (.int ((Nat.gcd a.natAbs b.natAbs : Nat) : Int)))
  | 3, [.tuple xs] => (ints? xs).map fun ns => .d (.int (sumI 0 ns))
  | 5, [.tuple xs] => (ints? xs).bind fun ns => match ns with
    | [] => none
    | m :: r => some (.d (.int (minI m r)))
  | 17, [.int j] => if rngOk j then some (.o (.list (upto 0 j.toNat))) else none
  | 18, [.int j] => if rngOk j then some (.d (.tuple (upto 0 j.toNat))) else none
  | 21, [.int j] => if rngOk j then some (.o (rngD 0 j)) else none
  | 19, [.list xs] => (setU xs).map fun ys => .o (.list ys)
  | 11, [.int i] => if Nat.ble i.natAbs.log2 899 then some (.d (.str (Str.ofString (toString i)))) else none
  | 8, [.list xs] => if sortOk xs then some (.o (.list (isort xs))) else none
  | 20, [.list xs] => match ints? xs with
    | some ns => if Nat.ble ns.length 60 && nodupI ns then some (.d (.int ns.length)) else none
    | none => none
  | _, _ => none
def dBlt (n : Nat) (fa : En → R) (e : En) : R := (fa e).bds fun vs e1 => match ress e1 vs with
  | some xs => oR (bltF n xs) e1
  | none => .bad
def strs? : List PyData → Option (List Str)
  | [] => some []
  | .str x :: r => (strs? r).map fun xs => x :: xs
  | _ => none
def lensS : List Str → Nat
  | [] => 0
  | x :: r => x.length + lensS r
def mthF : Nat → PyData → List PyData → Option Vl
  | 0, .str a, [.list xs] => (strs? xs).bind fun ys => if lenOk (lensS ys + ys.length * a.length) then some (.d (.str (Txt.join a ys))) else none
  | _, _, _ => none
def dMth (n : Nat) (fa fb : En → R) (e : En) : R := (fa e).bd fun v e1 => match res e1 v with
  | some (.str a) => (fb e1).bds fun vs e2 => match ress e2 vs with
    | some xs => oR (mthF n (.str a) xs) e2
    | none => .bad
  | _ => .bad

/-- methods of lists that give data: 0 count -/
def idxI (j : Int) : List Int → Option Nat
  | [] => none
  | n :: r => if n = j then some 0 else (idxI j r).map fun k => k + 1
def mtlF : Nat → List PyData → PyData → Option Vl
  | 1, xs, .int j => match ints? xs with
    | some ns => match idxI j ns with
      | some k => some (.d (.int k))
      | none => none
    | none => none
  | 0, xs, .int j => match cntI j xs with
    | some n => some (.d (.int n))
    | none => none
  | _, _, _ => none
def dMtL (n : Nat) (fa fb : En → R) (e : En) : R := (fa e).bd fun v e1 => match res e1 v with
  | some (.list _) => (fb e1).bd fun u e2 => match res e2 v, res e2 u with
    | some (.list xs), some x => oR (mtlF n xs x) e2
    | _, _ => .bad
  | _ => .bad

/-! what is walked: its items, the slots that are locked meanwhile -/
def lock (e : En) : Vl → Option (List Nat × En)
  | .p i => match getS e i with
    | .ow l false x => some ([i], setS e i (.ow l true x))
    | .ow _ true _ => some ([], e)
    | .sh _ => some ([], e)
    | _ => none
  | _ => some ([], e)
def unlock1 (i : Nat) (e : En) : En := match getS e i with
  | .ow l true x => setS e i (.ow l false x)
  | _ => e
def unlock : List Nat → En → En
  | [], e => e
  | i :: r, e => unlock r (unlock1 i e)

/-- one walked value: data, or a content that is walked where it stands -/
def walkOf (v : Vl) (e : En) (f : PyData → Option (List PyData)) : R := match res e v with
  | some x => match f x with
    | some xs => match lock e v with
      | some (ls, e1) => .its xs ls e1
      | none => .bad
    | none => .bad
  | none => .bad
def itemsE : PyData → Option (List PyData)
  | .list xs => some xs
  | .tuple xs => some xs
  | .str x => some (x.cps.toList.map fun c => .str ⟨#[c]⟩)
  | .dict [(.list [], .int lo), (.list [], .int hi)] => if rngOk lo && rngOk hi then some (upto lo (hi - lo).toNat) else none
  | .dict kvs => if dctB kvs then some (kvs.map fun p => p.1) else none
  | _ => none
def dItE (fa : En → R) (e : En) : R := (fa e).bd fun v e1 => walkOf v e1 itemsE
def itemsL : PyData → Option (List PyData)
  | .list xs => some xs
  | _ => none
def dItL (fa : En → R) (e : En) : R := (fa e).bd fun v e1 => walkOf v e1 itemsL
def dItR (fa : En → R) (e : En) : R := (fa e).bds fun vs e1 => match ress e1 vs with
  | some [.int j] => if rngOk j then .its (upto 0 j.toNat) [] e1 else .bad
  | _ => .bad
def dItR2 (fa : En → R) (e : En) : R := (fa e).bds fun vs e1 => match ress e1 vs with
  | some [.int i, .int j] => if rngOk i && rngOk j then .its (upto i (j - i).toNat) [] e1 else .bad
  | _ => .bad
def number (k : Nat) : List PyData → List PyData
  | [] => []
  | x :: r => .tuple [.int k, x] :: number (k + 1) r
def itemsN : PyData → Option (List PyData)
  | .list xs => some (number 0 xs)
  | _ => none
def dItN (fa : En → R) (e : En) : R := (fa e).bd fun v e1 => walkOf v e1 itemsN
def pairs : List PyData → List PyData → List PyData
  | x :: xs, y :: ys => .tuple [x, y] :: pairs xs ys
  | _, _ => []
def dItZ (fa : En → R) (e : En) : R := (fa e).bds fun vs e1 => match vs with
  | [v, u] => match res e1 v, res e1 u with
    | some (.list xs), some (.list ys) => match lock e1 v with
      | some (l1, e2) => match lock e2 u with
        | some (l2, e3) => .its (pairs xs ys) (l1 ++ l2) e3
        | none => .bad
      | none => .bad
    | _, _ => .bad
  | _ => .bad

/-! stores -/
/-- a slot that may be stored to -/
def freeS (e : En) (i : Nat) : Bool := match getS e i with
  | .ow true _ _ => false
  | .ow _ true _ => false
  | .ex _ _ => false
  | _ => true
mutual
def asg : Tg → PyData → En → Option En
  | .nm i, x, e => if freeS e i then some (setS e i (.sh x)) else none
  | .tp ts, .tuple xs, e => asgs ts xs e
  | .tp ts, .list xs, e => asgs ts xs e
  | .tp _, _, _ => none
def asgs : List Tg → List PyData → En → Option En
  | [], [], e => some e
  | t :: ts, x :: xs, e => match asg t x e with
    | some e1 => asgs ts xs e1
    | none => none
  | _, _, _ => none
end
def put (i : Nat) (k : Bool) (v : Vl) (e : En) : R := if freeS e i then
    match k, v with
    | true, .o x => .nx (setS e i (.ow false false x))
    | _, v => match take e v with
      | some (x, e1) => .nx (setS e1 i (.sh x))
      | none => .bad
  else .bad
def dSet (i : Nat) (k : Bool) (fa : En → R) (e : En) : R := (fa e).bd fun v e1 => put i k v e1
def dSetT (t : Tg) (fa : En → R) (e : En) : R := (fa e).bd fun v e1 => match take e1 v with
  | some (x, e2) => match asg t x e2 with
    | some e3 => .nx e3
    | none => .bad
  | none => .bad
def nms : List Nat → List Tg
  | [] => []
  | i :: r => .nm i :: nms r
def dPar (ts : List Nat) (fa : En → R) (e : En) : R := (fa e).bds fun vs e1 => match takes e1 vs with
  | some (xs, e2) => match asgs (nms ts) xs e2 with
    | some e3 => .nx e3
    | none => .bad
  | none => .bad
/-- an own list changed -/
def chg (i : Nat) (f : PyData → Option PyData) (e : En) : R := match getS e i with
  | .ow l false x => match f x with
    | some y => .nx (setS e i (.ow l false y))
    | none => .bad
  | _ => .bad
def ownL (e : En) (i : Nat) : Bool := match getS e i with
  | .ow _ _ (.list _) => true
  | _ => false
def dApp (i : Nat) (fa : En → R) (e : En) : R := if ownL e i then (fa e).bd fun v e1 => match take e1 v with
  | some (y, e2) => chg i (fun x => match x with
    | .list xs => if lenOk (xs.length + 1) then some (.list (xs ++ [y])) else none
    | _ => none) e2
  | none => .bad
  else .bad
def dExt (i : Nat) (fa : En → R) (e : En) : R := if ownL e i then (fa e).bd fun v e1 => match res e1 v with
  | some (.list ys) => chg i (fun x => match x with
    | .list xs => if lenOk (xs.length + ys.length) then some (.list (xs ++ ys)) else none
    | _ => none) e1
  | _ => .bad
  else .bad
def ownD (e : En) (i : Nat) : Bool := match getS e i with
  | .ow _ false (.dict kvs) => dctB kvs
  | _ => false
/-- d[k] = v, d a dict of one's own -/
def sixD (i : Nat) (fa : En → R) (v : Vl) (e1 : En) : R := if ownD e1 i then (fa e1).bd fun k e2 => match k, take e2 v with
  | .d kd, some (y, e3) => match keyT kd with
    | some kk => chg i (fun x => match x with
      | .dict kvs => if lenOk (kvs.length + 1) && dctB kvs then some (.dict (putN kd kk y kvs)) else none
      | _ => none) e3
    | none => .bad
  | _, _ => .bad
  else .bad
def dSix (i : Nat) (fa fb : En → R) (e : En) : R := (fb e).bd fun v e1 => if ownL e1 i then (fa e1).bd fun k e2 => match take e2 v, res e2 k with
  | some (y, e3), some (.int j) => chg i (fun x => match x with
    | .list xs => (ixF xs.length j).map fun n => .list (xs.set n y)
    | _ => none) e3
  | _, _ => .bad
  else sixD i fa v e1
/-- n = 1: xs.pop(j), xs a list of one's own -/
def popL (i : Nat) (j : Int) (e : En) : R := match getS e i with
  | .ow l false (.list xs) => match ixF xs.length j with
    | some k => match xs[k]? with
      | some y => .ok (.d y) (setS e i (.ow l false (.list (xs.eraseIdx k))))
      | none => .bad
    | none => .bad
  | _ => .bad
/-- n = 3: xs.remove(j), xs a list of ints of one's own -/
def remL (i : Nat) (j : Int) (e : En) : R := match getS e i with
  | .ow l false (.list xs) => match ints? xs with
    | some ns => match idxI j ns with
      | some k => .ok (.d .none) (setS e i (.ow l false (.list ((ns.eraseIdx k).map .int))))
      | none => .bad
    | none => .bad
  | _ => .bad
def dMut (n i : Nat) (fa : En → R) (e : En) : R := if n == 1 && ownL e i then (fa e).bd fun v e1 => match res e1 v with
  | some (.int j) => if rngOk j then popL i j e1 else .bad
  | _ => .bad
  else if n == 3 && ownL e i then (fa e).bd fun v e1 => match res e1 v with
  | some (.int j) => remL i j e1
  | _ => .bad
  else .bad

/-! loops -/
def forL (t : Tg) (fb : En → R) : List PyData → En → R
  | [], e => .nx e
  | x :: xs, e => match asg t x e with
    | some e1 => match fb e1 with
      | .nx e2 => forL t fb xs e2
      | .ct e2 => forL t fb xs e2
      | .bk e2 => .nx e2
      | .rt v e2 => .rt v e2
      | .ex c a e2 => .ex c a e2
      | _ => .bad
    | none => .bad
def dFor (t : Tg) (fa fb : En → R) (e : En) : R := match fa e with
  | .its xs ls e1 => (forL t fb xs e1).mp (unlock ls)
  | .ex c a e1 => .ex c a e1
  | _ => .bad
mutual
def Tg.ids : Tg → List Nat
  | .nm i => [i]
  | .tp ts => Tg.idss ts
def Tg.idss : List Tg → List Nat
  | [] => []
  | t :: ts => t.ids ++ Tg.idss ts
end
/-- groups: an own dict whose values are lists that grow; g.setdefault(k, []) -/
def sdN (kd : PyData) (k : NestedKey) (acc : List (PyData × PyData)) : List (PyData × PyData) := match lookN k acc with
  | some _ => acc
  | none => acc ++ [(kd, .list [])]
/-- .append(y) on what stands at k -/
def apN (k : NestedKey) (y : PyData) : List (PyData × PyData) → Option (List (PyData × PyData))
  | [] => none
  | (x, d) :: r => if isKey k x then match d with
      | .list ds => if lenOk (ds.length + 1) then some ((x, .list (ds ++ [y])) :: r) else none
      | _ => none
    else (apN k y r).map fun r' => (x, d) :: r'
def grpL (i : Nat) (t : Tg) (fb fc : En → R) : List PyData → List (PyData × PyData) → En → (List (PyData × PyData) → En → R) → R
  | [], acc, e, k => k acc e
  | x :: xs, acc, e, k => match asg t x e with
    | some e1 => match fb e1 with
      | .oks [.d kd, .o (.list [])] e2 => match keyT kd with
        | some kk => if lenOk (acc.length + 1) then match fc e2 with
          | .ok u e3 => match take e3 u with
            | some (y, e4) => match apN kk y (sdN kd kk acc) with
              | some acc' => grpL i t fb fc xs acc' e4 k
              | none => .bad
            | none => .bad
          | _ => .bad
          else .bad
        | none => .bad
      | _ => .bad
    | none => .bad
def dGrp (i : Nat) (t : Tg) (fa fb fc : En → R) (e : En) : R := match fa e with
  | .its xs ls e1 => match getS e1 i with
    | .ow false false (.dict []) => if t.ids.contains i then .bad else grpL i t fb fc xs [] (setS e1 i .no) fun acc e2 => if dctB acc then .nx (unlock ls (setS e2 i (.ow false false (.dict acc)))) else .bad
    | _ => .bad
  | .ex c a e1 => .ex c a e1
  | _ => .bad
/-- over a lent list as it stands at each turn -/
def frwL (t : Tg) (i : Nat) (fb : En → R) : Nat → Nat → En → R
  | 0, _, _ => .bad
  | n + 1, k, e => match getS e i with
    | .ow true _ (.list ys) => match ys[k]? with
      | some x => match asg t x e with
        | some e1 => match fb e1 with
          | .nx e2 => frwL t i fb n (k + 1) e2
          | .ct e2 => frwL t i fb n (k + 1) e2
          | .bk e2 => .nx e2
          | .rt v e2 => .rt v e2
          | .ex c a e2 => .ex c a e2
          | _ => .bad
        | none => .bad
      | none => .nx e
    | _ => .bad
def dFrw (n i : Nat) (t : Tg) (fb : En → R) (e : En) : R := frwL t i fb n 0 e
def whlL (fc fb : En → R) : Nat → En → R
  | 0, _ => .bad
  | n + 1, e => match fc e with
    | .ok v e1 => tru v e1 fun b => match b with
      | true => match fb e1 with
        | .nx e2 => whlL fc fb n e2
        | .ct e2 => whlL fc fb n e2
        | .bk e2 => .nx e2
        | .rt v e2 => .rt v e2
        | .ex c a e2 => .ex c a e2
        | _ => .bad
      | false => .nx e1
    | .ex c a e1 => .ex c a e1
    | _ => .bad
def dWhl (n : Nat) (fc fb : En → R) (e : En) : R := whlL fc fb n e
/-- a comprehension's own names forgotten; given back -/
def wipeE : List Nat → En → En
  | [], e => e
  | i :: r, e => setS (wipeE r e) i .no
def backE : List Nat → En → En → En
  | [], _, e => e
  | i :: r, e0, e => setS (backE r e0 e) i (match getS e0 i with
    | .sh x => .sh x
    | _ => .no)
def ownFree (own : List Nat) (e : En) : Bool := own.all fun i => freeS e i
mutual
def Tg.inn (own : List Nat) : Tg → Bool
  | .nm i => own.contains i
  | .tp ts => Tg.inns own ts
def Tg.inns (own : List Nat) : List Tg → Bool
  | [] => true
  | t :: ts => t.inn own && Tg.inns own ts
end
/-- the items so far in acc -/
def lcL (own : List Nat) (t : Tg) (fc fe : En → R) : List PyData → List PyData → En → (List PyData → En → R) → R
  | [], acc, e, k => k acc e
  | x :: xs, acc, e, k => match asg t x e with
    | some e1 => match fc e1 with
      | .ok v e2 => tru v e2 fun b => match b with
        | true => match fe e2 with
          | .ok u e3 => match take e3 u with
            | some (y, e4) => if lenOk (acc.length + 1) then lcL own t fc fe xs (acc ++ [y]) (wipeE own e4) k else .bad
            | none => .bad
          | _ => .bad
        | false => lcL own t fc fe xs acc (wipeE own e2) k
      | _ => .bad
    | none => .bad
def dLc (own : List Nat) (t : Tg) (fa fc fe : En → R) (e : En) : R := match fa e with
  | .its xs ls e1 => if ownFree own e1 then lcL own t fc fe xs [] (wipeE own e1) fun acc e2 => .ok (.o (.list acc)) (unlock ls (backE own e1 e2)) else .bad
  | .ex c a e1 => .ex c a e1
  | _ => .bad
def subN (own1 own : List Nat) : Bool := own1.all fun i => own.contains i
/-- two walks, one in the other -/
def lc2L (own own1 : List Nat) (t t1 : Tg) (fc fb fd fe : En → R) : List PyData → List PyData → En → (List PyData → En → R) → R
  | [], acc, e, k => k acc e
  | x :: xs, acc, e, k => match asg t x e with
    | some e1 => match fc e1 with
      | .ok v e2 => tru v e2 fun b => match b with
        | true => match fb e2 with
          | .its ys ls e3 => if ownFree own1 e3 then lcL own1 t1 fd fe ys acc (wipeE own1 e3) fun acc' e4 => lc2L own own1 t t1 fc fb fd fe xs acc' (wipeE own (unlock ls e4)) k else .bad
          | _ => .bad
        | false => lc2L own own1 t t1 fc fb fd fe xs acc (wipeE own e2) k
      | _ => .bad
    | none => .bad
def dLc2 (own own1 : List Nat) (t t1 : Tg) (fa fc fb fd fe : En → R) (e : En) : R := match fa e with
  | .its xs ls e1 => if ownFree own e1 && subN own1 own then lc2L own own1 t t1 fc fb fd fe xs [] (wipeE own e1) fun acc e2 => .ok (.o (.list acc)) (unlock ls (backE own e1 e2)) else .bad
  | .ex c a e1 => .ex c a e1
  | _ => .bad

/-! statements -/
def dExp (fa : En → R) (e : En) : R := (fa e).bd fun _ e1 => .nx e1
def dRet (fa : En → R) (e : En) : R := (fa e).bd fun v e1 => .rt v e1
def dIff (fc fa fb : En → R) (e : En) : R := (fc e).bd fun v e1 => tru v e1 fun b => match b with
  | true => fa e1
  | false => fb e1
def dRse (c : Nat) (fa : En → R) (e : En) : R := (fa e).bd fun v e1 => match take e1 v with
  | some (x, e2) => .ex c x e2
  | none => .bad
/-- no exception is at hand any more -/
def clearX : En → En
  | [] => []
  | .ex _ _ :: r => .no :: clearX r
  | s :: r => s :: clearX r
/-- behind an except suite: its name is gone -/
def R.hx (s : Nat) : R → R
  | .nx e => .nx (clearX (setS e s .no))
  | .bk e => .bk (clearX (setS e s .no))
  | .ct e => .ct (clearX (setS e s .no))
  | .rt (.p i) e => if i == s then .bad else .rt (.p i) (clearX (setS e s .no))
  | .rt v e => .rt v (clearX (setS e s .no))
  | _ => .bad
def dTry (M : Pm) (s c : Nat) (fa fh : En → R) (e : En) : R := match fa e with
  | .ex c' a e1 => match M.sub c' c with
    | some true => if freeS e1 s then (fh (setS e1 s (.ex c' a))).hx s else .bad
    | some false => .ex c' a e1
    | none => .bad
  | .ok _ _ => .bad
  | .oks _ _ => .bad
  | .its _ _ _ => .bad
  | r => r
def dSeq (fa fb : En → R) (e : En) : R := (fa e).sq fb

inductive Ir
  | var (i : Nat)
  | lit (d : PyData)
  | gc (g : Nat)
  | tup (a : Ir)
  | lst (a : Ir)
  | nil
  | cons (a b : Ir)
  | star (a b : Ir)
  | bin (o : Bop) (a b : Ir)
  | neg (a : Ir)
  | nt (a : Ir)
  | an (a b : Ir)
  | orr (a b : Ir)
  | ite (c a b : Ir)
  | cmp (o : Cop) (a b : Ir)
  | ch2 (o p : Cop) (a b c : Ir)
  | ix (a b : Ir)
  | sl (a b c : Ir)
  | slL (a b : Ir)
  | slH (a b : Ir)
  | slA (a : Ir)
  | rev (a : Ir)
  | call (f : Nat) (a : Ir)
  | pick (fs : List Nat) (a b : Ir)
  | blt (n : Nat) (a : Ir)
  | join (a b : Ir)
  | mtl (n : Nat) (a b : Ir)
  | lc (own : List Nat) (t : Tg) (a b c : Ir)
  | lc2 (own own1 : List Nat) (t t1 : Tg) (a b c p q : Ir)
  | isi (s c : Nat)
  | xat (s : Nat)
  | callX (f s : Nat)
  | itE (a : Ir)
  | itL (a : Ir)
  | itR (a : Ir)
  | itR2 (a : Ir)
  | itN (a : Ir)
  | itZ (a : Ir)
  | tt
  | set (i : Nat) (k : Bool) (a : Ir)
  | setL (i : Nat) (k : Bool) (own : List Nat) (t : Tg) (a b c : Ir)
  | setL2 (i : Nat) (k : Bool) (own own1 : List Nat) (t t1 : Tg) (a b c p q : Ir)
  | setT (t : Tg) (a : Ir)
  | par (ts : List Nat) (a : Ir)
  | app (i : Nat) (a : Ir)
  | ext (i : Nat) (a : Ir)
  | six (i : Nat) (a b : Ir)
  | mut (n i : Nat) (a : Ir)
  | exp (a : Ir)
  | ret (a : Ir)
  | iff (c a b : Ir)
  | fr (t : Tg) (a b : Ir)
  | grp (i : Nat) (t : Tg) (a b c : Ir)
  | frw (i : Nat) (t : Tg) (b : Ir)
  | whl (c a : Ir)
  | rse (c : Nat) (a : Ir)
  | tri (s c : Nat) (a b : Ir)
  | brk
  | cnt
  | seq (a b : Ir)
  | skp

/-- the meaning of a text -/
noncomputable def ev (M : Pm) (x : Ir) : En → R := Ir.rec (motive := fun _ => En → R)
  (fun i => dVar i)
  (fun d => dLit d)
  (fun g => dLit (M.gcs g))
  (fun _ fa => dTup fa)
  (fun _ fa => dLst fa)
  (dNil)
  (fun _ _ fa fb => dCons fa fb)
  (fun _ _ fa fb => dStar fa fb)
  (fun o _ _ fa fb => dBin o fa fb)
  (fun _ fa => dNeg fa)
  (fun _ fa => dNot fa)
  (fun _ _ fa fb => dAnd fa fb)
  (fun _ _ fa fb => dOr fa fb)
  (fun _ _ _ fc fa fb => dIte fc fa fb)
  (fun o _ _ fa fb => dCmp o fa fb)
  (fun o p _ _ _ fa fb fc => dCh2 o p fa fb fc)
  (fun _ _ fa fb => dIx fa fb)
  (fun _ _ _ fa fb fc => dSl fa fb fc)
  (fun _ _ fa fb => dSlL fa fb)
  (fun _ _ fa fb => dSlH fa fb)
  (fun _ fa => dSlA fa)
  (fun _ fa => dRev fa)
  (fun f _ fa => dCall M f fa)
  (fun fs _ _ fa fb => dPick M fs fa fb)
  (fun n _ fa => dBlt n fa)
  (fun _ _ fa fb => dMth 0 fa (dCons fb dNil))
  (fun n _ _ fa fb => dMtL n fa fb)
  (fun own t _ _ _ fa fb fc => dLc own t fa fb fc)
  (fun own own1 t t1 _ _ _ _ _ fa fb fc fp fq => dLc2 own own1 t t1 fa fb fc fp fq)
  (fun s c => dIsi M s c)
  (fun s => dXat s)
  (fun f s => dCallX M f s)
  (fun _ fa => dItE fa)
  (fun _ fa => dItL fa)
  (fun _ fa => dItR fa)
  (fun _ fa => dItR2 fa)
  (fun _ fa => dItN fa)
  (fun _ fa => dItZ fa)
  (dLit (.bool true))
  (fun i k _ fa => dSet i k fa)
  (fun i k own t _ _ _ fa fb fc => dSet i k (dLc own t fa fb fc))
  (fun i k own own1 t t1 _ _ _ _ _ fa fb fc fp fq => dSet i k (dLc2 own own1 t t1 fa fb fc fp fq))
  (fun t _ fa => dSetT t fa)
  (fun ts _ fa => dPar ts fa)
  (fun i _ fa => dApp i fa)
  (fun i _ fa => dExt i fa)
  (fun i _ _ fa fb => dSix i fa fb)
  (fun n i _ fa => dMut n i fa)
  (fun _ fa => dExp fa)
  (fun _ fa => dRet fa)
  (fun _ _ _ fc fa fb => dIff fc fa fb)
  (fun t _ _ fa fb => dFor t fa fb)
  (fun i t _ _ _ fa fb fc => dGrp i t fa fb fc)
  (fun i t _ fb => dFrw M.fuel i t fb)
  (fun _ _ fc fa => dWhl M.fuel fc fa)
  (fun c _ fa => dRse c fa)
  (fun s c _ _ fa fb => dTry M s c fa fb)
  (R.bk)
  (R.ct)
  (fun _ _ fa fb => dSeq fa fb)
  (R.nx)
  x
section
variable (M : Pm)
theorem ev_var (i : Nat) : ev M (.var i) = dVar i := rfl
theorem ev_lit (d : PyData) : ev M (.lit d) = dLit d := rfl
theorem ev_gc (g : Nat) : ev M (.gc g) = dLit (M.gcs g) := rfl
theorem ev_tup (a : Ir) : ev M (.tup a) = dTup (ev M a) := rfl
theorem ev_lst (a : Ir) : ev M (.lst a) = dLst (ev M a) := rfl
theorem ev_nil : ev M (.nil ) = dNil := rfl
theorem ev_cons (a : Ir) (b : Ir) : ev M (.cons a b) = dCons (ev M a) (ev M b) := rfl
theorem ev_star (a : Ir) (b : Ir) : ev M (.star a b) = dStar (ev M a) (ev M b) := rfl
theorem ev_bin (o : Bop) (a : Ir) (b : Ir) : ev M (.bin o a b) = dBin o (ev M a) (ev M b) := rfl
theorem ev_neg (a : Ir) : ev M (.neg a) = dNeg (ev M a) := rfl
theorem ev_nt (a : Ir) : ev M (.nt a) = dNot (ev M a) := rfl
theorem ev_an (a : Ir) (b : Ir) : ev M (.an a b) = dAnd (ev M a) (ev M b) := rfl
theorem ev_orr (a : Ir) (b : Ir) : ev M (.orr a b) = dOr (ev M a) (ev M b) := rfl
theorem ev_ite (c : Ir) (a : Ir) (b : Ir) : ev M (.ite c a b) = dIte (ev M c) (ev M a) (ev M b) := rfl
theorem ev_cmp (o : Cop) (a : Ir) (b : Ir) : ev M (.cmp o a b) = dCmp o (ev M a) (ev M b) := rfl
theorem ev_ch2 (o : Cop) (p : Cop) (a : Ir) (b : Ir) (c : Ir) : ev M (.ch2 o p a b c) = dCh2 o p (ev M a) (ev M b) (ev M c) := rfl
theorem ev_ix (a : Ir) (b : Ir) : ev M (.ix a b) = dIx (ev M a) (ev M b) := rfl
theorem ev_sl (a : Ir) (b : Ir) (c : Ir) : ev M (.sl a b c) = dSl (ev M a) (ev M b) (ev M c) := rfl
theorem ev_slL (a : Ir) (b : Ir) : ev M (.slL a b) = dSlL (ev M a) (ev M b) := rfl
theorem ev_slH (a : Ir) (b : Ir) : ev M (.slH a b) = dSlH (ev M a) (ev M b) := rfl
theorem ev_slA (a : Ir) : ev M (.slA a) = dSlA (ev M a) := rfl
theorem ev_rev (a : Ir) : ev M (.rev a) = dRev (ev M a) := rfl
theorem ev_call (f : Nat) (a : Ir) : ev M (.call f a) = dCall M f (ev M a) := rfl
theorem ev_pick (fs : List Nat) (a : Ir) (b : Ir) : ev M (.pick fs a b) = dPick M fs (ev M a) (ev M b) := rfl
theorem ev_blt (n : Nat) (a : Ir) : ev M (.blt n a) = dBlt n (ev M a) := rfl
theorem ev_join (a : Ir) (b : Ir) : ev M (.join a b) = dMth 0 (ev M a) (dCons (ev M b) dNil) := rfl
theorem ev_mtl (n : Nat) (a : Ir) (b : Ir) : ev M (.mtl n a b) = dMtL n (ev M a) (ev M b) := rfl
theorem ev_lc (own : List Nat) (t : Tg) (a : Ir) (b : Ir) (c : Ir) : ev M (.lc own t a b c) = dLc own t (ev M a) (ev M b) (ev M c) := rfl
theorem ev_lc2 (own : List Nat) (own1 : List Nat) (t : Tg) (t1 : Tg) (a : Ir) (b : Ir) (c : Ir) (p : Ir) (q : Ir) : ev M (.lc2 own own1 t t1 a b c p q) = dLc2 own own1 t t1 (ev M a) (ev M b) (ev M c) (ev M p) (ev M q) := rfl
theorem ev_isi (s : Nat) (c : Nat) : ev M (.isi s c) = dIsi M s c := rfl
theorem ev_xat (s : Nat) : ev M (.xat s) = dXat s := rfl
theorem ev_callX (f : Nat) (s : Nat) : ev M (.callX f s) = dCallX M f s := rfl
theorem ev_itE (a : Ir) : ev M (.itE a) = dItE (ev M a) := rfl
theorem ev_itL (a : Ir) : ev M (.itL a) = dItL (ev M a) := rfl
theorem ev_itR (a : Ir) : ev M (.itR a) = dItR (ev M a) := rfl
theorem ev_itR2 (a : Ir) : ev M (.itR2 a) = dItR2 (ev M a) := rfl
theorem ev_itN (a : Ir) : ev M (.itN a) = dItN (ev M a) := rfl
theorem ev_itZ (a : Ir) : ev M (.itZ a) = dItZ (ev M a) := rfl
theorem ev_tt : ev M (.tt ) = dLit (.bool true) := rfl
theorem ev_set (i : Nat) (k : Bool) (a : Ir) : ev M (.set i k a) = dSet i k (ev M a) := rfl
theorem ev_setL2 (i : Nat) (k : Bool) (own own1 : List Nat) (t t1 : Tg) (a b c p q : Ir) : ev M (.setL2 i k own own1 t t1 a b c p q) = dSet i k (dLc2 own own1 t t1 (ev M a) (ev M b) (ev M c) (ev M p) (ev M q)) := rfl
theorem ev_setL (i : Nat) (k : Bool) (own : List Nat) (t : Tg) (a : Ir) (b : Ir) (c : Ir) : ev M (.setL i k own t a b c) = dSet i k (dLc own t (ev M a) (ev M b) (ev M c)) := rfl
theorem ev_setT (t : Tg) (a : Ir) : ev M (.setT t a) = dSetT t (ev M a) := rfl
theorem ev_par (ts : List Nat) (a : Ir) : ev M (.par ts a) = dPar ts (ev M a) := rfl
theorem ev_app (i : Nat) (a : Ir) : ev M (.app i a) = dApp i (ev M a) := rfl
theorem ev_ext (i : Nat) (a : Ir) : ev M (.ext i a) = dExt i (ev M a) := rfl
theorem ev_six (i : Nat) (a : Ir) (b : Ir) : ev M (.six i a b) = dSix i (ev M a) (ev M b) := rfl
theorem ev_mut (n : Nat) (i : Nat) (a : Ir) : ev M (.mut n i a) = dMut n i (ev M a) := rfl
theorem ev_exp (a : Ir) : ev M (.exp a) = dExp (ev M a) := rfl
theorem ev_ret (a : Ir) : ev M (.ret a) = dRet (ev M a) := rfl
theorem ev_iff (c : Ir) (a : Ir) (b : Ir) : ev M (.iff c a b) = dIff (ev M c) (ev M a) (ev M b) := rfl
theorem ev_frw (i : Nat) (t : Tg) (b : Ir) : ev M (.frw i t b) = dFrw M.fuel i t (ev M b) := rfl
theorem ev_fr (t : Tg) (a : Ir) (b : Ir) : ev M (.fr t a b) = dFor t (ev M a) (ev M b) := rfl
theorem ev_grp (i : Nat) (t : Tg) (a b c : Ir) : ev M (.grp i t a b c) = dGrp i t (ev M a) (ev M b) (ev M c) := rfl
theorem ev_whl (c : Ir) (a : Ir) : ev M (.whl c a) = dWhl M.fuel (ev M c) (ev M a) := rfl
theorem ev_rse (c : Nat) (a : Ir) : ev M (.rse c a) = dRse c (ev M a) := rfl
theorem ev_tri (s : Nat) (c : Nat) (a : Ir) (b : Ir) : ev M (.tri s c a b) = dTry M s c (ev M a) (ev M b) := rfl
theorem ev_brk : ev M (.brk ) = R.bk := rfl
theorem ev_cnt : ev M (.cnt ) = R.ct := rfl
theorem ev_seq (a : Ir) (b : Ir) : ev M (.seq a b) = dSeq (ev M a) (ev M b) := rfl
theorem ev_skp : ev M (.skp ) = R.nx := rfl
end

/-! ## a program of defs -/
structure Df where
  body : Ir
  lens : List Bool
  size : Nat
/-- how a def ends: the slots of what was lent come back -/
def finS : List Sl → Nat → En → Option (List Sl)
  | [], _, _ => some []
  | .ow true false _ :: ls, j, e => match getS e j with
    | .ow true false x => (finS ls (j + 1) e).map fun r => .ow true false x :: r
    | _ => none
  | _ :: ls, j, e => (finS ls (j + 1) e).map fun r => .no :: r
def endV (v : Vl) (e : En) : Option Vl := match v with
  | .p i => match getS e i with
    | .ow false _ x => some (.o x)
    | .sh x => some (.d x)
    | _ => none
  | v => some v
def fin (ls : List Sl) : R → CR
  | .rt v e => match endV v e, finS ls 0 e with
    | some v', some fs => .ret v' fs
    | _, _ => .bad
  | .nx e => match finS ls 0 e with
    | some fs => .ret (.d .none) fs
    | none => .bad
  | .ex c a _ => .ex c a
  | _ => .bad
structure Pg where
  defs : List Df
  gcs : List PyData
  subs : List (List Bool)
  fuel : Nat
def Pg.lens (P : Pg) (f : Nat) : List Bool := match P.defs[f]? with
  | some d => d.lens
  | none => []
def Pg.gc (P : Pg) (g : Nat) : PyData := match P.gcs[g]? with
  | some d => d
  | none => .none
def Pg.sub (P : Pg) (c d : Nat) : Option Bool := match P.subs[c]? with
  | some r => r[d]?
  | none => none
def Pg.pm (P : Pg) (call : Nat → List Sl → CR) : Pm := ⟨call, P.lens, P.gc, P.sub, P.fuel⟩
/-- a def run, at most k calls deep -/
noncomputable def run (P : Pg) : Nat → Nat → List Sl → CR
  | 0 => fun _ _ => .bad
  | k + 1 => fun f sl => match P.defs[f]? with
    | some d => fin sl (ev (P.pm (run P k)) d.body (sl ++ List.replicate (d.size - sl.length) .no))
    | none => .bad
end Ev
end

section
set_option Elab.async false
set_option linter.all false
set_option maxRecDepth 100000
namespace Ev
open PySem PySem.Spec PyProof.Rows L2

/-- the written part; which exception (its object, its class by number, its dict) is at hand -/
structure Kx where
  fr : PySem.W.Frag
  px : Addr → Nat → Addr → Prop
  w : World
/-! ## what data stand for in the abstract heap -/
abbrev As := Addr → Prop
/-- a list, a tuple of the written part -/
def KL (K : PySem.W.Frag) (a : Addr) (xs : List V) : Prop :=
  ∃ (its : List Value) (n : Nat), K.lookup a = some { cls := .type "list", data := .seq its.toArray n } ∧ its.length ≤ sizeLine ∧ Vals xs its
def KT (K : PySem.W.Frag) (a : Addr) (xs : List V) : Prop :=
  ∃ (o : Obj) (its : Array Value) (n : Nat), K.lookup a = some o ∧ o.cls = .type "tuple" ∧ o.data = .seq its n ∧ its.size ≤ sizeLine ∧ Vals xs its.toList
mutual
/-- v stands for d; all that it is made of lies in F (and stays as it is) or in the written part -/
inductive Rep (K : Kx) (F : As) (H : Hp) : V → PyData → Prop
  | non : Rep K F H .non .none
  | bl (b : Bool) : Rep K F H (.bl b) (.bool b)
  | int (i : Int) : Rep K F H (.int i) (.int i)
  | str (x : Str) : Rep K F H (.str x) (.str x)
  | lst {a : Addr} {vs : List V} {ds : List PyData} : F a → Rd H a (.lst vs) → RepL K F H vs ds → Rep K F H (.ref a) (.list ds)
  | tup {a : Addr} {vs : List V} {ds : List PyData} : F a → Rd H a (.tup vs) → RepL K F H vs ds → Rep K F H (.ref a) (.tuple ds)
  | klst {a : Addr} {vs : List V} {ds : List PyData} : KL K.fr a vs → RepL K F H vs ds → Rep K F H (.ref a) (.list ds)
  | ktup {a : Addr} {vs : List V} {ds : List PyData} : KT K.fr a vs → RepL K F H vs ds → Rep K F H (.ref a) (.tuple ds)
inductive RepL (K : Kx) (F : As) (H : Hp) : List V → List PyData → Prop
  | nil : RepL K F H [] []
  | cons {v : V} {vs : List V} {d : PyData} {ds : List PyData} : Rep K F H v d → RepL K F H vs ds → RepL K F H (v :: vs) (d :: ds)
end
def noDct : PyData → Bool
  | .dict _ => false
  | _ => true
/-- an entry of a dict: its key, the key's object, its value -/
def Ent (K : Kx) (F : As) (H : Hp) (x : NestedKey × Addr × Value) (d : PyData × PyData) : Prop := keyN d.1 = some x.1 ∧ x.1.depth ≤ 8 ∧ Rep K F H (.ref x.2.1) d.1 ∧ ∃ v, RelV v x.2.2 ∧ Rep K F H v d.2
/-- what the heap holds at a dict -/
def DctAt (w : World) (a : Addr) (xs : List (NestedKey × Addr × Value)) (h : Heap) : Prop := (a == sysModules) = false ∧ ∃ o es ep, h.get? a = some o ∧ o.ExactDict ∧ o.data = .dict es ep ∧ es.toList = xs.map (fun x => (⟨x.1.hash w, .ref x.2.1, x.2.2⟩ : DictEntry)) ∧ (xs.map (·.1)).Nodup
def dctO (w : World) (a : Addr) (xs : List (NestedKey × Addr × Value)) (od : Obj) : HO := .ext fun h => DctAt w a xs h ∧ h.get? a = some od
/-- an own object's content -/
inductive Root (K : Kx) (F : As) (H : Hp) (a : Addr) : PyData → Prop
  | lst {vs : List V} {ds : List PyData} : H a = some (.lst vs) → RepL K F H vs ds → Root K F H a (.list ds)
  | dct {xs : List (NestedKey × Addr × Value)} {ds : List (PyData × PyData)} {od : Obj} : H a = some (dctO K.w a xs od) → Paired (Ent K F H) xs ds → Root K F H a (.dict ds)
  | rng {lo hi : Int} : H a = some (.rng lo hi) → Root K F H a (rngD lo hi)

section
variable {K : Kx} {F F' : As} {H H' : Hp}
theorem Rd.keep {a : Addr} {u : HO} (k : ∀ o, H a = some o → H' a = some o) (r : Rd H a u) : Rd H' a u := by
  rcases r with r | ⟨o, r⟩
  · exact .inl (k _ r)
  · exact .inr ⟨o, k _ r⟩
mutual
theorem Rep.mono (f : ∀ a, F a → F' a) (k : ∀ a o, F a → H a = some o → H' a = some o) : ∀ {v : V} {d : PyData}, Rep K F H v d → Rep K F' H' v d
  | _, _, .non => .non
  | _, _, .bl b => .bl b
  | _, _, .int i => .int i
  | _, _, .str x => .str x
  | _, _, .lst h r l => .lst (f _ h) (Rd.keep (fun o => k _ o h) r) (RepL.mono f k l)
  | _, _, .tup h r l => .tup (f _ h) (Rd.keep (fun o => k _ o h) r) (RepL.mono f k l)
  | _, _, .klst h l => .klst h (RepL.mono f k l)
  | _, _, .ktup h l => .ktup h (RepL.mono f k l)
theorem RepL.mono (f : ∀ a, F a → F' a) (k : ∀ a o, F a → H a = some o → H' a = some o) : ∀ {vs : List V} {ds : List PyData}, RepL K F H vs ds → RepL K F' H' vs ds
  | _, _, .nil => .nil
  | _, _, .cons a b => .cons (Rep.mono f k a) (RepL.mono f k b)
end
theorem RepL.length : ∀ {vs : List V} {ds : List PyData}, RepL K F H vs ds → vs.length = ds.length
  | _, _, .nil => rfl
  | _, _, .cons _ b => by simp [RepL.length b]
theorem RepL.append : ∀ {vs ws : List V} {ds es : List PyData}, RepL K F H vs ds → RepL K F H ws es → RepL K F H (vs ++ ws) (ds ++ es)
  | _, _, _, _, .nil, h => h
  | _, _, _, _, .cons a b, h => .cons a (RepL.append b h)
theorem RepL.get : ∀ {vs : List V} {ds : List PyData} {i : Nat} {d : PyData}, RepL K F H vs ds → ds[i]? = some d → ∃ v, vs[i]? = some v ∧ Rep K F H v d
  | _, _, _, _, .nil, h => by simp at h
  | _, _, 0, _, .cons a _, h => by simp at h; subst h; exact ⟨_, rfl, a⟩
  | _, _, i + 1, d, .cons _ b, h => by
    obtain ⟨v, h1, h2⟩ := RepL.get (i := i) b (by simpa using h)
    exact ⟨v, by simpa using h1, h2⟩
theorem RepL.take : ∀ {vs : List V} {ds : List PyData} (n : Nat), RepL K F H vs ds → RepL K F H (vs.take n) (ds.take n)
  | _, _, 0, _ => by simpa using .nil
  | _, _, _ + 1, .nil => .nil
  | _, _, n + 1, .cons a b => .cons a (RepL.take n b)
theorem RepL.drop : ∀ {vs : List V} {ds : List PyData} (n : Nat), RepL K F H vs ds → RepL K F H (vs.drop n) (ds.drop n)
  | _, _, 0, h => by simpa using h
  | _, _, _ + 1, .nil => .nil
  | _, _, n + 1, .cons _ b => by simpa using RepL.drop n b
theorem RepL.set : ∀ {vs : List V} {ds : List PyData} {v : V} {d : PyData} (n : Nat), RepL K F H vs ds → Rep K F H v d → RepL K F H (vs.set n v) (ds.set n d)
  | _, _, _, _, _, .nil, _ => .nil
  | _, _, _, _, 0, .cons _ b, h => .cons h b
  | _, _, _, _, n + 1, .cons a b, h => .cons a (RepL.set n b h)
theorem RepL.rev {vs : List V} {ds : List PyData} (h : RepL K F H vs ds) : RepL K F H vs.reverse ds.reverse := by
  have key : ∀ {vs : List V} {ds : List PyData}, RepL K F H vs ds → RepL K F H vs.reverse ds.reverse := by
    intro vs
    induction vs with
    | nil => intro ds h; cases h; exact .nil
    | cons v vs ih =>
      intro ds h
      cases h with
      | cons a b => simpa using (ih b).append (.cons a .nil)
  exact key h
theorem RepL.rep {vs : List V} {ds : List PyData} (h : RepL K F H vs ds) : ∀ n : Nat, RepL K F H (List.replicate n vs).flatten (List.replicate n ds).flatten
  | 0 => by simpa using .nil
  | n + 1 => by simpa [List.replicate_succ] using h.append (RepL.rep h n)
/-- a list that is read: tracked, known to the object, or of the written part -/
def SqS (K : PySem.W.Frag) (H : Hp) (a : Addr) (xs : List V) : Prop := Rd H a (.lst xs) ∨ KL K a xs
theorem SqS.sqL {a : Addr} {xs : List V} (h : SqS K.fr H a xs) : SqL K.fr H a xs := by
  rcases h with h | ⟨its, n, e, z, r⟩
  · exact .inl h
  · exact .inr ⟨_, its.toArray, n, e, rfl, rfl, rfl, by simpa using z, by simpa using r⟩
theorem Rep.sqL {a : Addr} {ds : List PyData} (h : Rep K F H (.ref a) (.list ds)) : ∃ vs, SqS K.fr H a vs ∧ RepL K F H vs ds := by
  cases h with
  | lst _ r l => exact ⟨_, .inl r, l⟩
  | klst k l => exact ⟨_, .inr k, l⟩
theorem Rep.sqT {a : Addr} {ds : List PyData} (h : Rep K F H (.ref a) (.tuple ds)) : ∃ vs, SqT K.fr H a vs ∧ RepL K F H vs ds := by
  cases h with
  | tup _ r l => exact ⟨_, .inl r, l⟩
  | ktup k l => exact ⟨_, .inr k, l⟩
mutual
theorem Rep.dp : ∀ {v : V} {d : PyData}, Rep K F H v d → Dp K.fr H v d
  | _, _, .non => .non
  | _, _, .bl b => .bl b
  | _, _, .int i => .int i
  | _, _, .str x => .str x
  | _, _, .lst _ r l => .lst (.inl r) (RepL.dp l)
  | _, _, .tup _ r l => .tup (.inl r) (RepL.dp l)
  | _, _, .klst k l => .lst (SqS.sqL (H := H) (.inr k)) (RepL.dp l)
  | _, _, .ktup k l => .tup (.inr k) (RepL.dp l)
theorem RepL.dp : ∀ {vs : List V} {ds : List PyData}, RepL K F H vs ds → DpAll K.fr H vs ds
  | _, _, .nil => .nil
  | _, _, .cons a b => .cons (Rep.dp a) (RepL.dp b)
end
theorem Ent.mono (f : ∀ a, F a → F' a) (k : ∀ a o, F a → H a = some o → H' a = some o) {x : NestedKey × Addr × Value} {d : PyData × PyData} (h : Ent K F H x d) : Ent K F' H' x d := by
  obtain ⟨h1, h2, h3, v, h4, h5⟩ := h
  exact ⟨h1, h2, h3.mono f k, v, h4, h5.mono f k⟩
theorem Root.there {a : Addr} {d : PyData} (h : Root K F H a d) : H a ≠ none := by
  cases h with
  | lst e _ => rw [e]; simp
  | dct e _ => rw [e]; simp
  | rng e => rw [e]; simp
theorem Root.mono {a : Addr} {d : PyData} (f : ∀ a, F a → F' a) (k : ∀ b o, F b → H b = some o → H' b = some o) (ka : ∀ o, H a = some o → H' a = some o) (h : Root K F H a d) : Root K F' H' a d := by
  cases h with
  | lst e l => exact .lst (ka _ e) (l.mono f k)
  | dct e l => exact .dct (ka _ e) (Paired.mapP l fun _ _ z => z.mono f k)
  | rng e => exact .rng (ka _ e)
end

/-! ## the slots -/
def OwnAt (e : En) (σ : L2.St) (i : Nat) (a : Addr) : Prop := (∃ l k x, getS e i = .ow l k x) ∧ σ[i]? = some (some (.ref a))
def OwnA (e : En) (σ : L2.St) (a : Addr) : Prop := ∃ i, OwnAt e σ i a
def MutA (e : En) (σ : L2.St) (a : Addr) : Prop := ∃ i, (∃ l x, getS e i = .ow l false x) ∧ σ[i]? = some (some (.ref a))
def SlotOk (K : Kx) (F : As) (H : Hp) : Sl → Option (Option V) → Prop
  | .sh d, o => ∃ v, o = some (some v) ∧ Rep K F H v d
  | .ow _ _ d, o => ∃ a, o = some (some (.ref a)) ∧ ¬ F a ∧ Root K F H a d
  | .ex c x, o => ∃ a dx w, o = some (some (.ref a)) ∧ K.px a c dx ∧ H dx = some (.xd [("at", w)]) ∧ Rep K F H w x
  | .no, _ => True
structure Rel (K : Kx) (F : As) (e : En) (σ : L2.St) (H : Hp) : Prop where
  len : e.length = σ.length
  dom : ∀ a, F a → H a ≠ none
  slot : ∀ i, SlotOk K F H (getS e i) σ[i]?
  apart : ∀ i j a, OwnAt e σ i a → OwnAt e σ j a → i = j
theorem SlotOk.exm {K : Kx} {F F' : As} {H H' : Hp} {c : Nat} {x : PyData} {o : Option (Option V)} (q : SlotOk K F H (.ex c x) o) (f : ∀ a, F a → F' a) (k : ∀ a u, F a → H a = some u → H' a = some u) (kx : ∀ d fs, H d = some (.xd fs) → H' d = some (.xd fs)) : SlotOk K F' H' (.ex c x) o := by
  obtain ⟨a, dx, w, h1, h2, h3, h4⟩ := q
  exact ⟨a, dx, w, h1, h2, kx _ _ h3, h4.mono f k⟩
/-- what a value of Vl stands for -/
def VR (K : Kx) (F : As) (e : En) (σ : L2.St) (H : Hp) (v : V) : Vl → Prop
  | .d x => Rep K F H v x
  | .o x => ∃ a, v = .ref a ∧ ¬ F a ∧ ¬ OwnA e σ a ∧ Root K F H a x
  | .p i => σ[i]? = some (some v) ∧ i < e.length
/-- fresh since H -/
def Nw (H : Hp) (v : V) : Vl → Prop
  | .o _ => ∀ a, v = .ref a → H a = none
  | _ => True
/-- unlike fresh objects -/
def Ap (v : V) : Vl → List V → List Vl → Prop
  | .o x, w :: ws, .o _ :: us => w ≠ v ∧ Ap v (.o x) ws us
  | .o x, _ :: ws, _ :: us => Ap v (.o x) ws us
  | _, _, _ => True
def VRs (K : Kx) (F : As) (e : En) (σ : L2.St) (H H0 : Hp) : List V → List Vl → Prop
  | [], [] => True
  | v :: vs, u :: us => VR K F e σ H v u ∧ Nw H0 v u ∧ Ap v u vs us ∧ VRs K F e σ H H0 vs us
  | _, _ => False
/-- what may have changed -/
structure Fr (F : As) (e : En) (σ : L2.St) (H : Hp) (F' : As) (e' : En) (σ' : L2.St) (H' : Hp) : Prop where
  ln : e'.length = e.length
  keep : ∀ a o, H a = some o → ¬ MutA e σ a → H' a = some o
  dom : ∀ a, H a ≠ none → H' a ≠ none
  grow : ∀ a, F a → F' a
  new : ∀ a, F' a → F a ∨ OwnA e σ a ∨ H a = none
  own : ∀ a, OwnA e' σ' a → OwnA e σ a ∨ H a = none
  muts : ∀ a, MutA e' σ' a → MutA e σ a ∨ H a = none
  lent : ∀ i k x, getS e' i = .ow true k x → (∃ k' x', getS e i = .ow true k' x') ∧ σ'[i]? = σ[i]?
  lkd : ∀ i l x, getS e i = .ow l true x → getS e' i = .ow l true x ∧ σ'[i]? = σ[i]?

section
variable {K : Kx} {F F' F1 F2 : As} {e e' e1 e2 : En} {σ σ' σ1 σ2 : L2.St} {H H' H1 H2 : Hp}
theorem MutA.own {a : Addr} (h : MutA e σ a) : OwnA e σ a := by
  obtain ⟨i, ⟨l, x, h1⟩, h2⟩ := h
  exact ⟨i, ⟨l, false, x, h1⟩, h2⟩
theorem Rel.own (r : Rel K F e σ H) {a : Addr} (h : OwnA e σ a) : ¬ F a ∧ H a ≠ none := by
  obtain ⟨i, ⟨l, k, x, h1⟩, h2⟩ := h
  have q := r.slot i
  rw [h1] at q
  obtain ⟨b, e1, nf, ro⟩ := q
  rw [h2] at e1
  cases e1
  exact ⟨nf, ro.there⟩
theorem Rel.notMut (r : Rel K F e σ H) {d : Addr} {fs : List (Str × V)} (h : H d = some (.xd fs)) : ¬ OwnA e σ d := fun ⟨i, ⟨l, k, x, h1⟩, h2⟩ => by
  have q := r.slot i
  rw [h1] at q
  obtain ⟨b, e1, nf, ro⟩ := q
  rw [h2] at e1
  cases e1
  cases ro with
  | lst e2 _ => rw [h] at e2; cases e2
  | dct e2 _ => rw [h] at e2; cases e2
  | rng e2 => rw [h] at e2; cases e2
theorem Rel.frz (r : Rel K F e σ H) {a : Addr} (h : F a) : ¬ MutA e σ a := fun m => (r.own m.own).1 h
theorem Fr.refl : Fr F e σ H F e σ H := ⟨rfl, fun _ _ h _ => h, fun _ h => h, fun _ h => h, fun _ h => .inl h, fun _ h => .inl h, fun _ h => .inl h, fun _ k x h => ⟨⟨k, x, h⟩, rfl⟩, fun _ _ _ h => ⟨h, rfl⟩⟩
theorem Fr.keepF (f : Fr F e σ H F' e' σ' H') (r : Rel K F e σ H) : ∀ a o, F a → H a = some o → H' a = some o := fun a o h q => f.keep a o q (r.frz h)
theorem Fr.trans (r : Rel K F e σ H) (a : Fr F e σ H F1 e1 σ1 H1) (b : Fr F1 e1 σ1 H1 F2 e2 σ2 H2) : Fr F e σ H F2 e2 σ2 H2 where
  ln := b.ln.trans a.ln
  keep := fun x o h n => b.keep x o (a.keep x o h n) fun m => (a.muts x m).elim n fun z => by rw [h] at z; cases z
  dom := fun x h => b.dom x (a.dom x h)
  grow := fun x h => b.grow x (a.grow x h)
  new := fun x h => by
    rcases b.new x h with h | h | h
    · exact a.new x h
    · rcases a.own x h with h | h
      · exact .inr (.inl h)
      · exact .inr (.inr h)
    · refine .inr (.inr ?_)
      cases q : H x with
      | none => rfl
      | some o => exact absurd h (a.dom x (by rw [q]; simp))
  own := fun x h => by
    rcases b.own x h with h | h
    · exact a.own x h
    · refine .inr ?_
      cases q : H x with
      | none => rfl
      | some o => exact absurd h (a.dom x (by rw [q]; simp))
  muts := fun x h => by
    rcases b.muts x h with h | h
    · exact a.muts x h
    · refine .inr ?_
      cases q : H x with
      | none => rfl
      | some o => exact absurd h (a.dom x (by rw [q]; simp))
  lent := fun i k x h => by
    obtain ⟨⟨k1, x1, h1⟩, s1⟩ := b.lent i k x h
    obtain ⟨h2, s2⟩ := a.lent i k1 x1 h1
    exact ⟨h2, s1.trans s2⟩
  lkd := fun i l x h => by
    obtain ⟨h1, s1⟩ := a.lkd i l x h
    obtain ⟨h2, s2⟩ := b.lkd i l x h1
    exact ⟨h2, s2.trans s1⟩
/-- a value stays what it is through what comes behind it -/
theorem VR.keep {v : V} {u : Vl} (r : Rel K F e σ H) (f : Fr F e σ H F' e' σ H') (h : VR K F e σ H v u) : VR K F' e' σ H' v u := by
  cases u with
  | d x => exact Rep.mono f.grow (f.keepF r) h
  | o x =>
    obtain ⟨a, ev, nf, no, ro⟩ := h
    refine ⟨a, ev, fun q => ?_, fun q => ?_, ro.mono f.grow (f.keepF r) fun o q => f.keep a o q fun m => no m.own⟩
    · rcases f.new a q with q | q | q
      · exact nf q
      · exact no q
      · exact ro.there q
    · rcases f.own a q with q | q
      · exact no q
      · exact ro.there q
  | p i => exact ⟨h.1, by rw [f.ln]; exact h.2⟩
theorem getS_setS : ∀ {e : En} {i j : Nat} {s : Sl}, i < e.length → getS (setS e i s) j = if j = i then s else getS e j
  | [], _, _, _, h => by simp at h
  | _ :: _, 0, 0, _, _ => by simp [setS, getS]
  | _ :: _, 0, j + 1, _, _ => by simp [setS, getS]
  | _ :: _, i + 1, 0, _, _ => by simp [setS, getS]
  | _ :: r, i + 1, j + 1, s, h => by
    simp only [setS, getS]
    rw [getS_setS (by simpa using h)]
    simp
theorem setS_length : ∀ {e : En} {i : Nat} {s : Sl}, (setS e i s).length = e.length
  | [], _, _ => rfl
  | _ :: _, 0, _ => rfl
  | _ :: r, i + 1, s => by simp [setS, setS_length (e := r)]
theorem getS_lt : ∀ {e : En} {i : Nat}, getS e i ≠ .no → i < e.length
  | [], _, h => absurd rfl h
  | _ :: _, 0, _ => by simp
  | _ :: r, i + 1, h => by
    have q : getS r i ≠ .no := h
    simpa using getS_lt q
/-- the content of an own slot becomes shared data -/
theorem share {i : Nat} {x : PyData} (r : Rel K F e σ H) (h : getS e i = .ow false false x) (nd : noDct x = true) :
    ∃ a F', σ[i]? = some (some (.ref a)) ∧ Rel K F' (setS e i (.sh x)) σ H ∧ Fr F e σ H F' (setS e i (.sh x)) σ H ∧ Rep K F' H (.ref a) x := by
  have hi : i < e.length := getS_lt (by rw [h]; simp)
  have q := r.slot i
  rw [h] at q
  obtain ⟨a, ea, nf, ro⟩ := q
  have mo : ∀ b, F b → F b ∨ b = a := fun _ z => .inl z
  have rp : Rep K (fun b => F b ∨ b = a) H (.ref a) x := by
    cases ro with
    | lst e1 l => exact .lst (.inr rfl) (.inl e1) (l.mono mo fun _ _ _ z => z)
    | dct e1 l => cases nd
    | rng e1 => cases nd
  have ne : ∀ j b, j ≠ i → OwnAt e σ j b → b ≠ a := fun j b n z w => by
    subst w
    exact n (r.apart j i b z ⟨⟨_, _, _, h⟩, ea⟩)
  have own' : ∀ j b, OwnAt (setS e i (.sh x)) σ j b → j ≠ i ∧ OwnAt e σ j b := fun j b ⟨⟨l, k, y, z1⟩, z2⟩ => by
    rw [getS_setS hi] at z1
    split at z1
    · cases z1
    · exact ⟨by assumption, ⟨l, k, y, z1⟩, z2⟩
  refine ⟨a, fun b => F b ∨ b = a, ea, ⟨by rw [setS_length]; exact r.len, fun b z => ?_, fun j => ?_, fun j k b z1 z2 => r.apart j k b (own' j b z1).2 (own' k b z2).2⟩,
    ⟨setS_length, fun _ _ z _ => z, fun _ z => z, mo, fun b z => ?_, fun b ⟨j, z⟩ => .inl ⟨j, (own' j b z).2⟩, fun b ⟨j, ⟨l, y, z1⟩, z2⟩ => .inl ?_, fun j k y z => ?_, fun j l y z => ?_⟩, rp⟩
  · rcases z with z | z
    · exact r.dom b z
    · rw [z]; exact ro.there
  · rw [getS_setS hi]
    split
    · rename_i c; subst c; exact ⟨_, ea, rp⟩
    · rename_i c
      have q := r.slot j
      cases g : getS e j with
      | sh d =>
        rw [g] at q
        obtain ⟨v, z1, z2⟩ := q
        exact ⟨v, z1, z2.mono mo fun _ _ _ z => z⟩
      | ow l k d =>
        rw [g] at q
        obtain ⟨b, z1, z2, z3⟩ := q
        exact ⟨b, z1, fun w => w.elim z2 (ne j b c ⟨⟨l, k, d, g⟩, z1⟩), z3.mono mo (fun _ _ _ z => z) fun _ z => z⟩
      | no => trivial
      | ex c' y => rw [g] at q; exact q.exm mo (fun _ _ _ z => z) fun _ _ z => z
  · rcases z with z | z
    · exact .inl z
    · exact .inr (.inl ⟨i, ⟨_, _, _, h⟩, by rw [z]; exact ea⟩)
  · rw [getS_setS hi] at z1
    split at z1
    · cases z1
    · exact ⟨j, ⟨l, y, z1⟩, z2⟩
  · rw [getS_setS hi] at z
    split at z
    · cases z
    · exact ⟨⟨k, y, z⟩, rfl⟩
  · refine ⟨?_, rfl⟩
    rw [getS_setS hi, if_neg]
    · exact z
    · intro w; rw [w, h] at z; cases z
/-- a fresh object becomes shared data -/
theorem freeze {a : Addr} {x : PyData} (r : Rel K F e σ H) (nf : ¬ F a) (no : ¬ OwnA e σ a) (ro : Root K F H a x) (fresh : H1 a = none) (f1 : Fr F1 e1 σ1 H1 F e σ H) (nd : noDct x = true) :
    ∃ F', Rel K F' e σ H ∧ Fr F1 e1 σ1 H1 F' e σ H ∧ (∀ b, F b → F' b) ∧ (∀ b, F' b → F b ∨ b = a) ∧ Rep K F' H (.ref a) x := by
  have mo : ∀ b, F b → F b ∨ b = a := fun _ z => .inl z
  have rp : Rep K (fun b => F b ∨ b = a) H (.ref a) x := by
    cases ro with
    | lst e1 l => exact .lst (.inr rfl) (.inl e1) (l.mono mo fun _ _ _ z => z)
    | dct e1 l => cases nd
    | rng e1 => cases nd
  refine ⟨fun b => F b ∨ b = a, ⟨r.len, fun b z => ?_, fun j => ?_, r.apart⟩, { f1 with grow := fun b z => .inl (f1.grow b z), new := fun b z => ?_ }, mo, fun _ z => z, rp⟩
  · rcases z with z | z
    · exact r.dom b z
    · rw [z]; exact ro.there
  · have q := r.slot j
    cases g : getS e j with
    | sh d =>
      rw [g] at q
      obtain ⟨v, z1, z2⟩ := q
      exact ⟨v, z1, z2.mono mo fun _ _ _ z => z⟩
    | ow l k d =>
      rw [g] at q
      obtain ⟨b, z1, z2, z3⟩ := q
      exact ⟨b, z1, fun w => w.elim z2 fun c => no ⟨j, ⟨l, k, d, g⟩, by rw [← c]; exact z1⟩, z3.mono mo (fun _ _ _ z => z) fun _ z => z⟩
    | no => trivial
    | ex c' y => rw [g] at q; exact q.exm mo (fun _ _ _ z => z) fun _ _ z => z
  · rcases z with z | z
    · exact f1.new b z
    · rw [z]; exact .inr (.inr fresh)
end
end Ev
end

section
set_option Elab.async false
set_option linter.all false
set_option maxRecDepth 100000
namespace Ev
open PySem PySem.Spec PyProof.Rows L2
section
variable {K : Kx} {F F' F0 F1 F2 : As} {e e' e0 e1 e2 : En} {σ σ' σ0 σ1 σ2 : L2.St} {H H' H0 H1 H2 : Hp}

/-! ## a value looked at -/
/-- v is d, its own object in F or not -/
inductive Pk (K : Kx) (F : As) (H : Hp) : V → PyData → Prop
  | rep {v : V} {d : PyData} : Rep K F H v d → Pk K F H v d
  | root {a : Addr} {d : PyData} : Root K F H a d → Pk K F H (.ref a) d
theorem res_ok (r : Rel K F e σ H) {v : V} {u : Vl} {x : PyData} (h : VR K F e σ H v u) (q : res e u = some x) : Pk K F H v x := by
  cases u with
  | d y => cases q; exact .rep h
  | o y =>
    cases q
    obtain ⟨a, rfl, _, _, ro⟩ := h
    exact .root ro
  | p i =>
    have s := r.slot i
    unfold res at q
    dsimp only at q
    cases g : getS e i with
    | sh d =>
      rw [g] at s q
      cases q
      obtain ⟨w, e1, rp⟩ := s
      have e2 := h.1
      rw [e1] at e2
      cases e2
      exact .rep rp
    | ow l k d =>
      rw [g] at s q
      cases q
      obtain ⟨a, e1, _, ro⟩ := s
      have e2 := h.1
      rw [e1] at e2
      cases e2
      exact .root ro
    | no => rw [g] at q; cases q
    | ex c a => rw [g] at q; cases q
theorem Pk.dp {v : V} {d : PyData} (h : Pk K F H v d) (nd : noDct d = true) : Dp K.fr H v d := by
  cases h with
  | rep h => exact h.dp
  | root h =>
    cases h with
    | lst e l => exact .lst (.inl (.inl e)) l.dp
    | dct e l => cases nd
    | rng e => cases nd
theorem shp_noDct {d : PyData} (h : shp d = true) : noDct d = true := by
  cases d <;> first | rfl | (simp [shp, okD] at h)
theorem Pk.none {v : V} (h : Pk K F H v .none) : v = .non := by
  cases h with
  | rep h => cases h; rfl
  | root h => cases h
theorem Pk.bool {v : V} {b : Bool} (h : Pk K F H v (.bool b)) : v = .bl b := by
  cases h with
  | rep h => cases h; rfl
  | root h => cases h
theorem Pk.int {v : V} {i : Int} (h : Pk K F H v (.int i)) : v = .int i := by
  cases h with
  | rep h => cases h; rfl
  | root h => cases h
theorem Pk.str {v : V} {x : Str} (h : Pk K F H v (.str x)) : v = .str x := by
  cases h with
  | rep h => cases h; rfl
  | root h => cases h
theorem Pk.list {v : V} {ds : List PyData} (h : Pk K F H v (.list ds)) : ∃ a vs, v = .ref a ∧ SqS K.fr H a vs ∧ RepL K F H vs ds := by
  cases h with
  | rep h =>
    cases h with
    | lst f r l => exact ⟨_, _, rfl, .inl r, l⟩
    | klst k l => exact ⟨_, _, rfl, .inr k, l⟩
  | root h => cases h with | lst e l => exact ⟨_, _, rfl, .inl (.inl e), l⟩
theorem Pk.tuple {v : V} {ds : List PyData} (h : Pk K F H v (.tuple ds)) : ∃ a vs, v = .ref a ∧ SqT K.fr H a vs ∧ RepL K F H vs ds := by
  cases h with
  | rep h =>
    cases h with
    | tup f r l => exact ⟨_, _, rfl, .inl r, l⟩
    | ktup k l => exact ⟨_, _, rfl, .inr k, l⟩
  | root h => cases h
theorem Pk.dref {v : V} {ds : List (PyData × PyData)} (h : Pk K F H v (.dict ds)) : ∃ a, v = .ref a := by
  cases h with
  | rep h => cases h
  | root h => exact ⟨_, rfl⟩
theorem Root.dict {a : Addr} {ds : List (PyData × PyData)} (h : Root K F H a (.dict ds)) (hb : dctB ds = true) : ∃ xs od, H a = some (dctO K.w a xs od) ∧ Paired (Ent K F H) xs ds := by
  generalize ed : PyData.dict ds = d at h
  cases h with
  | lst e l => cases ed
  | dct e l => cases ed; exact ⟨_, _, e, l⟩
  | rng e => unfold rngD at ed; cases ed; cases hb
theorem Root.rngE {a : Addr} {lo hi : Int} (h : Root K F H a (rngD lo hi)) : H a = some (.rng lo hi) := by
  generalize ed : rngD lo hi = d at h
  cases h with
  | lst e l => cases ed
  | dct e l =>
    unfold rngD at ed
    cases ed
    cases l with
    | cons p _ => cases p.1
  | rng e => unfold rngD at ed; cases ed; exact e
theorem Pk.dict {v : V} {ds : List (PyData × PyData)} (h : Pk K F H v (.dict ds)) (hb : dctB ds = true) : ∃ a xs od, v = .ref a ∧ H a = some (dctO K.w a xs od) ∧ Paired (Ent K F H) xs ds := by
  cases h with
  | rep h => cases h
  | root h => obtain ⟨xs, od, h1, h2⟩ := h.dict hb; exact ⟨_, xs, od, rfl, h1, h2⟩
theorem Pk.rng {v : V} {lo hi : Int} (h : Pk K F H v (rngD lo hi)) : ∃ a, v = .ref a ∧ H a = some (.rng lo hi) := by
  generalize ed : rngD lo hi = d at h
  cases h with
  | rep h => unfold rngD at ed; subst ed; cases h
  | root h => subst ed; exact ⟨_, rfl, h.rngE⟩

/-! ## a value taken into other data -/
theorem VR.grow (hF : ∀ a, F a → F' a) (r : ∀ a, F' a → F a ∨ OwnA e σ a ∨ a ∈ ([] : List Addr)) {v : V} {u : Vl} (o : ∀ a, OwnA e' σ a → OwnA e σ a) (l : e'.length = e.length) (h : VR K F e σ H v u) : VR K F' e' σ H v u := by
  cases u with
  | d x => exact Rep.mono hF (fun _ _ _ z => z) h
  | o x =>
    obtain ⟨a, ev, nf, no, ro⟩ := h
    refine ⟨a, ev, fun q => ?_, fun q => no (o _ q), ro.mono hF (fun _ _ _ z => z) fun _ z => z⟩
    rcases r a q with q | q | q
    · exact nf q
    · exact no q
    · simp at q
  | p i => exact ⟨h.1, by rw [l]; exact h.2⟩
/-- the same beside one object that is frozen -/
theorem VR.grow1 {c : Addr} (hF : ∀ a, F a → F' a) (r : ∀ a, F' a → F a ∨ OwnA e σ a ∨ a = c) {v : V} {u : Vl} (o : ∀ a, OwnA e' σ a → OwnA e σ a) (l : e'.length = e.length) (n : ∀ x, u = .o x → v ≠ .ref c) (h : VR K F e σ H v u) : VR K F' e' σ H v u := by
  cases u with
  | d x => exact Rep.mono hF (fun _ _ _ z => z) h
  | o x =>
    obtain ⟨a, ev, nf, no, ro⟩ := h
    refine ⟨a, ev, fun q => ?_, fun q => no (o _ q), ro.mono hF (fun _ _ _ z => z) fun _ z => z⟩
    rcases r a q with q | q | q
    · exact nf q
    · exact no q
    · exact n x rfl (by rw [ev, q])
  | p i => exact ⟨h.1, by rw [l]; exact h.2⟩
theorem VRs.grow (hF : ∀ a, F a → F' a) (r : ∀ a, F' a → F a ∨ OwnA e σ a ∨ a ∈ ([] : List Addr)) (o : ∀ a, OwnA e' σ a → OwnA e σ a) (l : e'.length = e.length) : ∀ {vs : List V} {us : List Vl}, VRs K F e σ H H0 vs us → VRs K F' e' σ H H0 vs us
  | [], [], _ => trivial
  | _ :: _, _ :: _, h => ⟨VR.grow hF r o l h.1, h.2.1, h.2.2.1, VRs.grow hF r o l h.2.2.2⟩
  | [], _ :: _, h => h.elim
  | _ :: _, [], h => h.elim
theorem VRs.grow1 {c : Addr} {y : PyData} (hF : ∀ a, F a → F' a) (r : ∀ a, F' a → F a ∨ OwnA e σ a ∨ a = c) (o : ∀ a, OwnA e' σ a → OwnA e σ a) (l : e'.length = e.length) : ∀ {vs : List V} {us : List Vl}, Ap (.ref c) (.o y) vs us → VRs K F e σ H H0 vs us → VRs K F' e' σ H H0 vs us
  | [], [], _, _ => trivial
  | w :: ws, u :: us, n, h => by
    refine ⟨VR.grow1 hF r o l (fun x q => ?_) h.1, h.2.1, h.2.2.1, VRs.grow1 (y := y) hF r o l ?_ h.2.2.2⟩
    · subst q; exact n.1
    · cases u with
      | d x => exact n
      | o x => exact n.2
      | p i => exact n
  | [], _ :: _, _, h => h.elim
  | _ :: _, [], _, h => h.elim
theorem take_ok (r : Rel K F e σ H) (f : Fr F0 e0 σ0 H0 F e σ H) {v : V} {u : Vl} {x : PyData} (h : VR K F e σ H v u) (n : Nw H0 v u) (q : take e u = some (x, e')) :
    ∃ F', Rel K F' e' σ H ∧ Fr F0 e0 σ0 H0 F' e' σ H ∧ Rep K F' H v x ∧ (∀ a, F a → F' a) ∧ (∀ a, OwnA e' σ a → OwnA e σ a) ∧ e'.length = e.length ∧
      (∀ (vs : List V) (us : List Vl) (HH : Hp), Ap v u vs us → VRs K F e σ H HH vs us → VRs K F' e' σ H HH vs us) ∧ ∀ a, F' a → F a ∨ OwnA e σ a ∨ ∃ x, u = .o x ∧ v = .ref a := by
  cases u with
  | d y => cases q; exact ⟨F, r, f, h, fun _ z => z, fun _ z => z, rfl, fun _ _ _ _ z => z, fun _ z => .inl z⟩
  | o y =>
    have hq : noDct y = true ∧ y = x ∧ e = e' := by cases y <;> first | (cases q; exact ⟨rfl, rfl, rfl⟩) | cases q
    obtain ⟨nd, rfl, rfl⟩ := hq
    obtain ⟨a, rfl, nf, no, ro⟩ := h
    obtain ⟨F', r', f', g, g2, rp⟩ := freeze r nf no ro (n a rfl) f nd
    exact ⟨F', r', f', rp, g, fun _ z => z, rfl, fun vs us HH ap z => VRs.grow1 g (fun b w => (g2 b w).imp id .inr) (fun _ z => z) rfl ap z, fun b w => (g2 b w).imp id fun c => .inr ⟨_, rfl, by rw [c]⟩⟩
  | p i =>
    unfold take at q
    dsimp only at q
    cases g : getS e i with
    | sh d =>
      rw [g] at q
      cases q
      have s := r.slot i
      rw [g] at s
      obtain ⟨w, e1, rp⟩ := s
      have e2 := h.1
      rw [e1] at e2
      cases e2
      exact ⟨F, r, f, rp, fun _ z => z, fun _ z => z, rfl, fun _ _ _ _ z => z, fun _ z => .inl z⟩
    | ow l k d =>
      rw [g] at q
      cases l with
      | true => simp at q
      | false =>
        cases k with
        | true => simp at q
        | false =>
          have hq : noDct d = true ∧ d = x ∧ setS e i (.sh d) = e' := by cases d <;> first | (cases q; exact ⟨rfl, rfl, rfl⟩) | cases q
          obtain ⟨nd, rfl, rfl⟩ := hq
          obtain ⟨a, F', ea, r', f', rp⟩ := share r g nd
          have e2 := h.1
          rw [ea] at e2
          cases e2
          have hi : i < e.length := getS_lt (by rw [g]; simp)
          have oo : ∀ b, OwnA (setS e i (.sh d)) σ b → OwnA e σ b := fun b ⟨j, ⟨l, k, y, z1⟩, z2⟩ => by
            rw [getS_setS hi] at z1
            split at z1
            · cases z1
            · exact ⟨j, ⟨l, k, y, z1⟩, z2⟩
          refine ⟨F', r', ?_, rp, f'.grow, oo, setS_length, fun vs us HH _ z => ?_, fun b w => ?_⟩
          · refine ⟨f'.ln.trans f.ln, f.keep, f.dom, fun b z => f'.grow b (f.grow b z), fun b z => ?_, fun b z => f.own b (oo b z), fun b z => ?_, fun j k y z => ?_, fun j l y z => ?_⟩
            · rcases f'.new b z with z | z | z
              · exact f.new b z
              · rcases f.own b z with z | z
                · exact .inr (.inl z)
                · exact .inr (.inr z)
              · refine .inr (.inr ?_)
                cases q : H0 b with
                | none => rfl
                | some o => exact absurd z (f.dom b (by rw [q]; simp))
            · obtain ⟨j, ⟨l, y, z1⟩, z2⟩ := z
              rw [getS_setS hi] at z1
              split at z1
              · cases z1
              · exact f.muts b ⟨j, ⟨l, y, z1⟩, z2⟩
            · obtain ⟨⟨k1, x1, h1⟩, s1⟩ := f'.lent j k y z
              obtain ⟨h2, s2⟩ := f.lent j k1 x1 h1
              exact ⟨h2, s1.trans s2⟩
            · obtain ⟨h1, s1⟩ := f.lkd j l y z
              obtain ⟨h2, s2⟩ := f'.lkd j l y h1
              exact ⟨h2, s2.trans s1⟩
          · refine VRs.grow f'.grow (fun b w => ?_) oo setS_length z
            rcases f'.new b w with w | w | w
            · exact .inl w
            · exact .inr (.inl w)
            · exact absurd w (r'.dom b ‹_›)
          · rcases f'.new b w with w' | w' | w'
            · exact .inl w'
            · exact .inr (.inl w')
            · exact absurd w' (r'.dom b w)
    | no => rw [g] at q; cases q
    | ex c a => rw [g] at q; cases q
/-- all of a list of values taken -/
theorem takes_ok : ∀ {us : List Vl} {vs : List V} {xs : List PyData} {e e' : En} {F : As}, Rel K F e σ H → Fr F0 e0 σ0 H0 F e σ H → VRs K F e σ H H0 vs us → takes e us = some (xs, e') →
    ∃ F', Rel K F' e' σ H ∧ Fr F0 e0 σ0 H0 F' e' σ H ∧ RepL K F' H vs xs ∧ (∀ a, F a → F' a) ∧ e'.length = e.length
  | [], [], xs, e, e', F, r, f, _, q => by cases q; exact ⟨F, r, f, .nil, fun _ z => z, rfl⟩
  | u :: us, v :: vs, xs, e, e', F, r, f, h, q => by
    unfold takes at q
    cases t : take e u with
    | none => rw [t] at q; cases q
    | some p =>
      obtain ⟨x, e1⟩ := p
      rw [t] at q
      simp only at q
      cases t2 : takes e1 us with
      | none => rw [t2] at q; cases q
      | some p =>
        obtain ⟨ys, e2⟩ := p
        rw [t2] at q
        simp only [Option.some.injEq, Prod.mk.injEq] at q
        obtain ⟨rfl, rfl⟩ := q
        obtain ⟨F1, r1, f1, rp, g1, o1, l1, rest⟩ := take_ok r f h.1 h.2.1 t
        obtain ⟨F2, r2, f2, rl, g2, l2⟩ := takes_ok r1 f1 (rest.1 vs us H0 h.2.2.1 h.2.2.2) t2
        exact ⟨F2, r2, f2, .cons (rp.mono g2 fun _ _ _ z => z) rl, fun a z => g2 a (g1 a z), l2.trans l1⟩
  | [], _ :: _, _, _, _, _, _, _, h, _ => h.elim
  | _ :: _, [], _, _, _, _, _, _, h, _ => h.elim
/-- all looked at -/
inductive PkL (K : Kx) (F : As) (H : Hp) : List V → List PyData → Prop
  | nil : PkL K F H [] []
  | cons {v : V} {vs : List V} {d : PyData} {ds : List PyData} : Pk K F H v d → PkL K F H vs ds → PkL K F H (v :: vs) (d :: ds)
theorem ress_ok (r : Rel K F e σ H) : ∀ {us : List Vl} {vs : List V} {xs : List PyData}, VRs K F e σ H H0 vs us → ress e us = some xs → PkL K F H vs xs
  | [], [], _, _, q => by cases q; exact .nil
  | u :: us, v :: vs, xs, h, q => by
    unfold ress at q
    cases t : res e u with
    | none => rw [t] at q; simp at q
    | some x =>
      rw [t] at q
      cases t2 : ress e us with
      | none => rw [t2] at q; simp at q
      | some ys =>
        rw [t2] at q
        cases q
        exact .cons (res_ok r h.1 t) (ress_ok r h.2.2.2 t2)
  | [], _ :: _, _, h, _ => h.elim
  | _ :: _, [], _, h, _ => h.elim
theorem VRs.keep (r : Rel K F e σ H) (f : Fr F e σ H F' e' σ H') : ∀ {vs : List V} {us : List Vl}, VRs K F e σ H H0 vs us → VRs K F' e' σ H' H0 vs us
  | [], [], _ => trivial
  | _ :: _, _ :: _, h => ⟨VR.keep r f h.1, h.2.1, h.2.2.1, VRs.keep r f h.2.2.2⟩
  | [], _ :: _, h => h.elim
  | _ :: _, [], h => h.elim
theorem Nw.old {v : V} {u : Vl} (d : ∀ a, H0 a ≠ none → H a ≠ none) (n : Nw H v u) : Nw H0 v u := by
  cases u with
  | o x =>
    intro a ea
    cases q : H0 a with
    | none => rfl
    | some o => exact absurd (n a ea) (d a (by rw [q]; simp))
  | _ => trivial
theorem VRs.old (d : ∀ a, H0 a ≠ none → H1 a ≠ none) : ∀ {vs : List V} {us : List Vl}, VRs K F e σ H H1 vs us → VRs K F e σ H H0 vs us
  | [], [], _ => trivial
  | _ :: _, _ :: _, h => ⟨h.1, h.2.1.old d, h.2.2.1, VRs.old d h.2.2.2⟩
  | [], _ :: _, h => h.elim
  | _ :: _, [], h => h.elim
/-- an elder fresh object is none of the later ones -/
theorem VRs.ap {v : V} {u : Vl} (hv : ∀ x a, u = .o x → v = .ref a → H1 a ≠ none) : ∀ {vs : List V} {us : List Vl}, VRs K F e σ H H1 vs us → Ap v u vs us
  | [], [], _ => by cases u <;> trivial
  | w :: ws, y :: ys, h => by
    cases u with
    | d x => trivial
    | p i => trivial
    | o x =>
      cases y with
      | d z =>
        show Ap v (.o x) ws ys
        exact VRs.ap hv h.2.2.2
      | p i =>
        show Ap v (.o x) ws ys
        exact VRs.ap hv h.2.2.2
      | o z =>
        refine ⟨fun q => ?_, VRs.ap hv h.2.2.2⟩
        obtain ⟨b, rfl, _⟩ := h.1
        exact hv x b rfl q.symm (h.2.1 b rfl)
  | [], _ :: _, h => h.elim
  | _ :: _, [], h => h.elim
end
end Ev
end

section
set_option Elab.async false
set_option linter.all false
set_option maxRecDepth 100000
set_option maxHeartbeats 2000000
namespace Ev
open PySem PySem.Spec PyProof.Rows L2
section
variable {K : Kx} {F F' F0 F1 F2 : As} {e e' e0 e1 e2 : En} {σ σ' σ0 σ1 σ2 : L2.St} {H H' H0 H1 H2 : Hp}

/-! ## what an operation gives -/
/-- more objects, some of them in F' -/
structure More (F : As) (H : Hp) (F' : As) (H' : Hp) : Prop where
  keep : ∀ a o, H a = some o → H' a = some o
  grow : ∀ a, F a → F' a
  new : ∀ a, F' a → F a ∨ H a = none
  dom : ∀ a, F' a → H' a ≠ none
theorem Rel.more (r : Rel K F e σ H) (m : More F H F' H') : Rel K F' e σ H' ∧ Fr F e σ H F' e σ H' := by
  refine ⟨⟨r.len, m.dom, fun j => ?_, r.apart⟩, ⟨rfl, fun a o h _ => m.keep a o h, fun a h => ?_, m.grow, fun a h => (m.new a h).imp id .inr, fun a h => .inl h, fun a h => .inl h, fun i k x h => ⟨⟨k, x, h⟩, rfl⟩, fun i l x h => ⟨h, rfl⟩⟩⟩
  · have q := r.slot j
    cases g : getS e j with
    | sh d =>
      rw [g] at q
      obtain ⟨v, z1, z2⟩ := q
      exact ⟨v, z1, z2.mono m.grow fun a o _ z => m.keep a o z⟩
    | ow l k d =>
      rw [g] at q
      obtain ⟨b, z1, z2, z3⟩ := q
      refine ⟨b, z1, fun w => ?_, z3.mono m.grow (fun a o _ z => m.keep a o z) fun o z => m.keep b o z⟩
      rcases m.new b w with w | w
      · exact z2 w
      · exact z3.there w
    | no => trivial
    | ex c' y => rw [g] at q; exact q.exm m.grow (fun a o _ z => m.keep a o z) fun d fs z => m.keep d _ z
  · cases q : H a with
    | none => exact absurd q h
    | some o => rw [m.keep a o q]; simp
theorem More.refl (d : ∀ a, F a → H a ≠ none) : More F H F H := ⟨fun _ _ h => h, fun _ h => h, fun _ h => .inl h, d⟩
theorem More.one {p : Addr} {o : HO} (d : ∀ a, F a → H a ≠ none) (n : H p = none) : More F H F (upd H p o) :=
  ⟨fun a u h => by rw [upd_ne (ne_of_none h n)]; exact h, fun _ h => h, fun _ h => .inl h, fun a h => by
    by_cases c : a = p
    · subst c; rw [upd_same]; simp
    · rw [upd_ne c]; exact d a h⟩
theorem More.frz {p : Addr} {o : HO} (d : ∀ a, F a → H a ≠ none) (n : H p = none) : More F H (fun b => F b ∨ b = p) (upd H p o) :=
  ⟨(More.one d n).keep, fun _ h => .inl h, fun a h => h.imp id fun c => by rw [c]; exact n, fun a h => by
    rcases h with h | h
    · exact (More.one d n).dom a h
    · rw [h, upd_same]; simp⟩
/-- the wish Q, asked for whatever stands for the value -/
def Out (K : Kx) (F : As) (H : Hp) (Q : VK) : Vl → Prop
  | .d x => ∀ F' H' z, More F H F' H' → Rep K F' H' z x → Q z H'
  | .o x => ∀ H' a, More F H F H' → H a = none → Root K F H' a x → Q (.ref a) H'
  | .p _ => False
theorem Out.now {Q : VK} {z : V} {x : PyData} (d : ∀ a, F a → H a ≠ none) (o : Out K F H Q (.d x)) (r : Rep K F H z x) : Q z H := o F H z (.refl d) r
theorem Out.lst {Q : VK} {vs : List V} {ds : List PyData} (d : ∀ a, F a → H a ≠ none) (o : Out K F H Q (.o (.list ds))) (r : RepL K F H vs ds) : ∀ p, H p = none → Q (.ref p) (upd H p (.lst vs)) := fun p n =>
  o _ p (.one d n) n (.lst upd_same (r.mono (fun _ h => h) fun a u h q => (More.one d n).keep a u q))
theorem Out.tup {Q : VK} {vs : List V} {ds : List PyData} (d : ∀ a, F a → H a ≠ none) (o : Out K F H Q (.d (.tuple ds))) (r : RepL K F H vs ds) : ∀ p, H p = none → Q (.ref p) (upd H p (.tup vs)) := fun p n =>
  o _ _ _ (.frz d n) (.tup (.inr rfl) (.inl upd_same) (r.mono (fun _ h => .inl h) fun a u h q => (More.one d n).keep a u q))
/-- as a new list that is frozen at once -/
theorem Out.lstd {Q : VK} {vs : List V} {ds : List PyData} (d : ∀ a, F a → H a ≠ none) (o : Out K F H Q (.d (.list ds))) (r : RepL K F H vs ds) : ∀ p, H p = none → Q (.ref p) (upd H p (.lst vs)) := fun p n =>
  o _ _ _ (.frz d n) (.lst (.inr rfl) (.inl upd_same) (r.mono (fun _ h => .inl h) fun a u h q => (More.one d n).keep a u q))

/-! ## the judgements -/
/-- the exception's own dict -/
def Exc (K : Kx) (F : As) (H : Hp) (dx : Addr) (a : PyData) : Prop := ∃ v, H dx = some (.xd [("at", v)]) ∧ Rep K F H v a
/-- the end of an expression's run from (F, e, H) on -/
def PO' (K : Kx) (cl : Nat → Addr) (W : WX) (F : As) (e : En) (σ : L2.St) (H : Hp) (Q : VK) : R → Prop
  | .ok u e' => ∀ F' H' z, Rel K F' e' σ H' → Fr F e σ H F' e' σ H' → VR K F' e' σ H' z u → Nw H z u → Q z H'
  | .ex c a e' => ∀ F' H' dx, Rel K F' e' σ H' → Fr F e σ H F' e' σ H' → Exc K F' H' dx a → W (.ref (cl c)) (some dx) σ H'
  | _ => False
def POs (K : Kx) (cl : Nat → Addr) (W : WX) (F : As) (e : En) (σ : L2.St) (H : Hp) (Q : List V → Hp → Prop) : R → Prop
  | .oks us e' => ∀ F' H' zs, Rel K F' e' σ H' → Fr F e σ H F' e' σ H' → VRs K F' e' σ H' H zs us → Q zs H'
  | .ex c a e' => ∀ F' H' dx, Rel K F' e' σ H' → Fr F e σ H F' e' σ H' → Exc K F' H' dx a → W (.ref (cl c)) (some dx) σ H'
  | _ => False
/-- as a test -/
def POt (K : Kx) (cl : Nat → Addr) (W : WX) (F : As) (e : En) (σ : L2.St) (H : Hp) (Q : Bool → Hp → Prop) : R → Prop
  | .ok u e' => ∃ x b, res e' u = some x ∧ truth x = some b ∧ ∀ F' H', Rel K F' e' σ H' → Fr F e σ H F' e' σ H' → Q b H'
  | .ex c a e' => ∀ F' H' dx, Rel K F' e' σ H' → Fr F e σ H F' e' σ H' → Exc K F' H' dx a → W (.ref (cl c)) (some dx) σ H'
  | _ => False
/-- the end of statements -/
def POS (K : Kx) (cl : Nat → Addr) (W : WX) (F : As) (e : En) (σ : L2.St) (H : Hp) (D : Ends) : R → Prop
  | .nx e' => ∀ F' σ' H', Rel K F' e' σ' H' → Fr F e σ H F' e' σ' H' → D.nx σ' H'
  | .bk e' => ∀ F' σ' H', Rel K F' e' σ' H' → Fr F e σ H F' e' σ' H' → D.bk σ' H'
  | .ct e' => ∀ F' σ' H', Rel K F' e' σ' H' → Fr F e σ H F' e' σ' H' → D.ct σ' H'
  | .rt u e' => ∀ F' σ' H' z, Rel K F' e' σ' H' → Fr F e σ H F' e' σ' H' → VR K F' e' σ' H' z u → Nw H z u → D.rt z H'
  | .ex c a e' => ∀ F' σ' H' dx, Rel K F' e' σ' H' → Fr F e σ H F' e' σ' H' → Exc K F' H' dx a → W (.ref (cl c)) (some dx) σ' H'
  | _ => False
abbrev tE (K : Kx) (cl : Nat → Addr) (W : WX) (f : En → R) : TE := fun σ H Q => ∃ F e, Rel K F e σ H ∧ PO' K cl W F e σ H Q (f e)
abbrev tA (K : Kx) (cl : Nat → Addr) (W : WX) (f : En → R) : TA := fun σ H Q => ∃ F e, Rel K F e σ H ∧ POs K cl W F e σ H Q (f e)
abbrev tT (K : Kx) (cl : Nat → Addr) (W : WX) (f : En → R) : TT := fun σ H Q => ∃ F e, Rel K F e σ H ∧ POt K cl W F e σ H Q (f e)
abbrev tS (K : Kx) (cl : Nat → Addr) (W : WX) (f : En → R) : TS := fun D σ H => ∃ F e, Rel K F e σ H ∧ POS K cl W F e σ H D (f e)

variable {cl : Nat → Addr} {W : WX}
/-- a state reached from another one -/
structure At (K : Kx) (F0 : As) (e0 : En) (σ0 : L2.St) (H0 : Hp) (F : As) (e : En) (σ : L2.St) (H : Hp) : Prop where
  r0 : Rel K F0 e0 σ0 H0
  f : Fr F0 e0 σ0 H0 F e σ H
  r : Rel K F e σ H
theorem At.refl (r : Rel K F e σ H) : At K F e σ H F e σ H := ⟨r, .refl, r⟩
theorem At.step (a : At K F0 e0 σ0 H0 F e σ H) (r : Rel K F1 e1 σ1 H1) (f : Fr F e σ H F1 e1 σ1 H1) : At K F0 e0 σ0 H0 F1 e1 σ1 H1 := ⟨a.r0, a.f.trans a.r0 f, r⟩
/-- one expression, then what is done with its value -/
theorem PO'.bd {Q Q1 : VK} {x : R} {k : Vl → En → R} (a : At K F0 e0 σ H0 F e σ H) (p : PO' K cl W F0 e0 σ H0 Q (x.bd k))
    (h : ∀ u e1 F1 H1 z, At K F0 e0 σ H0 F1 e1 σ H1 → Fr F e σ H F1 e1 σ H1 → VR K F1 e1 σ H1 z u → Nw H z u → PO' K cl W F0 e0 σ H0 Q (k u e1) → Q1 z H1) : PO' K cl W F e σ H Q1 x := by
  cases x with
  | ok u e' => exact fun F' H' z r' f' v n => h u e' F' H' z (a.step r' f') f' v n p
  | ex c d e' => exact fun F' H' dx r' f' v => p F' H' dx r' (a.f.trans a.r0 f') v
  | _ => exact p.elim
theorem POs.bd {Q : List V → Hp → Prop} {Q1 : VK} {x : R} {k : Vl → En → R} (a : At K F0 e0 σ H0 F e σ H) (p : POs K cl W F0 e0 σ H0 Q (x.bd k))
    (h : ∀ u e1 F1 H1 z, At K F0 e0 σ H0 F1 e1 σ H1 → Fr F e σ H F1 e1 σ H1 → VR K F1 e1 σ H1 z u → Nw H z u → POs K cl W F0 e0 σ H0 Q (k u e1) → Q1 z H1) : PO' K cl W F e σ H Q1 x := by
  cases x with
  | ok u e' => exact fun F' H' z r' f' v n => h u e' F' H' z (a.step r' f') f' v n p
  | ex c d e' => exact fun F' H' dx r' f' v => p F' H' dx r' (a.f.trans a.r0 f') v
  | _ => exact p.elim
theorem POS.bd {D : Ends} {Q1 : VK} {x : R} {k : Vl → En → R} (a : At K F0 e0 σ0 H0 F e σ H) (p : POS K cl W F0 e0 σ0 H0 D (x.bd k))
    (h : ∀ u e1 F1 H1 z, At K F0 e0 σ0 H0 F1 e1 σ H1 → Fr F e σ H F1 e1 σ H1 → VR K F1 e1 σ H1 z u → Nw H z u → POS K cl W F0 e0 σ0 H0 D (k u e1) → Q1 z H1) : PO' K cl W F e σ H Q1 x := by
  cases x with
  | ok u e' => exact fun F' H' z r' f' v n => h u e' F' H' z (a.step r' f') f' v n p
  | ex c d e' => exact fun F' H' dx r' f' v => p F' σ H' dx r' (a.f.trans a.r0 f') v
  | _ => exact p.elim
theorem PO'.bds {Q : VK} {Q1 : List V → Hp → Prop} {x : R} {k : List Vl → En → R} (a : At K F0 e0 σ H0 F e σ H) (p : PO' K cl W F0 e0 σ H0 Q (x.bds k))
    (h : ∀ us e1 F1 H1 zs, At K F0 e0 σ H0 F1 e1 σ H1 → Fr F e σ H F1 e1 σ H1 → VRs K F1 e1 σ H1 H zs us → PO' K cl W F0 e0 σ H0 Q (k us e1) → Q1 zs H1) : POs K cl W F e σ H Q1 x := by
  cases x with
  | oks u e' => exact fun F' H' z r' f' v => h u e' F' H' z (a.step r' f') f' v p
  | ex c d e' => exact fun F' H' dx r' f' v => p F' H' dx r' (a.f.trans a.r0 f') v
  | _ => exact p.elim
theorem POs.bds {Q : List V → Hp → Prop} {Q1 : List V → Hp → Prop} {x : R} {k : List Vl → En → R} (a : At K F0 e0 σ H0 F e σ H) (p : POs K cl W F0 e0 σ H0 Q (x.bds k))
    (h : ∀ us e1 F1 H1 zs, At K F0 e0 σ H0 F1 e1 σ H1 → Fr F e σ H F1 e1 σ H1 → VRs K F1 e1 σ H1 H zs us → POs K cl W F0 e0 σ H0 Q (k us e1) → Q1 zs H1) : POs K cl W F e σ H Q1 x := by
  cases x with
  | oks u e' => exact fun F' H' z r' f' v => h u e' F' H' z (a.step r' f') f' v p
  | ex c d e' => exact fun F' H' dx r' f' v => p F' H' dx r' (a.f.trans a.r0 f') v
  | _ => exact p.elim
theorem POS.bds {D : Ends} {Q1 : List V → Hp → Prop} {x : R} {k : List Vl → En → R} (a : At K F0 e0 σ0 H0 F e σ H) (p : POS K cl W F0 e0 σ0 H0 D (x.bds k))
    (h : ∀ us e1 F1 H1 zs, At K F0 e0 σ0 H0 F1 e1 σ H1 → Fr F e σ H F1 e1 σ H1 → VRs K F1 e1 σ H1 H zs us → POS K cl W F0 e0 σ0 H0 D (k us e1) → Q1 zs H1) : POs K cl W F e σ H Q1 x := by
  cases x with
  | oks u e' => exact fun F' H' z r' f' v => h u e' F' H' z (a.step r' f') f' v p
  | ex c d e' => exact fun F' H' dx r' f' v => p F' σ H' dx r' (a.f.trans a.r0 f') v
  | _ => exact p.elim
/-- one block, then the next -/
theorem POS.sq {D : Ends} {x : R} {k : En → R} (a : At K F0 e0 σ0 H0 F e σ H) (p : POS K cl W F0 e0 σ0 H0 D (x.sq k)) {N : L2.St → Hp → Prop}
    (h : ∀ e1 F1 σ1 H1, At K F0 e0 σ0 H0 F1 e1 σ1 H1 → Fr F e σ H F1 e1 σ1 H1 → POS K cl W F0 e0 σ0 H0 D (k e1) → N σ1 H1) : POS K cl W F e σ H { D with nx := N } x := by
  cases x with
  | nx e' => exact fun F' σ' H' r' f' => h e' F' σ' H' (a.step r' f') f' p
  | bk e' => exact fun F' σ' H' r' f' => p F' σ' H' r' (a.f.trans a.r0 f')
  | ct e' => exact fun F' σ' H' r' f' => p F' σ' H' r' (a.f.trans a.r0 f')
  | rt u e' => exact fun F' σ' H' z r' f' v n => p F' σ' H' z r' (a.f.trans a.r0 f') v (n.old a.f.dom)
  | ex c d e' => exact fun F' σ' H' dx r' f' v => p F' σ' H' dx r' (a.f.trans a.r0 f') v
  | _ => exact p.elim
/-- the last part: nothing behind it -/
theorem PO'.last {Q : VK} {x : R} (a : At K F0 e0 σ H0 F e σ H) (p : PO' K cl W F0 e0 σ H0 Q x) : PO' K cl W F e σ H Q x := by
  cases x with
  | ok u e' => exact fun F' H' z r' f' v n => p F' H' z r' (a.f.trans a.r0 f') v (n.old a.f.dom)
  | ex c d e' => exact fun F' H' dx r' f' v => p F' H' dx r' (a.f.trans a.r0 f') v
  | _ => exact p.elim
theorem POS.last {D : Ends} {x : R} (a : At K F0 e0 σ0 H0 F e σ H) (p : POS K cl W F0 e0 σ0 H0 D x) : POS K cl W F e σ H D x := by
  cases x with
  | nx e' => exact fun F' σ' H' r' f' => p F' σ' H' r' (a.f.trans a.r0 f')
  | bk e' => exact fun F' σ' H' r' f' => p F' σ' H' r' (a.f.trans a.r0 f')
  | ct e' => exact fun F' σ' H' r' f' => p F' σ' H' r' (a.f.trans a.r0 f')
  | rt u e' => exact fun F' σ' H' z r' f' v n => p F' σ' H' z r' (a.f.trans a.r0 f') v (n.old a.f.dom)
  | ex c d e' => exact fun F' σ' H' dx r' f' v => p F' σ' H' dx r' (a.f.trans a.r0 f') v
  | _ => exact p.elim
/-- a value as a test -/
theorem POt.of {Q : Bool → Hp → Prop} {Q1 : VK} {x : R} (p : POt K cl W F e σ H Q x)
    (h : ∀ F1 e1 H1 z y b, Rel K F1 e1 σ H1 → Pk K F1 H1 z y → truth y = some b → Q b H1 → Q1 z H1) : PO' K cl W F e σ H Q1 x := by
  cases x with
  | ok u e' =>
    obtain ⟨y, b, h1, h2, h3⟩ := p
    exact fun F' H' z r' f' v n => h F' e' H' z y b r' (res_ok r' v h1) h2 (h3 F' H' r' f')
  | ex c a e' => exact p
  | _ => exact p.elim
/-- a test, then what comes of its outcome -/
theorem PO'.tst {Q : VK} {Q1 : Bool → Hp → Prop} {x : R} {k : Bool → Vl → En → R} (a : At K F0 e0 σ H0 F e σ H) (p : PO' K cl W F0 e0 σ H0 Q (x.bd fun v e1 => tru v e1 fun b => k b v e1))
    (h : ∀ b u e1 F1 H1, At K F0 e0 σ H0 F1 e1 σ H1 → Fr F e σ H F1 e1 σ H1 → PO' K cl W F0 e0 σ H0 Q (k b u e1) → Q1 b H1) : POt K cl W F e σ H Q1 x := by
  cases x with
  | ok u e' =>
    have p : PO' K cl W F0 e0 σ H0 Q (tru u e' fun b => k b u e') := p
    unfold tru at p
    cases q : res e' u with
    | none => rw [q] at p; exact p.elim
    | some y =>
      rw [q] at p
      dsimp only at p
      cases t : truth y with
      | none => rw [t] at p; exact p.elim
      | some b =>
        rw [t] at p
        exact ⟨y, b, q, t, fun F' H' r' f' => h b u e' F' H' (a.step r' f') f' p⟩
  | ex c d e' => exact fun F' H' dx r' f' v => p F' H' dx r' (a.f.trans a.r0 f') v
  | _ => exact p.elim
theorem POS.tst {D : Ends} {Q1 : Bool → Hp → Prop} {x : R} {k : Bool → Vl → En → R} (a : At K F0 e0 σ0 H0 F e σ H) (p : POS K cl W F0 e0 σ0 H0 D (x.bd fun v e1 => tru v e1 fun b => k b v e1))
    (h : ∀ b u e1 F1 H1, At K F0 e0 σ0 H0 F1 e1 σ H1 → Fr F e σ H F1 e1 σ H1 → POS K cl W F0 e0 σ0 H0 D (k b u e1) → Q1 b H1) : POt K cl W F e σ H Q1 x := by
  cases x with
  | ok u e' =>
    have p : POS K cl W F0 e0 σ0 H0 D (tru u e' fun b => k b u e') := p
    unfold tru at p
    cases q : res e' u with
    | none => rw [q] at p; exact p.elim
    | some y =>
      rw [q] at p
      dsimp only at p
      cases t : truth y with
      | none => rw [t] at p; exact p.elim
      | some b =>
        rw [t] at p
        exact ⟨y, b, q, t, fun F' H' r' f' => h b u e' F' H' (a.step r' f') f' p⟩
  | ex c d e' => exact fun F' H' dx r' f' v => p F' σ H' dx r' (a.f.trans a.r0 f') v
  | _ => exact p.elim
/-- a test within a test -/
theorem POt.tst {Q Q1 : Bool → Hp → Prop} {x : R} {k : Bool → Vl → En → R} (a : At K F0 e0 σ H0 F e σ H) (p : POt K cl W F0 e0 σ H0 Q (x.bd fun v e1 => tru v e1 fun b => k b v e1))
    (h : ∀ b u e1 F1 H1, At K F0 e0 σ H0 F1 e1 σ H1 → Fr F e σ H F1 e1 σ H1 → (∃ y, res e1 u = some y ∧ truth y = some b) → POt K cl W F0 e0 σ H0 Q (k b u e1) → Q1 b H1) : POt K cl W F e σ H Q1 x := by
  cases x with
  | ok u e' =>
    have p : POt K cl W F0 e0 σ H0 Q (tru u e' fun b => k b u e') := p
    unfold tru at p
    cases q : res e' u with
    | none => rw [q] at p; exact p.elim
    | some y =>
      rw [q] at p
      dsimp only at p
      cases t : truth y with
      | none => rw [t] at p; exact p.elim
      | some b =>
        rw [t] at p
        exact ⟨y, b, q, t, fun F' H' r' f' => h b u e' F' H' (a.step r' f') f' ⟨y, q, t⟩ p⟩
  | ex c d e' => exact fun F' H' dx r' f' v => p F' H' dx r' (a.f.trans a.r0 f') v
  | _ => exact p.elim
theorem POt.last {Q : Bool → Hp → Prop} {x : R} (a : At K F0 e0 σ H0 F e σ H) (p : POt K cl W F0 e0 σ H0 Q x) : POt K cl W F e σ H Q x := by
  cases x with
  | ok u e' =>
    obtain ⟨y, b, h1, h2, h3⟩ := p
    exact ⟨y, b, h1, h2, fun F' H' r' f' => h3 F' H' r' (a.f.trans a.r0 f')⟩
  | ex c d e' => exact fun F' H' dx r' f' v => p F' H' dx r' (a.f.trans a.r0 f') v
  | _ => exact p.elim
/-- an operation's value -/
theorem PO'.out {Q : VK} {u : Vl} (a : At K F0 e0 σ H0 F e σ H) (p : PO' K cl W F0 e0 σ H0 Q (.ok u e)) (n : ∀ i, u ≠ .p i) : Out K F H Q u := by
  cases u with
  | d x =>
    intro F' H' z m rp
    obtain ⟨r', f'⟩ := a.r.more m
    exact p F' H' z r' (a.f.trans a.r0 f') rp trivial
  | o x =>
    intro H' b m fr ro
    obtain ⟨r', f'⟩ := a.r.more m
    refine p F H' (.ref b) r' (a.f.trans a.r0 f') ⟨b, rfl, fun q => a.r.dom b q fr, fun q => (a.r.own q).2 fr, ro⟩ fun c ec => ?_
    cases ec
    cases q : H0 b with
    | none => rfl
    | some o => exact absurd fr (a.f.dom b (by rw [q]; simp))
  | p i => exact absurd rfl (n i)
theorem PO'.okd {Q : VK} {x : PyData} {z : V} (a : At K F0 e0 σ H0 F e σ H) (p : PO' K cl W F0 e0 σ H0 Q (.ok (.d x) e)) (h : Rep K F H z x) : Q z H := p F H z a.r a.f h trivial
end
end Ev
end

section
set_option Elab.async false
set_option linter.all false
set_option maxRecDepth 100000
set_option maxHeartbeats 2000000
namespace Ev
open PySem PySem.Spec PyProof.Rows L2
/-! ## the operators over data -/
theorem lenOk_le {n : Nat} (h : lenOk n = true) : n ≤ 1048576 := Nat.le_of_ble_eq_true h
theorem lenOk_line {n : Nat} (h : lenOk n = true) : n ≤ sizeLine := by
  have := lenOk_le h
  rw [sizeLine_eq]; omega
theorem lenOk_lt {n : Nat} (h : lenOk n = true) : n < sizeLine := by
  have := lenOk_le h
  rw [sizeLine_eq]; omega
mutual
theorem okD_ok : ∀ (n : Nat) (x : PyData), okD n x = true → x.canLay0 = true ∧ x.depth ≤ n + 1
  | n, .none, _ => by simp [PyData.canLay0, PyData.depth]
  | n, .bool _, _ => by simp [PyData.canLay0, PyData.depth]
  | n, .int _, _ => by simp [PyData.canLay0, PyData.depth]
  | n, .str x, h => by
    have h' : PyData.strOk x = true := by simpa [okD] using h
    simp [PyData.canLay0, PyData.depth, h']
  | n, .list xs, h => by
    have h' : okDs n xs = true := by simpa [okD] using h
    have q := okDs_ok n xs h'
    simp only [PyData.canLay0, PyData.depth]
    exact ⟨q.1, by omega⟩
  | n, .tuple xs, h => by
    have h' : okDs n xs = true := by simpa [okD] using h
    have q := okDs_ok n xs h'
    simp only [PyData.canLay0, PyData.depth]
    exact ⟨q.1, by omega⟩
  | n, .dict _, h => by simp [okD] at h
theorem okDs_ok : ∀ (n : Nat) (xs : List PyData), okDs n xs = true → PyData.canLayAll0 xs = true ∧ PyData.depthAll xs ≤ n
  | n, [], _ => by simp [PyData.canLayAll0, PyData.depthAll]
  | 0, _ :: _, h => by simp [okDs] at h
  | n + 1, x :: xs, h => by
    have h' : okD n x = true ∧ okDs (n + 1) xs = true := by simpa [okDs] using h
    obtain ⟨a1, a2⟩ := okD_ok n x h'.1
    obtain ⟨b1, b2⟩ := okDs_ok (n + 1) xs h'.2
    refine ⟨by simp [PyData.canLayAll0, a1, b1], ?_⟩
    simp only [PyData.depthAll]
    omega
end
theorem shp_shaped {x : PyData} (h : shp x = true) : SeqAt.shaped x = true := by
  obtain ⟨a, b⟩ := okD_ok 40 x h
  unfold SeqAt.shaped
  simp only [Bool.and_eq_true, decide_eq_true_eq]
  exact ⟨a, by omega⟩
theorem shp_depth {x : PyData} (h : shp x = true) : x.depth ≤ 41 := (okD_ok 40 x h).2

section
variable {K : Kx} {F F' : As} {H H' : Hp}
abbrev Dom (F : As) (H : Hp) : Prop := ∀ a, F a → H a ≠ none
def bopO : Bop → Operator
  | .add => .Add
  | .sub => .Sub
  | .mul => .Mult
  | .div => .FloorDiv
  | .mod => .Mod
  | .pow => .Pow
  | .shl => .LShift
  | .shr => .RShift
  | .band => .BitAnd
def rB (K : Kx) (o : Bop) : R2 := fun x y H Q => ∃ F a b u, Pk K F H x a ∧ Pk K F H y b ∧ bop o a b = some u ∧ Dom F H ∧ Out K F H Q u
variable {X : Cx} {px : Addr → Nat → Addr → Prop}
/-- the object of a list that is read -/
theorem lstS {pins : List (Addr × Obj)} {σ : L2.St} {s : Shared} {a : Addr} {xs : List V} (I : Inv X pins σ H s) (h : SqS X.K H a xs) :
    xs.length ≤ sizeLine ∧ ∃ (its : List Value) (n : Nat), Vals xs its ∧ xs.length = its.length ∧ s.heap.get? a = some { cls := .type "list", data := .seq its.toArray n } := by
  rcases h with h | ⟨its, n, e, z, r⟩
  · obtain ⟨z, its, n, r, e⟩ := h.ok I.hok
    exact ⟨z, its, n, r, r.length, e⟩
  · exact ⟨by rw [r.length]; exact z, its, n, r, r.length, I.kIn a _ e⟩
theorem op_catS {pins : List (Addr × Obj)} {s : Shared} {σ : L2.St} {l b : Addr} {xs zs : List V} {Q : VK} (I : Inv X pins σ H s) (hl : SqS X.K H l xs) (hb : SqS X.K H b zs) (hz : xs.length + zs.length ≤ sizeLine)
    (q : ∀ p, H p = none → Q (.ref p) (upd H p (.lst (xs ++ zs)))) : wpAny (model X.prog X.w) X.A (binaryOp .Add (.ref l) (.ref b)) (EP X pins σ Q) X.xe s := by
  obtain ⟨_, its, n, r, h1, o1⟩ := lstS I hl
  obtain ⟨_, jts, m, t, h2, o2⟩ := lstS I hb
  refine PySem.P.add_list o1 o2 ?_ (by rw [List.size_toArray, List.size_toArray, ← h1, ← h2]; exact hz)
  rw [show its.toArray ++ jts.toArray = (its ++ jts).toArray from by simp]
  exact ⟨.ref _, _, I.lnew (t' := s.toks) (r.append t) (by rw [List.length_append]; exact hz), rfl, q _ I.fresh⟩
/-- the script, a list of the written part, times a number: not served -/
theorem two48 : (1048576 : Int) < 2 ^ 63 := by decide
theorem op_B (o : Bop) : OpR X (binaryOp (bopO o)) (rB (Kx.mk X.K px X.w) o) := by
  intro pins s σ H x y v u Q I rx ry h
  obtain ⟨F, a, b, w, pa, pb, e, dm, out⟩ := h
  cases o with
  | add =>
    cases a <;> cases b <;> simp only [bop, reduceCtorEq] at e
    case int.int i j =>
      cases e
      exact op_add pins s σ H x y v u Q I rx ry ⟨i, j, pa.int, pb.int, out.now dm (.int _)⟩
    case str.str i j =>
      split at e
      · cases e
        rename_i c
        exact op_add_str pins s σ H x y v u Q I rx ry ⟨i, j, pa.str, pb.str, lenOk_line c, out.now dm (.str _)⟩
      · cases e
    case list.list xs ys =>
      split at e
      · cases e
        rename_i c
        obtain ⟨p, vs, rfl, hs, rl⟩ := pa.list
        obtain ⟨q, ws, rfl, ht, rm⟩ := pb.list
        cases rx
        cases ry
        refine op_catS I hs ht ?_ (out.lst dm (rl.append rm))
        rw [rl.length, rm.length]
        exact lenOk_line c
      · cases e
    case tuple.tuple xs ys =>
      split at e
      · cases e
        rename_i c
        obtain ⟨p, vs, rfl, hs, rl⟩ := pa.tuple
        obtain ⟨q, ws, rfl, ht, rm⟩ := pb.tuple
        refine op_catA pins s σ H _ _ v u Q I rx ry ⟨p, q, vs, ws, rfl, rfl, hs, ht, by rw [rl.length, rm.length]; exact lenOk_line c, fun z => ?_, fun _ z => ?_, fun _ _ => out.tup dm (rl.append rm)⟩
        · subst z
          cases rl
          refine out.now dm ?_
          cases pb with
          | rep h => exact h
          | root h => cases h
        · subst z
          cases rm
          rw [List.append_nil] at out
          refine out.now dm ?_
          cases pa with
          | rep h => exact h
          | root h => cases h
      · cases e
  | sub =>
    cases a <;> cases b <;> simp only [bop, reduceCtorEq] at e
    case int.int i j =>
      cases e
      exact op_sub pins s σ H x y v u Q I rx ry ⟨i, j, pa.int, pb.int, out.now dm (.int _)⟩
  | mul =>
    cases a <;> cases b <;> simp only [bop, reduceCtorEq] at e
    case int.int i j =>
      split at e
      · cases e
        rename_i c
        simp only [Bool.and_eq_true, bigOk] at c
        have c1 := Nat.le_of_ble_eq_true c.1
        have c2 := Nat.le_of_ble_eq_true c.2
        exact op_mulW pins s σ H x y v u Q I rx ry ⟨i, j, pa.int, pb.int, (show i.natAbs.log2 + j.natAbs.log2 < 1000000 by omega), out.now dm (.int _)⟩
      · cases e
    case list.int xs j =>
      split at e
      · cases e
        rename_i c
        simp only [Bool.and_eq_true, decide_eq_true_eq] at c
        obtain ⟨p, vs, rfl, hs, rl⟩ := pa.list
        cases pb.int
        obtain ⟨t, rfl⟩ := ry
        cases rx
        obtain ⟨hz, its, n, r, h1, o1⟩ := lstS I hs
        have c0 := lenOk_le c.1.1
        have hn : its.length = xs.length := by rw [← h1, rl.length]
        refine wpAny_binaryOp_repeat_ref (T := "list") (U := "int") (by decide) ⟨_, o1, rfl⟩ (fun s' => typeIs_int s' j t) noFill_list_mul PySem.F.fills_int_mul PySem.F.slot_int_rmul repeat_list PySem.F.slot_int_index.lookup
          (call_meets PySem.F.slot_int_rmul (typeIs_int s j t) PySem.F.entry_int_rmul (PySem.F.args_int_rmul_2 _ _) (int___rmul___int_list j t p its.toArray n)
            ⟨o1, rfl, ⟨_, o1, rfl⟩, call_meets PySem.F.slot_list_mul ⟨_, o1, rfl⟩ PySem.F.entry_list_mul (PySem.F.args_list_mul_2 _ _) (AutoListH.list___mul___list_int_3 p its.toArray n j t ?_ ?_ ?_) ⟨o1, ?_⟩⟩)
        · rw [fitsIndex_both (by omega) (by omega)]; exact Bool.false_ne_true
        · rw [List.size_toArray, hn]; omega
        · rw [List.size_toArray, hn, notLongL (by rw [sizeLine_eq]; omega)]; exact Bool.false_ne_true
        · rw [show List.foldl (fun x1 x2 => x1 ++ x2) #[] (List.replicate (if its.toArray.isEmpty = true then 0 else j.toNat) its.toArray) = (List.replicate j.toNat its).flatten.toArray from by
            have f0 : ∀ m : Nat, List.foldl (fun x1 x2 => x1 ++ x2) #[] (List.replicate m its.toArray) = (List.replicate m its).flatten.toArray := fun m => by
              have q := foldl_rep its m []
              rw [List.nil_append] at q
              exact q
            rw [f0]
            cases its with
            | nil => simp
            | cons a r' => rw [if_neg (by simp)]]
          exact ⟨.ref _, _, I.lnew (t' := s.toks) (r.rep j.toNat) (by rw [PyProof.Rows.lm_len_rep_flat, Nat.mul_comm, rl.length, sizeLine_eq]; omega), rfl, out.lst dm (rl.rep j.toNat) _ I.fresh⟩
      · cases e
  | div =>
    cases a <;> cases b <;> simp only [bop, reduceCtorEq] at e
    case int.int i j =>
      split at e
      · cases e
        rename_i c
        simp only [Bool.and_eq_true, decide_eq_true_eq] at c
        have c2 := Nat.le_of_ble_eq_true c.2
        exact op_fdivW pins s σ H x y v u Q I rx ry ⟨i, j, pa.int, pb.int, ⟨c.1, by omega⟩, out.now dm (.int _)⟩
      · cases e
  | mod =>
    cases a <;> cases b <;> simp only [bop, reduceCtorEq] at e
    case int.int i j =>
      split at e
      · cases e
        rename_i c
        exact op_mod pins s σ H x y v u Q I rx ry ⟨i, j, pa.int, pb.int, of_decide_eq_true c, out.now dm (.int _)⟩
      · cases e
  | pow =>
    cases a <;> cases b <;> simp only [bop, reduceCtorEq] at e
    case int.int i j =>
      split at e
      · cases e
        rename_i c
        simp only [Bool.and_eq_true, decide_eq_true_eq] at c
        exact op_pow pins s σ H x y v u Q I rx ry ⟨i, j, pa.int, pb.int, ⟨c.1.1, by omega, Nat.lt_trans c.2 (by decide)⟩, out.now dm (.int _)⟩
      · cases e
  | shl =>
    cases a <;> cases b <;> simp only [bop, reduceCtorEq] at e
    case int.int i j =>
      split at e
      · cases e
        rename_i c
        simp only [Bool.and_eq_true, decide_eq_true_eq] at c
        exact op_shl pins s σ H x y v u Q I rx ry ⟨i, j, pa.int, pb.int, ⟨c.1.1, by omega, Nat.lt_trans c.2 (by decide)⟩, out.now dm (.int _)⟩
      · cases e
  | shr =>
    cases a <;> cases b <;> simp only [bop, reduceCtorEq] at e
    case int.int i j =>
      split at e
      · cases e
        rename_i c
        exact op_shr pins s σ H x y v u Q I rx ry ⟨i, j, pa.int, pb.int, of_decide_eq_true c, out.now dm (.int _)⟩
      · cases e
  | band => cases a <;> cases b <;> simp [bop] at e

/-! ### comparisons -/
def copO : Cop → CmpOp
  | .lt => .Lt
  | .le => .LtE
  | .gt => .Gt
  | .ge => .GtE
  | .eq => .Eq
  | .ne => .NotEq
  | .isn => .Is
  | .nis => .IsNot
  | .inn => .In
  | .nin => .NotIn
def rC (K : Kx) (o : Cop) : R2 := fun x y H Q => ∃ F a b k, Pk K F H x a ∧ Pk K F H y b ∧ cop o a b = some k ∧ Q (.bl k) H
theorem ord_parts {a b : PyData} (h : ordOk a b = true) : a.depth ≤ 41 ∧ b.depth ≤ 41 ∧ PySem.W.alike a b = true ∧ a ≠ .none := by
  unfold ordOk at h
  simp only [Bool.and_eq_true] at h
  exact ⟨shp_depth h.1.1.1, shp_depth h.1.1.2, h.1.2, fun z => by rw [z] at h; exact absurd h.2 (by simp [notN])⟩
theorem ord_nd {a b : PyData} (h : ordOk a b = true) : noDct a = true ∧ noDct b = true := by
  unfold ordOk at h
  simp only [Bool.and_eq_true] at h
  exact ⟨shp_noDct h.1.1.1, shp_noDct h.1.1.2⟩
mutual
theorem okD_plain : ∀ (n : Nat) (x : PyData), okD n x = true → x.plain = true
  | _, .none, _ => rfl
  | _, .bool _, _ => rfl
  | _, .int _, _ => rfl
  | _, .str _, _ => rfl
  | n, .list xs, h => by
    simp only [PyData.plain]
    exact okDs_plain n xs (by simpa only [okD] using h)
  | n, .tuple xs, h => by
    simp only [PyData.plain]
    exact okDs_plain n xs (by simpa only [okD] using h)
  | _, .dict _, h => by simp [okD] at h
theorem okDs_plain : ∀ (n : Nat) (xs : List PyData), okDs n xs = true → PyData.plainAll xs = true
  | _, [], _ => rfl
  | 0, _ :: _, h => by simp [okDs] at h
  | n + 1, x :: xs, h => by
    have h' : okD n x = true ∧ okDs (n + 1) xs = true := by simpa only [okDs, Bool.and_eq_true] using h
    simp only [PyData.plainAll, okD_plain n x h'.1, okDs_plain (n + 1) xs h'.2, Bool.and_self]
end
theorem depths_le {xs : List PyData} : PyData.depthAll xs ≤ (PyData.tuple xs).depth := by
  simp only [PyData.depth]
  omega
theorem op_inT (hu : X.A.units + 100 < cLine) : OpR X (compareOp .In) (fun x y H Q => ∃ d ds, Dp X.K H x d ∧ Dp X.K H y (.tuple ds) ∧ shp d = true ∧ shp (.tuple ds) = true ∧ Q (.bl (ds.any fun z => PyData.eqv z d)) H) := by
  intro pins s σ H x y v u Q I rx ry h
  obtain ⟨d, ds, hd, he, sd, se, q⟩ := h
  obtain ⟨as, r1⟩ := Dp.reads I d x v hd rx
  obtain ⟨bs, r2⟩ := Dp.reads I (.tuple ds) y u he ry
  have := shp_depth sd
  have := Nat.min_le_right (PyData.depthAll ds) d.depth
  exact SeqAt.in_tuple_data r2 r1 (okDs_plain 40 ds (by simpa only [shp, okD] using se)) (okD_plain 40 d sd) (by omega) ⟨.bl _, H, I, rfl, q⟩
theorem op_notInT (hu : X.A.units + 100 < cLine) : OpR X (compareOp .NotIn) (fun x y H Q => ∃ d ds, Dp X.K H x d ∧ Dp X.K H y (.tuple ds) ∧ shp d = true ∧ shp (.tuple ds) = true ∧ Q (.bl (!ds.any fun z => PyData.eqv z d)) H) := by
  intro pins s σ H x y v u Q I rx ry h
  obtain ⟨d, ds, hd, he, sd, se, q⟩ := h
  obtain ⟨as, r1⟩ := Dp.reads I d x v hd rx
  obtain ⟨bs, r2⟩ := Dp.reads I (.tuple ds) y u he ry
  have := shp_depth sd
  have := Nat.min_le_right (PyData.depthAll ds) d.depth
  exact SeqAt.notIn_tuple_data r2 r1 (okDs_plain 40 ds (by simpa only [shp, okD] using se)) (okD_plain 40 d sd) (by omega) ⟨.bl _, H, I, rfl, q⟩
/-! ### keys of dicts -/
section
variable {pins : List (Addr × Obj)} {s : Shared} {F : As} {H : Hp}
mutual
theorem nest_ok (I : Inv X pins σ H s) : ∀ {v : V} {d : PyData} {k : NestedKey} {u : Value}, Rep (Kx.mk X.K px X.w) F H v d → keyN d = some k → RelV v u → NestedIs s.heap k u
  | _, _, k, u, .non, e, r => by
    simp only [keyN, Option.some.injEq] at e
    subst e; cases r; exact .none
  | _, _, k, u, .bl b, e, r => by
    simp only [keyN, Option.some.injEq] at e
    subst e; cases r; exact .bool (by cases b <;> rfl)
  | _, _, k, u, .int i, e, r => by
    simp only [keyN, Option.some.injEq] at e
    subst e; obtain ⟨t, rfl⟩ := r; exact .int i t
  | _, _, k, u, .str x, e, r => by
    simp only [keyN, Option.some.injEq] at e
    subst e; obtain ⟨t, rfl⟩ := r; exact .text x t
  | _, _, k, u, .lst _ _ _, e, r => by simp [keyN] at e
  | _, _, k, u, .klst _ _, e, r => by simp [keyN] at e
  | _, _, k, u, .tup _ rd l, e, r => by
    simp only [keyN, Option.map_eq_some_iff] at e
    obtain ⟨ks, h1, rfl⟩ := e
    cases r
    have o' := rd.ok I.hok
    obtain ⟨_, its, rv, o, g1, g2, n, g3⟩ := o'
    exact .tup g1 g2 g3 (by simpa using nests_ok I l h1 rv)
  | _, _, k, u, .ktup kt l, e, r => by
    simp only [keyN, Option.map_eq_some_iff] at e
    obtain ⟨ks, h1, rfl⟩ := e
    cases r
    obtain ⟨o, its, n, lk, g2, g3, _, rv⟩ := kt
    exact .tup (I.kIn _ _ lk) g2 g3 (nests_ok I l h1 rv)
theorem nests_ok (I : Inv X pins σ H s) : ∀ {vs : List V} {ds : List PyData} {ks : List NestedKey} {us : List Value}, RepL (Kx.mk X.K px X.w) F H vs ds → keyNs ds = some ks → Vals vs us → NestedAll s.heap ks us
  | _, _, ks, us, .nil, e, r => by
    simp only [keyNs, Option.some.injEq] at e
    subst e; cases r; exact .nil
  | _, _, ks, us, .cons a b, e, r => by
    unfold keyNs at e
    split at e
    · rename_i k' ks' h1 h2
      cases e
      cases r with
      | cons r0 r1 => exact .cons (nest_ok I a h1 r0) (nests_ok I b h2 r1)
    · cases e
end
theorem keyT_ok {x : PyData} {k : NestedKey} (h : keyT x = some k) : keyN x = some k ∧ k.depth ≤ 8 ∧ ∃ xs, x = .tuple xs := by
  unfold keyT at h
  split at h
  · rename_i xs
    split at h
    · rename_i ks h1
      split at h
      · rename_i c
        cases h
        exact ⟨by simp only [keyN, h1, Option.map_some], Nat.le_of_ble_eq_true c, xs, rfl⟩
      · cases h
    · cases h
  · cases h
theorem ieq_iff {i j : Int} : ieq i j = true ↔ i = j := by
  cases i <;> cases j <;> simp only [ieq, Nat.beq_eq, Int.ofNat.injEq, Int.negSucc.injEq, reduceCtorEq, Bool.false_eq_true]
mutual
theorem isKey_to : ∀ (k : NestedKey) (x : PyData), isKey k x = true → keyN x = some k
  | .none, .none, _ => rfl
  | .num i, .int j, h => by
    simp only [isKey] at h
    rw [ieq_iff.mp h]; rfl
  | .num i, .bool b, h => by
    simp only [isKey] at h
    rw [ieq_iff.mp h]; rfl
  | .text x, .str y, h => by
    simp only [isKey, decide_eq_true_eq] at h
    rw [h]; rfl
  | .tup ks, .tuple xs, h => by
    simp only [isKey] at h
    simp only [keyN, isKeys_to ks xs h, Option.map_some]
  | .none, .bool _, h => by simp [isKey] at h
  | .none, .int _, h => by simp [isKey] at h
  | .none, .str _, h => by simp [isKey] at h
  | .none, .list _, h => by simp [isKey] at h
  | .none, .tuple _, h => by simp [isKey] at h
  | .none, .dict _, h => by simp [isKey] at h
  | .num _, .none, h => by simp [isKey] at h
  | .num _, .str _, h => by simp [isKey] at h
  | .num _, .list _, h => by simp [isKey] at h
  | .num _, .tuple _, h => by simp [isKey] at h
  | .num _, .dict _, h => by simp [isKey] at h
  | .text _, .none, h => by simp [isKey] at h
  | .text _, .bool _, h => by simp [isKey] at h
  | .text _, .int _, h => by simp [isKey] at h
  | .text _, .list _, h => by simp [isKey] at h
  | .text _, .tuple _, h => by simp [isKey] at h
  | .text _, .dict _, h => by simp [isKey] at h
  | .tup _, .none, h => by simp [isKey] at h
  | .tup _, .bool _, h => by simp [isKey] at h
  | .tup _, .int _, h => by simp [isKey] at h
  | .tup _, .str _, h => by simp [isKey] at h
  | .tup _, .list _, h => by simp [isKey] at h
  | .tup _, .dict _, h => by simp [isKey] at h
theorem isKeys_to : ∀ (ks : List NestedKey) (xs : List PyData), isKeys ks xs = true → keyNs xs = some ks
  | [], [], _ => rfl
  | k :: ks, x :: xs, h => by
    simp only [isKeys, Bool.and_eq_true] at h
    simp only [keyNs, isKey_to k x h.1, isKeys_to ks xs h.2]
  | [], _ :: _, h => by simp [isKeys] at h
  | _ :: _, [], h => by simp [isKeys] at h
end
mutual
theorem isKey_of : ∀ (k : NestedKey) (x : PyData), keyN x = some k → isKey k x = true
  | k, .none, h => by cases h; rfl
  | k, .int j, h => by cases h; exact ieq_iff.mpr rfl
  | k, .bool b, h => by cases h; exact ieq_iff.mpr rfl
  | k, .str y, h => by cases h; simp [isKey]
  | k, .tuple xs, h => by
    simp only [keyN, Option.map_eq_some_iff] at h
    obtain ⟨ks, h1, rfl⟩ := h
    simp only [isKey]
    exact isKeys_of ks xs h1
  | k, .list _, h => by simp [keyN] at h
  | k, .dict _, h => by simp [keyN] at h
theorem isKeys_of : ∀ (ks : List NestedKey) (xs : List PyData), keyNs xs = some ks → isKeys ks xs = true
  | ks, [], h => by cases h; rfl
  | ks, x :: xs, h => by
    unfold keyNs at h
    split at h
    · rename_i k' ks' h1 h2
      cases h
      simp only [isKeys, isKey_of k' x h1, isKeys_of ks' xs h2, Bool.and_self]
    · cases h
end
theorem isKey_iff {k : NestedKey} {x : PyData} : isKey k x = true ↔ keyN x = some k := ⟨isKey_to k x, isKey_of k x⟩
theorem atKey_cons {x : NestedKey × Addr × Value} {xs : List (NestedKey × Addr × Value)} {k : NestedKey} : atKey (x :: xs) k = if x.1 = k then some x.2 else atKey xs k := by
  unfold atKey
  rw [List.find?_cons]
  by_cases h : x.1 = k
  · simp [h]
  · simp [h]
theorem look_ok {K : Kx} {k : NestedKey} : ∀ {xs : List (NestedKey × Addr × Value)} {ds : List (PyData × PyData)}, Paired (Ent K F H) xs ds →
    (∀ d, lookN k ds = some d → ∃ b u v, atKey xs k = some (b, u) ∧ RelV v u ∧ Rep K F H v d) ∧ (lookN k ds = none → atKey xs k = none)
  | _, _, .nil => ⟨fun d h => (by cases h), fun _ => rfl⟩
  | _, _, .cons (a := x) (b := p) (l₁ := xs) (l₂ := ds) h t => by
    obtain ⟨i1, i2⟩ := look_ok (k := k) t
    obtain ⟨h1, h2, h3, v, h4, h5⟩ := h
    obtain ⟨pk, pd⟩ := p
    rw [atKey_cons]
    unfold lookN
    by_cases c : x.1 = k
    · have c' : isKey k pk = true := isKey_iff.mpr (by rw [← c]; exact h1)
      rw [if_pos c', if_pos c]
      exact ⟨fun d e => by cases e; exact ⟨x.2.1, x.2.2, v, rfl, h4, h5⟩, fun e => by cases e⟩
    · have c' : isKey k pk = false := by
        cases q : isKey k pk with
        | false => rfl
        | true =>
          have := isKey_iff.mp q
          rw [h1] at this
          cases this
          exact absurd rfl c
      rw [if_neg (by rw [c']; simp), if_neg c]
      exact ⟨i1, i2⟩
theorem look_some {K : Kx} {k : NestedKey} {xs : List (NestedKey × Addr × Value)} {ds : List (PyData × PyData)} (p : Paired (Ent K F H) xs ds) : (lookN k ds).isSome = (atKey xs k).isSome := by
  obtain ⟨h1, h2⟩ := look_ok (k := k) p
  cases q : lookN k ds with
  | none => rw [h2 q]; rfl
  | some d =>
    obtain ⟨b, u, v, h, _⟩ := h1 d q
    rw [h]; rfl
theorem dct_at {K : Kx} {a : Addr} {xs : List (NestedKey × Addr × Value)} (I : Inv X pins σ H s) {od : Obj} (e : H a = some (dctO X.w a xs od)) : DctAt X.w a xs s.heap ∧ s.heap.get? a = some od := by
  have x : ObjOk X.prog X.w H s.heap a (.ext fun h => DctAt X.w a xs h ∧ h.get? a = some od) := I.hok a _ e
  exact x.1
theorem ent_is (I : Inv X pins σ H s) {x : NestedKey × Addr × Value} {d : PyData × PyData} (h : Ent (Kx.mk X.K px X.w) F H x d) : (nestedKind X.prog X.w).is s.heap x.1 x.2.1 := by
  obtain ⟨h1, h2, h3, _⟩ := h
  exact ⟨nest_ok I h3 h1 rfl, h2⟩
theorem ents_is (I : Inv X pins σ H s) : ∀ {xs : List (NestedKey × Addr × Value)} {ds : List (PyData × PyData)}, Paired (Ent (Kx.mk X.K px X.w) F H) xs ds → ∀ x ∈ xs, (nestedKind X.prog X.w).is s.heap x.1 x.2.1
  | _, _, .nil, x, hx => by cases hx
  | _, _, .cons h t, x, hx => by
    rcases List.mem_cons.mp hx with e | hx
    · rw [e]; exact ent_is I h
    · exact ents_is I t x hx
theorem dct_of {a : Addr} {xs : List (NestedKey × Addr × Value)} {ds : List (PyData × PyData)} {od : Obj} (I : Inv X pins σ H s) (e : H a = some (dctO X.w a xs od)) (p : Paired (Ent (Kx.mk X.K px X.w) F H) xs ds) : (a == sysModules) = false ∧ s.heap.DictOfH (nestedKind X.prog X.w) a xs := by
  obtain ⟨h1, o, es, ep, h2, h3, h4, h5, h6⟩ := (dct_at (K := Kx.mk X.K px X.w) I e).1
  exact ⟨h1, o, es, ep, h2, h3, h4, h5, ents_is I p, h6⟩
end
/-- a comparison by the order of data -/
theorem ord_run {op : CmpOp} {g : PyData → PyData → Bool} (hu : X.A.units + 100 < cLine)
    (rule : ∀ {prog : Program} {w : World} {A : Around} {E : Value → Shared → Prop} {s : Shared} {a b : Value} {da db : PyData} {as bs : List Addr} {Q : Value → Shared → Prop}, Reads s.heap a da as → Reads s.heap b db bs → PySem.W.alike da db = true → da ≠ .none → A.units + min da.depth db.depth < cLine → Q (.bool (g da db)) s → wpAny (model prog w) A (compareOp op a b) Q E s)
    {pins : List (Addr × Obj)} {s : Shared} {σ : L2.St} {H : Hp} {F : As} {x y : V} {v u : Value} {a b : PyData} {Q : VK} (I : Inv X pins σ H s) (rx : RelV x v) (ry : RelV y u) (pa : Pk (Kx.mk X.K px X.w) F H x a) (pb : Pk (Kx.mk X.K px X.w) F H y b) (h : ordOk a b = true) (q : Q (.bl (g a b)) H) :
    wpAny (model X.prog X.w) X.A (compareOp op v u) (EP X pins σ Q) X.xe s := by
  obtain ⟨h1, h2, h3, h4⟩ := ord_parts h
  obtain ⟨as, r1⟩ := Dp.reads I a x v (pa.dp (ord_nd h).1) rx
  obtain ⟨bs, r2⟩ := Dp.reads I b y u (pb.dp (ord_nd h).2) ry
  exact rule r1 r2 h3 h4 (by have := Nat.min_le_left a.depth b.depth; omega) ⟨.bl _, H, I, rfl, q⟩
theorem amongI_ok {i : Int} : ∀ {ws : List V} {ys : List PyData} {b : Bool}, RepL (Kx.mk X.K px X.w) F H ws ys → amongI i ys = some b → ws.all flatV = true ∧ inV (.int i) ws = b
  | _, _, b, .nil, e => by cases e; exact ⟨rfl, rfl⟩
  | _, _, b, .cons (d := d) h t, e => by
    cases d <;> simp only [amongI, reduceCtorEq] at e
    cases h
    split at e
    · rename_i b' e'
      cases e
      obtain ⟨h1, h2⟩ := amongI_ok t e'
      refine ⟨by rw [List.all_cons, h1]; rfl, ?_⟩
      unfold inV at h2 ⊢
      rw [List.any_cons, h2]
      congr 1
    · cases e
theorem amongS_ok {i : Str} : ∀ {ws : List V} {ys : List PyData} {b : Bool}, RepL (Kx.mk X.K px X.w) F H ws ys → amongS i ys = some b → ws.all flatV = true ∧ inV (.str i) ws = b
  | _, _, b, .nil, e => by cases e; exact ⟨rfl, rfl⟩
  | _, _, b, .cons (d := d) h t, e => by
    cases d <;> simp only [amongS, reduceCtorEq] at e
    cases h
    split at e
    · rename_i b' e'
      cases e
      obtain ⟨h1, h2⟩ := amongS_ok t e'
      refine ⟨by rw [List.all_cons, h1]; rfl, ?_⟩
      unfold inV at h2 ⊢
      rw [List.any_cons, h2]
      congr 1
    · cases e
theorem among_ok {x : V} {a : PyData} {ws : List V} {ys : List PyData} {b : Bool} (pa : Pk (Kx.mk X.K px X.w) F H x a) (r : RepL (Kx.mk X.K px X.w) F H ws ys) (e : among a ys = some b) : flatV x = true ∧ ws.all flatV = true ∧ inV x ws = b := by
  cases a <;> simp only [among, reduceCtorEq] at e
  · rw [pa.int]; exact ⟨rfl, amongI_ok r e⟩
  · rw [pa.str]; exact ⟨rfl, amongS_ok r e⟩
theorem op_C (o : Cop) (hu : X.A.units + 100 < cLine) : OpR X (compareOp (copO o)) (rC (Kx.mk X.K px X.w) o) := by
  intro pins s σ H x y v u Q I rx ry h
  obtain ⟨F, a, b, k, pa, pb, e, q⟩ := h
  cases o with
  | lt =>
    have main : ordOk a b = true → k = PySem.W.dataLt a b → wpAny (model X.prog X.w) X.A (compareOp .Lt v u) (EP X pins σ Q) X.xe s := fun c z =>
      ord_run hu (op := .Lt) (g := fun a b => PySem.W.dataLt a b) (fun r1 r2 h3 h4 h5 h6 => PySem.W.lt_data r1 r2 h3 h4 h5 h6) I rx ry pa pb c (by rw [← z]; exact q)
    by_cases ii : ∃ i j, a = .int i ∧ b = .int j
    · obtain ⟨i, j, rfl, rfl⟩ := ii
      cases e
      exact op_lt pins s σ H x y v u Q I rx ry ⟨i, j, pa.int, pb.int, q⟩
    · have e' : (if ordOk a b then some (PySem.W.dataLt a b) else none) = some k := by
        cases a <;> cases b <;> first | exact absurd ⟨_, _, rfl, rfl⟩ ii | exact e
      split at e'
      · cases e'; exact main (by assumption) rfl
      · cases e'
  | gt =>
    have main : ordOk a b = true → k = PySem.W.dataLt b a → wpAny (model X.prog X.w) X.A (compareOp .Gt v u) (EP X pins σ Q) X.xe s := fun c z =>
      ord_run hu (op := .Gt) (g := fun a b => PySem.W.dataLt b a) (fun r1 r2 h3 h4 h5 h6 => PySem.W.gt_data r1 r2 h3 h4 h5 h6) I rx ry pa pb c (by rw [← z]; exact q)
    by_cases ii : ∃ i j, a = .int i ∧ b = .int j
    · obtain ⟨i, j, rfl, rfl⟩ := ii
      cases e
      exact op_gt pins s σ H x y v u Q I rx ry ⟨i, j, pa.int, pb.int, q⟩
    · have e' : (if ordOk a b then some (PySem.W.dataLt b a) else none) = some k := by
        cases a <;> cases b <;> first | exact absurd ⟨_, _, rfl, rfl⟩ ii | exact e
      split at e'
      · cases e'; exact main (by assumption) rfl
      · cases e'
  | le =>
    have main : ordOk a b = true → k = (!PySem.W.dataLt b a) → wpAny (model X.prog X.w) X.A (compareOp .LtE v u) (EP X pins σ Q) X.xe s := fun c z =>
      ord_run hu (op := .LtE) (g := fun a b => !PySem.W.dataLt b a) (fun r1 r2 h3 h4 h5 h6 => PySem.W.le_data r1 r2 h3 h4 h5 h6) I rx ry pa pb c (by rw [← z]; exact q)
    by_cases ii : ∃ i j, a = .int i ∧ b = .int j
    · obtain ⟨i, j, rfl, rfl⟩ := ii
      cases e
      exact op_le pins s σ H x y v u Q I rx ry ⟨i, j, pa.int, pb.int, q⟩
    · have e' : (if ordOk a b then some (!PySem.W.dataLt b a) else none) = some k := by
        cases a <;> cases b <;> first | exact absurd ⟨_, _, rfl, rfl⟩ ii | exact e
      split at e'
      · cases e'; exact main (by assumption) rfl
      · cases e'
  | ge =>
    have main : ordOk a b = true → k = (!PySem.W.dataLt a b) → wpAny (model X.prog X.w) X.A (compareOp .GtE v u) (EP X pins σ Q) X.xe s := fun c z =>
      ord_run hu (op := .GtE) (g := fun a b => !PySem.W.dataLt a b) (fun r1 r2 h3 h4 h5 h6 => PySem.W.ge_data r1 r2 h3 h4 h5 h6) I rx ry pa pb c (by rw [← z]; exact q)
    by_cases ii : ∃ i j, a = .int i ∧ b = .int j
    · obtain ⟨i, j, rfl, rfl⟩ := ii
      cases e
      exact op_ge pins s σ H x y v u Q I rx ry ⟨i, j, pa.int, pb.int, q⟩
    · have e' : (if ordOk a b then some (!PySem.W.dataLt a b) else none) = some k := by
        cases a <;> cases b <;> first | exact absurd ⟨_, _, rfl, rfl⟩ ii | exact e
      split at e'
      · cases e'; exact main (by assumption) rfl
      · cases e'
  | eq =>
    have main : (shp a && shp b) = true → k = PyData.eqv a b → wpAny (model X.prog X.w) X.A (compareOp .Eq v u) (EP X pins σ Q) X.xe s := fun c z => by
      simp only [Bool.and_eq_true] at c
      exact op_eqD (by omega) pins s σ H x y v u Q I rx ry ⟨a, b, pa.dp (shp_noDct c.1), pb.dp (shp_noDct c.2), shp_shaped c.1, shp_shaped c.2, by rw [← z]; exact q⟩
    by_cases ii : ∃ i j, a = .int i ∧ b = .int j
    · obtain ⟨i, j, rfl, rfl⟩ := ii
      cases e
      refine main (by simp [shp, okD]) ?_
      simp only [PyData.eqv]
      exact (Bool.beq_eq_decide_eq i j).symm
    · have e' : (if shp a && shp b then some (PyData.eqv a b) else none) = some k := by
        cases a <;> cases b <;> first | exact absurd ⟨_, _, rfl, rfl⟩ ii | exact e
      split at e'
      · cases e'; exact main (by assumption) rfl
      · cases e'
  | ne =>
    have main : (shp a && shp b) = true → k = (!PyData.eqv a b) → wpAny (model X.prog X.w) X.A (compareOp .NotEq v u) (EP X pins σ Q) X.xe s := fun c z => by
      simp only [Bool.and_eq_true] at c
      exact op_neD (by omega) pins s σ H x y v u Q I rx ry ⟨a, b, pa.dp (shp_noDct c.1), pb.dp (shp_noDct c.2), shp_shaped c.1, shp_shaped c.2, by rw [← z]; exact q⟩
    by_cases ii : ∃ i j, a = .int i ∧ b = .int j
    · obtain ⟨i, j, rfl, rfl⟩ := ii
      cases e
      refine main (by simp [shp, okD]) ?_
      simp only [PyData.eqv]
      rw [Bool.beq_eq_decide_eq i j]
    · have e' : (if shp a && shp b then some (!PyData.eqv a b) else none) = some k := by
        cases a <;> cases b <;> first | exact absurd ⟨_, _, rfl, rfl⟩ ii | exact e
      split at e'
      · cases e'; exact main (by assumption) rfl
      · cases e'
  | isn =>
    cases b with
    | none =>
      cases pb.none
      refine op_isN pins s σ H x _ v u Q I rx ry ⟨rfl, ?_⟩
      have : k = decide (x = V.non) := by
        cases a with
        | none => cases e; rw [pa.none]; rfl
        | bool c => cases e; rw [pa.bool]; rfl
        | int c => cases e; rw [pa.int]; rfl
        | str c => cases e; rw [pa.str]; rfl
        | list c => cases e; obtain ⟨p, _, rfl, _⟩ := pa.list; rfl
        | tuple c => cases e; obtain ⟨p, _, rfl, _⟩ := pa.tuple; rfl
        | dict c => cases e; obtain ⟨p, rfl⟩ := pa.dref; rfl
      rw [← this]; exact q
    | bool c =>
      cases a <;> simp only [cop, reduceCtorEq] at e
      case bool d =>
        cases e
        exact op_isBl pins s σ H x y v u Q I rx ry ⟨d, c, pa.bool, pb.bool, q⟩
    | _ => cases a <;> simp [cop] at e
  | nis =>
    cases b with
    | none =>
      cases pb.none
      refine op_notN pins s σ H x _ v u Q I rx ry ⟨rfl, ?_⟩
      have : k = !decide (x = V.non) := by
        cases a with
        | none => cases e; rw [pa.none]; rfl
        | bool c => cases e; rw [pa.bool]; rfl
        | int c => cases e; rw [pa.int]; rfl
        | str c => cases e; rw [pa.str]; rfl
        | list c => cases e; obtain ⟨p, _, rfl, _⟩ := pa.list; rfl
        | tuple c => cases e; obtain ⟨p, _, rfl, _⟩ := pa.tuple; rfl
        | dict c => cases e; obtain ⟨p, rfl⟩ := pa.dref; rfl
      rw [← this]; exact q
    | bool c =>
      cases a <;> simp only [cop, reduceCtorEq] at e
      case bool d =>
        cases e
        exact op_notBl pins s σ H x y v u Q I rx ry ⟨d, c, pa.bool, pb.bool, q⟩
    | _ => cases a <;> simp [cop] at e
  | inn =>
    cases b with
    | list ys =>
      have e' : (if shp a && shp (.list ys) then some (ys.any fun z => PyData.eqv z a) else none) = some k := by cases a <;> exact e
      split at e'
      · rename_i c
        cases e'
        simp only [Bool.and_eq_true] at c
        exact op_inD (by omega) pins s σ H x y v u Q I rx ry ⟨a, ys, pa.dp (shp_noDct c.1), pb.dp rfl, shp_shaped c.1, shp_shaped c.2, q⟩
      · cases e'
    | tuple ys =>
      have e' : (match among a ys with
        | some b => some b
        | none => if shp a && shp (.tuple ys) then some (ys.any fun z => PyData.eqv z a) else none) = some k := by cases a <;> exact e
      split at e'
      · rename_i b' e2
        cases e'
        obtain ⟨p, ws, rfl, hs, rl⟩ := pb.tuple
        obtain ⟨h1, h2, h3⟩ := among_ok pa rl e2
        exact op_in_seq pins s σ H x _ v u Q I rx ry ⟨p, ws, rfl, .inr hs, h1, h2, by rw [h3]; exact q⟩
      · split at e'
        · rename_i c
          cases e'
          simp only [Bool.and_eq_true] at c
          exact op_inT hu pins s σ H x y v u Q I rx ry ⟨a, ys, pa.dp (shp_noDct c.1), pb.dp rfl, c.1, c.2, q⟩
        · cases e'
    | dict kvs =>
      have e' : (match keyT a with
        | some k => if dctB kvs then some (lookN k kvs).isSome else none
        | none => none) = some k := by cases a <;> exact e
      split at e'
      · rename_i kk c
        split at e'
        case isFalse => cases e'
        rename_i cb
        cases e'
        obtain ⟨c1, c2, xs', rfl⟩ := keyT_ok c
        obtain ⟨p, xs, od, rfl, hp, pp⟩ := pb.dict cb
        obtain ⟨q1, ws, rfl, _, _⟩ := pa.tuple
        cases rx
        cases ry
        obtain ⟨d1, d2⟩ := dct_of I hp pp
        have pr : Rep (Kx.mk X.K px X.w) F H (.ref q1) (.tuple xs') := by
          cases pa with
          | rep h => exact h
          | root h => cases h
        refine wpAny_in_heap (knd := nestedKind X.prog X.w) (by show X.A.in1.units + 8 < cLine; show X.A.units + 1 + 8 < cLine; omega) ⟨nest_ok I pr c1 rfl, c2⟩ d1 d2 ?_
        rw [← look_some pp]
        exact ⟨.bl _, H, I.tok _, rfl, q⟩
      · cases e'
    | _ => cases a <;> simp [cop] at e
  | nin =>
    cases b with
    | list ys =>
      have e' : (if shp a && shp (.list ys) then some (!ys.any fun z => PyData.eqv z a) else none) = some k := by cases a <;> exact e
      split at e'
      · rename_i c
        cases e'
        simp only [Bool.and_eq_true] at c
        exact op_notInD (by omega) pins s σ H x y v u Q I rx ry ⟨a, ys, pa.dp (shp_noDct c.1), pb.dp rfl, shp_shaped c.1, shp_shaped c.2, q⟩
      · cases e'
    | tuple ys =>
      have e' : (match among a ys with
        | some b => some (!b)
        | none => if shp a && shp (.tuple ys) then some (!ys.any fun z => PyData.eqv z a) else none) = some k := by cases a <;> exact e
      split at e'
      · rename_i b' e2
        cases e'
        obtain ⟨p, ws, rfl, hs, rl⟩ := pb.tuple
        obtain ⟨h1, h2, h3⟩ := among_ok pa rl e2
        exact op_notIn_seq pins s σ H x _ v u Q I rx ry ⟨p, ws, rfl, .inr hs, h1, h2, by rw [h3]; exact q⟩
      · split at e'
        · rename_i c
          cases e'
          simp only [Bool.and_eq_true] at c
          exact op_notInT hu pins s σ H x y v u Q I rx ry ⟨a, ys, pa.dp (shp_noDct c.1), pb.dp rfl, c.1, c.2, q⟩
        · cases e'
    | dict kvs =>
      have e' : (match keyT a with
        | some k => if dctB kvs then some (!(lookN k kvs).isSome) else none
        | none => none) = some k := by cases a <;> exact e
      split at e'
      · rename_i kk c
        split at e'
        case isFalse => cases e'
        rename_i cb
        cases e'
        obtain ⟨c1, c2, xs', rfl⟩ := keyT_ok c
        obtain ⟨p, xs, od, rfl, hp, pp⟩ := pb.dict cb
        obtain ⟨q1, ws, rfl, _, _⟩ := pa.tuple
        cases rx
        cases ry
        obtain ⟨d1, d2⟩ := dct_of I hp pp
        have pr : Rep (Kx.mk X.K px X.w) F H (.ref q1) (.tuple xs') := by
          cases pa with
          | rep h => exact h
          | root h => cases h
        refine wpAny_notIn_heap (knd := nestedKind X.prog X.w) (by show X.A.in1.units + 8 < cLine; show X.A.units + 1 + 8 < cLine; omega) ⟨nest_ok I pr c1 rfl, c2⟩ d1 d2 ?_
        rw [← look_some pp]
        exact ⟨.bl _, H, I.tok _, rfl, q⟩
      · cases e'
    | _ => cases a <;> simp [cop] at e
end
end Ev
end

section
set_option Elab.async false
set_option linter.all false
set_option maxRecDepth 100000
set_option maxHeartbeats 2000000
namespace Ev
open PySem PySem.Spec PyProof.Rows L2
/-! ## expressions -/
section
variable {X : Cx} {px : Addr → Nat → Addr → Prop} {cl : Nat → Addr} {W : WX} {F F' F1 F2 : As} {e e' e1 e2 : En} {σ : L2.St} {H H1 H2 : Hp}
theorem peI {ex : Expr} {t t' : TE} (h : PE X ex t) (i : ∀ σ H Q, t' σ H Q → t σ H Q) : PE X ex t' := ⟨fun pins s σ H Q I q => h.run pins s σ H Q I (i σ H Q q)⟩
theorem ptI {ex : Expr} {t t' : TT} (h : PT X ex t) (i : ∀ σ H Q, t' σ H Q → t σ H Q) : PT X ex t' := ⟨fun pins s σ H Q I q => h.run pins s σ H Q I (i σ H Q q)⟩
theorem paI {es : List Expr} {t t' : TA} (h : PA X es t) (i : ∀ σ H Q, t' σ H Q → t σ H Q) : PA X es t' := ⟨fun pos pins s σ H Q I q => h.run pos pins s σ H Q I (i σ H Q q)⟩
theorem psI {st : Stmt} {t t' : TS} (h : PS X st t) (i : ∀ D σ H, t' D σ H → t D σ H) : PS X st t' := ⟨fun pins s σ H D I q => h.run pins s σ H D I (i D σ H q)⟩
theorem pssI {st : List Stmt} {t t' : TS} (h : PSs X st t) (i : ∀ D σ H, t' D σ H → t D σ H) : PSs X st t' := ⟨fun pins s σ H D I q => h.run pins s σ H D I (i D σ H q)⟩
theorem s_var {i : Nat} {x : Str} {pos : Pos} (hN : X.N[i]? = some x) (hv : Vis X.env.scope x) (hd : (x == ("__debug__" : Str)) = false) (hc : (x == ("__classdict__" : Str)) = false) : PE X (.Name x pos) (tE (Kx.mk X.K px X.w) cl W (dVar i)) := by
  refine peI (pe_var hN hv hd hc) fun σ H Q ⟨F, e, r, p⟩ => ?_
  unfold dVar at p
  have s := r.slot i
  cases g : getS e i with
  | no => rw [g] at p; exact p.elim
  | ex c a => rw [g] at p; exact p.elim
  | sh d =>
    rw [g] at p s
    obtain ⟨v, ev, rp⟩ := s
    exact ⟨v, ev, PO'.okd (.refl r) p rp⟩
  | ow l k d =>
    rw [g] at p s
    obtain ⟨a, ev, nf, ro⟩ := s
    exact ⟨.ref a, ev, p F H _ r .refl ⟨ev, getS_lt (by rw [g]; simp)⟩ trivial⟩
theorem s_int {i : Int} {j pos} : PE X (.Constant (.int i) j pos) (tE (Kx.mk X.K px X.w) cl W (dLit (.int i))) := peI pe_int fun σ H Q ⟨F, e, r, p⟩ => PO'.okd (.refl r) p (.int i)
theorem s_bool {b : Bool} {j pos} : PE X (.Constant (.bool b) j pos) (tE (Kx.mk X.K px X.w) cl W (dLit (.bool b))) := peI pe_bl fun σ H Q ⟨F, e, r, p⟩ => PO'.okd (.refl r) p (.bl b)
theorem s_none {j pos} : PE X (.Constant .none j pos) (tE (Kx.mk X.K px X.w) cl W (dLit .none)) := peI pe_non fun σ H Q ⟨F, e, r, p⟩ => PO'.okd (.refl r) p .non
theorem s_str {x : Str} {j pos} : PE X (.Constant (.str x) j pos) (tE (Kx.mk X.K px X.w) cl W (dLit (.str x))) := peI pe_str fun σ H Q ⟨F, e, r, p⟩ => PO'.okd (.refl r) p (.str x)
theorem s_glob {x : Str} {v : V} {u : Value} {d : PyData} {pos : Pos} (hg : Gl X x) (hm : X.mg x = some u) (rv : RelV v u) (rp : Rep (Kx.mk X.K px X.w) (fun _ => False) (fun _ => none) v d) (hd : (x == ("__debug__" : Str)) = false) : PE X (.Name x pos) (tE (Kx.mk X.K px X.w) cl W (dLit d)) :=
  peI (pe_glob hg hm rv hd) fun σ H Q ⟨F, e, r, p⟩ => PO'.okd (.refl r) p (rp.mono (fun _ z => z.elim) fun _ _ z => z.elim)

/-! arguments -/
theorem s_nil : PA X [] (tA (Kx.mk X.K px X.w) cl W dNil) := paI pa_nil fun σ H Q ⟨F, e, r, p⟩ => p F H [] r .refl trivial
def notStar : Expr → Bool
  | .Starred .. => false
  | _ => true
theorem starEach_cons {a : Expr} {es : List Expr} {env : Env} (h : notStar a = true) : starEach (a :: es) env = (false, eval a env) :: starEach es env := by
  cases a <;> first | rfl | (simp [notStar] at h)
theorem s_cons {a : Expr} {es : List Expr} {fa fb : En → R} (ha : PE X a (tE (Kx.mk X.K px X.w) cl W fa)) (hb : PA X es (tA (Kx.mk X.K px X.w) cl W fb)) (hs : notStar a = true) : PA X (a :: es) (tA (Kx.mk X.K px X.w) cl W (dCons fa fb)) := by
  refine paI (pa_cons ha hb (starEach_cons hs)) fun σ H Q ⟨F, e, r, p⟩ => ?_
  refine ⟨F, e, r, POs.bd (.refl r) p fun u e1 F1 H1 z a1 f1 v1 n1 p1 => ?_⟩
  refine ⟨F1, e1, a1.r, POs.bds a1 p1 fun us e2 F2 H2 zs a2 f2 v2 p2 => ?_⟩
  refine p2 F2 H2 (z :: zs) a2.r a2.f ⟨VR.keep a1.r f2 v1, n1, VRs.ap (fun x b eu ez => ?_) v2, VRs.old a1.f.dom v2⟩
  subst eu
  obtain ⟨c, ec, _, _, ro⟩ := v1
  rw [ez] at ec
  cases ec
  exact ro.there
theorem s_tup {es : List Expr} {fa : En → R} {k pos} (ha : PA X es (tA (Kx.mk X.K px X.w) cl W fa)) : PE X (.Tuple es k pos) (tE (Kx.mk X.K px X.w) cl W (dTup fa)) := by
  refine peI (pe_tup ha) fun σ H Q ⟨F, e, r, p⟩ => ?_
  refine ⟨F, e, r, PO'.bds (.refl r) p fun us e1 F1 H1 zs a1 f1 v1 p1 => ?_⟩
  cases t : takes e1 us with
  | none => rw [t] at p1; exact p1.elim
  | some q =>
    obtain ⟨xs, e2⟩ := q
    rw [t] at p1
    dsimp only at p1
    split at p1
    · rename_i c
      obtain ⟨F2, r2, f2, rl, g2, l2⟩ := takes_ok a1.r a1.f v1 t
      exact ⟨by rw [rl.length]; exact lenOk_line c, Out.tup r2.dom (PO'.out ⟨r, f2, r2⟩ p1 (fun i z => by cases z)) rl⟩
    · exact p1.elim
theorem s_lst {es : List Expr} {fa : En → R} {pos} (ha : PA X es (tA (Kx.mk X.K px X.w) cl W fa)) : PE X (.List es pos) (tE (Kx.mk X.K px X.w) cl W (dLst fa)) := by
  refine peI (pe_lst ha) fun σ H Q ⟨F, e, r, p⟩ => ?_
  refine ⟨F, e, r, PO'.bds (.refl r) p fun us e1 F1 H1 zs a1 f1 v1 p1 => ?_⟩
  cases t : takes e1 us with
  | none => rw [t] at p1; exact p1.elim
  | some q =>
    obtain ⟨xs, e2⟩ := q
    rw [t] at p1
    dsimp only at p1
    split at p1
    · rename_i c
      obtain ⟨F2, r2, f2, rl, g2, l2⟩ := takes_ok a1.r a1.f v1 t
      exact ⟨by rw [rl.length]; exact lenOk_line c, Out.lst r2.dom (PO'.out ⟨r, f2, r2⟩ p1 (fun i z => by cases z)) rl⟩
    · exact p1.elim
/-! operators -/
theorem s_bin {o : Bop} {a b : Expr} {fa fb : En → R} {pos} (ha : PE X a (tE (Kx.mk X.K px X.w) cl W fa)) (hb : PE X b (tE (Kx.mk X.K px X.w) cl W fb)) : PE X (.BinOp a (bopO o) b pos) (tE (Kx.mk X.K px X.w) cl W (dBin o fa fb)) := by
  refine peI (pe_op (op_B (px := px) o) ha hb) fun σ H Q ⟨F, e, r, p⟩ => ?_
  refine ⟨F, e, r, PO'.bd (.refl r) p fun u e1 F1 H1 z a1 f1 v1 n1 p1 => ?_⟩
  refine ⟨F1, e1, a1.r, PO'.bd a1 p1 fun w e2 F2 H2 y a2 f2 v2 n2 p2 => ?_⟩
  split at p2
  · rename_i x1 x2 q1 q2
    unfold oR at p2
    cases t : bop o x1 x2 with
    | none => rw [t] at p2; exact p2.elim
    | some v =>
      rw [t] at p2
      refine ⟨F2, x1, x2, v, res_ok a2.r (VR.keep a1.r f2 v1) q1, res_ok a2.r v2 q2, t, a2.r.dom, PO'.out a2 p2 fun i z => ?_⟩
      subst z
      cases o <;> cases x1 <;> cases x2 <;> simp only [bop, reduceCtorEq] at t <;> (try split at t) <;> simp_all
  · exact p2.elim
theorem s_neg {a : Expr} {fa : En → R} {pos} (ha : PE X a (tE (Kx.mk X.K px X.w) cl W fa)) : PE X (.UnaryOp .USub a pos) (tE (Kx.mk X.K px X.w) cl W (dNeg fa)) := by
  refine peI (pe_un un_neg ha) fun σ H Q ⟨F, e, r, p⟩ => ?_
  refine ⟨F, e, r, PO'.bd (.refl r) p fun u e1 F1 H1 z a1 f1 v1 n1 p1 => ?_⟩
  split at p1
  · rename_i i q
    exact ⟨i, (res_ok a1.r v1 q).int, PO'.okd a1 p1 (.int _)⟩
  · exact p1.elim
theorem s_cmp {o : Cop} {a b : Expr} {fa fb : En → R} {pos} (hu : X.A.units + 100 < cLine) (hm : behindInMarks (copO o) b = false) (ha : PE X a (tE (Kx.mk X.K px X.w) cl W fa)) (hb : PE X b (tE (Kx.mk X.K px X.w) cl W fb)) : PE X (.Compare a [copO o] [b] pos) (tE (Kx.mk X.K px X.w) cl W (dCmp o fa fb)) := by
  refine peI (pe_cmpR (op_C (px := px) o hu) ha hb hm) fun σ H Q ⟨F, e, r, p⟩ => ?_
  refine ⟨F, e, r, PO'.bd (.refl r) p fun u e1 F1 H1 z a1 f1 v1 n1 p1 => ?_⟩
  refine ⟨F1, e1, a1.r, PO'.bd a1 p1 fun w e2 F2 H2 y a2 f2 v2 n2 p2 => ?_⟩
  split at p2
  · rename_i x1 x2 q1 q2
    unfold cR at p2
    cases t : cop o x1 x2 with
    | none => rw [t] at p2; exact p2.elim
    | some v =>
      rw [t] at p2
      exact ⟨F2, x1, x2, v, res_ok a2.r (VR.keep a1.r f2 v1) q1, res_ok a2.r v2 q2, t, PO'.okd a2 p2 (.bl _)⟩
  · exact p2.elim
theorem s_ch2 {o o' : Cop} {a b c : Expr} {fa fb fc : En → R} {pos} (hu : X.A.units + 100 < cLine) (hm' : behindInMarks (copO o') c = false) (ha : PE X a (tE (Kx.mk X.K px X.w) cl W fa)) (hb : PE X b (tE (Kx.mk X.K px X.w) cl W fb)) (hc : PE X c (tE (Kx.mk X.K px X.w) cl W fc)) :
    PE X (.Compare a [copO o, copO o'] [b, c] pos) (tE (Kx.mk X.K px X.w) cl W (dCh2 o o' fa fb fc)) := by
  refine peI (pe_chain (op_C (px := px) o hu) (op_C (px := px) o' hu) ha hb hc (show lastMarks [copO o, copO o'] [b, c] = false from hm')) fun σ H Q ⟨F, e, r, p⟩ => ?_
  refine ⟨F, e, r, PO'.bd (.refl r) p fun u e1 F1 H1 z a1 f1 v1 n1 p1 => ?_⟩
  refine ⟨F1, e1, a1.r, PO'.bd a1 p1 fun w e2 F2 H2 y a2 f2 v2 n2 p2 => ?_⟩
  split at p2
  · rename_i x1 x2 q1 q2
    cases t : cop o x1 x2 with
    | none => rw [t] at p2; exact p2.elim
    | some k =>
      rw [t] at p2
      refine ⟨F2, x1, x2, k, res_ok a2.r (VR.keep a1.r f2 v1) q1, res_ok a2.r v2 q2, t, k, rfl, ?_⟩
      cases k with
      | false => exact iteF (PO'.okd a2 p2 (.bl _))
      | true =>
        refine iteT ⟨F2, e2, a2.r, PO'.bd a2 p2 fun w3 e3 F3 H3 y3 a3 f3 v3 n3 p3 => ?_⟩
        split at p3
        · rename_i x3 x4 q3 q4
          unfold cR at p3
          cases t' : cop o' x3 x4 with
          | none => rw [t'] at p3; exact p3.elim
          | some k' =>
            rw [t'] at p3
            exact ⟨F3, x3, x4, k', res_ok a3.r (VR.keep a2.r f3 v2) q3, res_ok a3.r v3 q4, t', PO'.okd a3 p3 (.bl _)⟩
        · exact p3.elim
  · exact p2.elim
end
end Ev
end

section
set_option Elab.async false
set_option linter.all false
set_option maxRecDepth 100000
set_option maxHeartbeats 2000000
namespace Ev
open PySem PySem.Spec PyProof.Rows L2
/-! ## truth, indices, slices -/
section
variable {X : Cx} {px : Addr → Nat → Addr → Prop} {cl : Nat → Addr} {W : WX} {F F' F1 F2 : As} {e e' e1 e2 : En} {σ : L2.St} {H H1 H2 : Hp}
theorem Pk.tru {K : Kx} {v : V} {x : PyData} {b : Bool} (h : Pk K F H v x) (t : truth x = some b) : TruV K.fr v H b := by
  cases x with
  | none => rw [h.none]; cases t; rfl
  | bool c => rw [h.bool]; cases t; rfl
  | int i => rw [h.int]; cases t; rfl
  | str x =>
    rw [h.str]
    simp only [truth] at t
    split at t
    · rename_i c
      cases t
      refine ⟨lenOk_line c, ?_⟩
      cases x.length <;> rfl
    · cases t
  | list xs =>
    obtain ⟨a, vs, rfl, hs, rl⟩ := h.list
    cases t
    refine .inl ⟨vs, hs.sqL, ?_⟩
    cases rl <;> rfl
  | tuple xs =>
    obtain ⟨a, vs, rfl, hs, rl⟩ := h.tuple
    cases t
    refine .inr (.inl ⟨vs, hs, ?_⟩)
    cases rl <;> rfl
  | dict kvs => cases t
theorem s_not {a : Expr} {fa : En → R} {pos} (ha : PE X a (tE (Kx.mk X.K px X.w) cl W fa)) : PE X (.UnaryOp .Not a pos) (tE (Kx.mk X.K px X.w) cl W (dNot fa)) := by
  refine peI (pe_notT ha) fun σ H Q ⟨F, e, r, p⟩ => ⟨F, e, r, POt.of (PO'.tst (.refl r) p fun b u e1 F1 H1 a1 f1 p1 => PO'.okd a1 p1 (.bl (!b))) fun F1 e1 H1 z y b r1 pk t q => ⟨b, pk.tru t, q⟩⟩
theorem s_and {a b : Expr} {rest : List Expr} {fa fb : En → R} {pos} (ha : PE X a (tE (Kx.mk X.K px X.w) cl W fa)) (hb : PE X (.BoolOp .And (b :: rest) pos) (tE (Kx.mk X.K px X.w) cl W fb)) : PE X (.BoolOp .And (a :: b :: rest) pos) (tE (Kx.mk X.K px X.w) cl W (dAnd fa fb)) := by
  refine peI (pe_andT ha hb) fun σ H Q ⟨F, e, r, p⟩ => ⟨F, e, r, PO'.bd (.refl r) p fun u e1 F1 H1 z a1 f1 v1 n1 p1 => ?_⟩
  unfold tru at p1
  cases q : res e1 u with
  | none => rw [q] at p1; exact p1.elim
  | some y =>
    rw [q] at p1
    dsimp only at p1
    cases t : truth y with
    | none => rw [t] at p1; exact p1.elim
    | some k =>
      rw [t] at p1
      refine ⟨k, (res_ok a1.r v1 q).tru t, ?_⟩
      cases k with
      | true => exact iteT ⟨F1, e1, a1.r, PO'.last a1 p1⟩
      | false => exact iteF (p1 F1 H1 z a1.r a1.f v1 n1)
theorem s_or {a b : Expr} {rest : List Expr} {fa fb : En → R} {pos} (ha : PE X a (tE (Kx.mk X.K px X.w) cl W fa)) (hb : PE X (.BoolOp .Or (b :: rest) pos) (tE (Kx.mk X.K px X.w) cl W fb)) : PE X (.BoolOp .Or (a :: b :: rest) pos) (tE (Kx.mk X.K px X.w) cl W (dOr fa fb)) := by
  refine peI (pe_orT ha hb) fun σ H Q ⟨F, e, r, p⟩ => ⟨F, e, r, PO'.bd (.refl r) p fun u e1 F1 H1 z a1 f1 v1 n1 p1 => ?_⟩
  unfold tru at p1
  cases q : res e1 u with
  | none => rw [q] at p1; exact p1.elim
  | some y =>
    rw [q] at p1
    dsimp only at p1
    cases t : truth y with
    | none => rw [t] at p1; exact p1.elim
    | some k =>
      rw [t] at p1
      refine ⟨k, (res_ok a1.r v1 q).tru t, ?_⟩
      cases k with
      | true => exact iteT (p1 F1 H1 z a1.r a1.f v1 n1)
      | false => exact iteF ⟨F1, e1, a1.r, PO'.last a1 p1⟩
theorem s_one {op} {a : Expr} {fa : En → R} {pos} (ha : PE X a (tE (Kx.mk X.K px X.w) cl W fa)) : PE X (.BoolOp op [a] pos) (tE (Kx.mk X.K px X.w) cl W fa) := pe_one ha
theorem s_ite {c a b : Expr} {fc fa fb : En → R} {pos} (hc : PT X c (tT (Kx.mk X.K px X.w) cl W fc)) (ha : PE X a (tE (Kx.mk X.K px X.w) cl W fa)) (hb : PE X b (tE (Kx.mk X.K px X.w) cl W fb)) : PE X (.IfExp c a b pos) (tE (Kx.mk X.K px X.w) cl W (dIte fc fa fb)) := by
  refine peI (pe_ifExp hc ha hb) fun σ H Q ⟨F, e, r, p⟩ => ⟨F, e, r, PO'.tst (.refl r) p fun b u e1 F1 H1 a1 f1 p1 => ?_⟩
  cases b with
  | true => exact iteT ⟨F1, e1, a1.r, PO'.last a1 p1⟩
  | false => exact iteF ⟨F1, e1, a1.r, PO'.last a1 p1⟩
/-! tests -/
theorem t_val {a : Expr} {fa : En → R} (ha : PE X a (tE (Kx.mk X.K px X.w) cl W fa)) (he : ∀ whole, isTrue a X.env whole = (do let v ← whole; standAt a.pos; holding [v] (truthy v))) : PT X a (tT (Kx.mk X.K px X.w) cl W fa) := by
  refine ptI (pt_truth ha he) fun σ H Q ⟨F, e, r, p⟩ => ⟨F, e, r, POt.of p fun F1 e1 H1 z y b r1 pk t q => ⟨b, pk.tru t, q⟩⟩
theorem t_not {a : Expr} {fa : En → R} {pos} (ha : PT X a (tT (Kx.mk X.K px X.w) cl W fa)) : PT X (.UnaryOp .Not a pos) (tT (Kx.mk X.K px X.w) cl W (dNot fa)) := by
  refine ptI (pt_not ha) fun σ H Q ⟨F, e, r, p⟩ => ⟨F, e, r, POt.tst (.refl r) p fun b u e1 F1 H1 a1 f1 y p1 => ?_⟩
  obtain ⟨x, c, h1, h2, h3⟩ := p1
  cases h1
  cases h2
  exact h3 F1 H1 a1.r a1.f
theorem t_ite {c a b : Expr} {fc fa fb : En → R} {pos} (h : PE X (.IfExp c a b pos) (tE (Kx.mk X.K px X.w) cl W (dIte fc fa fb))) : PE X (.IfExp c a b pos) (tE (Kx.mk X.K px X.w) cl W (dIte fc fa fb)) := h
theorem w_and {a b : Expr} {rest : List Expr} {fa fb : En → R} {pos} (ha : PT X a (tT (Kx.mk X.K px X.w) cl W fa)) (hb : PW X (.BoolOp .And (b :: rest) pos) (tT (Kx.mk X.K px X.w) cl W fb)) : PW X (.BoolOp .And (a :: b :: rest) pos) (tT (Kx.mk X.K px X.w) cl W (dAnd fa fb)) := by
  refine ⟨fun wh pins s σ H Q I ⟨F, e, r, p⟩ => (pw_and ha hb).run wh pins s σ H Q I ⟨F, e, r, POt.tst (.refl r) p fun b u e1 F1 H1 a1 f1 y p1 => ?_⟩⟩
  cases b with
  | true => exact iteT ⟨F1, e1, a1.r, POt.last a1 p1⟩
  | false =>
    obtain ⟨x, c, h1, h2, h3⟩ := p1
    obtain ⟨y', y1, y2⟩ := y
    rw [y1] at h1
    cases h1
    rw [y2] at h2
    cases h2
    exact iteF (h3 F1 H1 a1.r a1.f)
theorem w_or {a b : Expr} {rest : List Expr} {fa fb : En → R} {pos} (ha : PT X a (tT (Kx.mk X.K px X.w) cl W fa)) (hb : PW X (.BoolOp .Or (b :: rest) pos) (tT (Kx.mk X.K px X.w) cl W fb)) : PW X (.BoolOp .Or (a :: b :: rest) pos) (tT (Kx.mk X.K px X.w) cl W (dOr fa fb)) := by
  refine ⟨fun wh pins s σ H Q I ⟨F, e, r, p⟩ => (pw_or ha hb).run wh pins s σ H Q I ⟨F, e, r, POt.tst (.refl r) p fun b u e1 F1 H1 a1 f1 y p1 => ?_⟩⟩
  cases b with
  | false => exact iteF ⟨F1, e1, a1.r, POt.last a1 p1⟩
  | true =>
    obtain ⟨x, c, h1, h2, h3⟩ := p1
    obtain ⟨y', y1, y2⟩ := y
    rw [y1] at h1
    cases h1
    rw [y2] at h2
    cases h2
    exact iteT (h3 F1 H1 a1.r a1.f)
theorem w_and1 {a : Expr} {fa : En → R} {pos} (ha : PT X a (tT (Kx.mk X.K px X.w) cl W fa)) : PW X (.BoolOp .And [a] pos) (tT (Kx.mk X.K px X.w) cl W fa) := pw_and1 ha
theorem w_or1 {a : Expr} {fa : En → R} {pos} (ha : PT X a (tT (Kx.mk X.K px X.w) cl W fa)) : PW X (.BoolOp .Or [a] pos) (tT (Kx.mk X.K px X.w) cl W fa) := pw_or1 ha
/-! a[b] -/
theorem ixF_N {n : Nat} {i : Int} : ixF n i = ixN n i := by
  unfold ixF ixN
  cases i with
  | ofNat k =>
    simp only [Int.ofNat_eq_natCast, Nat.ble_eq]
    by_cases h : k < n
    · rw [if_pos (by omega), if_pos (by omega), if_pos (by omega)]; simp
    · rw [if_neg (by omega), if_pos (by omega), if_neg (by omega)]
  | negSucc k =>
    simp only [Nat.ble_eq]
    rw [if_neg (by omega : ¬ (0 : Int) ≤ Int.negSucc k)]
    by_cases h : k < n
    · rw [if_pos (by omega), if_pos (by omega)]
      congr 1
      omega
    · rw [if_neg (by omega), if_neg (by omega)]
theorem RepL.atI {K : Kx} {vs : List V} {ds : List PyData} {i : Int} {d : PyData} (r : RepL K F H vs ds) (h : (ixF ds.length i).bind (fun j => ds[j]?) = some d) : ∃ v, L2.atI vs i = some v ∧ Rep K F H v d := by
  rw [ixF_N] at h
  unfold L2.atI
  rw [r.length]
  cases q : ixN ds.length i with
  | none => rw [q] at h; cases h
  | some j =>
    rw [q] at h
    exact r.get (by simpa using h)
/-- d[k] -/
def rIxD (K : Kx) : R2 := fun x y H Q => ∃ F a xs od ds kd k d, x = .ref a ∧ H a = some (dctO K.w a xs od) ∧ Paired (Ent K F H) xs ds ∧ Rep K F H y kd ∧ keyT kd = some k ∧ lookN k ds = some d ∧ ∀ v, Rep K F H v d → Q v H
theorem ix_dct (hu : X.A.units + 100 < cLine) : IxR X (rIxD (Kx.mk X.K px X.w)) := by
  intro val sli pins s σ H x y v u Q I rx ry h hs
  obtain ⟨F, a, xs, od, ds, kd, k, d, rfl, hp, pp, rk, hk, hl, q⟩ := h
  cases rx
  obtain ⟨c1, c2, xs', rfl⟩ := keyT_ok hk
  obtain ⟨d1, d2⟩ := dct_of I hp pp
  obtain ⟨b, w', z, e1, e2, e3⟩ := (look_ok pp).1 d hl
  obtain ⟨p, ey⟩ : ∃ p, y = .ref p := by
    cases rk <;> exact ⟨_, rfl⟩
  subst ey
  cases ry
  have ty := d2.typeIs
  unfold subscriptTail
  refine wpAny_bind ?_
  rw [getitemInPython_of_ne ty.not_modules]
  refine wpAny_bind (wpAny_specialOf ty PySem.F.slot_dict_getitem.lookup ?_)
  have last : wpAny (model X.prog X.w) X.A (subscripted sli false (.ref a) (.ref p) >>= fun r => letTemporaryGo val (.ref a) r >>= fun _ => pure r) (EP X pins σ Q) X.xe s := by
    rw [hs]
    refine wpAny_bind (wpAny_operating (wpAny_getItem_heap (knd := nestedKind X.prog X.w) (by show X.A.in1.units + 8 < cLine; show X.A.units + 1 + 8 < cLine; omega) ⟨nest_ok I rk c1 rfl, c2⟩ d2 e1 ?_))
    exact wpAny_bind (wpAny_letTemporaryGo (wpAny_pure ⟨z, H, I.tok _, e2, q z e3⟩))
  first
    | exact wpAny_pure last
    | exact wpAny_bind (wpAny_pure last)
    | exact last
theorem ix_ok0 {pins : List (Addr × Obj)} {z y : V} {a b x : PyData} {Q : VK} {u : Vl} (pa : Pk (Kx.mk X.K px X.w) F H z a) (pb : Pk (Kx.mk X.K px X.w) F H y b) (h : ixD a b = some x) (nd : noDct a = true) (dm : Dom F H) (o : ∀ w, Rep (Kx.mk X.K px X.w) F H w x → Q w H) : rIx X.K z y H Q := by
  cases a <;> cases b <;> simp only [ixD, reduceCtorEq] at h
  case dict.tuple => cases nd
  case list.int xs i =>
    obtain ⟨p, vs, rfl, hs, rl⟩ := pa.list
    obtain ⟨v, h1, h2⟩ := rl.atI h
    exact .inl ⟨p, vs, i, v, rfl, pb.int, hs.sqL, h1, o v h2⟩
  case tuple.int xs i =>
    obtain ⟨p, vs, rfl, hs, rl⟩ := pa.tuple
    obtain ⟨v, h1, h2⟩ := rl.atI h
    exact .inr (.inl ⟨p, vs, i, v, rfl, pb.int, hs, h1, o v h2⟩)
  case str.int x i =>
    split at h
    · rename_i c
      rw [ixF_N] at h
      cases q : ixN x.cps.toList.length i with
      | none => rw [q] at h; cases h
      | some j =>
        rw [q] at h
        simp only [Option.bind_some, Option.map_eq_some_iff] at h
        obtain ⟨c', h1, rfl⟩ := h
        exact .inr (.inr ⟨x, i, c', pa.str, pb.int, lenOk_line c, by unfold L2.atI; rw [q]; exact h1, o _ (.str _)⟩)
    · cases h
theorem ix_ok {z y : V} {a b x : PyData} {Q : VK} {u : Vl} (pa : Pk (Kx.mk X.K px X.w) F H z a) (pb : Pk (Kx.mk X.K px X.w) F H y b) (h : ixD a b = some x) (dm : Dom F H) (o : ∀ w, Rep (Kx.mk X.K px X.w) F H w x → Q w H) : rIx X.K z y H Q ∨ rIxD (Kx.mk X.K px X.w) z y H Q := by
  cases hn : noDct a with
  | true => exact .inl (ix_ok0 (pins := []) (u := u) pa pb h hn dm o)
  | false =>
    cases a <;> cases hn
    rename_i kvs
    cases b <;> simp only [ixD, reduceCtorEq] at h
    rename_i xs
    split at h
    · rename_i k hk
      split at h
      case isFalse => cases h
      rename_i cb
      obtain ⟨a, ys, od, rfl, e, pp⟩ := pa.dict cb
      have pr : Rep (Kx.mk X.K px X.w) F H y (.tuple xs) := by
        cases pb with
        | rep h => exact h
        | root h => cases h
      exact .inr ⟨F, a, ys, od, kvs, _, k, x, rfl, e, pp, pr, hk, h, o⟩
    · cases h
theorem s_ix {a b : Expr} {fa fb : En → R} {pos} (hu : X.A.units + 100 < cLine) (hs : PlainIx b) (ha : PE X a (tE (Kx.mk X.K px X.w) cl W fa)) (hb : PE X b (tE (Kx.mk X.K px X.w) cl W fb)) : PE X (.Subscript a b pos) (tE (Kx.mk X.K px X.w) cl W (dIx fa fb)) := by
  refine peI (pe_ix (ix_seq.or (ix_dct (px := px) hu)) ha hb hs) fun σ H Q ⟨F, e, r, p⟩ => ?_
  refine ⟨F, e, r, PO'.bd (.refl r) p fun u e1 F1 H1 z a1 f1 v1 n1 p1 => ?_⟩
  refine ⟨F1, e1, a1.r, PO'.bd a1 p1 fun w e2 F2 H2 y a2 f2 v2 n2 p2 => ?_⟩
  split at p2
  · rename_i x1 x2 q1 q2
    cases t : ixD x1 x2 with
    | none => rw [t] at p2; exact p2.elim
    | some x =>
      rw [t] at p2
      exact ix_ok (u := .d x) (res_ok a2.r (VR.keep a1.r f2 v1) q1) (res_ok a2.r v2 q2) t a2.r.dom fun w h => PO'.okd a2 p2 h
  · exact p2.elim
/-! slices -/
def rSl (K : PySem.W.Frag) : V → Option Int → Option Int → Hp → VK → Prop := fun x lo hi H Q => rSlL K x lo hi H Q ∨ rSlA K x lo hi H Q ∨ rSlS x lo hi H Q
theorem sl_all : SlR X (rSl X.K) := sl_list.or (sl_tupA.or sl_str)
theorem cut_rep {K : Kx} {vs : List V} {ds : List PyData} (r : RepL K F H vs ds) (lo hi : Option Int) : RepL K F H (cutV vs lo hi) (cutD ds lo hi) := by
  unfold cutV cutD
  rw [r.length]
  exact (r.drop _).take _
theorem sl_ok {z : V} {a : PyData} {lo hi : Option Int} {Q : VK} {u : Vl} (pa : Pk (Kx.mk X.K px X.w) F H z a) (h : slD a lo hi = some u) (dm : Dom F H) (o : Out (Kx.mk X.K px X.w) F H Q u) : rSl X.K z lo hi H Q := by
  cases a <;> simp only [slD, reduceCtorEq] at h
  case list xs =>
    cases h
    obtain ⟨p, vs, rfl, hs, rl⟩ := pa.list
    exact .inl ⟨p, vs, rfl, hs.sqL, o.lst dm (cut_rep rl lo hi)⟩
  case tuple xs =>
    cases h
    obtain ⟨p, vs, rfl, hs, rl⟩ := pa.tuple
    refine .inr (.inl ⟨p, vs, rfl, hs, fun ⟨h1, h2⟩ => ?_, fun _ => o.tup dm (cut_rep rl lo hi)⟩)
    refine o.now dm ?_
    rw [rl.length] at h1 h2
    have : cutD xs lo hi = xs := by
      unfold cutD
      rw [h1, h2]
      simp
    rw [this]
    cases pa with
    | rep h => exact h
    | root h => cases h
  case str x =>
    split at h
    · rename_i c
      cases h
      exact .inr (.inr ⟨x, pa.str, lenOk_line c, o.now dm (.str _)⟩)
    · cases h
theorem slD_np {a : PyData} {lo hi : Option Int} {u : Vl} (h : slD a lo hi = some u) : ∀ i, u ≠ .p i := by
  intro i z
  subst z
  cases a <;> simp only [slD, reduceCtorEq, Option.some.injEq] at h
  split at h <;> simp at h
theorem s_sl {a b c : Expr} {fa fb fc : En → R} {pos p2} (ha : PE X a (tE (Kx.mk X.K px X.w) cl W fa)) (hb : PE X b (tE (Kx.mk X.K px X.w) cl W fb)) (hc : PE X c (tE (Kx.mk X.K px X.w) cl W fc)) : PE X (.Subscript a (.Slice (some b) (some c) none p2) pos) (tE (Kx.mk X.K px X.w) cl W (dSl fa fb fc)) := by
  refine peI (pe_slice sl_all ha (po_some hb) (po_some hc)) fun σ H Q ⟨F, e, r, p⟩ => ?_
  refine ⟨F, e, r, PO'.bd (.refl r) p fun u e1 F1 H1 z a1 f1 v1 n1 p1 => ?_⟩
  refine ⟨F1, e1, a1.r, PO'.bd a1 p1 fun w e2 F2 H2 y a2 f2 v2 n2 p2 => ?_⟩
  split at p2
  · rename_i i q2
    refine ⟨i, (res_ok a2.r v2 q2).int, F2, e2, a2.r, PO'.bd a2 p2 fun t e3 F3 H3 x a3 f3 v3 n3 p3 => ?_⟩
    split at p3
    · rename_i x1 j q1 q3
      unfold oR at p3
      cases t : slD x1 (some i) (some j) with
      | none => rw [t] at p3; exact p3.elim
      | some v =>
        rw [t] at p3
        exact ⟨j, (res_ok a3.r v3 q3).int, sl_ok (res_ok a3.r (VR.keep a2.r f3 (VR.keep a1.r f2 v1)) q1) t a3.r.dom (PO'.out a3 p3 (slD_np t))⟩
    · exact p3.elim
  · exact p2.elim
theorem s_slL {a b : Expr} {fa fb : En → R} {pos p2} (ha : PE X a (tE (Kx.mk X.K px X.w) cl W fa)) (hb : PE X b (tE (Kx.mk X.K px X.w) cl W fb)) : PE X (.Subscript a (.Slice (some b) none none p2) pos) (tE (Kx.mk X.K px X.w) cl W (dSlL fa fb)) := by
  refine peI (pe_slice sl_all ha (po_some hb) po_none) fun σ H Q ⟨F, e, r, p⟩ => ?_
  refine ⟨F, e, r, PO'.bd (.refl r) p fun u e1 F1 H1 z a1 f1 v1 n1 p1 => ?_⟩
  refine ⟨F1, e1, a1.r, PO'.bd a1 p1 fun w e2 F2 H2 y a2 f2 v2 n2 p2 => ?_⟩
  split at p2
  · rename_i x1 i q1 q2
    unfold oR at p2
    cases t : slD x1 (some i) none with
    | none => rw [t] at p2; exact p2.elim
    | some v =>
      rw [t] at p2
      exact ⟨i, (res_ok a2.r v2 q2).int, sl_ok (res_ok a2.r (VR.keep a1.r f2 v1) q1) t a2.r.dom (PO'.out a2 p2 (slD_np t))⟩
  · exact p2.elim
theorem s_slH {a b : Expr} {fa fb : En → R} {pos p2} (ha : PE X a (tE (Kx.mk X.K px X.w) cl W fa)) (hb : PE X b (tE (Kx.mk X.K px X.w) cl W fb)) : PE X (.Subscript a (.Slice none (some b) none p2) pos) (tE (Kx.mk X.K px X.w) cl W (dSlH fa fb)) := by
  refine peI (pe_slice sl_all ha po_none (po_some hb)) fun σ H Q ⟨F, e, r, p⟩ => ?_
  refine ⟨F, e, r, PO'.bd (.refl r) p fun u e1 F1 H1 z a1 f1 v1 n1 p1 => ?_⟩
  refine ⟨F1, e1, a1.r, PO'.bd a1 p1 fun w e2 F2 H2 y a2 f2 v2 n2 p2 => ?_⟩
  split at p2
  · rename_i x1 i q1 q2
    unfold oR at p2
    cases t : slD x1 none (some i) with
    | none => rw [t] at p2; exact p2.elim
    | some v =>
      rw [t] at p2
      exact ⟨i, (res_ok a2.r v2 q2).int, sl_ok (res_ok a2.r (VR.keep a1.r f2 v1) q1) t a2.r.dom (PO'.out a2 p2 (slD_np t))⟩
  · exact p2.elim
theorem s_slA {a : Expr} {fa : En → R} {pos p2} (ha : PE X a (tE (Kx.mk X.K px X.w) cl W fa)) : PE X (.Subscript a (.Slice none none none p2) pos) (tE (Kx.mk X.K px X.w) cl W (dSlA fa)) := by
  refine peI (pe_slice sl_all ha po_none po_none) fun σ H Q ⟨F, e, r, p⟩ => ?_
  refine ⟨F, e, r, PO'.bd (.refl r) p fun u e1 F1 H1 z a1 f1 v1 n1 p1 => ?_⟩
  split at p1
  · rename_i x1 q1
    unfold oR at p1
    cases t : slD x1 none none with
    | none => rw [t] at p1; exact p1.elim
    | some v =>
      rw [t] at p1
      exact sl_ok (res_ok a1.r v1 q1) t a1.r.dom (PO'.out a1 p1 (slD_np t))
  · exact p1.elim
theorem s_rev {a : Expr} {fa : En → R} {k p1 p2 p3 pos} (ha : PE X a (tE (Kx.mk X.K px X.w) cl W fa)) : PE X (.Subscript a (.Slice none none (some (.UnaryOp .USub (.Constant (.int 1) k p1) p2)) p3) pos) (tE (Kx.mk X.K px X.w) cl W (dRev fa)) := by
  refine peI (pe_revL ha) fun σ H Q ⟨F, e, r, p⟩ => ?_
  refine ⟨F, e, r, PO'.bd (.refl r) p fun u e1 F1 H1 z a1 f1 v1 n1 p1 => ?_⟩
  split at p1
  · rename_i xs q1
    obtain ⟨b, vs, rfl, hs, rl⟩ := (res_ok a1.r v1 q1).list
    exact ⟨b, vs, rfl, hs.sqL, (PO'.out a1 p1 fun i z => by cases z).lst a1.r.dom rl.rev⟩
  · exact p1.elim
/-! stars -/
theorem Ap.d {v : V} {x : PyData} {ws : List V} {us : List Vl} : Ap v (.d x) ws us := by
  cases ws <;> cases us <;> trivial
theorem VRs.datas {K : Kx} {H0 : Hp} : ∀ {vs : List V} {ds : List PyData}, RepL K F H vs ds → VRs K F e σ H H0 vs (ds.map Vl.d)
  | _, _, .nil => trivial
  | _, _, .cons a b => ⟨a, trivial, Ap.d, VRs.datas b⟩
theorem VRs.append {K : Kx} {H0 : Hp} : ∀ {vs ws : List V} {ds : List PyData} {us : List Vl}, RepL K F H vs ds → VRs K F e σ H H0 ws us → VRs K F e σ H H0 (vs ++ ws) (ds.map Vl.d ++ us)
  | _, _, _, _, .nil, h => h
  | _, _, _, _, .cons a b, h => ⟨a, trivial, Ap.d, VRs.append b h⟩
theorem s_star {a : Expr} {es : List Expr} {fa fb : En → R} {p} (ha : PE X a (tE (Kx.mk X.K px X.w) cl W fa)) (hb : PA X es (tA (Kx.mk X.K px X.w) cl W fb)) : PA X (.Starred a p :: es) (tA (Kx.mk X.K px X.w) cl W (dStar fa fb)) := by
  refine paI (StX.pa_star ha hb) fun σ H Q ⟨F, e, r, p⟩ => ?_
  refine ⟨F, e, r, POs.bd (.refl r) p fun u e1 F1 H1 z a1 f1 v1 n1 p1 => ?_⟩
  split at p1
  · rename_i xs q1
    obtain ⟨b, vs, rfl, hs, rl⟩ := (res_ok a1.r v1 q1).list
    refine ⟨b, vs, rfl, .inr hs.sqL, F1, e1, a1.r, POs.bds a1 p1 fun us e2 F2 H2 zs a2 f2 v2 p2 => p2 F2 H2 (vs ++ zs) a2.r a2.f (VRs.append (rl.mono f2.grow ?_) (VRs.old a1.f.dom v2))⟩
    exact f2.keepF a1.r
  · rename_i xs q1
    obtain ⟨b, vs, rfl, hs, rl⟩ := (res_ok a1.r v1 q1).tuple
    refine ⟨b, vs, rfl, .inl hs, F1, e1, a1.r, POs.bds a1 p1 fun us e2 F2 H2 zs a2 f2 v2 p2 => p2 F2 H2 (vs ++ zs) a2.r a2.f (VRs.append (rl.mono f2.grow ?_) (VRs.old a1.f.dom v2))⟩
    exact f2.keepF a1.r
  · exact p1.elim
end
end Ev
end

section
set_option Elab.async false
set_option linter.all false
set_option maxRecDepth 100000
set_option maxHeartbeats 2000000
namespace Ev
open PySem PySem.Spec PyProof.Rows L2
/-! ## data put in order -/
theorem ins_at (x : PyData) : ∀ (l m : List PyData), (∀ b ∈ l, PySem.W.dataLt b x = true) → (∀ b ∈ m, PySem.W.dataLt b x = false) → ins x (l ++ m) = l ++ x :: m
  | [], [], _, _ => rfl
  | [], b :: m, _, h => by
    show (if PySem.W.dataLt b x = true then b :: ins x m else x :: b :: m) = _
    rw [h b List.mem_cons_self]; rfl
  | a :: l, m, h, g => by
    show (if PySem.W.dataLt a x = true then a :: ins x (l ++ m) else x :: a :: (l ++ m)) = _
    rw [h a List.mem_cons_self, ins_at x l m (fun b hb => h b (List.mem_cons_of_mem _ hb)) g]; rfl
theorem le_eq (a b : PyData) : PySem.W.dataLe false id a b = !PySem.W.dataLt b a := rfl
theorem le_total : PySem.W.TotalLe (PySem.W.dataLe false (id : PyData → PyData)) := PySem.W.sortLe_total _ _ _
theorem isort_eq : ∀ xs : List PyData, isort xs = xs.mergeSort (PySem.W.dataLe false id)
  | [] => by simp [isort]
  | x :: r => by
    have tot : ∀ a b : PyData, (PySem.W.dataLe false id a b || PySem.W.dataLe false id b a) = true := fun a b => by
      rw [Bool.or_eq_true]; exact le_total.total a b
    obtain ⟨l, m, h1, h2, h3⟩ := List.mergeSort_cons le_total.trans tot x r
    have p := List.pairwise_mergeSort le_total.trans tot (x :: r)
    rw [h1] at p
    rw [isort, isort_eq r, h2, h1]
    refine ins_at x l m (fun b hb => ?_) fun b hb => ?_
    · have := h3 b hb
      rw [le_eq] at this
      simpa using this
    · have q := (List.pairwise_cons.mp (List.pairwise_append.mp p).2.1).1 b hb
      rw [le_eq] at q
      simpa using q
theorem fitsL_alike {t : Tm} (h : ∀ x y, fits t x = true → fits t y = true → PySem.W.alike x y = true) : ∀ xs ys : List PyData, fitsL t xs = true → fitsL t ys = true → PySem.W.alikeAll xs ys = true
  | [], ys, _, _ => by simp [PySem.W.alikeAll]
  | x :: xs, [], _, _ => by simp [PySem.W.alikeAll]
  | x :: xs, y :: ys, h1, h2 => by
    have a : fits t x = true ∧ fitsL t xs = true := by simpa only [fitsL, Bool.and_eq_true] using h1
    have b : fits t y = true ∧ fitsL t ys = true := by simpa only [fitsL, Bool.and_eq_true] using h2
    simp only [PySem.W.alikeAll, h x y a.1 b.1, fitsL_alike h xs ys a.2 b.2, Bool.and_self]
mutual
theorem fits_alike : ∀ (t : Tm) (x y : PyData), fits t x = true → fits t y = true → PySem.W.alike x y = true
  | .z, x, _, h, _ => by cases x <;> simp [fits] at h
  | .i, x, y, h, g => by cases x <;> first | (simp [fits] at h; done) | (cases y <;> first | (simp [fits] at g; done) | simp [PySem.W.alike])
  | .s, x, y, h, g => by cases x <;> first | (simp [fits] at h; done) | (cases y <;> first | (simp [fits] at g; done) | simp [PySem.W.alike])
  | .b, x, y, h, g => by cases x <;> first | (simp [fits] at h; done) | (cases y <;> first | (simp [fits] at g; done) | simp [PySem.W.alike])
  | .t ts, x, y, h, g => by
    cases x <;> first | (simp [fits] at h; done) | (cases y <;> first | (simp [fits] at g; done) | skip)
    simp only [fits] at h g
    simp only [PySem.W.alike]
    exact fitsT_alike ts _ _ h g
  | .v t, x, y, h, g => by
    cases x <;> first | (simp [fits] at h; done) | (cases y <;> first | (simp [fits] at g; done) | skip)
    simp only [fits] at h g
    simp only [PySem.W.alike]
    exact fitsL_alike (fun x y => fits_alike t x y) _ _ h g
  | .l t, x, y, h, g => by
    cases x <;> first | (simp [fits] at h; done) | (cases y <;> first | (simp [fits] at g; done) | skip)
    simp only [fits] at h g
    simp only [PySem.W.alike]
    exact fitsL_alike (fun x y => fits_alike t x y) _ _ h g
theorem fitsT_alike : ∀ (ts : List Tm) (xs ys : List PyData), fitsT ts xs = true → fitsT ts ys = true → PySem.W.alikeAll xs ys = true
  | [], xs, ys, h, g => by
    cases xs <;> cases ys <;> first | (simp [fitsT] at h; done) | (simp [fitsT] at g; done) | simp [PySem.W.alikeAll]
  | t :: ts, xs, ys, h, g => by
    cases xs <;> first | (simp [fitsT] at h; done) | skip
    cases ys <;> first | (simp [fitsT] at g; done) | skip
    simp only [fitsT, Bool.and_eq_true] at h g
    simp only [PySem.W.alikeAll, fits_alike t _ _ h.1 g.1, fitsT_alike ts _ _ h.2 g.2, Bool.and_self]
end
theorem fitsL_mem {t : Tm} : ∀ {xs : List PyData}, fitsL t xs = true → ∀ x ∈ xs, fits t x = true
  | [], _, x, hx => by simp at hx
  | y :: xs, h, x, hx => by
    have a : fits t y = true ∧ fitsL t xs = true := by simpa only [fitsL, Bool.and_eq_true] using h
    rcases List.mem_cons.mp hx with rfl | hx
    · exact a.1
    · exact fitsL_mem a.2 x hx
theorem fits_not {t : Tm} {x : PyData} (h : fits t x = true) : x ≠ .none := by
  rintro rfl
  cases t <;> simp [fits] at h
mutual
theorem okD_up : ∀ (n : Nat) (x : PyData), okD n x = true → okD (n + 1) x = true
  | _, .none, _ => rfl
  | _, .bool b, _ => rfl
  | _, .int i, _ => rfl
  | _, .str x, h => by simpa only [okD] using h
  | n, .list xs, h => by simp only [okD] at h ⊢; exact okDs_up n xs h
  | n, .tuple xs, h => by simp only [okD] at h ⊢; exact okDs_up n xs h
  | _, .dict _, h => by simp [okD] at h
theorem okDs_up : ∀ (n : Nat) (xs : List PyData), okDs n xs = true → okDs (n + 1) xs = true
  | _, [], _ => by simp [okDs]
  | 0, _ :: _, h => by simp [okDs] at h
  | n + 1, x :: xs, h => by
    have h' : okD n x = true ∧ okDs (n + 1) xs = true := by simpa only [okDs, Bool.and_eq_true] using h
    simp only [okDs, Bool.and_eq_true]
    exact ⟨okD_up n x h'.1, okDs_up (n + 1) xs h'.2⟩
end
theorem shp_mem {xs : List PyData} (h : shp (.list xs) = true) : ∀ x ∈ xs, shp x = true := by
  have key : ∀ xs : List PyData, okDs 40 xs = true → ∀ x ∈ xs, okD 39 x = true := by
    intro xs
    induction xs with
    | nil => intro _ x hx; simp at hx
    | cons y xs ih =>
      intro h x hx
      have a : okD 39 y = true ∧ okDs 40 xs = true := by simpa only [okDs, Bool.and_eq_true] using h
      rcases List.mem_cons.mp hx with rfl | hx
      · exact a.1
      · exact ih a.2 x hx
  intro x hx
  exact okD_up 39 x (key xs (by simpa only [shp, okD] using h) x hx)
theorem sortT_ok {t : Tm} {xs : List PyData} (h : sortable t = true) (g : fitsL t xs = true) : PySem.W.AllAlike xs ∧ PySem.W.Sortable xs := by
  refine ⟨fun d hd d' hd' => fits_alike t d d' (fitsL_mem g d hd) (fitsL_mem g d' hd'), ?_⟩
  cases t with
  | t ts =>
    cases ts with
    | nil => simp [sortable] at h
    | cons u us =>
      refine .inl fun d hd => ?_
      have := fitsL_mem g d hd
      cases d <;> first | (simp [fits] at this; done) | skip
      rename_i ys
      cases ys with
      | nil => simp [fits, fitsT] at this
      | cons y ys => exact ⟨y, ys, rfl⟩
  | z => simp [sortable] at h
  | v u => simp [sortable] at h
  | _ =>
    refine .inr fun d hd => ⟨fits_not (fitsL_mem g d hd), fun ys e => ?_⟩
    have := fitsL_mem g d hd
    rw [e] at this
    simp [fits] at this
theorem sortOk_ok {xs : List PyData} (h : sortOk xs = true) : xs.length ≤ lim ∧ (∀ x ∈ xs, shp x = true) ∧ PySem.W.AllAlike xs ∧ PySem.W.Sortable xs := by
  unfold sortOk at h
  simp only [Bool.and_eq_true] at h
  refine ⟨Nat.le_of_ble_eq_true h.1.1, shp_mem h.1.2, ?_⟩
  cases xs with
  | nil => exact ⟨fun d hd => by simp at hd, .inl fun d hd => by simp at hd⟩
  | cons x xs =>
    have h2 : sortT (tmL .z (x :: xs)) (x :: xs) = true := by simpa using h.2
    unfold sortT at h2
    rw [Bool.and_eq_true] at h2
    exact sortT_ok h2.1 h2.2
theorem minOk_ok {xs : List PyData} (h : minOk xs = true) : (∀ x ∈ xs, shp x = true) ∧ PySem.W.AlikeAll xs := by
  unfold minOk at h
  simp only [Bool.and_eq_true] at h
  refine ⟨shp_mem h.1, fun x hx y hy => fits_alike _ x y (fitsL_mem h.2 x hx) (fitsL_mem h.2 y hy), fun x hx => fits_not (fitsL_mem h.2 x hx)⟩
end Ev
end

section
set_option Elab.async false
set_option linter.all false
set_option maxRecDepth 100000
set_option maxHeartbeats 2000000
namespace Ev
open PySem PySem.Spec PyProof.Rows L2
/-! ## built-in functions -/
mutual
theorem intsOk_ok : ∀ x : PyData, okD n x = true → intsOk x = true → x.leavesShort 902 = true ∧ x.showable = true
  | .none, _, _ => ⟨rfl, rfl⟩
  | .bool _, _, _ => ⟨rfl, rfl⟩
  | .int i, _, h => by
    have h' : i.natAbs.log2 ≤ 899 := by
      have : Nat.ble i.natAbs.log2 899 = true := by simpa only [intsOk] using h
      exact Nat.le_of_ble_eq_true this
    refine ⟨?_, ?_⟩
    · simp only [PyData.leavesShort, decide_eq_true_eq]
      have e := int_text_length_le (a := i) (k := 900) (by decide) (by omega)
      show (Str.ofString (toString i)).length ≤ 902
      rw [PySem.ofString_length]; omega
    · simp only [PyData.showable, decide_eq_true_eq]; omega
  | .str x, hc, _ => by
    refine ⟨?_, rfl⟩
    have h0 : x.cps.all (· < 0x110000) = true := by simpa only [okD, PyData.strOk] using hc
    simp only [PyData.leavesShort, List.all_eq_true, decide_eq_true_eq]
    intro c hcm
    have := (Array.all_eq_true_iff_forall_mem.mp h0) c (Array.mem_toList_iff.mp hcm)
    have : c < 0x110000 := by simpa using this
    omega
  | .list xs, hc, h => by
    have := intsOks_ok (n := n) xs (by simpa only [okD] using hc) (by simpa only [intsOk] using h)
    exact ⟨by simpa only [PyData.leavesShort] using this.1, by simpa only [PyData.showable] using this.2⟩
  | .tuple xs, hc, h => by
    have := intsOks_ok (n := n) xs (by simpa only [okD] using hc) (by simpa only [intsOk] using h)
    exact ⟨by simpa only [PyData.leavesShort] using this.1, by simpa only [PyData.showable] using this.2⟩
  | .dict _, hc, _ => by simp [okD] at hc
theorem intsOks_ok : ∀ xs : List PyData, okDs n xs = true → intsOks xs = true → PyData.leavesShortAll 902 xs = true ∧ PyData.showableAll xs = true
  | [], _, _ => ⟨rfl, rfl⟩
  | x :: xs, hc, h => by
    have h' : intsOk x = true ∧ intsOks xs = true := by simpa only [intsOks, Bool.and_eq_true] using h
    cases n with
    | zero => simp [okDs] at hc
    | succ n =>
      have hc' : okD n x = true ∧ okDs (n + 1) xs = true := by simpa only [okDs, Bool.and_eq_true] using hc
      have a := intsOk_ok (n := n) x hc'.1 h'.1
      have b := intsOks_ok (n := n + 1) xs hc'.2 h'.2
      exact ⟨by simp only [PyData.leavesShortAll, a.1, b.1, Bool.and_self], by simp only [PyData.showableAll, a.2, b.2, Bool.and_self]⟩
end
mutual
theorem wgt_le : ∀ x : PyData, okD n x = true → x.weight ≤ wgt x
  | .none, _ => by simp [PyData.weight]
  | .bool _, _ => by simp [PyData.weight]
  | .int i, _ => by
    simp only [PyData.weight, wgt]
    split <;> omega
  | .str x, _ => by simp [PyData.weight, wgt]
  | .list xs, h => by
    simp only [PyData.weight, wgt]
    exact wgts_le (n := n) xs (by simpa only [okD] using h)
  | .tuple xs, h => by
    simp only [PyData.weight, wgt]
    exact wgts_le (n := n) xs (by simpa only [okD] using h)
  | .dict _, h => by simp [okD] at h
theorem wgts_le : ∀ xs : List PyData, okDs n xs = true → PyData.weightAll xs ≤ wgts xs
  | [], _ => by simp [PyData.weightAll, wgts]
  | x :: xs, h => by
    cases n with
    | zero => simp [okDs] at h
    | succ n =>
      have h' : okD n x = true ∧ okDs (n + 1) xs = true := by simpa only [okDs, Bool.and_eq_true] using h
      have a := wgt_le (n := n) x h'.1
      have b := wgts_le (n := n + 1) xs h'.2
      simp only [PyData.weightAll, wgts]
      omega
end
theorem showOk_ok {x : PyData} (h : showOk x = true) : x.showable = true ∧ x.hasDict = false ∧ x.shown.length ≤ sizeLine ∧ x.depth ≤ 41 := by
  unfold showOk at h
  simp only [Bool.and_eq_true] at h
  have h1 := h.1.1
  obtain ⟨a, b⟩ := intsOk_ok (n := 40) x h1 h.1.2
  have w := wgt_le (n := 40) x h1
  have w2 := Nat.le_of_ble_eq_true h.2
  have l := PyData.shown_le 902 (by decide) x a
  refine ⟨b, PyData.hasDict_of_canLay x (okD_ok 40 x h1).1, ?_, shp_depth h1⟩
  rw [sizeLine_eq]
  have : (902 + 2) * x.weight ≤ 904 * 8192 := Nat.mul_le_mul_left _ (by omega)
  omega
section
variable {X : Cx} {px : Addr → Nat → Addr → Prop} {cl : Nat → Addr} {W : WX} {F F' F1 F2 : As} {e e' e1 e2 : En} {σ : L2.St} {H H1 H2 : Hp}
def rBt (K : Kx) (n : Nat) : List V → Hp → VK → Prop := fun vs H Q => ∃ F ds u, PkL K F H vs ds ∧ bltF n ds = some u ∧ Dom F H ∧ Out K F H Q u
theorem bltF_np {n : Nat} {ds : List PyData} {u : Vl} (h : bltF n ds = some u) : ∀ i, u ≠ .p i := by
  intro i z
  subst z
  unfold bltF at h
  split at h <;> (repeat' (split at h)) <;> first
    | (cases h; done)
    | (simp only [Option.map_eq_some_iff, Option.bind_eq_some_iff, reduceCtorEq, and_false, exists_false] at h; done)
    | (obtain ⟨a, _, h⟩ := Option.map_eq_some_iff.mp h; cases h; done)
    | (obtain ⟨a, _, h⟩ := Option.bind_eq_some_iff.mp h; (repeat' (split at h)) <;> cases h)
theorem blt_pe {n : Nat} {es : List Expr} {fa : En → R} {ex : Expr} (ha : ∀ t, PA X es t → PE X ex (tCB (rBt (Kx.mk X.K px X.w) n) t)) (h : PA X es (tA (Kx.mk X.K px X.w) cl W fa)) : PE X ex (tE (Kx.mk X.K px X.w) cl W (dBlt n fa)) := by
  refine peI (ha _ h) fun σ H Q ⟨F, e, r, p⟩ => ?_
  refine ⟨F, e, r, PO'.bds (.refl r) p fun us e1 F1 H1 zs a1 f1 v1 p1 => ?_⟩
  cases t : ress e1 us with
  | none => rw [t] at p1; exact p1.elim
  | some ds =>
    rw [t] at p1
    unfold oR at p1
    dsimp only at p1
    cases q : bltF n ds with
    | none => rw [q] at p1; exact p1.elim
    | some u =>
      rw [q] at p1
      exact ⟨F1, ds, u, ress_ok a1.r v1 t, q, a1.r.dom, PO'.out a1 p1 (bltF_np q)⟩
/-- the built-in that a number names -/
def bltV : Nat → Value
  | 0 => .builtin "len"
  | 1 => .type "int"
  | 2 => .builtin "abs"
  | 3 => .builtin "sum"
  | 4 => .builtin "max"
  | 5 => .builtin "min"
  | 6 => .builtin "max"
  | 7 => .builtin "min"
  | 8 => .builtin "sorted"
  | 9 => .type "list"
  | 10 => .type "tuple"
  | 11 => .builtin "repr"
  | 12 => .builtin "all"
  | 13 => .builtin "any"
  | 14 => .builtin "math.gcd"
  | 21 => .type "range"
  | _ => .none
theorem PkL.one {K : Kx} {vs : List V} {d : PyData} (h : PkL K F H vs [d]) : ∃ v, vs = [v] ∧ Pk K F H v d := by
  cases h with
  | cons a b => cases b; exact ⟨_, rfl, a⟩
theorem PkL.two {K : Kx} {vs : List V} {d d' : PyData} (h : PkL K F H vs [d, d']) : ∃ v u, vs = [v, u] ∧ Pk K F H v d ∧ Pk K F H u d' := by
  cases h with
  | cons a b => cases b with | cons b c => cases c; exact ⟨_, _, rfl, a, b⟩
theorem ints_map {xs : List PyData} {ns : List Int} : ints? xs = some ns → xs = ns.map .int := by
  induction xs generalizing ns with
  | nil => intro h; cases h; rfl
  | cons x xs ih =>
    intro h
    cases x <;> simp only [ints?, reduceCtorEq, Option.map_eq_some_iff] at h
    obtain ⟨r, h1, rfl⟩ := h
    rw [ih h1]; rfl
theorem bools_map {xs : List PyData} {ns : List Bool} : bools? xs = some ns → xs = ns.map .bool := by
  induction xs generalizing ns with
  | nil => intro h; cases h; rfl
  | cons x xs ih =>
    intro h
    cases x <;> simp only [bools?, reduceCtorEq, Option.map_eq_some_iff] at h
    obtain ⟨r, h1, rfl⟩ := h
    rw [ih h1]; rfl
theorem strs_map {xs : List PyData} {ns : List Str} : strs? xs = some ns → xs = ns.map .str := by
  induction xs generalizing ns with
  | nil => intro h; cases h; rfl
  | cons x xs ih =>
    intro h
    cases x <;> simp only [strs?, reduceCtorEq, Option.map_eq_some_iff] at h
    obtain ⟨r, h1, rfl⟩ := h
    rw [ih h1]; rfl
theorem RepL.ints {K : Kx} : ∀ {vs : List V} {ns : List Int}, RepL K F H vs (ns.map .int) → vs = ns.map V.int
  | _, [], .nil => rfl
  | _, n :: ns, .cons a b => by cases a; rw [RepL.ints b]; rfl
theorem RepL.bls {K : Kx} : ∀ {vs : List V} {ns : List Bool}, RepL K F H vs (ns.map .bool) → vs = ns.map V.bl
  | _, [], .nil => rfl
  | _, n :: ns, .cons a b => by cases a; rw [RepL.bls b]; rfl
theorem RepL.strs {K : Kx} : ∀ {vs : List V} {ns : List Str}, RepL K F H vs (ns.map .str) → vs = ns.map V.str
  | _, [], .nil => rfl
  | _, n :: ns, .cons a b => by cases a; rw [RepL.strs b]; rfl
theorem sumI_eq : ∀ (ns : List Int) (m : Int), sumI m ns = m + ns.sum
  | [], m => by simp [sumI]
  | n :: ns, m => by simp only [sumI, sumI_eq ns, List.sum_cons]; omega
theorem maxI_eq : ∀ (ns : List Int) (m x : Int), x ∈ m :: ns → (∀ y, y ∈ m :: ns → y ≤ x) → maxI m ns = x
  | [], m, x, h, _ => by simp only [List.mem_cons, List.not_mem_nil, or_false] at h; rw [h]; rfl
  | n :: ns, m, x, h, g => by
    unfold maxI
    refine maxI_eq ns _ x ?_ fun y hy => ?_
    · have a := g m (by simp)
      have b := g n (by simp)
      simp only [List.mem_cons] at h ⊢
      rcases h with h | h | h
      · left; split <;> omega
      · left; split <;> omega
      · exact .inr h
    · simp only [List.mem_cons] at hy
      rcases hy with hy | hy
      · rw [hy]; split
        · exact g n (by simp)
        · exact g m (by simp)
      · exact g y (by simp [hy])
theorem minI_eq : ∀ (ns : List Int) (m x : Int), x ∈ m :: ns → (∀ y, y ∈ m :: ns → x ≤ y) → minI m ns = x
  | [], m, x, h, _ => by simp only [List.mem_cons, List.not_mem_nil, or_false] at h; rw [h]; rfl
  | n :: ns, m, x, h, g => by
    unfold minI
    refine minI_eq ns _ x ?_ fun y hy => ?_
    · have a := g m (by simp)
      have b := g n (by simp)
      simp only [List.mem_cons] at h ⊢
      rcases h with h | h | h
      · left; split <;> omega
      · left; split <;> omega
      · exact .inr h
    · simp only [List.mem_cons] at hy
      rcases hy with hy | hy
      · rw [hy]; split
        · exact g n (by simp)
        · exact g m (by simp)
      · exact g y (by simp [hy])

/-- sum, min of a tuple of ints -/
theorem cr_sumT (hc : X.calm = true) : CallR X (.builtin "sum") (fun vs H Q => ∃ (a : Addr) (ns : List Int), vs = [V.ref a] ∧ SqT X.K H a (ns.map V.int) ∧ Q (.int ns.sum) H) := by
  intro pins s σ H vs us Q I r h
  obtain ⟨a, ns, rfl, hs, q⟩ := h
  obtain ⟨its, rv, pl, _⟩ := I.tuple hs
  rw [Vals.ref1 r]
  have hi : IntsAre its ns := rv.ints
  obtain ⟨xs, hx⟩ := hi.allInts.items
  have hn : numsOf its.toArray.toList = ns := by rw [show its.toArray.toList = its from rfl, hi.numsOf]
  rw [hx] at pl hn
  rw [nums_intItems] at hn
  refine PySem.W.ktm_sumG (I.ok.hd hc) pl fun h' tk t' hk => ⟨.int _, H, I.kept hk, ⟨t', ?_⟩, q⟩
  rw [preSum_eq, List.take_of_length_le (by simp), hn]
/-- range(j) as a value -/
theorem cr_range1 : CallR X (.type "range") (fun vs H Q => ∃ j, vs = [V.int j] ∧ ∀ p, H p = none → Q (.ref p) (upd H p (.rng 0 j))) := by
  intro pins s σ H vs us Q I r h
  obtain ⟨j, rfl, q⟩ := h
  obtain ⟨u2, rfl, rj⟩ := vals1 r
  obtain ⟨u, rfl⟩ := rj
  exact call_range_1 ⟨.ref s.heap.objs.size, upd H s.heap.objs.size (.rng 0 j), I.laid (fun b o e => Heap.get?_push_of_some _ e) (Nat.le_refl _) ⟨_, u, _, Heap.get?_push_size _ rfl⟩, rfl, q _ (I.hok.fresh (Nat.le_refl _))⟩
theorem depth_int (ns : List Int) : PyData.depthAll (ns.map PyData.int) = 0 := by
  induction ns with
  | nil => rfl
  | cons n ns ih => simp [PyData.depthAll, PyData.depth, ih]
theorem fold_min (m : Int) : ∀ ns : List Int, ns.foldl min m = minI m ns := by
  intro ns
  induction ns generalizing m with
  | nil => rfl
  | cons n ns ih =>
    rw [List.foldl_cons, ih, minI]
    congr 1
    rw [Int.min_def]
    split <;> split <;> omega
theorem reads_ints {h : Heap} : ∀ {us : List Value} {ns : List Int}, IntsAre us ns → ReadsAll h us (ns.map PyData.int) []
  | [], [], _ => .nil
  | _ :: _, _ :: _, hi => by
    cases hi with
    | cons n t r => exact .cons (.int _ _) (reads_ints r)
theorem cr_minT (hc : X.calm = true) (hu : X.A.units + 100 < cLine) : CallR X (.builtin "min") (fun vs H Q => ∃ (a : Addr) (m : Int) (ns : List Int), vs = [V.ref a] ∧ SqT X.K H a ((m :: ns).map V.int) ∧ Q (.int (minI m ns)) H) := by
  intro pins s σ H vs us Q I r h
  obtain ⟨a, m, ns, rfl, hs, q⟩ := h
  obtain ⟨its, rv, pl, _⟩ := I.tuple hs
  rw [Vals.ref1 r]
  have hi : IntsAre its (m :: ns) := rv.ints
  refine PySem.W.min_tuple_data (x := .int m) (xs := ns.map .int) (as := []) (I.ok.hd hc) pl (by simpa using reads_ints hi) ⟨fun x hx y hy => ?_, fun x hx => ?_⟩ (by rw [show (PyData.int m :: ns.map PyData.int) = (m :: ns).map PyData.int from rfl, depth_int]; omega) fun i v h' tk bs _ rd hk => ?_
  · obtain ⟨i, _, rfl⟩ := List.mem_map.mp (show x ∈ (m :: ns).map PyData.int from hx)
    obtain ⟨j, _, rfl⟩ := List.mem_map.mp (show y ∈ (m :: ns).map PyData.int from hy)
    rfl
  · obtain ⟨i, _, rfl⟩ := List.mem_map.mp (show x ∈ (m :: ns).map PyData.int from hx)
    exact fun z => by cases z
  · rw [PySem.W.minD_ints, fold_min] at rd
    cases rd
    exact ⟨.int _, H, I.kept hk, ⟨_, rfl⟩, q⟩
/-! lists of data that can be ordered -/
theorem depth_shp : ∀ {xs : List PyData}, (∀ x ∈ xs, shp x = true) → PyData.depthAll xs ≤ 41
  | [], _ => Nat.zero_le _
  | x :: xs, h => by
    have a := shp_depth (h x List.mem_cons_self)
    have b := depth_shp (xs := xs) fun y hy => h y (List.mem_cons_of_mem _ hy)
    simp only [PyData.depthAll]
    omega
theorem pick_ok {K : Kx} {s : Shared} {pins : List (Addr × Obj)} (hK : K.fr = X.K) (I : Inv X pins σ H s) {ws : List V} {ds : List PyData} {its : List Value} (rl : RepL K F H ws ds) (rv : Vals ws its) {i : Nat} {v : Value} {h' : Heap} {d : PyData} {bs : List Addr} (hv : its[i]? = some v) (rd : Reads h' v d bs) (hk : ∀ b o, s.heap.get? b = some o → h'.get? b = some o) : ∃ z, RelV z v ∧ Rep K F H z d := by
  have l1 := rl.length
  have l2 := rv.length
  have hi : i < its.length := (List.getElem?_eq_some_iff.mp hv).1
  have hw : ws[i]? = some ws[i] := List.getElem?_eq_getElem (by omega)
  obtain ⟨u, hu, ru⟩ := rv.get hw
  rw [hv] at hu
  cases hu
  obtain ⟨z, hz, rp⟩ := rl.get (i := i) (List.getElem?_eq_getElem (by omega))
  rw [hw] at hz
  cases hz
  have dp := rp.dp
  rw [hK] at dp
  obtain ⟨as, r1⟩ := Dp.reads I _ _ _ dp ru
  have e := (Reads.unique (Reads.keeps hk r1) _ _ rd).1
  exact ⟨_, ru, by rw [← e]; exact rp⟩
theorem cr_minD (hc : X.calm = true) (hu : X.A.units + 100 < cLine) : CallR X (.builtin "min") (fun vs H Q => ∃ F a ws x xs, vs = [V.ref a] ∧ SqS X.K H a ws ∧ RepL (Kx.mk X.K px X.w) F H ws (x :: xs) ∧ minOk (x :: xs) = true ∧ ∀ z, Rep (Kx.mk X.K px X.w) F H z (PySem.W.minD x xs) → Q z H) := by
  intro pins s σ H vs us Q I r h
  obtain ⟨F, a, ws, x, xs, rfl, hs, rl, hm, q⟩ := h
  obtain ⟨its, rv, pl, _⟩ := I.list (SqS.sqL (K := Kx.mk X.K px X.w) hs)
  rw [Vals.ref1 r]
  obtain ⟨h1, h2⟩ := minOk_ok hm
  obtain ⟨as, hr⟩ := Dp.readsAll I (x :: xs) ws its rl.dp rv
  refine PySem.W.min_list_data (I.ok.hd hc) pl.isList (by simpa using hr) h2 (by have := depth_shp h1; omega) fun i v h' tk bs hv rd hk => ?_
  obtain ⟨z, rz, rp⟩ := pick_ok rfl I rl rv (by simpa using hv) rd hk
  exact ⟨z, H, I.kept hk, rz, q z rp⟩
theorem cr_maxD (hc : X.calm = true) (hu : X.A.units + 100 < cLine) : CallR X (.builtin "max") (fun vs H Q => ∃ F a ws x xs, vs = [V.ref a] ∧ SqS X.K H a ws ∧ RepL (Kx.mk X.K px X.w) F H ws (x :: xs) ∧ minOk (x :: xs) = true ∧ ∀ z, Rep (Kx.mk X.K px X.w) F H z (PySem.W.maxD x xs) → Q z H) := by
  intro pins s σ H vs us Q I r h
  obtain ⟨F, a, ws, x, xs, rfl, hs, rl, hm, q⟩ := h
  obtain ⟨its, rv, pl, _⟩ := I.list (SqS.sqL (K := Kx.mk X.K px X.w) hs)
  rw [Vals.ref1 r]
  obtain ⟨h1, h2⟩ := minOk_ok hm
  obtain ⟨as, hr⟩ := Dp.readsAll I (x :: xs) ws its rl.dp rv
  refine PySem.W.max_list_data (I.ok.hd hc) pl.isList (by simpa using hr) h2 (by have := depth_shp h1; omega) fun i v h' tk bs hv rd hk => ?_
  obtain ⟨z, rz, rp⟩ := pick_ok rfl I rl rv (by simpa using hv) rd hk
  exact ⟨z, H, I.kept hk, rz, q z rp⟩
theorem zip_each {K : Kx} {s : Shared} {pins : List (Addr × Obj)} (hK : K.fr = X.K) (I : Inv X pins σ H s) : ∀ {ws : List V} {ds : List PyData} {its : List Value}, RepL K F H ws ds → Vals ws its → PySem.W.EachIs (fun v (b : V × PyData) => RelV b.1 v) its (ws.zip ds) ∧ PySem.W.EachIs (fun v (b : V × PyData) => ∃ as, Reads s.heap v b.2 as) its (ws.zip ds)
  | _, _, _, .nil, .nil => ⟨.nil, .nil⟩
  | _, _, _, .cons a b, .cons r t => by
    obtain ⟨h1, h2⟩ := zip_each hK I b t
    have dp := a.dp
    rw [hK] at dp
    exact ⟨.cons r h1, .cons (Dp.reads I _ _ _ dp r) h2⟩
theorem each_vals : ∀ {out : List Value} {l : List (V × PyData)}, PySem.W.EachIs (fun v (b : V × PyData) => RelV b.1 v) out l → Vals (l.map (·.1)) out
  | _, _, .nil => .nil
  | _, _, .cons a b => .cons a (each_vals b)
theorem zip_rep {K : Kx} : ∀ {ws : List V} {ds : List PyData}, RepL K F H ws ds → ∀ p ∈ ws.zip ds, Rep K F H p.1 p.2
  | _, _, .nil, p, h => by simp at h
  | _, _, .cons a b, p, h => by
    rcases List.mem_cons.mp h with rfl | h
    · exact a
    · exact zip_rep b p h
theorem rep_of {K : Kx} : ∀ {l : List (V × PyData)}, (∀ p ∈ l, Rep K F H p.1 p.2) → RepL K F H (l.map (·.1)) (l.map (·.2))
  | [], _ => .nil
  | p :: l, h => .cons (h p List.mem_cons_self) (rep_of fun q hq => h q (List.mem_cons_of_mem _ hq))
theorem cr_sortD (hc : X.calm = true) (hu : X.A.units + 100 < cLine) : CallR X (.builtin "sorted") (fun vs H Q => ∃ F a ws ds, vs = [V.ref a] ∧ SqS X.K H a ws ∧ RepL (Kx.mk X.K px X.w) F H ws ds ∧ sortOk ds = true ∧ ∀ ys, RepL (Kx.mk X.K px X.w) F H ys (isort ds) → ∀ p, H p = none → Q (.ref p) (upd H p (.lst ys))) := by
  intro pins s σ H vs us Q I r h
  obtain ⟨F, a, ws, ds, rfl, hs, rl, hm, q⟩ := h
  obtain ⟨its, rv, pl, hz⟩ := I.list (SqS.sqL (K := Kx.mk X.K px X.w) hs)
  rw [Vals.ref1 r]
  obtain ⟨h0, h1, h2, h3⟩ := sortOk_ok hm
  obtain ⟨e1, e2⟩ := zip_each rfl I rl rv
  have lw := rl.length
  have em : (ws.zip ds).map Prod.snd = ds := List.map_snd_zip (by omega)
  have zl : (ws.zip ds).length = ds.length := by rw [List.length_zip]; omega
  refine PySem.W.sorted_data (enc := Prod.snd) (bs := ws.zip ds) (pl.isList) e1 e2 (by rw [em]; exact h2) (by rw [em]; exact h3) (by rw [zl]; omega) (fun b hb => ?_) fun out ho ho2 => ?_
  · have : b.2 ∈ ds := by rw [← em]; exact List.mem_map.mpr ⟨b, hb, rfl⟩
    have := shp_depth (h1 _ this)
    omega
  · have pm := List.mergeSort_perm (ws.zip ds) (PySem.W.dataLe false Prod.snd)
    have e3 : ((ws.zip ds).mergeSort (PySem.W.dataLe false Prod.snd)).map Prod.snd = isort ds := by
      rw [isort_eq]
      exact (List.map_mergeSort (r := PySem.W.dataLe false Prod.snd) (s := PySem.W.dataLe false id) (f := Prod.snd) (l := ws.zip ds) fun _ _ _ _ => rfl).trans (congrArg (fun z => List.mergeSort z (PySem.W.dataLe false id)) em)
    have rl2 : RepL (Kx.mk X.K px X.w) F H (((ws.zip ds).mergeSort (PySem.W.dataLe false Prod.snd)).map Prod.fst) (isort ds) := by
      rw [← e3]
      exact rep_of fun p hp => zip_rep rl p (pm.mem_iff.mp hp)
    obtain ⟨ep, he⟩ := PyProof.Rows.sortedAll_at s.heap its out.toArray
    have hv := each_vals ho2
    have hl : (((ws.zip ds).mergeSort (PySem.W.dataLe false Prod.snd)).map Prod.fst).length ≤ sizeLine := by
      rw [List.length_map, pm.length_eq, zl]; omega
    exact ⟨.ref _, upd H (s.heap.objs.size + 1) (.lst _), I.laid (t' := s.toks) (fun _ _ => PyProof.Rows.sortedAll_old) (Nat.le_succ _) ⟨hl, out, ep, hv, he⟩, rfl, q _ rl2 _ (I.hok.fresh (Nat.le_succ _))⟩
theorem blt_ok (n : Nat) (hc : X.calm = true) (hn : n ≠ 11) (h30 : n ≠ 30) (hno : n ≠ 17 ∧ n ≠ 18 ∧ n ≠ 19 ∧ n ≠ 20) (hu : X.A.units + 100 < cLine) : CallR X (bltV n) (rBt (Kx.mk X.K px X.w) n) := by
  intro pins s σ H vs us Q I r h
  obtain ⟨F, ds, u, pk, e, dm, o⟩ := h
  unfold bltF at e
  split at e
  case h_1 xs =>
    cases e
    obtain ⟨v, rfl, pv⟩ := pk.one
    obtain ⟨a, ws, rfl, hs, rl⟩ := pv.list
    exact call_len pins s σ H _ us Q I r ⟨_, ws.length, rfl, .inl ⟨ws, hs.sqL, rfl⟩, by rw [rl.length]; exact o.now dm (.int _)⟩
  case h_2 xs =>
    cases e
    obtain ⟨v, rfl, pv⟩ := pk.one
    obtain ⟨a, ws, rfl, hs, rl⟩ := pv.tuple
    exact call_len pins s σ H _ us Q I r ⟨_, ws.length, rfl, .inr ⟨ws, hs, rfl⟩, by rw [rl.length]; exact o.now dm (.int _)⟩
  case h_3 x =>
    split at e
    · rename_i c
      cases e
      obtain ⟨v, rfl, pv⟩ := pk.one
      rw [pv.str] at r
      exact call_len pins s σ H _ us Q I r ⟨_, x.length, rfl, ⟨lenOk_line c, rfl⟩, o.now dm (.int _)⟩
    · cases e
  case h_4 i =>
    cases e
    obtain ⟨v, rfl, pv⟩ := pk.one
    rw [pv.int] at r
    exact call_int1 pins s σ H _ us Q I r (.inl ⟨i, rfl, o.now dm (.int _)⟩)
  case h_5 b =>
    cases e
    obtain ⟨v, rfl, pv⟩ := pk.one
    rw [pv.bool] at r
    exact call_int1 pins s σ H _ us Q I r (.inr ⟨b, rfl, o.now dm (.int _)⟩)
  case h_6 i =>
    cases e
    obtain ⟨v, rfl, pv⟩ := pk.one
    rw [pv.int] at r
    exact call_abs pins s σ H _ us Q I r ⟨i, rfl, o.now dm (.int _)⟩
  case h_7 xs =>
    simp only [Option.map_eq_some_iff] at e
    obtain ⟨ns, e1, rfl⟩ := e
    obtain ⟨v, rfl, pv⟩ := pk.one
    obtain ⟨a, ws, rfl, hs, rl⟩ := pv.list
    rw [ints_map e1] at rl
    rw [sumI_eq, Int.zero_add] at o
    rw [rl.ints] at hs
    exact cr_sum hc pins s σ H _ us Q I r ⟨a, ns, rfl, hs.sqL, o.now dm (.int _)⟩
  case h_8 xs =>
    obtain ⟨v, rfl, pv⟩ := pk.one
    obtain ⟨a, ws, rfl, hs, rl⟩ := pv.list
    split at e
    · rename_i m ns e1
      rw [ints_map e1] at rl
      rw [rl.ints] at hs
      cases e
      exact cr_max hc pins s σ H _ us Q I r ⟨a, m :: ns, rfl, hs.sqL, by simp, fun x h1 h2 => by rw [← maxI_eq ns m x h1 h2]; exact o.now dm (.int _)⟩
    · cases e
    · split at e
      · split at e
        · rename_i c
          cases e
          exact cr_maxD (px := px) hc hu pins s σ H _ us Q I r ⟨F, a, ws, _, _, rfl, hs, rl, c, fun z rz => o.now dm rz⟩
        · cases e
      · cases e
  case h_9 xs =>
    obtain ⟨v, rfl, pv⟩ := pk.one
    obtain ⟨a, ws, rfl, hs, rl⟩ := pv.list
    split at e
    · rename_i m ns e1
      rw [ints_map e1] at rl
      rw [rl.ints] at hs
      cases e
      exact cr_min hc pins s σ H _ us Q I r ⟨a, m :: ns, rfl, hs.sqL, by simp, fun x h1 h2 => by rw [← minI_eq ns m x h1 h2]; exact o.now dm (.int _)⟩
    · cases e
    · split at e
      · split at e
        · rename_i c
          cases e
          exact cr_minD (px := px) hc hu pins s σ H _ us Q I r ⟨F, a, ws, _, _, rfl, hs, rl, c, fun z rz => o.now dm rz⟩
        · cases e
      · cases e
  case h_10 i j =>
    cases e
    obtain ⟨v, w, rfl, pv, pw⟩ := pk.two
    rw [pv.int, pw.int] at r
    exact call_max2 hc pins s σ H _ us Q I r ⟨i, j, rfl, o.now dm (.int _)⟩
  case h_11 i j =>
    cases e
    obtain ⟨v, w, rfl, pv, pw⟩ := pk.two
    rw [pv.int, pw.int] at r
    exact call_min2 hc pins s σ H _ us Q I r ⟨i, j, rfl, o.now dm (.int _)⟩
  case h_12 xs =>
    cases e
    obtain ⟨v, rfl, pv⟩ := pk.one
    obtain ⟨a, ws, rfl, hs, rl⟩ := pv.list
    exact call_list_of pins s σ H _ us Q I r ⟨a, ws, rfl, .inl hs.sqL, o.lst dm rl⟩
  case h_13 xs =>
    cases e
    obtain ⟨v, rfl, pv⟩ := pk.one
    obtain ⟨a, ws, rfl, hs, rl⟩ := pv.tuple
    exact call_list_of pins s σ H _ us Q I r ⟨a, ws, rfl, .inr hs, o.lst dm rl⟩
  case h_14 xs =>
    cases e
    obtain ⟨v, rfl, pv⟩ := pk.one
    obtain ⟨a, ws, rfl, hs, rl⟩ := pv.list
    exact call_tuple_of pins s σ H _ us Q I r ⟨a, ws, rfl, .inl ⟨hs.sqL, o.tup dm rl⟩⟩
  case h_15 xs =>
    cases e
    obtain ⟨v, rfl, pv⟩ := pk.one
    obtain ⟨a, ws, rfl, hs, rl⟩ := pv.tuple
    refine call_tuple_of pins s σ H _ us Q I r ⟨a, ws, rfl, .inr ⟨hs, o.now dm ?_⟩⟩
    cases pv with
    | rep h => exact h
    | root h => cases h
  case h_16 => exact absurd rfl hn
  case h_17 => exact absurd rfl hn
  case h_18 xs =>
    simp only [Option.map_eq_some_iff] at e
    obtain ⟨ns, e1, rfl⟩ := e
    obtain ⟨v, rfl, pv⟩ := pk.one
    obtain ⟨a, ws, rfl, hs, rl⟩ := pv.list
    rw [bools_map e1] at rl
    rw [rl.bls] at hs
    exact cr_all hc pins s σ H _ us Q I r ⟨a, ns, rfl, hs.sqL, o.now dm (.bl _)⟩
  case h_19 xs =>
    simp only [Option.map_eq_some_iff] at e
    obtain ⟨ns, e1, rfl⟩ := e
    obtain ⟨v, rfl, pv⟩ := pk.one
    obtain ⟨a, ws, rfl, hs, rl⟩ := pv.list
    rw [bools_map e1] at rl
    rw [rl.bls] at hs
    exact cr_any hc pins s σ H _ us Q I r ⟨a, ns, rfl, hs.sqL, o.now dm (.bl _)⟩
  case h_20 => exact absurd rfl h30
  case h_21 a b =>
    cases e
    obtain ⟨v, w, rfl, pv, pw⟩ := pk.two
    rw [pv.int, pw.int] at r
    exact cr_gcd pins s σ H _ us Q I r ⟨a, b, rfl, o.now dm (.int _)⟩
  case h_22 xs =>
    simp only [Option.map_eq_some_iff] at e
    obtain ⟨ns, e1, rfl⟩ := e
    obtain ⟨v, rfl, pv⟩ := pk.one
    obtain ⟨a, ws, rfl, hs, rl⟩ := pv.tuple
    rw [ints_map e1] at rl
    rw [sumI_eq, Int.zero_add] at o
    rw [rl.ints] at hs
    exact cr_sumT hc pins s σ H _ us Q I r ⟨a, ns, rfl, hs, o.now dm (.int _)⟩
  case h_23 xs =>
    simp only [Option.bind_eq_some_iff] at e
    obtain ⟨ns, e1, e2⟩ := e
    split at e2
    · cases e2
    · rename_i m ns'
      cases e2
      obtain ⟨v, rfl, pv⟩ := pk.one
      obtain ⟨a, ws, rfl, hs, rl⟩ := pv.tuple
      rw [ints_map e1] at rl
      rw [rl.ints] at hs
      exact cr_minT hc hu pins s σ H _ us Q I r ⟨a, m, ns', rfl, hs, o.now dm (.int _)⟩
  case h_24 => exact absurd rfl (hno.1)
  case h_25 => exact absurd rfl (hno.2.1)
  case h_26 j =>
    split at e
    · cases e
      obtain ⟨v, rfl, pv⟩ := pk.one
      rw [pv.int] at r
      exact cr_range1 pins s σ H _ us Q I r ⟨j, rfl, fun p hp => o _ _ (.one dm hp) hp (.rng upd_same)⟩
    · cases e
  case h_27 => exact absurd rfl hno.2.2.1
  case h_28 => exact absurd rfl hn
  case h_29 xs =>
    split at e
    · rename_i c
      cases e
      obtain ⟨v, rfl, pv⟩ := pk.one
      obtain ⟨a, ws, rfl, hs, rl⟩ := pv.list
      exact cr_sortD (px := px) hc hu pins s σ H _ us Q I r ⟨F, a, ws, xs, rfl, hs, rl, c, fun ys ry => o.lst dm ry⟩
    · cases e
  case h_30 => exact absurd rfl hno.2.2.2
  case h_31 => cases e
theorem repr_ok (hg : X.A.guards = some []) (hu : X.A.units + 100 < cLine) : CallR X (.builtin "repr") (rBt (Kx.mk X.K px X.w) 11) := by
  intro pins s σ H vs us Q I r h
  obtain ⟨F, ds, u, pk, e, dm, o⟩ := h
  have main : ∀ x, ds = [x] → (∃ xs, x = .list xs ∨ x = .tuple xs) → showOk x = true → u = .d (.str x.shown) → wpAny (model X.prog X.w) X.A (call (.builtin "repr") us) (EP X pins σ Q) X.xe s := by
    intro x hx hr hs eu
    subst hx eu
    obtain ⟨v, rfl, pv⟩ := pk.one
    cases r with
    | cons r0 r1 =>
      cases r1
      obtain ⟨as, rd⟩ := Dp.reads I x v _ (pv.dp (by obtain ⟨xs, rfl | rfl⟩ := hr <;> rfl)) r0
      obtain ⟨h1, h2, h3, h4⟩ := showOk_ok hs
      have hv : ∃ a, v = .ref a := by
        obtain ⟨xs, hr⟩ := hr
        rcases hr with rfl | rfl
        · obtain ⟨a, _, h, _⟩ := pv.list; exact ⟨a, h⟩
        · obtain ⟨a, _, h, _⟩ := pv.tuple; exact ⟨a, h⟩
      obtain ⟨a, rfl⟩ := hv
      cases r0
      exact repr_of_reads' rd h1 (fun z => by rw [h2] at z; cases z) hg (by omega) (fun _ _ z => z) (fun h' u tk hk => ⟨.str _, H, I.kept hk, ⟨_, rfl⟩, o.now dm (.str _)⟩) h3
  rcases ds with _ | ⟨x, _ | ⟨y, r'⟩⟩
  · simp [bltF] at e
  · cases x <;> simp only [bltF, reduceCtorEq] at e
    · split at e
      · rename_i i c
        cases e
        obtain ⟨v, rfl, pv⟩ := pk.one
        rw [pv.int] at r
        have := Nat.le_of_ble_eq_true c
        exact SkE.call_repr_int pins s σ H _ us Q I r ⟨i, rfl, by omega, o.now dm (.str _)⟩
      · cases e
    · split at e
      · rename_i c
        cases e
        exact main _ rfl ⟨_, .inl rfl⟩ c rfl
      · cases e
    · split at e
      · rename_i c
        cases e
        exact main _ rfl ⟨_, .inr rfl⟩ c rfl
      · cases e
  · cases x <;> cases y <;> cases r' <;> simp [bltF] at e
/-! {} -/
theorem dct_ok {P : Program} {w : World} {H : Hp} {h : Heap} {a : Addr} {xs : List (NestedKey × Addr × Value)} {od : Obj} (d : DctAt w a xs h) (g : h.get? a = some od) : ObjOk P w H h a (dctO w a xs od) := by
  obtain ⟨h1, o, es, ep, h2, h3⟩ := d
  exact ⟨⟨⟨h1, o, es, ep, h2, h3⟩, g⟩, ⟨o, h2⟩, fun g g' ⟨⟨z1, o', es', ep', z2, z3⟩, z4⟩ k => ⟨⟨z1, o', es', ep', k _ z2, z3⟩, k _ z4⟩⟩
theorem s_dnew {pos : Pos} : PE X (.Dict [] [] pos) (tE (Kx.mk X.K px X.w) cl W (dBlt 30 dNil)) := by
  refine ⟨fun pins s σ H Q I ⟨F, e, r, p⟩ => ?_⟩
  have p1 : PO' (Kx.mk X.K px X.w) cl W F e σ H Q (.ok (.o (.dict [])) e) := p
  have out := PO'.out (.refl r) p1 (fun i z => by cases z)
  have hn : H s.heap.objs.size = none := I.hok.fresh (Nat.le_refl _)
  have ne : (s.heap.objs.size == sysModules) = false := by
    simp only [beq_eq_false_iff_ne, ne_eq]
    exact Nat.ne_of_gt I.big
  exact wpAny_Dict_empty ⟨.ref s.heap.objs.size, _, I.laid (a := s.heap.objs.size) (o := dctO X.w s.heap.objs.size [] _) (t' := s.toks) (fun _ _ q => Heap.get?_push_of_some _ q) (Nat.le_refl _) (dct_ok ⟨ne, _, #[], 0, Heap.get?_push_size _ rfl, ⟨rfl, rfl, rfl⟩, rfl, rfl, by simp⟩ (Heap.get?_push_size _ rfl)), rfl,
    out _ _ (.one r.dom hn) hn (.dct upd_same .nil)⟩
theorem s_bltB {n : Nat} {id : String} {x : Str} {a : Expr} {es : List Expr} {fa : En → R} {p pos} (hc : CallR X (.builtin id) (rBt (Kx.mk X.K px X.w) n)) (hg : Gl X x) (hm : X.mg x = none) (hv : bootBuiltins x = some (.builtin id)) (hn : x ≠ "__name__") (hdb : (x == ("__debug__" : Str)) = false)
    (he : starEach (a :: es) X.env = (false, eval a X.env) :: starEach es X.env) (hpl : (backTo pos (starEach es X.env)).any (·.1) = false) (h : PA X (a :: es) (tA (Kx.mk X.K px X.w) cl W fa)) : PE X (.Call (.Name x p) (a :: es) [] pos) (tE (Kx.mk X.K px X.w) cl W (dBlt n fa)) :=
  blt_pe (fun t ht => pe_callB hc hg hm hv ht hn hdb he hpl) h
theorem s_bltT {n : Nat} {T : String} {x : Str} {a : Expr} {es : List Expr} {fa : En → R} {p pos} (hc : CallR X (.type T) (rBt (Kx.mk X.K px X.w) n)) (hg : Gl X x) (hm : X.mg x = none) (hv : bootBuiltins x = some (.type T)) (hn : x ≠ "__name__") (hdb : (x == ("__debug__" : Str)) = false)
    (he : starEach (a :: es) X.env = (false, eval a X.env) :: starEach es X.env) (hpl : (backTo pos (starEach es X.env)).any (·.1) = false) (h : PA X (a :: es) (tA (Kx.mk X.K px X.w) cl W fa)) : PE X (.Call (.Name x p) (a :: es) [] pos) (tE (Kx.mk X.K px X.w) cl W (dBlt n fa)) :=
  blt_pe (fun t ht => pe_callTy hc hg hm hv ht hn hdb he hpl) h
theorem s_bltM {n : Nat} {id : String} {x : Str} {a : Expr} {es : List Expr} {fa : En → R} {p pos} (hc : CallR X (.builtin id) (rBt (Kx.mk X.K px X.w) n)) (hg : Gl X x) (hm : X.mg x = some (.builtin id)) (hdb : (x == ("__debug__" : Str)) = false)
    (he : starEach (a :: es) X.env = (false, eval a X.env) :: starEach es X.env) (hpl : (backTo pos (starEach es X.env)).any (·.1) = false) (h : PA X (a :: es) (tA (Kx.mk X.K px X.w) cl W fa)) : PE X (.Call (.Name x p) (a :: es) [] pos) (tE (Kx.mk X.K px X.w) cl W (dBlt n fa)) :=
  blt_pe (fun t ht => pe_callBfun hc hg hm ht hdb he hpl) h
/-! methods that give data: ' '.join(xs) -/
theorem lensS_eq : ∀ ys : List Str, (ys.map (·.length)).sum = lensS ys
  | [] => rfl
  | y :: ys => by simp [lensS, lensS_eq ys]
theorem s_join {o a : Expr} {fa fb : En → R} {apos pos} (hs : starEach [a] X.env = [(false, eval a X.env)]) (hbase : attributeBase o "join" X.env (eval o X.env) = eval o X.env) (hline : (apos.endLine == pos.line) = true) (ho : PE X o (tE (Kx.mk X.K px X.w) cl W fa)) (ha : PE X a (tE (Kx.mk X.K px X.w) cl W fb)) :
    PE X (.Call (.Attribute o "join" apos) [a] [] pos) (tE (Kx.mk X.K px X.w) cl W (dMth 0 fa (dCons fb dNil))) := by
  refine peI (pe_join ho ha hs hbase hline) fun σ H Q ⟨F, e, r, p⟩ => ?_
  refine ⟨F, e, r, PO'.bd (.refl r) p fun u e1 F1 H1 z a1 f1 v1 n1 p1 => ?_⟩
  split at p1
  · rename_i b q1
    refine ⟨⟨b, (res_ok a1.r v1 q1).str⟩, F1, e1, a1.r, ?_⟩
    have p2 : PO' (Kx.mk X.K px X.w) cl W F e σ H Q ((fb e1).bd fun w e2 => match ress e2 [w] with | some xs => oR (mthF 0 (.str b) xs) e2 | none => .bad) := by
      cases q : fb e1 with
      | ok w e2 => simp only [dCons, dNil, q, R.bd, R.bds] at p1 ⊢; exact p1
      | ex c d e2 => simp only [dCons, dNil, q, R.bd, R.bds] at p1 ⊢; exact p1
      | _ => simp [dCons, dNil, q, R.bd, R.bds, PO'] at p1
    refine PO'.bd a1 p2 fun w e2 F2 H2 y a2 f2 v2 n2 p3 => ?_
    simp only [ress] at p3
    cases q3 : res e2 w with
    | none => rw [q3] at p3; exact p3.elim
    | some d =>
      rw [q3] at p3
      dsimp only at p3
      unfold oR at p3
      cases t : mthF 0 (.str b) [d] with
      | none => rw [t] at p3; exact p3.elim
      | some v =>
        rw [t] at p3
        cases d <;> simp only [mthF, reduceCtorEq, Option.bind_eq_some_iff] at t
        obtain ⟨ys, t1, t2⟩ := t
        split at t2
        · rename_i c
          cases t2
          obtain ⟨b', ws, rfl, hsq, rl⟩ := (res_ok a2.r v2 q3).list
          rw [strs_map t1] at rl
          rw [rl.strs] at hsq
          refine ⟨_, b', ys, (res_ok a1.r v1 q1).str, rfl, .inl hsq.sqL, ?_, PO'.okd a2 p3 (.str _)⟩
          rw [lensS_eq]
          have := lenOk_le c
          omega
        · cases t2
  · exact p1.elim
end
end Ev
end

section
set_option Elab.async false
set_option linter.all false
set_option maxRecDepth 100000
set_option maxHeartbeats 2000000
namespace Ev
open PySem PySem.Spec PyProof.Rows L2
/-! ## what is walked -/
section
variable {K : Kx} {F F' F0 F1 F2 F3 : As} {e e' e0 e1 e2 e3 : En} {σ σ' σ0 σ1 σ2 σ3 : L2.St} {H H' H0 H1 H2 H3 : Hp}
/-- a value that stays as it is -/
def Stb (K : Kx) (F : As) (e : En) (σ : L2.St) (H : Hp) (v : V) (x : PyData) : Prop :=
  Rep K F H v x ∨ (∃ a, v = .ref a ∧ ¬ F a ∧ ¬ OwnA e σ a ∧ Root K F H a x) ∨ ∃ i l, getS e i = .ow l true x ∧ σ[i]? = some (some v)
theorem Stb.keep {v : V} {x : PyData} (r : Rel K F e σ H) (f : Fr F e σ H F' e' σ' H') (h : Stb K F e σ H v x) : Stb K F' e' σ' H' v x := by
  rcases h with h | ⟨a, ev, nf, no, ro⟩ | ⟨i, l, h1, h2⟩
  · exact .inl (Rep.mono f.grow (f.keepF r) h)
  · refine .inr (.inl ⟨a, ev, fun q => ?_, fun q => ?_, ro.mono f.grow (f.keepF r) fun o q => f.keep a o q fun m => no m.own⟩)
    · rcases f.new a q with q | q | q
      · exact nf q
      · exact no q
      · exact ro.there q
    · rcases f.own a q with q | q
      · exact no q
      · exact ro.there q
  · obtain ⟨h3, h4⟩ := f.lkd i l x h1
    exact .inr (.inr ⟨i, l, h3, by rw [h4]; exact h2⟩)
theorem Stb.pk {v : V} {x : PyData} (r : Rel K F e σ H) (h : Stb K F e σ H v x) : Pk K F H v x := by
  rcases h with h | ⟨a, rfl, nf, no, ro⟩ | ⟨i, l, h1, h2⟩
  · exact .rep h
  · exact .root ro
  · have s := r.slot i
    rw [h1] at s
    obtain ⟨a, e1, _, ro⟩ := s
    rw [h2] at e1
    cases e1
    exact .root ro
/-- e2 is e with the slots ls locked -/
structure Lk (e : En) (ls : List Nat) (e2 : En) : Prop where
  ln : e2.length = e.length
  at_ : ∀ i, i ∈ ls → ∃ l x, getS e i = .ow l false x ∧ getS e2 i = .ow l true x
  off : ∀ i, i ∉ ls → getS e2 i = getS e i
theorem Lk.nil : Lk e [] e := ⟨rfl, fun _ h => by simp at h, fun _ _ => rfl⟩
theorem Lk.append {l1 l2 : List Nat} (a : Lk e l1 e1) (b : Lk e1 l2 e2) : Lk e (l1 ++ l2) e2 := by
  refine ⟨b.ln.trans a.ln, fun i h => ?_, fun i h => ?_⟩
  · by_cases h1 : i ∈ l1
    · obtain ⟨l, x, z1, z2⟩ := a.at_ i h1
      refine ⟨l, x, z1, ?_⟩
      rw [b.off i fun q => ?_]
      · exact z2
      · obtain ⟨l', x', w1, _⟩ := b.at_ i q
        rw [z2] at w1
        cases w1
    · have h2 : i ∈ l2 := by simpa [h1] using h
      obtain ⟨l, x, z1, z2⟩ := b.at_ i h2
      rw [a.off i h1] at z1
      exact ⟨l, x, z1, z2⟩
  · simp only [List.mem_append, not_or] at h
    rw [b.off i h.2, a.off i h.1]
theorem lock_lk {u : Vl} {ls : List Nat} (h : lock e u = some (ls, e2)) : Lk e ls e2 := by
  cases u with
  | d x => cases h; exact .nil
  | o x => cases h; exact .nil
  | p i =>
    unfold lock at h
    dsimp only at h
    cases g : getS e i with
    | no => rw [g] at h; cases h
    | ex c a => rw [g] at h; cases h
    | sh d => rw [g] at h; cases h; exact .nil
    | ow l k d =>
      rw [g] at h
      cases k with
      | true => cases h; exact .nil
      | false =>
        cases h
        have hi : i < e.length := getS_lt (by rw [g]; simp)
        refine ⟨setS_length, fun j h => ?_, fun j h => ?_⟩
        · simp only [List.mem_singleton] at h
          subst h
          exact ⟨l, d, g, by rw [getS_setS hi, if_pos rfl]⟩
        · simp only [List.mem_singleton] at h
          rw [getS_setS hi, if_neg h]
theorem Lk.ownA (k : Lk e ls e2) {a : Addr} : OwnA e2 σ a ↔ OwnA e σ a := by
  constructor
  · rintro ⟨i, ⟨l, q, x, h1⟩, h2⟩
    by_cases hi : i ∈ ls
    · obtain ⟨l', x', z1, z2⟩ := k.at_ i hi
      exact ⟨i, ⟨_, _, _, z1⟩, h2⟩
    · exact ⟨i, ⟨l, q, x, by rw [← k.off i hi]; exact h1⟩, h2⟩
  · rintro ⟨i, ⟨l, q, x, h1⟩, h2⟩
    by_cases hi : i ∈ ls
    · obtain ⟨l', x', z1, z2⟩ := k.at_ i hi
      exact ⟨i, ⟨_, _, _, z2⟩, h2⟩
    · exact ⟨i, ⟨l, q, x, by rw [k.off i hi]; exact h1⟩, h2⟩
theorem Lk.mutA (k : Lk e ls e2) {a : Addr} (h : MutA e2 σ a) : MutA e σ a := by
  obtain ⟨i, ⟨l, x, h1⟩, h2⟩ := h
  by_cases hi : i ∈ ls
  · obtain ⟨l', x', z1, z2⟩ := k.at_ i hi
    rw [z2] at h1
    cases h1
  · exact ⟨i, ⟨l, x, by rw [← k.off i hi]; exact h1⟩, h2⟩
theorem Lk.rel (k : Lk e ls e2) (r : Rel K F e σ H) : Rel K F e2 σ H := by
  refine ⟨k.ln.trans r.len, r.dom, fun i => ?_, fun i j a ⟨⟨l, q, x, h1⟩, h2⟩ ⟨⟨l', q', x', h3⟩, h4⟩ => ?_⟩
  · by_cases hi : i ∈ ls
    · obtain ⟨l, x, z1, z2⟩ := k.at_ i hi
      have s := r.slot i
      rw [z1] at s
      rw [z2]
      exact s
    · rw [k.off i hi]
      exact r.slot i
  · have o1 : OwnAt e σ i a := by
      by_cases hi : i ∈ ls
      · obtain ⟨l', x', z1, z2⟩ := k.at_ i hi
        exact ⟨⟨_, _, _, z1⟩, h2⟩
      · exact ⟨⟨l, q, x, by rw [← k.off i hi]; exact h1⟩, h2⟩
    have o2 : OwnAt e σ j a := by
      by_cases hi : j ∈ ls
      · obtain ⟨l', x', z1, z2⟩ := k.at_ j hi
        exact ⟨⟨_, _, _, z1⟩, h4⟩
      · exact ⟨⟨l', q', x', by rw [← k.off j hi]; exact h3⟩, h4⟩
    exact r.apart i j a o1 o2
theorem Lk.fr (k : Lk e ls e2) : Fr F e σ H F e2 σ H where
  ln := k.ln
  keep := fun _ _ h _ => h
  dom := fun _ h => h
  grow := fun _ h => h
  new := fun _ h => .inl h
  own := fun _ h => .inl (k.ownA.mp h)
  muts := fun _ h => .inl (k.mutA h)
  lent := fun i q x h => by
    refine ⟨?_, rfl⟩
    by_cases hi : i ∈ ls
    · obtain ⟨l, x', z1, z2⟩ := k.at_ i hi
      rw [h] at z2
      cases z2
      exact ⟨_, _, z1⟩
    · exact ⟨q, x, by rw [← k.off i hi]; exact h⟩
  lkd := fun i l x h => by
    refine ⟨?_, rfl⟩
    by_cases hi : i ∈ ls
    · obtain ⟨l', x', z1, z2⟩ := k.at_ i hi
      rw [h] at z1
      cases z1
    · rw [k.off i hi]; exact h
/-- the slot with its lock off -/
def unl : Sl → Sl
  | .ow l true x => .ow l false x
  | s => s
theorem unl_unl (s : Sl) : unl (unl s) = unl s := by
  cases s with
  | ow l k x => cases k <;> rfl
  | _ => rfl
theorem setS_self : ∀ {e : En} {i : Nat} {s : Sl}, ¬ i < e.length → setS e i s = e
  | [], _, _, _ => rfl
  | _ :: _, 0, _, h => absurd (Nat.zero_lt_succ _) h
  | _ :: r, i + 1, s, h => by simp only [setS, setS_self (e := r) (i := i) (s := s) (by simpa using h)]
theorem getS_none {e : En} {i : Nat} (h : ¬ i < e.length) : getS e i = .no := by
  cases g : getS e i with
  | no => rfl
  | _ => exact absurd (getS_lt (by rw [g]; simp)) h
theorem unlock_get : ∀ (ls : List Nat) (e : En) (j : Nat), getS (unlock ls e) j = if j ∈ ls then unl (getS e j) else getS e j
  | [], e, j => by simp [unlock]
  | i :: ls, e, j => by
    have key : getS (unlock1 i e) j = if j = i then unl (getS e j) else getS e j := by
      unfold unlock1
      by_cases hi : i < e.length
      · split
        · rename_i l x g
          rw [getS_setS hi]
          by_cases c : j = i
          · subst c; rw [if_pos rfl, if_pos rfl, g]; rfl
          · rw [if_neg c, if_neg c]
        · rename_i g
          by_cases c : j = i
          · subst c
            rw [if_pos rfl]
            cases q : getS e j with
            | ow l k x =>
              cases k with
              | true => exact absurd q (g l x)
              | false => rfl
            | _ => rfl
          · rw [if_neg c]
      · have g := getS_none hi
        rw [g]
        by_cases c : j = i
        · subst c; rw [if_pos rfl, g]; rfl
        · rw [if_neg c]
    unfold unlock
    rw [unlock_get ls, key]
    by_cases c : j = i
    · subst c
      simp only [if_true, List.mem_cons, true_or]
      by_cases d : j ∈ ls
      · rw [if_pos d, unl_unl]
      · rw [if_neg d]
    · simp [c]
theorem unlock_length : ∀ (ls : List Nat) (e : En), (unlock ls e).length = e.length
  | [], e => rfl
  | i :: ls, e => by
    unfold unlock
    rw [unlock_length ls]
    unfold unlock1
    split
    · exact setS_length
    · rfl
theorem unl_ow {s : Sl} {l k : Bool} {x : PyData} (h : unl s = .ow l k x) : ∃ k', s = .ow l k' x := by
  cases s with
  | ow l' k' x' => cases k' <;> (cases h; exact ⟨_, rfl⟩)
  | _ => cases h
theorem ow_unl {s : Sl} {l k : Bool} {x : PyData} (h : s = .ow l k x) : unl s = .ow l false x := by
  subst h
  cases k <;> rfl
theorem unlock_at {ls : List Nat} {i : Nat} {l k : Bool} {x : PyData} (h : getS (unlock ls e) i = .ow l k x) : ∃ k', getS e i = .ow l k' x := by
  rw [unlock_get] at h
  split at h
  · exact unl_ow h
  · exact ⟨k, h⟩
theorem unlock_ownAt {ls : List Nat} {i : Nat} {a : Addr} (h : OwnAt (unlock ls e) σ i a) : OwnAt e σ i a := by
  obtain ⟨⟨l, k, x, h1⟩, h2⟩ := h
  obtain ⟨k', h3⟩ := unlock_at h1
  exact ⟨⟨l, k', x, h3⟩, h2⟩
theorem unlock_rel {ls : List Nat} (r : Rel K F e σ H) : Rel K F (unlock ls e) σ H := by
  refine ⟨(unlock_length ls e).trans r.len, r.dom, fun i => ?_, fun i j a h1 h2 => r.apart i j a (unlock_ownAt h1) (unlock_ownAt h2)⟩
  rw [unlock_get]
  have s := r.slot i
  split
  · cases g : getS e i with
    | ow l k x => rw [g] at s; cases k <;> exact s
    | _ => rw [g] at s; exact s
  · exact s
theorem unlock_fr {ls : List Nat} (k : Lk e ls e2) (f : Fr F e2 σ H F3 e3 σ3 H3) : Fr F e σ H F3 (unlock ls e3) σ3 H3 where
  ln := ((unlock_length ls e3).trans f.ln).trans k.ln
  keep := fun a o h n => f.keep a o h fun m => n (k.mutA m)
  dom := f.dom
  grow := f.grow
  new := fun a h => (f.new a h).imp id fun z => z.imp k.ownA.mp id
  own := fun a ⟨i, h⟩ => (f.own a ⟨i, unlock_ownAt h⟩).imp k.ownA.mp id
  muts := fun a ⟨i, ⟨l, x, h1⟩, h2⟩ => by
    rw [unlock_get] at h1
    split at h1
    · rename_i hi
      obtain ⟨l', x', z1, z2⟩ := k.at_ i hi
      obtain ⟨_, s3⟩ := f.lkd i l' x' z2
      exact .inl ⟨i, ⟨l', x', z1⟩, by rw [← s3]; exact h2⟩
    · exact (f.muts a ⟨i, ⟨l, x, h1⟩, h2⟩).imp k.mutA id
  lent := fun i q x h => by
    obtain ⟨q', h2⟩ := unlock_at h
    obtain ⟨⟨k1, x1, h3⟩, s3⟩ := f.lent i q' x h2
    refine ⟨?_, s3⟩
    by_cases hi : i ∈ ls
    · obtain ⟨l, x', z1, z2⟩ := k.at_ i hi
      rw [h3] at z2
      cases z2
      exact ⟨_, _, z1⟩
    · exact ⟨k1, x1, by rw [← k.off i hi]; exact h3⟩
  lkd := fun i l x h => by
    have hn : i ∉ ls := fun hi => by
      obtain ⟨l', x', z1, z2⟩ := k.at_ i hi
      rw [h] at z1
      cases z1
    obtain ⟨h3, s3⟩ := f.lkd i l x (by rw [k.off i hn]; exact h)
    exact ⟨by rw [unlock_get, if_neg hn]; exact h3, s3⟩
/-- Hb is H but for some of what was there before and is neither frozen nor own -/
structure HbOk (F : As) (e : En) (σ : L2.St) (H0 H Hb : Hp) : Prop where
  sub : ∀ a o, Hb a = some o → H a = some o
  keep : ∀ a o, H a = some o → F a ∨ OwnA e σ a ∨ H0 a = none ∨ (∃ fs, o = .xd fs) → Hb a = some o
theorem HbOk.refl : HbOk F e σ H0 H H := ⟨fun _ _ h => h, fun _ _ h _ => h⟩
theorem HbOk.rel {Hb : Hp} (h : HbOk F e σ H0 H Hb) (r : Rel K F e σ H) : Rel K F e σ Hb := by
  have kF : ∀ a o, F a → H a = some o → Hb a = some o := fun a o f q => h.keep a o q (.inl f)
  refine ⟨r.len, fun a f => ?_, fun i => ?_, r.apart⟩
  · cases q : H a with
    | none => exact absurd q (r.dom a f)
    | some o => rw [h.keep a o q (.inl f)]; simp
  · have s := r.slot i
    cases g : getS e i with
    | sh d =>
      rw [g] at s
      obtain ⟨v, z1, z2⟩ := s
      exact ⟨v, z1, z2.mono (fun _ h => h) kF⟩
    | ow l k d =>
      rw [g] at s
      obtain ⟨b, z1, z2, z3⟩ := s
      exact ⟨b, z1, z2, z3.mono (fun _ h => h) kF fun o q => h.keep b o q (.inr (.inl ⟨i, ⟨l, k, d, g⟩, z1⟩))⟩
    | no => trivial
    | ex c' y =>
      rw [g] at s
      exact s.exm (fun _ h => h) kF fun d fs z => h.keep d _ z (.inr (.inr (.inr ⟨fs, rfl⟩)))
theorem lock_stbN {u : Vl} {ls : List Nat} {x : PyData} {z : V} {Hb : Hp} (r : Rel K F e σ H) (v : VR K F e σ H z u) (n : Nw H0 z u) (q : res e u = some x) (h : lock e u = some (ls, e2)) (hb : HbOk F e2 σ H0 H Hb) : Stb K F e2 σ Hb z x := by
  have kF : ∀ a o, F a → H a = some o → Hb a = some o := fun a o f q => hb.keep a o q (.inl f)
  cases u with
  | d y => cases h; cases q; exact .inl (Rep.mono (fun _ h => h) kF v)
  | o y =>
    cases h; cases q
    obtain ⟨a, ev, nf, no, ro⟩ := v
    exact .inr (.inl ⟨a, ev, nf, no, ro.mono (fun _ h => h) kF fun o q => hb.keep a o q (.inr (.inr (.inl (n a ev))))⟩)
  | p i =>
    have s := r.slot i
    unfold lock at h
    unfold res at q
    dsimp only at h q
    cases g : getS e i with
    | no => rw [g] at h; cases h
    | ex c a => rw [g] at h; cases h
    | sh d =>
      rw [g] at h q s
      cases h; cases q
      obtain ⟨w, e1, rp⟩ := s
      rw [v.1] at e1
      cases e1
      exact .inl (rp.mono (fun _ h => h) kF)
    | ow l k d =>
      rw [g] at h q
      cases q
      cases k with
      | true => cases h; exact .inr (.inr ⟨i, l, g, v.1⟩)
      | false =>
        cases h
        have hi : i < e.length := getS_lt (by rw [g]; simp)
        exact .inr (.inr ⟨i, l, by rw [getS_setS hi, if_pos rfl], v.1⟩)
theorem lock_stb {u : Vl} {ls : List Nat} {x : PyData} {z : V} (r : Rel K F e σ H) (v : VR K F e σ H z u) (q : res e u = some x) (h : lock e u = some (ls, e2)) : Stb K F e2 σ H z x := by
  cases u with
  | d y => cases h; cases q; exact .inl v
  | o y =>
    cases h; cases q
    obtain ⟨a, ev, nf, no, ro⟩ := v
    exact .inr (.inl ⟨a, ev, nf, no, ro⟩)
  | p i =>
    have s := r.slot i
    unfold lock at h
    unfold res at q
    dsimp only at h q
    cases g : getS e i with
    | no => rw [g] at h; cases h
    | ex c a => rw [g] at h; cases h
    | sh d =>
      rw [g] at h q s
      cases h; cases q
      obtain ⟨w, e1, rp⟩ := s
      rw [v.1] at e1
      cases e1
      exact .inl rp
    | ow l k d =>
      rw [g] at h q
      cases q
      cases k with
      | true => cases h; exact .inr (.inr ⟨i, l, g, v.1⟩)
      | false =>
        cases h
        have hi : i < e.length := getS_lt (by rw [g]; simp)
        exact .inr (.inr ⟨i, l, by rw [getS_setS hi, if_pos rfl], v.1⟩)
end
end Ev
end

section
set_option Elab.async false
set_option linter.all false
set_option maxRecDepth 100000
set_option maxHeartbeats 2000000
namespace Ev
open PySem PySem.Spec PyProof.Rows L2
/-! ## iterables -/
section
variable {K : Kx} {F F' F0 F1 F2 F3 : As} {e e' e0 e1 e2 e3 : En} {σ σ' σ0 σ1 σ2 σ3 : L2.St} {H H' H0 H1 H2 H3 : Hp} {cl : Nat → Addr} {W : WX}
/-- J walks xs, whatever comes between -/
def Yl (K : Kx) (J : It) (F : As) (e : En) (σ : L2.St) (H : Hp) (xs : List PyData) : Prop := ∀ i F1 e1 σ1 H1, Rel K F1 e1 σ1 H1 → Fr F e σ H F1 e1 σ1 H1 →
  (∀ x, xs[i]? = some x → J.go i H1 ∧ ∀ z H2, J.yld i H1 z H2 → ∃ F2, Rel K F2 e1 σ1 H2 ∧ Fr F1 e1 σ1 H1 F2 e1 σ1 H2 ∧ Rep K F2 H2 z x) ∧ (xs.length ≤ i → J.stop i H1)
def POi (K : Kx) (cl : Nat → Addr) (W : WX) (F : As) (e : En) (σ : L2.St) (H : Hp) (Q : It → Hp → Prop) : R → Prop
  | .its xs ls e2 => ∀ J F' e1 H', Rel K F' e1 σ H' → Fr F e σ H F' e1 σ H' → Lk e1 ls e2 → (∀ Hb, HbOk F' e2 σ H H' Hb → Yl K J F' e2 σ Hb xs) → Q J H'
  | .ex c a e' => ∀ F' H' dx, Rel K F' e' σ H' → Fr F e σ H F' e' σ H' → Exc K F' H' dx a → W (.ref (cl c)) (some dx) σ H'
  | _ => False
abbrev tI (K : Kx) (cl : Nat → Addr) (W : WX) (f : En → R) : TI := fun σ H Q => ∃ F e, Rel K F e σ H ∧ POi K cl W F e σ H Q (f e)
theorem POi.bd {Q : It → Hp → Prop} {Q1 : VK} {x : R} {k : Vl → En → R} (a : At K F0 e0 σ H0 F e σ H) (p : POi K cl W F0 e0 σ H0 Q (x.bd k))
    (h : ∀ u e1 F1 H1 z, At K F0 e0 σ H0 F1 e1 σ H1 → Fr F e σ H F1 e1 σ H1 → VR K F1 e1 σ H1 z u → Nw H z u → POi K cl W F0 e0 σ H0 Q (k u e1) → Q1 z H1) : PO' K cl W F e σ H Q1 x := by
  cases x with
  | ok u e' => exact fun F' H' z r' f' v n => h u e' F' H' z (a.step r' f') f' v n p
  | ex c d e' => exact fun F' H' dx r' f' v => p F' H' dx r' (a.f.trans a.r0 f') v
  | _ => exact p.elim
theorem POi.bds {Q : It → Hp → Prop} {Q1 : List V → Hp → Prop} {x : R} {k : List Vl → En → R} (a : At K F0 e0 σ H0 F e σ H) (p : POi K cl W F0 e0 σ H0 Q (x.bds k))
    (h : ∀ us e1 F1 H1 zs, At K F0 e0 σ H0 F1 e1 σ H1 → Fr F e σ H F1 e1 σ H1 → VRs K F1 e1 σ H1 H zs us → POi K cl W F0 e0 σ H0 Q (k us e1) → Q1 zs H1) : POs K cl W F e σ H Q1 x := by
  cases x with
  | oks u e' => exact fun F' H' z r' f' v => h u e' F' H' z (a.step r' f') f' v p
  | ex c d e' => exact fun F' H' dx r' f' v => p F' H' dx r' (a.f.trans a.r0 f') v
  | _ => exact p.elim
theorem yl_list {a : Addr} {xs : List PyData} (h : Stb K F e σ H (.ref a) (.list xs)) (r : Rel K F e σ H) : Yl K (Itl K.fr a) F e σ H xs := by
  intro i F1 e1 σ1 H1 r1 f1
  obtain ⟨b, vs, eb, hs, rl⟩ := ((h.keep r f1).pk r1).list
  cases eb
  refine ⟨fun x hx => ?_, fun hl => ⟨vs, hs.sqL, by rw [rl.length]; exact hl⟩⟩
  obtain ⟨v, hv, rp⟩ := rl.get hx
  refine ⟨⟨vs, v, hs.sqL, hv⟩, fun z H2 hz => ?_⟩
  obtain ⟨rfl, hz⟩ := hz
  have := hz vs hs.sqL
  rw [hv] at this
  cases this
  exact ⟨F1, r1, .refl, rp⟩
theorem yl_tuple {a : Addr} {xs : List PyData} (h : Stb K F e σ H (.ref a) (.tuple xs)) (r : Rel K F e σ H) : Yl K (Itt K.fr a) F e σ H xs := by
  intro i F1 e1 σ1 H1 r1 f1
  obtain ⟨b, vs, eb, hs, rl⟩ := ((h.keep r f1).pk r1).tuple
  cases eb
  refine ⟨fun x hx => ?_, fun hl => ⟨vs, hs, by rw [rl.length]; exact hl⟩⟩
  obtain ⟨v, hv, rp⟩ := rl.get hx
  refine ⟨⟨vs, v, hs, hv⟩, fun z H2 hz => ?_⟩
  obtain ⟨rfl, hz⟩ := hz
  have := hz vs hs
  rw [hv] at this
  cases this
  exact ⟨F1, r1, .refl, rp⟩
/-- a dict walked: its keys, as long as its object stands -/
def Itq (w : World) (a : Addr) (xs : List (NestedKey × Addr × Value)) (od : Obj) : It :=
  ⟨fun i H => H a = some (dctO w a xs od) ∧ i < xs.length, fun i H x H' => H' = H ∧ ∃ y, xs[i]? = some y ∧ x = .ref y.2.1, fun i H => H a = some (dctO w a xs od) ∧ xs.length ≤ i⟩
theorem paired_at {α β : Type} {R : α → β → Prop} : ∀ {xs : List α} {ys : List β} {i : Nat} {y : β}, Paired R xs ys → ys[i]? = some y → ∃ x, xs[i]? = some x ∧ R x y
  | _, _, _, _, .nil, h => by simp at h
  | _, _, 0, _, .cons r _, h => by simp at h; subst h; exact ⟨_, rfl, r⟩
  | _, _, i + 1, _, .cons _ t, h => by
    obtain ⟨x, h1, h2⟩ := paired_at (i := i) t (by simpa using h)
    exact ⟨x, by simpa using h1, h2⟩
theorem yl_dict {a : Addr} {xs : List (NestedKey × Addr × Value)} {od : Obj} {kvs : List (PyData × PyData)} (r : Rel K F e σ H) (h : H a = some (dctO K.w a xs od)) (pp : Paired (Ent K F H) xs kvs) (nm : ¬ MutA e σ a) : Yl K (Itq K.w a xs od) F e σ H (kvs.map fun p => p.1) := by
  intro i F1 e1 σ1 H1 r1 f1
  have h1 := f1.keep a _ h nm
  have hl : xs.length = kvs.length := Paired.length pp
  refine ⟨fun y hy => ?_, fun hl2 => ⟨h1, by simpa [hl] using hl2⟩⟩
  simp only [List.getElem?_map, Option.map_eq_some_iff] at hy
  obtain ⟨kv, hkv, rfl⟩ := hy
  obtain ⟨x, hx, en⟩ := paired_at pp hkv
  refine ⟨⟨h1, (List.getElem?_eq_some_iff.mp hx).1⟩, fun z H2 hz => ?_⟩
  obtain ⟨rfl, y, hy, rfl⟩ := hz
  rw [hx] at hy
  cases hy
  exact ⟨F1, r1, .refl, Rep.mono f1.grow (f1.keepF r) en.2.2.1⟩
/-- who holds a dict that is walked -/
theorem lock_own {b : Addr} {u : Vl} {ls : List Nat} {kvs : List (PyData × PyData)} (r : Rel K F e σ H) (v : VR K F e σ H (.ref b) u) (n : Nw H0 (.ref b) u) (q : res e u = some (.dict kvs)) (h : lock e u = some (ls, e2)) : (OwnA e2 σ b ∨ H0 b = none) ∧ ¬ MutA e2 σ b := by
  have k := lock_lk h
  cases u with
  | d y => cases q; cases v
  | o y =>
    cases h
    obtain ⟨a, ev, nf, no, ro⟩ := v
    cases ev
    exact ⟨.inr (n b rfl), fun m => no m.own⟩
  | p i =>
    have s := r.slot i
    unfold lock at h
    unfold res at q
    dsimp only at h q
    cases g : getS e i with
    | no => rw [g] at h; cases h
    | ex c a => rw [g] at h; cases h
    | sh d =>
      rw [g] at q s
      cases q
      obtain ⟨w, e1, rp⟩ := s
      cases rp
    | ow l kk d =>
      have hi : i < e.length := getS_lt (by rw [g]; simp)
      have at2 : ∃ l, getS e2 i = .ow l true d := by
        rw [g] at h
        cases kk with
        | true => cases h; exact ⟨l, g⟩
        | false =>
          cases h
          exact ⟨l, by rw [getS_setS hi, if_pos rfl]⟩
      obtain ⟨l2, g2⟩ := at2
      refine ⟨.inl ⟨i, ⟨_, _, _, g2⟩, v.1⟩, fun ⟨j, ⟨l3, x3, g3⟩, e3⟩ => ?_⟩
      have := (k.rel r).apart i j b ⟨⟨_, _, _, g2⟩, v.1⟩ ⟨⟨_, _, _, g3⟩, e3⟩
      subst this
      rw [g2] at g3
      cases g3
theorem yl_str {x : Str} : Yl K (Its x) F e σ H (x.cps.toList.map fun c => .str ⟨#[c]⟩) := by
  intro i F1 e1 σ1 H1 r1 f1
  refine ⟨fun y hy => ?_, fun hl => (show x.cps.size ≤ i by simpa using hl)⟩
  simp only [List.getElem?_map, Option.map_eq_some_iff, Array.getElem?_toList] at hy
  obtain ⟨c, hc, rfl⟩ := hy
  refine ⟨(Array.getElem?_eq_some_iff.mp hc).1, fun z H2 hz => ?_⟩
  obtain ⟨rfl, c', hc', rfl⟩ := hz
  rw [hc] at hc'
  cases hc'
  exact ⟨F1, r1, .refl, .str _⟩
theorem upto_get : ∀ (n : Nat) (lo : Int) (i : Nat) (x : PyData), (upto lo n)[i]? = some x → i < n ∧ x = .int (lo + i)
  | 0, _, _, _, h => by simp [upto] at h
  | n + 1, lo, 0, x, h => by simp [upto] at h; exact ⟨Nat.zero_lt_succ _, by rw [← h]; simp⟩
  | n + 1, lo, i + 1, x, h => by
    obtain ⟨h1, h2⟩ := upto_get n (lo + 1) i x (by simpa [upto] using h)
    exact ⟨Nat.succ_lt_succ h1, by rw [h2]; congr 1; omega⟩
theorem upto_length : ∀ (n : Nat) (lo : Int), (upto lo n).length = n
  | 0, _ => rfl
  | n + 1, lo => by simp [upto, upto_length n]
theorem yl_range {lo : Int} {n : Nat} : Yl K (Itr lo n) F e σ H (upto lo n) := by
  intro i F1 e1 σ1 H1 r1 f1
  refine ⟨fun y hy => ?_, fun hl => by rw [upto_length] at hl; exact hl⟩
  obtain ⟨h1, rfl⟩ := upto_get _ _ _ _ hy
  refine ⟨h1, fun z H2 hz => ?_⟩
  obtain ⟨rfl, rfl⟩ := hz
  exact ⟨F1, r1, .refl, .int _⟩
theorem rep_pair {z w : V} {x y : PyData} {T : Addr} (r : Rel K F e σ H) (n : H T = none) (h1 : Rep K F H z x) (h2 : Rep K F H w y) :
    ∃ F2, Rel K F2 e σ (upd H T (.tup [z, w])) ∧ Fr F e σ H F2 e σ (upd H T (.tup [z, w])) ∧ Rep K F2 (upd H T (.tup [z, w])) (.ref T) (.tuple [x, y]) := by
  have m := More.frz (F := F) (H := H) (p := T) (o := .tup [z, w]) r.dom n
  obtain ⟨r', f'⟩ := r.more m
  refine ⟨_, r', f', .tup (.inr rfl) (.inl upd_same) (.cons ?_ (.cons ?_ .nil))⟩
  · exact h1.mono (fun _ h => .inl h) fun a u h q => m.keep a u q
  · exact h2.mono (fun _ h => .inl h) fun a u h q => m.keep a u q
theorem number_get : ∀ (xs : List PyData) (k i : Nat) (y : PyData), (number k xs)[i]? = some y → ∃ x, xs[i]? = some x ∧ y = .tuple [.int ((k + i : Nat) : Int), x]
  | [], _, _, _, h => by simp [number] at h
  | x :: xs, k, 0, y, h => by simp [number] at h; exact ⟨x, rfl, by rw [← h]; rfl⟩
  | x :: xs, k, i + 1, y, h => by
    obtain ⟨x', h1, h2⟩ := number_get xs (k + 1) i y (by simpa [number] using h)
    exact ⟨x', by simpa using h1, by rw [h2]; congr 3; omega⟩
theorem number_length : ∀ (xs : List PyData) (k : Nat), (number k xs).length = xs.length
  | [], _ => rfl
  | x :: xs, k => by simp [number, number_length xs]
theorem yl_enum {a : Addr} {xs : List PyData} (h : Stb K F e σ H (.ref a) (.list xs)) (r : Rel K F e σ H) : Yl K (Ite K.fr a) F e σ H (number 0 xs) := by
  intro i F1 e1 σ1 H1 r1 f1
  obtain ⟨b, vs, eb, hs, rl⟩ := ((h.keep r f1).pk r1).list
  cases eb
  refine ⟨fun y hy => ?_, fun hl => ⟨vs, hs.sqL, by rw [rl.length]; rw [number_length] at hl; exact hl⟩⟩
  obtain ⟨x, hx, rfl⟩ := number_get _ _ _ _ hy
  obtain ⟨v, hv, rp⟩ := rl.get hx
  refine ⟨⟨vs, v, hs.sqL, hv⟩, fun z H2 hz => ?_⟩
  obtain ⟨T, w, rfl, hT, rfl, hz⟩ := hz
  have := hz vs hs.sqL
  rw [hv] at this
  cases this
  have := rep_pair r1 hT (.int (i : Nat)) rp
  simpa using this
theorem pairs_get : ∀ (xs ys : List PyData) (i : Nat) (y : PyData), (pairs xs ys)[i]? = some y → ∃ x x', xs[i]? = some x ∧ ys[i]? = some x' ∧ y = .tuple [x, x']
  | [], _, _, _, h => by simp [pairs] at h
  | _ :: _, [], _, _, h => by simp [pairs] at h
  | x :: xs, x' :: ys, 0, y, h => by simp [pairs] at h; exact ⟨x, x', rfl, rfl, h.symm⟩
  | x :: xs, x' :: ys, i + 1, y, h => by
    obtain ⟨a, b, h1, h2, h3⟩ := pairs_get xs ys i y (by simpa [pairs] using h)
    exact ⟨a, b, by simpa using h1, by simpa using h2, h3⟩
theorem pairs_le : ∀ (xs ys : List PyData) (i : Nat), (pairs xs ys).length ≤ i → xs.length ≤ i ∨ ys.length ≤ i
  | [], _, _, _ => .inl (Nat.zero_le _)
  | _ :: _, [], _, _ => .inr (Nat.zero_le _)
  | x :: xs, x' :: ys, 0, h => by simp [pairs] at h
  | x :: xs, x' :: ys, i + 1, h => by
    have := pairs_le xs ys i (by simpa [pairs] using h)
    simpa using this
theorem yl_zip {a b : Addr} {xs ys : List PyData} (h : Stb K F e σ H (.ref a) (.list xs)) (h' : Stb K F e σ H (.ref b) (.list ys)) (r : Rel K F e σ H) : Yl K (Itz K.fr a b) F e σ H (pairs xs ys) := by
  intro i F1 e1 σ1 H1 r1 f1
  obtain ⟨_, vs, eb, hs, rl⟩ := ((h.keep r f1).pk r1).list
  cases eb
  obtain ⟨_, ws, eb, ht, rm⟩ := ((h'.keep r f1).pk r1).list
  cases eb
  refine ⟨fun y hy => ?_, fun hl => ⟨vs, ws, hs.sqL, ht.sqL, by rw [rl.length, rm.length]; exact pairs_le _ _ _ hl⟩⟩
  obtain ⟨x, x', hx, hx', rfl⟩ := pairs_get _ _ _ _ hy
  obtain ⟨v, hv, rp⟩ := rl.get hx
  obtain ⟨v', hv', rp'⟩ := rm.get hx'
  refine ⟨⟨vs, ws, v, v', hs.sqL, ht.sqL, hv, hv'⟩, fun z H2 hz => ?_⟩
  obtain ⟨T, w, w', rfl, hT, rfl, hz, hz'⟩ := hz
  have := hz vs hs.sqL
  rw [hv] at this
  cases this
  have := hz' ws ht.sqL
  rw [hv'] at this
  cases this
  exact rep_pair r1 hT rp rp'
end
section
variable {X : Cx} {px : Addr → Nat → Addr → Prop} {cl : Nat → Addr} {W : WX} {F F' F1 F2 : As} {e e' e1 e2 : En} {σ : L2.St} {H H1 H2 : Hp} {tg : Expr}
/-- what is walked: a list, a tuple, a str -/
def iAny (K : PySem.W.Frag) (w : World) (te : TE) : TI := fun σ H R => te σ H fun x H1 => (∃ a, x = .ref a ∧ (∃ xs, SqL K H1 a xs) ∧ R (Itl K a) H1) ∨ (∃ a, x = .ref a ∧ (∃ xs, SqT K H1 a xs) ∧ R (Itt K a) H1) ∨ (∃ x', x = .str x' ∧ R (Its x') H1) ∨ (∃ a lo hi, x = .ref a ∧ H1 a = some (.rng lo hi) ∧ (-(2 ^ 62) ≤ lo ∧ lo < 2 ^ 62 ∧ -(2 ^ 62) ≤ hi ∧ hi < 2 ^ 62) ∧ R (Itr lo (hi - lo).toNat) H1) ∨ ∃ a xs od, x = .ref a ∧ H1 a = some (dctO w a xs od) ∧ R (Itq w a xs od) H1
theorem dct_ents {pins : List (Addr × Obj)} {s : Shared} {a : Addr} {xs : List (NestedKey × Addr × Value)} {od : Obj} (I : Inv X pins σ H s) (h : H a = some (dctO X.w a xs od)) : (a == sysModules) = false ∧ s.heap.get? a = some od ∧ od.ExactDict ∧ ∃ (es : Array DictEntry) (ep : Nat), od.data = .dict es ep ∧ es.size = xs.length ∧ ∀ (i : Nat) y, xs[i]? = some y → ∃ en, es[i]? = some en ∧ en.key = .ref y.2.1 := by
  obtain ⟨⟨h1, o, es, ep, h2, h3, h4, h5, h6⟩, h7⟩ := dct_at (K := Kx.mk X.K (fun _ _ _ => False) X.w) I h
  rw [h7] at h2
  cases h2
  refine ⟨h1, h7, h3, es, ep, h4, by rw [← Array.length_toList, h5, List.length_map], fun i y hy => ?_⟩
  have : es.toList[i]? = some ⟨NestedKey.hash X.w y.1, .ref y.2.1, y.2.2⟩ := by rw [h5, List.getElem?_map, hy]; rfl
  rw [Array.getElem?_toList] at this
  exact ⟨_, this, rfl⟩
theorem turn_q {P : Program} {w : World} {K : PySem.W.Frag} {a : Addr} {xs : List (NestedKey × Addr × Value)} {od : Obj} {es : Array DictEntry} {ep : Nat} (it : Addr) (hod : od.data = .dict es ep) : Turn P w K tg (Itq w a xs od) [it] it (fun i h => h.IsKeyIter it a i xs.length ep) where
  mem := by simp
  obj := fun i h st b hb => by
    obtain rfl : b = it := by simpa using hb
    obtain ⟨oi, e, c, dd⟩ := st
    exact ⟨oi, e, fun v z => by rw [dd] at z; cases z⟩
  keep := fun i h h' st k => st.at fun oi e => k it (by simp) oi e
  item := by
    intro X hP hw hK hc i pins s σ H E I hf st ⟨hd, hi⟩
    subst hP hw hK
    obtain ⟨f0, f1, f2, f3, f4, f5⟩ := hf it (by simp)
    obtain ⟨_, hg, hx, es', ep', hdt, hsz, ent⟩ := dct_ents I hd
    rw [hod] at hdt
    cases hdt
    have hy : xs[i]? = some xs[i] := List.getElem?_eq_getElem hi
    obtain ⟨en, hen, hkey⟩ := ent i _ hy
    refine next_key_item st hg hod hsz hen fun h' st' sb => ?_
    have I1 : Inv X pins σ H { s with heap := h' } := I.turned (t' := s.toks) (fun b ob hb e => (sb.2 b hb).trans e) f0 f1 f3 f4 f5
    obtain ⟨oi, e, c, dd⟩ := id st'
    exact ⟨en.key, rfl, go_of (s := { s with heap := h' }) e c dd (by decide) ⟨.ref xs[i].2.1, H, I1, hkey, ⟨rfl, _, hy, rfl⟩, st', fun b hb => (hf b hb).1⟩⟩
  done := by
    intro X hP hw hK hc i pins s σ H E I hf st ⟨hd, hi⟩
    subst hP hw hK
    obtain ⟨f0, f1, f2, f3, f4, f5⟩ := hf it (by simp)
    obtain ⟨_, hg, hx, es', ep', hdt, hsz, ent⟩ := dct_ents I hd
    rw [hod] at hdt
    cases hdt
    exact next_key_end (I.ok.hd hc) st hg hod hsz hi fun h' eb => ⟨rfl, I.turned (t' := s.toks) (fun b ob hb e => eb b ob hb e) f0 f1 f3 f4 f5⟩
  self := fun A i s Q E st h => by
    refine wpAny_pyIter_slot st.typeIs F.slot_dict_keyiterator_iter (wpAny_call_entry F.slot_dict_keyiterator_iter st.typeIs F.entry_dict_keyiterator_iter ?_ (F.args_dict_keyiterator_iter_1 _))
    show wpAny _ _ (ret (.ref it)) _ _ s
    exact wpAny_pure ⟨_, rfl, "dict_keyiterator", _, st.typeIs, F.slot_dict_keyiterator_next.lookup, h⟩
theorem pi_any {l : Expr} {tl : TE} (hl : PE X l tl) : PI X tg l (iAny X.K X.w tl) := by
  refine ⟨fun pins s σ H R I h => thn (hl.run pins s σ H _ I h) fun v s1 ⟨x, H1, I1, r1, q1⟩ => ?_⟩
  rcases q1 with ⟨a, rfl, ⟨xs, hq⟩, q⟩ | ⟨a, rfl, ⟨xs, hq⟩, q⟩ | ⟨x', rfl, q⟩ | ⟨a, lo, hi, rfl, ha, hb, q⟩ | ⟨a, xs, od, rfl, ha, q⟩
  · cases r1
    obtain ⟨its, rv, p, hz⟩ := I1.list hq
    exact wpAny_pyIter_list p.isList (pi_one (tk := s1.toks) I1 _ (turn_list a _) ⟨_, Heap.get?_push_size _ rfl, rfl, rfl⟩ q)
  · cases r1
    obtain ⟨its, rv, p, hz⟩ := I1.tuple hq
    exact wpAny_pyIter_tuple (show s1.heap.IsTuple a its.toArray from p) (pi_one (tk := s1.toks) I1 _ (turn_tuple a _) ⟨_, Heap.get?_push_size _ rfl, rfl, rfl⟩ q)
  · obtain ⟨t, rfl⟩ := r1
    cases ha : x'.cps.all (· < 128)
    · exact wpAny_pyIter_wide ha (pi_one (tk := s1.toks) I1 _ (turn_str _ x' t "str_iterator" (.inr rfl)) ⟨_, Heap.get?_push_size _ rfl, rfl, rfl⟩ q)
    · exact wpAny_pyIter_ascii ha (pi_one (tk := s1.toks) I1 _ (turn_str _ x' t "str_ascii_iterator" (.inl rfl)) ⟨_, Heap.get?_push_size _ rfl, rfl, rfl⟩ q)
  · cases r1
    obtain ⟨t1, t2, t3, ho⟩ := I1.hok a _ ha
    refine wpAny_pyIter_range ho (small_one hb.1 hb.2.1 hb.2.2.1 hb.2.2.2) ?_
    have hsz : Builtin.Range.rangeSize lo hi 1 = ((hi - lo).toNat : Int) := by rw [rangeSize_one]; split <;> omega
    refine pi_one (tk := _) I1 _ (turn_range _ lo (hi - lo).toNat) ?_ q
    have e1 : (lo + ((0 : Nat) : Int) * 1) = lo := by simp
    have e2 : (((hi - lo).toNat : Int) - ((0 : Nat) : Int)) = Builtin.Range.rangeSize lo hi 1 := by rw [hsz]; simp
    show IsRangeIter _ _ (lo + ((0 : Nat) : Int) * 1) (((hi - lo).toNat : Int) - ((0 : Nat) : Int)) 1
    rw [e1, e2]
    exact Heap.get?_push_size _ rfl
  · cases r1
    obtain ⟨hs, hg, hx, es, ep, hdt, hsz, ent⟩ := dct_ents I1 ha
    refine iter_keys hs hg hx hdt (pi_one (tk := s1.toks) I1 _ (turn_q _ hdt) ⟨_, Heap.get?_push_size _ rfl, rfl, ?_⟩ q)
    rw [hsz] <;> rfl
theorem piI {tg it : Expr} {t t' : TI} (h : PI X tg it t) (i : ∀ σ H Q, t' σ H Q → t σ H Q) : PI X tg it t' := ⟨fun pins s σ H Q I q => h.run pins s σ H Q I (i σ H Q q)⟩
theorem rng_ok {i : Int} (h : rngOk i = true) : -(2 ^ 62) ≤ i ∧ i < 2 ^ 62 := by
  unfold rngOk at h
  simp only [Bool.and_eq_true, decide_eq_true_eq] at h
  omega
theorem s_itE {l : Expr} {fa : En → R} (ha : PE X l (tE (Kx.mk X.K px X.w) cl W fa)) : PI X tg l (tI (Kx.mk X.K px X.w) cl W (dItE fa)) := by
  refine piI (pi_any ha) fun σ H Q ⟨F, e, r, p⟩ => ⟨F, e, r, POi.bd (.refl r) p fun u e1 F1 H1 z a1 f1 v1 n1 p1 => ?_⟩
  unfold walkOf at p1
  cases q1 : res e1 u with
  | none => rw [q1] at p1; exact p1.elim
  | some x =>
    rw [q1] at p1
    dsimp only at p1
    cases q2 : itemsE x with
    | none => rw [q2] at p1; exact p1.elim
    | some xs =>
      rw [q2] at p1
      dsimp only at p1
      cases q3 : lock e1 u with
      | none => rw [q3] at p1; exact p1.elim
      | some q =>
        obtain ⟨ls, e2⟩ := q
        rw [q3] at p1
        have lk := lock_lk q3
        have st := fun {Hb : Hp} (hb : HbOk F1 e2 σ H H1 Hb) => lock_stbN a1.r v1 n1 q1 q3 hb
        cases x <;> simp only [itemsE, reduceCtorEq, Option.some.injEq] at q2
        case list ys =>
          subst q2
          obtain ⟨b, vs, rfl, hs, rl⟩ := (res_ok a1.r v1 q1).list
          exact .inl ⟨b, rfl, ⟨vs, hs.sqL⟩, p1 _ F1 e1 H1 a1.r a1.f lk (fun Hb hb => yl_list (st hb) (hb.rel (lk.rel a1.r)))⟩
        case tuple ys =>
          subst q2
          obtain ⟨b, vs, rfl, hs, rl⟩ := (res_ok a1.r v1 q1).tuple
          exact .inr (.inl ⟨b, rfl, ⟨vs, hs⟩, p1 _ F1 e1 H1 a1.r a1.f lk (fun Hb hb => yl_tuple (st hb) (hb.rel (lk.rel a1.r)))⟩)
        case str y =>
          subst q2
          exact .inr (.inr (.inl ⟨y, (res_ok a1.r v1 q1).str, p1 _ F1 e1 H1 a1.r a1.f lk (fun _ _ => yl_str)⟩))
        case dict kvs =>
          split at q2
          all_goals (try (rename_i z; cases z; done))
          · rename_i lo hi z
            cases z
            split at q2
            · rename_i c
              cases q2
              simp only [Bool.and_eq_true] at c
              obtain ⟨b, rfl, hb⟩ := (show Pk _ _ _ _ (rngD lo hi) from res_ok a1.r v1 q1).rng
              exact .inr (.inr (.inr (.inl ⟨b, lo, hi, rfl, hb, ⟨(rng_ok c.1).1, (rng_ok c.1).2, (rng_ok c.2).1, (rng_ok c.2).2⟩, p1 _ F1 e1 H1 a1.r a1.f lk (fun _ _ => yl_range)⟩)))
            · cases q2
          · rename_i kvs' _ z
            cases z
            split at q2
            · rename_i c
              cases q2
              obtain ⟨b, xs, od, rfl, hb, pp⟩ := (res_ok a1.r v1 q1).dict c
              obtain ⟨o1, o2⟩ := lock_own a1.r v1 n1 q1 q3
              refine .inr (.inr (.inr (.inr ⟨b, xs, od, rfl, hb, p1 _ F1 e1 H1 a1.r a1.f lk (fun Hb hB => ?_)⟩)))
              refine yl_dict (hB.rel (lk.rel a1.r)) (hB.keep b _ hb (.inr (o1.imp id .inl))) (Paired.mapP pp fun _ _ z => z.mono (fun _ h => h) fun c o f q => hB.keep c o q (.inl f)) o2
            · cases q2
          · cases q2
theorem itL_ok {fa : En → R} {σ : L2.St} {H : Hp} {Q : It → Hp → Prop} (h : tI (Kx.mk X.K px X.w) cl W (dItL fa) σ H Q) : iList X.K (tE (Kx.mk X.K px X.w) cl W fa) σ H Q := by
  obtain ⟨F, e, r, p⟩ := h
  refine ⟨F, e, r, POi.bd (.refl r) p fun u e1 F1 H1 z a1 f1 v1 n1 p1 => ?_⟩
  unfold walkOf at p1
  cases q1 : res e1 u with
  | none => rw [q1] at p1; exact p1.elim
  | some x =>
    rw [q1] at p1
    dsimp only at p1
    cases x <;> simp only [itemsL] at p1
    case list ys =>
      cases q3 : lock e1 u with
      | none => rw [q3] at p1; exact p1.elim
      | some q =>
        obtain ⟨ls, e2⟩ := q
        rw [q3] at p1
        have lk := lock_lk q3
        have st := fun {Hb : Hp} (hb : HbOk F1 e2 σ H H1 Hb) => lock_stbN a1.r v1 n1 q1 q3 hb
        obtain ⟨b, vs, rfl, hs, rl⟩ := (res_ok a1.r v1 q1).list
        exact ⟨b, rfl, ⟨vs, hs.sqL⟩, p1 _ F1 e1 H1 a1.r a1.f lk (fun Hb hb => yl_list (st hb) (hb.rel (lk.rel a1.r)))⟩
    all_goals exact p1.elim
theorem s_itL {l : Expr} {fa : En → R} (ha : PE X l (tE (Kx.mk X.K px X.w) cl W fa)) : PI X tg l (tI (Kx.mk X.K px X.w) cl W (dItL fa)) := piI (pi_list ha) fun σ H Q h => itL_ok h
theorem s_itR {a : Expr} {fa : En → R} {p pos : Pos} (hg : Gl X "range") (hm : X.mg "range" = none) (hs : starEach [a] X.env = [(false, eval a X.env)]) (ha : PA X [a] (tA (Kx.mk X.K px X.w) cl W fa)) : PI X tg (.Call (.Name "range" p) [a] [] pos) (tI (Kx.mk X.K px X.w) cl W (dItR fa)) := by
  refine piI (pi_range1 hg hm ha hs) fun σ H Q ⟨F, e, r, p⟩ => ⟨F, e, r, POi.bds (.refl r) p fun us e1 F1 H1 zs a1 f1 v1 p1 => ?_⟩
  split at p1
  · rename_i j q
    split at p1
    · rename_i c
      obtain ⟨v, rfl, pv⟩ := (ress_ok a1.r v1 q).one
      exact ⟨j, by rw [pv.int], (rng_ok c).1, (rng_ok c).2, p1 _ F1 e1 H1 a1.r a1.f .nil (fun _ _ => yl_range)⟩
    · exact p1.elim
  · exact p1.elim
theorem s_itR2 {a b : Expr} {fa : En → R} {p pos : Pos} (hg : Gl X "range") (hm : X.mg "range" = none) (hs : starEach [a, b] X.env = [(false, eval a X.env), (false, eval b X.env)]) (hs2 : starEach [b] X.env = [(false, eval b X.env)]) (ha : PA X [a, b] (tA (Kx.mk X.K px X.w) cl W fa)) : PI X tg (.Call (.Name "range" p) [a, b] [] pos) (tI (Kx.mk X.K px X.w) cl W (dItR2 fa)) := by
  refine piI (pi_range2 hg hm ha hs hs2) fun σ H Q ⟨F, e, r, p⟩ => ⟨F, e, r, POi.bds (.refl r) p fun us e1 F1 H1 zs a1 f1 v1 p1 => ?_⟩
  split at p1
  · rename_i i j q
    split at p1
    · rename_i c
      simp only [Bool.and_eq_true] at c
      obtain ⟨v, w, rfl, pv, pw⟩ := (ress_ok a1.r v1 q).two
      exact ⟨i, j, by rw [pv.int, pw.int], ⟨(rng_ok c.1).1, (rng_ok c.1).2, (rng_ok c.2).1, (rng_ok c.2).2⟩, p1 _ F1 e1 H1 a1.r a1.f .nil (fun _ _ => yl_range)⟩
    · exact p1.elim
  · exact p1.elim
theorem s_itN {a : Expr} {fa : En → R} {p pos tpos : Pos} {elts : List Expr} {kk : Nat} (hg : Gl X "enumerate") (hm : X.mg "enumerate" = none) (hs : starEach [a] X.env = [(false, eval a X.env)]) (hn : notStar a = true) (ha : PE X a (tE (Kx.mk X.K px X.w) cl W fa)) : PI X (.Tuple elts kk tpos) (.Call (.Name "enumerate" p) [a] [] pos) (tI (Kx.mk X.K px X.w) cl W (dItN fa)) := by
  refine piI (pi_enum hg hm (pa_cons ha pa_nil (starEach_cons hn)) hs) fun σ H Q ⟨F, e, r, p⟩ => ⟨F, e, r, POi.bd (.refl r) p fun u e1 F1 H1 z a1 f1 v1 n1 p1 => ?_⟩
  unfold walkOf at p1
  cases q1 : res e1 u with
  | none => rw [q1] at p1; exact p1.elim
  | some x =>
    rw [q1] at p1
    dsimp only at p1
    cases q2 : itemsN x with
    | none => rw [q2] at p1; exact p1.elim
    | some xs =>
      rw [q2] at p1
      dsimp only at p1
      cases q3 : lock e1 u with
      | none => rw [q3] at p1; exact p1.elim
      | some q =>
        obtain ⟨ls, e2⟩ := q
        rw [q3] at p1
        have lk := lock_lk q3
        have st := fun {Hb : Hp} (hb : HbOk F1 e2 σ H H1 Hb) => lock_stbN a1.r v1 n1 q1 q3 hb
        cases x <;> simp only [itemsN, reduceCtorEq, Option.some.injEq] at q2
        case list ys =>
          subst q2
          obtain ⟨b, vs, rfl, hs, rl⟩ := (res_ok a1.r v1 q1).list
          exact ⟨b, vs, rfl, hs.sqL, p1 _ F1 e1 H1 a1.r a1.f lk (fun Hb hb => yl_enum (st hb) (hb.rel (lk.rel a1.r)))⟩
theorem s_itZ {a b : Expr} {fa : En → R} {p pos tpos : Pos} {elts : List Expr} {kk : Nat} (hg : Gl X "zip") (hm : X.mg "zip" = none) (hs : starEach [a, b] X.env = (false, eval a X.env) :: starEach [b] X.env) (hpl : (backTo pos (starEach [b] X.env)).any (·.1) = false) (ha : PA X [a, b] (tA (Kx.mk X.K px X.w) cl W fa)) :
    PI X (.Tuple elts kk tpos) (.Call (.Name "zip" p) [a, b] [] pos) (tI (Kx.mk X.K px X.w) cl W (dItZ fa)) := by
  refine piI (pi_zip hg hm ha hs hpl) fun σ H Q ⟨F, e, r, p⟩ => ⟨F, e, r, POi.bds (.refl r) p fun us e1 F1 H1 zs a1 f1 v1 p1 => ?_⟩
  split at p1
  · rename_i v u
    split at p1
    · rename_i xs ys q1 q2
      cases zs with
      | nil => exact v1.elim
      | cons z zs =>
        cases zs with
        | nil => exact v1.2.2.2.elim
        | cons z' zs =>
          cases zs with
          | cons _ _ => exact v1.2.2.2.2.2.2.elim
          | nil =>
            cases q3 : lock e1 v with
            | none => rw [q3] at p1; exact p1.elim
            | some q =>
              obtain ⟨l1, e2⟩ := q
              rw [q3] at p1
              dsimp only at p1
              cases q4 : lock e2 u with
              | none => rw [q4] at p1; exact p1.elim
              | some q =>
                obtain ⟨l2, e3⟩ := q
                rw [q4] at p1
                have k1 := lock_lk q3
                have k2 := lock_lk q4
                have r2 := k1.rel a1.r
                have w2 := VR.keep a1.r (k1.fr (F := F1) (H := H1)) v1.2.2.2.1
                obtain ⟨b1, vs, rfl, hs1, rl1⟩ := (res_ok a1.r v1.1 q1).list
                obtain ⟨b2, ws, rfl, hs2, rl2⟩ := (res_ok a1.r v1.2.2.2.1 q2).list
                have q2' : res e2 u = some (.list ys) := by
                  cases u with
                  | d x => exact q2
                  | o x => exact q2
                  | p j =>
                    unfold res at q2 ⊢
                    dsimp only at q2 ⊢
                    by_cases hj : j ∈ l1
                    · obtain ⟨l, x, z1, z2⟩ := k1.at_ j hj
                      rw [z1] at q2
                      rw [z2]
                      exact q2
                    · rw [k1.off j hj]; exact q2
                refine ⟨b1, b2, vs, ws, rfl, hs1.sqL, hs2.sqL, p1 _ F1 e1 H1 a1.r a1.f (k1.append k2) fun Hb hb => ?_⟩
                have hb2 : HbOk F1 e2 σ H H1 Hb := ⟨hb.sub, fun a o q z => hb.keep a o q (z.imp id fun z => z.imp k2.ownA.mpr id)⟩
                have st := lock_stbN a1.r v1.1 v1.2.1 q1 q3 hb2
                have st2 := lock_stbN r2 w2 v1.2.2.2.2.1 q2' q4 hb
                exact yl_zip (st.keep (hb2.rel r2) k2.fr) st2 (hb.rel (k2.rel r2))
    · exact p1.elim
  · exact p1.elim
end
end Ev
end

section
set_option Elab.async false
set_option linter.all false
set_option maxRecDepth 100000
set_option maxHeartbeats 2000000
namespace Ev
open PySem PySem.Spec PyProof.Rows L2
/-! ## stores -/
section
variable {K : Kx} {F F' F0 F1 F2 F3 : As} {e e' e0 e1 e2 e3 : En} {σ σ' σ0 σ1 σ2 σ3 : L2.St} {H H' H0 H1 H2 H3 : Hp} {cl : Nat → Addr} {W : WX}
theorem freeS_not {i : Nat} (h : freeS e i = true) : (∀ k x, getS e i ≠ .ow true k x) ∧ ∀ l x, getS e i ≠ .ow l true x := by
  unfold freeS at h
  refine ⟨fun k x q => ?_, fun l x q => ?_⟩
  · rw [q] at h; simp at h
  · rw [q] at h; cases l <;> simp at h
/-- a slot holds shared data from now on -/
theorem Rel.putD {i : Nat} {v : V} {d : PyData} (r : Rel K F e σ H) (hf : freeS e i = true) (rp : Rep K F H v d) :
    Rel K F (setS e i (.sh d)) (σ.set i (some v)) H ∧ Fr F e σ H F (setS e i (.sh d)) (σ.set i (some v)) H := by
  by_cases hi : i < e.length
  · have hσ : i < σ.length := by rw [← r.len]; exact hi
    have at' : ∀ j a, OwnAt (setS e i (.sh d)) (σ.set i (some v)) j a → j ≠ i ∧ OwnAt e σ j a := fun j a ⟨⟨l, k, y, z1⟩, z2⟩ => by
      rw [getS_setS hi] at z1
      split at z1
      · cases z1
      · rename_i c
        rw [List.getElem?_set_ne (fun q => c q.symm)] at z2
        exact ⟨c, ⟨l, k, y, z1⟩, z2⟩
    refine ⟨⟨by rw [setS_length, List.length_set]; exact r.len, r.dom, fun j => ?_, fun j k a z1 z2 => r.apart j k a (at' j a z1).2 (at' k a z2).2⟩,
      ⟨setS_length, fun _ _ h _ => h, fun _ h => h, fun _ h => h, fun _ h => .inl h, fun a ⟨j, z⟩ => .inl ⟨j, (at' j a z).2⟩, fun a ⟨j, ⟨l, y, z1⟩, z2⟩ => ?_, fun j k y z => ?_, fun j l y z => ?_⟩⟩
    · rw [getS_setS hi]
      split
      · rename_i c; subst c
        exact ⟨v, by rw [List.getElem?_set_self hσ], rp⟩
      · rename_i c
        rw [List.getElem?_set_ne (fun q => c q.symm)]
        exact r.slot j
    · obtain ⟨c, z⟩ := at' j a ⟨⟨l, false, y, z1⟩, z2⟩
      rw [getS_setS hi, if_neg c] at z1
      exact .inl ⟨j, ⟨l, y, z1⟩, z.2⟩
    · rw [getS_setS hi] at z
      split at z
      · cases z
      · rename_i c
        exact ⟨⟨k, y, z⟩, List.getElem?_set_ne fun q => c q.symm⟩
    · have c : j ≠ i := fun q => by subst q; exact (freeS_not hf).2 l y z
      refine ⟨by rw [getS_setS hi, if_neg c]; exact z, List.getElem?_set_ne fun q => c q.symm⟩
  · rw [setS_self hi, List.set_eq_of_length_le (by rw [← r.len]; omega)]
    exact ⟨r, .refl⟩
/-- a slot holds a fresh object from now on -/
theorem Rel.putO {i : Nat} {v : V} {x : PyData} (r : Rel K F e σ H) (hf : freeS e i = true) (hv : VR K F e σ H v (.o x)) (r0 : Rel K F0 e0 σ0 H0) (f0 : Fr F0 e0 σ0 H0 F e σ H) (hn : Nw H0 v (.o x)) :
    Rel K F (setS e i (.ow false false x)) (σ.set i (some v)) H ∧ Fr F0 e0 σ0 H0 F (setS e i (.ow false false x)) (σ.set i (some v)) H := by
  obtain ⟨a, rfl, nf, no, ro⟩ := hv
  by_cases hi : i < e.length
  · have hσ : i < σ.length := by rw [← r.len]; exact hi
    have at' : ∀ j b, OwnAt (setS e i (.ow false false x)) (σ.set i (some (.ref a))) j b → (j = i ∧ b = a) ∨ (j ≠ i ∧ OwnAt e σ j b) := fun j b ⟨⟨l, k, y, z1⟩, z2⟩ => by
      rw [getS_setS hi] at z1
      split at z1
      · rename_i c; subst c
        rw [List.getElem?_set_self hσ] at z2
        cases z2
        exact .inl ⟨rfl, rfl⟩
      · rename_i c
        rw [List.getElem?_set_ne (fun q => c q.symm)] at z2
        exact .inr ⟨c, ⟨l, k, y, z1⟩, z2⟩
    have fresh : H0 a = none := hn a rfl
    refine ⟨⟨by rw [setS_length, List.length_set]; exact r.len, r.dom, fun j => ?_, fun j k b z1 z2 => ?_⟩,
      ⟨setS_length.trans f0.ln, f0.keep, f0.dom, f0.grow, f0.new, fun b ⟨j, z⟩ => ?_, fun b ⟨j, ⟨l, y, z1⟩, z2⟩ => ?_, fun j k y z => ?_, fun j l y z => ?_⟩⟩
    · rw [getS_setS hi]
      split
      · rename_i c; subst c
        exact ⟨a, by rw [List.getElem?_set_self hσ], nf, ro⟩
      · rename_i c
        rw [List.getElem?_set_ne (fun q => c q.symm)]
        exact r.slot j
    · rcases at' j b z1 with ⟨rfl, rfl⟩ | ⟨c, q⟩
      · rcases at' k b z2 with ⟨rfl, _⟩ | ⟨c, q⟩
        · rfl
        · exact absurd ⟨k, q⟩ no
      · rcases at' k b z2 with ⟨rfl, rfl⟩ | ⟨c', q'⟩
        · exact absurd ⟨j, q⟩ no
        · exact r.apart j k b q q'
    · rcases at' j b z with ⟨rfl, rfl⟩ | ⟨c, q⟩
      · exact .inr fresh
      · exact f0.own b ⟨j, q⟩
    · rcases at' j b ⟨⟨l, false, y, z1⟩, z2⟩ with ⟨rfl, rfl⟩ | ⟨c, q⟩
      · exact .inr fresh
      · rw [getS_setS hi, if_neg c] at z1
        exact f0.muts b ⟨j, ⟨l, y, z1⟩, q.2⟩
    · rw [getS_setS hi] at z
      split at z
      · cases z
      · rename_i c
        obtain ⟨h1, s1⟩ := f0.lent j k y z
        exact ⟨h1, (List.getElem?_set_ne fun q => c q.symm).trans s1⟩
    · obtain ⟨h1, s1⟩ := f0.lkd j l y z
      have c : j ≠ i := fun q => by subst q; exact (freeS_not hf).2 l y h1
      exact ⟨by rw [getS_setS hi, if_neg c]; exact h1, (List.getElem?_set_ne fun q => c q.symm).trans s1⟩
  · rw [setS_self hi, List.set_eq_of_length_le (by rw [← r.len]; omega)]
    exact ⟨r, f0⟩
/-- the end of a store to a target -/
def POg (K : Kx) (ids : List Nat) (F : As) (e : En) (σ : L2.St) (H : Hp) (Q : L2.St → Hp → Prop) : Option En → Prop
  | some e1 => ∀ σ', Rel K F e1 σ' H → Fr F e σ H F e1 σ' H → (∀ i, i ∉ ids → σ'[i]? = σ[i]?) → σ'.length = σ.length → Q σ' H
  | none => False
abbrev tG (K : Kx) (t : Tg) : TG := fun v σ H Q => ∃ F e x, Rel K F e σ H ∧ Rep K F H v x ∧ POg K t.ids F e σ H Q (asg t x e)
abbrev tGs (K : Kx) (ts : List Tg) : TGs := fun vs σ H Q => ∃ F e xs, Rel K F e σ H ∧ RepL K F H vs xs ∧ POg K (Tg.idss ts) F e σ H Q (asgs ts xs e)
end
section
variable {X : Cx} {px : Addr → Nat → Addr → Prop} {cl : Nat → Addr} {W : WX} {F F' F1 F2 : As} {e e' e1 e2 : En} {σ : L2.St} {H H1 H2 : Hp}
theorem pgI {tg : Expr} {t t' : TG} (h : PG X tg t) (i : ∀ v σ H Q, t' v σ H Q → t v σ H Q) : PG X tg t' := ⟨fun pins s σ H v u Q I r q => h.run pins s σ H v u Q I r (i v σ H Q q)⟩
theorem pgsI {tg : List Expr} {t t' : TGs} (h : PGs X tg t) (i : ∀ v σ H Q, t' v σ H Q → t v σ H Q) : PGs X tg t' := ⟨fun pins s σ H v u Q I r q => h.run pins s σ H v u Q I r (i v σ H Q q)⟩
theorem g_nm {i : Nat} {x : Str} {pos : Pos} (hN : X.N.Nodup) (hi : X.N[i]? = some x) (hx : Loc X.env.scope x) (hf : X.fn x = true ∨ X.env.scope.names.lookup x = some .local) : PG X (.Name x pos) (tG (Kx.mk X.K px X.w) (.nm i)) := by
  refine pgI (pg_name hN hi hx hf) fun v σ H Q ⟨F, e, x, r, rp, p⟩ => ?_
  unfold asg at p
  split at p
  · rename_i c
    obtain ⟨r', f'⟩ := r.putD c rp
    refine p _ r' f' (fun j hj => ?_) List.length_set
    simp only [Tg.ids, List.mem_singleton] at hj
    exact List.getElem?_set_ne fun q => hj q.symm
  · exact p.elim
theorem g_nil : PGs X [] (tGs (Kx.mk X.K px X.w) []) := by
  refine pgsI pgs_nil fun vs σ H Q ⟨F, e, xs, r, rl, p⟩ => ?_
  cases rl with
  | nil => exact ⟨rfl, p σ r .refl (fun _ _ => rfl) rfl⟩
  | cons a b => exact p.elim
theorem g_cons {t : Tg} {ts : List Tg} {a : Expr} {es : List Expr} (hs : (assignEach (a :: es) X.env).map (·.2) = assign a X.env :: (assignEach es X.env).map (·.2)) (h1 : PG X a (tG (Kx.mk X.K px X.w) t)) (h2 : PGs X es (tGs (Kx.mk X.K px X.w) ts)) : PGs X (a :: es) (tGs (Kx.mk X.K px X.w) (t :: ts)) := by
  refine pgsI (pgs_cons h1 h2 hs) fun vs σ H Q ⟨F, e, xs, r, rl, p⟩ => ?_
  cases rl with
  | nil => exact p.elim
  | @cons v vs d ds a b =>
    refine ⟨v, vs, rfl, F, e, d, r, a, ?_⟩
    unfold asgs at p
    cases q : asg t d e with
    | none => rw [q] at p; exact p.elim
    | some e1 =>
      rw [q] at p
      dsimp only at p
      intro σ1 r1 f1 k1 l1
      refine ⟨F, e1, ds, r1, b, ?_⟩
      cases q2 : asgs ts ds e1 with
      | none => rw [q2] at p; exact p.elim
      | some e2 =>
        rw [q2] at p
        intro σ2 r2 f2 k2 l2
        refine p σ2 r2 (f1.trans r f2) (fun j hj => ?_) (l2.trans l1)
        simp only [Tg.idss, List.mem_append, not_or] at hj
        rw [k2 j hj.2, k1 j hj.1]
theorem asgs_length : ∀ {ts : List Tg} {xs : List PyData} {e e1 : En}, asgs ts xs e = some e1 → xs.length = ts.length
  | [], [], _, _, _ => rfl
  | t :: ts, x :: xs, e, e1, h => by
    unfold asgs at h
    cases q : asg t x e with
    | none => rw [q] at h; cases h
    | some e2 => rw [q] at h; simp [asgs_length h]
  | [], _ :: _, _, _, h => by cases h
  | _ :: _, [], _, _, h => by cases h
theorem g_tup {ts : List Tg} {es : List Expr} {k : Nat} {pos : Pos} (hc : X.calm = true) (hn : (assignEach es X.env).length = ts.length) (hst : (assignEach es X.env).findIdx? (·.1) = none) (h : PGs X es (tGs (Kx.mk X.K px X.w) ts)) : PG X (.Tuple es k pos) (tG (Kx.mk X.K px X.w) (.tp ts)) := by
  refine ⟨fun pins s σ H v u Q I rv ⟨F, e, x, r, rp, p⟩ => ?_⟩
  cases x <;> simp only [asg] at p
  case tuple xs =>
    cases q : asgs ts xs e with
    | none => rw [q] at p; exact p.elim
    | some e1 =>
      rw [q] at p
      obtain ⟨a, vs, rfl, hs, rl⟩ := (Pk.rep rp).tuple
      exact (pg_tup hc h hn hst).run pins s σ H _ u Q I rv ⟨a, vs, rfl, hs, by rw [rl.length]; exact asgs_length q, F, e, xs, r, rl, by rw [q]; exact p⟩
  case list xs =>
    cases q : asgs ts xs e with
    | none => rw [q] at p; exact p.elim
    | some e1 =>
      rw [q] at p
      obtain ⟨a, vs, rfl, hs, rl⟩ := (Pk.rep rp).list
      exact (pg_unl hc h hn hst).run pins s σ H _ u Q I rv ⟨a, vs, rfl, hs.sqL, by rw [rl.length]; exact asgs_length q, F, e, xs, r, rl, by rw [q]; exact p⟩
  all_goals exact p.elim
/-! statements that store -/
theorem s_setT {t : Tg} {tg a : Expr} {fa : En → R} {pos : Pos} (hs : swapsWithSole [tg] a pos.line X.env = pure false) (hw : swappedStores [tg] a X.env = pure none) (h1 : (assignEach [tg] X.env).map (·.2) = [assign tg X.env])
    (ha : PE X a (tE (Kx.mk X.K px X.w) cl W fa)) (hg : PG X tg (tG (Kx.mk X.K px X.w) t)) : PS X (.Assign [tg] a pos) (tS (Kx.mk X.K px X.w) cl W (dSetT t fa)) := by
  refine psI (ps_asg ha hg hs hw h1) fun D σ H ⟨F, e, r, p⟩ => ⟨F, e, r, POS.bd (.refl r) p fun u e1 F1 H1 z a1 f1 v1 n1 p1 => ?_⟩
  cases q : take e1 u with
  | none => rw [q] at p1; exact p1.elim
  | some q' =>
    obtain ⟨x, e2⟩ := q'
    rw [q] at p1
    dsimp only at p1
    obtain ⟨F2, r2, f2, rp, g2, _, l2, _⟩ := take_ok a1.r a1.f v1 (n1.old fun _ h => h) q
    refine ⟨F2, e2, x, r2, rp, ?_⟩
    cases q2 : asg t x e2 with
    | none => rw [q2] at p1; exact p1.elim
    | some e3 =>
      rw [q2] at p1
      exact fun σ' r3 f3 _ _ => p1 F2 σ' H1 r3 (f2.trans r f3)
theorem put_ok {D : Ends} {i : Nat} {k : Bool} {u : Vl} {z : V} {F0 : As} {e0 : En} {σ0 : L2.St} {H0 : Hp} (a : At (Kx.mk X.K px X.w) F0 e0 σ0 H0 F e σ H) (v : VR (Kx.mk X.K px X.w) F e σ H z u) (n : Nw H0 z u) (p : POS (Kx.mk X.K px X.w) cl W F0 e0 σ0 H0 D (put i k u e)) : D.nx (σ.set i (some z)) H := by
  unfold put at p
  split at p
  · rename_i c
    split at p
    · obtain ⟨r', f'⟩ := a.r.putO c v a.r0 a.f n
      exact p F _ H r' f'
    · cases q : take e u with
      | none => rw [q] at p; exact p.elim
      | some q' =>
        obtain ⟨x, e1⟩ := q'
        rw [q] at p
        dsimp only at p
        obtain ⟨F2, r2, f2, rp, g2, _, l2, _⟩ := take_ok a.r a.f v n q
        have c1 : freeS e1 i = true := by
          cases u with
          | d y => cases q; exact c
          | o y =>
            have ee : e = e1 := by cases y <;> first | (cases q; rfl) | cases q
            rw [← ee]; exact c
          | p j =>
            unfold take at q
            dsimp only at q
            split at q
            · cases q
            · rename_i g
              cases q
              have hj : j < e.length := getS_lt (by rw [g]; simp)
              unfold freeS
              rw [getS_setS hj]
              by_cases e : i = j
              · rw [if_pos e]
              · rw [if_neg e]; exact c
            · cases q; exact c
            · cases q
        obtain ⟨r3, f3⟩ := r2.putD c1 rp
        exact p F2 _ H r3 (f2.trans a.r0 f3)
  · exact p.elim
theorem s_set {i : Nat} {k : Bool} {x : Str} {a : Expr} {fa : En → R} {pos pos' : Pos} (hN : X.N.Nodup) (hi : X.N[i]? = some x) (hx : Loc X.env.scope x) (hs : swapsWith a (some (.Name x pos')) pos.line X.env = pure false) (hf : X.fn x = true ∨ X.env.scope.names.lookup x = some .local)
    (ha : PE X a (tE (Kx.mk X.K px X.w) cl W fa)) : PS X (.Assign [.Name x pos'] a pos) (tS (Kx.mk X.K px X.w) cl W (dSet i k fa)) := by
  refine psI (ps_set hN hi hx ha hs hf) fun D σ H ⟨F, e, r, p⟩ => ⟨F, e, r, POS.bd (.refl r) p fun u e1 F1 H1 z a1 f1 v1 n1 p1 => ?_⟩
  exact put_ok a1 v1 n1 p1
end
end Ev
end

section
set_option Elab.async false
set_option linter.all false
set_option maxRecDepth 100000
set_option maxHeartbeats 2000000
namespace Ev
open PySem PySem.Spec PyProof.Rows L2
/-! ## own lists changed -/
section
variable {K : Kx} {F F' F0 F1 F2 F3 : As} {e e' e0 e1 e2 e3 : En} {σ σ' σ0 σ1 σ2 σ3 : L2.St} {H H' H0 H1 H2 H3 : Hp} {cl : Nat → Addr} {W : WX}
/-- an own list's object and what it holds -/
theorem Rel.lst {i : Nat} {l k : Bool} {xs : List PyData} (r : Rel K F e σ H) (g : getS e i = .ow l k (.list xs)) : ∃ a vs, σ[i]? = some (some (.ref a)) ∧ ¬ F a ∧ H a = some (.lst vs) ∧ RepL K F H vs xs := by
  have s := r.slot i
  rw [g] at s
  obtain ⟨a, h1, h2, h3⟩ := s
  cases h3 with
  | lst h4 h5 => exact ⟨a, _, h1, h2, h4, h5⟩
theorem Rel.writeG {i : Nat} {l : Bool} {x y : PyData} {a : Addr} {o : HO} (r : Rel K F e σ H) (g : getS e i = .ow l false x) (ha : σ[i]? = some (some (.ref a))) (ro : (∀ b u, F b → H b = some u → (upd H a o) b = some u) → Root K F (upd H a o) a y) :
    Rel K F (setS e i (.ow l false y)) σ (upd H a o) ∧ Fr F e σ H F (setS e i (.ow l false y)) σ (upd H a o) := by
  have hi : i < e.length := getS_lt (by rw [g]; simp)
  have nf : ¬ F a := (r.own ⟨i, ⟨_, _, _, g⟩, ha⟩).1
  have kF : ∀ b u, F b → H b = some u → (upd H a o) b = some u := fun b u h q => by rw [upd_ne (fun z => nf (by rw [← z]; exact h))]; exact q
  have at' : ∀ j b, OwnAt (setS e i (.ow l false y)) σ j b → OwnAt e σ j b := fun j b ⟨⟨l', k', y, z1⟩, z2⟩ => by
    rw [getS_setS hi] at z1
    split at z1
    · rename_i c; subst c; exact ⟨⟨_, _, _, g⟩, z2⟩
    · exact ⟨⟨l', k', y, z1⟩, z2⟩
  refine ⟨⟨by rw [setS_length]; exact r.len, fun b h => ?_, fun j => ?_, fun j k b z1 z2 => r.apart j k b (at' j b z1) (at' k b z2)⟩,
    ⟨setS_length, fun b o h n => ?_, fun b h => ?_, fun _ h => h, fun _ h => .inl h, fun b ⟨j, z⟩ => .inl ⟨j, at' j b z⟩, fun b ⟨j, ⟨l', y, z1⟩, z2⟩ => .inl ?_, fun j k y z => ?_, fun j l' y z => ?_⟩⟩
  · rw [upd_ne (fun z => nf (by rw [← z]; exact h))]; exact r.dom b h
  · rw [getS_setS hi]
    split
    · rename_i c; subst c
      exact ⟨a, ha, nf, ro kF⟩
    · rename_i c
      have q := r.slot j
      cases gj : getS e j with
      | sh d =>
        rw [gj] at q
        obtain ⟨v, z1, z2⟩ := q
        exact ⟨v, z1, z2.mono (fun _ h => h) kF⟩
      | ow l' k' d =>
        rw [gj] at q
        obtain ⟨b, z1, z2, z3⟩ := q
        refine ⟨b, z1, z2, z3.mono (fun _ h => h) kF fun o q' => ?_⟩
        rw [upd_ne (fun z => c ?_)]
        · exact q'
        · subst z
          exact r.apart j i b ⟨⟨_, _, _, gj⟩, z1⟩ ⟨⟨_, _, _, g⟩, ha⟩
      | no => trivial
      | ex c' y =>
        rw [gj] at q
        exact q.exm (fun _ h => h) kF fun d fs z => by
          rw [upd_ne (fun w => r.notMut z (by rw [w]; exact ⟨i, ⟨_, _, _, g⟩, ha⟩))]
          exact z
  · rw [upd_ne (fun z => n (by rw [z]; exact ⟨i, ⟨_, _, g⟩, ha⟩))]; exact h
  · by_cases z : b = a
    · rw [z, upd_same]; simp
    · rw [upd_ne z]; exact h
  · rw [getS_setS hi] at z1
    split at z1
    · rename_i c; subst c; exact ⟨j, ⟨_, _, g⟩, z2⟩
    · exact ⟨j, ⟨l', y, z1⟩, z2⟩
  · refine ⟨?_, rfl⟩
    rw [getS_setS hi] at z
    split at z
    · rename_i c; subst c
      cases z
      exact ⟨_, _, g⟩
    · exact ⟨_, _, z⟩
  · refine ⟨?_, rfl⟩
    rw [getS_setS hi, if_neg]
    · exact z
    · intro c; subst c; rw [g] at z; cases z
theorem Rel.write {i : Nat} {l : Bool} {xs ys : List PyData} {a : Addr} {ws : List V} (r : Rel K F e σ H) (g : getS e i = .ow l false (.list xs)) (ha : σ[i]? = some (some (.ref a))) (rl : RepL K F H ws ys) :
    Rel K F (setS e i (.ow l false (.list ys))) σ (upd H a (.lst ws)) ∧ Fr F e σ H F (setS e i (.ow l false (.list ys))) σ (upd H a (.lst ws)) :=
  r.writeG g ha fun kF => .lst upd_same (rl.mono (fun _ h => h) kF)
/-- an own dict's object and what it holds -/
theorem Rel.dct {i : Nat} {l k : Bool} {ds : List (PyData × PyData)} (r : Rel K F e σ H) (g : getS e i = .ow l k (.dict ds)) (hb : dctB ds = true) : ∃ a xs od, σ[i]? = some (some (.ref a)) ∧ ¬ F a ∧ H a = some (dctO K.w a xs od) ∧ Paired (Ent K F H) xs ds := by
  have s := r.slot i
  rw [g] at s
  obtain ⟨a, h1, h2, h3⟩ := s
  obtain ⟨xs, od, h4, h5⟩ := h3.dict hb
  exact ⟨a, xs, od, h1, h2, h4, h5⟩
theorem chgD_ok {D : Ends} {i : Nat} {f : PyData → Option PyData} {l : Bool} {ds ds' : List (PyData × PyData)} (a : At K F0 e0 σ0 H0 F e σ H) (p : POS K cl W F0 e0 σ0 H0 D (chg i f e)) (g : getS e i = .ow l false (.dict ds)) (hf : f (.dict ds) = some (.dict ds')) (hb : dctB ds = true) :
    ∃ b xs od, σ[i]? = some (some (.ref b)) ∧ H b = some (dctO K.w b xs od) ∧ Paired (Ent K F H) xs ds ∧ ∀ ys od', Paired (Ent K F H) ys ds' → D.nx σ (upd H b (dctO K.w b ys od')) := by
  unfold chg at p
  rw [g] at p
  dsimp only at p
  rw [hf] at p
  obtain ⟨b, xs, od, h1, h2, h3, h4⟩ := a.r.dct g hb
  refine ⟨b, xs, od, h1, h3, h4, fun ys od' rl => ?_⟩
  obtain ⟨r', f'⟩ := a.r.writeG (y := .dict ds') (o := dctO K.w b ys od') g h1 fun kF => .dct upd_same (Paired.mapP rl fun _ _ z => z.mono (fun _ h => h) kF)
  exact p F _ _ r' (a.f.trans a.r0 f')
/-- what a store to a dict asks, what it gives -/
theorem chgD_any {D : Ends} {i : Nat} {kd y : PyData} {kk : NestedKey} (a : At K F0 e0 σ0 H0 F e σ H) (p : POS K cl W F0 e0 σ0 H0 D (chg i (fun x => match x with
      | .dict kvs => if lenOk (kvs.length + 1) && dctB kvs then some (.dict (putN kd kk y kvs)) else none
      | _ => none) e)) :
    ∃ (l : Bool) (ds : List (PyData × PyData)) (b : Addr) (xs : List (NestedKey × Addr × Value)) (od : Obj), ds.length ≤ lim ∧ σ[i]? = some (some (.ref b)) ∧ H b = some (dctO K.w b xs od) ∧ Paired (Ent K F H) xs ds ∧ ∀ ys od', Paired (Ent K F H) ys (putN kd kk y ds) → D.nx σ (upd H b (dctO K.w b ys od')) := by
  cases g : getS e i with
  | ow l k x =>
    cases k with
    | true =>
      unfold chg at p
      rw [g] at p; exact p.elim
    | false =>
      by_cases hx : ∃ ds, x = .dict ds ∧ (lenOk (ds.length + 1) && dctB ds) = true
      · obtain ⟨ds, rfl, hl0⟩ := hx
        have hl1 := hl0
        simp only [Bool.and_eq_true] at hl1
        obtain ⟨hl, hb⟩ := hl1
        obtain ⟨b, xs, od, z1, z2, z3, z4⟩ := chgD_ok (ds' := putN kd kk y ds) a p g (by simp only [hl0, if_true]) hb
        refine ⟨l, ds, b, xs, od, ?_, z1, z2, z3, z4⟩
        unfold lenOk at hl
        rw [Nat.ble_eq] at hl
        omega
      · unfold chg at p
        rw [g] at p
        dsimp only at p
        cases x with
        | dict ds =>
          have hl : (lenOk (ds.length + 1) && dctB ds) = false := by
            cases q : (lenOk (ds.length + 1) && dctB ds) with
            | false => rfl
            | true => exact absurd ⟨ds, rfl, q⟩ hx
          simp only [hl] at p
          exact p.elim
        | _ => exact p.elim
  | _ =>
    unfold chg at p
    rw [g] at p; exact p.elim
theorem put_map {k : NestedKey} {b : Addr} {u : Value} {kd y : PyData} {v : V} (rv : RelV v u) (ry : Rep K F H v y) : ∀ {xs : List (NestedKey × Addr × Value)} {ds : List (PyData × PyData)}, Paired (Ent K F H) xs ds → Paired (Ent K F H) (xs.map (putAt k u)) (replN k y ds)
  | _, _, .nil => .nil
  | _, _, .cons (a := x) (b := p) h t => by
    obtain ⟨pk, pd⟩ := p
    refine .cons ?_ (put_map (b := b) (kd := kd) rv ry t)
    obtain ⟨h1, h2, h3, w, h4, h5⟩ := h
    unfold putAt
    by_cases c : x.1 = k
    · have c' : isKey k pk = true := isKey_iff.mpr (by rw [← c]; exact h1)
      rw [if_pos c, if_pos c']
      exact ⟨h1, h2, h3, v, rv, ry⟩
    · have c' : ¬ isKey k pk = true := fun z => by
        have := isKey_iff.mp z
        rw [h1] at this
        cases this
        exact c rfl
      rw [if_neg c, if_neg c']
      exact ⟨h1, h2, h3, w, h4, h5⟩
theorem putD_ok {k : NestedKey} {b : Addr} {u : Value} {kd y : PyData} {v : V} {xs : List (NestedKey × Addr × Value)} {ds : List (PyData × PyData)} (p : Paired (Ent K F H) xs ds) (hk : keyN kd = some k) (hd : k.depth ≤ 8) (rk : Rep K F H (.ref b) kd) (rv : RelV v u) (ry : Rep K F H v y) :
    Paired (Ent K F H) (storedH xs k b u) (putN kd k y ds) := by
  unfold storedH putN
  have e := look_some (k := k) p
  cases q : lookN k ds with
  | none =>
    rw [q] at e
    rw [← e]
    exact Paired.snoc p ⟨hk, hd, rk, v, rv, ry⟩
  | some d =>
    rw [q] at e
    rw [← e]
    exact put_map (b := b) (kd := kd) rv ry p
/-- what chg asks, what it gives -/
theorem chg_ok {D : Ends} {i : Nat} {f : PyData → Option PyData} (a : At K F0 e0 σ0 H0 F e σ H) (p : POS K cl W F0 e0 σ0 H0 D (chg i f e)) (hf : ∀ x y, f x = some y → ∃ xs ys, x = .list xs ∧ y = .list ys) :
    ∃ b vs xs ys, σ[i]? = some (some (.ref b)) ∧ H b = some (.lst vs) ∧ RepL K F H vs xs ∧ f (.list xs) = some (.list ys) ∧ ∀ ws, RepL K F H ws ys → D.nx σ (upd H b (.lst ws)) := by
  unfold chg at p
  cases g : getS e i with
  | ow l k x =>
    rw [g] at p
    cases k with
    | true => exact p.elim
    | false =>
      dsimp only at p
      cases q : f x with
      | none => rw [q] at p; exact p.elim
      | some y =>
        rw [q] at p
        obtain ⟨xs, ys, rfl, rfl⟩ := hf x y q
        obtain ⟨b, vs, h1, h2, h3, h4⟩ := a.r.lst g
        refine ⟨b, vs, xs, ys, h1, h3, h4, q, fun ws rl => ?_⟩
        obtain ⟨r', f'⟩ := a.r.write g h1 rl
        exact p F _ _ r' (a.f.trans a.r0 f')
  | _ => rw [g] at p; exact p.elim
end
section
variable {X : Cx} {px : Addr → Nat → Addr → Prop} {cl : Nat → Addr} {W : WX} {F F' F1 F2 : As} {e e' e1 e2 : En} {σ : L2.St} {H H1 H2 : Hp}
theorem ownL_ok {i : Nat} (r : Rel (Kx.mk X.K px X.w) F e σ H) (h : ownL e i = true) : ∃ a, σ[i]? = some (some (.ref a)) ∧ tyV X.K "list" (.ref a) H := by
  unfold ownL at h
  split at h
  · rename_i l k xs g
    obtain ⟨a, vs, h1, _, h3, _⟩ := r.lst g
    exact ⟨a, h1, .inl ⟨rfl, vs, .inl (.inl h3)⟩⟩
  · cases h
theorem s_app {i : Nat} {x : Str} {a : Expr} {fa : En → R} {xp apos cpos pos : Pos} (hN : X.N[i]? = some x) (hv : Vis X.env.scope x) (hd : (x == ("__debug__" : Str)) = false) (hcd : (x == ("__classdict__" : Str)) = false)
    (hbase : attributeBase (.Name x xp) "append" X.env (eval (.Name x xp) X.env) = eval (.Name x xp) X.env)
    (hfew : ((backTo cpos (starEach [a] X.env)).all (fun x => !x.1) && (backToKw cpos (keywordEach [] X.env)).all (fun x => x.1.isSome) && decide (([a] : List Expr).length + ([] : List Keyword).length + (if ([] : List Keyword).isEmpty then 0 else 1) < 30)) = true)
    (hline : (apos.endLine == cpos.line) = true) (hs : starEach [a] X.env = (false, eval a X.env) :: starEach [] X.env) (hplain : (backTo cpos (starEach [] X.env)).any (·.1) = false) (hn : notStar a = true)
    (hsw : swapsWith (.Call (.Attribute (.Name x xp) "append" apos) [a] [] cpos) none pos.line X.env = pure false)
    (ha : PE X a (tE (Kx.mk X.K px X.w) cl W fa)) : PS X (.Expr (.Call (.Attribute (.Name x xp) "append" apos) [a] [] cpos) pos) (tS (Kx.mk X.K px X.w) cl W (dApp i fa)) := by
  refine psI (ps_expr (pe_bm (r := rAppend) F.plainAttrs_list F.slot_list_append F.type_list_append mt_append (pe_var hN hv hd hcd) (pa_cons ha pa_nil (starEach_cons hn)) hbase hfew hline hs hplain) hsw) fun D σ H ⟨F, e, r, p⟩ => ?_
  unfold dApp at p
  split at p
  · rename_i c
    obtain ⟨b, h1, ty⟩ := ownL_ok r c
    refine ⟨.ref b, h1, ty, F, e, r, POS.bd (.refl r) p fun u e1 F1 H1 z a1 f1 v1 n1 p1 => ?_⟩
    cases q : take e1 u with
    | none => rw [q] at p1; exact p1.elim
    | some q' =>
      obtain ⟨y, e2⟩ := q'
      rw [q] at p1
      dsimp only at p1
      obtain ⟨F2, r2, f2, rp, g2, _, l2, _⟩ := take_ok a1.r a1.f v1 n1 q
      obtain ⟨b', ws, xs, ys, h2, h3, h4, h5, h6⟩ := chg_ok ⟨r, f2, r2⟩ p1 fun x y h => by
        cases x <;> simp only [reduceCtorEq] at h
        split at h
        · cases h; exact ⟨_, _, rfl, rfl⟩
        · cases h
      rw [h1] at h2
      cases h2
      simp only at h5
      split at h5
      · rename_i c2
        cases h5
        exact ⟨b, ws, z, rfl, rfl, h3, by rw [h4.length]; exact lenOk_line c2, h6 _ (h4.append (.cons rp .nil))⟩
      · cases h5
  · exact p.elim
/-- xs.extend(ys), ys any list that is read -/
def rExtS (K : PySem.W.Frag) : V → List V → Hp → VK → Prop := fun x vs H Q => ∃ l b xs zs, x = .ref l ∧ vs = [.ref b] ∧ H l = some (.lst xs) ∧ SqS K H b zs ∧ xs.length + zs.length ≤ sizeLine ∧ Q .non (upd H l (.lst (xs ++ zs)))
theorem mt_extS : MtR X "list.extend" (rExtS X.K) := by
  intro pins s σ H x vs v us Q I rx rv h
  obtain ⟨l, b, xs, zs, rfl, rfl, hH, hB, hz, q⟩ := h
  cases rx
  obtain ⟨u, rfl, ru⟩ := rv.one
  cases ru
  obtain ⟨z, its, n, r, hl, e⟩ := I.lstM hH
  obtain ⟨z2, its2, n2, r2, hl2, e2⟩ := lstS I hB
  have hsz : its.toArray.size + its2.toArray.size ≤ sizeLine := by rw [List.size_toArray, List.size_toArray]; omega
  have hlong : ¬ (!its.toArray.isEmpty && Builtin.List.listTooLong (its.toArray.size + its2.toArray.size)) = true := by
    rw [notLongL hsz, Bool.and_false]
    exact Bool.false_ne_true
  refine call_meets F.slot_list_extend ⟨_, e, rfl⟩ F.entry_list_extend (F.args_list_extend_2 _ _)
    (AutoSeq1.list_extend_list_list_0 l its.toArray n b its2.toArray n2 hlong (by rw [List.size_toArray]; omega) (by omega)) ⟨e, e2, ?_⟩
  refine ⟨.non, _, I.lset (its' := its ++ its2) hH e (by simp) (r.append r2) ?_, rfl, q⟩
  rw [List.length_append]
  omega
theorem s_ext {i : Nat} {x : Str} {a : Expr} {fa : En → R} {xp apos cpos pos : Pos} (hN : X.N[i]? = some x) (hv : Vis X.env.scope x) (hd : (x == ("__debug__" : Str)) = false) (hcd : (x == ("__classdict__" : Str)) = false)
    (hbase : attributeBase (.Name x xp) "extend" X.env (eval (.Name x xp) X.env) = eval (.Name x xp) X.env)
    (hfew : ((backTo cpos (starEach [a] X.env)).all (fun x => !x.1) && (backToKw cpos (keywordEach [] X.env)).all (fun x => x.1.isSome) && decide (([a] : List Expr).length + ([] : List Keyword).length + (if ([] : List Keyword).isEmpty then 0 else 1) < 30)) = true)
    (hline : (apos.endLine == cpos.line) = true) (hs : starEach [a] X.env = (false, eval a X.env) :: starEach [] X.env) (hplain : (backTo cpos (starEach [] X.env)).any (·.1) = false) (hn : notStar a = true)
    (hsw : swapsWith (.Call (.Attribute (.Name x xp) "extend" apos) [a] [] cpos) none pos.line X.env = pure false)
    (ha : PE X a (tE (Kx.mk X.K px X.w) cl W fa)) : PS X (.Expr (.Call (.Attribute (.Name x xp) "extend" apos) [a] [] cpos) pos) (tS (Kx.mk X.K px X.w) cl W (dExt i fa)) := by
  refine psI (ps_expr (pe_bm (r := rExtS X.K) F.plainAttrs_list F.slot_list_extend F.type_list_extend mt_extS (pe_var hN hv hd hcd) (pa_cons ha pa_nil (starEach_cons hn)) hbase hfew hline hs hplain) hsw) fun D σ H ⟨F, e, r, p⟩ => ?_
  unfold dExt at p
  split at p
  · rename_i c
    obtain ⟨b, h1, ty⟩ := ownL_ok r c
    refine ⟨.ref b, h1, ty, F, e, r, POS.bd (.refl r) p fun u e1 F1 H1 z a1 f1 v1 n1 p1 => ?_⟩
    split at p1
    · rename_i ys q
      obtain ⟨b', ws, xs, ys', h2, h3, h4, h5, h6⟩ := chg_ok a1 p1 fun x y h => by
        cases x <;> simp only [reduceCtorEq] at h
        split at h
        · cases h; exact ⟨_, _, rfl, rfl⟩
        · cases h
      rw [h1] at h2
      cases h2
      simp only at h5
      split at h5
      · rename_i c2
        cases h5
        obtain ⟨d, zs, rfl, hs, rl⟩ := (res_ok a1.r v1 q).list
        exact ⟨b, d, ws, zs, rfl, rfl, h3, hs, by rw [h4.length, rl.length]; exact lenOk_line c2, h6 _ (h4.append rl)⟩
      · cases h5
    · exact p1.elim
  · exact p.elim
theorem ownD_ok {i : Nat} (r : Rel (Kx.mk X.K px X.w) F e σ H) (h : ownD e i = true) : ∃ l ds a, getS e i = .ow l false (.dict ds) ∧ σ[i]? = some (some (.ref a)) := by
  unfold ownD at h
  split at h
  · rename_i l ds g
    obtain ⟨a, xs, od, h1, _⟩ := r.dct g h
    exact ⟨l, ds, a, g, h1⟩
  · cases h
theorem pset_or {t t' : TSet} (h : PSet X t) (h' : PSet X t') : PSet X (fun o i v H Q => t o i v H Q ∨ t' o i v H Q) := by
  intro pins s σ H o i v ov iv u Q I ro ri rv q
  rcases q with q | q
  · exact h pins s σ H o i v ov iv u Q I ro ri rv q
  · exact h' pins s σ H o i v ov iv u Q I ro ri rv q
/-- d[k] = v -/
def rSetD (K : Kx) : TSet := fun o i v H Q => ∃ F a xs od ds kd k b, o = .ref a ∧ H a = some (dctO K.w a xs od) ∧ Paired (Ent K F H) xs ds ∧ i = .ref b ∧ Rep K F H i kd ∧ keyT kd = some k ∧ ds.length ≤ lim ∧ ∀ u od', RelV v u → Q (upd H a (dctO K.w a (storedH xs k b u) od'))
theorem set_dct (hu : X.A.units + 100 < cLine) : PSet X (rSetD (Kx.mk X.K px X.w)) := by
  intro pins s σ H o i v ov iv u Q I ro ri rv h
  obtain ⟨F, a, xs, od, ds, kd, k, b, rfl, hp, pp, rfl, rk, hk, hl, q⟩ := h
  cases ro
  cases ri
  obtain ⟨c1, c2, xs', rfl⟩ := keyT_ok hk
  obtain ⟨d1, d2⟩ := dct_of I hp pp
  refine wpAny_setItem_heap (knd := nestedKind X.prog X.w) (by show X.A.in1.units + 8 < cLine; show X.A.units + 1 + 8 < cLine; omega) ⟨nest_ok I rk c1 rfl, c2⟩ d2 (fun h' hm hs => ?_) (by rw [Paired.length pp, sizeLine_eq]; unfold lim at hl; omega)
  obtain ⟨o, es, ep, g1, g2, g3, g4, _, g6⟩ := hm
  refine ⟨_, I.write (x := a) (e := a) (o := dctO X.w a (storedH xs k b u) o) (t' := _) (by rw [hp]; exact True.intro) (.inl rfl) (fun b' o' n e => (hs.2 b' n).trans e) ⟨_, g1⟩ (dct_ok ⟨d1, o, es, ep, g1, g2, g3, g4, g6⟩ g1), q u o rv⟩
theorem s_six {i : Nat} {x : Str} {a b : Expr} {fa fb : En → R} {xp spos pos : Pos} (hu : X.A.units + 100 < cLine) (hN : X.N[i]? = some x) (hv : Vis X.env.scope x) (hd : (x == ("__debug__" : Str)) = false) (hcd : (x == ("__classdict__" : Str)) = false)
    (hs : swapsWithSole [.Subscript (.Name x xp) a spos] b pos.line X.env = pure false) (hw : swappedStores [.Subscript (.Name x xp) a spos] b X.env = pure none) (h1 : (assignEach [.Subscript (.Name x xp) a spos] X.env).map (·.2) = [assign (.Subscript (.Name x xp) a spos) X.env])
    (hasg : ∀ v, assign (.Subscript (.Name x xp) a spos) X.env v = (do
      let ov ← holding [v] (eval (.Name x xp) X.env)
      let iv ← holding [v, ov] (eval a X.env)
      standAt spos
      holding [v, ov, iv] (setItem ov iv v)
      release [v, ov, iv] []))
    (ha : PE X a (tE (Kx.mk X.K px X.w) cl W fa)) (hb : PE X b (tE (Kx.mk X.K px X.w) cl W fb)) : PS X (.Assign [.Subscript (.Name x xp) a spos] b pos) (tS (Kx.mk X.K px X.w) cl W (dSix i fa fb)) := by
  refine psI (ps_asg hb (pg_sub (pe_var hN hv hd hcd) ha (pset_or set_list (set_dct (px := px) hu)) hasg) hs hw h1) fun D σ H ⟨F, e, r, p⟩ => ⟨F, e, r, POS.bd (.refl r) p fun u e1 F1 H1 z a1 f1 v1 n1 p1 => ?_⟩
  split at p1
  · rename_i c
    obtain ⟨b, h2, ty⟩ := ownL_ok a1.r c
    refine ⟨.ref b, h2, F1, e1, a1.r, POS.bd a1 p1 fun w e2 F2 H2 y a2 f2 v2 n2 p2 => ?_⟩
    split at p2
    · rename_i y' e3 j q1 q2
      obtain ⟨F3, r3, f3, rp, g3, _, l3, _⟩ := take_ok a2.r a2.f (VR.keep a1.r f2 v1) (n1.old fun _ h => h) q1
      obtain ⟨b', ws, xs, ys', h2', h3, h4, h5, h6⟩ := chg_ok ⟨r, f3, r3⟩ p2 fun x y h => by
        cases x <;> simp only [reduceCtorEq, Option.map_eq_some_iff] at h
        obtain ⟨n, _, rfl⟩ := h
        exact ⟨_, _, rfl, rfl⟩
      rw [h2] at h2'
      cases h2'
      simp only [Option.map_eq_some_iff] at h5
      obtain ⟨n, h7, h8⟩ := h5
      cases h8
      exact .inl ⟨b, ws, j, n, rfl, (res_ok a2.r v2 q2).int, h3, by rw [← ixF_N, h4.length]; exact h7, h6 _ (h4.set n rp)⟩
    · exact p2.elim
  · unfold sixD at p1
    split at p1
    · rename_i c
      obtain ⟨l, ds, b, g, h2⟩ := ownD_ok a1.r c
      refine ⟨.ref b, h2, F1, e1, a1.r, POS.bd a1 p1 fun w e2 F2 H2 y a2 f2 v2 n2 p2 => ?_⟩
      split at p2
      · rename_i kd y' e3 q1
        split at p2
        · rename_i kk q3
          obtain ⟨F3, r3, f3, rp, g3, _, l3, _⟩ := take_ok a2.r a2.f (VR.keep a1.r f2 v1) (n1.old fun _ h => h) q1
          have rk : Rep (Kx.mk X.K px X.w) F3 H2 y kd := Rep.mono g3 (fun _ _ _ z => z) v2
          obtain ⟨k1, k2, xs', rfl⟩ := keyT_ok q3
          obtain ⟨bk, rfl⟩ : ∃ bk, y = .ref bk := by
            cases rk <;> exact ⟨_, rfl⟩
          obtain ⟨l', ds', b', xs, od, e4, z1, z2, z3, z4⟩ := chgD_any ⟨r, f3, r3⟩ p2
          have e5 := h2.symm.trans z1
          cases e5
          exact .inr ⟨F3, b, xs, od, ds', _, kk, bk, rfl, z2, z3, rfl, rk, q3, e4, fun u od2 ru => z4 _ od2 (putD_ok z3 k1 k2 rk ru rp)⟩
        · exact p2.elim
      · exact p2.elim
    · exact p1.elim
/-! plain statements -/
theorem s_exp {a : Expr} {fa : En → R} {pos : Pos} (hs : swapsWith a none pos.line X.env = pure false) (ha : PE X a (tE (Kx.mk X.K px X.w) cl W fa)) : PS X (.Expr a pos) (tS (Kx.mk X.K px X.w) cl W (dExp fa)) :=
  psI (ps_expr ha hs) fun D σ H ⟨F, e, r, p⟩ => ⟨F, e, r, POS.bd (.refl r) p fun u e1 F1 H1 z a1 f1 v1 n1 p1 => p1 F1 σ H1 a1.r a1.f⟩
theorem s_ret {a : Expr} {fa : En → R} {pos : Pos} (ha : PE X a (tE (Kx.mk X.K px X.w) cl W fa)) : PS X (.Return (some a) pos) (tS (Kx.mk X.K px X.w) cl W (dRet fa)) :=
  psI (ps_ret ha) fun D σ H ⟨F, e, r, p⟩ => ⟨F, e, r, POS.bd (.refl r) p fun u e1 F1 H1 z a1 f1 v1 n1 p1 => p1 F1 σ H1 z a1.r a1.f v1 n1⟩
theorem s_retN {pos : Pos} : PS X (.Return none pos) (tS (Kx.mk X.K px X.w) cl W (dRet (dLit .none))) :=
  psI ps_retN fun D σ H ⟨F, e, r, p⟩ => p F σ H .non r .refl .non trivial
theorem s_iff {c : Expr} {as bs : List Stmt} {fc fa fb : En → R} {pos : Pos} (hc : PT X c (tT (Kx.mk X.K px X.w) cl W fc)) (ha : PSs X as (tS (Kx.mk X.K px X.w) cl W fa)) (hb : PSs X bs (tS (Kx.mk X.K px X.w) cl W fb)) : PS X (.If c as bs pos) (tS (Kx.mk X.K px X.w) cl W (dIff fc fa fb)) := by
  refine psI (ps_if hc ha hb) fun D σ H ⟨F, e, r, p⟩ => ⟨F, e, r, POS.tst (.refl r) p fun b u e1 F1 H1 a1 f1 p1 => ?_⟩
  cases b with
  | true => exact iteT ⟨F1, e1, a1.r, POS.last a1 p1⟩
  | false => exact iteF ⟨F1, e1, a1.r, POS.last a1 p1⟩
theorem b_nil : PSs X [] (tS (Kx.mk X.K px X.w) cl W R.nx) := pssI pss_nil fun D σ H ⟨F, e, r, p⟩ => p F σ H r .refl
theorem b_cons {st : Stmt} {sts : List Stmt} {fa fb : En → R} (ha : PS X st (tS (Kx.mk X.K px X.w) cl W fa)) (hb : PSs X sts (tS (Kx.mk X.K px X.w) cl W fb)) : PSs X (st :: sts) (tS (Kx.mk X.K px X.w) cl W (dSeq fa fb)) :=
  pssI (pss_cons ha hb) fun D σ H ⟨F, e, r, p⟩ => ⟨F, e, r, POS.sq (.refl r) p fun e1 F1 σ1 H1 a1 f1 p1 => ⟨F1, e1, a1.r, POS.last a1 p1⟩⟩
theorem s_pass {pos : Pos} : PS X (.Pass pos) (tS (Kx.mk X.K px X.w) cl W R.nx) := psI ps_pass fun D σ H ⟨F, e, r, p⟩ => p F σ H r .refl
theorem s_doc {x j pos pos'} : PS X (.Expr (.Constant (.str x) j pos) pos') (tS (Kx.mk X.K px X.w) cl W R.nx) := psI ps_doc fun D σ H ⟨F, e, r, p⟩ => p F σ H r .refl
theorem s_brk {pos : Pos} : PS X (.Break pos) (tS (Kx.mk X.K px X.w) cl W R.bk) := psI ps_break fun D σ H ⟨F, e, r, p⟩ => p F σ H r .refl
theorem s_cnt {pos : Pos} : PS X (.Continue pos) (tS (Kx.mk X.K px X.w) cl W R.ct) := psI ps_continue fun D σ H ⟨F, e, r, p⟩ => p F σ H r .refl
end
end Ev
end

section
set_option Elab.async false
set_option linter.all false
set_option maxRecDepth 100000
set_option maxHeartbeats 2000000
namespace Ev
open PySem PySem.Spec PyProof.Rows L2
/-! ## list(range(n)), tuple(range(n)); xs.count(x); xs.pop(j) -/
section
variable {X : Cx} {px : Addr → Nat → Addr → Prop} {cl : Nat → Addr} {W : WX} {F F' F1 F2 : As} {e e' e1 e2 : En} {σ : L2.St} {H H1 H2 : Hp}
theorem rg_of {a : Expr} {t : TA} {p pos : Pos} (hg : Gl X "range") (hm : X.mg "range" = none) (ha : PA X [a] t) (na : starEach [a] X.env = (false, eval a X.env) :: starEach [] X.env) :
    PRg X (.Call (.Name "range" p) [a] [] pos) (fun σ H Q => t σ H fun vs H1 => ∃ n, vs = [.int n] ∧ Q 0 n H1) := by
  intro pins s σ H Q I h
  refine wpAny_Call_Name_kw (ld_blt I hg hm boot_range ?_)
  refine PyProof.Rows.callWith_type1 (thn (ha.run pos pins s σ H _ I h) fun us s1 ⟨vs, H1, I1, r1, n, ev, q⟩ => ?_) na rfl
  subst ev
  obtain ⟨u, rfl, ru⟩ := r1.one
  obtain ⟨t', rfl⟩ := ru
  exact call_range_1 ⟨_, 0, n, _, _, _, H1, rfl, IsRange.new _ _ _ _ _ _ _, I1.kept fun b u e => Heap.get?_push_of_some _ e, q⟩
theorem rg_rep {K : Kx} : ∀ (m : Nat) (a : Int), RepL K F H ((List.range m).map fun i => V.int (a + (i : Nat))) (upto a m)
  | 0, _ => .nil
  | m + 1, a => by
    rw [List.range_succ_eq_map, List.map_cons, List.map_map]
    unfold upto
    have h := rg_rep (K := K) m (a + 1)
    have e : (List.range m).map ((fun i : Nat => V.int (a + (i : Nat))) ∘ Nat.succ) = (List.range m).map fun i : Nat => V.int (a + 1 + (i : Nat)) := by
      apply List.map_congr_left
      intro i _
      show V.int (a + ((i + 1 : Nat) : Int)) = V.int (a + 1 + (i : Nat))
      congr 1
      omega
    rw [e]
    refine .cons ?_ h
    have : a + ((0 : Nat) : Int) = a := by omega
    rw [this]
    exact .int a
theorem rg_ok {j : Int} (h : rngOk j = true) : RgOk 0 j := by
  unfold rngOk at h
  simp only [Bool.and_eq_true, decide_eq_true_eq] at h
  exact ⟨by omega, by omega, by omega, by omega, by omega⟩
theorem s_lstRg {a : Expr} {fa : En → R} {p1 p2 p3 p4 : Pos} (hc : X.calm = true) (hg : Gl X "range") (hm : X.mg "range" = none) (hg2 : Gl X "list") (hm2 : X.mg "list" = none) (na : starEach [a] X.env = (false, eval a X.env) :: starEach [] X.env) (ha : PA X [a] (tA (Kx.mk X.K px X.w) cl W fa)) :
    PE X (.Call (.Name "list" p1) [.Call (.Name "range" p2) [a] [] p3] [] p4) (tE (Kx.mk X.K px X.w) cl W (dBlt 17 fa)) := by
  refine peI (pe_listRg hc hg2 hm2 (rg_of hg hm ha na)) fun σ H Q ⟨F, e, r, p⟩ => ⟨F, e, r, PO'.bds (.refl r) p fun us e1 F1 H1 zs a1 f1 v1 p1 => ?_⟩
  split at p1
  · rename_i xs q
    unfold oR at p1
    split at p1
    · rename_i u qb
      match xs, qb, q with
      | [.int j], qb, q =>
        simp only [bltF] at qb
        split at qb
        · rename_i c
          cases qb
          obtain ⟨v, rfl, pv⟩ := (ress_ok a1.r v1 q).one
          refine ⟨j, by rw [pv.int], rg_ok c, ?_⟩
          have out := PO'.out a1 p1 (fun i z => by cases z)
          refine out.lst a1.r.dom ?_
          unfold rgV
          have := rg_rep (K := Kx.mk X.K px X.w) (F := F1) (H := H1) j.toNat 0
          rwa [show (j - 0).toNat = j.toNat by omega]
        · cases qb
      | [], qb, _ => simp [bltF] at qb
      | [.none], qb, _ => simp [bltF] at qb
      | [.bool _], qb, _ => simp [bltF] at qb
      | [.str _], qb, _ => simp [bltF] at qb
      | [.list _], qb, _ => simp [bltF] at qb
      | [.tuple _], qb, _ => simp [bltF] at qb
      | [.dict _], qb, _ => simp [bltF] at qb
      | _ :: _ :: _, qb, _ => simp [bltF] at qb
    · exact p1.elim
  · exact p1.elim
theorem s_tupRg {a : Expr} {fa : En → R} {p1 p2 p3 p4 : Pos} (hc : X.calm = true) (hg : Gl X "range") (hm : X.mg "range" = none) (hg2 : Gl X "tuple") (hm2 : X.mg "tuple" = none) (na : starEach [a] X.env = (false, eval a X.env) :: starEach [] X.env) (ha : PA X [a] (tA (Kx.mk X.K px X.w) cl W fa)) :
    PE X (.Call (.Name "tuple" p1) [.Call (.Name "range" p2) [a] [] p3] [] p4) (tE (Kx.mk X.K px X.w) cl W (dBlt 18 fa)) := by
  refine peI (pe_tupRg hc hg2 hm2 (rg_of hg hm ha na)) fun σ H Q ⟨F, e, r, p⟩ => ⟨F, e, r, PO'.bds (.refl r) p fun us e1 F1 H1 zs a1 f1 v1 p1 => ?_⟩
  split at p1
  · rename_i xs q
    unfold oR at p1
    split at p1
    · rename_i u qb
      match xs, qb, q with
      | [.int j], qb, q =>
        simp only [bltF] at qb
        split at qb
        · rename_i c
          cases qb
          obtain ⟨v, rfl, pv⟩ := (ress_ok a1.r v1 q).one
          refine ⟨j, by rw [pv.int], rg_ok c, ?_⟩
          have out := PO'.out a1 p1 (fun i z => by cases z)
          refine out.tup a1.r.dom ?_
          unfold rgV
          have := rg_rep (K := Kx.mk X.K px X.w) (F := F1) (H := H1) j.toNat 0
          rwa [show (j - 0).toNat = j.toNat by omega]
        · cases qb
      | [], qb, _ => simp [bltF] at qb
      | [.none], qb, _ => simp [bltF] at qb
      | [.bool _], qb, _ => simp [bltF] at qb
      | [.str _], qb, _ => simp [bltF] at qb
      | [.list _], qb, _ => simp [bltF] at qb
      | [.tuple _], qb, _ => simp [bltF] at qb
      | [.dict _], qb, _ => simp [bltF] at qb
      | _ :: _ :: _, qb, _ => simp [bltF] at qb
    · exact p1.elim
  · exact p1.elim
/-! xs.count(x) -/
theorem cntI_ok {j : Int} : ∀ {xs : List PyData} {n : Nat}, cntI j xs = some n → ∃ ns : List Int, xs = ns.map .int ∧ ns.count j = n
  | [], n, e => by cases e; exact ⟨[], rfl, rfl⟩
  | x :: xs, n, e => by
    cases x <;> simp only [cntI, reduceCtorEq] at e
    rename_i i
    split at e
    · rename_i n' e'
      cases e
      obtain ⟨ns, rfl, h⟩ := cntI_ok e'
      refine ⟨i :: ns, rfl, ?_⟩
      rw [List.count_cons, h]
      by_cases c : i = j
      · simp [c]
      · simp [c]
    · cases e
theorem s_mtl {o a : Expr} {fa fb : En → R} {apos pos : Pos} (hbase : attributeBase o "count" X.env (eval o X.env) = eval o X.env)
    (hfew : ((backTo pos (starEach [a] X.env)).all (fun x => !x.1) && (backToKw pos (keywordEach [] X.env)).all (fun x => x.1.isSome) && decide (([a] : List Expr).length + ([] : List Keyword).length + (if ([] : List Keyword).isEmpty then 0 else 1) < 30)) = true)
    (hline : (apos.endLine == pos.line) = true) (hs : starEach [a] X.env = (false, eval a X.env) :: starEach [] X.env) (hplain : (backTo pos (starEach [] X.env)).any (·.1) = false) (hn : notStar a = true)
    (ho : PE X o (tE (Kx.mk X.K px X.w) cl W fa)) (ha : PE X a (tE (Kx.mk X.K px X.w) cl W fb)) : PE X (.Call (.Attribute o "count" apos) [a] [] pos) (tE (Kx.mk X.K px X.w) cl W (dMtL 0 fa fb)) := by
  refine peI (pe_bm (r := rCntI X.K) F.plainAttrs_list F.slot_list_count F.type_list_count mt_lcount ho (pa_cons ha pa_nil (starEach_cons hn)) hbase hfew hline hs hplain) fun σ H Q ⟨F, e, r, p⟩ => ?_
  refine ⟨F, e, r, PO'.bd (.refl r) p fun u e1 F1 H1 z a1 f1 v1 n1 p1 => ?_⟩
  split at p1
  · rename_i xs0 q0
    obtain ⟨b, ws0, rfl, hs0, _⟩ := (res_ok a1.r v1 q0).list
    refine ⟨.inl ⟨rfl, ws0, hs0.sqL⟩, F1, e1, a1.r, PO'.bd a1 p1 fun w e2 F2 H2 y a2 f2 v2 n2 p2 => ?_⟩
    split at p2
    · rename_i xs x q1 q2
      unfold oR at p2
      split at p2
      · rename_i u' qb
        cases x <;> simp only [mtlF, reduceCtorEq] at qb
        rename_i j
        split at qb
        · rename_i n qn
          cases qb
          obtain ⟨ns, rfl, hc⟩ := cntI_ok qn
          obtain ⟨b', ws, eb, hs2, rl⟩ := (res_ok a2.r (VR.keep a1.r f2 v1) q1).list
          cases eb
          rw [rl.ints] at hs2
          have hy := (res_ok a2.r v2 q2).int
          subst hy
          exact ⟨b, ns, j, rfl, rfl, hs2.sqL, by rw [hc]; exact PO'.okd a2 p2 (.int _)⟩
        · cases qb
      · exact p2.elim
    · exact p2.elim
  · exact p1.elim
/-! xs.pop(j) -/
theorem RepL.erase {K : Kx} : ∀ {vs : List V} {ds : List PyData} (n : Nat), RepL K F H vs ds → RepL K F H (vs.eraseIdx n) (ds.eraseIdx n)
  | _, _, _, .nil => by simpa using .nil
  | _, _, 0, .cons _ b => by simpa using b
  | _, _, n + 1, .cons a b => by simpa using .cons a (RepL.erase n b)
theorem s_pop {i : Nat} {x : Str} {a : Expr} {fa : En → R} {xp apos pos : Pos} (hN : X.N[i]? = some x) (hv : Vis X.env.scope x) (hd : (x == ("__debug__" : Str)) = false) (hcd : (x == ("__classdict__" : Str)) = false)
    (hbase : attributeBase (.Name x xp) "pop" X.env (eval (.Name x xp) X.env) = eval (.Name x xp) X.env)
    (hfew : ((backTo pos (starEach [a] X.env)).all (fun x => !x.1) && (backToKw pos (keywordEach [] X.env)).all (fun x => x.1.isSome) && decide (([a] : List Expr).length + ([] : List Keyword).length + (if ([] : List Keyword).isEmpty then 0 else 1) < 30)) = true)
    (hline : (apos.endLine == pos.line) = true) (hs : starEach [a] X.env = (false, eval a X.env) :: starEach [] X.env) (hplain : (backTo pos (starEach [] X.env)).any (·.1) = false) (hn : notStar a = true)
    (ha : PE X a (tE (Kx.mk X.K px X.w) cl W fa)) : PE X (.Call (.Attribute (.Name x xp) "pop" apos) [a] [] pos) (tE (Kx.mk X.K px X.w) cl W (dMut 1 i fa)) := by
  refine peI (pe_bm (r := rPopAt) F.plainAttrs_list F.slot_list_pop F.type_list_pop mt_popAt (pe_var hN hv hd hcd) (pa_cons ha pa_nil (starEach_cons hn)) hbase hfew hline hs hplain) fun σ H Q ⟨F, e, r, p⟩ => ?_
  unfold dMut at p
  split at p
  case isFalse c =>
    split at p
    · rename_i c; simp at c
    · exact p.elim
  · rename_i c
    simp only [Bool.and_eq_true] at c
    obtain ⟨b, h1, ty⟩ := ownL_ok r c.2
    refine ⟨.ref b, h1, ty, F, e, r, PO'.bd (.refl r) p fun u e1 F1 H1 z a1 f1 v1 n1 p1 => ?_⟩
    split at p1
    · rename_i j q1
      split at p1
      · rename_i cj
        unfold popL at p1
        split at p1
        · rename_i l xs g
          split at p1
          · rename_i k qk
            split at p1
            · rename_i y qy
              obtain ⟨b', ws, z1, z2, z3, z4⟩ := a1.r.lst g
              have e5 := h1.symm.trans z1
              cases e5
              obtain ⟨v, hv, rv⟩ := z4.get qy
              have rl : RepL (Kx.mk X.K px X.w) F1 H1 (ws.eraseIdx k) (xs.eraseIdx k) := z4.erase k
              obtain ⟨r', f'⟩ := a1.r.write g z1 rl
              have hz := (res_ok a1.r v1 q1).int
              subst hz
              unfold rngOk at cj
              simp only [Bool.and_eq_true, decide_eq_true_eq] at cj
              refine ⟨b, ws, j, k, v, rfl, rfl, z3, by omega, by omega, ?_, hv, ?_⟩
              · rw [z4.length]
                exact (ixN_seq (by rw [← ixF_N]; exact qk)).1
              · exact p1 F1 _ v r' (a1.f.trans a1.r0 f') (Rep.mono (fun _ h => h) (fun c o hc q => by rw [upd_ne (fun w => z2 (by rw [← w]; exact hc))]; exact q) rv) trivial
            · exact p1.elim
          · exact p1.elim
        · exact p1.elim
      · exact p1.elim
    · exact p1.elim
end
end Ev
end

section
set_option Elab.async false
set_option linter.all false
set_option maxRecDepth 100000
set_option maxHeartbeats 4000000
namespace Ev
open PySem PySem.Spec PyProof.Rows L2
/-! ## set(xs), xs a list of ints: a new set with those members -/
section
variable {P : Program} {w : World} {A : Around} {E : Value → Shared → Prop} {s : Shared}
/-- a set just made -/
abbrev noneYet (w : World) : Obj := { cls := .type "set", dict := none, data := .set #[] 0 (.fresh 0 0 (!w.params.followText "set-order")) }
theorem item_int {zs : Array Value} {ks : List Int} (ik : IntsAre zs.toList ks) (hz : zs.size = ks.length) (i : Nat) (v : Value) (hv : zs[i]? = some v) : ∃ k t, ks[i]? = some k ∧ v = .int k t := by
  have lt : i < ks.length := hz ▸ (Array.getElem?_eq_some_iff.mp hv).1
  obtain ⟨t, et⟩ := PyProof.Rows.IntsAre.int_at ik i v (by simpa using hv)
  refine ⟨ks[i], t, List.getElem?_eq_getElem lt, et.trans ?_⟩
  simp [List.getD_eq_getElem?_getD, List.getElem?_eq_getElem lt]
/-- the walk of the list that fills the set -/
theorem fill_of {b S : Addr} {zs : Array Value} {ks : List Int} {g : Heap} {R : Result → Shared → Prop} (hA : A.in1.handled = none) (hz : zs.size = ks.length) (ik : IntsAre zs.toList ks) (few : ks.length + 1 < scanBound)
    (hg : ({ s with heap := g } : Shared).heap.get? S = some (noneYet w)) (il : g.IsList b zs) (nb : b ≠ S) 
    (q : ∀ (g' : Heap) (tk c : Nat), SetR w g' S (fun j => decide (j ∈ ks)) c → c ≤ ks.length → (∀ d o, d ≠ S → g.get? d = some o → g'.get? d = some o) → R (.ok (.ret .none)) { s with heap := g', toks := tk }) :
    codeAny (model P w) A (.builtin "set.update.loop" ⟨[.ref S, .ref g.objs.size], []⟩) R { s with heap := g.push { cls := .type "list_iterator", data := .fields #[.ref b, .int 0 0] } } := by
  obtain ⟨lo, hlo, _⟩ := id il
  have sb : b < g.objs.size := Heap.lt_size hlo
  have sS : S < g.objs.size := Heap.lt_size hg
  have W := Walks.list (prog := P) (w := w) hA g.objs.size b (Nat.ne_of_lt sb) zs
  refine set_update_ints W.toS S (by simp only [List.mem_cons, List.not_mem_nil, or_false, not_or]; exact ⟨Nat.ne_of_lt sS, fun z => nb z.symm⟩) ks hz few (item_int ik hz) (zs.size - 0) 0 _ (by omega) (Nat.zero_le _)
    ⟨⟨_, Heap.get?_push_size _ rfl, rfl, rfl⟩, il.push _⟩ ⟨0, Nat.le_refl 0, setR_new_at (Heap.get?_push_of_some _ hg)⟩ ?_
  intro s2 c m hc R2
  have e : s2 = { s with heap := s2.heap, toks := s2.toks } := by
    obtain ⟨a1, a2, a3, a4, a5⟩ := s2
    have e2 : a2 = s.gens := m.gens
    have e3 : a3 = s.drawn := m.drawn
    have e5 : a5 = s.os := m.os
    subst e2 e3 e5
    rfl
  rw [e]
  refine q _ _ c R2 (by omega) fun d o hd ho => ?_
  have dl := Heap.lt_size ho
  refine m.heap d o (fun z => ?_) (Heap.get?_push_of_some _ ho)
  simp only [List.mem_cons, List.not_mem_nil, or_false] at z
  rcases z with z | z
  · exact hd z
  · exact Nat.ne_of_lt dl z
theorem set_of_list {b : Addr} {zs : Array Value} (ks : List Int) {Q : Value → Shared → Prop} (hA : A.handled = none) (il : s.heap.IsList b zs) (ik : IntsAre zs.toList ks) (few : ks.length + 1 < scanBound)
    (q : ∀ (g : Heap) (tk c : Nat), SetR w g s.heap.objs.size (fun j => decide (j ∈ ks)) c → c ≤ ks.length → (∀ d o, s.heap.get? d = some o → g.get? d = some o) → Q (.ref s.heap.objs.size) { s with heap := g, toks := tk }) :
    wpAny (model P w) A (call (.type "set") [.ref b]) Q E s := by
  have hz : zs.size = ks.length := by simpa using IntsAre.length ik
  obtain ⟨m1, m2, mro⟩ := F.called_set.mro
  have made := F.called_set.made
  have below := F.called_set.sub
  refine wpAny_call (codeAny_of_tree ?_)
  show wpAny _ _ (callAny (Value.type "set") ⟨[Value.ref b], []⟩) _ _ s
  refine wpAny_pure ⟨Code.quiet_builtin _ (by decide +kernel), codeAny_builtin F.entry_type_call ?_⟩
  rw [Around.under_plain (weight_type_call_type "set" [Value.ref b] []) rfl]
  have k1 := F.called_set.notType
  have k2 := F.called_set.canCreate
  have k3 := F.typeCall_set_1 (Value.ref b)
  repeat (any_goals (first | assumption | wp_step))
  refine codeAny_mono (code_set_led1 (Value.ref b) (Q₁ := fun x t => x = .ref s.heap.objs.size ∧ t = { s with heap := s.heap.push (noneYet w) }) (E := E) ⟨rfl, rfl⟩) fun r1 s1 h1 => ?_
  match r1, h1 with
  | .error _, h1 => exact h1
  | .ok (.ret x), h1 =>
    obtain ⟨ex, es⟩ := h1
    subst ex es
    have at0 : (s.heap.push (noneYet w)).get? s.heap.objs.size = some (noneYet w) := Heap.get?_push_size _ rfl
    have ty0 : Shared.TypeIs { s with heap := s.heap.push (noneYet w) } (.ref s.heap.objs.size) "set" := ⟨_, at0, rfl⟩
    have look := F.called_set.init.lookup
    have bnd := F.called_set.init.bind (Value.ref s.heap.objs.size)
    repeat (any_goals (first | assumption | wp_step))
    refine codeAny_mono (codeAny_call_builtin (R := wants (fun x t => x = .none ∧ ∃ g tk c, t = { s with heap := g, toks := tk } ∧ SetR w g s.heap.objs.size (fun j => decide (j ∈ ks)) c ∧ c ≤ ks.length ∧ ∀ d o, s.heap.get? d = some o → g.get? d = some o) E) F.called_set.init.plain F.entry_set_init (check_set_init_1 ty0 ?_)) fun r2 s2 h2 => ?_
    · obtain ⟨lo, hlo, c1, n1, c2⟩ := il
      obtain ⟨o1, o2, o3, o4⟩ := lo
      simp only at c1 c2
      subst c1 c2
      have bl : b < s.heap.objs.size := Heap.lt_size hlo
      have hl2 : (s.heap.push (noneYet w)).get? b = some { cls := .type "list", dict := o2, data := .seq zs n1, slots := o4 } := Heap.get?_push_of_some _ hlo
      have n2 := F.sub_list_set
      have n3 := F.sub_list_frozenset
      have n4 : (Value.type "list" == Value.type "dict") = false := by decide
      have il2 : (s.heap.push (noneYet w)).IsList b zs := ⟨_, hl2, rfl, n1, rfl⟩
      unfold Builtin.«set.__init__» noKeywords Builtin.Frozenset.updateFrom
      generalize hPI : pyIter = PI
      wp_walk
      subst hPI
      refine wpAny_pyIter_list il2 (wpAny_bind (wpAny_runValue ?_))
      refine fill_of (s := s) (g := s.heap.push (noneYet w)) (by simp [hA]) hz ik few at0 il2 (Nat.ne_of_lt bl) fun g tk c R2 hc kp => ?_
      show wpAny _ _ _ _ _ _
      refine wpAny_pure ?_
      show wpAny _ _ (ret Value.none) _ _ _
      exact wpAny_pure ⟨rfl, g, tk, c, rfl, R2, hc, fun d o e => kp d o (Nat.ne_of_lt (Heap.lt_size e)) (Heap.get?_push_of_some _ e)⟩
    · match r2, h2 with
      | .error _, h2 => exact h2
      | .ok (.ret x), h2 =>
        obtain ⟨ex, g, tk, c, es, R2, hc, kp⟩ := h2
        subst ex es
        repeat (any_goals (first | assumption | wp_step))
        exact q g tk c R2 hc kp
      | .ok .next, h2 => exact h2.elim
      | .ok .brk, h2 => exact h2.elim
      | .ok .cont, h2 => exact h2.elim
end
end Ev
end

section
set_option Elab.async false
set_option linter.all false
set_option maxRecDepth 100000
set_option maxHeartbeats 4000000
namespace Ev
open PySem PySem.Spec PyProof.Rows L2
/-! ## sorted(set(xs)) -/
section
variable {α : Type} {f : α → Int}
theorem insK_key (x : α) : ∀ (l : List α) (k : Int), k ∈ (insK f x l).map f ↔ k = f x ∨ k ∈ l.map f
  | [], k => by simp [insK]
  | y :: r, k => by
    unfold insK
    split
    · simp
    · split
      · rename_i h
        simp only [List.map_cons, List.mem_cons]
        rw [h]
        constructor
        · exact .inr
        · rintro (h | h)
          · exact .inl h
          · exact h
      · simp only [List.map_cons, List.mem_cons, insK_key x r k]
        constructor
        · rintro (h | h | h)
          · exact .inr (.inl h)
          · exact .inl h
          · exact .inr (.inr h)
        · rintro (h | h | h)
          · exact .inr (.inl h)
          · exact .inl h
          · exact .inr (.inr h)
theorem insK_up (x : α) : ∀ (l : List α), (l.map f).Pairwise (· < ·) → ((insK f x l).map f).Pairwise (· < ·)
  | [], _ => by simp [insK]
  | y :: r, h => by
    obtain ⟨h1, h2⟩ := List.pairwise_cons.mp (show (f y :: r.map f).Pairwise (· < ·) from h)
    unfold insK
    split
    · rename_i c
      refine List.pairwise_cons.mpr ⟨fun k hk => ?_, h⟩
      rcases List.mem_cons.mp (show k ∈ f y :: r.map f from hk) with z | z
      · rw [z]; exact c
      · have := h1 k z; omega
    · split
      · exact h
      · refine List.pairwise_cons.mpr ⟨fun k hk => ?_, insK_up x r h2⟩
        rcases (insK_key x r k).mp hk with z | z
        · omega
        · exact h1 k z
theorem insK_sub (x : α) : ∀ (l : List α) (y : α), y ∈ insK f x l → y = x ∨ y ∈ l
  | [], y, h => by simpa [insK] using h
  | z :: r, y, h => by
    unfold insK at h
    split at h
    · simpa using h
    · split at h
      · exact .inr h
      · rcases List.mem_cons.mp h with h | h
        · exact .inr (by rw [h]; exact List.mem_cons_self)
        · rcases insK_sub x r y h with h | h
          · exact .inl h
          · exact .inr (List.mem_cons_of_mem _ h)
theorem sortK_key : ∀ (l : List α) (k : Int), k ∈ (sortK f l).map f ↔ k ∈ l.map f
  | [], k => by simp [sortK]
  | x :: r, k => by
    unfold sortK
    rw [insK_key, sortK_key r k]
    simp [eq_comm]
theorem sortK_up : ∀ (l : List α), ((sortK f l).map f).Pairwise (· < ·)
  | [] => List.Pairwise.nil
  | x :: r => insK_up x _ (sortK_up r)
theorem sortK_sub : ∀ (l : List α) (y : α), y ∈ sortK f l → y ∈ l
  | [], y, h => by simp [sortK] at h
  | x :: r, y, h => by
    rcases insK_sub x _ y h with h | h
    · rw [h]; exact List.mem_cons_self
    · exact List.mem_cons_of_mem _ (sortK_sub r y h)
theorem up_one : ∀ (l m : List Int), l.Pairwise (· < ·) → m.Pairwise (· < ·) → (∀ k, k ∈ l ↔ k ∈ m) → l = m
  | [], [], _, _, _ => rfl
  | [], y :: m, _, _, h => absurd ((h y).mpr List.mem_cons_self) (by simp)
  | x :: l, [], _, _, h => absurd ((h x).mp List.mem_cons_self) (by simp)
  | x :: l, y :: m, hl, hm, h => by
    obtain ⟨a1, a2⟩ := List.pairwise_cons.mp hl
    obtain ⟨b1, b2⟩ := List.pairwise_cons.mp hm
    have e : x = y := by
      rcases List.mem_cons.mp ((h x).mp List.mem_cons_self) with z | z
      · exact z
      · rcases List.mem_cons.mp ((h y).mpr List.mem_cons_self) with w | w
        · exact w.symm
        · have := b1 x z; have := a1 y w; omega
    subst e
    congr 1
    refine up_one l m a2 b2 fun k => ?_
    constructor
    · intro hk
      rcases List.mem_cons.mp ((h k).mp (List.mem_cons_of_mem _ hk)) with z | z
      · have := a1 k hk; omega
      · exact z
    · intro hk
      rcases List.mem_cons.mp ((h k).mpr (List.mem_cons_of_mem _ hk)) with z | z
      · have := b1 k hk; omega
      · exact z
theorem map_one {p : α → Prop} (inj : ∀ x y, p x → p y → f x = f y → x = y) : ∀ (l m : List α), (∀ x ∈ l, p x) → (∀ x ∈ m, p x) → l.map f = m.map f → l = m
  | [], [], _, _, _ => rfl
  | [], _ :: _, _, _, h => by simp at h
  | _ :: _, [], _, _, h => by simp at h
  | x :: l, y :: m, hl, hm, h => by
    simp only [List.map_cons, List.cons.injEq] at h
    rw [inj x y (hl x List.mem_cons_self) (hm y List.mem_cons_self) h.1, map_one inj l m (fun z hz => hl z (List.mem_cons_of_mem _ hz)) (fun z hz => hm z (List.mem_cons_of_mem _ hz)) h.2]
theorem code_one {B : Int} : ∀ (n m : List Int), n.length = m.length → TS.Bd B n → TS.Bd B m → TS.code B n = TS.code B m → n = m
  | [], [], _, _, _, _ => rfl
  | [], _ :: _, h, _, _, _ => by simp at h
  | _ :: _, [], h, _, _, _ => by simp at h
  | x :: n, y :: m, h, hn, hm, e => by
    have hl : n.length = m.length := by simpa using h
    have exy : x = y := by
      rcases Int.lt_trichotomy x y with c | c | c
      · have := TS.code_lt hl hn.tail hm.tail c; omega
      · exact c
      · have := TS.code_lt hl.symm hm.tail hn.tail c; omega
    subst exy
    congr 1
    refine code_one n m hl hn.tail hm.tail ?_
    have a := TS.code_same (B := B) (d := x) hl
    have b := TS.code_same (B := B) (d := x) hl.symm
    rcases Int.lt_trichotomy (TS.code B n) (TS.code B m) with c | c | c
    · have := a.mpr c; omega
    · exact c
    · have := b.mpr c; omega
end
section
variable {X : Cx} {px : Addr → Nat → Addr → Prop} {cl : Nat → Addr} {W : WX} {F F' F1 F2 : As} {e e' e1 e2 : En} {σ : L2.St} {H H1 H2 : Hp}
theorem More.trans {F3 : As} {H3 : Hp} (a : More F H F1 H1) (b : More F1 H1 F3 H3) : More F H F3 H3 where
  keep := fun x o h => b.keep x o (a.keep x o h)
  grow := fun x h => b.grow x (a.grow x h)
  new := fun x h => by
    rcases b.new x h with h | h
    · exact a.new x h
    · refine .inr ?_
      cases q : H x with
      | none => rfl
      | some o => rw [a.keep x o q] at h; cases h
  dom := b.dom
/-- set(xs), xs a list of ints -/
theorem cr_setI (hc : X.calm = true) : CallR X (.type "set") (fun vs H Q => ∃ (a : Addr) (ns : List Int), vs = [V.ref a] ∧ SqL X.K H a (ns.map V.int) ∧ ns.length < 64 ∧ ∀ p c, H p = none → c ≤ ns.length → Q (.ref p) (upd H p (SetO X.w p (fun j => decide (j ∈ ns)) c))) := by
  intro pins s σ H vs us Q I r h
  obtain ⟨a, ns, rfl, hs, h64, q⟩ := h
  obtain ⟨its, rv, pl, hz⟩ := I.list hs
  rw [Vals.ref1 r]
  have hi : IntsAre its.toArray.toList ns := by simpa using rv.ints
  refine set_of_list ns (I.ok.hd hc) pl.isList hi (by unfold scanBound; omega) fun g tk c R hcl k => ?_
  exact ⟨.ref _, upd H s.heap.objs.size (SetO X.w s.heap.objs.size (fun j => decide (j ∈ ns)) c), I.laid (t' := tk) k (Nat.le_refl _) (setO_new R), rfl, q _ c (I.hok.fresh (Nat.le_refl _)) hcl⟩
theorem rows_ok {K : Kx} : ∀ {xs : List PyData} {rs : List (List Int)} {vs : List V}, rows? xs = some rs → RepL K F H vs xs → ∃ ks : List (Addr × List Int), vs = ks.map (fun p => V.ref p.1) ∧ rs = ks.map (·.2) ∧ xs = rs.map rowD ∧ ∀ p ∈ ks, SqT K.fr H p.1 (p.2.map V.int) ∧ Rep K F H (.ref p.1) (rowD p.2)
  | [], rs, _, h, .nil => by cases h; exact ⟨[], rfl, rfl, rfl, fun p hp => by simp at hp⟩
  | x :: xs, rs, _, h, .cons a b => by
    cases x <;> simp only [rows?, reduceCtorEq] at h
    rename_i ys
    split at h
    · rename_i n q h1 h2
      cases h
      obtain ⟨ks, e1, e2, e3, e4⟩ := rows_ok h2 b
      have ey := ints_map h1
      subst ey
      obtain ⟨t, ws, et, hs, rl⟩ := (Pk.rep a).tuple
      subst et
      rw [rl.ints] at hs
      refine ⟨(t, n) :: ks, by rw [e1]; rfl, by rw [e2]; rfl, by rw [e3]; rfl, fun p hp => ?_⟩
      rcases List.mem_cons.mp hp with z | z
      · rw [z]; exact ⟨hs, a⟩
      · exact e4 p z
    · cases h
theorem RepL.ofRows {K : Kx} : ∀ {L : List (Addr × List Int)}, (∀ p ∈ L, Rep K F H (.ref p.1) (rowD p.2)) → RepL K F H (L.map fun p => V.ref p.1) (L.map fun p => rowD p.2)
  | [], _ => .nil
  | p :: L, h => .cons (h p List.mem_cons_self) (RepL.ofRows fun q hq => h q (List.mem_cons_of_mem _ hq))
theorem RepL.ofInts {K : Kx} : ∀ (ns : List Int), RepL K F H (ns.map V.int) (ns.map .int)
  | [] => .nil
  | n :: ns => .cons (.int n) (RepL.ofInts ns)
def rSet2 (K : Kx) : List V → Hp → VK → Prop := fun vs H Q => (∃ (a : Addr) (ns : List Int), vs = [V.ref a] ∧ SqL K.fr H a (ns.map V.int) ∧ ns.length < 64 ∧ ∀ p c, H p = none → c ≤ ns.length → Q (.ref p) (upd H p (SetO K.w p (fun j => decide (j ∈ ns)) c)))
theorem rowOk_ok {d : Nat} {r : List Int} (h : rowOk d r = true) : r.length = d ∧ TS.Bd 1048576 r := by
  unfold rowOk at h
  simp only [Bool.and_eq_true, List.all_eq_true, decide_eq_true_eq, Nat.beq_eq] at h
  exact ⟨h.1, fun m hm => h.2 m hm⟩
theorem cr_or {v : Value} {r r' : List V → Hp → VK → Prop} (a : CallR X v r) (b : CallR X v r') : CallR X v (fun vs H Q => r vs H Q ∨ r' vs H Q) := by
  intro pins s σ H vs us Q I rv h
  rcases h with h | h
  · exact a pins s σ H vs us Q I rv h
  · exact b pins s σ H vs us Q I rv h
/-! len(set(xs)), distinct ints -/
theorem cr_lenS : CallR X (.builtin "len") (fun vs H Q => ∃ (a : Addr) (ns : List Int) (c : Nat), vs = [V.ref a] ∧ H a = some (SetO X.w a (fun j => decide (j ∈ ns)) c) ∧ ns.Nodup ∧ ns.length < 64 ∧ Q (.int ns.length) H) := by
  intro pins s σ H vs us Q I r h
  obtain ⟨a, ns, c, rfl, ha, nd, h64, q⟩ := h
  have R := setO_get I ha
  rw [Vals.ref1 r]
  obtain ⟨o, es, ep, t, ho, hex, hd, g, nd2, hm, hb, hf, hn, hr, hl⟩ := R
  have pm : (es.toList.map keyOf).Perm ns := (List.perm_ext_iff_of_nodup nd2 nd).mpr fun k => by
    rw [← decide_eq_true_iff (p := k ∈ ns)]
    exact (hm k).symm
  have hs : es.size = ns.length := by
    have := pm.length_eq
    rw [List.length_map, Array.length_toList] at this
    exact this
  exact call_len_set ho hex hd hf (by rw [hs]; omega) ⟨.int ns.length, H, I.tok _, ⟨_, by rw [hs]⟩, q⟩
theorem nodupI_ok : ∀ {ns : List Int}, nodupI ns = true → ns.Nodup
  | [], _ => List.nodup_nil
  | n :: r, h => by
    simp only [nodupI, Bool.and_eq_true, Bool.not_eq_true'] at h
    refine List.nodup_cons.mpr ⟨fun hm => ?_, nodupI_ok h.2⟩
    have : (r.any fun m => decide (m = n)) = true := List.any_eq_true.mpr ⟨n, hm, by simp⟩
    rw [h.1] at this
    cases this
theorem s_lenSet {a : Expr} {fa : En → R} {p1 p2 p3 p4 : Pos} (hc : X.calm = true) (hg : Gl X "len") (hm : X.mg "len" = none) (hg2 : Gl X "set") (hm2 : X.mg "set" = none) (na : starEach [a] X.env = (false, eval a X.env) :: starEach [] X.env) (ha : PA X [a] (tA (Kx.mk X.K px X.w) cl W fa)) :
    PE X (.Call (.Name "len" p1) [.Call (.Name "set" p2) [a] [] p3] [] p4) (tE (Kx.mk X.K px X.w) cl W (dBlt 20 fa)) := by
  refine peI (pe_callB cr_lenS hg hm PySem.boot_len (pa_cons (pe_callTy (cr_setI hc) hg2 hm2 PyProof.Rows.boot_set ha (by decide) (by decide) na rfl) pa_nil rfl) (by decide) (by decide) rfl rfl) fun σ H Q ⟨F, e, r, p⟩ => ?_
  refine ⟨F, e, r, PO'.bds (.refl r) p fun us e1 F1 H1 zs a1 f1 v1 p1 => ?_⟩
  split at p1
  · rename_i xs0 q
    unfold oR at p1
    split at p1
    · rename_i u qb
      obtain ⟨xs, rfl, ns, qn, c, hu⟩ : ∃ xs, xs0 = [.list xs] ∧ ∃ ns, ints? xs = some ns ∧ (Nat.ble ns.length 60 && nodupI ns) = true ∧ u = .d (.int ns.length) := by
        match xs0, qb with
        | [.list xs], qb =>
          simp only [bltF] at qb
          split at qb
          · rename_i ns qn
            split at qb
            · rename_i c
              cases qb
              exact ⟨xs, rfl, ns, qn, c, rfl⟩
            · cases qb
          · cases qb
        | [], qb => simp [bltF] at qb
        | [.int _], qb => simp [bltF] at qb
        | [.none], qb => simp [bltF] at qb
        | [.bool _], qb => simp [bltF] at qb
        | [.str _], qb => simp [bltF] at qb
        | [.tuple _], qb => simp [bltF] at qb
        | [.dict _], qb => simp [bltF] at qb
        | _ :: _ :: _, qb => simp [bltF] at qb
      subst hu
      rw [Bool.and_eq_true] at c
      have c60 := Nat.le_of_ble_eq_true c.1
      obtain ⟨v, rfl, pv⟩ := (ress_ok a1.r v1 q).one
      obtain ⟨b, ws, rfl, hs, rl⟩ := pv.list
      rw [ints_map qn] at rl
      rw [rl.ints] at hs
      refine ⟨b, ns, rfl, hs.sqL, by omega, fun t k ht hcl => ?_⟩
      refine ⟨t, ns, k, rfl, upd_same, nodupI_ok c.2, by omega, ?_⟩
      have m1 := More.one (F := F1) (H := H1) (p := t) (o := SetO X.w t (fun j => decide (j ∈ ns)) k) a1.r.dom ht
      exact PO'.out a1 p1 (fun i z => by cases z) F1 _ _ m1 (.int _)
    · exact p1.elim
  · exact p1.elim
/-! xs.index(v), ints -/
theorem idxI_ok {j : Int} : ∀ {ns : List Int} {k : Nat}, idxI j ns = some k → ns[k]? = some j ∧ ∀ m, m < k → ∀ n, ns[m]? = some n → n ≠ j
  | [], k, e => by simp [idxI] at e
  | n :: r, k, e => by
    unfold idxI at e
    split at e
    · rename_i h
      cases e
      exact ⟨by simp [h], fun m hm => by omega⟩
    · rename_i h
      obtain ⟨k', e1, rfl⟩ := Option.map_eq_some_iff.mp e
      obtain ⟨h1, h2⟩ := idxI_ok e1
      refine ⟨by simpa using h1, fun m hm n' hn => ?_⟩
      cases m with
      | zero => simp at hn; rw [← hn]; exact h
      | succ m => exact h2 m (by omega) n' (by simpa using hn)
theorem s_rem {i : Nat} {x : Str} {a : Expr} {fa : En → R} {xp apos pos : Pos} (hN : X.N[i]? = some x) (hv : Vis X.env.scope x) (hd : (x == ("__debug__" : Str)) = false) (hcd : (x == ("__classdict__" : Str)) = false)
    (hbase : attributeBase (.Name x xp) "remove" X.env (eval (.Name x xp) X.env) = eval (.Name x xp) X.env)
    (hfew : ((backTo pos (starEach [a] X.env)).all (fun x => !x.1) && (backToKw pos (keywordEach [] X.env)).all (fun x => x.1.isSome) && decide (([a] : List Expr).length + ([] : List Keyword).length + (if ([] : List Keyword).isEmpty then 0 else 1) < 30)) = true)
    (hline : (apos.endLine == pos.line) = true) (hs : starEach [a] X.env = (false, eval a X.env) :: starEach [] X.env) (hplain : (backTo pos (starEach [] X.env)).any (·.1) = false) (hn : notStar a = true)
    (ha : PE X a (tE (Kx.mk X.K px X.w) cl W fa)) : PE X (.Call (.Attribute (.Name x xp) "remove" apos) [a] [] pos) (tE (Kx.mk X.K px X.w) cl W (dMut 3 i fa)) := by
  refine peI (pe_bm (r := rRemI) F.plainAttrs_list F.slot_list_remove F.type_list_remove mt_remove (pe_var hN hv hd hcd) (pa_cons ha pa_nil (starEach_cons hn)) hbase hfew hline hs hplain) fun σ H Q ⟨F, e, r, p⟩ => ?_
  unfold dMut at p
  split at p
  · rename_i c; simp at c
  · split at p
    · rename_i c
      simp only [Bool.and_eq_true] at c
      obtain ⟨b, h1, ty⟩ := ownL_ok r c.2
      refine ⟨.ref b, h1, ty, F, e, r, PO'.bd (.refl r) p fun u e1 F1 H1 z a1 f1 v1 n1 p1 => ?_⟩
      split at p1
      · rename_i j q1
        unfold remL at p1
        split at p1
        · rename_i l xs g
          split at p1
          · rename_i ns qn
            split at p1
            · rename_i k qk
              obtain ⟨b', ws, z1, z2, z3, z4⟩ := a1.r.lst g
              have e5 := h1.symm.trans z1
              cases e5
              rw [ints_map qn] at z4 g
              have ew := z4.ints
              subst ew
              obtain ⟨r', f'⟩ := a1.r.write g z1 (RepL.ofInts (ns.eraseIdx k))
              have hz := (res_ok a1.r v1 q1).int
              subst hz
              obtain ⟨i1, i2⟩ := idxI_ok qk
              exact ⟨b, ns, j, k, rfl, rfl, z3, i1, fun m hm e => i2 m hm j e rfl, p1 F1 _ .non r' (a1.f.trans a1.r0 f') .non trivial⟩
            · exact p1.elim
          · exact p1.elim
        · exact p1.elim
      · exact p1.elim
    · exact p.elim
theorem s_idx {o a : Expr} {fa fb : En → R} {apos pos : Pos} (hbase : attributeBase o "index" X.env (eval o X.env) = eval o X.env)
    (hfew : ((backTo pos (starEach [a] X.env)).all (fun x => !x.1) && (backToKw pos (keywordEach [] X.env)).all (fun x => x.1.isSome) && decide (([a] : List Expr).length + ([] : List Keyword).length + (if ([] : List Keyword).isEmpty then 0 else 1) < 30)) = true)
    (hline : (apos.endLine == pos.line) = true) (hs : starEach [a] X.env = (false, eval a X.env) :: starEach [] X.env) (hplain : (backTo pos (starEach [] X.env)).any (·.1) = false) (hn : notStar a = true)
    (ho : PE X o (tE (Kx.mk X.K px X.w) cl W fa)) (ha : PE X a (tE (Kx.mk X.K px X.w) cl W fb)) : PE X (.Call (.Attribute o "index" apos) [a] [] pos) (tE (Kx.mk X.K px X.w) cl W (dMtL 1 fa fb)) := by
  refine peI (pe_bm (r := rIndex X.K) F.plainAttrs_list F.slot_list_index F.type_list_index mt_index ho (pa_cons ha pa_nil (starEach_cons hn)) hbase hfew hline hs hplain) fun σ H Q ⟨F, e, r, p⟩ => ?_
  refine ⟨F, e, r, PO'.bd (.refl r) p fun u e1 F1 H1 z a1 f1 v1 n1 p1 => ?_⟩
  split at p1
  · rename_i xs0 q0
    obtain ⟨b, ws0, rfl, hs0, _⟩ := (res_ok a1.r v1 q0).list
    refine ⟨.inl ⟨rfl, ws0, hs0.sqL⟩, F1, e1, a1.r, PO'.bd a1 p1 fun w e2 F2 H2 y a2 f2 v2 n2 p2 => ?_⟩
    split at p2
    · rename_i xs x q1 q2
      unfold oR at p2
      split at p2
      · rename_i u' qb
        cases x <;> simp only [mtlF, reduceCtorEq] at qb
        rename_i j
        split at qb
        · rename_i ns qn
          split at qb
          · rename_i k qk
            cases qb
            obtain ⟨h1, h2⟩ := idxI_ok qk
            obtain ⟨b', ws, eb, hs2, rl⟩ := (res_ok a2.r (VR.keep a1.r f2 v1) q1).list
            cases eb
            rw [ints_map qn] at rl
            rw [rl.ints] at hs2
            have hy := (res_ok a2.r v2 q2).int
            subst hy
            refine ⟨b, ns.map V.int, V.int j, k, V.int j, rfl, rfl, hs2.sqL, rfl, ?_, by rw [List.getElem?_map, h1]; rfl, ?_, fun m z' hm hz => ?_, PO'.okd a2 p2 (.int _)⟩
            · rw [List.all_eq_true]
              intro z hz
              obtain ⟨i, _, rfl⟩ := List.mem_map.mp hz
              rfl
            · simp [eqV]
            · rw [List.getElem?_map] at hz
              obtain ⟨n, h3, rfl⟩ := Option.map_eq_some_iff.mp hz
              simp [eqV, h2 m hm n h3]
          · cases qb
        · cases qb
      · exact p2.elim
    · exact p2.elim
  · exact p1.elim
theorem s_sortSet {a : Expr} {fa : En → R} {p1 p2 p3 p4 : Pos} (hc : X.calm = true) (hu : X.A.units + 100 < cLine) (hg : Gl X "sorted") (hm : X.mg "sorted" = none) (hg2 : Gl X "set") (hm2 : X.mg "set" = none) (na : starEach [a] X.env = (false, eval a X.env) :: starEach [] X.env) (ha : PA X [a] (tA (Kx.mk X.K px X.w) cl W fa)) :
    PE X (.Call (.Name "sorted" p1) [.Call (.Name "set" p2) [a] [] p3] [] p4) (tE (Kx.mk X.K px X.w) cl W (dBlt 19 fa)) := by
  refine peI (pe_callB (cr_or (cr_sortedSet hc) (cr_sortedT hc)) hg hm PyProof.Rows.boot_sorted (pa_cons (pe_callTy (cr_or (cr_setI hc) (cr_setOfT hc (by omega))) hg2 hm2 PyProof.Rows.boot_set ha (by decide) (by decide) na rfl) pa_nil rfl) (by decide) (by decide) rfl rfl) fun σ H Q ⟨F, e, r, p⟩ => ?_
  refine ⟨F, e, r, PO'.bds (.refl r) p fun us e1 F1 H1 zs a1 f1 v1 p1 => ?_⟩
  split at p1
  · rename_i xs0 q
    unfold oR at p1
    split at p1
    · rename_i u qb
      obtain ⟨xs, rfl, qs⟩ : ∃ xs, xs0 = [.list xs] ∧ ∃ ys, setU xs = some ys ∧ u = .o (.list ys) := by
        match xs0, qb with
        | [.list xs], qb =>
          simp only [bltF, Option.map_eq_some_iff] at qb
          obtain ⟨ys, h1, h2⟩ := qb
          exact ⟨xs, rfl, ys, h1, h2.symm⟩
        | [], qb => simp [bltF] at qb
        | [.int _], qb => simp [bltF] at qb
        | [.none], qb => simp [bltF] at qb
        | [.bool _], qb => simp [bltF] at qb
        | [.str _], qb => simp [bltF] at qb
        | [.tuple _], qb => simp [bltF] at qb
        | [.dict _], qb => simp [bltF] at qb
        | _ :: _ :: _, qb => simp [bltF] at qb
      obtain ⟨ys, qs, rfl⟩ := qs
      have out := PO'.out a1 p1 (fun i z => by cases z)
      obtain ⟨v, rfl, pv⟩ := (ress_ok a1.r v1 q).one
      obtain ⟨b, ws, rfl, hs, rl⟩ := pv.list
      unfold setU at qs
      split at qs
      case isFalse => cases qs
      rename_i c60
      have c60 := Nat.le_of_ble_eq_true c60
      split at qs
      · rename_i ns qn
        cases qs
        have hl : ns.length = xs.length := by rw [ints_map qn, List.length_map]
        rw [ints_map qn] at rl
        rw [rl.ints] at hs
        refine .inl ⟨b, ns, rfl, hs.sqL, by omega, fun t c ht hcl => ?_⟩
        refine .inl ⟨t, _, c, rfl, upd_same, by omega, fun ms p' h1 h2 h3 hp' => ?_⟩
        have m1 := More.one (F := F1) (H := H1) (p := t) (o := SetO X.w t (fun j => decide (j ∈ ns)) c) a1.r.dom ht
        have em : ms = sortK id ns := by
          refine up_one _ _ h1 (by simpa using sortK_up (f := id) ns) fun k => ?_
          rw [h2 k, decide_eq_true_eq]
          simpa using (sortK_key (f := id) ns k).symm
        subst em
        have hp1 : H1 p' = none := by
          unfold upd at hp'
          split at hp'
          · cases hp'
          · exact hp'
        refine out _ _ (m1.trans (More.one m1.dom hp')) hp1 (.lst upd_same (RepL.ofInts _))
      · rename_i qn
        split at qs
        · rename_i r0 rs qr
          split at qs
          · rename_i cc
            cases qs
            simp only [Bool.and_eq_true] at cc
            obtain ⟨ks, e1, e2, e3, e4⟩ := rows_ok qr rl
            have hl : ks.length = xs.length := by rw [e3, e2]; simp
            rw [e1] at hs
            have ok : ∀ p ∈ ks, p.2.length = r0.length ∧ TS.Bd 1048576 p.2 := fun p hp => by
              refine rowOk_ok (List.all_eq_true.mp cc.2 p.2 ?_)
              rw [e2]
              exact List.mem_map.mpr ⟨p, hp, rfl⟩
            refine .inr ⟨b, ks, rfl, hs.sqL, fun p hp => (e4 p hp).1, by omega, fun t L ht hL1 hL2 => ?_⟩
            have m1 := More.one (F := F1) (H := H1) (p := t) (o := SetTO X.prog X.w t L) a1.r.dom ht
            refine .inr ⟨t, L, r0.length, 1048576, rfl, upd_same, fun p hp => ?_, Nat.le_of_ble_eq_true cc.1, fun p hp => ok p (hL1 p hp), fun L' p' pm nd h64 pw hp' => ?_⟩
            · exact (e4 p (hL1 p hp)).1.imp (Rd.keep fun o q => m1.keep _ _ q) id
            · have hp1 : H1 p' = none := by
                unfold upd at hp'
                split at hp'
                · cases hp'
                · exact hp'
              have sub : ∀ p ∈ L', p ∈ ks := fun p hp => hL1 p (pm.mem_iff.mp hp)
              have inj : ∀ x y : List Int, (∃ p ∈ ks, p.2 = x) → (∃ p ∈ ks, p.2 = y) → TS.code 1048576 x = TS.code 1048576 y → x = y := by
                rintro x y ⟨p, hp, rfl⟩ ⟨p2, hp2, rfl⟩ e
                exact code_one _ _ ((ok p hp).1.trans (ok p2 hp2).1.symm) (ok p hp).2 (ok p2 hp2).2 e
              have em : L'.map (·.2) = sortK (TS.code 1048576) (r0 :: rs) := by
                refine map_one (f := TS.code 1048576) (p := fun x => ∃ p ∈ ks, p.2 = x) inj _ _ (fun x hx => ?_) (fun x hx => ?_) (up_one _ _ ?_ (sortK_up _) fun k => ?_)
                · obtain ⟨p, hp, rfl⟩ := List.mem_map.mp hx
                  exact ⟨p, sub p hp, rfl⟩
                · have := sortK_sub _ _ hx
                  rw [e2] at this
                  obtain ⟨p, hp, rfl⟩ := List.mem_map.mp this
                  exact ⟨p, hp, rfl⟩
                · rw [List.map_map, List.pairwise_map]
                  have nd' := List.pairwise_map.mp nd
                  refine List.Pairwise.imp_of_mem (fun {x y} hx hy z => ?_) (pw.and nd')
                  have z1 : TS.code 1048576 x.2 ≤ TS.code 1048576 y.2 := z.1
                  have z2 : TS.code 1048576 x.2 ≠ TS.code 1048576 y.2 := fun w => z.2 (inj _ _ ⟨x, sub x hx, rfl⟩ ⟨y, sub y hy, rfl⟩ w)
                  show TS.code 1048576 x.2 < TS.code 1048576 y.2
                  omega
                · rw [sortK_key, e2, List.map_map, List.map_map]
                  constructor
                  · intro hk
                    obtain ⟨p, hp, rfl⟩ := List.mem_map.mp hk
                    exact List.mem_map.mpr ⟨p, sub p hp, rfl⟩
                  · intro hk
                    obtain ⟨p, hp, rfl⟩ := List.mem_map.mp hk
                    obtain ⟨p2, hp2, ep⟩ := List.mem_map.mp (hL2 p hp)
                    refine List.mem_map.mpr ⟨p2, pm.mem_iff.mpr hp2, ?_⟩
                    show TS.code 1048576 p2.2 = TS.code 1048576 p.2
                    rw [ep]
              rw [← em, List.map_map] at out
              refine out _ _ (m1.trans (More.one m1.dom hp')) hp1 (.lst upd_same (RepL.ofRows fun p hp => ?_))
              · refine ((e4 p (sub p hp)).2.mono (fun _ h => h) fun z o hz q => m1.keep z o q).mono (fun _ h => h) fun z o hz q => ?_
                rw [upd_ne (fun w => by rw [w, hp'] at q; cases q)]
                exact q
          · cases qs
        · cases qs
    · exact p1.elim
  · exact p1.elim
end
end Ev
end

section
set_option Elab.async false
set_option linter.all false
set_option maxRecDepth 100000
set_option maxHeartbeats 2000000
namespace Ev
open PySem PySem.Spec PyProof.Rows L2
/-! ## parallel stores, loops -/
section
variable {X : Cx} {px : Addr → Nat → Addr → Prop} {cl : Nat → Addr} {W : WX} {F F' F0 F1 F2 : As} {e e' e0 e1 e2 : En} {σ σ0 : L2.St} {H H0 H1 H2 : Hp}
theorem asgs_nms {D : Ends} : ∀ {ts : List Nat} {zs : List V} {xs : List PyData} {e e3 : En} {σ : L2.St}, Rel (Kx.mk X.K px X.w) F e σ H → RepL (Kx.mk X.K px X.w) F H zs xs → asgs (nms ts) xs e = some e3 →
    ∃ σ', Rel (Kx.mk X.K px X.w) F e3 σ' H ∧ Fr F e σ H F e3 σ' H ∧ zs.length = ts.length ∧ σ' = (ts.zip zs).foldl (fun σ q => σ.set q.1 (some q.2)) σ
  | [], _, _, e, e3, σ, r, .nil, h => by cases h; exact ⟨σ, r, .refl, rfl, rfl⟩
  | [], _, _, e, e3, σ, r, .cons _ _, h => by cases h
  | i :: ts, _, _, e, e3, σ, r, .nil, h => by cases h
  | i :: ts, z :: zs, x :: xs, e, e3, σ, r, .cons a b, h => by
    simp only [nms, asgs, asg] at h
    split at h
    · rename_i e1 q
      split at q
      · rename_i c
        cases q
        obtain ⟨r1, f1⟩ := r.putD c a
        obtain ⟨σ', r2, f2, l2, s2⟩ := asgs_nms (D := D) r1 b h
        exact ⟨σ', r2, f1.trans r f2, by simp [l2], by rw [s2]; rfl⟩
      · cases q
    · cases h
theorem par_ok {D : Ends} {ts : List Nat} {zs : List V} {us : List Vl} (a : At (Kx.mk X.K px X.w) F0 e0 σ H0 F e σ H) (v : VRs (Kx.mk X.K px X.w) F e σ H H0 zs us)
    (p : POS (Kx.mk X.K px X.w) cl W F0 e0 σ H0 D (match takes e us with | some (xs, e2) => (match asgs (nms ts) xs e2 with | some e3 => .nx e3 | none => .bad) | none => .bad)) : zs.length = ts.length ∧ D.nx ((ts.zip zs).foldl (fun σ q => σ.set q.1 (some q.2)) σ) H := by
  cases q : takes e us with
  | none => rw [q] at p; exact p.elim
  | some q' =>
    obtain ⟨xs, e2⟩ := q'
    rw [q] at p
    dsimp only at p
    obtain ⟨F2, r2, f2, rl, g2, l2⟩ := takes_ok a.r a.f v q
    cases q2 : asgs (nms ts) xs e2 with
    | none => rw [q2] at p; exact p.elim
    | some e3 =>
      rw [q2] at p
      obtain ⟨σ', r3, f3, l3, s3⟩ := asgs_nms (D := D) r2 rl q2
      refine ⟨l3, ?_⟩
      rw [← s3]
      exact p F2 σ' H r3 (f2.trans a.r0 f3)
theorem s_par2 {i j : Nat} {x y : Str} {a b : Expr} {fa : En → R} {qx py pt pos : Pos} {kt k2 pt2} (hc : X.calm = true) (hN : X.N.Nodup) (hi : X.N[i]? = some x) (hj : X.N[j]? = some y) (hij : i ≠ j)
    (hx : X.env.scope.names.lookup x = some .local) (hy : X.env.scope.names.lookup y = some .local)
    (hw : swappedStores [.Tuple [.Name x qx, .Name y py] kt pt] (.Tuple [a, b] k2 pt2) X.env = pure (some [x, y])) (hs : swapsWithSole [.Tuple [.Name x qx, .Name y py] kt pt] (.Tuple [a, b] k2 pt2) pos.line X.env = pure false)
    (ha : PA X [a, b] (tA (Kx.mk X.K px X.w) cl W fa)) : PS X (.Assign [.Tuple [.Name x qx, .Name y py] kt pt] (.Tuple [a, b] k2 pt2) pos) (tS (Kx.mk X.K px X.w) cl W (dPar [i, j] fa)) := by
  refine psI (ps_par hc hN hi hj hij hx hy ha hw hs) fun D σ H ⟨F, e, r, p⟩ => ⟨F, e, r, POS.bds (.refl r) p fun us e1 F1 H1 zs a1 f1 v1 p1 => ?_⟩
  obtain ⟨l, q⟩ := par_ok a1 v1 p1
  match zs, l, q with
  | [v, w], _, q => exact ⟨v, w, rfl, q⟩
theorem s_par3 {i j l : Nat} {x y z : Str} {a b c : Expr} {fa : En → R} {qx py pz pt pos : Pos} {kt k2 pt2} (hc : X.calm = true) (hN : X.N.Nodup) (hi : X.N[i]? = some x) (hj : X.N[j]? = some y) (hl : X.N[l]? = some z) (hij : i ≠ j) (hil : i ≠ l) (hjl : j ≠ l)
    (hx : X.env.scope.names.lookup x = some .local) (hy : X.env.scope.names.lookup y = some .local) (hz : X.env.scope.names.lookup z = some .local)
    (hw : swappedStores [.Tuple [.Name x qx, .Name y py, .Name z pz] kt pt] (.Tuple [a, b, c] k2 pt2) X.env = pure (some [x, y, z])) (hs : swapsWithSole [.Tuple [.Name x qx, .Name y py, .Name z pz] kt pt] (.Tuple [a, b, c] k2 pt2) pos.line X.env = pure false)
    (ha : PA X [a, b, c] (tA (Kx.mk X.K px X.w) cl W fa)) : PS X (.Assign [.Tuple [.Name x qx, .Name y py, .Name z pz] kt pt] (.Tuple [a, b, c] k2 pt2) pos) (tS (Kx.mk X.K px X.w) cl W (dPar [i, j, l] fa)) := by
  refine psI (ps_par3 hc hN hi hj hl hij hil hjl hx hy hz ha hw hs) fun D σ H ⟨F, e, r, p⟩ => ⟨F, e, r, POS.bds (.refl r) p fun us e1 F1 H1 zs a1 f1 v1 p1 => ?_⟩
  obtain ⟨l, q⟩ := par_ok a1 v1 p1
  match zs, l, q with
  | [u, v, w], _, q => exact ⟨u, v, w, rfl, q⟩
/-! for -/
theorem unlock_pos {D : Ends} {ls : List Nat} {x : R} (k : Lk e ls e2) (a : At (Kx.mk X.K px X.w) F0 e0 σ0 H0 F e σ H) (p : POS (Kx.mk X.K px X.w) cl W F0 e0 σ0 H0 D (x.mp (unlock ls))) : POS (Kx.mk X.K px X.w) cl W F e2 σ H D x := by
  cases x with
  | nx e' => exact fun F' σ' H' r' f' => p F' σ' H' (unlock_rel r') (a.f.trans a.r0 (unlock_fr k f'))
  | bk e' => exact fun F' σ' H' r' f' => p F' σ' H' r' ((a.f.trans a.r0 k.fr).trans a.r0 f')
  | ct e' => exact fun F' σ' H' r' f' => p F' σ' H' r' ((a.f.trans a.r0 k.fr).trans a.r0 f')
  | rt u e' =>
    intro F' σ' H' z r' f' v n
    refine p F' σ' H' z (unlock_rel r') (a.f.trans a.r0 (unlock_fr k f')) ?_ (n.old a.f.dom)
    cases u with
    | d x => exact v
    | o x =>
      obtain ⟨b, ev, nf, no, ro⟩ := v
      exact ⟨b, ev, nf, fun ⟨i, q⟩ => no ⟨i, unlock_ownAt q⟩, ro⟩
    | p i => exact ⟨v.1, by rw [unlock_length]; exact v.2⟩
  | ex c y e' => exact fun F' σ' H' dx r' f' v => p F' σ' H' dx (unlock_rel r') (a.f.trans a.r0 (unlock_fr k f')) v
  | _ => exact p.elim
theorem s_fr {t : Tg} {tg it : Expr} {body : List Stmt} {fa fb : En → R} {pos : Pos} (hp : PassesOwn (model X.prog X.w) X.A X.env X.xe) (hc : X.calm = true) (hs : ∀ x, foldedSetIterable it X.env x = pure x)
    (hi : PI X tg it (tI (Kx.mk X.K px X.w) cl W fa)) (hg : PG X tg (tG (Kx.mk X.K px X.w) t)) (hb : PSs X body (tS (Kx.mk X.K px X.w) cl W fb)) : PS X (.For tg it body [] pos) (tS (Kx.mk X.K px X.w) cl W (dFor t fa fb)) := by
  refine psI (ps_for hp hc hi hg hb hs) fun D σ H ⟨F, e, r, p⟩ => ⟨F, e, r, ?_⟩
  unfold dFor at p
  cases q : fa e with
  | ex c a e1 => rw [q] at p; exact fun F' H' dx r' f' v => p F' σ H' dx r' f' v
  | its xs ls e2 =>
    rw [q] at p
    intro J F1 e1 H1 r1 f1 k yl0
    have yl := yl0 H1 .refl
    have a1 : At (Kx.mk X.K px X.w) F e σ H F1 e1 σ H1 := ⟨r, f1, r1⟩
    have p' : POS (Kx.mk X.K px X.w) cl W F1 e2 σ H1 D (forL t fb xs e2) := unlock_pos k a1 p
    have r2 : Rel (Kx.mk X.K px X.w) F1 e2 σ H1 := k.rel r1
    refine ⟨fun i m σ' H' => i + m = xs.length ∧ ∃ F' e', At (Kx.mk X.K px X.w) F1 e2 σ H1 F' e' σ' H' ∧ POS (Kx.mk X.K px X.w) cl W F1 e2 σ H1 D (forL t fb (xs.drop i) e'), ⟨xs.length, by simp, F1, e2, .refl r2, by simpa using p'⟩, fun i m σ' H' ⟨hm, F', e', a', pl⟩ => ?_⟩
    obtain ⟨go, stop⟩ := yl i F' e' σ' H' a'.r a'.f
    by_cases hl : xs.length ≤ i
    · rw [List.drop_eq_nil_of_le hl] at pl
      exact .inl ⟨stop hl, pl F' σ' H' a'.r a'.f⟩
    · have hi : i < xs.length := by omega
      have hx : xs[i]? = some xs[i] := List.getElem?_eq_getElem hi
      obtain ⟨g1, g2⟩ := go xs[i] hx
      rw [List.drop_eq_getElem_cons hi] at pl
      refine .inr ⟨g1, fun σ3 H3 => ∃ F3 e3, At (Kx.mk X.K px X.w) F1 e2 σ H1 F3 e3 σ3 H3 ∧ POS (Kx.mk X.K px X.w) cl W F1 e2 σ H1 D (forL t fb (xs.drop (i + 1)) e3), fun σ3 H3 ⟨F3, e3, a3, p3⟩ => ⟨m - 1, by omega, by omega, F3, e3, a3, p3⟩, fun z H2 hy => ?_⟩
      obtain ⟨F2, r3, f3, rp⟩ := g2 z H2 hy
      have a3 := a'.step r3 f3
      unfold forL at pl
      refine ⟨F2, e', xs[i], r3, rp, ?_⟩
      cases q2 : asg t xs[i] e' with
      | none => rw [q2] at pl; exact pl.elim
      | some e4 =>
        rw [q2] at pl
        dsimp only at pl
        intro σ4 r4 f4 _ _
        have a4 := a3.step r4 f4
        refine ⟨F2, e4, r4, ?_⟩
        cases q3 : fb e4 with
        | nx e5 => rw [q3] at pl; exact fun F5 σ5 H5 r5 f5 => ⟨F5, e5, a4.step r5 f5, pl⟩
        | ct e5 => rw [q3] at pl; exact fun F5 σ5 H5 r5 f5 => ⟨F5, e5, a4.step r5 f5, pl⟩
        | bk e5 => rw [q3] at pl; exact fun F5 σ5 H5 r5 f5 => pl F5 σ5 H5 r5 (a4.f.trans a4.r0 f5)
        | rt v e5 => rw [q3] at pl; exact fun F5 σ5 H5 z r5 f5 v n => pl F5 σ5 H5 z r5 (a4.f.trans a4.r0 f5) v (n.old a4.f.dom)
        | ex c y e5 => rw [q3] at pl; exact fun F5 σ5 H5 dx r5 f5 v => pl F5 σ5 H5 dx r5 (a4.f.trans a4.r0 f5) v
        | ok _ _ => rw [q3] at pl; exact pl.elim
        | oks _ _ => rw [q3] at pl; exact pl.elim
        | its _ _ _ => rw [q3] at pl; exact pl.elim
        | bad => rw [q3] at pl; exact pl.elim
  | _ => rw [q] at p; exact p.elim
theorem s_frw {n i : Nat} {x : Str} {t : Tg} {tg : Expr} {body : List Stmt} {fb : En → R} {p pos : Pos} (hp : PassesOwn (model X.prog X.w) X.A X.env X.xe) (hc : X.calm = true) (hN : X.N[i]? = some x) (hv : Vis X.env.scope x) (hd : (x == ("__debug__" : Str)) = false) (hcd : (x == ("__classdict__" : Str)) = false)
    (hg : PG X tg (tG (Kx.mk X.K px X.w) t)) (hb : PSs X body (tS (Kx.mk X.K px X.w) cl W fb)) : PS X (.For tg (.Name x p) body [] pos) (tS (Kx.mk X.K px X.w) cl W (dFrw n i t fb)) := by
  refine psI (ps_for hp hc (pi_list (pe_var hN hv hd hcd)) hg hb) fun D σ H ⟨F, e, r, p⟩ => ?_
  unfold dFrw at p
  have start : ∃ a xs, σ[i]? = some (some (.ref a)) ∧ SqL X.K H a xs := by
    cases n with
    | zero => exact p.elim
    | succ n =>
      unfold frwL at p
      have q := r.slot i
      split at p
      · rename_i k ys g
        rw [g] at q
        obtain ⟨b, z1, _, z2⟩ := q
        cases z2 with
        | lst e1 l => exact ⟨b, _, z1, .inl (.inl e1)⟩
      · exact p.elim
  obtain ⟨a, xs, ea, hxs⟩ := start
  refine ⟨.ref a, ea, a, rfl, ⟨xs, hxs⟩, fun k m σ' H' => ∃ F' e', At (Kx.mk X.K px X.w) F e σ H F' e' σ' H' ∧ POS (Kx.mk X.K px X.w) cl W F e σ H D (frwL t i fb m k e'), ⟨n, F, e, .refl r, p⟩, fun k m σ' H' ⟨F', e', a', pl⟩ => ?_⟩
  cases m with
  | zero => exact pl.elim
  | succ m =>
    unfold frwL at pl
    split at pl
    · rename_i lk ys g
      have q := a'.r.slot i
      rw [g] at q
      obtain ⟨b, z1, _, z2⟩ := q
      have eb : b = a := by
        have := (a'.f.lent i lk _ g).2
        rw [z1, ea] at this
        cases this; rfl
      subst eb
      cases z2 with
      | lst e1 l =>
        rename_i vs
        have sq : SqL X.K H' b vs := .inl (.inl e1)
        split at pl
        · rename_i y hy
          obtain ⟨v, hv2, rp⟩ := l.get hy
          refine .inr ⟨⟨vs, v, sq, hv2⟩, fun σ3 H3 => ∃ F3 e3, At (Kx.mk X.K px X.w) F e σ H F3 e3 σ3 H3 ∧ POS (Kx.mk X.K px X.w) cl W F e σ H D (frwL t i fb m (k + 1) e3), fun σ3 H3 ⟨F3, e3, a3, p3⟩ => ⟨m, by omega, F3, e3, a3, p3⟩, fun z H2 hz => ?_⟩
          obtain ⟨rfl, hz⟩ := hz
          have := hz vs sq
          rw [hv2] at this
          cases this
          refine ⟨F', e', y, a'.r, rp, ?_⟩
          cases q2 : asg t y e' with
          | none => rw [q2] at pl; exact pl.elim
          | some e4 =>
            rw [q2] at pl
            dsimp only at pl
            intro σ4 r4 f4 _ _
            have a4 := a'.step r4 f4
            refine ⟨F', e4, r4, ?_⟩
            cases q3 : fb e4 with
            | nx e5 => rw [q3] at pl; exact fun F5 σ5 H5 r5 f5 => ⟨F5, e5, a4.step r5 f5, pl⟩
            | ct e5 => rw [q3] at pl; exact fun F5 σ5 H5 r5 f5 => ⟨F5, e5, a4.step r5 f5, pl⟩
            | bk e5 => rw [q3] at pl; exact fun F5 σ5 H5 r5 f5 => pl F5 σ5 H5 r5 (a4.f.trans a4.r0 f5)
            | rt v e5 => rw [q3] at pl; exact fun F5 σ5 H5 z r5 f5 v n => pl F5 σ5 H5 z r5 (a4.f.trans a4.r0 f5) v (n.old a4.f.dom)
            | ex c y e5 => rw [q3] at pl; exact fun F5 σ5 H5 dx r5 f5 v => pl F5 σ5 H5 dx r5 (a4.f.trans a4.r0 f5) v
            | ok _ _ => rw [q3] at pl; exact pl.elim
            | oks _ _ => rw [q3] at pl; exact pl.elim
            | its _ _ _ => rw [q3] at pl; exact pl.elim
            | bad => rw [q3] at pl; exact pl.elim
        · rename_i hy
          exact .inl ⟨⟨vs, sq, by rw [l.length]; exact List.getElem?_eq_none_iff.mp hy⟩, pl F' σ' H' a'.r a'.f⟩
    · exact pl.elim
theorem s_whl {n : Nat} {c : Expr} {body : List Stmt} {fc fb : En → R} {pos : Pos} (hp : PassesOwn (model X.prog X.w) X.A X.env X.xe) (hc : PT X c (tT (Kx.mk X.K px X.w) cl W fc)) (hb : PSs X body (tS (Kx.mk X.K px X.w) cl W fb)) : PS X (.While c body [] pos) (tS (Kx.mk X.K px X.w) cl W (dWhl n fc fb)) := by
  refine psI (ps_while hp hc hb) fun D σ H ⟨F, e, r, p⟩ => ?_
  refine ⟨fun m σ' H' => ∃ F' e', At (Kx.mk X.K px X.w) F e σ H F' e' σ' H' ∧ POS (Kx.mk X.K px X.w) cl W F e σ H D (whlL fc fb m e'), ⟨n, F, e, .refl r, p⟩, fun m σ' H' ⟨F', e', a', p'⟩ => ?_⟩
  cases m with
  | zero => exact p'.elim
  | succ m =>
    unfold whlL at p'
    refine ⟨F', e', a'.r, ?_⟩
    cases q : fc e' with
    | ex c y e5 => rw [q] at p'; exact fun F5 H5 dx r5 f5 v => p' F5 σ' H5 dx r5 (a'.f.trans a'.r0 f5) v
    | ok v e1 =>
      rw [q] at p'
      dsimp only at p'
      unfold tru at p'
      cases q1 : res e1 v with
      | none => rw [q1] at p'; exact p'.elim
      | some y =>
        rw [q1] at p'
        dsimp only at p'
        cases q2 : truth y with
        | none => rw [q2] at p'; exact p'.elim
        | some b =>
          rw [q2] at p'
          dsimp only at p'
          refine ⟨y, b, q1, q2, fun F1 H1 r1 f1 => ?_⟩
          have a1 := a'.step r1 f1
          cases b with
          | false => exact iteF (p' F1 σ' H1 a1.r a1.f)
          | true =>
            refine iteT ⟨fun σ3 H3 => ∃ F3 e3, At (Kx.mk X.K px X.w) F e σ H F3 e3 σ3 H3 ∧ POS (Kx.mk X.K px X.w) cl W F e σ H D (whlL fc fb m e3), fun σ3 H3 ⟨F3, e3, a3, p3⟩ => ⟨m, by omega, F3, e3, a3, p3⟩, F1, e1, r1, ?_⟩
            dsimp only at p'
            cases q3 : fb e1 with
            | nx e5 => rw [q3] at p'; exact fun F5 σ5 H5 r5 f5 => ⟨F5, e5, a1.step r5 f5, p'⟩
            | ct e5 => rw [q3] at p'; exact fun F5 σ5 H5 r5 f5 => ⟨F5, e5, a1.step r5 f5, p'⟩
            | bk e5 => rw [q3] at p'; exact fun F5 σ5 H5 r5 f5 => p' F5 σ5 H5 r5 (a1.f.trans a1.r0 f5)
            | rt v e5 => rw [q3] at p'; exact fun F5 σ5 H5 z r5 f5 v n => p' F5 σ5 H5 z r5 (a1.f.trans a1.r0 f5) v (n.old a1.f.dom)
            | ex c y e5 => rw [q3] at p'; exact fun F5 σ5 H5 dx r5 f5 v => p' F5 σ5 H5 dx r5 (a1.f.trans a1.r0 f5) v
            | ok _ _ => rw [q3] at p'; exact p'.elim
            | oks _ _ => rw [q3] at p'; exact p'.elim
            | its _ _ _ => rw [q3] at p'; exact p'.elim
            | bad => rw [q3] at p'; exact p'.elim
    | oks _ _ => rw [q] at p'; exact p'.elim
    | its _ _ _ => rw [q] at p'; exact p'.elim
    | nx _ => rw [q] at p'; exact p'.elim
    | rt _ _ => rw [q] at p'; exact p'.elim
    | bk _ => rw [q] at p'; exact p'.elim
    | ct _ => rw [q] at p'; exact p'.elim
    | bad => rw [q] at p'; exact p'.elim
end
end Ev
end

section
set_option Elab.async false
set_option linter.all false
set_option maxRecDepth 100000
set_option maxHeartbeats 2000000
namespace Ev
open PySem PySem.Spec PyProof.Rows L2
/-! ## comprehensions -/
section
variable {K : Kx} {F F' F0 F1 F2 F3 : As} {e e' e0 e1 e2 e3 : En} {σ σ' σ0 σ1 σ2 σ3 : L2.St} {H H' H0 H1 H2 H3 : Hp} {cl : Nat → Addr} {W : WX} {own : List Nat}
theorem wipe_get : ∀ (own : List Nat) (σ : L2.St) (i : Nat), (wipe σ own)[i]? = if i ∈ own then (if i < σ.length then some none else none) else σ[i]?
  | [], σ, i => by simp [wipe]
  | v :: vs, σ, i => by
    unfold wipe
    by_cases c : v = i
    · subst c
      simp only [List.mem_cons, true_or, if_true]
      by_cases h : v < σ.length
      · rw [if_pos h, List.getElem?_set_self (by rw [wipe_length]; exact h)]
      · rw [if_neg h, List.getElem?_eq_none (by rw [List.length_set, wipe_length]; omega)]
    · rw [List.getElem?_set_ne c, wipe_get vs]
      have : (i ∈ v :: vs) ↔ i ∈ vs := by simp [Ne.symm c]
      simp only [this]
theorem wipe_eq (hl : σ1.length = σ.length) (h : ∀ i, i ∉ own → σ1[i]? = σ[i]?) : wipe σ1 own = wipe σ own := by
  apply List.ext_getElem?
  intro i
  rw [wipe_get, wipe_get, hl]
  split
  · rfl
  · rename_i c; exact h i c
theorem wipe_wipe : wipe (wipe σ own) own = wipe σ own := wipe_eq (wipe_length _ _) fun i h => by rw [wipe_get, if_neg h]
theorem wipeE_get : ∀ (own : List Nat) (e : En) (i : Nat), getS (wipeE own e) i = if i ∈ own then .no else getS e i
  | [], e, i => by simp [wipeE]
  | v :: vs, e, i => by
    unfold wipeE
    by_cases h : v < (wipeE vs e).length
    · rw [getS_setS h]
      by_cases c : i = v
      · subst c; simp
      · rw [if_neg c, wipeE_get vs]
        have : (i ∈ v :: vs) ↔ i ∈ vs := by simp [c]
        simp only [this]
    · rw [setS_self h, wipeE_get vs]
      by_cases c : i = v
      · subst c
        have := getS_none h
        rw [wipeE_get vs] at this
        simp only [List.mem_cons, true_or, if_true]
        exact this
      · have : (i ∈ v :: vs) ↔ i ∈ vs := by simp [c]
        simp only [this]
theorem wipeE_length : ∀ (own : List Nat) (e : En), (wipeE own e).length = e.length
  | [], e => rfl
  | v :: vs, e => by unfold wipeE; rw [setS_length, wipeE_length vs]
theorem wipe_ownAt {i : Nat} {a : Addr} (h : OwnAt (wipeE own e) (wipe σ own) i a) : OwnAt e σ i a ∧ i ∉ own := by
  obtain ⟨⟨l, k, x, h1⟩, h2⟩ := h
  rw [wipeE_get] at h1
  split at h1
  · cases h1
  · rename_i c
    rw [wipe_get, if_neg c] at h2
    exact ⟨⟨⟨l, k, x, h1⟩, h2⟩, c⟩
theorem Rel.wipe (r : Rel K F e σ H) : Rel K F (wipeE own e) (L2.wipe σ own) H := by
  refine ⟨by rw [wipeE_length, wipe_length]; exact r.len, r.dom, fun i => ?_, fun i j a h1 h2 => r.apart i j a (wipe_ownAt h1).1 (wipe_ownAt h2).1⟩
  rw [wipeE_get]
  split
  · trivial
  · rename_i c
    rw [wipe_get, if_neg c]
    exact r.slot i
theorem ownFree_at (h : ownFree own e = true) {i : Nat} (hi : i ∈ own) : freeS e i = true := by
  unfold ownFree at h
  exact List.all_eq_true.mp h i hi
theorem Fr.wipe (hf : ownFree own e0 = true) (f : Fr F0 e0 σ0 H0 F e σ H) : Fr F0 e0 σ0 H0 F (wipeE own e) (L2.wipe σ own) H where
  ln := (wipeE_length _ _).trans f.ln
  keep := f.keep
  dom := f.dom
  grow := f.grow
  new := f.new
  own := fun a ⟨i, h⟩ => f.own a ⟨i, (wipe_ownAt h).1⟩
  muts := fun a ⟨i, ⟨l, x, h1⟩, h2⟩ => by
    obtain ⟨q, c⟩ := wipe_ownAt ⟨⟨l, false, x, h1⟩, h2⟩
    rw [wipeE_get, if_neg c] at h1
    exact f.muts a ⟨i, ⟨l, x, h1⟩, q.2⟩
  lent := fun i k x h => by
    rw [wipeE_get] at h
    split at h
    · cases h
    · rename_i c
      obtain ⟨h1, h2⟩ := f.lent i k x h
      exact ⟨h1, by rw [wipe_get, if_neg c]; exact h2⟩
  lkd := fun i l x h => by
    have c : i ∉ own := fun c => (freeS_not (ownFree_at hf c)).2 l x h
    obtain ⟨h1, h2⟩ := f.lkd i l x h
    exact ⟨by rw [wipeE_get, if_neg c]; exact h1, by rw [wipe_get, if_neg c]; exact h2⟩
/-- given back -/
def bkS (s : Sl) : Sl := match s with
  | .sh x => .sh x
  | _ => .no
theorem backE_get : ∀ (own : List Nat) (e0 e : En) (i : Nat), e0.length = e.length → getS (backE own e0 e) i = if i ∈ own then bkS (getS e0 i) else getS e i
  | [], e0, e, i, _ => by simp [backE]
  | v :: vs, e0, e, i, hl => by
    have ln : (backE vs e0 e).length = e.length := by
      clear i
      induction vs with
      | nil => rfl
      | cons w ws ih => unfold backE; rw [setS_length, ih]
    unfold backE
    by_cases h : v < (backE vs e0 e).length
    · rw [getS_setS h]
      by_cases c : i = v
      · subst c
        simp only [List.mem_cons, true_or, if_true]
        cases getS e0 i <;> rfl
      · rw [if_neg c, backE_get vs _ _ _ hl]
        have : (i ∈ v :: vs) ↔ i ∈ vs := by simp [c]
        simp only [this]
    · rw [setS_self h, backE_get vs _ _ _ hl]
      by_cases c : i = v
      · subst c
        have h0 : ¬ i < e0.length := by rw [hl, ← ln]; exact h
        have h1 : ¬ i < e.length := by rw [← ln]; exact h
        rw [getS_none h0, getS_none h1]
        simp [bkS]
      · have : (i ∈ v :: vs) ↔ i ∈ vs := by simp [c]
        simp only [this]
theorem backE_length : ∀ (own : List Nat) (e0 e : En), (backE own e0 e).length = e.length
  | [], e0, e => rfl
  | v :: vs, e0, e => by unfold backE; rw [setS_length, backE_length vs]
theorem back_ownAt {i : Nat} {a : Addr} (hl : e0.length = e.length) (h : OwnAt (backE own e0 e) σ i a) : i ∉ own ∧ OwnAt e (L2.wipe σ own) i a := by
  obtain ⟨⟨l, k, x, h1⟩, h2⟩ := h
  rw [backE_get _ _ _ _ hl] at h1
  split at h1
  · unfold bkS at h1
    split at h1 <;> cases h1
  · rename_i c
    exact ⟨c, ⟨l, k, x, h1⟩, by rw [wipe_get, if_neg c]; exact h2⟩
theorem Rel.back (r0 : Rel K F0 e0 σ H0) (f : Fr F0 e0 σ H0 F e (L2.wipe σ own) H) (r : Rel K F e (L2.wipe σ own) H) : Rel K F (backE own e0 e) σ H := by
  have hl : e0.length = e.length := f.ln.symm
  refine ⟨by rw [backE_length, r.len, wipe_length], r.dom, fun i => ?_, fun i j a h1 h2 => r.apart i j a (back_ownAt hl h1).2 (back_ownAt hl h2).2⟩
  rw [backE_get _ _ _ _ hl]
  split
  · have s := r0.slot i
    cases g : getS e0 i with
    | sh x =>
      rw [g] at s
      obtain ⟨v, h1, h2⟩ := s
      exact ⟨v, h1, h2.mono f.grow (f.keepF r0)⟩
    | _ => trivial
  · rename_i c
    have s := r.slot i
    rw [wipe_get, if_neg c] at s
    exact s
theorem Fr.back (hf : ownFree own e0 = true) (f : Fr F0 e0 σ H0 F e (L2.wipe σ own) H) : Fr F0 e0 σ H0 F (backE own e0 e) σ H where
  ln := (backE_length _ _ _).trans f.ln
  keep := f.keep
  dom := f.dom
  grow := f.grow
  new := f.new
  own := fun a ⟨i, h⟩ => f.own a ⟨i, (back_ownAt f.ln.symm h).2⟩
  muts := fun a ⟨i, ⟨l, x, h1⟩, h2⟩ => by
    obtain ⟨c, q⟩ := back_ownAt f.ln.symm ⟨⟨l, false, x, h1⟩, h2⟩
    rw [backE_get _ _ _ _ f.ln.symm, if_neg c] at h1
    exact f.muts a ⟨i, ⟨l, x, h1⟩, q.2⟩
  lent := fun i k x h => by
    rw [backE_get _ _ _ _ f.ln.symm] at h
    split at h
    · unfold bkS at h
      split at h <;> cases h
    · exact ⟨(f.lent i k x h).1, rfl⟩
  lkd := fun i l x h => by
    have c : i ∉ own := fun c => (freeS_not (ownFree_at hf c)).2 l x h
    obtain ⟨h1, h2⟩ := f.lkd i l x h
    exact ⟨by rw [backE_get _ _ _ _ f.ln.symm, if_neg c]; exact h1, rfl⟩
/-- an object that is no slot's own changes -/
theorem Rel.updD {D : Addr} {o : HO} (r : Rel K F e σ H) (nf : ¬ F D) (no : ¬ OwnA e σ D) (nx : ∀ fs, H D ≠ some (.xd fs)) : Rel K F e σ (upd H D o) := by
  have kF : ∀ b o', F b → H b = some o' → (upd H D o) b = some o' := fun b o' h q => by rw [upd_ne (fun z => nf (by rw [← z]; exact h))]; exact q
  refine ⟨r.len, fun b h => by rw [upd_ne (fun z => nf (by rw [← z]; exact h))]; exact r.dom b h, fun j => ?_, r.apart⟩
  have q := r.slot j
  cases gj : getS e j with
  | sh d =>
    rw [gj] at q
    obtain ⟨v, z1, z2⟩ := q
    exact ⟨v, z1, z2.mono (fun _ h => h) kF⟩
  | ow l' k' d =>
    rw [gj] at q
    obtain ⟨b, z1, z2, z3⟩ := q
    refine ⟨b, z1, z2, z3.mono (fun _ h => h) kF fun o' q' => ?_⟩
    rw [upd_ne (fun z => no (by rw [← z]; exact ⟨j, ⟨_, _, _, gj⟩, z1⟩))]
    exact q'
  | no => trivial
  | ex c' y =>
    rw [gj] at q
    exact q.exm (fun _ h => h) kF fun d fs z => by
      rw [upd_ne (fun w => nx fs (by rw [← w]; exact z))]
      exact z
theorem Fr.updD {D : Addr} {o : HO} (f : Fr F0 e0 σ0 H0 F e σ H) (n : H0 D = none) : Fr F0 e0 σ0 H0 F e σ (upd H D o) :=
  { f with
    keep := fun a u h m => by rw [upd_ne (ne_of_none h n)]; exact f.keep a u h m
    dom := fun a h => by
      by_cases z : a = D
      · rw [z, upd_same]; simp
      · rw [upd_ne z]; exact f.dom a h }
mutual
theorem Tg.inn_ids : ∀ {t : Tg}, t.inn own = true → ∀ i, i ∈ t.ids → i ∈ own
  | .nm j, h, i, hi => by
    simp only [Tg.ids, List.mem_singleton] at hi
    subst hi
    simpa [Tg.inn] using h
  | .tp ts, h, i, hi => Tg.inns_ids (ts := ts) (by simpa [Tg.inn] using h) i (by simpa [Tg.ids] using hi)
theorem Tg.inns_ids : ∀ {ts : List Tg}, Tg.inns own ts = true → ∀ i, i ∈ Tg.idss ts → i ∈ own
  | [], _, i, hi => by simp [Tg.idss] at hi
  | t :: ts, h, i, hi => by
    simp only [Tg.inns, Bool.and_eq_true] at h
    simp only [Tg.idss, List.mem_append] at hi
    rcases hi with hi | hi
    · exact Tg.inn_ids h.1 i hi
    · exact Tg.inns_ids h.2 i hi
end
/-- what a turn leaves -/
structure Lp (K : Kx) (D : Addr) (F0 : As) (e0 : En) (σ0 : L2.St) (H0 : Hp) (F : As) (e : En) (σ : L2.St) (H : Hp) (acc : List PyData) : Prop where
  at_ : At K F0 e0 σ0 H0 F e σ H
  nf : ¬ F D
  no : ¬ OwnA e σ D
  lst : ∃ ws, H D = some (.lst ws) ∧ RepL K F H ws acc
theorem Lp.step {D : Addr} {acc : List PyData} (l : Lp K D F0 e0 σ0 H0 F e σ H acc) (r : Rel K F1 e1 σ1 H1) (f : Fr F e σ H F1 e1 σ1 H1) : Lp K D F0 e0 σ0 H0 F1 e1 σ1 H1 acc := by
  obtain ⟨ws, h1, h2⟩ := l.lst
  refine ⟨l.at_.step r f, fun q => ?_, fun q => ?_, ws, f.keep _ _ h1 fun m => l.no m.own, h2.mono f.grow (f.keepF l.at_.r)⟩
  · rcases f.new D q with q | q | q
    · exact l.nf q
    · exact l.no q
    · rw [h1] at q; cases q
  · rcases f.own D q with q | q
    · exact l.no q
    · rw [h1] at q; cases q
theorem Lp.wipe {D : Addr} {acc : List PyData} (hf : ownFree own e0 = true) (l : Lp K D F0 e0 σ0 H0 F e σ H acc) : Lp K D F0 e0 σ0 H0 F (wipeE own e) (L2.wipe σ own) H acc :=
  ⟨⟨l.at_.r0, l.at_.f.wipe hf, l.at_.r.wipe⟩, l.nf, fun ⟨i, q⟩ => l.no ⟨i, (wipe_ownAt q).1⟩, l.lst⟩
theorem Lp.app {D : Addr} {acc : List PyData} {z : V} {y : PyData} (n : H0 D = none) (l : Lp K D F0 e0 σ0 H0 F e σ H acc) (rp : Rep K F H z y) : ∃ ws, H D = some (.lst ws) ∧ ws.length = acc.length ∧ Lp K D F0 e0 σ0 H0 F e σ (upd H D (.lst (ws ++ [z]))) (acc ++ [y]) := by
  obtain ⟨ws, h1, h2⟩ := l.lst
  refine ⟨ws, h1, h2.length, ⟨l.at_.r0, l.at_.f.updD n, l.at_.r.updD l.nf l.no fun fs z => (by rw [h1] at z; cases z)⟩, l.nf, l.no, ws ++ [z], upd_same, ?_⟩
  exact (h2.append (.cons rp .nil)).mono (fun _ h => h) fun b o' h q => by rw [upd_ne (fun z => l.nf (by rw [← z]; exact h))]; exact q
end
section
variable {X : Cx} {px : Addr → Nat → Addr → Prop} {cl : Nat → Addr} {W W' : WX} {F F' F0 F1 F2 : As} {e e' e0 e1 e2 : En} {σ σ0 : L2.St} {H H0 H1 H2 : Hp}
theorem ptsI {es : List Expr} {t t' : TT} (h : PTs X es t) (i : ∀ σ H Q, t' σ H Q → t σ H Q) : PTs X es t' := ⟨fun pins s σ H Q I q => h.run pins s σ H Q I (i σ H Q q)⟩
theorem c_nil : PTs X [] (tT (Kx.mk X.K px X.w) cl W (dLit (.bool true))) := ptsI pts_nil fun σ H Q ⟨F, e, r, p⟩ => by
  obtain ⟨x, b, h1, h2, h3⟩ := p
  cases h1
  cases h2
  exact h3 F H r .refl
theorem c_one {c : Expr} {fc : En → R} (h : PT X c (tT (Kx.mk X.K px X.w) cl W fc)) : PTs X [c] (tT (Kx.mk X.K px X.w) cl W fc) := pts_one h
theorem lc_turn {own : List Nat} {t : Tg} {fa fc fe : En → R} (hin : t.inn own = true) :
    ∀ σ H Q, tE (Kx.mk X.K px X.w) cl W (dLc own t fa fc fe) σ H Q → tLc (tI (Kx.mk X.K px X.w) cl W fa) (tG (Kx.mk X.K px X.w) t) (tT (Kx.mk X.K px X.w) cl W' fc) (tE (Kx.mk X.K px X.w) cl W' fe) own σ H Q := by
  intro σ H Q ⟨F, e, r, p⟩
  refine ⟨F, e, r, ?_⟩
  unfold dLc at p
  cases q : fa e with
  | ex c a e1 => rw [q] at p; exact p
  | its xs ls e2 =>
    rw [q] at p
    dsimp only at p
    split at p
    · rename_i hf
      intro J F1 e1 H1 r1 f1 k yl0 D hD
      have yl := yl0 H1 .refl
      have a1 : At (Kx.mk X.K px X.w) F e σ H F1 e1 σ H1 := ⟨r, f1, r1⟩
      have r2 : Rel (Kx.mk X.K px X.w) F1 e2 σ H1 := k.rel r1
      have nF : ¬ F1 D := fun z => r1.dom D z hD
      have nO : ¬ OwnA e2 σ D := fun z => (r2.own z).2 hD
      have l0 : Lp (Kx.mk X.K px X.w) D F1 e2 σ H1 F1 e2 σ (upd H1 D (.lst [])) [] := ⟨⟨r2, Fr.refl.updD hD, r2.updD nF nO fun fs z => (by rw [hD] at z; cases z)⟩, nF, nO, [], upd_same, .nil⟩
      refine ⟨fun i m H' => i + m = xs.length ∧ ∃ F' e' acc, Lp (Kx.mk X.K px X.w) D F1 e2 σ H1 F' e' (wipe σ own) H' acc ∧ PO' (Kx.mk X.K px X.w) cl W F e σ H Q (lcL own t fc fe (xs.drop i) acc e' fun acc e3 => .ok (.o (.list acc)) (unlock ls (backE own e2 e3))),
        ⟨xs.length, by simp, F1, wipeE own e2, [], l0.wipe hf, by simpa using p⟩, fun i m H' ⟨hm, F', e', acc, l, pl⟩ => ?_⟩
      obtain ⟨go, stop⟩ := yl i F' e' _ H' l.at_.r l.at_.f
      by_cases hl : xs.length ≤ i
      · rw [List.drop_eq_nil_of_le hl] at pl
        refine .inl ⟨stop hl, ?_⟩
        obtain ⟨ws, h1, h2⟩ := l.lst
        have rb : Rel (Kx.mk X.K px X.w) F' (backE own e2 e') σ H' := Rel.back r2 l.at_.f l.at_.r
        have fb : Fr F1 e2 σ H1 F' (backE own e2 e') σ H' := Fr.back hf l.at_.f
        refine pl F' H' (.ref D) (unlock_rel rb) (f1.trans r (unlock_fr k fb)) ⟨D, rfl, l.nf, fun ⟨j, z⟩ => l.no ⟨j, (back_ownAt l.at_.f.ln.symm (unlock_ownAt z)).2⟩, .lst h1 h2⟩ fun a ea => ?_
        cases ea
        cases z : H D with
        | none => rfl
        | some o => exact absurd hD (f1.dom D (by rw [z]; simp))
      · have hi : i < xs.length := by omega
        obtain ⟨g1, g2⟩ := go xs[i] (List.getElem?_eq_getElem hi)
        rw [List.drop_eq_getElem_cons hi] at pl
        refine .inr ⟨g1, fun H3 => ∃ F3 e3 acc3, Lp (Kx.mk X.K px X.w) D F1 e2 σ H1 F3 e3 (wipe σ own) H3 acc3 ∧ PO' (Kx.mk X.K px X.w) cl W F e σ H Q (lcL own t fc fe (xs.drop (i + 1)) acc3 e3 fun acc e3 => .ok (.o (.list acc)) (unlock ls (backE own e2 e3))),
          fun H3 ⟨F3, e3, acc3, l3, p3⟩ => ⟨m - 1, by omega, by omega, F3, e3, acc3, l3, p3⟩, fun z H2 hy => ?_⟩
        obtain ⟨F2, r3, f3, rp⟩ := g2 z H2 hy
        have l3 := l.step r3 f3
        unfold lcL at pl
        refine ⟨F2, e', xs[i], r3, rp, ?_⟩
        cases q2 : asg t xs[i] e' with
        | none => rw [q2] at pl; exact pl.elim
        | some e4 =>
          rw [q2] at pl
          dsimp only at pl
          intro σ4 r4 f4 s4 n4
          have l4 := l3.step r4 f4
          have w4 : wipe σ4 own = wipe σ own := by
            rw [← wipe_wipe (σ := σ)]
            exact wipe_eq n4 fun j hj => s4 j fun h => hj (Tg.inn_ids hin j h)
          refine ⟨w4, F2, e4, r4, ?_⟩
          cases q3 : fc e4 with
          | ok v e5 =>
            rw [q3] at pl
            dsimp only at pl
            unfold tru at pl
            cases q4 : res e5 v with
            | none => rw [q4] at pl; exact pl.elim
            | some x =>
              rw [q4] at pl
              dsimp only at pl
              cases q5 : truth x with
              | none => rw [q5] at pl; exact pl.elim
              | some b =>
                rw [q5] at pl
                dsimp only at pl
                refine ⟨x, b, q4, q5, fun F5 H5 r5 f5 => ?_⟩
                have l5 := l4.step r5 f5
                cases b with
                | false =>
                  refine iteF ⟨F5, _, acc, ?_, pl⟩
                  rw [← w4]
                  exact l5.wipe hf
                | true =>
                  dsimp only at pl
                  refine iteT ⟨F5, e5, r5, ?_⟩
                  cases q6 : fe e5 with
                  | ok u e6 =>
                    rw [q6] at pl
                    dsimp only at pl
                    intro F6 H6 z6 r6 f6 v6 n6
                    cases q7 : take e6 u with
                    | none => rw [q7] at pl; exact pl.elim
                    | some q' =>
                      obtain ⟨y, e7⟩ := q'
                      rw [q7] at pl
                      dsimp only at pl
                      split at pl
                      · rename_i c
                        obtain ⟨F7, r7, f7, rp7, g7, _, _, _⟩ := take_ok r6 f6 v6 n6 q7
                        have l7 := l5.step r7 f7
                        obtain ⟨ws, h1, h2, l8⟩ := l7.app hD rp7
                        refine ⟨ws, h1, by rw [h2]; exact lenOk_line c, F7, _, _, ?_, pl⟩
                        rw [← w4]
                        exact l8.wipe hf
                      · exact pl.elim
                  | _ => rw [q6] at pl; exact pl.elim
          | _ => rw [q3] at pl; exact pl.elim
    · exact p.elim
  | _ => rw [q] at p; exact p.elim
/-- the heap without D -/
def hid (H : Hp) (D : Addr) : Hp := fun a => if a = D then none else H a
theorem hid_ne {H : Hp} {D a : Addr} (h : a ≠ D) : hid H D a = H a := by unfold hid; rw [if_neg h]
theorem hid_at {H : Hp} {D : Addr} : hid H D D = none := by unfold hid; rw [if_pos rfl]
theorem hid_sub {H : Hp} {D a : Addr} {o : HO} (h : hid H D a = some o) : H a = some o := by
  unfold hid at h
  split at h
  · cases h
  · exact h
theorem Fr.hidL {K : Kx} {D : Addr} (r : Rel K F e σ H) : Fr F e σ (hid H D) F e σ H :=
  ⟨rfl, fun _ _ h _ => hid_sub h, fun a h => by
    cases q : hid H D a with
    | none => exact absurd q h
    | some o => rw [hid_sub q]; simp, fun _ h => h, fun _ h => .inl h, fun _ h => .inl h, fun _ h => .inl h, fun _ k x h => ⟨⟨k, x, h⟩, rfl⟩, fun _ _ _ h => ⟨h, rfl⟩⟩
theorem Fr.hidR {σ1 : L2.St} {D : Addr} (f : Fr F0 e0 σ0 H0 F e σ1 H) (n : H0 D = none) : Fr F0 e0 σ0 H0 F e σ1 (hid H D) :=
  { f with
    keep := fun a o h m => by rw [hid_ne (ne_of_none h n)]; exact f.keep a o h m
    dom := fun a h => by
      rw [hid_ne (fun z => h (by rw [z]; exact n))]
      exact f.dom a h }
theorem Lp.hb {K : Kx} {D : Addr} {acc : List PyData} (l : Lp K D F0 e0 σ0 H0 F e σ H acc) (l' : Fr F e σ H F1 e1 σ H1) (k : Lk e1 ls e2) (r1 : Rel K F1 e1 σ H1) : HbOk F1 e2 σ H H1 (hid H1 D) := by
  refine ⟨fun a o h => hid_sub h, fun a o h z => ?_⟩
  have l1 := l.step r1 l'
  obtain ⟨ws, hD, _⟩ := l.lst
  obtain ⟨ws1, hD1, _⟩ := l1.lst
  rw [hid_ne]
  · exact h
  · rintro rfl
    rcases z with z | z | z | ⟨fs, z⟩
    · exact l1.nf z
    · exact l1.no (k.ownA.mp z)
    · rw [hD] at z; cases z
    · rw [hD1] at h; rw [z] at h; cases h
theorem subN_ok {own1 own : List Nat} (h : subN own1 own = true) : ∀ i ∈ own1, i ∈ own := fun i hi => by
  unfold subN at h
  have := List.all_eq_true.mp h i hi
  simpa using this
/-- the inner walk -/
theorem lc2_in {own own1 : List Nat} {t1 : Tg} {fd fe : En → R} {Q : VK} {D : Addr} {F6 : As} {e6 : En} {σ4 : L2.St} {H6 : Hp} {J1 : It} {ys : List PyData} {kk : List PyData → En → R} {Nx : Hp → Prop} {Fq : As} {eq : En} {σq : L2.St} {Hq : Hp} (hin : t1.inn own1 = true) (hf : ownFree own1 e6 = true)
    (nD : ¬ F6 D) (oD : ¬ OwnA e6 σ4 D) (acc : List PyData) (lD : ∃ ws, H6 D = some (.lst ws) ∧ RepL (Kx.mk X.K px X.w) F6 H6 ws acc) (r6 : Rel (Kx.mk X.K px X.w) F6 e6 σ4 H6) (rb : Rel (Kx.mk X.K px X.w) F6 e6 σ4 (hid H6 D)) (yl : Yl (Kx.mk X.K px X.w) J1 F6 e6 σ4 (hid H6 D) ys)
    (pl0 : PO' (Kx.mk X.K px X.w) cl W Fq eq σq Hq Q (lcL own1 t1 fd fe ys acc (wipeE own1 e6) kk))
    (fin : ∀ F' e' H' acc', Lp (Kx.mk X.K px X.w) D F6 e6 σ4 (hid H6 D) F' e' (wipe σ4 own1) H' acc' → PO' (Kx.mk X.K px X.w) cl W Fq eq σq Hq Q (kk acc' e') → Nx H') :
    ∃ W1 : Nat → Nat → Hp → Prop, (∃ m, W1 0 m H6) ∧ ∀ j m H, W1 j m H →
      (J1.stop j H ∧ Nx H) ∨ (J1.go j H ∧ ∃ Nx1 : Hp → Prop, (∀ H', Nx1 H' → ∃ k', k' < m ∧ W1 (j + 1) k' H') ∧ ∀ x H', J1.yld j H x H' → tG (Kx.mk X.K px X.w) t1 x (wipe σ4 own1) H' fun σ3 H5 => wipe σ3 own1 = wipe σ4 own1 ∧ tT (Kx.mk X.K px X.w) cl W' fd σ3 H5 fun b H6 =>
        if b = true then tE (Kx.mk X.K px X.w) cl W' fe σ3 H6 fun y H7 => ∃ acc, H7 D = some (.lst acc) ∧ acc.length < sizeLine ∧ Nx1 (upd H7 D (.lst (acc ++ [y]))) else Nx1 H6) := by
  have l0 : Lp (Kx.mk X.K px X.w) D F6 e6 σ4 (hid H6 D) F6 e6 σ4 H6 acc := ⟨⟨rb, .hidL r6, r6⟩, nD, oD, lD⟩
  refine ⟨fun j m H' => j + m = ys.length ∧ ∃ F' e' acc', Lp (Kx.mk X.K px X.w) D F6 e6 σ4 (hid H6 D) F' e' (wipe σ4 own1) H' acc' ∧ PO' (Kx.mk X.K px X.w) cl W Fq eq σq Hq Q (lcL own1 t1 fd fe (ys.drop j) acc' e' kk),
    ⟨ys.length, by simp, F6, wipeE own1 e6, acc, l0.wipe hf, by simpa using pl0⟩, fun i m H' ⟨hm, F', e', acc', l, pl⟩ => ?_⟩
  obtain ⟨go, stop⟩ := yl i F' e' _ H' l.at_.r l.at_.f
  by_cases hl : ys.length ≤ i
  · rw [List.drop_eq_nil_of_le hl] at pl
    exact .inl ⟨stop hl, fin F' e' H' acc' l pl⟩
  · have hi : i < ys.length := by omega
    obtain ⟨g1, g2⟩ := go ys[i] (List.getElem?_eq_getElem hi)
    rw [List.drop_eq_getElem_cons hi] at pl
    refine .inr ⟨g1, fun H3 => ∃ F3 e3 acc3, Lp (Kx.mk X.K px X.w) D F6 e6 σ4 (hid H6 D) F3 e3 (wipe σ4 own1) H3 acc3 ∧ PO' (Kx.mk X.K px X.w) cl W Fq eq σq Hq Q (lcL own1 t1 fd fe (ys.drop (i + 1)) acc3 e3 kk),
      fun H3 ⟨F3, e3, acc3, l3, p3⟩ => ⟨m - 1, by omega, by omega, F3, e3, acc3, l3, p3⟩, fun z H2 hy => ?_⟩
    obtain ⟨F2, r3, f3, rp⟩ := g2 z H2 hy
    have l3 := l.step r3 f3
    unfold lcL at pl
    refine ⟨F2, e', ys[i], r3, rp, ?_⟩
    cases q2 : asg t1 ys[i] e' with
    | none => rw [q2] at pl; exact pl.elim
    | some e4 =>
      rw [q2] at pl
      dsimp only at pl
      intro σ5 r4 f4 s4 n4
      have l4 := l3.step r4 f4
      have w4 : wipe σ5 own1 = wipe σ4 own1 := by
        rw [← wipe_wipe (σ := σ4)]
        exact wipe_eq n4 fun j hj => s4 j fun h => hj (Tg.inn_ids hin j h)
      refine ⟨w4, F2, e4, r4, ?_⟩
      cases q3 : fd e4 with
      | ok v e5 =>
        rw [q3] at pl
        dsimp only at pl
        unfold tru at pl
        cases q4 : res e5 v with
        | none => rw [q4] at pl; exact pl.elim
        | some x =>
          rw [q4] at pl
          dsimp only at pl
          cases q5 : truth x with
          | none => rw [q5] at pl; exact pl.elim
          | some b =>
            rw [q5] at pl
            dsimp only at pl
            refine ⟨x, b, q4, q5, fun F5 H5 r5 f5 => ?_⟩
            have l5 := l4.step r5 f5
            cases b with
            | false =>
              refine iteF ⟨F5, _, acc', ?_, pl⟩
              rw [← w4]
              exact l5.wipe hf
            | true =>
              dsimp only at pl
              refine iteT ⟨F5, e5, r5, ?_⟩
              cases q6 : fe e5 with
              | ok u e7 =>
                rw [q6] at pl
                dsimp only at pl
                intro F7 H7 z7 r7 f7 v7 n7
                cases q7 : take e7 u with
                | none => rw [q7] at pl; exact pl.elim
                | some q' =>
                  obtain ⟨y, e8⟩ := q'
                  rw [q7] at pl
                  dsimp only at pl
                  split at pl
                  · rename_i c
                    obtain ⟨F8, r8, f8, rp8, g8, _, _, _⟩ := take_ok r7 f7 v7 n7 q7
                    have l8 := l5.step r8 f8
                    obtain ⟨ws, h1, h2, l9⟩ := l8.app hid_at rp8
                    refine ⟨ws, h1, by rw [h2]; exact lenOk_line c, F8, _, _, ?_, pl⟩
                    rw [← w4]
                    exact l9.wipe hf
                  · exact pl.elim
              | _ => rw [q6] at pl; exact pl.elim
      | _ => rw [q3] at pl; exact pl.elim
theorem lc2_turn {own own1 : List Nat} {t t1 : Tg} {fa fc fb fd fe : En → R} (hin : t.inn own = true) (hin1 : t1.inn own1 = true) :
    ∀ σ H Q, tE (Kx.mk X.K px X.w) cl W (dLc2 own own1 t t1 fa fc fb fd fe) σ H Q → tLc2 (tI (Kx.mk X.K px X.w) cl W fa) (tG (Kx.mk X.K px X.w) t) (tT (Kx.mk X.K px X.w) cl W' fc) (tI (Kx.mk X.K px X.w) cl W' fb) (tG (Kx.mk X.K px X.w) t1) (tT (Kx.mk X.K px X.w) cl W' fd) (tE (Kx.mk X.K px X.w) cl W' fe) own own1 σ H Q := by
  intro σ H Q ⟨F, e, r, p⟩
  refine ⟨F, e, r, ?_⟩
  unfold dLc2 at p
  cases q : fa e with
  | ex c a e1 => rw [q] at p; exact p
  | its xs ls e2 =>
    rw [q] at p
    dsimp only at p
    split at p
    · rename_i hff
      rw [Bool.and_eq_true] at hff
      obtain ⟨hf, hsub⟩ := hff
      have hsub := subN_ok hsub
      intro J F1 e1 H1 r1 f1 k yl0 D hD
      have yl := yl0 H1 .refl
      have r2 : Rel (Kx.mk X.K px X.w) F1 e2 σ H1 := k.rel r1
      have nF : ¬ F1 D := fun z => r1.dom D z hD
      have nO : ¬ OwnA e2 σ D := fun z => (r2.own z).2 hD
      have l0 : Lp (Kx.mk X.K px X.w) D F1 e2 σ H1 F1 e2 σ (upd H1 D (.lst [])) [] := ⟨⟨r2, Fr.refl.updD hD, r2.updD nF nO fun fs z => (by rw [hD] at z; cases z)⟩, nF, nO, [], upd_same, .nil⟩
      refine ⟨fun i m H' => i + m = xs.length ∧ ∃ F' e' acc, Lp (Kx.mk X.K px X.w) D F1 e2 σ H1 F' e' (wipe σ own) H' acc ∧ PO' (Kx.mk X.K px X.w) cl W F e σ H Q (lc2L own own1 t t1 fc fb fd fe (xs.drop i) acc e' fun acc e3 => .ok (.o (.list acc)) (unlock ls (backE own e2 e3))),
        ⟨xs.length, by simp, F1, wipeE own e2, [], l0.wipe hf, by simpa using p⟩, fun i m H' ⟨hm, F', e', acc, l, pl⟩ => ?_⟩
      obtain ⟨go, stop⟩ := yl i F' e' _ H' l.at_.r l.at_.f
      by_cases hl : xs.length ≤ i
      · rw [List.drop_eq_nil_of_le hl] at pl
        refine .inl ⟨stop hl, ?_⟩
        obtain ⟨ws, h1, h2⟩ := l.lst
        have rb : Rel (Kx.mk X.K px X.w) F' (backE own e2 e') σ H' := Rel.back r2 l.at_.f l.at_.r
        have fb' : Fr F1 e2 σ H1 F' (backE own e2 e') σ H' := Fr.back hf l.at_.f
        refine pl F' H' (.ref D) (unlock_rel rb) (f1.trans r (unlock_fr k fb')) ⟨D, rfl, l.nf, fun ⟨j, z⟩ => l.no ⟨j, (back_ownAt l.at_.f.ln.symm (unlock_ownAt z)).2⟩, .lst h1 h2⟩ fun a ea => ?_
        cases ea
        cases z : H D with
        | none => rfl
        | some o => exact absurd hD (f1.dom D (by rw [z]; simp))
      · have hi : i < xs.length := by omega
        obtain ⟨g1, g2⟩ := go xs[i] (List.getElem?_eq_getElem hi)
        rw [List.drop_eq_getElem_cons hi] at pl
        refine .inr ⟨g1, fun H3 => ∃ F3 e3 acc3, Lp (Kx.mk X.K px X.w) D F1 e2 σ H1 F3 e3 (wipe σ own) H3 acc3 ∧ PO' (Kx.mk X.K px X.w) cl W F e σ H Q (lc2L own own1 t t1 fc fb fd fe (xs.drop (i + 1)) acc3 e3 fun acc e3 => .ok (.o (.list acc)) (unlock ls (backE own e2 e3))),
          fun H3 ⟨F3, e3, acc3, l3, p3⟩ => ⟨m - 1, by omega, by omega, F3, e3, acc3, l3, p3⟩, fun z H2 hy => ?_⟩
        obtain ⟨F2, r3, f3, rp⟩ := g2 z H2 hy
        have l3 := l.step r3 f3
        unfold lc2L at pl
        refine ⟨F2, e', xs[i], r3, rp, ?_⟩
        cases q2 : asg t xs[i] e' with
        | none => rw [q2] at pl; exact pl.elim
        | some e4 =>
          rw [q2] at pl
          dsimp only at pl
          intro σ4 r4 f4 s4 n4
          have l4 := l3.step r4 f4
          have w4 : wipe σ4 own = wipe σ own := by
            rw [← wipe_wipe (σ := σ)]
            exact wipe_eq n4 fun j hj => s4 j fun h => hj (Tg.inn_ids hin j h)
          refine ⟨w4, F2, e4, r4, ?_⟩
          cases q3 : fc e4 with
          | ok v e5 =>
            rw [q3] at pl
            dsimp only at pl
            unfold tru at pl
            cases q4 : res e5 v with
            | none => rw [q4] at pl; exact pl.elim
            | some x =>
              rw [q4] at pl
              dsimp only at pl
              cases q5 : truth x with
              | none => rw [q5] at pl; exact pl.elim
              | some b =>
                rw [q5] at pl
                dsimp only at pl
                refine ⟨x, b, q4, q5, fun F5 H5 r5 f5 => ?_⟩
                have l5 := l4.step r5 f5
                cases b with
                | false =>
                  refine iteF ⟨F5, _, acc, ?_, pl⟩
                  rw [← w4]
                  exact l5.wipe hf
                | true =>
                  dsimp only at pl
                  refine iteT ⟨F5, e5, r5, ?_⟩
                  cases q6 : fb e5 with
                  | its ys ls1 e6 =>
                    rw [q6] at pl
                    dsimp only at pl
                    split at pl
                    · rename_i hf1
                      intro J1 F6 e6' H6 r6 f6 k1 yl1
                      have l6 := (l5.step r6 f6).step (k1.rel r6) k1.fr
                      have hb := l5.hb f6 k1 r6
                      have f7 : Fr F1 e2 σ H1 F6 e6' σ4 (hid H6 D) := Fr.hidR (l5.step r6 f6).at_.f hD
                      refine lc2_in (own := own) hin1 hf1 l6.nf l6.no acc l6.lst l6.at_.r (hb.rel l6.at_.r) (yl1 _ hb) pl fun F8 e8 H8 acc8 l8 p8 => ?_
                      have rb8 : Rel (Kx.mk X.K px X.w) F6 e6' σ4 (hid H6 D) := by
                        refine HbOk.rel (H0 := H5) ⟨hb.sub, fun a o h z => hb.keep a o h (z.imp id fun z => z.imp k1.ownA.mpr id)⟩ r6
                      have f8 := f7.trans r2 (unlock_fr k1 l8.at_.f)
                      have e10 : wipe (wipe σ4 own1) own = wipe σ own := by
                        rw [← w4]
                        exact wipe_eq (wipe_length _ _) fun i hi => by rw [wipe_get, if_neg fun z => hi (hsub i z)]
                      have l9 : Lp (Kx.mk X.K px X.w) D F1 e2 σ H1 F8 (unlock ls1 e8) (wipe σ4 own1) H8 acc8 := ⟨⟨r2, f8, unlock_rel l8.at_.r⟩, l8.nf, fun ⟨j, z⟩ => l8.no ⟨j, unlock_ownAt z⟩, l8.lst⟩
                      refine ⟨F8, _, acc8, ?_, p8⟩
                      rw [← e10]
                      exact l9.wipe hf
                    · exact pl.elim
                  | _ => rw [q6] at pl; exact pl.elim
          | _ => rw [q3] at pl; exact pl.elim
    · exact p.elim
  | _ => rw [q] at p; exact p.elim
theorem s_lc2 {own : List (Str × Nat)} {ids ids1 : List Nat} {t t1 : Tg} {elt tg iter tg1 iter1 : Expr} {ifs ifs1 : List Expr} {scope : Scope} {pos : Pos} {fa fc fb fd fe : En → R} (hc : X.calm = true) (hN : X.N.Nodup) (ok : BlkOk X.N X.env.scope scope own) (hs : ∀ x, foldedSetIterable iter X.env x = pure x) (hs1 : ∀ env x, foldedSetIterable iter1 env x = pure x) (hin : t.inn ids = true) (hin1 : t1.inn ids1 = true) (hid : own.map (·.2) = ids) (hv : subN ids1 ids = true)
    (hi : PI X tg iter (tI (Kx.mk X.K px X.w) cl W fa))
    (hg : ∀ (s : Shared) (H : Hp) (C : Addr) (cl : List (Str × Addr)) (fp : List Addr), PG (X.blk s H scope (compEnvC scope cl C X.env) fp) tg (tG (Kx.mk X.K px X.w) t))
    (ht : ∀ (s : Shared) (H : Hp) (C : Addr) (cl' : List (Str × Addr)) (fp : List Addr), PTs (X.blk s H scope (compEnvC scope cl' C X.env) fp) ifs (tT (Kx.mk X.K px X.w) cl W' fc))
    (hi1 : ∀ (s : Shared) (H : Hp) (C : Addr) (cl' : List (Str × Addr)) (fp : List Addr), PI (X.blk s H scope (compEnvC scope cl' C X.env) fp) tg1 iter1 (tI (Kx.mk X.K px X.w) cl W' fb))
    (hg1 : ∀ (s : Shared) (H : Hp) (C : Addr) (cl : List (Str × Addr)) (fp : List Addr), PG (X.blk s H scope (compEnvC scope cl C X.env) fp) tg1 (tG (Kx.mk X.K px X.w) t1))
    (ht1 : ∀ (s : Shared) (H : Hp) (C : Addr) (cl' : List (Str × Addr)) (fp : List Addr), PTs (X.blk s H scope (compEnvC scope cl' C X.env) fp) ifs1 (tT (Kx.mk X.K px X.w) cl W' fd))
    (he : ∀ (s : Shared) (H : Hp) (C : Addr) (cl' : List (Str × Addr)) (fp : List Addr), PE (X.blk s H scope (compEnvC scope cl' C X.env) fp) elt (tE (Kx.mk X.K px X.w) cl W' fe)) :
    PE X (.ListComp elt [⟨tg, iter, ifs, 0⟩, ⟨tg1, iter1, ifs1, 0⟩] scope pos) (tE (Kx.mk X.K px X.w) cl W (dLc2 ids ids1 t t1 fa fc fb fd fe)) := by
  subst hid
  exact peI (pe_lc2 hc hN hi ok (subN_ok hv) hg ht hi1 hg1 ht1 he hs hs1) (lc2_turn hin hin1)
theorem s_setLc2 {i : Nat} {k : Bool} {y : Str} {py : Pos} {own : List (Str × Nat)} {ids ids1 : List Nat} {t t1 : Tg} {elt tg iter tg1 iter1 : Expr} {ifs ifs1 : List Expr} {scope : Scope} {pos spos : Pos} {fa fc fb fd fe : En → R} (hc : X.calm = true) (hN : X.N.Nodup) (hy : X.N[i]? = some y) (hyl : X.env.scope.names.lookup y = some .local)
    (hsw : swapsWith (.ListComp elt [⟨tg, iter, ifs, 0⟩, ⟨tg1, iter1, ifs1, 0⟩] scope pos) (some (.Name y py)) spos.line X.env = pure true) (ok : BlkOk X.N X.env.scope scope own) (hs : ∀ x, foldedSetIterable iter X.env x = pure x) (hs1 : ∀ env x, foldedSetIterable iter1 env x = pure x) (hin : t.inn ids = true) (hin1 : t1.inn ids1 = true) (hid : own.map (·.2) = ids) (hv : subN ids1 ids = true)
    (hi : PI X tg iter (tI (Kx.mk X.K px X.w) cl W fa))
    (hg : ∀ (s : Shared) (H : Hp) (C : Addr) (cl : List (Str × Addr)) (fp : List Addr), PG (X.blk s H scope (compEnvC scope cl C X.env) fp) tg (tG (Kx.mk X.K px X.w) t))
    (ht : ∀ (s : Shared) (H : Hp) (C : Addr) (cl' : List (Str × Addr)) (fp : List Addr), PTs (X.blk s H scope (compEnvC scope cl' C X.env) fp) ifs (tT (Kx.mk X.K px X.w) cl W' fc))
    (hi1 : ∀ (s : Shared) (H : Hp) (C : Addr) (cl' : List (Str × Addr)) (fp : List Addr), PI (X.blk s H scope (compEnvC scope cl' C X.env) fp) tg1 iter1 (tI (Kx.mk X.K px X.w) cl W' fb))
    (hg1 : ∀ (s : Shared) (H : Hp) (C : Addr) (cl : List (Str × Addr)) (fp : List Addr), PG (X.blk s H scope (compEnvC scope cl C X.env) fp) tg1 (tG (Kx.mk X.K px X.w) t1))
    (ht1 : ∀ (s : Shared) (H : Hp) (C : Addr) (cl' : List (Str × Addr)) (fp : List Addr), PTs (X.blk s H scope (compEnvC scope cl' C X.env) fp) ifs1 (tT (Kx.mk X.K px X.w) cl W' fd))
    (he : ∀ (s : Shared) (H : Hp) (C : Addr) (cl' : List (Str × Addr)) (fp : List Addr), PE (X.blk s H scope (compEnvC scope cl' C X.env) fp) elt (tE (Kx.mk X.K px X.w) cl W' fe)) :
    PS X (.Assign [.Name y py] (.ListComp elt [⟨tg, iter, ifs, 0⟩, ⟨tg1, iter1, ifs1, 0⟩] scope pos) spos) (tS (Kx.mk X.K px X.w) cl W (dSet i k (dLc2 ids ids1 t t1 fa fc fb fd fe))) := by
  subst hid
  refine psI (ps_setLc2 hc hN hy hyl hsw hi ok (subN_ok hv) hg ht hi1 hg1 ht1 he hs hs1) fun D σ H ⟨F, e, r, p⟩ => ?_
  exact lc2_turn hin hin1 σ H _ ⟨F, e, r, POS.bd (.refl r) p fun u e1 F1 H1 z a1 f1 v1 n1 p1 => put_ok a1 v1 n1 p1⟩
theorem s_lc {own : List (Str × Nat)} {ids : List Nat} {t : Tg} {elt tg iter : Expr} {ifs : List Expr} {scope : Scope} {pos : Pos} {fa fc fe : En → R} (hc : X.calm = true) (hN : X.N.Nodup) (ok : BlkOk X.N X.env.scope scope own) (hs : ∀ x, foldedSetIterable iter X.env x = pure x) (hin : t.inn ids = true) (hid : own.map (·.2) = ids)
    (hi : PI X tg iter (tI (Kx.mk X.K px X.w) cl W fa))
    (hg : ∀ (s : Shared) (H : Hp) (C : Addr) (cl : List (Str × Addr)) (fp : List Addr), PG (X.blk s H scope (compEnvC scope cl C X.env) fp) tg (tG (Kx.mk X.K px X.w) t))
    (ht : ∀ (s : Shared) (H : Hp) (C : Addr) (cl' : List (Str × Addr)) (fp : List Addr), PTs (X.blk s H scope (compEnvC scope cl' C X.env) fp) ifs (tT (Kx.mk X.K px X.w) cl W' fc))
    (he : ∀ (s : Shared) (H : Hp) (C : Addr) (cl' : List (Str × Addr)) (fp : List Addr), PE (X.blk s H scope (compEnvC scope cl' C X.env) fp) elt (tE (Kx.mk X.K px X.w) cl W' fe)) :
    PE X (.ListComp elt [⟨tg, iter, ifs, 0⟩] scope pos) (tE (Kx.mk X.K px X.w) cl W (dLc ids t fa fc fe)) := by
  subst hid
  exact peI (pe_lc hc hN hi ok hg ht he hs) (lc_turn hin)
theorem s_setLc {i : Nat} {k : Bool} {y : Str} {py : Pos} {own : List (Str × Nat)} {ids : List Nat} {t : Tg} {elt tg iter : Expr} {ifs : List Expr} {scope : Scope} {pos spos : Pos} {fa fc fe : En → R} (hc : X.calm = true) (hN : X.N.Nodup) (hy : X.N[i]? = some y) (hyl : X.env.scope.names.lookup y = some .local)
    (hsw : swapsWith (.ListComp elt [⟨tg, iter, ifs, 0⟩] scope pos) (some (.Name y py)) spos.line X.env = pure true) (ok : BlkOk X.N X.env.scope scope own) (hs : ∀ x, foldedSetIterable iter X.env x = pure x) (hin : t.inn ids = true) (hid : own.map (·.2) = ids)
    (hi : PI X tg iter (tI (Kx.mk X.K px X.w) cl W fa))
    (hg : ∀ (s : Shared) (H : Hp) (C : Addr) (cl : List (Str × Addr)) (fp : List Addr), PG (X.blk s H scope (compEnvC scope cl C X.env) fp) tg (tG (Kx.mk X.K px X.w) t))
    (ht : ∀ (s : Shared) (H : Hp) (C : Addr) (cl' : List (Str × Addr)) (fp : List Addr), PTs (X.blk s H scope (compEnvC scope cl' C X.env) fp) ifs (tT (Kx.mk X.K px X.w) cl W' fc))
    (he : ∀ (s : Shared) (H : Hp) (C : Addr) (cl' : List (Str × Addr)) (fp : List Addr), PE (X.blk s H scope (compEnvC scope cl' C X.env) fp) elt (tE (Kx.mk X.K px X.w) cl W' fe)) :
    PS X (.Assign [.Name y py] (.ListComp elt [⟨tg, iter, ifs, 0⟩] scope pos) spos) (tS (Kx.mk X.K px X.w) cl W (dSet i k (dLc ids t fa fc fe))) := by
  subst hid
  refine psI (ps_setLc hc hN hy hyl hsw hi ok hg ht he hs) fun D σ H ⟨F, e, r, p⟩ => ?_
  exact lc_turn hin σ H _ ⟨F, e, r, POS.bd (.refl r) p fun u e1 F1 H1 z a1 f1 v1 n1 p1 => put_ok a1 v1 n1 p1⟩
end
end Ev
end

section
set_option Elab.async false
set_option linter.all false
set_option maxRecDepth 100000
set_option maxHeartbeats 2000000
namespace Ev
open PySem PySem.Spec PyProof.Rows L2
/-! ## groups: for t in it: g.setdefault(k, []).append(v) -/
section
variable {K : Kx} {F F' F0 F1 F2 F3 : As} {e e' e0 e1 e2 e3 : En} {σ σ' σ0 σ1 σ2 σ3 : L2.St} {H H' H0 H1 H2 H3 : Hp} {i : Nat} {D : Addr}
def KeyE (K : Kx) (F : As) (H : Hp) (x : NestedKey × Addr × Value) : Prop := ∃ kd, keyN kd = some x.1 ∧ x.1.depth ≤ 8 ∧ Rep K F H (.ref x.2.1) kd
/-- no one's but the dict's -/
def Prv (F : As) (e : En) (σ : L2.St) (H0 : Hp) (a : Addr) : Prop := ¬ F a ∧ ¬ OwnA e σ a ∧ H0 a = none
def EntG (K : Kx) (F : As) (H : Hp) (Z : Addr → Prop) (x : NestedKey × Addr × Value) (d : PyData × PyData) : Prop :=
  keyN d.1 = some x.1 ∧ x.1.depth ≤ 8 ∧ Rep K F H (.ref x.2.1) d.1 ∧ ∃ a ws ds, x.2.2 = .ref a ∧ Z a ∧ H a = some (.lst ws) ∧ d.2 = .list ds ∧ RepL K F H ws ds
structure Gp (K : Kx) (i : Nat) (D : Addr) (F0 : As) (e0 : En) (σ0 : L2.St) (H0 : Hp) (F : As) (e : En) (σ : L2.St) (H : Hp) (xs : List (NestedKey × Addr × Value)) (acc : List (PyData × PyData)) : Prop where
  at_ : At K F0 e0 σ0 H0 F e σ H
  sl : σ[i]? = some (some (.ref D))
  nf : ¬ F D
  no : ¬ OwnA e σ D
  mt : MutA e0 σ0 D
  dc : ∃ od, H D = some (dctO K.w D xs od)
  es : Paired (EntG K F H (Prv F e σ H0)) xs acc
  nd : (xs.map (·.2.2)).Nodup
theorem Prv.step {a : Addr} {o : HO} (h : H a = some o) (f : Fr F e σ H F1 e1 σ1 H1) (p : Prv F e σ H0 a) : Prv F1 e1 σ1 H0 a := by
  refine ⟨fun q => ?_, fun q => ?_, p.2.2⟩
  · rcases f.new a q with q | q | q
    · exact p.1 q
    · exact p.2.1 q
    · rw [h] at q; cases q
  · rcases f.own a q with q | q
    · exact p.2.1 q
    · rw [h] at q; cases q
theorem EntG.step {x : NestedKey × Addr × Value} {d : PyData × PyData} (r : Rel K F e σ H) (f : Fr F e σ H F1 e1 σ1 H1) (h : EntG K F H (Prv F e σ H0) x d) : EntG K F1 H1 (Prv F1 e1 σ1 H0) x d := by
  obtain ⟨h1, h2, h3, a, ws, ds, h4, n, h5, h6, h7⟩ := h
  exact ⟨h1, h2, h3.mono f.grow (f.keepF r), a, ws, ds, h4, n.step h5 f, f.keep _ _ h5 fun m => n.2.1 m.own, h6, h7.mono f.grow (f.keepF r)⟩
theorem Gp.step {xs : List (NestedKey × Addr × Value)} {acc : List (PyData × PyData)} (l : Gp K i D F0 e0 σ0 H0 F e σ H xs acc) (r : Rel K F1 e1 σ1 H1) (f : Fr F e σ H F1 e1 σ1 H1) (hs : σ1[i]? = σ[i]?) : Gp K i D F0 e0 σ0 H0 F1 e1 σ1 H1 xs acc := by
  obtain ⟨od, h⟩ := l.dc
  refine ⟨l.at_.step r f, hs.trans l.sl, fun q => ?_, fun q => ?_, l.mt, ⟨od, f.keep _ _ h fun m => l.no m.own⟩, Paired.mapP l.es fun _ _ z => z.step l.at_.r f, l.nd⟩
  · rcases f.new D q with q | q | q
    · exact l.nf q
    · exact l.no q
    · rw [h] at q; cases q
  · rcases f.own D q with q | q
    · exact l.no q
    · rw [h] at q; cases q
/-- the dict under way is hidden -/
theorem Rel.setNo (r : Rel K F e σ H) : Rel K F (setS e i .no) σ H := by
  refine ⟨setS_length.trans r.len, r.dom, fun j => ?_, fun j l a h1 h2 => ?_⟩
  · by_cases hi : i < e.length
    · rw [getS_setS hi]
      split
      · trivial
      · exact r.slot j
    · rw [setS_self hi]; exact r.slot j
  · refine r.apart j l a ?_ ?_
    · obtain ⟨⟨l', k, x, z⟩, s⟩ := h1
      by_cases hi : i < e.length
      · rw [getS_setS hi] at z
        split at z
        · cases z
        · exact ⟨⟨l', k, x, z⟩, s⟩
      · rw [setS_self hi] at z; exact ⟨⟨l', k, x, z⟩, s⟩
    · obtain ⟨⟨l', k, x, z⟩, s⟩ := h2
      by_cases hi : i < e.length
      · rw [getS_setS hi] at z
        split at z
        · cases z
        · exact ⟨⟨l', k, x, z⟩, s⟩
      · rw [setS_self hi] at z; exact ⟨⟨l', k, x, z⟩, s⟩
theorem setNo_get {j : Nat} {s : Sl} (h : getS (setS e i .no) j = s) (hs : s ≠ .no) : getS e j = s ∧ j ≠ i ∨ getS e j = s ∧ ¬ i < e.length := by
  by_cases hi : i < e.length
  · rw [getS_setS hi] at h
    split at h
    · exact absurd h.symm hs
    · rename_i c; exact .inl ⟨h, c⟩
  · rw [setS_self hi] at h; exact .inr ⟨h, hi⟩
theorem setNo_at {j : Nat} {s : Sl} (h : getS (setS e i .no) j = s) (hs : s ≠ .no) : getS e j = s := (setNo_get h hs).elim (·.1) (·.1)
theorem Fr.setNo (g : getS e i = .ow false false d) : Fr F e σ H F (setS e i .no) σ H where
  ln := setS_length
  keep := fun _ _ h _ => h
  dom := fun _ h => h
  grow := fun _ h => h
  new := fun _ h => .inl h
  own := fun a ⟨j, ⟨l, k, x, z⟩, s⟩ => .inl ⟨j, ⟨l, k, x, setNo_at z (by simp)⟩, s⟩
  muts := fun a ⟨j, ⟨l, x, z⟩, s⟩ => .inl ⟨j, ⟨l, x, setNo_at z (by simp)⟩, s⟩
  lent := fun j k x z => ⟨⟨k, x, setNo_at z (by simp)⟩, rfl⟩
  lkd := fun j l x z => by
    refine ⟨?_, rfl⟩
    have hi : i < e.length := getS_lt (by rw [g]; simp)
    rw [getS_setS hi, if_neg]
    · exact z
    · rintro rfl
      rw [g] at z; cases z
theorem Gp.start {F : As} (r : Rel K F e σ H) (g : getS e i = .ow false false (.dict [])) : ∃ D, Gp K i D F e σ H F (setS e i .no) σ H [] [] := by
  obtain ⟨D, xs, od, h1, h2, h3, h4⟩ := r.dct g rfl
  cases h4
  refine ⟨D, ⟨r, Fr.setNo g, r.setNo⟩, h1, h2, fun ⟨j, ⟨l, k, x, z⟩, s⟩ => ?_, ⟨i, ⟨_, _, g⟩, h1⟩, ⟨od, h3⟩, .nil, List.nodup_nil⟩
  rcases setNo_get z (by simp) with ⟨z, n⟩ | ⟨z, n⟩
  · exact n (r.apart j i D ⟨⟨l, k, x, z⟩, s⟩ ⟨⟨_, _, _, g⟩, h1⟩)
  · exact n (getS_lt (by rw [g]; simp))
theorem Fr.updM {o : HO} (f : Fr F0 e0 σ0 H0 F e σ H) (m : MutA e0 σ0 D) : Fr F0 e0 σ0 H0 F e σ (upd H D o) :=
  { f with
    keep := fun a u h n => by rw [upd_ne (fun z => n (by rw [z]; exact m))]; exact f.keep a u h n
    dom := fun a h => by
      by_cases z : a = D
      · rw [z, upd_same]; simp
      · rw [upd_ne z]; exact f.dom a h }
theorem EntG.upd {x : NestedKey × Addr × Value} {d : PyData × PyData} {Z : Addr → Prop} {a : Addr} {o : HO} (h : EntG K F H Z x d) (na : x.2.2 ≠ .ref a) (nf : ¬ F a) : EntG K F (upd H a o) Z x d := by
  obtain ⟨h1, h2, h3, b, ws, ds, h4, n, h5, h6, h7⟩ := h
  have kF : ∀ b o', F b → H b = some o' → (L2.upd H a o) b = some o' := fun b o' hb q => by rw [upd_ne (fun z => nf (by rw [← z]; exact hb))]; exact q
  exact ⟨h1, h2, h3.mono (fun _ h => h) kF, b, ws, ds, h4, n, by rw [upd_ne (fun z => na (by rw [h4, z]))]; exact h5, h6, h7.mono (fun _ h => h) kF⟩
theorem lookG {k : NestedKey} {Z : Addr → Prop} : ∀ {xs : List (NestedKey × Addr × Value)} {ds : List (PyData × PyData)}, Paired (EntG K F H Z) xs ds → (lookN k ds).isSome = (atKey xs k).isSome
  | _, _, .nil => rfl
  | _, _, .cons (a := x) (b := p) (l₁ := xs) (l₂ := ds) h t => by
    have ih := lookG (k := k) t
    obtain ⟨h1, _⟩ := h
    obtain ⟨pk, pd⟩ := p
    rw [atKey_cons]
    unfold lookN
    by_cases c : x.1 = k
    · have c' : isKey k pk = true := isKey_iff.mpr (by rw [← c]; exact h1)
      rw [if_pos c', if_pos c]
      rfl
    · have c' : ¬ isKey k pk = true := fun q => by
        have := isKey_iff.mp q
        rw [h1] at this
        cases this
        exact absurd rfl c
      rw [if_neg c', if_neg c]
      exact ih
/-- g.setdefault(k, []), the key new -/
theorem Gp.sd {xs : List (NestedKey × Addr × Value)} {acc : List (PyData × PyData)} {kd : PyData} {k : NestedKey} {b L : Addr} {od : Obj} (l : Gp K i D F0 e0 σ0 H0 F e σ H xs acc) (hk : keyN kd = some k) (hd : k.depth ≤ 8) (rk : Rep K F H (.ref b) kd) (pl : Prv F e σ H0 L) (hL : H L = some (.lst [])) (nL : ∀ x ∈ xs, x.2.2 ≠ .ref L) :
    Gp K i D F0 e0 σ0 H0 F e σ (upd H D (dctO K.w D (xs ++ [(k, b, .ref L)]) od)) (xs ++ [(k, b, .ref L)]) (acc ++ [(kd, .list [])]) := by
  obtain ⟨od0, h⟩ := l.dc
  have kF : ∀ c o', F c → H c = some o' → (upd H D (dctO K.w D (xs ++ [(k, b, .ref L)]) od)) c = some o' := fun c o' hb q => by rw [upd_ne (fun z => l.nf (by rw [← z]; exact hb))]; exact q
  have nD : H0 D ≠ none := (l.at_.r0.own l.mt.own).2
  have aD : ∀ a, Prv F e σ H0 a → a ≠ D := fun a p z => nD (by rw [← z]; exact p.2.2)
  refine ⟨⟨l.at_.r0, l.at_.f.updM l.mt, l.at_.r.updD l.nf l.no fun fs z => (by rw [h] at z; cases z)⟩, l.sl, l.nf, l.no, l.mt, ⟨od, upd_same⟩, Paired.snoc (Paired.mapP l.es fun x d z => ?_) ⟨hk, hd, rk.mono (fun _ h => h) kF, L, [], [], rfl, pl, ?_, rfl, .nil⟩, ?_⟩
  · refine z.upd (fun q => ?_) l.nf
    obtain ⟨_, _, _, a, _, _, h4, n, _⟩ := z
    rw [h4] at q
    cases q
    exact aD _ n rfl
  · rw [upd_ne (aD L pl)]; exact hL
  · rw [List.map_append, List.nodup_append]
    refine ⟨l.nd, by simp, fun a ha b hb => ?_⟩
    obtain ⟨x, hx, rfl⟩ := List.mem_map.mp ha
    simp only [List.map_cons, List.map_nil, List.mem_singleton] at hb
    rw [hb]
    exact nL x hx
theorem Paired.mapMem {α β : Type} {R S : α → β → Prop} : ∀ {xs : List α} {ys : List β}, Paired R xs ys → (∀ a b, a ∈ xs → R a b → S a b) → Paired S xs ys
  | _, _, .nil, _ => .nil
  | _, _, .cons h t, f => .cons (f _ _ (List.mem_cons_self ..) h) (Paired.mapMem t fun a b m => f a b (List.mem_cons_of_mem _ m))
theorem apN_ok {k : NestedKey} {y : PyData} {z : V} {Z : Addr → Prop} : ∀ {xs : List (NestedKey × Addr × Value)} {acc acc' : List (PyData × PyData)} {p : Addr × Value}, Paired (EntG K F H Z) xs acc → atKey xs k = some p → apN k y acc = some acc' → (xs.map (·.2.2)).Nodup → Rep K F H z y → (∀ a, Z a → ¬ F a) →
    ∃ a ws, p.2 = .ref a ∧ Z a ∧ H a = some (.lst ws) ∧ ws.length < sizeLine ∧ Value.ref a ∈ xs.map (·.2.2) ∧ Paired (EntG K F (upd H a (.lst (ws ++ [z]))) Z) xs acc'
  | _, _, _, _, .nil, h, _, _, _, _ => by cases h
  | _, _, acc', p, .cons (a := x) (b := d) (l₁ := xs) (l₂ := ds) h t, ha, hp, nd, rp, zf => by
    rw [atKey_cons] at ha
    obtain ⟨dk, dv⟩ := d
    unfold apN at hp
    rw [List.map_cons, List.nodup_cons] at nd
    by_cases c : x.1 = k
    · have c' : isKey k dk = true := isKey_iff.mpr (by rw [← c]; exact h.1)
      rw [if_pos c] at ha
      rw [if_pos c'] at hp
      cases ha
      obtain ⟨h1, h2, h3, a, ws, es, h4, n, h5, h6, h7⟩ := h
      dsimp only at h6
      subst h6
      dsimp only at hp
      split at hp
      · rename_i cl
        cases hp
        have nf := zf a n
        have kF : ∀ b o', F b → H b = some o' → (upd H a (.lst (ws ++ [z]))) b = some o' := fun b o' hb q => by rw [upd_ne (fun z => nf (by rw [← z]; exact hb))]; exact q
        refine ⟨a, ws, h4, n, h5, by rw [h7.length]; exact lenOk_line cl, by rw [List.map_cons, h4]; simp, .cons ⟨h1, h2, h3.mono (fun _ h => h) kF, a, _, _, h4, n, upd_same, rfl, (h7.append (.cons rp .nil)).mono (fun _ h => h) kF⟩ ?_⟩
        refine Ev.Paired.mapMem t fun x' d' hx' q => q.upd (fun e => nd.1 ?_) nf
        rw [h4, ← e]
        exact List.mem_map.mpr ⟨x', hx', rfl⟩
      · cases hp
    · have c' : ¬ isKey k dk = true := fun q => by
        have := isKey_iff.mp q
        rw [h.1] at this
        cases this
        exact absurd rfl c
      rw [if_neg c] at ha
      rw [if_neg c'] at hp
      obtain ⟨r', q1, rfl⟩ := Option.map_eq_some_iff.mp hp
      obtain ⟨a, ws, w1, w2, w3, w4, w5, w6⟩ := apN_ok t ha q1 nd.2 rp zf
      refine ⟨a, ws, w1, w2, w3, w4, by rw [List.map_cons]; exact List.mem_cons_of_mem _ w5, .cons (h.upd (fun e => nd.1 (by rw [e]; exact w5)) (zf a w2)) w6⟩
theorem Gp.app {xs : List (NestedKey × Addr × Value)} {acc acc' : List (PyData × PyData)} {k : NestedKey} {p : Addr × Value} {y : PyData} {z : V} (l : Gp K i D F0 e0 σ0 H0 F e σ H xs acc) (ha : atKey xs k = some p) (hp : apN k y acc = some acc') (rp : Rep K F H z y) :
    ∃ a ws, p.2 = .ref a ∧ H a = some (.lst ws) ∧ ws.length < sizeLine ∧ Gp K i D F0 e0 σ0 H0 F e σ (upd H a (.lst (ws ++ [z]))) xs acc' := by
  obtain ⟨a, ws, w1, w2, w3, w4, w5, w6⟩ := apN_ok l.es ha hp l.nd rp fun a q => q.1
  obtain ⟨od, h⟩ := l.dc
  have nD : H0 D ≠ none := (l.at_.r0.own l.mt.own).2
  have aD : D ≠ a := fun z => nD (by rw [z]; exact w2.2.2)
  exact ⟨a, ws, w1, w3, w4, ⟨l.at_.r0, l.at_.f.updD w2.2.2, l.at_.r.updD w2.1 w2.2.1 fun fs z => (by rw [w3] at z; cases z)⟩, l.sl, l.nf, l.no, l.mt, ⟨od, by rw [upd_ne aD]; exact h⟩, w6, l.nd⟩
theorem entG_mem {Z : Addr → Prop} : ∀ {xs : List (NestedKey × Addr × Value)} {ds : List (PyData × PyData)}, Paired (EntG K F H Z) xs ds → ∀ x ∈ xs, KeyE K F H x ∧ ∃ a ws, x.2.2 = .ref a ∧ Z a ∧ H a = some (.lst ws)
  | _, _, .nil, x, hx => by cases hx
  | _, _, .cons h t, x, hx => by
    rcases List.mem_cons.mp hx with e | hx
    · rw [e]
      obtain ⟨h1, h2, h3, a, ws, ds, h4, n, h5, h6, h7⟩ := h
      exact ⟨⟨_, h1, h2, h3⟩, a, ws, h4, n, h5⟩
    · exact entG_mem t x hx
theorem atKey_mem {k : NestedKey} {p : Addr × Value} : ∀ {xs : List (NestedKey × Addr × Value)}, atKey xs k = some p → (k, p) ∈ xs
  | [], h => by cases h
  | x :: xs, h => by
    rw [atKey_cons] at h
    split at h
    · rename_i c
      cases h
      rw [← c]
      exact List.mem_cons_self ..
    · exact List.mem_cons_of_mem _ (atKey_mem h)
theorem atKey_snoc {k : NestedKey} {p : Addr × Value} : ∀ {xs : List (NestedKey × Addr × Value)}, atKey xs k = none → atKey (xs ++ [(k, p)]) k = some p
  | [], _ => by rw [List.nil_append, atKey_cons, if_pos rfl]
  | x :: xs, h => by
    rw [atKey_cons] at h
    rw [List.cons_append, atKey_cons]
    split at h
    · cases h
    · rename_i c
      rw [if_neg c]
      exact atKey_snoc h
/-- the lists rest from here on -/
theorem Gp.done {xs : List (NestedKey × Addr × Value)} {acc : List (PyData × PyData)} (l : Gp K i D F0 e0 σ0 H0 F e σ H xs acc) : ∃ F', Rel K F' (setS e i (.ow false false (.dict acc))) σ H ∧ Fr F0 e0 σ0 H0 F' (setS e i (.ow false false (.dict acc))) σ H := by
  obtain ⟨od, hD⟩ := l.dc
  have r := l.at_.r
  have f := l.at_.f
  have hi : i < e.length := by
    rw [r.len]
    exact (List.getElem?_eq_some_iff.mp l.sl).1
  have nD : H0 D ≠ none := (l.at_.r0.own l.mt.own).2
  have inn : ∀ a, Value.ref a ∈ xs.map (·.2.2) → Prv F e σ H0 a ∧ H a ≠ none := fun a h => by
    obtain ⟨x, hx, ex⟩ := List.mem_map.mp h
    obtain ⟨_, b, ws, h4, n, h5⟩ := entG_mem l.es x hx
    rw [h4] at ex
    cases ex
    exact ⟨n, by rw [h5]; simp⟩
  let F' : As := fun a => F a ∨ Value.ref a ∈ xs.map (·.2.2)
  have g : ∀ a, F a → F' a := fun a h => .inl h
  have kk : ∀ b o, F b → H b = some o → H b = some o := fun _ _ _ h => h
  have nDi : ¬ F' D := fun h => h.elim l.nf fun h => nD (inn D h).1.2.2
  have own : ∀ {j a}, OwnAt (setS e i (.ow false false (.dict acc))) σ j a → (j = i ∧ a = D) ∨ (j ≠ i ∧ OwnAt e σ j a) := by
    rintro j a ⟨⟨l', k, x, z⟩, s⟩
    rw [getS_setS hi] at z
    split at z
    · rename_i c
      subst c
      rw [l.sl] at s
      cases s
      exact .inl ⟨rfl, rfl⟩
    · rename_i c
      exact .inr ⟨c, ⟨l', k, x, z⟩, s⟩
  refine ⟨F', ⟨setS_length.trans r.len, fun a h => h.elim (r.dom a) fun h => (inn a h).2, fun j => ?_, fun j m a h1 h2 => ?_⟩, ⟨setS_length.trans f.ln, f.keep, f.dom, fun a h => .inl (f.grow a h), fun a h => h.elim (f.new a) fun h => .inr (.inr (inn a h).1.2.2), fun a ⟨j, h⟩ => ?_, fun a ⟨j, ⟨l', x, z⟩, s⟩ => ?_, fun j k x z => ?_, fun j l' x z => ?_⟩⟩
  · rw [getS_setS hi]
    split
    · rename_i c
      subst c
      refine ⟨D, l.sl, nDi, .dct hD (Ev.Paired.mapMem l.es fun x d hx ⟨h1, h2, h3, a, ws, ds, h4, n, h5, h6, h7⟩ => ⟨h1, h2, h3.mono g kk, .ref a, h4, ?_⟩)⟩
      rw [h6]
      exact .lst (.inr (by rw [← h4]; exact List.mem_map.mpr ⟨x, hx, rfl⟩)) (.inl h5) (h7.mono g kk)
    · have s := r.slot j
      cases q : getS e j with
      | sh d =>
        rw [q] at s
        obtain ⟨v, z1, z2⟩ := s
        exact ⟨v, z1, z2.mono g kk⟩
      | ow l' k' d =>
        rw [q] at s
        obtain ⟨b, z1, z2, z3⟩ := s
        exact ⟨b, z1, fun h => h.elim z2 fun h => (inn b h).1.2.1 ⟨j, ⟨_, _, _, q⟩, z1⟩, z3.mono g kk fun _ h => h⟩
      | no => trivial
      | ex c y =>
        rw [q] at s
        exact s.exm g kk fun _ _ h => h
  · rcases own h1 with ⟨c1, c2⟩ | ⟨c1, c2⟩
    · rcases own h2 with ⟨c3, c4⟩ | ⟨c3, c4⟩
      · rw [c1, c3]
      · rw [c2] at c4
        exact absurd ⟨m, c4⟩ l.no
    · rcases own h2 with ⟨c3, c4⟩ | ⟨c3, c4⟩
      · rw [c4] at c2
        exact absurd ⟨j, c2⟩ l.no
      · exact r.apart j m a c2 c4
  · rcases own h with ⟨c1, c2⟩ | ⟨c1, c2⟩
    · rw [c2]; exact .inl l.mt.own
    · exact f.own a ⟨j, c2⟩
  · rw [getS_setS hi] at z
    split at z
    · rename_i c
      subst c
      rw [l.sl] at s
      cases s
      exact .inl l.mt
    · exact f.muts a ⟨j, ⟨l', x, z⟩, s⟩
  · rw [getS_setS hi] at z
    split at z
    · cases z
    · exact f.lent j k x z
  · obtain ⟨z1, z2⟩ := f.lkd j l' x z
    have c : j ≠ i := by
      rintro rfl
      exact l.no ⟨j, ⟨_, _, _, z1⟩, l.sl⟩
    exact ⟨by rw [getS_setS hi, if_neg c]; exact z1, z2⟩
end
section
variable {X : Cx} {px : Addr → Nat → Addr → Prop} {cl : Nat → Addr} {W : WX} {F F' F0 F1 F2 : As} {e e' e0 e1 e2 : En} {σ σ0 : L2.St} {H H0 H1 H2 : Hp}
/-- D.setdefault(k, []) -/
def rSd (K : Kx) : V → List V → Hp → VK → Prop := fun x vs H Q => ∃ F D xs od kd k b L, x = .ref D ∧ vs = [.ref b, .ref L] ∧ H D = some (dctO K.w D xs od) ∧ (∀ y ∈ xs, KeyE K F H y) ∧ Rep K F H (.ref b) kd ∧ keyT kd = some k ∧ xs.length ≤ lim ∧
  (∀ p, atKey xs k = some p → ∃ a, p.2 = .ref a ∧ Q (.ref a) H) ∧ (atKey xs k = none → ∀ od', Q (.ref L) (upd H D (dctO K.w D (storedH xs k b (.ref L)) od')))
theorem mt_sd (hu : X.A.units + 100 < cLine) : MtR X "dict.setdefault" (rSd (Kx.mk X.K px X.w)) := by
  intro pins s σ H x vs v us Q I rx rxs h
  obtain ⟨F, D, xs, od, kd, k, b, L, rfl, rfl, hp, hks, rk, hk, hl, q1, q2⟩ := h
  cases rx
  obtain ⟨u1, u2, rfl, r1, r2⟩ := Vals.two rxs
  cases r1
  cases r2
  obtain ⟨c1, c2, xs', rfl⟩ := keyT_ok hk
  obtain ⟨⟨d1, o, es, ep, g2, g3, g4, g5, g6⟩, g7⟩ := dct_at (K := Kx.mk X.K px X.w) I hp
  have d2 : s.heap.DictOfH (nestedKind X.prog X.w) D xs := ⟨o, es, ep, g2, g3, g4, g5, (fun y hy => (by
    obtain ⟨kd', w1, w2, w3⟩ := hks y hy
    exact ⟨nest_ok I w3 w1 rfl, w2⟩)), g6⟩
  refine call_setdefault_heap (knd := nestedKind X.prog X.w) (by show X.A.in1.units + 8 < cLine; show X.A.units + 1 + 8 < cLine; omega) ⟨nest_ok I rk c1 rfl, c2⟩ d1 d2 (fun p hp' => ?_) (fun hn h' hm hs => ?_) (by rw [sizeLine_eq]; unfold lim at hl; omega)
  · obtain ⟨a, e1, q⟩ := q1 p hp'
    exact ⟨.ref a, H, I.tok _, e1, q⟩
  · obtain ⟨o, es, ep, g1, g2, g3, g4, _, g6⟩ := hm
    exact ⟨.ref L, _, I.write (x := D) (e := D) (o := dctO X.w D (storedH xs k b (.ref L)) o) (t' := _) (by rw [hp]; exact True.intro) (.inl rfl) (fun b' o' n e => (hs.2 b' n).trans e) ⟨_, g1⟩ (dct_ok ⟨d1, o, es, ep, g1, g2, g3, g4, g6⟩ g1), rfl, q2 hn o⟩
def tSd (K : Kx) (to : TE) (t : TA) : TE := fun σ H Q => to σ H fun x H1 => (∃ D xs od, x = .ref D ∧ H1 D = some (dctO K.w D xs od)) ∧ t σ H1 fun vs H2 => rSd K x vs H2 Q
theorem pe_sd {o e1 : Expr} {es : List Expr} {to : TE} {t : TA} {apos cpos : Pos} (hu : X.A.units + 100 < cLine) (ho : PE X o to) (ha : PA X (e1 :: es) t)
    (hbase : attributeBase o "setdefault" X.env (eval o X.env) = eval o X.env)
    (hfew : ((backTo cpos (starEach (e1 :: es) X.env)).all (fun x => !x.1) && (backToKw cpos (keywordEach [] X.env)).all (fun x => x.1.isSome) && decide ((e1 :: es).length + ([] : List Keyword).length + (if ([] : List Keyword).isEmpty then 0 else 1) < 30)) = true)
    (hline : (apos.endLine == cpos.line) = true) (hs : starEach (e1 :: es) X.env = (false, eval e1 X.env) :: starEach es X.env) (hplain : (backTo cpos (starEach es X.env)).any (·.1) = false) :
    PE X (.Call (.Attribute o "setdefault" apos) (e1 :: es) [] cpos) (tSd (Kx.mk X.K px X.w) to t) := by
  refine ⟨fun pins s σ H Q I h => ?_⟩
  refine wpAny_Call_method_late hbase hfew hline rfl (thn (ho.run pins s σ H _ I h) fun v s1 ⟨x, H1, I1, r1, ty, q1⟩ => ?_)
  obtain ⟨a, xs, od, rfl, hka⟩ := ty
  obtain ⟨⟨d1, o, es', ep, g2, g3, g4⟩, g7⟩ := dct_at (K := Kx.mk X.K px X.w) I1 hka
  cases r1
  refine ⟨"dict", "dict.setdefault", F.plainAttrs_dict, F.slot_dict_setdefault, F.type_dict_setdefault, ⟨o, g2, g3.1⟩, fun b z => (by cases z; exact ⟨o, g2, g3.2.1⟩), ?_⟩
  have hA := ha.run cpos pins s1 σ H1 _ I1 q1
  rw [hs] at hA ⊢
  refine Calls.callWith_builtin (by show (false || (backTo cpos (starEach es X.env)).any (·.1)) = false; rw [hplain] <;> rfl) (Calls.evalArgs_plain ?_)
  exact thn hA fun us s2 ⟨vs, H2, I2, r2, q2⟩ => mt_sd hu pins s2 σ H2 (.ref a) vs (.ref a) us Q I2 rfl r2 q2
theorem s_grp {i : Nat} {t : Tg} {x : Str} {tg it k1 k2 v : Expr} {fa fb fc : En → R} {xp ap1 cp1 ap2 cp2 pos fpos : Pos} (hu : X.A.units + 100 < cLine) (hp : PassesOwn (model X.prog X.w) X.A X.env X.xe) (hc : X.calm = true) (hs : ∀ x, foldedSetIterable it X.env x = pure x)
    (hN : X.N[i]? = some x) (hv : Vis X.env.scope x) (hd : (x == ("__debug__" : Str)) = false) (hcd : (x == ("__classdict__" : Str)) = false)
    (n1 : notStar k1 = true) (n2 : notStar k2 = true) (n3 : notStar v = true) (hl1 : (ap1.endLine == cp1.line) = true) (hl2 : (ap2.endLine == cp2.line) = true)
    (hi : PI X tg it (tI (Kx.mk X.K px X.w) cl W fa)) (hg : PG X tg (tG (Kx.mk X.K px X.w) t)) (hb : PA X [k1, k2] (tA (Kx.mk X.K px X.w) cl W fb)) (hw : PE X v (tE (Kx.mk X.K px X.w) cl W fc)) :
    PS X (.For tg it [.Expr (.Call (.Attribute (.Call (.Attribute (.Name x xp) "setdefault" ap1) [k1, k2] [] cp1) "append" ap2) [v] [] cp2) pos] [] fpos) (tS (Kx.mk X.K px X.w) cl W (dGrp i t fa fb fc)) := by
  have few2 : ((backTo cp1 (starEach [k1, k2] X.env)).all (fun x => !x.1) && (backToKw cp1 (keywordEach [] X.env)).all (fun x => x.1.isSome) && decide (([k1, k2] : List Expr).length + ([] : List Keyword).length + (if ([] : List Keyword).isEmpty then 0 else 1) < 30)) = true := by
    rw [starEach_cons n1, starEach_cons n2]; rfl
  have few1 : ((backTo cp2 (starEach [v] X.env)).all (fun x => !x.1) && (backToKw cp2 (keywordEach [] X.env)).all (fun x => x.1.isSome) && decide (([v] : List Expr).length + ([] : List Keyword).length + (if ([] : List Keyword).isEmpty then 0 else 1) < 30)) = true := by
    rw [starEach_cons n3]; rfl
  have hst := ps_expr (pos := pos) (pe_bm (r := rAppend) F.plainAttrs_list F.slot_list_append F.type_list_append mt_append (pe_sd (px := px) (cpos := cp1) (apos := ap1) hu (pe_var (pos := xp) hN hv hd hcd) hb rfl few2 hl1 (starEach_cons n1) (by rw [starEach_cons n2]; rfl)) (pa_cons hw pa_nil (starEach_cons n3)) rfl few1 hl2 (starEach_cons n3) rfl) rfl
  refine psI (ps_for hp hc hi hg (pss_one hst) hs) fun D σ H ⟨F, e, r, p⟩ => ⟨F, e, r, ?_⟩
  unfold dGrp at p
  cases q : fa e with
  | ex c a e1 => rw [q] at p; exact fun F' H' dx r' f' v => p F' σ H' dx r' f' v
  | its xs ls e2 =>
    rw [q] at p
    dsimp only at p
    intro J F1 e1 H1 r1 f1 k yl0
    have yl := yl0 H1 .refl
    have r2 : Rel (Kx.mk X.K px X.w) F1 e2 σ H1 := k.rel r1
    split at p
    · rename_i g
      split at p
      · exact p.elim
      · rename_i hni
        have hni : i ∉ t.ids := fun h => hni (by simpa using h)
        obtain ⟨C, l0⟩ := Gp.start r2 g
        refine ⟨fun n m σ' H' => n + m = xs.length ∧ ∃ F' e' es acc, Gp (Kx.mk X.K px X.w) i C F1 e2 σ H1 F' e' σ' H' es acc ∧ POS (Kx.mk X.K px X.w) cl W F e σ H D (grpL i t fb fc (xs.drop n) acc e' fun acc e2 => if dctB acc then .nx (unlock ls (setS e2 i (.ow false false (.dict acc)))) else .bad),
          ⟨xs.length, by simp, F1, _, [], [], l0, by simpa using p⟩, fun n m σ' H' ⟨hm, F', e', es, acc, l, pl⟩ => ?_⟩
        obtain ⟨go, stop⟩ := yl n F' e' σ' H' l.at_.r l.at_.f
        by_cases hl : xs.length ≤ n
        · rw [List.drop_eq_nil_of_le hl] at pl
          refine .inl ⟨stop hl, ?_⟩
          unfold grpL at pl
          dsimp only at pl
          split at pl
          · obtain ⟨F2, r3, f3⟩ := l.done
            exact pl F2 σ' H' (unlock_rel r3) (f1.trans r (unlock_fr k f3))
          · exact pl.elim
        · have hi : n < xs.length := by omega
          obtain ⟨g1, g2⟩ := go xs[n] (List.getElem?_eq_getElem hi)
          rw [List.drop_eq_getElem_cons hi] at pl
          refine .inr ⟨g1, fun σ3 H3 => ∃ F3 e3 es3 acc3, Gp (Kx.mk X.K px X.w) i C F1 e2 σ H1 F3 e3 σ3 H3 es3 acc3 ∧ POS (Kx.mk X.K px X.w) cl W F e σ H D (grpL i t fb fc (xs.drop (n + 1)) acc3 e3 fun acc e2 => if dctB acc then .nx (unlock ls (setS e2 i (.ow false false (.dict acc)))) else .bad),
            fun σ3 H3 ⟨F3, e3, es3, acc3, l3, p3⟩ => ⟨m - 1, by omega, by omega, F3, e3, es3, acc3, l3, p3⟩, fun z H2 hy => ?_⟩
          obtain ⟨F2, r3, f3, rp⟩ := g2 z H2 hy
          have l3 := l.step r3 f3 rfl
          unfold grpL at pl
          refine ⟨F2, e', xs[n], r3, rp, ?_⟩
          cases q2 : asg t xs[n] e' with
          | none => rw [q2] at pl; exact pl.elim
          | some e4 =>
            rw [q2] at pl
            dsimp only at pl
            intro σ4 r4 f4 s4 n4
            have l4 := l3.step r4 f4 (s4 i hni)
            obtain ⟨od4, hC4⟩ := l4.dc
            refine ⟨.ref C, l4.sl, ⟨C, es, od4, rfl, hC4⟩, F2, e4, r4, ?_⟩
            split at pl
            · rename_i kd e5 q3
              split at pl
              · rename_i kk hk
                split at pl
                · rename_i hlen
                  rw [q3]
                  intro F5 H5 zs r5 f5 v5
                  have l5 := l4.step r5 f5 rfl
                  have cont : ∀ es' H6, Gp (Kx.mk X.K px X.w) i C F1 e2 σ H1 F5 e5 σ4 H6 es' (sdN kd kk acc) → ∀ p a, atKey es' kk = some p → p.2 = .ref a → tyV X.K "list" (.ref a) H6 ∧ tCons (tE (Kx.mk X.K px X.w) cl W fc) tNil σ4 H6 fun ws H2 => rAppend (.ref a) ws H2 fun _ H7 => ∃ F3 e3 es3 acc3, Gp (Kx.mk X.K px X.w) i C F1 e2 σ H1 F3 e3 σ4 H7 es3 acc3 ∧ POS (Kx.mk X.K px X.w) cl W F e σ H D (grpL i t fb fc (xs.drop (n + 1)) acc3 e3 fun acc e2 => if dctB acc then .nx (unlock ls (setS e2 i (.ow false false (.dict acc)))) else .bad) := by
                    intro es' H6 l6 p a hpa ea
                    obtain ⟨_, a', ws, w1, w2, w3⟩ := entG_mem l6.es _ (atKey_mem hpa)
                    have e9 : a' = a := by
                      have := w1.symm.trans ea
                      cases this
                      rfl
                    subst e9
                    refine ⟨.inl ⟨rfl, ws, .inl (.inl w3)⟩, F5, e5, l6.at_.r, ?_⟩
                    cases q6 : fc e5 with
                    | ok u e7 =>
                      rw [q6] at pl
                      dsimp only at pl
                      intro F7 H7 z7 r7 f7 v7 n7
                      cases q7 : take e7 u with
                      | none => rw [q7] at pl; exact pl.elim
                      | some q' =>
                        obtain ⟨y, e8⟩ := q'
                        rw [q7] at pl
                        dsimp only at pl
                        obtain ⟨F8, r8, f8, rp8, g8, _, _, _⟩ := take_ok r7 f7 v7 n7 q7
                        have l8 := l6.step r8 f8 rfl
                        split at pl
                        · rename_i acc' hap
                          obtain ⟨a2, ws2, x1, x2, x3, l9⟩ := l8.app hpa hap rp8
                          have e10 : a2 = a' := by
                            have := x1.symm.trans ea
                            cases this
                            rfl
                          subst e10
                          exact ⟨a2, ws2, z7, rfl, rfl, x2, x3, F8, e8, es', acc', l9, pl⟩
                        · exact pl.elim
                    | _ => rw [q6] at pl; exact pl.elim
                  match zs, v5 with
                  | [z1, z2], ⟨v1, _, _, v2, nw2, _⟩ =>
                    obtain ⟨L, rfl, nL, oL, rL⟩ := v2
                    obtain ⟨hL⟩ : Nonempty (H5 L = some (.lst [])) := by
                      cases rL with
                      | lst h1 h2 => cases h2; exact ⟨h1⟩
                    obtain ⟨c1, c2, xs', rfl⟩ := keyT_ok hk
                    obtain ⟨b, rfl⟩ : ∃ b, z1 = .ref b := by
                      cases v1 <;> exact ⟨_, rfl⟩
                    obtain ⟨od5, hC5⟩ := l5.dc
                    have len : es.length = acc.length := Paired.length l5.es
                    have lk := lookG (k := kk) l5.es
                    have hL2 : H2 L = none := nw2 L rfl
                    refine ⟨F5, C, es, od5, _, kk, b, L, rfl, rfl, hC5, fun y hy => (entG_mem l5.es y hy).1, v1, hk, ?_, fun p hpa => ?_, fun hn od' => ?_⟩
                    · unfold lenOk at hlen
                      rw [Nat.ble_eq] at hlen
                      omega
                    · obtain ⟨_, a, ws, w1, w2, w3⟩ := entG_mem l5.es _ (atKey_mem hpa)
                      refine ⟨a, w1, cont es H5 ?_ p a hpa w1⟩
                      have : sdN (.tuple xs') kk acc = acc := by
                        unfold sdN
                        rw [hpa] at lk
                        cases q9 : lookN kk acc with
                        | some d => rfl
                        | none => rw [q9] at lk; cases lk
                      rw [this]
                      exact l5
                    · rw [storedH_new hn]
                      refine cont (es ++ [(kk, b, .ref L)]) _ ?_ (b, .ref L) L (atKey_snoc hn) rfl
                      have : sdN (.tuple xs') kk acc = acc ++ [(.tuple xs', .list [])] := by
                        unfold sdN
                        rw [hn] at lk
                        cases q9 : lookN kk acc with
                        | some d => rw [q9] at lk; cases lk
                        | none => rfl
                      rw [this]
                      refine l5.sd c1 c2 v1 ⟨nL, oL, ?_⟩ hL fun x hx ex => ?_
                      · cases q9 : H1 L with
                        | none => rfl
                        | some o => exact absurd hL2 (l4.at_.f.dom L (by rw [q9]; simp))
                      · obtain ⟨_, a, ws, w1, w2, w3⟩ := entG_mem l4.es x hx
                        rw [ex] at w1
                        cases w1
                        rw [hL2] at w3
                        cases w3
                · exact pl.elim
              · exact pl.elim
            · exact pl.elim
    · exact p.elim
  | _ => rw [q] at p; exact p.elim
end
end Ev
end

section
set_option Elab.async false
set_option linter.all false
set_option maxRecDepth 100000
set_option maxHeartbeats 2000000
namespace Ev
open PySem PySem.Spec PyProof.Rows L2
/-! ## calls -/
section
variable {K : Kx} {F F' F0 F1 F2 F3 : As} {e e' e0 e1 e2 e3 : En} {σ σ' σ0 σ1 σ2 σ3 : L2.St} {H H' H0 H1 H2 H3 : Hp} {cl : Nat → Addr} {W : WX}
theorem take_slots {u : Vl} {x : PyData} (q : take e u = some (x, e')) : (∀ j l k y, getS e' j = .ow l k y → getS e j = .ow l k y) ∧ (∀ j l y, getS e j = .ow l true y → getS e' j = .ow l true y) ∧ ∀ j, getS e j = .no → getS e' j = .no := by
  cases u with
  | d y => cases q; exact ⟨fun _ _ _ _ h => h, fun _ _ _ h => h, fun _ h => h⟩
  | o y =>
    have ee : e = e' := by cases y <;> first | (cases q; rfl) | cases q
    subst ee
    exact ⟨fun _ _ _ _ h => h, fun _ _ _ h => h, fun _ h => h⟩
  | p i =>
    unfold take at q
    dsimp only at q
    split at q
    · cases q
    · rename_i y _ g
      cases q
      have hi : i < e.length := getS_lt (by rw [g]; simp)
      refine ⟨fun j l k y h => ?_, fun j l y h => ?_, fun j h => ?_⟩
      · rw [getS_setS hi] at h
        split at h
        · cases h
        · exact h
      · rw [getS_setS hi, if_neg]
        · exact h
        · intro c; subst c; rw [g] at h; cases h
      · rw [getS_setS hi, if_neg]
        · exact h
        · intro c; subst c; rw [g] at h; cases h
    · cases q; exact ⟨fun _ _ _ _ h => h, fun _ _ _ h => h, fun _ h => h⟩
    · cases q
/-- a slot forgotten -/
theorem drop_ownAt {i j : Nat} {a : Addr} (h : OwnAt (setS e i .no) σ j a) : j ≠ i ∧ OwnAt e σ j a := by
  by_cases hi : i < e.length
  · obtain ⟨⟨l, k, x, h1⟩, h2⟩ := h
    rw [getS_setS hi] at h1
    split at h1
    · cases h1
    · rename_i c; exact ⟨c, ⟨l, k, x, h1⟩, h2⟩
  · rw [setS_self hi] at h
    refine ⟨fun c => ?_, h⟩
    subst c
    obtain ⟨⟨l, k, x, h1⟩, _⟩ := h
    exact hi (getS_lt (by rw [h1]; simp))
theorem drop_get {i j : Nat} (h : getS (setS e i .no) j ≠ .no) : getS (setS e i .no) j = getS e j ∧ j ≠ i := by
  by_cases hi : i < e.length
  · rw [getS_setS hi] at h ⊢
    split
    · rename_i c; rw [if_pos c] at h; exact absurd rfl h
    · rename_i c; exact ⟨rfl, c⟩
  · rw [setS_self hi] at h ⊢
    refine ⟨rfl, fun c => ?_⟩
    subst c
    exact h (getS_none hi)
theorem Rel.drop {i : Nat} (r : Rel K F e σ H) : Rel K F (setS e i .no) σ H := by
  refine ⟨by rw [setS_length]; exact r.len, r.dom, fun j => ?_, fun j k a h1 h2 => r.apart j k a (drop_ownAt h1).2 (drop_ownAt h2).2⟩
  by_cases c : getS (setS e i .no) j = .no
  · rw [c]; trivial
  · rw [(drop_get c).1]; exact r.slot j
theorem At.drop {i : Nat} {l : Bool} {x : PyData} (a : At K F0 e0 σ0 H0 F e σ H) (g : getS e i = .ow l false x) : At K F0 e0 σ0 H0 F (setS e i .no) σ H := by
  refine ⟨a.r0, ⟨setS_length.trans a.f.ln, a.f.keep, a.f.dom, a.f.grow, a.f.new, fun b ⟨j, h⟩ => a.f.own b ⟨j, (drop_ownAt h).2⟩, fun b ⟨j, ⟨l', y, h1⟩, h2⟩ => ?_, fun j k y h => ?_, fun j l' y h => ?_⟩, a.r.drop⟩
  · exact a.f.muts b ⟨j, ⟨l', y, by rw [← (drop_get (by rw [h1]; simp)).1]; exact h1⟩, h2⟩
  · exact a.f.lent j k y (by rw [← (drop_get (by rw [h]; simp)).1]; exact h)
  · obtain ⟨h1, h2⟩ := a.f.lkd j l' y h
    have hi : i < e.length := getS_lt (by rw [g]; simp)
    refine ⟨?_, h2⟩
    rw [getS_setS hi, if_neg]
    · exact h1
    · intro c; subst c; rw [g] at h1; cases h1
/-- a is none of the fresh objects -/
def Off (a : Addr) : List V → List Vl → Prop
  | z :: zs, .o _ :: us => z ≠ .ref a ∧ Off a zs us
  | _ :: zs, _ :: us => Off a zs us
  | _, _ => True
theorem off_own {a : Addr} (h : OwnA e σ a) : ∀ {zs : List V} {us : List Vl}, VRs K F e σ H H0 zs us → Off a zs us
  | [], [], _ => trivial
  | z :: zs, u :: us, v => by
    cases u with
    | o x =>
      refine ⟨fun c => ?_, off_own h v.2.2.2⟩
      obtain ⟨b, eb, _, no, _⟩ := v.1
      rw [c] at eb
      cases eb
      exact no h
    | d x => exact (show Off a zs us from off_own h v.2.2.2)
    | p i => exact (show Off a zs us from off_own h v.2.2.2)
  | [], _ :: _, v => v.elim
  | _ :: _, [], v => v.elim
theorem off_ap {a : Addr} {x : PyData} : ∀ {zs : List V} {us : List Vl}, Ap (.ref a) (.o x) zs us → Off a zs us
  | [], [], _ => trivial
  | [], _ :: _, _ => trivial
  | _ :: _, [], _ => trivial
  | z :: zs, u :: us, v => by
    cases u with
    | o y => exact ⟨v.1, off_ap v.2⟩
    | d y => exact (show Off a zs us from off_ap (x := x) (zs := zs) (us := us) v)
    | p i => exact (show Off a zs us from off_ap (x := x) (zs := zs) (us := us) v)
theorem off_tail {a : Addr} {z : V} {u : Vl} {zs : List V} {us : List Vl} (h : Off a (z :: zs) (u :: us)) : Off a zs us := by
  cases u with
  | o y => exact h.2
  | d y => exact h
  | p i => exact h
/-- the slots of parameters, one more ahead -/
theorem Rel.cons {z : V} {s : Sl} {sl : List Sl} {zs : L2.St} (r : Rel K F sl zs H) (h : SlotOk K F H s (some (some z))) (n : ∀ l k x a, s = .ow l k x → z = .ref a → ¬ OwnA sl zs a) : Rel K F (s :: sl) (some z :: zs) H := by
  refine ⟨by simp [r.len], r.dom, fun i => ?_, fun i j a h1 h2 => ?_⟩
  · cases i with
    | zero => exact h
    | succ i => simpa [getS] using r.slot i
  · cases i with
    | zero =>
      cases j with
      | zero => rfl
      | succ j =>
        obtain ⟨⟨l, k, x, g1⟩, g2⟩ := h1
        obtain ⟨g3, g4⟩ := h2
        exact absurd ⟨j, g3, by simpa using g4⟩ (n l k x a g1 (by simpa using g2))
    | succ i =>
      cases j with
      | zero =>
        obtain ⟨⟨l, k, x, g1⟩, g2⟩ := h2
        obtain ⟨g3, g4⟩ := h1
        exact absurd ⟨i, g3, by simpa using g4⟩ (n l k x a g1 (by simpa using g2))
      | succ j =>
        obtain ⟨g1, g2⟩ := h1
        obtain ⟨g3, g4⟩ := h2
        exact congrArg _ (r.apart i j a ⟨g1, by simpa using g2⟩ ⟨g3, by simpa using g4⟩)
theorem own_cons {z : V} {s : Sl} {sl : List Sl} {zs : L2.St} {a : Addr} (h : OwnA (s :: sl) (some z :: zs) a) : (z = .ref a ∧ ∃ l k x, s = .ow l k x) ∨ OwnA sl zs a := by
  obtain ⟨i, g1, g2⟩ := h
  cases i with
  | zero => exact .inl ⟨by simpa using g2, g1⟩
  | succ i => exact .inr ⟨i, g1, by simpa using g2⟩
/-- what binding gives -/
structure Bd (K : Kx) (F0 : As) (e0 : En) (σ0 : L2.St) (H0 : Hp) (F : As) (e : En) (σ : L2.St) (H : Hp) (zs : List V) (vs : List Vl) (sl : List Sl) (ms : List (Option (Nat × Bool))) (e2 : En) (F2 : As) : Prop where
  at_ : At K F0 e0 σ0 H0 F2 e2 σ H
  grow : ∀ a, F a → F2 a
  rel : Rel K F2 sl (zs.map some) H
  ml : ms.length = zs.length
  off : ∀ a, ¬ F a → ¬ OwnA e σ a → Off a zs vs → ¬ F2 a ∧ ¬ OwnA e2 σ a ∧ ¬ OwnA sl (zs.map some) a
  apart : ∀ a, OwnA sl (zs.map some) a → ¬ OwnA e2 σ a
  muts : ∀ a, OwnA sl (zs.map some) a → MutA e σ a ∨ H0 a = none
  slots : ∀ j l k x, getS e2 j = .ow l k x → getS e j = .ow l k x
  lkd : ∀ j l x, getS e j = .ow l true x → getS e2 j = .ow l true x
  nos : ∀ j, getS e j = .no → getS e2 j = .no
  back : ∀ (k i : Nat) (l : Bool), ms[k]? = some (some (i, l)) → σ[i]? = (zs.map some)[k]? ∧ getS e2 i = .no ∧ i < e2.length ∧ ∃ x, getS e i = .ow l false x
  nol : ∀ j l k x, getS sl j = .ow l k x → l = true ∧ k = false
theorem At.mk' (a : At K F0 e0 σ0 H0 F e σ H) (r : Rel K F1 e1 σ H) (f : Fr F0 e0 σ0 H0 F1 e1 σ H) : At K F0 e0 σ0 H0 F1 e1 σ H := ⟨a.r0, f, r⟩
theorem Bd.sh {z : V} {x : PyData} {v : Vl} {zs : List V} {vs : List Vl} {sl : List Sl} {ms : List (Option (Nat × Bool))} (a : At K F0 e0 σ0 H0 F e σ H) (a1 : At K F0 e0 σ0 H0 F1 e1 σ H) (g : ∀ b, F b → F1 b) (rp : Rep K F1 H z x) (nw : ∀ b, F1 b → F b ∨ OwnA e σ b ∨ ∃ y, v = .o y ∧ z = .ref b)
    (o1 : ∀ b, OwnA e1 σ b → OwnA e σ b) (s1 : (∀ j l k y, getS e1 j = .ow l k y → getS e j = .ow l k y) ∧ (∀ j l y, getS e j = .ow l true y → getS e1 j = .ow l true y) ∧ ∀ j, getS e j = .no → getS e1 j = .no) (b : Bd K F0 e0 σ0 H0 F1 e1 σ H zs vs sl ms e2 F2) : Bd K F0 e0 σ0 H0 F e σ H (z :: zs) (v :: vs) (.sh x :: sl) (none :: ms) e2 F2 where
  at_ := b.at_
  grow := fun c h => b.grow c (g c h)
  rel := b.rel.cons ⟨z, rfl, rp.mono b.grow fun _ _ _ h => h⟩ (fun _ _ _ _ h _ => by cases h)
  ml := by simp [b.ml]
  off := fun c nf no off => by
    have nf1 : ¬ F1 c := fun h => by
      rcases nw c h with h | h | ⟨y, rfl, h⟩
      · exact nf h
      · exact no h
      · exact off.1 h
    obtain ⟨h1, h2, h3⟩ := b.off c nf1 (fun h => no (o1 c h)) (off_tail off)
    refine ⟨h1, h2, fun h => ?_⟩
    rcases own_cons h with ⟨_, _, _, _, h⟩ | h
    · cases h
    · exact h3 h
  apart := fun c h => by
    rcases own_cons h with ⟨_, _, _, _, h⟩ | h
    · cases h
    · exact b.apart c h
  muts := fun c h => by
    rcases own_cons h with ⟨_, _, _, _, h⟩ | h
    · cases h
    · exact (b.muts c h).imp (fun ⟨j, ⟨l, y, h1⟩, h2⟩ => ⟨j, ⟨l, y, s1.1 j l false y h1⟩, h2⟩) id
  slots := fun j l k y h => s1.1 j l k y (b.slots j l k y h)
  lkd := fun j l y h => b.lkd j l y (s1.2.1 j l y h)
  nos := fun j h => b.nos j (s1.2.2 j h)
  back := fun k i l h => by
    cases k with
    | zero => simp at h
    | succ k =>
      obtain ⟨h1, h2, h3, y, h4⟩ := b.back k i l (by simpa using h)
      exact ⟨by simpa using h1, h2, h3, y, s1.1 i l false y h4⟩
  nol := fun j l k y h => by
    cases j with
    | zero => cases h
    | succ j => exact b.nol j l k y h
theorem bindA_ok : ∀ {ls : List Bool} {vs : List Vl} {zs : List V} {e : En} {F : As} {sl : List Sl} {ms : List (Option (Nat × Bool))} {e2 : En}, At K F0 e0 σ0 H0 F e σ H → VRs K F e σ H H0 zs vs → bindA ls vs e = some (sl, ms, e2) → ∃ F2, Bd K F0 e0 σ0 H0 F e σ H zs vs sl ms e2 F2
  | [], [], [], e, F, sl, ms, e2, a, _, h => by
    cases h
    have none : ∀ (i : Nat) (l k : Bool) (x : PyData), getS [] i ≠ .ow l k x := fun i l k x h => by cases i <;> cases h
    have nown : ∀ b : Addr, ¬ OwnA ([] : En) (([] : List V).map some) b := fun b ⟨i, ⟨l, k, x, h⟩, _⟩ => none i l k x h
    have r0 : Rel K F [] (([] : List V).map some) H := ⟨rfl, a.r.dom, fun i => (by cases i <;> trivial), fun i j b h _ => (nown b ⟨i, h⟩).elim⟩
    exact ⟨F, ⟨a, fun _ h => h, r0, rfl, fun b nf no _ => ⟨nf, no, nown b⟩, fun b h => (nown b h).elim, fun b h => (nown b h).elim, fun _ _ _ _ h => h, fun _ _ _ h => h, fun _ h => h, fun k i l h => (by simp at h), fun j l k x h => (none j l k x h).elim⟩⟩
  | true :: ls, .p i :: vs, z :: zs, e, F, sl, ms, e2, a, v, h => by
    unfold bindA at h
    cases g : getS e i with
    | ow l k x =>
      rw [g] at h
      cases k with
      | true => cases h
      | false =>
        simp only [Option.map_eq_some_iff] at h
        obtain ⟨⟨sl', ms', e2'⟩, h1, h2⟩ := h
        cases h2
        have hi : i < e.length := getS_lt (by rw [g]; simp)
        have a1 := a.drop g
        have v1 : VRs K F (setS e i .no) σ H H0 zs vs := VRs.grow (fun _ h => h) (fun _ h => .inl h) (fun b ⟨j, h⟩ => ⟨j, (drop_ownAt h).2⟩) setS_length v.2.2.2
        obtain ⟨F2, b⟩ := bindA_ok a1 v1 h1
        have s := a.r.slot i
        rw [g] at s
        obtain ⟨c, ec, nf, ro⟩ := s
        have ez : z = .ref c := by
          have := v.1.1
          rw [ec] at this
          cases this
          rfl
        subst ez
        have oc : OwnA e σ c := ⟨i, ⟨_, _, _, g⟩, ec⟩
        have no1 : ¬ OwnA (setS e i .no) σ c := fun ⟨j, h⟩ => by
          obtain ⟨hj, h'⟩ := drop_ownAt h
          exact hj (a.r.apart j i c h' ⟨⟨_, _, _, g⟩, ec⟩)
        have of1 : Off c zs vs := off_own oc v.2.2.2
        obtain ⟨f1, f2, f3⟩ := b.off c nf no1 of1
        have m1 : ∀ d, MutA (setS e i .no) σ d → MutA e σ d := fun d ⟨j, ⟨l', y, h1⟩, h2⟩ => ⟨j, ⟨l', y, by rw [← (drop_get (by rw [h1]; simp)).1]; exact h1⟩, h2⟩
        refine ⟨F2, b.at_, b.grow, b.rel.cons ⟨c, rfl, f1, ro.mono b.grow (fun _ _ _ h => h) fun _ h => h⟩ (fun _ _ _ d _ hd => by cases hd; exact f3), by simp [b.ml], fun d nf' no' off' => ?_, fun d h => ?_, fun d h => ?_, fun j l' k y h => ?_, fun j l' y h => ?_, fun j h => b.nos j ?_, fun k j l' h => ?_, fun j l' k y h => ?_⟩
        · obtain ⟨h1, h2, h3⟩ := b.off d nf' (fun ⟨j, h⟩ => no' ⟨j, (drop_ownAt h).2⟩) off'
          refine ⟨h1, h2, fun h => ?_⟩
          rcases own_cons h with ⟨h, _⟩ | h
          · cases h; exact no' oc
          · exact h3 h
        · rcases own_cons h with ⟨h, _⟩ | h
          · cases h; exact f2
          · exact b.apart d h
        · rcases own_cons h with ⟨h, _⟩ | h
          · cases h; exact .inl ⟨i, ⟨_, _, g⟩, ec⟩
          · exact (b.muts d h).imp (m1 d) id
        · have := b.slots j l' k y h
          rw [← (drop_get (by rw [this]; simp)).1]; exact this
        · refine b.lkd j l' y ?_
          rw [getS_setS hi, if_neg]
          · exact h
          · intro c; subst c; rw [g] at h; cases h
        · rw [getS_setS hi]
          split
          · rfl
          · exact h
        · cases k with
          | zero =>
            simp only [List.getElem?_cons_zero, Option.some.injEq, Prod.mk.injEq] at h
            obtain ⟨rfl, rfl⟩ := h
            exact ⟨by simpa using ec, b.nos i (by rw [getS_setS hi, if_pos rfl]), by rw [b.at_.f.ln, ← a.f.ln]; exact hi, _, g⟩
          | succ k =>
            obtain ⟨h1, h2, h3, y, h4⟩ := b.back k j l' (by simpa using h)
            refine ⟨by simpa using h1, h2, h3, y, ?_⟩
            rw [← (drop_get (by rw [h4]; simp)).1]; exact h4
        · cases j with
          | zero => cases h; exact ⟨rfl, rfl⟩
          | succ j => exact b.nol j l' k y h
    | sh x =>
      rw [g] at h
      simp only [Option.map_eq_some_iff] at h
      obtain ⟨⟨sl', ms', e2'⟩, h1, h2⟩ := h
      cases h2
      obtain ⟨F2, b⟩ := bindA_ok a v.2.2.2 h1
      have s := a.r.slot i
      rw [g] at s
      obtain ⟨w, ew, rp⟩ := s
      have := v.1.1
      rw [ew] at this
      cases this
      exact ⟨F2, Bd.sh a a (fun _ h => h) rp (fun _ h => .inl h) (fun _ h => h) ⟨fun _ _ _ _ h => h, fun _ _ _ h => h, fun _ h => h⟩ b⟩
    | no => rw [g] at h; cases h
    | ex c d => rw [g] at h; cases h
  | true :: ls, .o x :: vs, z :: zs, e, F, sl, ms, e2, a, v, h => by
    unfold bindA at h
    simp only [Option.map_eq_some_iff] at h
    obtain ⟨⟨sl', ms', e2'⟩, h1, h2⟩ := h
    cases h2
    obtain ⟨F2, b⟩ := bindA_ok a v.2.2.2 h1
    obtain ⟨c, rfl, nf, no, ro⟩ := v.1
    obtain ⟨f1, f2, f3⟩ := b.off c nf no (off_ap v.2.2.1)
    refine ⟨F2, b.at_, b.grow, b.rel.cons ⟨c, rfl, f1, ro.mono b.grow (fun _ _ _ h => h) fun _ h => h⟩ (fun _ _ _ d _ hd => by cases hd; exact f3), by simp [b.ml], fun d nf' no' off' => ?_, fun d h => ?_, fun d h => ?_, b.slots, b.lkd, b.nos, fun k j l' h => ?_, fun j l' k y h => ?_⟩
    · obtain ⟨h1, h2, h3⟩ := b.off d nf' no' off'.2
      refine ⟨h1, h2, fun h => ?_⟩
      rcases own_cons h with ⟨h, _⟩ | h
      · exact off'.1 h
      · exact h3 h
    · rcases own_cons h with ⟨h, _⟩ | h
      · cases h; exact f2
      · exact b.apart d h
    · rcases own_cons h with ⟨h, _⟩ | h
      · cases h; exact .inr (v.2.1 _ rfl)
      · exact b.muts d h
    · cases k with
      | zero => simp at h
      | succ k =>
        obtain ⟨h1, h2, h3, h4⟩ := b.back k j l' (by simpa using h)
        exact ⟨by simpa using h1, h2, h3, h4⟩
    · cases j with
      | zero => cases h; exact ⟨rfl, rfl⟩
      | succ j => exact b.nol j l' k y h
  | true :: ls, .d x :: vs, z :: zs, e, F, sl, ms, e2, a, v, h => by
    unfold bindA at h
    simp only [Option.map_eq_some_iff] at h
    obtain ⟨⟨sl', ms', e2'⟩, h1, h2⟩ := h
    cases h2
    obtain ⟨F2, b⟩ := bindA_ok a v.2.2.2 h1
    exact ⟨F2, Bd.sh a a (fun _ h => h) v.1 (fun _ h => .inl h) (fun _ h => h) ⟨fun _ _ _ _ h => h, fun _ _ _ h => h, fun _ h => h⟩ b⟩
  | false :: ls, u :: vs, z :: zs, e, F, sl, ms, e2, a, v, h => by
    unfold bindA at h
    cases t : take e u with
    | none => rw [t] at h; cases h
    | some q =>
      obtain ⟨x, e1⟩ := q
      rw [t] at h
      simp only [Option.map_eq_some_iff] at h
      obtain ⟨⟨sl', ms', e2'⟩, h1, h2⟩ := h
      cases h2
      obtain ⟨F1, r1, f1, rp, g1, o1, l1, rest, nw⟩ := take_ok a.r a.f v.1 v.2.1 t
      obtain ⟨F2, b⟩ := bindA_ok (a.mk' r1 f1) (rest _ _ H0 v.2.2.1 v.2.2.2) h1
      exact ⟨F2, Bd.sh a (a.mk' r1 f1) g1 rp nw o1 (take_slots t) b⟩
  | [], _ :: _, _, _, _, _, _, _, _, _, h => by cases h
  | true :: _, [], _, _, _, _, _, _, _, _, h => by cases h
  | false :: _, [], _, _, _, _, _, _, _, _, h => by cases h
  | _, _ :: _, [], _, _, _, _, _, _, v, _ => v.elim
  | _, [], _ :: _, _, _, _, _, _, _, v, _ => v.elim
end
end Ev
end

section
set_option Elab.async false
set_option linter.all false
set_option maxRecDepth 100000
set_option maxHeartbeats 2000000
namespace Ev
open PySem PySem.Spec PyProof.Rows L2
section
variable {K : Kx} {F F' F0 F1 F2 F3 : As} {e e' e0 e1 e2 e3 : En} {σ σ' σ0 σ1 σ2 σ3 : L2.St} {H H' H0 H1 H2 H3 : Hp} {cl : Nat → Addr} {W : WX}
/-- the end of a call: what the callee promises -/
def PoC (K : Kx) (cl : Nat → Addr) (F : As) (sl : List Sl) (σ : L2.St) (H : Hp) (Q : VK) (E : XK) : CR → Prop
  | .ret (.p _) _ => False
  | .ret v fs => ∀ F' H' z, Rel K F' fs σ H' → Fr F sl σ H F' fs σ H' → VR K F' fs σ H' z v → Nw H z v → Q z H'
  | .ex c a => ∀ F' H' dx, (∀ b, F' b → H' b ≠ none) → Fr F sl σ H F' (List.replicate sl.length .no) σ H' → Exc K F' H' dx a → E (.ref (cl c)) (some dx) H'
  | .bad => False
/-- a def's promise -/
def spF (K : Kx) (cl : Nat → Addr) (run : List Sl → CR) (n : Nat) : Sp := fun vs H Q E => vs.length = n ∧ ∃ F sl, Rel K F sl (vs.map some) H ∧ (∀ j l k x, getS sl j = .ow l k x → l = true ∧ k = false) ∧ PoC K cl F sl (vs.map some) H Q E (run sl)
theorem Rel.tail {z : Option V} {s : Sl} {sl : List Sl} {zs : L2.St} (r : Rel K F (s :: sl) (z :: zs) H) : Rel K F sl zs H :=
  ⟨by simpa using r.len, r.dom, fun i => by simpa [getS] using r.slot (i + 1), fun i j a ⟨h1, h2⟩ ⟨h3, h4⟩ => by
    have := r.apart (i + 1) (j + 1) a ⟨h1, by simpa using h2⟩ ⟨h3, by simpa using h4⟩
    omega⟩
theorem own_tail {z : Option V} {s : Sl} {sl : List Sl} {zs : L2.St} {a : Addr} (h : OwnA sl zs a) : OwnA (s :: sl) (z :: zs) a := by
  obtain ⟨i, h1, h2⟩ := h
  exact ⟨i + 1, h1, by simpa using h2⟩
/-- what comes back -/
structure Bk (K : Kx) (F : As) (e : En) (σ : L2.St) (H : Hp) (ms : List (Option (Nat × Bool))) (fs : List Sl) (zs : L2.St) (e' : En) : Prop where
  rel : Rel K F e' σ H
  own : ∀ a, OwnA e' σ a → OwnA e σ a ∨ OwnA fs zs a
  ows : ∀ (j : Nat) (l k : Bool) (x : PyData), getS e' j = .ow l k x → getS e j = .ow l k x ∨ (k = false ∧ ∃ q : Nat, ms[q]? = some (some (j, l)))
  off : ∀ j, (∀ (q : Nat) (l : Bool), ms[q]? ≠ some (some (j, l))) → getS e' j = getS e j
  len : e'.length = e.length
theorem Bk.skip {m : Option (Nat × Bool)} {ms : List (Option (Nat × Bool))} {s : Sl} {fs : List Sl} {z : Option V} {zs : L2.St} (b : Bk K F e σ H ms fs zs e') : Bk K F e σ H (m :: ms) (s :: fs) (z :: zs) e' :=
  ⟨b.rel, fun a h => (b.own a h).imp id own_tail, fun j l k x h => (b.ows j l k x h).imp id fun ⟨h1, q, h2⟩ => ⟨h1, q + 1, by simpa using h2⟩, fun j h => b.off j fun q l => by simpa using h (q + 1) l, b.len⟩
theorem back_ok : ∀ {ms : List (Option (Nat × Bool))} {fs : List Sl} {zs : L2.St} {e : En}, Rel K F e σ H → Rel K F fs zs H → (∀ a, OwnA fs zs a → ¬ OwnA e σ a) → (∀ (k i : Nat) (l : Bool), ms[k]? = some (some (i, l)) → σ[i]? = zs[k]? ∧ i < e.length) → Bk K F e σ H ms fs zs (backA ms fs e)
  | [], fs, zs, e, r, _, _, _ => by
    have : backA [] fs e = e := by cases fs <;> rfl
    rw [this]
    exact ⟨r, fun a h => .inl h, fun j l k x h => .inl h, fun j _ => rfl, rfl⟩
  | m :: ms, [], zs, e, r, _, _, _ => by
    have : backA (m :: ms) [] e = e := by cases m <;> rfl
    rw [this]
    exact ⟨r, fun a h => .inl h, fun j l k x h => .inl h, fun j _ => rfl, rfl⟩
  | m :: ms, s :: fs, [], e, r, rf, _, _ => by
    have := rf.len
    simp at this
  | m :: ms, s :: fs, z :: zs, e, r, rf, ap, bk => by
    have skip : Bk K F e σ H (m :: ms) (s :: fs) (z :: zs) (backA ms fs e) := by
      refine (back_ok r rf.tail (fun a h => ap a (own_tail h)) fun k i l h => ?_).skip
      simpa using bk (k + 1) i l (by simpa using h)
    cases m with
    | none =>
      have : backA (none :: ms) (s :: fs) e = backA ms fs e := by cases s <;> rfl
      rw [this]; exact skip
    | some il =>
      obtain ⟨i, l⟩ := il
      cases s with
      | no => exact skip
      | sh d => exact skip
      | ex c d => exact skip
      | ow l' k x =>
        cases l' with
        | false => exact skip
        | true =>
          cases k with
          | true => exact skip
          | false =>
            obtain ⟨h1, hi⟩ := bk 0 i l (by simp)
            obtain ⟨a, ha, nf, ro⟩ := rf.slot 0
            have h1 : σ[i]? = some (some (.ref a)) := by rw [h1]; simpa using ha
            have o0 : OwnAt (Sl.ow true false x :: fs) (z :: zs) 0 a := ⟨⟨_, _, _, rfl⟩, by simpa using ha⟩
            have at' : ∀ j b, OwnAt (setS e i (.ow l false x)) σ j b → (j = i ∧ b = a) ∨ (j ≠ i ∧ OwnAt e σ j b) := fun j b ⟨⟨l2, k2, y, z1⟩, z2⟩ => by
              rw [getS_setS hi] at z1
              split at z1
              · rename_i c; subst c
                rw [h1] at z2
                cases z2
                exact .inl ⟨rfl, rfl⟩
              · rename_i c; exact .inr ⟨c, ⟨l2, k2, y, z1⟩, z2⟩
            have r1 : Rel K F (setS e i (.ow l false x)) σ H := by
              refine ⟨by rw [setS_length]; exact r.len, r.dom, fun j => ?_, fun j k b z1 z2 => ?_⟩
              · rw [getS_setS hi]
                split
                · rename_i c; subst c
                  exact ⟨a, h1, nf, ro⟩
                · exact r.slot j
              · rcases at' j b z1 with ⟨rfl, rfl⟩ | ⟨c, q⟩
                · rcases at' k b z2 with ⟨rfl, _⟩ | ⟨c, q⟩
                  · rfl
                  · exact absurd ⟨k, q⟩ (ap b ⟨0, o0⟩)
                · rcases at' k b z2 with ⟨rfl, rfl⟩ | ⟨c', q'⟩
                  · exact absurd ⟨j, q⟩ (ap b ⟨0, o0⟩)
                  · exact r.apart j k b q q'
            have b := back_ok (ms := ms) r1 rf.tail (fun b h q => ?_) (fun k j l2 h => by
              rw [setS_length]
              simpa using bk (k + 1) j l2 (by simpa using h))
            · refine ⟨b.rel, fun b' h => ?_, fun j l2 k y h => ?_, fun j h => ?_, b.len.trans setS_length⟩
              · rcases b.own b' h with ⟨j, h⟩ | h
                · rcases at' j b' h with ⟨rfl, rfl⟩ | ⟨c, q⟩
                  · exact .inr ⟨0, o0⟩
                  · exact .inl ⟨j, q⟩
                · exact .inr (own_tail h)
              · rcases b.ows j l2 k y h with h9 | ⟨h9, q, hq⟩
                · rw [getS_setS hi] at h9
                  by_cases c : j = i
                  · rw [if_pos c] at h9
                    injection h9 with h91 h92 h93
                    subst c h91 h92
                    exact .inr ⟨rfl, 0, rfl⟩
                  · rw [if_neg c] at h9
                    exact .inl h9
                · exact .inr ⟨h9, q + 1, by simpa using hq⟩
              · have hj : j ≠ i := fun c => h 0 l (by subst c; rfl)
                refine (b.off j fun q l2 => by simpa using h (q + 1) l2).trans ?_
                rw [getS_setS hi, if_neg hj]
            · obtain ⟨j, q⟩ := q
              rcases at' j b q with ⟨rfl, rfl⟩ | ⟨c, q⟩
              · obtain ⟨j', h3, h4⟩ := h
                have := rf.apart 0 (j' + 1) b o0 ⟨h3, by simpa using h4⟩
                omega
              · exact ap b (own_tail h) ⟨j, q⟩
end
section
variable {X : Cx} {px : Addr → Nat → Addr → Prop} {cl : Nat → Addr} {W : WX} {F F' F0 F1 F2 : As} {e e' e0 e1 e2 : En} {σ σ0 : L2.St} {H H0 H1 H2 : Hp}
/-- what is not lent stands behind a call -/
theorem surv {zs : List V} {vs : List Vl} {sl fs : List Sl} {ms : List (Option (Nat × Bool))} {K : Kx} (a1 : At K F0 e0 σ H0 F1 e1 σ H1) (b : Bd K F0 e0 σ H0 F1 e1 σ H1 zs vs sl ms e2 F2) (dm : ∀ a, F' a → H2 a ≠ none) (f : Fr F2 sl (zs.map some) H1 F' fs (zs.map some) H2) :
    Rel K F' e2 σ H2 ∧ Fr F0 e0 σ H0 F' e2 σ H2 := by
  have r2 := b.at_.r
  refine ⟨⟨r2.len, dm, fun j => ?_, r2.apart⟩, { b.at_.f with
    keep := fun a o h n => f.keep a o (b.at_.f.keep a o h n) fun m => ?_
    dom := fun a h => f.dom a (b.at_.f.dom a h)
    grow := fun a h => f.grow a (b.at_.f.grow a h)
    new := fun a h => ?_ }⟩
  · have q := r2.slot j
    cases g : getS e2 j with
    | sh d =>
      rw [g] at q
      obtain ⟨v, z1, z2⟩ := q
      exact ⟨v, z1, z2.mono f.grow (f.keepF b.rel)⟩
    | ow l k d =>
      rw [g] at q
      obtain ⟨c, z1, z2, z3⟩ := q
      have oc : OwnA e2 σ c := ⟨j, ⟨_, _, _, g⟩, z1⟩
      refine ⟨c, z1, fun h => ?_, z3.mono f.grow (f.keepF b.rel) fun o h => f.keep c o h fun m => b.apart c m.own oc⟩
      rcases f.new c h with h | h | h
      · exact z2 h
      · exact b.apart c h oc
      · exact z3.there h
    | no => trivial
    | ex c' y => rw [g] at q; exact q.exm f.grow (f.keepF b.rel) fun d fs z => f.keep d _ z fun m => b.rel.notMut z m.own
  · rcases b.muts a m.own with h' | h'
    · rcases a1.f.muts a h' with h' | h'
      · exact n h'
      · rw [h] at h'; cases h'
    · rw [h] at h'; cases h'
  · rcases f.new a h with h | h | h
    · exact b.at_.f.new a h
    · rcases b.muts a h with h | h
      · exact (a1.f.own a h.own).elim (fun z => .inr (.inl z)) fun z => .inr (.inr z)
      · exact .inr (.inr h)
    · refine .inr (.inr ?_)
      cases q : H0 a with
      | none => rfl
      | some o => exact absurd h (b.at_.f.dom a (by rw [q]; simp))
theorem VRs.length {K : Kx} : ∀ {vs : List V} {us : List Vl}, VRs K F e σ H H0 vs us → vs.length = us.length
  | [], [], _ => rfl
  | _ :: _, _ :: _, h => by simp [VRs.length h.2.2.2]
  | [], _ :: _, h => h.elim
  | _ :: _, [], h => h.elim
theorem bindA_len : ∀ {ls : List Bool} {vs : List Vl} {e : En} {q : List Sl × List (Option (Nat × Bool)) × En}, bindA ls vs e = some q → vs.length = ls.length
  | [], [], _, _, _ => rfl
  | true :: ls, .p i :: vs, e, q, h => by
    unfold bindA at h
    cases g : getS e i with
    | ow l k x =>
      rw [g] at h
      cases k with
      | true => cases h
      | false =>
        simp only [Option.map_eq_some_iff] at h
        obtain ⟨_, h1, _⟩ := h
        simp [bindA_len h1]
    | sh x =>
      rw [g] at h
      simp only [Option.map_eq_some_iff] at h
      obtain ⟨_, h1, _⟩ := h
      simp [bindA_len h1]
    | no => rw [g] at h; cases h
    | ex c d => rw [g] at h; cases h
  | true :: ls, .o x :: vs, e, q, h => by
    unfold bindA at h
    simp only [Option.map_eq_some_iff] at h
    obtain ⟨_, h1, _⟩ := h
    simp [bindA_len h1]
  | true :: ls, .d x :: vs, e, q, h => by
    unfold bindA at h
    simp only [Option.map_eq_some_iff] at h
    obtain ⟨_, h1, _⟩ := h
    simp [bindA_len h1]
  | false :: ls, u :: vs, e, q, h => by
    unfold bindA at h
    cases t : take e u with
    | none => rw [t] at h; cases h
    | some p =>
      rw [t] at h
      simp only [Option.map_eq_some_iff] at h
      obtain ⟨_, h1, _⟩ := h
      simp [bindA_len h1]
  | [], _ :: _, _, _, h => by cases h
  | true :: _, [], _, _, h => by cases h
  | false :: _, [], _, _, h => by cases h
theorem call_ok {M : Pm} {f : Nat} {Q : VK} {zs : List V} {us : List Vl} {n : Nat} {K : Kx} (a1 : At K F0 e0 σ H0 F1 e1 σ H1) (v : VRs K F1 e1 σ H1 H0 zs us) (hn : (M.lens f).length = n) (p : PO' K cl W F0 e0 σ H0 Q (callR M f us e1)) : spF K cl (M.call f) n zs H1 Q (WE W σ) := by
  unfold callR at p
  cases q : bindA (M.lens f) us e1 with
  | none => rw [q] at p; exact p.elim
  | some q' =>
    obtain ⟨sl, ms, e2⟩ := q'
    rw [q] at p
    dsimp only at p
    obtain ⟨F2, b⟩ := bindA_ok a1 v q
    refine ⟨(VRs.length v).trans ((bindA_len q).trans hn), F2, sl, b.rel, b.nol, ?_⟩
    have fin : ∀ (u : Vl) (fs : List Sl), (∀ i, u ≠ .p i) → PO' K cl W F0 e0 σ H0 Q (.ok u (backA ms fs e2)) → ∀ F' H' z, Rel K F' fs (zs.map some) H' → Fr F2 sl (zs.map some) H1 F' fs (zs.map some) H' → VR K F' fs (zs.map some) H' z u → Nw H1 z u → Q z H' := by
      intro u fs hu p F' H' z r f vr nw
      obtain ⟨r2, f2⟩ := surv a1 b r.dom f
      have ap : ∀ a, OwnA fs (zs.map some) a → ¬ OwnA e2 σ a := fun a h q => by
        rcases f.own a h with h | h
        · exact b.apart a h q
        · exact (b.at_.r.own q).2 h
      have bk := back_ok (ms := ms) (fs := fs) r2 r ap fun k i l h => by
        obtain ⟨h1, _, h3, _⟩ := b.back k i l h
        exact ⟨h1, h3⟩
      refine p F' H' z bk.rel { f2 with ln := bk.len.trans f2.ln, own := fun a h => ?_, muts := fun a ⟨j, ⟨l, x, h1⟩, h2⟩ => ?_, lent := fun j k x h => ?_, lkd := fun j l x h => ?_ } ?_ (nw.old b.at_.f.dom)
      · rcases bk.own a h with h | h
        · exact f2.own a h
        · rcases f.own a h with h | h
          · rcases b.muts a h with h | h
            · exact a1.f.own a h.own
            · exact .inr h
          · refine .inr ?_
            cases q : H0 a with
            | none => rfl
            | some o => exact absurd h (b.at_.f.dom a (by rw [q]; simp))
      · rcases bk.ows j l false x h1 with h | ⟨_, q, hq⟩
        · exact f2.muts a ⟨j, ⟨l, x, h⟩, h2⟩
        · obtain ⟨_, _, _, y, h4⟩ := b.back q j l hq
          exact a1.f.muts a ⟨j, ⟨l, y, h4⟩, h2⟩
      · rcases bk.ows j true k x h with h | ⟨_, q, hq⟩
        · exact f2.lent j k x h
        · obtain ⟨_, _, _, y, h4⟩ := b.back q j true hq
          exact a1.f.lent j false y h4
      · obtain ⟨h1, h2⟩ := f2.lkd j l x h
        refine ⟨(bk.off j fun q l2 hq => ?_).trans h1, h2⟩
        obtain ⟨_, h4, _⟩ := b.back q j l2 hq
        rw [h1] at h4
        cases h4
      · cases u with
        | d x => exact vr
        | p i => exact absurd rfl (hu i)
        | o x =>
          obtain ⟨a, ea, nf, no, ro⟩ := vr
          refine ⟨a, ea, nf, fun h => ?_, ro⟩
          rcases bk.own a h with h | h
          · exact (b.at_.r.own h).2 (nw a ea)
          · exact no h
    cases c : M.call f sl with
    | bad => rw [c] at p; exact p.elim
    | ex k y =>
      rw [c] at p
      intro F' H' dx dm f ex
      obtain ⟨r2, f2⟩ := surv a1 b dm f
      exact p F' H' dx r2 f2 ex
    | ret u fs =>
      rw [c] at p
      cases u with
      | p i => exact p.elim
      | d x => exact fin (.d x) fs (fun i h => by cases h) p
      | o x => exact fin (.o x) fs (fun i h => by cases h) p
end
end Ev
end

section
set_option Elab.async false
set_option linter.all false
set_option maxRecDepth 100000
set_option maxHeartbeats 2000000
namespace Ev
open PySem PySem.Spec PyProof.Rows L2
/-! ## a def's promise where no repr is under way -/
structure FnG (P : Program) (w : World) (K : PySem.W.Frag) (mg : Str → Option Value) (base : Heap) (CX : CXT) (k : Nat) (f : Addr) (fd : FuncData) (ps : List Str) (sp : Sp) : Prop where
  len : ∀ vs H Q E, sp vs H Q E → vs.length = ps.length
  run : ∀ (A : Around) (outer : List Env) (s : Shared) (H : Hp) (args : Args) (us : List Value) (vs : List V) (Q : VK) (E : XK), Room k A → A.guards = some [] → Env0 P w K mg base A outer s H → BindsTo s fd args (ps.zip us) → Vals vs us → sp vs H Q E →
    codeAny (model P w) A (.call (.ref f) args) (L2.CR CX outer P w H s Q E) s
section
variable {P : Program} {w : World} {K : PySem.W.Frag} {mg : Str → Option Value} {base : Heap} {CX : CXT} {j k : Nat} {f : Addr} {fd : FuncData} {ps : List Str} {sp sp' : Sp}
theorem FnG.mono (F : FnG P w K mg base CX j f fd ps sp) (h : j ≤ k) : FnG P w K mg base CX k f fd ps sp :=
  ⟨F.len, fun A outer s H args us vs Q E hr => F.run A outer s H args us vs Q E (hr.mono h)⟩
theorem FnG.of (F : FnOk P w K mg base CX k f fd ps sp) : FnG P w K mg base CX k f fd ps sp :=
  ⟨F.len, fun A outer s H args us vs Q E hr _ => F.run A outer s H args us vs Q E hr⟩
theorem FnG.imp (F : FnG P w K mg base CX k f fd ps sp) (h : ∀ vs H Q E, sp' vs H Q E → sp vs H Q E) : FnG P w K mg base CX k f fd ps sp' :=
  ⟨fun vs H Q E q => F.len vs H Q E (h _ _ _ _ q), fun A outer s H args us vs Q E hr hg he hb hv hs => F.run A outer s H args us vs Q E hr hg he hb hv (h _ _ _ _ hs)⟩
end
theorem fnG_of {CX : CXT} {P : Program} {w : World} {K : PySem.W.Frag} {mg : Str → Option Value} {base : Heap} {k : Nat} {f : Addr} {name qual : Str} {params : Arguments} {body : List Stmt} {scope : Scope} {dV kV doc pm cdv ct oc : Value} {an od : Option Addr}
    {osl : Array (Option Value)} {N ps : List Str} {sp : Sp} (lk : K.lookup f = some ⟨oc, od, .func (PySem.W.fnOf name qual params body scope dV kV doc pm an cdv ct), osl⟩) (hcd : PySem.W.codeIn K cdv qual = true) (S : FnScope N ps scope)
    (len : ∀ vs H Q E, sp vs H Q E → vs.length = ps.length)
    (hbody : ∀ (A : Around) (outer : List Env) (s : Shared) (H : Hp) (vs : List V) (Q : VK) (E : XK), Room k (A.deeper (envOfC qual scope s.heap.objs.size f cdv)) → (A.deeper (envOfC qual scope s.heap.objs.size f cdv)).guards = some [] → sp vs H Q E →
      ∃ t, PSs (cxOf CX P w K mg base N qual scope f cdv A outer s H E) body t ∧ t { nx := fun _ H' => Q .non H', rt := Q } (L2.start N vs) H) :
    FnG P w K mg base CX (k + 1) f (PySem.W.fnOf name qual params body scope dV kV doc pm an cdv ct) ps sp := by
  refine ⟨len, fun A outer s H args us vs Q E hr gd e0 hb r q => ?_⟩
  have inK : K.In s.heap := e0.mod.kin.keeps fun b o e => (e0.bs b o e).1
  have small : s.heap.NoLimit := e0.mod.nolimit.keeps fun b o e => (e0.bs b o e).1
  have kinds : ∀ y ∈ ps.zip us, scope.names.lookup y.1 = some .local ∨ (scope.names.lookup y.1 = some .cell ∧ ((cellsFrom (s.heap.objs.size + 1) scope.names []).lookup y.1).isSome = true) := by
    intro ⟨n, v⟩ hy
    refine (S.par n (List.of_mem_zip hy).1).imp id fun c => ⟨c, PySem.W.cellsFrom_some _ _ _ (.inl c)⟩
  refine codeAny_call_function hr.depth (inK _ _ lk) rfl S.co S.gen rfl (PySem.W.codeRec_of inK hcd) (hb _ _ _ _ ?_)
  refine wpAny_newFunctionEnv_cells S.kind kinds fun env he s1 x => ?_
  subst he
  refine ⟨small.keeps x.toInCall.keep, codeAny_func ?_⟩
  obtain ⟨t, ht, hq⟩ := hbody A outer s H vs Q E (hr.deeper _) gd q
  refine wpAny_mono (ht.run [] s1 (L2.start N vs) H _ (inv_start S hr.hd e0 (len _ _ _ _ q) r x) hq) (fun fl s' hs => ?_) fun e s' hs => hs
  cases fl with
  | ret u =>
    obtain ⟨v, σ', H', J, rv, q⟩ := hs
    exact ⟨v, H', J.os, J.bare, J.base, J.hok, rv, q⟩
  | next =>
    obtain ⟨σ', H', J, q⟩ := hs
    exact ⟨V.non, H', J.os, J.bare, J.base, J.hok, rfl, q⟩
  | brk => exact hs.elim fun _ h => h.elim fun _ h => h.2.elim
  | cont => exact hs.elim fun _ h => h.elim fun _ h => h.2.elim
section
variable {X : Cx} {CX : CXT} {k : Nat} {f : Addr} {fd : FuncData} {ps : List Str} {sp : Sp} {E : L2.St → XK}
theorem runG {pins : List (Addr × Obj)} {σ : L2.St} {H : Hp} {s : Shared} {Q : VK} {us : List Value} {vs : List V} (F : FnG X.prog X.w X.K X.mg X.base CX k f fd ps sp) (hr : Room k X.A) (hg : X.A.guards = some []) (hb : Binds X.K fd ps []) (hx : PassesAt CX X σ (E σ))
    (I : L2.Inv X pins σ H s) (r : Vals vs us) (h : sp vs H Q (E σ)) : wpAny (model X.prog X.w) X.A (call (.ref f) us) (EP X pins σ Q) X.xe s := by
  have l : us.length = ps.length := by rw [← r.length]; exact F.len _ _ _ _ h
  have b := hb s us I.kIn (by rw [List.append_nil]; exact l)
  rw [List.append_nil] at b
  refine wpAny_call (codeAny_mono (F.run X.A X.stack s H ⟨us, []⟩ us vs Q (E σ) hr hg I.env0 b r h) fun r s' hq => ?_)
  match r, hq with
  | .error e, hq => exact hx pins H s e s' I hq
  | .ok (.ret u), hq => exact I.after hq
  | .ok .next, hq => exact False.elim hq
  | .ok .brk, hq => exact False.elim hq
  | .ok .cont, hq => exact False.elim hq
end
end Ev
end

section
set_option Elab.async false
set_option linter.all false
set_option maxRecDepth 100000
set_option maxHeartbeats 2000000
namespace Ev
open PySem PySem.Spec PyProof.Rows L2
section
variable {X : Cx} {px : Addr → Nat → Addr → Prop} {cl : Nat → Addr} {W : WX} {F F' F0 F1 F2 : As} {e e' e0 e1 e2 : En} {σ σ0 : L2.St} {H H0 H1 H2 : Hp} {M : Pm} {fi k : Nat} {f : Addr} {fd : FuncData} {ps : List Str} {x : Str} {p pos : Pos}
theorem s_call {a : Expr} {es : List Expr} {fa : En → R} (G : FnG X.prog X.w X.K X.mg X.base (L2N.CX X.prog X.w) k f fd ps (spF (Kx.mk X.K px X.w) cl (M.call fi) ps.length)) (hl : (M.lens fi).length = ps.length) (hr : Room k X.A) (gd : X.A.guards = some []) (hg : Gl X x) (hm : X.mg x = some (.ref f)) (hk : PySem.W.keepIn X.K (.ref f) = true) (hb : Binds X.K fd ps []) (tk : L2N.Takes X W)
    (hd : (x == ("__debug__" : Str)) = false) (he : starEach (a :: es) X.env = (false, eval a X.env) :: starEach es X.env) (hpl : (backTo pos (starEach es X.env)).any (·.1) = false) (ha : PA X (a :: es) (tA (Kx.mk X.K px X.w) cl W fa)) :
    PE X (.Call (.Name x p) (a :: es) [] pos) (tE (Kx.mk X.K px X.w) cl W (dCall M fi fa)) := by
  refine ⟨fun pins s σ H Q I ⟨F, e, r, q⟩ => ?_⟩
  refine wpAny_Call_Name_kw (ld_glob I hg hm ?_ hd)
  refine PySem.W.callWith_K (h₀ := X.base) I.ok.mod.kin hk (thn (ha.run pos pins s σ H (fun zs H2 => spF (Kx.mk X.K px X.w) cl (M.call fi) ps.length zs H2 Q (WE W σ)) I ⟨F, e, r, PO'.bds (.refl r) q fun us e1 F1 H1 zs a1 f1 v1 p1 => call_ok a1 v1 hl p1⟩) fun us s1 ⟨vs, H1, I1, rv, q1⟩ => ⟨I1.kIn, ?_⟩) he hpl
  exact runG (E := WE W) G hr gd hb (L2N.passAt tk σ) I1 rv q1
theorem s_call0 (G : FnG X.prog X.w X.K X.mg X.base (L2N.CX X.prog X.w) k f fd ps (spF (Kx.mk X.K px X.w) cl (M.call fi) ps.length)) (hl : (M.lens fi).length = ps.length) (hr : Room k X.A) (gd : X.A.guards = some []) (hg : Gl X x) (hm : X.mg x = some (.ref f)) (hk : PySem.W.keepIn X.K (.ref f) = true) (hb : Binds X.K fd ps []) (tk : L2N.Takes X W)
    (hd : (x == ("__debug__" : Str)) = false) : PE X (.Call (.Name x p) [] [] pos) (tE (Kx.mk X.K px X.w) cl W (dCall M fi dNil)) := by
  refine ⟨fun pins s σ H Q I ⟨F, e, r, q⟩ => ?_⟩
  refine wpAny_Call_Name_kw (ld_glob I hg hm ?_ hd)
  refine PySem.W.callWith_K0 I.kIn hk (runG (us := []) (E := WE W) G hr gd hb (L2N.passAt tk σ) I .nil ?_)
  exact call_ok (.refl r) (zs := []) (us := []) trivial hl q
end
/-! ## a def of the text keeps its promise -/
section
variable {K : Kx} {F F' F0 F1 F2 F3 : As} {e e' e0 e1 e2 e3 : En} {σ σ' σ0 σ1 σ2 σ3 : L2.St} {H H' H0 H1 H2 H3 : Hp} {cl : Nat → Addr} {W : WX}
theorem getS_app : ∀ (sl : List Sl) (n i : Nat), getS (sl ++ List.replicate n .no) i = getS sl i
  | [], n, i => by
    induction n generalizing i with
    | zero => rfl
    | succ n ih =>
      cases i with
      | zero => rfl
      | succ i => simpa [List.replicate_succ, getS] using ih i
  | s :: sl, n, 0 => rfl
  | s :: sl, n, i + 1 => by simpa [getS] using getS_app sl n i
theorem start_at {N : List Str} {vs : List V} {i : Nat} (h : i < vs.length) : (L2.start N vs)[i]? = (vs.map some)[i]? := by
  unfold L2.start
  rw [List.getElem?_append_left (by simpa using h)]
theorem Rel.start {N : List Str} {vs : List V} {sl : List Sl} (hl : vs.length ≤ N.length) (r : Rel K F sl (vs.map some) H) : Rel K F (sl ++ List.replicate (N.length - sl.length) .no) (L2.start N vs) H := by
  have len : sl.length = vs.length := by simpa using r.len
  have at' : ∀ i a, OwnAt (sl ++ List.replicate (N.length - sl.length) .no) (L2.start N vs) i a → OwnAt sl (vs.map some) i a := fun i a ⟨h1, h2⟩ => by
    rw [getS_app] at h1
    have hi : i < vs.length := by
      rw [← len]
      obtain ⟨l, k, x, h1⟩ := h1
      exact getS_lt (by rw [h1]; simp)
    exact ⟨h1, by rw [← start_at hi]; exact h2⟩
  refine ⟨?_, r.dom, fun i => ?_, fun i j a h1 h2 => r.apart i j a (at' i a h1) (at' j a h2)⟩
  · unfold L2.start
    simp [len]
  · rw [getS_app]
    by_cases hi : i < vs.length
    · rw [start_at hi]; exact r.slot i
    · rw [getS_none (by rw [len]; exact hi)]; trivial
/-- what of the frame is told the caller -/
theorem Fr.ends {N : List Str} {vs : List V} {sl fs : List Sl} (r : Rel K F sl (vs.map some) H) (hl : vs.length ≤ N.length) (nol : ∀ j l k x, getS sl j = .ow l k x → l = true ∧ k = false) (r' : Rel K F' e' σ' H') (f : Fr F (sl ++ List.replicate (N.length - sl.length) .no) (L2.start N vs) H F' e' σ' H')
    (fl : fs.length = sl.length) (hf : ∀ j, getS fs j = .no ∨ ∃ x y, getS fs j = .ow true false x ∧ getS e' j = .ow true false x ∧ getS sl j = .ow true false y) : Fr F sl (vs.map some) H F' fs (vs.map some) H' ∧ (∀ i a, OwnAt fs (vs.map some) i a → OwnAt e' σ' i a) := by
  have len : sl.length = vs.length := by simpa using r.len
  have own0 : ∀ a, OwnA (sl ++ List.replicate (N.length - sl.length) .no) (L2.start N vs) a → OwnA sl (vs.map some) a := fun a ⟨i, h1, h2⟩ => by
    rw [getS_app] at h1
    have hi : i < vs.length := by
      rw [← len]
      obtain ⟨l, k, x, h1⟩ := h1
      exact getS_lt (by rw [h1]; simp)
    exact ⟨i, h1, by rw [← start_at hi]; exact h2⟩
  have mut0 : ∀ a, MutA (sl ++ List.replicate (N.length - sl.length) .no) (L2.start N vs) a → MutA sl (vs.map some) a := fun a ⟨i, ⟨l, x, h1⟩, h2⟩ => by
    rw [getS_app] at h1
    have hi : i < vs.length := by
      rw [← len]
      exact getS_lt (by rw [h1]; simp)
    exact ⟨i, ⟨l, x, h1⟩, by rw [← start_at hi]; exact h2⟩
  have at' : ∀ i a, OwnAt fs (vs.map some) i a → OwnAt e' σ' i a := fun i a ⟨⟨l, k, x, h1⟩, h2⟩ => by
    rcases hf i with h | ⟨y, y', h, h', h''⟩
    · rw [h] at h1; cases h1
    · have hi : i < vs.length := by
        rw [← len]
        exact getS_lt (by rw [h'']; simp)
      obtain ⟨_, s⟩ := f.lent i false y h'
      exact ⟨⟨_, _, _, h'⟩, by rw [s, start_at hi]; exact h2⟩
  refine ⟨⟨fl, fun a o h n => f.keep a o h fun m => n (mut0 a m), f.dom, f.grow, fun a h => (f.new a h).imp id fun z => z.imp (own0 a) id, fun a ⟨i, h⟩ => (f.own a ⟨i, at' i a h⟩).imp (own0 a) id, fun a ⟨i, ⟨l, x, h1⟩, h2⟩ => ?_, fun i k x h => ?_, fun i l x h => ?_⟩, at'⟩
  · have q := at' i a ⟨⟨l, false, x, h1⟩, h2⟩
    rcases hf i with h | ⟨y, y', h, h', h''⟩
    · rw [h] at h1; cases h1
    · exact (f.muts a ⟨i, ⟨_, _, h'⟩, q.2⟩).imp (mut0 a) id
  · rcases hf i with h' | ⟨y, y', h', _, h''⟩
    · rw [h] at h'; cases h'
    · exact ⟨⟨_, _, h''⟩, rfl⟩
  · have := (nol i l true x h).2
    cases this
theorem finS_get : ∀ {ls : List Sl} {j0 : Nat} {e : En} {fs : List Sl}, finS ls j0 e = some fs → fs.length = ls.length ∧ ∀ j, getS fs j = .no ∨ ∃ x y, getS fs j = .ow true false x ∧ getS e (j0 + j) = .ow true false x ∧ getS ls j = .ow true false y
  | [], j0, e, fs, h => by cases h; exact ⟨rfl, fun j => by cases j <;> exact .inl rfl⟩
  | s :: ls, j0, e, fs, h => by
    have skip : ∀ fs', finS ls (j0 + 1) e = some fs' → ∀ t, (t = .no ∨ ∃ x y, t = .ow true false x ∧ getS e j0 = .ow true false x ∧ s = .ow true false y) → (t :: fs').length = (s :: ls).length ∧ ∀ j, getS (t :: fs') j = .no ∨ ∃ x y, getS (t :: fs') j = .ow true false x ∧ getS e (j0 + j) = .ow true false x ∧ getS (s :: ls) j = .ow true false y := by
      intro fs' h1 t ht
      obtain ⟨l, g⟩ := finS_get h1
      refine ⟨by simp [l], fun j => ?_⟩
      cases j with
      | zero => exact ht
      | succ j =>
        have := g j
        rw [show j0 + 1 + j = j0 + (j + 1) by omega] at this
        exact this
    by_cases c : ∃ y, s = .ow true false y
    · obtain ⟨y, rfl⟩ := c
      unfold finS at h
      split at h
      · rename_i x g
        simp only [Option.map_eq_some_iff] at h
        obtain ⟨fs', h1, rfl⟩ := h
        exact skip fs' h1 _ (.inr ⟨x, y, rfl, g, rfl⟩)
      · cases h
    · have : finS (s :: ls) j0 e = (finS ls (j0 + 1) e).map fun r => .no :: r := by
        cases s with
        | ow l k y =>
          cases l with
          | false => rfl
          | true =>
            cases k with
            | true => rfl
            | false => exact absurd ⟨y, rfl⟩ c
        | _ => rfl
      rw [this] at h
      simp only [Option.map_eq_some_iff] at h
      obtain ⟨fs', h1, rfl⟩ := h
      exact skip fs' h1 _ (.inl rfl)
theorem nos_get (n j : Nat) : getS (List.replicate n Sl.no) j = .no := by
  have := getS_app [] n j
  simp only [List.nil_append] at this
  rw [this]; rfl
theorem finS_all : ∀ {ls : List Sl} {j0 : Nat} {e : En} {fs : List Sl}, finS ls j0 e = some fs → ∀ j y, getS ls j = .ow true false y → ∃ x, getS e (j0 + j) = .ow true false x
  | [], j0, e, fs, h, j, y, g => by cases j <;> cases g
  | s :: ls, j0, e, fs, h, 0, y, g => by
    cases (show s = .ow true false y from g)
    unfold finS at h
    split at h
    · rename_i x g'
      exact ⟨x, g'⟩
    · cases h
  | s :: ls, j0, e, fs, h, j + 1, y, g => by
    have : ∃ fs', finS ls (j0 + 1) e = some fs' := by
      cases q : finS ls (j0 + 1) e with
      | some fs' => exact ⟨fs', rfl⟩
      | none =>
        exfalso
        unfold finS at h
        split at h
        · cases ‹_ :: _ = []›
        · rename_i h'; cases h'
          split at h
          · rw [q] at h; cases h
          · cases h
        · rename_i h'; cases h'
          rw [q] at h; cases h
    obtain ⟨fs', q⟩ := this
    obtain ⟨x, hx⟩ := finS_all q j y g
    exact ⟨x, by rw [show j0 + (j + 1) = j0 + 1 + j by omega]; exact hx⟩
/-- the end of the body is the end of the call -/
theorem fin_ok {N : List Str} {vs : List V} {sl : List Sl} {Q : VK} {E : XK} {x : R} (r : Rel K F sl (vs.map some) H) (hl : vs.length ≤ N.length) (nol : ∀ j l k x, getS sl j = .ow l k x → l = true ∧ k = false) (p : PoC K cl F sl (vs.map some) H Q E (fin sl x)) :
    POS K cl (fun cls d _ H' => E cls d H') F (sl ++ List.replicate (N.length - sl.length) .no) (L2.start N vs) H { nx := fun _ H' => Q .non H', rt := Q } x := by
  have len : sl.length = vs.length := by simpa using r.len
  have rels : ∀ {F' e' σ' H' fs}, Rel K F' e' σ' H' → (∀ j, getS fs j = .no ∨ ∃ x y, getS fs j = .ow true false x ∧ getS e' j = .ow true false x ∧ getS sl j = .ow true false y) → fs.length = sl.length → (∀ i a, OwnAt fs (vs.map some) i a → OwnAt e' σ' i a) → Fr F (sl ++ List.replicate (N.length - sl.length) .no) (L2.start N vs) H F' e' σ' H' → Rel K F' fs (vs.map some) H' := by
    intro F' e' σ' H' fs r' hf fl at' f
    refine ⟨by rw [fl]; exact r.len, r'.dom, fun j => ?_, fun i j a h1 h2 => r'.apart i j a (at' i a h1) (at' j a h2)⟩
    rcases hf j with h | ⟨y, y', h, h', h''⟩
    · rw [h]; trivial
    · rw [h]
      have hi : j < vs.length := by
        rw [← len]
        exact getS_lt (by rw [h'']; simp)
      have s := r'.slot j
      rw [h'] at s
      obtain ⟨_, st⟩ := f.lent j false y h'
      rw [st, start_at hi] at s
      exact s
  cases x with
  | ex c a e' =>
    intro F' σ' H' dx r' f ex
    obtain ⟨f', _⟩ := Fr.ends (fs := List.replicate sl.length .no) r hl nol r' f (by simp) fun j => .inl (nos_get _ j)
    exact p F' H' dx r'.dom f' ex
  | nx e' =>
    unfold fin at p
    dsimp only at p
    cases q : finS sl 0 e' with
    | none => rw [q] at p; exact p.elim
    | some fs =>
      rw [q] at p
      intro F' σ' H' r' f
      obtain ⟨fl, hf⟩ := finS_get q
      simp only [Nat.zero_add] at hf
      obtain ⟨f', at'⟩ := Fr.ends r hl nol r' f fl hf
      exact p F' H' .non (rels r' hf fl at' f) f' .non trivial
  | rt u e' =>
    unfold fin at p
    dsimp only at p
    cases q1 : endV u e' with
    | none => rw [q1] at p; exact p.elim
    | some u' =>
      rw [q1] at p
      cases q : finS sl 0 e' with
      | none => rw [q] at p; exact p.elim
      | some fs =>
        rw [q] at p
        dsimp only at p
        intro F' σ' H' z r' f v n
        obtain ⟨fl, hf⟩ := finS_get q
        simp only [Nat.zero_add] at hf
        obtain ⟨f', at'⟩ := Fr.ends r hl nol r' f fl hf
        have rr := rels r' hf fl at' f
        cases u with
        | d x => cases q1; exact p F' H' z rr f' v trivial
        | o x =>
          cases q1
          obtain ⟨a, ea, nf, no, ro⟩ := v
          exact p F' H' z rr f' ⟨a, ea, nf, fun ⟨i, h⟩ => no ⟨i, at' i a h⟩, ro⟩ n
        | p i =>
          unfold endV at q1
          dsimp only at q1
          have s := r'.slot i
          split at q1
          · rename_i k x g
            cases q1
            rw [g] at s
            obtain ⟨a, ea, nf, ro⟩ := s
            have ez := v.1
            rw [ea] at ez
            cases ez
            have oi : OwnAt e' σ' i a := ⟨⟨_, _, _, g⟩, ea⟩
            have lent_ne : ∀ j, OwnAt e' σ' j a → ∀ y, getS e' j ≠ .ow true false y := fun j oj y gj => by
              have := r'.apart i j a oi oj
              subst this
              rw [g] at gj
              cases gj
            refine p F' H' (.ref a) rr f' ⟨a, rfl, nf, fun ⟨j, h⟩ => ?_, ro⟩ fun b eb => ?_
            · rcases hf j with h' | ⟨y, y', h', h'', _⟩
              · obtain ⟨⟨_, _, _, h⟩, _⟩ := h
                rw [h'] at h; cases h
              · exact lent_ne j (at' j a h) y h''
            · cases eb
              rcases f.own a ⟨i, oi⟩ with ⟨j, ⟨l, k, y, h1⟩, h2⟩ | h
              · exfalso
                rw [getS_app] at h1
                obtain ⟨rfl, rfl⟩ := nol j l k y h1
                have hj : j < vs.length := by
                  rw [← len]
                  exact getS_lt (by rw [h1]; simp)
                have hj2 : ∃ w, getS e' j = .ow true false w := by
                  have := finS_all q j y h1
                  simpa using this
                obtain ⟨w, hw⟩ := hj2
                obtain ⟨_, st⟩ := f.lent j false w hw
                exact lent_ne j ⟨⟨_, _, _, hw⟩, by rw [st]; exact h2⟩ w hw
              · exact h
          · rename_i x g
            cases q1
            rw [g] at s
            obtain ⟨w, ew, rp⟩ := s
            have ez := v.1
            rw [ew] at ez
            cases ez
            exact p F' H' z rr f' rp trivial
          · cases q1
  | ok _ _ => exact p.elim
  | oks _ _ => exact p.elim
  | its _ _ _ => exact p.elim
  | bk _ => exact p.elim
  | ct _ => exact p.elim
  | bad => exact p.elim
end
end Ev
end

section
set_option Elab.async false
set_option linter.all false
set_option maxRecDepth 100000
set_option maxHeartbeats 4000000
namespace Ev
open PySem PySem.Spec PyProof.Rows L2
/-! ## an exception class whose __init__ is: super().__init__(at); self.at = at -/
/-- the class at C lies below the one at D, which has the __init__ -/
structure ClsI (K : PySem.W.Frag) (D C : Addr) : Prop where
  oex : OexC K C
  sub : PySem.W.mroIn K C (.ref D) = some true
  sup : PySem.W.ks_superIn K C D "__init__" = some (some (.builtin "ValueError.__init__"))
  val : PySem.W.subIn K (.ref C) (.type "ValueError") = some true
  atN : PySem.W.findIn K (.ref C) "at" = some none
def spI (K : PySem.W.Frag) (D : Addr) : Sp := fun vs H Q E => ∃ a C y, vs = [.ref a, y] ∧ ClsI K D C ∧ H a = some (exo a C none) ∧ ∀ dx, H dx = none → dx ≠ a → Q .non (upd (upd H dx (exd dx [("at", y)])) a (exo a C (some dx)))
section
variable {P : Program} {w : World} {M : Model} {A : Around} {E : Value → Shared → Prop} {h : Heap} {g : Array GenState} {d : Drawn} {t : Nat} {os : OsState}
/-- the built-in __init__, bound to the exception, called -/
theorem mw_call {u x t0 C N : Addr} {nm q : Str} {bs bm : List Value} {hdct : Bool} {sn : List Str} {sub : List Value} {ab : Bool} {col : Option Bool} {dd : Option Addr} {k0 k1 k2 k3 k5 : Option Value} {rest : List Value} {Q : Value → Shared → Prop}
    (hC : h.get? C = some (excClassObj nm q C N bs bm hdct sn sub ab col dd k0 k1 k2 k3 k5 "ValueError.__new__")) (hbm : PySem.HandSPX.refsVE bm = true)
    (hu : h.get? u = some (PySem.W.kxs_mw "ValueError.__init__" x)) (he : h.get? x = some (PySem.HandSPX.excO C t0)) (hz : rest.length ≤ sizeLine)
    (hq : ∀ h' t1, (∀ b o, b ≠ x → h.get? b = some o → h'.get? b = some o) → h'.get? x = some (PySem.HandSPX.excO C t1) → Q .none ⟨h', g, d, t, os⟩) :
    wpAny (model P w) A (call (.ref u) rest) Q E ⟨h, g, d, t, os⟩ := by
  refine wpAny_call (codeAny_of_tree ?_)
  show wpAny _ A.in1 (callAny (.ref u) ⟨rest, []⟩) _ _ _
  simp only [callAny]
  refine wpAny_bind (wpAny_load hu ?_)
  simp only [PySem.W.kxs_mw, show (Value.type "method-wrapper" == Value.type "method" || Value.type "method-wrapper" == Value.type "builtin_function_or_method" || Value.type "method-wrapper" == Value.type "method-wrapper") = true by decide, if_true]
  refine PySem.W.KFB.if_so (by decide) ?_
  refine wpAny_bind (PySem.W.check_bound_init F.excBase_ValueError.toExcCallFacts hC he rfl ?_)
  refine wpAny_bind (wpAny_pure (wpAny_pure ?_))
  refine ⟨PySem.plainId_quiet F.excBase_ValueError.init.plain _, codeAny_builtin F.excBase_ValueError.initEntry ?_⟩
  exact PySem.W.exc_init_tree (cls := .ref C) (t0 := t0) (dv := none) (c2 := .none) (c3 := .none) (b4 := .bool false) he hz fun h' k e' _ => hq h' _ k e'
end
/-- the context of such a def's body -/
def cxI (P : Program) (w : World) (K : PySem.W.Frag) (mg : Str → Option Value) (base : Heap) (qual : Str) (scope : Scope) (f : Addr) (cd : Value) (cc : Addr) (A : Around) (outer : List Env) (s : Shared) (H : Hp) : Cx where
  prog := P
  w := w
  K := K
  mg := mg
  base := base
  A := A.deeper (PySem.W.ksEnv qual scope s.heap.objs.size f cd cc)
  N := ["self", "at"]
  s_0 := s
  H_0 := H
  env := PySem.W.ksEnv qual scope s.heap.objs.size f cd cc
  outer := outer
  stack := PySem.W.ksEnv qual scope s.heap.objs.size f cd cc :: outer
  ex := []
  calm := true
  fn := fun _ => false
  pn := []
  xe := fun _ _ => False
section
variable {P : Program} {w : World} {K : PySem.W.Frag} {mg : Str → Option Value} {base : Heap} {k : Nat} {f cc cda D : Addr} {qual : Str} {params : Arguments} {scope : Scope} {dV kV doc pm ct oc : Value} {an od : Option Addr} {osl : Array (Option Value)}
  {p0 p1 p2 p3 p4 p5 p6 p7 p8 p9 : Pos} {ar : Arg} {vs : Array Value} {file : Str} {tf : Tok} {ccl cll : Value} {cdd cld : Option Addr} {ccs csl : Array (Option Value)} {cdD : ClassData} {CX : CXT}
abbrev initBody (p0 p1 p2 p3 p4 p5 p6 p7 p8 p9 : Pos) : List Stmt := [.Expr (.Call (.Attribute (.Call (.Name "super" p0) [] [] p1) "__init__" p2) [.Name "at" p3] [] p4) p5, .Assign [.Attribute (.Name "self" p6) "at" p7] (.Name "at" p8) p9]
theorem init_ok (lk : K.lookup f = some ⟨oc, od, .func (PySem.W.ksFn "__init__" qual params (initBody p0 p1 p2 p3 p4 p5 p6 p7 p8 p9) scope dV kV doc pm an (.ref cda) ct cc), osl⟩) (hcd : PySem.W.codeIn K (.ref cda) qual = true)
    (hp : (params.posonlyargs ++ params.args).head? = some ar) (har : ar.arg = "self") (hcode : K.lookup cda = some ⟨ccl, cdd, .fields vs, ccs⟩) (hvs : vs[2]? = some (.str file tf)) (hfile : ((P.main.file : Str) == file) = true)
    (hcell : K.lookup cc = some ⟨cll, cld, .cell (some (.ref D)), csl⟩) (hD : PySem.W.clsIn K D = some cdD) (ms : mg "super" = none) (hop : PySem.W.nsIn K cStatics "thirdparty.any" = some none)
    (sk : scope.kind = .function) (sco : scope.isCoroutine = false) (sge : scope.isGenerator = false) (sS : scope.names.lookup ("self" : Str) = some .local) (sA : scope.names.lookup ("at" : Str) = some .local) (sC : scope.names.lookup ("__class__" : Str) = some .free) (sU : scope.names.lookup ("super" : Str) = some .globalImplicit) (sn : ∀ x ∈ scope.names, x.2 ≠ .cell)
    (sf : ∀ x, scope.names.lookup x = some .free → x = "__class__") (htop : (P.main.scope.names.lookup ("super" : Str)).isSome = false)
    {pl : Env → Sem Bool} (hev : ∀ env, eval (.Call (.Attribute (.Call (.Name "super" p0) [] [] p1) "__init__" p2) [.Name "at" p3] [] p4) env = (do
      let ov ← attributeBase (.Call (.Name "super" p0) [] [] p1) "__init__" env (eval (.Call (.Name "super" p0) [] [] p1) env)
      standAt p2.atName
      let (f, first) ← holding [ov] (getMethod ov "__init__" (pl env))
      callWith p4 f first (backTo p4 (starEach [.Name "at" p3] env)) []))
    (hsw1 : ∀ env, swapsWith (.Call (.Attribute (.Call (.Name "super" p0) [] [] p1) "__init__" p2) [.Name "at" p3] [] p4) none p5.line env = pure false) (hsw2 : ∀ env, swapsWith (.Name "at" p8) (some (.Attribute (.Name "self" p6) "at" p7)) p9.line env = pure false) :
    FnOk P w K mg base CX (k + 1) f (PySem.W.ksFn "__init__" qual params (initBody p0 p1 p2 p3 p4 p5 p6 p7 p8 p9) scope dV kV doc pm an (.ref cda) ct cc) ["self", "at"] (spI K D) := by
  refine ⟨fun vs H Q E h => ?_, fun A outer s H args us vals Q E hr e0 hb r hsp => ?_⟩
  · obtain ⟨a, C, y, rfl, _⟩ := h
    rfl
  obtain ⟨a, C, y, rfl, ci, ea, q⟩ := hsp
  obtain ⟨u, rfl, ry⟩ : ∃ u, us = [.ref a, u] ∧ RelV y u := by
    cases r with
    | cons r0 r1 => cases r1 with | cons r1 r2 => cases r2; cases r0; exact ⟨_, rfl, r1⟩
  have KX : K.In s.heap := e0.mod.kin.keeps fun b o e => (e0.bs b o e).1
  have lim : s.heap.NoLimit := e0.mod.nolimit.keeps fun b o e => (e0.bs b o e).1
  have hloc : ∀ x ∈ [(("self" : Str), Value.ref a), (("at" : Str), u)], scope.names.lookup x.1 = some .local := by
    intro x hx
    simp only [List.mem_cons, List.not_mem_nil, or_false] at hx
    rcases hx with rfl | rfl
    · exact sS
    · exact sA
  refine PySem.ks_codeAny_call_defAt (body := initBody p0 p1 p2 p3 p4 p5 p6 p7 p8 p9) (binds := [("self", .ref a), ("at", u)]) hr.depth (KX _ _ lk) rfl lim (PySem.W.codeRec_of KX hcd) rfl hb sn hloc (fun h₁ hns hk₁ => ?_) sco sge sk
  -- the state within the body
  have base_none : ∀ b o, K.lookup b = some o → H b = none := fun b o e => (e0.bs b o (e0.mod.kin b o e)).2
  have kb : ∀ b o, base.get? b = some o → h₁.get? b = some o := fun b o e => hk₁ b o (e0.bs b o e).1
  have KX1 : K.In h₁ := KX.keeps hk₁
  have ncell : ∀ (x : Str) (c : Addr), (PySem.W.ksEnv qual scope s.heap.objs.size f (.ref cda) cc).cells.lookup x = some c → x = "__class__" ∧ c = cc := fun x c e => by
    have e' : ([(("__class__" : Str), cc)] : List (Str × Addr)).lookup x = some c := e
    by_cases hx : x = ("__class__" : Str)
    · subst hx
      simp only [List.lookup, beq_self_eq_true, Option.some.injEq] at e'
      exact ⟨rfl, e'.symm⟩
    · have hb : (x == ("__class__" : Str)) = false := by simpa using hx
      simp [List.lookup, hb] at e'
  have I : Inv (cxI P w K mg base qual scope f (.ref cda) cc A outer s H) [] [some (.ref a), some y] H { s with heap := h₁, toks := s.toks + 2 } := by
    refine ⟨⟨e0.mod, sk, rfl, rfl, Nat.le_refl _, fun x z c h1 h2 => (ncell x c h1).1.trans (ncell z c h2).1.symm, fun x hx => ?_, fun x c h _ => (by cases h), fun _ => hr.hd, Around.frames_deeper e0.frames, .inr ⟨rfl, rfl⟩, fun b z => absurd (show b ∈ ([] : List Addr) from z) (by simp), e0.bs, e0.bsz,
      fun b _ _ z => absurd (show b ∈ ([] : List Addr) from z) (by simp), fun b z => absurd (show b ∈ ([] : List Addr) from z) (by simp), e0.funs, e0.frf⟩, rfl, e0.bare, Un.kept hk₁, ⟨_, hns, fun i x v h1 h2 h3 => ?_⟩, fun x c h => ?_, e0.hok.fresh (Nat.le_refl _), fun x c h => ?_, fun p hp => absurd (show p ∈ ([] : List (Addr × Obj)) ++ [] from hp) (by simp), e0.hok.kept hk₁, rfl⟩
    · have hx : scope.names.lookup x = some .cell ∨ scope.names.lookup x = some .free := hx
      rcases hx with hx | hx
      · exact absurd rfl (sn _ (PySem.mem_of_lookup hx))
      · rw [sf x hx]; exact ⟨cc, rfl⟩
    · match i, h1, h2 with
      | 0, h1, h2 =>
        cases h1; cases h2
        exact ⟨.ref a, rfl, .inl ⟨sS, rfl⟩⟩
      | 1, h1, h2 =>
        cases h1; cases h2
        exact ⟨u, ry, .inl ⟨sA, rfl⟩⟩
      | i + 2, h1, _ => simp [cxI] at h1
    · obtain ⟨_, rfl⟩ := ncell x c h
      exact ⟨_, _, KX1 _ _ hcell, rfl⟩
    · obtain ⟨_, rfl⟩ := ncell x c h
      exact base_none _ _ hcell
  obtain ⟨nm, qn, N, bs, bm, sn', sub, ab, col, dd, k0, k1, k2, k3, k5, hC, hbm⟩ := ci.oex.cls
  obtain ⟨t1, hx0⟩ := exo_at e0.hok ea
  have hx1 : h₁.get? a = some (PySem.HandSPX.excO C t1) := hk₁ _ _ hx0
  have hcl : PySem.W.clsIn K C = some { name := nm, bases := bs, mro := .ref C :: bm, ns := N, qualname := qn, hasDict := true, slotNames := sn', subclasses := sub, abstract := ab, collection := col, hasDel := false } := by unfold PySem.W.clsIn; rw [hC] <;> rfl
  have hsup := ci.sup
  unfold PySem.W.ks_superIn at hsup
  rw [hcl, Option.bind_some] at hsup
  obtain ⟨oD, hD1, hD2⟩ : ∃ oD, K.lookup D = some oD ∧ oD.data = .cls cdD := by
    unfold PySem.W.clsIn at hD
    split at hD
    · rename_i ho
      cases hD
      exact ⟨_, ho, rfl⟩
    · cases hD
  obtain ⟨mb, hmb, hmbv⟩ := e0.mod.blt
  refine ks_wpAt_execs_cons (ks_wpAt_mono (Q := fun fl s' => fl = .next ∧ Inv (cxI P w K mg base qual scope f (.ref cda) cc A outer s H) [] [some (.ref a), some y] H s') (E := fun _ _ => False) (ks_wpAt_Expr_any (ks_wpAt_MethodCall (ks_wpAt_super_base (env := PySem.W.ksEnv qual scope s.heap.objs.size f (.ref cda) cc) sU sC (by decide) rfl (KX1 _ _ lk) rfl hp rfl (KX1 _ _ hcode) rfl hvs hfile htop ?_) (hev _)) I.quiet (hsw1 _)) (fun fl s' h => ?_) fun _ _ z => z.elim)
  · refine PySem.W.ks_loadName_global sk sU (Calls.loadGlobal_builtin (env := PySem.W.ksEnv qual scope s.heap.objs.size f (.ref cda) cc) (e0.mod.glob.keeps kb) ms (hmb.keeps kb) ((hmbv _ (by decide)).trans (show bootBuiltins "super" = some (.type "super") from by kernel_rfl)) ⟨rfl, ?_⟩)
    refine wpAny_loadName_free sk sC rfl ⟨_, KX1 _ _ hcell, rfl⟩ ?_
    rw [har]
    refine wpAny_loadName_local sk sS hns rfl ?_
    refine ks_wpAny_isType_cls (KX1 _ _ hD1) hD2 ⟨rfl, ?_⟩
    have hxC : a ≠ C := fun z => by
      have := base_none _ _ hC
      rw [← z, ea] at this
      cases this
    refine ks_wpAny_call_super (KX1 _ _ hD1) hD2 hx1 rfl (fun c e => by cases e) (PySem.W.looks_mroIn KX1 ci.sub) (fun h2 e2 k2 => ?_)
    have KX2 : K.In h2 := KX1.keeps k2
    have hx2 := k2 _ _ hx1
    refine PySem.W.kxs_getMethod PySem.W.kxs_ValueError e2 (PySem.W.looks_opaque KX2 hop) ((PySem.W.looks_clsIn KX2 hcl).andThen .now) rfl KX2 hsup
      (PySem.W.Looks.andThen (fun A Q E s k q => wpAny_typeOf_ref (k _ _ hx2) q) (PySem.W.looks_subIn KX2 ci.val)) hxC (by decide) ?_
    have k3 : ∀ b o, h₁.get? b = some o → (h2.push (PySem.W.kxs_mw "ValueError.__init__" a)).get? b = some o := fun b o e => Heap.get?_push_of_some _ (k2 b o e)
    refine PySem.W.kxs_callWith (i := "ValueError.__init__") (x := a) rfl (Calls.evalArgs_plain (Calls.spliced_cons (wpAny_Name (wpAny_loadName_local sk sA (hns.at fun o q => k3 _ o q) rfl (Calls.spliced_nil ⟨Heap.get?_push_size _ rfl, ?_⟩)) (by decide))))
    refine mw_call (k3 _ _ (KX1 _ _ hC)) hbm (Heap.get?_push_size _ rfl) (k3 _ _ hx1) (by show 1 ≤ sizeLine; rw [sizeLine_eq]; omega) fun h4 t4 k4 hx4 => ?_
    refine ⟨rfl, ?_⟩
    have J1 := I.kept (t' := s.toks + 2 + 1) k3
    have J := J1.write (t' := s.toks + 2 + 1) (x := a) (e := a) (o := exo a C none) (by rw [ea]; exact True.intro) (.inl rfl) k4 ⟨_, hx4⟩ (exo_ok hx4)
    have eu : upd H a (exo a C none) = H := by
      funext b
      by_cases hb : b = a
      · rw [hb, upd_same, ea]
      · rw [upd_ne hb]
    rw [eu] at J
    exact J
  · obtain ⟨rfl, J⟩ := h
    refine wpAt_of_wpAny ?_
    have ps : PSs (cxI P w K mg base qual scope f (.ref cda) cc A outer s H) [.Assign [.Attribute (.Name "self" p6) "at" p7] (.Name "at" p8) p9] _ := pss_one (ps_ost (pe_var (i := 0) rfl (.inl sS)) (pe_var (i := 1) rfl (.inl sA)) (hsw2 _))
    refine wpAny_mono (ps.run [] s' [some (.ref a), some y] H { nx := fun _ H' => Q .non H', rt := fun _ _ => False } J ?_) (fun fl s2 h2 => ?_) fun _ _ z => False.elim z
    · exact ⟨y, rfl, .ref a, rfl, a, C, rfl, ci.oex, ci.atN, .inl ⟨ea, fun dx n ne => q dx n ne⟩⟩
    · cases fl with
      | next =>
        obtain ⟨σ', H', J', q'⟩ := h2
        exact ⟨.non, H', J'.os, J'.bare, J'.base, J'.hok, rfl, q'⟩
      | ret _ => obtain ⟨_, _, _, _, _, q'⟩ := h2; exact q'.elim
      | brk => obtain ⟨_, _, _, q'⟩ := h2; exact q'.elim
      | cont => obtain ⟨_, _, _, q'⟩ := h2; exact q'.elim
end
end Ev
end

section
set_option Elab.async false
set_option linter.all false
set_option maxRecDepth 100000
set_option maxHeartbeats 2000000
namespace Ev
open PySem PySem.Spec PyProof.Rows L2
/-! ## raise -/
section
variable {X : Cx} {px : Addr → Nat → Addr → Prop} {cl : Nat → Addr} {W : WX} {F F' F0 F1 F2 : As} {e e' e0 e1 e2 : En} {σ σ0 : L2.St} {H H0 H1 H2 : Hp}
/-- C(e), the exception's own __init__ keeping sp; what is told of its object: its context is None -/
theorem pmk_own {CX : CXT} {x : Str} {C fI : Addr} {k : Nat} {fd : FuncData} {ps : List Str} {sp : Sp} {e : Expr} {es : List Expr} {ta : TA} {p pos : Pos} (T : OexC X.K C) (iC : PySem.W.findIn X.K (.ref C) "__init__" = some (some (.ref fI))) (tI : PySem.W.typeIn X.K (.ref fI) = some (.type "function"))
    (G : FnOk X.prog X.w X.K X.mg X.base CX k fI fd ps sp) (hr : Room (k + 1) X.A) (hb : Binds X.K fd ps []) (hx : Passes CX X (fun _ _ _ => False)) (hg : Gl X x) (hm : X.mg x = some (.ref C)) (ha : PA X (e :: es) ta)
    (hdb : (x == ("__debug__" : Str)) = false) (he : starEach (e :: es) X.env = (false, eval e X.env) :: starEach es X.env) (hpl : (backTo pos (starEach es X.env)).any (·.1) = false) :
    L2N.PMk X (.Call (.Name x p) (e :: es) [] pos) (tMkO C sp [] ta) := by
  intro pins s σ H Q I h
  obtain ⟨nm, q, N, bs, bm, sn, sub, ab, col, dd, k0, k1, k2, k3, k5, hC, hbm⟩ := T.cls
  refine wpAny_Call_Name_kw (ld_glob I hg hm ?_ hdb)
  refine PySem.W.callWith_K (h₀ := X.base) I.ok.mod.kin T.kC (thn (ha.run pos pins s σ H _ I h) fun us s1 ⟨vs, H1, I1, rv, hz, q1⟩ => ⟨I1.kIn, ?_⟩) he hpl
  show wpAny _ _ (call (.ref C) us) _ _ _
  obtain ⟨hp, g, dr, tk, os⟩ := s1
  generalize hn1 : hp.objs.size + 1 = n
  have hsz : hp.objs.size ≤ n := by omega
  have hq := q1 n (I1.hok.fresh hsz)
  have keep : ∀ b o, hp.get? b = some o → ((hp.push (PySem.W.kdv_tup us)).push (PySem.HandSPX.excO C hp.objs.size)).get? b = some o := fun b o z => Heap.get?_push_of_some _ (Heap.get?_push_of_some _ z)
  have there : ((hp.push (PySem.W.kdv_tup us)).push (PySem.HandSPX.excO C hp.objs.size)).get? n = some (PySem.HandSPX.excO C hp.objs.size) := by
    rw [← hn1]
    heap_get
  have J : Inv X pins σ (upd H1 n (exo n C none)) ⟨(hp.push (PySem.W.kdv_tup us)).push (PySem.HandSPX.excO C hp.objs.size), g, dr, tk, os⟩ := I1.laid (t' := tk) (o := exo n C none) keep hsz (exo_ok there)
  have r2 : Vals (V.ref n :: (vs ++ [])) (Value.ref n :: (us ++ [])) := .cons rfl (rv.append .nil)
  have hl : (Value.ref n :: us ++ []).length = ps.length := (r2.length.symm.trans (G.len _ _ _ _ hq))
  have hus : us.length ≤ sizeLine := by
    rw [← Paired.length rv, sizeLine_eq]
    omega
  subst hn1
  refine wpAny_call (PySem.HandSPX.call_own F.excBase_ValueError (fun Y => PySem.HandSPX.refsVE_contains Y bm hbm) (I1.kIn _ _ hC) (PySem.W.looks_findIn I1.kIn iC) (fun self => PySem.W.bind_fn I1.kIn self tI) hus
    (codeAny_mono (G.run _ X.stack _ _ ⟨Value.ref (hp.objs.size + 1) :: us, []⟩ _ _ _ (fun _ _ _ => False) (hr.make C us []) (J.env0.make C us []) (hb _ (Value.ref (hp.objs.size + 1) :: us) J.kIn hl) r2 hq) fun r s' hq' => ?_))
  cases r with
  | error er => exact hx pins σ _ _ er s' J hq'
  | ok fl =>
    cases fl with
    | ret u =>
      obtain ⟨v, H2, os2, bare2, un2, hok2, rw2, ev, d, fs, ea, ed, hd1, q2⟩ := hq'
      subst ev
      obtain ⟨h2, g2, d2, t2, os'⟩ := s'
      obtain ⟨t0, Gr, J2, kG, ge, hoe, na⟩ := mk_end0 (d2 := d2) (t2 := t2) I1 hsz keep un2 hok2 os2 bare2 ea ed hd1
      exact ⟨rw2, _, _, _, ⟨Gr, g2, d2, t2, os'⟩, _, .ref C, some d, rfl, J2, kG, ge, hoe, ⟨rfl, rfl, fun vs hv => (by cases hv; rfl)⟩, rfl, rfl, na, rfl, bare2, raises_own T.exC T.tyC, q2⟩
    | next => exact False.elim hq'
    | brk => exact False.elim hq'
    | cont => exact False.elim hq'
theorem s_rse {c k : Nat} {x : Str} {D fI : Addr} {fd : FuncData} {CX : CXT} {a : Expr} {fa : En → R} {p pos pos' : Pos} (hc : X.calm = true) (tk : L2N.Takes X W) (ci : ClsI X.K D (cl c)) (iC : PySem.W.findIn X.K (.ref (cl c)) "__init__" = some (some (.ref fI))) (tI : PySem.W.typeIn X.K (.ref fI) = some (.type "function"))
    (G : FnOk X.prog X.w X.K X.mg X.base CX k fI fd ["self", "at"] (spI X.K D)) (hr : Room (k + 1) X.A) (hb : Binds X.K fd ["self", "at"] []) (hx : Passes CX X (fun _ _ _ => False)) (hg : Gl X x) (hm : X.mg x = some (.ref (cl c)))
    (hdb : (x == ("__debug__" : Str)) = false) (he : starEach [a] X.env = (false, eval a X.env) :: starEach [] X.env) (hpl : (backTo pos (starEach [] X.env)).any (·.1) = false) (hn : notStar a = true) (ha : PE X a (tE (Kx.mk X.K px X.w) cl W fa)) :
    PS X (.Raise (some (.Call (.Name x p) [a] [] pos)) none pos') (tS (Kx.mk X.K px X.w) cl W (dRse c fa)) := by
  refine psI (L2N.ps_raise hc tk (pmk_own ci.oex iC tI G hr hb hx hg hm (pa_cons ha pa_nil (starEach_cons hn)) hdb he hpl)) fun D' σ H ⟨F, e, r, p⟩ => ?_
  refine ⟨F, e, r, POS.bd (.refl r) p fun u e1 F1 H1 z a1 f1 v1 n1 p1 => ⟨by simp, fun n nn => ?_⟩⟩
  cases q : take e1 u with
  | none => rw [q] at p1; exact p1.elim
  | some q' =>
    obtain ⟨y, e2⟩ := q'
    rw [q] at p1
    dsimp only at p1
    obtain ⟨F2, r2, f2, rp, g2, _, l2, _⟩ := take_ok a1.r a1.f v1 n1 q
    refine ⟨n, cl c, z, rfl, ci, upd_same, fun dx ndx ne => ⟨rfl, dx, [("at", z)], upd_same, by rw [upd_ne ne, upd_same], ?_, ?_⟩⟩
    · rw [upd_ne ne] at ndx
      exact ndx
    · have ndx' : H1 dx = none := by rw [upd_ne ne] at ndx; exact ndx
      have eq : upd (del (upd (upd (upd H1 n (exo n (cl c) none)) dx (exd dx [("at", z)])) n (exo n (cl c) (some dx))) n) dx (.xd [("at", z)]) = upd H1 dx (.xd [("at", z)]) := by
        funext b
        by_cases h1 : b = dx
        · rw [h1, upd_same, upd_same]
        · rw [upd_ne h1, upd_ne h1]
          by_cases h2 : b = n
          · rw [h2, del_same, nn]
          · rw [del_ne h2, upd_ne h2, upd_ne h1, upd_ne h2]
      rw [eq]
      have m := More.one (F := F2) (H := H1) (p := dx) (o := .xd [("at", z)]) r2.dom ndx'
      obtain ⟨r3, f3⟩ := r2.more m
      exact p1 F2 σ _ dx r3 (f2.trans r f3) ⟨z, upd_same, rp.mono (fun _ h => h) fun b o h q => m.keep b o q⟩
end
end Ev
end

section
set_option Elab.async false
set_option linter.all false
set_option maxRecDepth 100000
set_option maxHeartbeats 4000000
namespace Ev
open PySem PySem.Spec PyProof.Rows L2
/-! ## isinstance of a caught exception that has its dict -/
section
open PySem.W PySem.Calls
variable {prog : Program} {w : World} {A : Around} {E : Value → Shared → Prop} {s : Shared} {K : Frag} {x D : Addr} {ox : Obj} {od : Option Obj}
theorem find_dataD {C : Addr} {name : Str} {a g : Value} (hc : (clsIn K C).isSome = true) (ha : findIn K (.ref C) name = some (some a)) (hg : specialIn K a "__get__" = some (some g)) (ht : takesIn K a = some true) : findObj K C od name = some (.bind g a) := by
  obtain ⟨cd, hc⟩ := Option.isSome_iff_exists.mp hc
  unfold findObj
  rw [hc, Option.bind_some, ha, Option.bind_some]
  simp [hg, ht]
theorem class_ofD (c : ExcC K D) {Q : Option Value → Shared → Prop} (X : K.In s.heap) (I : InstAt s.heap x ox D od) (h : Q (some (.ref D)) { s with toks := s.toks + 1 }) : wpAny (model prog w) A (getAttr? (.ref x) "__class__") Q E s := by
  have hf : findObj K D od "__class__" = some (.bind (.builtin "getset_descriptor.__get__") (.builtin "object.__class__")) := find_dataD (by obtain ⟨cd, hc, _⟩ := any_some c.hd; rw [hc]; rfl) c.ha c.hn c.ht
  obtain ⟨hp, g, d, t, os⟩ := s
  have l0 := I.type (M := model prog w)
  have l1 := looks_findIn (M := model prog w) X c.hg
  have l2 := looks_findIn (M := model prog w) X c.hk
  have l3 := looks_find (M := model prog w) X I hf
  have sub : Looks (model prog w) hp (isInstance (.ref x) (.type "BaseException")) true := l0.andThen (looks_subIn X c.hs)
  have own : (Value.builtin "BaseException.__getattribute__" == Value.builtin "object.__getattribute__") = false := by decide +kernel
  have own' : (onTheHeap (Value.ref D) && Value.builtin "BaseException.__getattribute__" == Value.builtin "object.__getattribute__") = false := by rw [own]; rfl
  unfold getAttr? getAttrBy? getAttrBy
  refine wpAny_bind (wpAny_mkText (wpAny_bind (wpAny_attempt (wpAny_holding (wpAny_bind (l0.at (wpAny_bind (l1.at ?_))))))))
  show wpAny _ _ (if (onTheHeap (Value.ref D) && Value.builtin "BaseException.__getattribute__" == Value.builtin "object.__getattribute__") = true then _ else _) _ _ _
  rw [own', if_neg Bool.false_ne_true]
  unfold getAttrByItsOwn hookBefore
  refine wpAny_bind ?_
  rw [if_pos (show onTheHeap (Value.ref D) = true from rfl)]
  refine l2.at (wpAny_bind (wpAny_attempt (wpAny_holding ?_)))
  unfold callGetattribute
  rw [show (false && onTheHeap (Value.builtin "BaseException.__getattribute__")) = false from rfl, if_neg Bool.false_ne_true]
  unfold boundAndCalled
  rw [PySem.F.excAttr_ValueError.ga.bind (.ref x)]
  refine wpAny_bind (wpAny_pure ?_)
  show wpAny _ _ (call (.builtin "BaseException.__getattribute__") [.ref x, .str "__class__" t]) _ _ _
  refine wpAny_call (codeAny_call_builtin PySem.F.excAttr_ValueError.ga.plain PySem.F.entry_bexc_ga ?_)
  refine @check_slot (model prog w) _ _ ⟨hp, g, d, t + 1, os⟩ "BaseException.__getattribute__" "BaseException" "__getattribute__" (.ref x) [.str "__class__" t] [] _ (by decide +kernel) (by decide +kernel) sub (PySem.F.args_bexc_ga (.ref x) (.str "__class__" t)) ?_
  unfold Builtin.«object.__getattribute__»
  refine wpAny_bind (wpAny_of_eq (a := ((Value.ref x : Value), [Value.str "__class__" t])) (by first | rfl | (simp only [slotArgs]; rfl)) ?_)
  refine wpAny_bind (wpAny_pure (wpAny_bind (l0.at (wpAny_bind (l3.at ?_)))))
  show wpAny _ _ (holding [Value.builtin "object.__class__"] (call (.builtin "getset_descriptor.__get__") [.builtin "object.__class__", .ref x, .ref D]) >>= ret) _ _ _
  refine wpAny_bind (wpAny_holding (wpAny_call (class_get (s := ⟨hp, g, d, t + 1, os⟩) (ox := ox) (od := od) X I c.hm ?_)))
  refine wpAny_pure ?_
  show wpAny _ _ (handedOut (.ref D)) _ _ _
  rw [handedOut_of (v := .ref D) rfl]
  first
    | exact wpAny_pure (wpAny_pure h)
    | exact wpAny_pure h
    | exact wpAny_pure (wpAny_bind (wpAny_pure (wpAny_pure h)))
theorem kitD (c : ExcC K D) : KitX K (.ref x) (.ref D) (fun h => InstAt h x ox D od) where
  ty := fun _ _ _ I => I.type
  it := fun _ _ X _ => by
    obtain ⟨cdD, hcD, _⟩ := any_some c.hd
    unfold clsIn at hcD
    split at hcD
    · rename_i ho
      intro A' Q' E' s' k q
      unfold isType loadHead
      exact wpAny_bind (wpAny_loadPart (k _ _ (X _ _ ho)) (wpAny_pure q))
    · cases hcD
  ne := fun h tp dd its n sl X htp => by
    obtain ⟨cdD, hcD, _⟩ := any_some c.hd
    refine Bool.eq_false_iff.mpr fun q => ?_
    have e : D = tp := Value.ref.inj (beq_iff_eq.mp q)
    subst e
    unfold clsIn at hcD
    split at hcD
    · rename_i ho
      have z := (X _ _ ho).symm.trans htp
      cases z
    · cases hcD
  ca := fun X I k => class_ofD c X I k
end
/-! ## what an exception at hand is -/
/-- each that px tells of is pinned -/
structure PxOk (X : Cx) (cl : Nat → Addr) (px : Addr → Nat → Addr → Prop) : Prop where
  pin : ∀ a c dx, px a c dx → ∃ oe, (a, oe) ∈ X.pn ∧ oe.cls = .ref (cl c) ∧ oe.dict = some dx ∧ ∃ vs, oe.data = .fields vs
  cls : ∀ a c dx, px a c dx → ExcC X.K (cl c) ∧ XfC X.K (cl c) ∧ PySem.W.findIn X.K (.ref (cl c)) "at" = some none
section
variable {X : Cx} {px : Addr → Nat → Addr → Prop} {cl : Nat → Addr} {W : WX} {F F' F0 F1 F2 : As} {e e' e0 e1 e2 : En} {σ σ0 : L2.St} {H H0 H1 H2 : Hp} {M : Pm}
theorem Inv.inst {pins : List (Addr × Obj)} {s : Shared} {a dx : Addr} {c : Nat} {fs : List (Str × V)} (P : PxOk X cl px) (I : Inv X pins σ H s) (h : px a c dx) (hd : H dx = some (.xd fs)) : ∃ oe od, PySem.W.InstAt s.heap a oe (cl c) (some od) ∧ ∃ mA, s.heap.Ns1 dx mA ∧ (∀ f, RelO (fs.lookup f) (mA f)) ∧ s.heap.get? dx = some od := by
  obtain ⟨oe, hm, h1, h2, vs, h3⟩ := P.pin a c dx h
  obtain ⟨hg, _⟩ := I.pin (a, oe) (List.mem_append_left _ hm)
  have hx : ObjOk X.prog X.w H s.heap dx (.xd fs) := I.hok dx _ hd
  obtain ⟨mA, hns, hr⟩ := hx
  obtain ⟨od, ho, hl⟩ := lookIn_ns hns
  exact ⟨oe, od, ⟨hg, h1, by unfold PySem.W.notCls; rw [h3] <;> rfl, by rw [h2]; exact ho⟩, mA, hns, hr, ho⟩
theorem s_xat {i : Nat} {x : Str} {p pos : Pos} (P : PxOk X cl px) (hN : X.N[i]? = some x) (hv : Vis X.env.scope x) (hd : (x == ("__debug__" : Str)) = false) (hcd : (x == ("__classdict__" : Str)) = false) (hb : attributeBase (.Name x p) "at" X.env (eval (.Name x p) X.env) = eval (.Name x p) X.env) :
    PE X (.Attribute (.Name x p) "at" pos) (tE (Kx.mk X.K px X.w) cl W (dXat i)) := by
  refine ⟨fun pins s σ H Q I ⟨F, e, r, q⟩ => ?_⟩
  unfold dXat at q
  cases g : getS e i with
  | ex c y =>
    rw [g] at q
    have sl := r.slot i
    rw [g] at sl
    obtain ⟨a, dx, w, h1, h2, h3, h4⟩ := sl
    refine attr_of hb (thn ((pe_var hN hv hd hcd).run pins s σ H (fun v H' => v = .ref a ∧ H' = H) I ⟨.ref a, h1, rfl, rfl⟩) fun u s1 ⟨v, H1, I1, rv, ev, eH⟩ => ?_)
    subst ev eH
    obtain rfl : u = Value.ref a := rv
    obtain ⟨oe, od, J, mA, hns, hr, ho⟩ := Inv.inst P I1 h2 h3
    obtain ⟨_, T, hno⟩ := P.cls a c dx h2
    obtain ⟨od', ho', hl⟩ := lookIn_ns hns
    rw [ho] at ho'
    cases ho'
    obtain ⟨u, hu, ru⟩ := RelO.some_of (v := w) (o := mA "at") (hr "at")
    exact HandSPX.exc_get I1.kIn J T.ga T.gg T.exC (PySem.W.findObj_own T.hdC hno rfl (by rw [hl, hu])) (handed_of ru) ⟨w, H1, I1.tok _, ru, PO'.okd (.refl r) q h4⟩
  | _ => rw [g] at q; exact q.elim
/-- isinstance(e, C) -/
theorem s_isi {i c : Nat} {x y : Str} {px1 px2 p pos : Pos} (P : PxOk X cl px) (hN : X.N[i]? = some x) (hv : Vis X.env.scope x) (hd : (x == ("__debug__" : Str)) = false) (hcd : (x == ("__classdict__" : Str)) = false)
    (hgi : Gl X "isinstance") (hmi : X.mg "isinstance" = none) (hg : Gl X y) (hm : X.mg y = some (.ref (cl c))) (hdy : (y == ("__debug__" : Str)) = false) (hk : ∀ c' b, M.sub c' c = some b → PySem.W.kitOne X.K (.ref (cl c')) (.ref (cl c)) = some b)
    (he : starEach [.Name x px1, .Name y px2] X.env = (false, eval (.Name x px1) X.env) :: starEach [.Name y px2] X.env) (he2 : starEach [.Name y px2] X.env = (false, eval (.Name y px2) X.env) :: starEach [] X.env) (hpl : (backTo pos (starEach [.Name y px2] X.env)).any (·.1) = false) :
    PE X (.Call (.Name "isinstance" p) [.Name x px1, .Name y px2] [] pos) (tE (Kx.mk X.K px X.w) cl W (dIsi M i c)) := by
  refine ⟨fun pins s σ H Q I ⟨F, e, r, q⟩ => ?_⟩
  unfold dIsi at q
  cases g : getS e i with
  | ex c' z =>
    rw [g] at q
    have sl := r.slot i
    rw [g] at sl
    obtain ⟨a, dx, w, h1, h2, h3, h4⟩ := sl
    dsimp only at q
    cases hs : M.sub c' c with
    | none => rw [hs] at q; exact q.elim
    | some b =>
      rw [hs] at q
      have pa : PA X [.Name x px1, .Name y px2] (tCons (tVar i) (tCons (tC (.ref (cl c))) tNil)) := pa_cons (pe_var hN hv hd hcd) (pa_cons (pe_glob hg hm rfl hdy) pa_nil he2) he
      refine wpAny_Call_Name_kw (ld_blt I hgi hmi (show bootBuiltins "isinstance" = some (.builtin "isinstance") from by kernel_rfl) ?_ (by decide) (by decide))
      refine PyProof.Rows.callWith_builtin1 (thn (pa.run pos pins s σ H (fun vs H' => vs = [.ref a, .ref (cl c)] ∧ H' = H) I ⟨.ref a, h1, rfl, rfl⟩) fun us s1 ⟨vs, H1, I1, rv, ev, eH⟩ => ?_) he hpl
      subst ev eH
      obtain ⟨u1, u2, rfl, r1, r2⟩ := vals2 rv
      cases (show u1 = Value.ref a from r1)
      cases (show u2 = Value.ref (cl c) from r2)
      obtain ⟨oe, od, J, _⟩ := Inv.inst P I1 h2 h3
      obtain ⟨T, _⟩ := P.cls a c' dx h2
      exact PySem.W.kia_one (kitD T) I1.kIn J (hk c' b hs) (fun z => nomatch z) fun tk => ⟨.bl b, H1, I1.kept (t' := tk) fun _ _ z => z, rfl, PO'.okd (.refl r) q (.bl b)⟩
  | _ => rw [g] at q; exact q.elim
end
/-! ## try -/
section
variable {K K' : Kx} {F F' F0 F1 F2 F3 : As} {e e' e0 e1 e2 e3 : En} {σ σ' σ0 σ1 σ2 σ3 : L2.St} {H H' H0 H1 H2 H3 : Hp} {cl : Nat → Addr} {W : WX}
mutual
theorem Rep.to (h : K.fr = K'.fr) : ∀ {v : V} {d : PyData}, Rep K F H v d → Rep K' F H v d
  | _, _, .non => .non
  | _, _, .bl b => .bl b
  | _, _, .int i => .int i
  | _, _, .str x => .str x
  | _, _, .lst f r l => .lst f r (RepL.to h l)
  | _, _, .tup f r l => .tup f r (RepL.to h l)
  | _, _, .klst k l => .klst (by rw [← h]; exact k) (RepL.to h l)
  | _, _, .ktup k l => .ktup (by rw [← h]; exact k) (RepL.to h l)
theorem RepL.to (h : K.fr = K'.fr) : ∀ {vs : List V} {ds : List PyData}, RepL K F H vs ds → RepL K' F H vs ds
  | _, _, .nil => .nil
  | _, _, .cons a b => .cons (Rep.to h a) (RepL.to h b)
end
theorem Root.to (h : K.fr = K'.fr) (hw : K.w = K'.w) {a : Addr} {d : PyData} (r : Root K F H a d) : Root K' F H a d := by
  cases r with
  | lst e l => exact .lst e (l.to h)
  | rng e => exact .rng e
  | dct e l => exact .dct (by rw [← hw]; exact e) (Paired.mapP l fun _ _ ⟨z1, z2, z3, v, z4, z5⟩ => ⟨z1, z2, z3.to h, v, z4, z5.to h⟩)
theorem Exc.to (h : K.fr = K'.fr) {dx : Addr} {a : PyData} (x : Exc K F H dx a) : Exc K' F H dx a := by
  obtain ⟨v, h1, h2⟩ := x
  exact ⟨v, h1, h2.to h⟩
theorem Rel.to (h : K.fr = K'.fr) (hw : K.w = K'.w) (n : ∀ i c x, getS e i ≠ .ex c x) (r : Rel K F e σ H) : Rel K' F e σ H := by
  refine ⟨r.len, r.dom, fun i => ?_, r.apart⟩
  have s := r.slot i
  cases g : getS e i with
  | sh d => rw [g] at s; obtain ⟨v, h1, h2⟩ := s; exact ⟨v, h1, h2.to h⟩
  | ow l k d => rw [g] at s; obtain ⟨a, h1, h2, h3⟩ := s; exact ⟨a, h1, h2, h3.to h hw⟩
  | no => trivial
  | ex c x => exact absurd g (n i c x)
def clrS : Sl → Sl
  | .ex _ _ => .no
  | s => s
theorem clearX_get : ∀ (e : En) (i : Nat), getS (clearX e) i = clrS (getS e i)
  | [], i => by cases i <;> rfl
  | s :: r, 0 => by cases s <;> rfl
  | s :: r, i + 1 => by
    have := clearX_get r i
    cases s <;> exact this
theorem clearX_length : ∀ e : En, (clearX e).length = e.length
  | [] => rfl
  | s :: r => by
    have := clearX_length r
    cases s <;> simp [clearX, this]
theorem clr_ow {s : Sl} {l k : Bool} {x : PyData} : clrS s = .ow l k x ↔ s = .ow l k x := by cases s <;> simp [clrS]
/-- the exception's slot goes, none is at hand any more -/
theorem gone_get {i j : Nat} : getS (clearX (setS e i .no)) j = if j = i then .no else clrS (getS e j) := by
  rw [clearX_get]
  by_cases hi : i < e.length
  · rw [getS_setS hi]
    split <;> rfl
  · rw [setS_self hi]
    split
    · rename_i c; rw [c, getS_none hi]; rfl
    · rfl
theorem gone_ownAt {i j : Nat} {a : Addr} (h : OwnAt (clearX (setS e i .no)) (σ.set i none) j a) : j ≠ i ∧ OwnAt e σ j a := by
  obtain ⟨⟨l, k, x, h1⟩, h2⟩ := h
  rw [gone_get] at h1
  split at h1
  · cases h1
  · rename_i c
    rw [List.getElem?_set_ne (fun q => c q.symm)] at h2
    exact ⟨c, ⟨l, k, x, clr_ow.mp h1⟩, h2⟩
theorem Rel.gone {i : Nat} (h : K.fr = K'.fr) (hw : K.w = K'.w) (r : Rel K F e σ H) : Rel K' F (clearX (setS e i .no)) (σ.set i none) H := by
  refine ⟨by rw [clearX_length, setS_length, List.length_set]; exact r.len, r.dom, fun j => ?_, fun j k a h1 h2 => r.apart j k a (gone_ownAt h1).2 (gone_ownAt h2).2⟩
  rw [gone_get]
  split
  · trivial
  · rename_i c
    rw [List.getElem?_set_ne (fun q => c q.symm)]
    have s := r.slot j
    cases g : getS e j with
    | sh d => rw [g] at s; obtain ⟨v, h1, h2⟩ := s; exact ⟨v, h1, h2.to h⟩
    | ow l k d => rw [g] at s; obtain ⟨a, h1, h2, h3⟩ := s; exact ⟨a, h1, h2, h3.to h hw⟩
    | no => trivial
    | ex c x => trivial
theorem Fr.gone {i : Nat} (f : Fr F0 e0 σ0 H0 F e σ H) (n : ∀ l x, getS e0 i ≠ .ow l true x) : Fr F0 e0 σ0 H0 F (clearX (setS e i .no)) (σ.set i none) H where
  ln := by rw [clearX_length, setS_length]; exact f.ln
  keep := f.keep
  dom := f.dom
  grow := f.grow
  new := f.new
  own := fun a ⟨j, h⟩ => f.own a ⟨j, (gone_ownAt h).2⟩
  muts := fun a ⟨j, ⟨l, x, h1⟩, h2⟩ => by
    obtain ⟨c, q⟩ := gone_ownAt ⟨⟨l, false, x, h1⟩, h2⟩
    rw [gone_get, if_neg c] at h1
    exact f.muts a ⟨j, ⟨l, x, clr_ow.mp h1⟩, q.2⟩
  lent := fun j k x h => by
    rw [gone_get] at h
    split at h
    · cases h
    · rename_i c
      obtain ⟨h1, h2⟩ := f.lent j k x (clr_ow.mp h)
      exact ⟨h1, (List.getElem?_set_ne fun q => c q.symm).trans h2⟩
  lkd := fun j l x h => by
    have c : j ≠ i := fun c => by subst c; exact n l x h
    obtain ⟨h1, h2⟩ := f.lkd j l x h
    refine ⟨?_, (List.getElem?_set_ne fun q => c q.symm).trans h2⟩
    rw [gone_get, if_neg c, h1]
    rfl
/-- the exception stands in its slot -/
theorem Rel.putX {i c : Nat} {a dx : Addr} {x : PyData} (r : Rel K F e σ H) (hf : freeS e i = true) (hp : K.px a c dx) (ex : Exc K F H dx x) :
    Rel K F (setS e i (.ex c x)) (σ.set i (some (.ref a))) H ∧ Fr F e σ H F (setS e i (.ex c x)) (σ.set i (some (.ref a))) H := by
  obtain ⟨w, hd, rp⟩ := ex
  by_cases hi : i < e.length
  · have hσ : i < σ.length := by rw [← r.len]; exact hi
    have at' : ∀ j b, OwnAt (setS e i (.ex c x)) (σ.set i (some (.ref a))) j b → j ≠ i ∧ OwnAt e σ j b := fun j b ⟨⟨l, k, y, z1⟩, z2⟩ => by
      rw [getS_setS hi] at z1
      split at z1
      · cases z1
      · rename_i c
        rw [List.getElem?_set_ne (fun q => c q.symm)] at z2
        exact ⟨c, ⟨l, k, y, z1⟩, z2⟩
    refine ⟨⟨by rw [setS_length, List.length_set]; exact r.len, r.dom, fun j => ?_, fun j k b z1 z2 => r.apart j k b (at' j b z1).2 (at' k b z2).2⟩,
      ⟨setS_length, fun _ _ h _ => h, fun _ h => h, fun _ h => h, fun _ h => .inl h, fun b ⟨j, z⟩ => .inl ⟨j, (at' j b z).2⟩, fun b ⟨j, ⟨l, y, z1⟩, z2⟩ => ?_, fun j k y z => ?_, fun j l y z => ?_⟩⟩
    · rw [getS_setS hi]
      split
      · rename_i c'; subst c'
        exact ⟨a, dx, w, by rw [List.getElem?_set_self hσ], hp, hd, rp⟩
      · rename_i c'
        rw [List.getElem?_set_ne (fun q => c' q.symm)]
        exact r.slot j
    · obtain ⟨c', z⟩ := at' j b ⟨⟨l, false, y, z1⟩, z2⟩
      rw [getS_setS hi, if_neg c'] at z1
      exact .inl ⟨j, ⟨l, y, z1⟩, z.2⟩
    · rw [getS_setS hi] at z
      split at z
      · cases z
      · rename_i c'
        exact ⟨⟨k, y, z⟩, List.getElem?_set_ne fun q => c' q.symm⟩
    · have c' : j ≠ i := fun q => by subst q; exact (freeS_not hf).2 l y z
      exact ⟨by rw [getS_setS hi, if_neg c']; exact z, List.getElem?_set_ne fun q => c' q.symm⟩
  · rw [setS_self hi, List.set_eq_of_length_le (by rw [← r.len]; omega)]
    exact ⟨r, .refl⟩
/-- a suite's end as the end of the whole -/
theorem hx_pos {D : Ends} {i : Nat} {x : R} (h : K.fr = K'.fr) (hw : K.w = K'.w) (a : At K F0 e0 σ0 H0 F e σ H) (r1 : Rel K' F1 e1 σ1 H1) (f1 : Fr F e σ H F1 e1 σ1 H1) (n : ∀ l x, getS e1 i ≠ .ow l true x) (p : POS K cl W F0 e0 σ0 H0 D (x.hx i)) :
    POS K' cl (fun _ _ _ _ => False) F1 e1 σ1 H1 { nx := fun σ' H' => D.nx (σ'.set i none) H', rt := D.rt, bk := fun σ' H' => D.bk (σ'.set i none) H', ct := fun σ' H' => D.ct (σ'.set i none) H' } x := by
  have go : ∀ {F' e' σ' H'}, Fr F1 e1 σ1 H1 F' e' σ' H' → Fr F0 e0 σ0 H0 F' (clearX (setS e' i .no)) (σ'.set i none) H' := fun f' => (a.f.trans a.r0 f1).trans a.r0 (f'.gone n)
  cases x with
  | nx e' => exact fun F' σ' H' r' f' => p F' _ H' (r'.gone h.symm hw.symm) (go f')
  | bk e' => exact fun F' σ' H' r' f' => p F' _ H' (r'.gone h.symm hw.symm) (go f')
  | ct e' => exact fun F' σ' H' r' f' => p F' _ H' (r'.gone h.symm hw.symm) (go f')
  | rt u e' =>
    intro F' σ' H' z r' f' v nw
    have nw0 : Nw H0 z u := (nw.old f1.dom).old a.f.dom
    cases u with
    | d y => exact p F' _ H' z (r'.gone h.symm hw.symm) (go f') (Rep.to h.symm v) nw0
    | o y =>
      obtain ⟨b, ev, nf, no, ro⟩ := v
      exact p F' _ H' z (r'.gone h.symm hw.symm) (go f') ⟨b, ev, nf, fun ⟨j, q⟩ => no ⟨j, (gone_ownAt q).2⟩, ro.to h.symm hw.symm⟩ nw0
    | p j =>
      unfold R.hx at p
      dsimp only at p
      split at p
      · exact p.elim
      · rename_i c
        have c' : i ≠ j := fun q => c (by rw [q]; simp)
        exact p F' _ H' z (r'.gone h.symm hw.symm) (go f') ⟨by rw [List.getElem?_set_ne c']; exact v.1, by rw [clearX_length, setS_length]; exact v.2⟩ nw0
  | ex c y e' => exact p.elim
  | ok _ _ => exact p.elim
  | oks _ _ => exact p.elim
  | its _ _ _ => exact p.elim
  | bad => exact p.elim
end
def noPx : Addr → Nat → Addr → Prop := fun _ _ _ => False
def pxOf (cl : Nat → Addr) (a : Addr) (cls : Value) (d : Option Addr) : Addr → Nat → Addr → Prop := fun a' c dx => a' = a ∧ cls = .ref (cl c) ∧ d = some dx
section
variable {X : Cx} {cl : Nat → Addr} {W : WX} {M : Pm}
theorem s_try {i c : Nat} {x n : Str} {body suite : List Stmt} {b₀ : Stmt} {np pos pos' : Pos} {fa fs : En → R} (hs : X.stack = X.env :: X.outer) (hf : X.env.frame = some X.env.locals) (hN : X.N.Nodup) (hi : X.N[i]? = some n) (hln : X.env.kindOf n = some .local) (hc : Names X x (.ref (cl c))) (tk : L2N.Takes X W)
    (hsub : ∀ c' b, M.sub c' c = some b → PySem.W.exmOne X.K (.ref (cl c')) (.ref (cl c)) = some b)
    (hb : ∀ (W' : WX) (pn : List (Addr × Obj)) (xe : Value → Shared → Prop), L2N.Takes (X.tr pn xe) W' → PassesOwn (model X.prog X.w) X.A X.env xe → PSs (X.tr pn xe) body (tS ⟨X.K, noPx, X.w⟩ cl W' fa))
    (hsu : ∀ (a : Addr) (oe : Obj) (cls : Value) (d : Option Addr) (pn : List (Addr × Obj)), L2N.Zn cls d oe → (∃ vs, oe.data = .fields vs) → PSs (X.suite a ((a, oe) :: pn)) (b₀ :: suite) (tS ⟨X.K, pxOf cl a cls d, X.w⟩ cl (fun _ _ _ _ => False) fs)) :
    PS X (.Try body [.ExceptHandler (some (.Name x np)) (some n) (b₀ :: suite) pos'] [] [] pos) (tS ⟨X.K, noPx, X.w⟩ cl W (dTry M i c fa fs)) := by
  refine psI (L2N.ps_try_as (tb := fun W' => tS ⟨X.K, noPx, X.w⟩ cl W' fa) (ts := fun a cls d => tS ⟨X.K, pxOf cl a cls d, X.w⟩ cl (fun _ _ _ _ => False) fs) hs hf hN hi hln hc tk hb hsu) fun D σ H ⟨F, e, r, p⟩ => ⟨F, e, r, ?_⟩
  unfold dTry at p
  cases q : fa e with
  | ex c' y e1 =>
    rw [q] at p
    intro F1 σ1 H1 dx r1 f1 ex
    dsimp only at p
    cases hs' : M.sub c' c with
    | none => rw [hs'] at p; exact p.elim
    | some b =>
      rw [hs'] at p
      refine ⟨b, hsub c' b hs', fun hb1 a na => ?_, fun hb1 => ?_⟩
      · subst hb1
        dsimp only at p
        split at p
        · rename_i c1
          have nx : ∀ j c x, getS e1 j ≠ .ex c x := fun j c x g => by
            have s := r1.slot j
            rw [g] at s
            obtain ⟨_, _, _, _, h, _⟩ := s
            exact h
          have r2 : Rel ⟨X.K, pxOf cl a (.ref (cl c')) (some dx), X.w⟩ F1 e1 σ1 H1 := Rel.to (K := ⟨X.K, noPx, X.w⟩) rfl rfl nx r1
          obtain ⟨r3, f3⟩ := r2.putX c1 ⟨rfl, rfl, rfl⟩ (Exc.to (K := ⟨X.K, noPx, X.w⟩) (K' := ⟨X.K, pxOf cl a (.ref (cl c')) (some dx), X.w⟩) rfl ex)
          refine ⟨F1, _, r3, hx_pos (K := ⟨X.K, noPx, X.w⟩) rfl rfl ⟨r, f1, r1⟩ r3 f3 (fun l z h => ?_) p⟩
          by_cases hi : i < e1.length
          · rw [getS_setS hi, if_pos rfl] at h; cases h
          · rw [setS_self hi, getS_none hi] at h; cases h
        · exact p.elim
      · subst hb1
        exact p F1 σ1 H1 dx r1 f1 ex
  | nx e' => rw [q] at p; exact p
  | rt u e' => rw [q] at p; exact p
  | bk e' => rw [q] at p; exact p
  | ct e' => rw [q] at p; exact p
  | ok _ _ => rw [q] at p; exact p.elim
  | oks _ _ => rw [q] at p; exact p.elim
  | its _ _ _ => rw [q] at p; exact p.elim
  | bad => rw [q] at p; exact p.elim
end
end Ev
end

section
set_option Elab.async false
set_option linter.all false
set_option maxRecDepth 100000
set_option maxHeartbeats 2000000
namespace Ev
open PySem PySem.Spec PyProof.Rows L2
section
variable {X : Cx} {px : Addr → Nat → Addr → Prop} {cl : Nat → Addr} {W : WX} {F F' F0 F1 F2 : As} {e e' e0 e1 e2 : En} {σ σ0 : L2.St} {H H0 H1 H2 : Hp} {M : Pm}
/-! ## comparisons as tests -/
theorem POt.cmpv {Q Q1 : Bool → Hp → Prop} {o : Option Bool} {K : Kx} (a : At K F0 e0 σ H0 F e σ H) (p : POt K cl W F0 e0 σ H0 Q (cR o e)) : ∃ k, o = some k ∧ Q k H := by
  unfold cR at p
  cases o with
  | none => exact p.elim
  | some k =>
    obtain ⟨x, b, h1, h2, h3⟩ := p
    cases h1
    cases h2
    exact ⟨k, rfl, h3 F H a.r a.f⟩
theorem POt.bd {K : Kx} {Q : Bool → Hp → Prop} {Q1 : VK} {x : R} {k : Vl → En → R} (a : At K F0 e0 σ H0 F e σ H) (p : POt K cl W F0 e0 σ H0 Q (x.bd k))
    (h : ∀ u e1 F1 H1 z, At K F0 e0 σ H0 F1 e1 σ H1 → Fr F e σ H F1 e1 σ H1 → VR K F1 e1 σ H1 z u → Nw H z u → POt K cl W F0 e0 σ H0 Q (k u e1) → Q1 z H1) : PO' K cl W F e σ H Q1 x := by
  cases x with
  | ok u e' => exact fun F' H' z r' f' v n => h u e' F' H' z (a.step r' f') f' v n p
  | ex c d e' => exact fun F' H' dx r' f' v => p F' H' dx r' (a.f.trans a.r0 f') v
  | _ => exact p.elim
theorem t_cmp {o : Cop} {a b : Expr} {fa fb : En → R} {pos} (hu : X.A.units + 100 < cLine) (hm : behindInMarks (copO o) b = false) (ha : PE X a (tE (Kx.mk X.K px X.w) cl W fa)) (hb : PE X b (tE (Kx.mk X.K px X.w) cl W fb)) : PT X (.Compare a [copO o] [b] pos) (tT (Kx.mk X.K px X.w) cl W (dCmp o fa fb)) := by
  refine ptI (pt_cmpR (op_C (px := px) o hu) ha hb hm) fun σ H Q ⟨F, e, r, p⟩ => ?_
  refine ⟨F, e, r, POt.bd (.refl r) p fun u e1 F1 H1 z a1 f1 v1 n1 p1 => ?_⟩
  refine ⟨F1, e1, a1.r, POt.bd a1 p1 fun w e2 F2 H2 y a2 f2 v2 n2 p2 => ?_⟩
  split at p2
  · rename_i x1 x2 q1 q2
    obtain ⟨k, hk, q⟩ := POt.cmpv (Q1 := Q) a2 p2
    exact ⟨F2, x1, x2, k, res_ok a2.r (VR.keep a1.r f2 v1) q1, res_ok a2.r v2 q2, hk, k, rfl, q⟩
  · exact p2.elim
theorem t_ch2 {o o' : Cop} {a b c : Expr} {fa fb fc : En → R} {pos} (hu : X.A.units + 100 < cLine) (hm' : behindInMarks (copO o') c = false) (ha : PE X a (tE (Kx.mk X.K px X.w) cl W fa)) (hb : PE X b (tE (Kx.mk X.K px X.w) cl W fb)) (hc : PE X c (tE (Kx.mk X.K px X.w) cl W fc)) :
    PT X (.Compare a [copO o, copO o'] [b, c] pos) (tT (Kx.mk X.K px X.w) cl W (dCh2 o o' fa fb fc)) := by
  refine ptI (pt_chain (op_C (px := px) o hu) (op_C (px := px) o' hu) ha hb hc (show lastMarks [copO o, copO o'] [b, c] = false from hm')) fun σ H Q ⟨F, e, r, p⟩ => ?_
  refine ⟨F, e, r, POt.bd (.refl r) p fun u e1 F1 H1 z a1 f1 v1 n1 p1 => ?_⟩
  refine ⟨F1, e1, a1.r, POt.bd a1 p1 fun w e2 F2 H2 y a2 f2 v2 n2 p2 => ?_⟩
  split at p2
  · rename_i x1 x2 q1 q2
    cases t : cop o x1 x2 with
    | none => rw [t] at p2; exact p2.elim
    | some k =>
      rw [t] at p2
      refine ⟨F2, x1, x2, k, res_ok a2.r (VR.keep a1.r f2 v1) q1, res_ok a2.r v2 q2, t, k, rfl, ?_⟩
      cases k with
      | false =>
        obtain ⟨x, b', h1, h2, h3⟩ := p2
        cases h1
        cases h2
        exact iteF ⟨false, rfl, h3 F2 H2 a2.r a2.f⟩
      | true =>
        refine iteT ⟨F2, e2, a2.r, POt.bd a2 p2 fun w3 e3 F3 H3 y3 a3 f3 v3 n3 p3 => ?_⟩
        split at p3
        · rename_i x3 x4 q3 q4
          obtain ⟨k', hk, q⟩ := POt.cmpv (Q1 := Q) a3 p3
          exact ⟨F3, x3, x4, k', res_ok a3.r (VR.keep a2.r f3 v2) q3, res_ok a3.r v3 q4, hk, k', rfl, q⟩
        · exact p3.elim
  · exact p2.elim
/-- the tests of a BoolOp -/
theorem t_and {a b : Expr} {fa fb : En → R} {pos} (ha : PT X a (tT (Kx.mk X.K px X.w) cl W fa)) (hb : PT X b (tT (Kx.mk X.K px X.w) cl W fb)) : PW X (.BoolOp .And [a, b] pos) (tT (Kx.mk X.K px X.w) cl W (dAnd fa fb)) := w_and ha (w_and1 hb)
end
/-! ## what is asked of the text, in general -/
theorem star_plain {e : Expr} {es : List Expr} {env : Env} (h : notStar e = true) : starEach (e :: es) env = (false, eval e env) :: starEach es env := starEach_cons h
def noStars : List Expr → Bool
  | [] => true
  | e :: es => notStar e && noStars es
theorem back_plain {pos : Pos} {env : Env} : ∀ {es : List Expr}, noStars es = true → (backTo pos (starEach es env)).any (·.1) = false
  | [], _ => rfl
  | e :: es, h => by
    simp only [noStars, Bool.and_eq_true] at h
    rw [starEach_cons h.1]
    have := back_plain (pos := pos) (env := env) h.2
    unfold backTo at this ⊢
    rw [List.map_cons, List.any_cons, this]
    rfl
theorem few_one {e : Expr} {pos : Pos} {env : Env} (h : notStar e = true) : ((backTo pos (starEach [e] env)).all (fun x => !x.1) && (backToKw pos (keywordEach [] env)).all (fun x => x.1.isSome) && decide (([e] : List Expr).length + ([] : List Keyword).length + (if ([] : List Keyword).isEmpty then 0 else 1) < 30)) = true := by
  rw [starEach_cons h]
  rfl
def isComp : Expr → Bool
  | .ListComp .. => true
  | .SetComp .. => true
  | .DictComp .. => true
  | _ => false
theorem swaps_plain {e : Expr} {t : Option Expr} {l : Nat} {env : Env} (h : isComp e = false) : swapsWith e t l env = pure false := by
  cases e <;> first | rfl | (simp [isComp] at h)
theorem sole_plain {e tg : Expr} {l : Nat} {env : Env} (h : isComp e = false) : swapsWithSole [tg] e l env = pure false := swaps_plain h
def isTup : Expr → Bool
  | .Tuple .. => true
  | _ => false
/-- a tuple of constants on the right -/
def foldT : Expr → Bool
  | .Tuple vs _ _ => vs.all (foldedForSure 8)
  | _ => false
theorem swapped_fold {e tg : Expr} {env : Env} (h : foldT e = true) : swappedStores [tg] e env = pure none := by
  cases e <;> first | cases h | skip
  rename_i vs k p
  have h : vs.all (foldedForSure 8) = true := h
  unfold swappedStores
  cases tg <;> first | rfl | skip
  all_goals
    dsimp only
    split
    · rfl
    · split
      · rfl
      · split
        · rfl
        · first
          | rfl
          | rw [if_pos h]
/-- a target that is no local -/
def celT (sc : Scope) : Expr → Bool
  | .Tuple ts _ _ => ts.any fun t => match t with
    | .Name x _ => !(sc.names.lookup x == some .local)
    | _ => true
  | _ => false
theorem swapped_cell {e tg : Expr} {env : Env} {sc : Scope} (hs : env.scope = sc) (h : celT sc tg = true) : swappedStores [tg] e env = pure none := by
  cases tg <;> first | cases h | skip
  rename_i ts k p
  have h : (ts.any fun t => match t with
    | .Name x _ => !(sc.names.lookup x == some .local)
    | _ => true) = true := h
  unfold swappedStores
  cases e <;> first | rfl | skip
  dsimp only
  split
  · rfl
  · split
    · rfl
    · split
      · rfl
      · rename_i c
        refine absurd ?_ c
        rw [Bool.or_eq_true]
        left
        rw [bne_iff_ne]
        refine Nat.ne_of_lt ?_
        rw [List.length_filterMap_lt_length_iff_exists]
        obtain ⟨t, ht, hn⟩ := List.any_eq_true.mp h
        refine ⟨t, ht, ?_⟩
        cases t <;> first | rfl | skip
        rename_i id q
        have hk : (env.kindOf id == some .local) = false := by
          have hn : (!(sc.names.lookup id == some .local)) = true := hn
          show (env.scope.names.lookup id == some .local) = false
          rw [hs]
          simpa using hn
        dsimp only
        rw [hk]
        rfl
theorem swapped_plain {e tg : Expr} {env : Env} (h : isTup e = false ∨ (∀ ts k p, tg ≠ .Tuple ts k p) ∧ ∀ ts p, tg ≠ .List ts p) : swappedStores [tg] e env = pure none := by
  unfold swappedStores
  rcases h with h | ⟨h1, h2⟩
  · cases tg <;> cases e <;> first | rfl | (simp [isTup] at h)
  · cases tg <;> first | rfl | (exact absurd rfl (h1 _ _ _)) | (exact absurd rfl (h2 _ _))
theorem asgEach_one {t : Expr} {env : Env} (h : notStar t = true) : (assignEach [t] env).map (·.2) = [assign t env] := by
  cases t <;> first | rfl | (simp [notStar] at h)
theorem asgEach_cons {t : Expr} {ts : List Expr} {env : Env} (h : notStar t = true) : assignEach (t :: ts) env = (false, assign t env) :: assignEach ts env := by
  cases t <;> first | rfl | (simp [notStar] at h)
theorem asgEach_len {env : Env} : ∀ {ts : List Expr}, noStars ts = true → (assignEach ts env).length = ts.length ∧ (assignEach ts env).findIdx? (·.1) = none
  | [], _ => ⟨rfl, rfl⟩
  | t :: ts, h => by
    simp only [noStars, Bool.and_eq_true] at h
    obtain ⟨h1, h2⟩ := asgEach_len (env := env) h.2
    rw [asgEach_cons h.1]
    refine ⟨by simp [h1], ?_⟩
    rw [List.findIdx?_cons]
    simp [h2]
/-- an expression whose test is its value's truth -/
def plainT : Expr → Bool
  | .UnaryOp .Not _ _ => false
  | .BoolOp .. => false
  | .IfExp .. => false
  | .Compare .. => false
  | _ => true
theorem test_plain {a : Expr} {env : Env} (h : plainT a = true) : ∀ whole, isTrue a env whole = (do let v ← whole; standAt a.pos; holding [v] (truthy v)) := by
  intro whole
  cases a with
  | UnaryOp op x p => cases op <;> first | rfl | (simp [plainT] at h)
  | BoolOp op vs p => simp [plainT] at h
  | IfExp t b o p => simp [plainT] at h
  | Compare l ops cs p => simp [plainT] at h
  | _ => rfl
def plainI : Expr → Bool
  | .Slice .. => false
  | _ => true
theorem ix_plain {b : Expr} (h : plainI b = true) : PlainIx b := by
  intro o i
  cases b <;> first | rfl | (simp [plainI] at h)
def notSet : Expr → Bool
  | .Set .. => false
  | _ => true
theorem fold_plain {e : Expr} {env : Env} (h : notSet e = true) : ∀ x, foldedSetIterable e env x = pure x := by
  intro x
  cases e <;> first | rfl | (simp [notSet] at h)
theorem marks_plain {o : CmpOp} {e : Expr} (h : notSet e = true) : behindInMarks o e = false := by
  cases e <;> first | rfl | (simp [notSet] at h)
end Ev
end

section
set_option Elab.async false
set_option linter.all false
set_option maxRecDepth 100000
set_option maxHeartbeats 2000000
namespace Ev
open PySem PySem.Spec PyProof.Rows L2
/-! ## which text an Ir stands for -/
/-- what is known of a def's names and of the module's -/
structure Gm where
  N : List Str
  fns : List Str
  cls : List Str
  rse : List Nat
  gcs : List Str
  free : List Str
  gcd : Bool
  hot : Ir → Scope → List Stmt → Bool
inductive Ro
  | e (t : Bool) (sc : Scope) (ex : Expr)
  | a (sc : Scope) (es : List Expr)
  | i (sc : Scope) (tg it : Expr)
  | s (sc : Scope) (st : Stmt)
  | b (sc : Scope) (sts : List Stmt)
def visB (sc : Scope) (x : Str) : Bool := match sc.names.lookup x with
  | some .local => true
  | some .cell => true
  | some .free => true
  | _ => false
def isLoc (sc : Scope) (x : Str) : Bool := match sc.names.lookup x with
  | some .local => true
  | _ => false
def isCel (sc : Scope) (x : Str) : Bool := match sc.names.lookup x with
  | some .cell => true
  | _ => false
def glB (sc : Scope) (x : Str) : Bool := match sc.names.lookup x with
  | some .globalImplicit => !(x == ("__debug__" : Str))
  | _ => false
def atN (N : List Str) (i : Nat) (x : Str) : Bool := decide (N[i]? = some x)
def varB (N : List Str) (sc : Scope) (i : Nat) (x : Str) : Bool := atN N i x && visB sc x && !(x == ("__debug__" : Str)) && !(x == ("__classdict__" : Str))
/-- may be stored to; f: whose cells were made at the entry -/
def stoB (N : List Str) (sc f : Scope) (i : Nat) (x : Str) : Bool := atN N i x && (isLoc sc x || (isCel sc x && isCel f x))
def litB : PyData → Const → Bool
  | .int i, .int j => decide (i = j)
  | .bool a, .bool b => decide (a = b)
  | .none, .none => true
  | .str x, .str y => decide (x = y)
  | _, _ => false
mutual
def tgB (N : List Str) (sc f : Scope) : Tg → Expr → Bool
  | .nm i, .Name x _ => stoB N sc f i x
  | .tp ts, .Tuple es _ _ => noStars es && tgsB N sc f ts es
  | _, _ => false
def tgsB (N : List Str) (sc f : Scope) : List Tg → List Expr → Bool
  | [], [] => true
  | t :: ts, e :: es => tgB N sc f t e && tgsB N sc f ts es
  | _, _ => false
end
/-- the built-ins by number: functions, types -/
def bltNm : Nat → Str
  | 0 => "len"
  | 1 => "int"
  | 2 => "abs"
  | 3 => "sum"
  | 4 => "max"
  | 5 => "min"
  | 6 => "max"
  | 7 => "min"
  | 8 => "sorted"
  | 9 => "list"
  | 10 => "tuple"
  | 11 => "repr"
  | 12 => "all"
  | 13 => "any"
  | 21 => "range"
  | _ => "gcd"
def bltB (Γ : Gm) (n : Nat) (x : Str) : Bool := (Nat.ble n 14 || n == 21) && decide (x = bltNm n) && (cond (n == 14) Γ.gcd (Γ.free.contains x))
def ownN (N : List Str) (own : List Nat) : List (Str × Nat) := own.map fun i => (N.getD i "", i)
def noSup : Expr → Bool
  | .Call .. => false
  | _ => true
def isNil : Ir → Bool
  | .nil => true
  | _ => false
def isNone : Ir → Bool
  | .lit .none => true
  | _ => false
def isTT : Ir → Bool
  | .tt => true
  | _ => false
def glsB (Γ : Gm) (sc : Scope) : List Nat → List Expr → Bool
  | [], [] => true
  | f :: fs, .Name x _ :: es => decide (Γ.fns[f]? = some x) && glB sc x && glsB Γ sc fs es
  | _, _ => false
def swB2 (sc : Scope) (x y : Str) (px py : Pos) (a b : Expr) : Bool := isLoc sc x && isLoc sc y && (py.line == px.line) && decide (x ≠ y) && notStar a && notStar b && !([a, b].all (foldedForSure 8)) && !([a, b].all (constantsAlone 8))
def swB3 (sc : Scope) (x y z : Str) (px py pz : Pos) (a b c : Expr) : Bool := isLoc sc x && isLoc sc y && isLoc sc z && (py.line == px.line) && (pz.line == px.line) && decide (x ≠ y) && decide (x ≠ z) && decide (y ≠ z) && notStar a && notStar b && notStar c && !([a, b, c].all (foldedForSure 8)) && !([a, b, c].all (constantsAlone 8))
def m_var (Γ : Gm) (i : Nat) : Ro → Bool
  | .e _ sc (.Name x _) => varB Γ.N sc i x
  | _ => false
def m_lit (Γ : Gm) (d : PyData) : Ro → Bool
  | .e _ _ (.Constant c _ _) => litB d c
  | _ => false
def m_gc (Γ : Gm) (g : Nat) : Ro → Bool
  | .e _ sc (.Name x _) => decide (Γ.gcs[g]? = some x) && glB sc x
  | _ => false
def m_tup (Γ : Gm) (fa : Ro → Bool) : Ro → Bool
  | .e _ sc (.Tuple es _ _) => fa (.a sc es)
  | _ => false
def m_lst (Γ : Gm) (fa : Ro → Bool) : Ro → Bool
  | .e _ sc (.List es _) => fa (.a sc es)
  | _ => false
def m_nil (Γ : Gm) : Ro → Bool
  | .a _ [] => true
  | _ => false
def m_cons (Γ : Gm) (fa fb : Ro → Bool) : Ro → Bool
  | .a sc (x :: es) => notStar x && fa (.e false sc x) && fb (.a sc es)
  | _ => false
def m_star (Γ : Gm) (fa fb : Ro → Bool) : Ro → Bool
  | .a sc (.Starred x _ :: es) => fa (.e false sc x) && fb (.a sc es)
  | _ => false
def m_bin (Γ : Gm) (o : Bop) (fa fb : Ro → Bool) : Ro → Bool
  | .e _ sc (.BinOp x op y _) => decide (op = bopO o) && fa (.e false sc x) && fb (.e false sc y)
  | _ => false
def m_neg (Γ : Gm) (fa : Ro → Bool) : Ro → Bool
  | .e _ sc (.UnaryOp .USub x _) => fa (.e false sc x)
  | _ => false
def m_nt (Γ : Gm) (fa : Ro → Bool) : Ro → Bool
  | .e t sc (.UnaryOp .Not x _) => fa (.e t sc x)
  | _ => false
def m_an (Γ : Gm) (fa fb : Ro → Bool) : Ro → Bool
  | .e t sc (.BoolOp .And [x, y] _) => fa (.e t sc x) && fb (.e t sc y)
  | .e t sc (.BoolOp .And (x :: y :: z :: r) p) => fa (.e t sc x) && fb (.e t sc (.BoolOp .And (y :: z :: r) p))
  | _ => false
def m_orr (Γ : Gm) (fa fb : Ro → Bool) : Ro → Bool
  | .e t sc (.BoolOp .Or [x, y] _) => fa (.e t sc x) && fb (.e t sc y)
  | .e t sc (.BoolOp .Or (x :: y :: z :: r) p) => fa (.e t sc x) && fb (.e t sc (.BoolOp .Or (y :: z :: r) p))
  | _ => false
def m_ite (Γ : Gm) (fc fa fb : Ro → Bool) : Ro → Bool
  | .e false sc (.IfExp tc x y _) => fc (.e true sc tc) && fa (.e false sc x) && fb (.e false sc y)
  | _ => false
def m_cmp (Γ : Gm) (o : Cop) (fa fb : Ro → Bool) : Ro → Bool
  | .e _ sc (.Compare x [op] [y] _) => decide (op = copO o) && notSet y && fa (.e false sc x) && fb (.e false sc y)
  | _ => false
def m_ch2 (Γ : Gm) (o : Cop) (p : Cop) (fa fb fc : Ro → Bool) : Ro → Bool
  | .e _ sc (.Compare x [op, op'] [y, z] _) => decide (op = copO o) && decide (op' = copO p) && notSet z && fa (.e false sc x) && fb (.e false sc y) && fc (.e false sc z)
  | _ => false
def m_ix (Γ : Gm) (fa fb : Ro → Bool) : Ro → Bool
  | .e _ sc (.Subscript x y _) => plainI y && fa (.e false sc x) && fb (.e false sc y)
  | _ => false
def m_sl (Γ : Gm) (fa fb fc : Ro → Bool) : Ro → Bool
  | .e _ sc (.Subscript x (.Slice (some y) (some z) none _) _) => fa (.e false sc x) && fb (.e false sc y) && fc (.e false sc z)
  | _ => false
def m_slL (Γ : Gm) (fa fb : Ro → Bool) : Ro → Bool
  | .e _ sc (.Subscript x (.Slice (some y) none none _) _) => fa (.e false sc x) && fb (.e false sc y)
  | _ => false
def m_slH (Γ : Gm) (fa fb : Ro → Bool) : Ro → Bool
  | .e _ sc (.Subscript x (.Slice none (some y) none _) _) => fa (.e false sc x) && fb (.e false sc y)
  | _ => false
def m_slA (Γ : Gm) (fa : Ro → Bool) : Ro → Bool
  | .e _ sc (.Subscript x (.Slice none none none _) _) => fa (.e false sc x)
  | _ => false
def m_rev (Γ : Gm) (fa : Ro → Bool) : Ro → Bool
  | .e _ sc (.Subscript x (.Slice none none (some (.UnaryOp .USub (.Constant (.int k) _ _) _)) _) _) => decide (k = 1) && fa (.e false sc x)
  | _ => false
def m_call (Γ : Gm) (a : Ir) (f : Nat) (fa : Ro → Bool) : Ro → Bool
  | .e _ sc (.Call (.Name x _) [] [] _) => isNil a && decide (Γ.fns[f]? = some x) && glB sc x
  | .e _ sc (.Call (.Name x _) (e :: es) [] _) => decide (Γ.fns[f]? = some x) && glB sc x && noStars (e :: es) && fa (.a sc (e :: es))
  | _ => false
def m_pick (Γ : Gm) (fs : List Nat) (fa fb : Ro → Bool) : Ro → Bool
  | .e _ sc (.Call (.Subscript (.List ns _) y _) (e :: es) [] _) => plainI y && glsB Γ sc fs ns && lenOk fs.length && noStars (e :: es) && fa (.e false sc y) && fb (.a sc (e :: es))
  | _ => false
def m_blt (Γ : Gm) (a : Ir) (n : Nat) (fa : Ro → Bool) : Ro → Bool
  | .e _ _ (.Dict [] [] _) => (n == 30) && isNil a
  | .e _ sc (.Call (.Name x _) (e :: es) [] _) => bltB Γ n x && glB sc x && noStars (e :: es) && fa (.a sc (e :: es))
  | _ => false
/-- list(range(n)), tuple(range(n)) -/
def m_rg (Γ : Gm) (n : Nat) (fa : Ro → Bool) : Ro → Bool
  | .e _ sc (.Call (.Name x _) [.Call (.Name y _) [e] [] _] [] _) => ((n == 17 && decide (x = "list")) || (n == 18 && decide (x = "tuple"))) && decide (y = "range") && glB sc x && glB sc y && Γ.free.contains x && Γ.free.contains y && notStar e && fa (.a sc [e])
  | _ => false
/-- sorted(set(e)) -/
def m_ss (Γ : Gm) (n : Nat) (fa : Ro → Bool) : Ro → Bool
  | .e _ sc (.Call (.Name x _) [.Call (.Name y _) [e] [] _] [] _) => (n == 19) && decide (x = "sorted") && decide (y = "set") && glB sc x && glB sc y && Γ.free.contains x && Γ.free.contains y && notStar e && fa (.a sc [e])
  | _ => false
/-- len(set(e)) -/
def m_ls (Γ : Gm) (n : Nat) (fa : Ro → Bool) : Ro → Bool
  | .e _ sc (.Call (.Name x _) [.Call (.Name y _) [e] [] _] [] _) => (n == 20) && decide (x = "len") && decide (y = "set") && glB sc x && glB sc y && Γ.free.contains x && Γ.free.contains y && notStar e && fa (.a sc [e])
  | _ => false
def m_mtl (Γ : Gm) (n : Nat) (fa fb : Ro → Bool) : Ro → Bool
  | .e _ sc (.Call (.Attribute o nm apos) [x] [] pos) => ((n == 0 && decide (nm = "count")) || (n == 1 && decide (nm = "index"))) && noSup o && (apos.endLine == pos.line) && notStar x && fa (.e false sc o) && fb (.e false sc x)
  | _ => false
def m_mut (Γ : Gm) (n i : Nat) (fa : Ro → Bool) : Ro → Bool
  | .e _ sc (.Call (.Attribute (.Name x _) nm apos) [e] [] pos) => ((n == 1 && decide (nm = "pop")) || (n == 3 && decide (nm = "remove"))) && varB Γ.N sc i x && (apos.endLine == pos.line) && notStar e && fa (.e false sc e)
  | _ => false
def m_join (Γ : Gm) (fa fb : Ro → Bool) : Ro → Bool
  | .e _ sc (.Call (.Attribute o nm apos) [x] [] pos) => decide (nm = "join") && noSup o && (apos.endLine == pos.line) && notStar x && fa (.e false sc o) && fb (.e false sc x)
  | _ => false
def m_lc (Γ : Gm) (b : Ir) (own : List Nat) (t : Tg) (fa fb fc : Ro → Bool) : Ro → Bool
  | .e _ sc (.ListComp elt [⟨tg, it, ifs, k⟩] scope _) => (k == 0) && blkC Γ.N sc scope (ownN Γ.N own) && t.inn own && tgB Γ.N (relS scope sc) scope t tg && notSet it && fa (.i sc tg it) &&
      (match ifs with
        | [] => isTT b
        | [x] => fb (.e true (relS scope sc) x)
        | _ => false) && fc (.e false (relS scope sc) elt)
  | _ => false
def oneB (b : Ir) (f : Ro → Bool) (sc : Scope) : List Expr → Bool
  | [] => isTT b
  | [x] => f (.e true sc x)
  | _ => false
def m_lc2 (Γ : Gm) (b p : Ir) (own own1 : List Nat) (t t1 : Tg) (fa fb fc fp fq : Ro → Bool) : Ro → Bool
  | .e _ sc (.ListComp elt [⟨tg, it, ifs, k⟩, ⟨tg1, it1, ifs1, k1⟩] scope _) => (k == 0) && (k1 == 0) && blkC Γ.N sc scope (ownN Γ.N own) && t.inn own && t1.inn own1 && subN own1 own && tgB Γ.N (relS scope sc) scope t tg && tgB Γ.N (relS scope sc) scope t1 tg1 && notSet it && notSet it1 && fa (.i sc tg it) &&
      oneB b fb (relS scope sc) ifs && fc (.i (relS scope sc) tg1 it1) && oneB p fp (relS scope sc) ifs1 && fq (.e false (relS scope sc) elt)
  | _ => false
def m_setL2 (Γ : Gm) (b p : Ir) (i : Nat) (k : Bool) (own own1 : List Nat) (t t1 : Tg) (fa fb fc fp fq : Ro → Bool) : Ro → Bool
  | .s sc (.Assign [.Name y py] (.ListComp elt [⟨tg, it, ifs, k⟩, ⟨tg1, it1, ifs1, k1⟩] scope pos) _) => (k == 0) && (k1 == 0) && atN Γ.N i y && isLoc sc y && (py.line == pos.line) && !(scope.names.any fun (n, k) => n == y && (k == .local || k == .cell)) &&
      blkC Γ.N sc scope (ownN Γ.N own) && t.inn own && t1.inn own1 && subN own1 own && tgB Γ.N (relS scope sc) scope t tg && tgB Γ.N (relS scope sc) scope t1 tg1 && notSet it && notSet it1 && fa (.i sc tg it) &&
      oneB b fb (relS scope sc) ifs && fc (.i (relS scope sc) tg1 it1) && oneB p fp (relS scope sc) ifs1 && fq (.e false (relS scope sc) elt)
  | _ => false
def m_itE (Γ : Gm) (fa : Ro → Bool) : Ro → Bool
  | .i sc _ it => notSet it && fa (.e false sc it)
  | _ => false
def m_itL (Γ : Gm) (fa : Ro → Bool) : Ro → Bool
  | .i sc _ it => notSet it && fa (.e false sc it)
  | _ => false
def m_itR (Γ : Gm) (fa : Ro → Bool) : Ro → Bool
  | .i sc _ (.Call (.Name x _) [e] [] _) => decide (x = "range") && glB sc x && Γ.free.contains x && notStar e && fa (.a sc [e])
  | _ => false
def m_itR2 (Γ : Gm) (fa : Ro → Bool) : Ro → Bool
  | .i sc _ (.Call (.Name x _) [e, f] [] _) => decide (x = "range") && glB sc x && Γ.free.contains x && notStar e && notStar f && fa (.a sc [e, f])
  | _ => false
def m_itN (Γ : Gm) (fa : Ro → Bool) : Ro → Bool
  | .i sc (.Tuple _ _ _) (.Call (.Name x _) [e] [] _) => decide (x = "enumerate") && glB sc x && Γ.free.contains x && notStar e && fa (.e false sc e)
  | _ => false
def m_itZ (Γ : Gm) (fa : Ro → Bool) : Ro → Bool
  | .i sc (.Tuple _ _ _) (.Call (.Name x _) [e, f] [] _) => decide (x = "zip") && glB sc x && Γ.free.contains x && notStar e && notStar f && fa (.a sc [e, f])
  | _ => false
def m_set (Γ : Gm) (i : Nat) (k : Bool) (fa : Ro → Bool) : Ro → Bool
  | .s sc (.Assign [.Name x _] ex _) => stoB Γ.N sc sc i x && (!isComp ex || !isLoc sc x) && fa (.e false sc ex)
  | _ => false
def m_setL (Γ : Gm) (b : Ir) (i : Nat) (k : Bool) (own : List Nat) (t : Tg) (fa fb fc : Ro → Bool) : Ro → Bool
  | .s sc (.Assign [.Name y py] (.ListComp elt [⟨tg, it, ifs, k⟩] scope pos) _) => (k == 0) && atN Γ.N i y && isLoc sc y && (py.line == pos.line) && !(scope.names.any fun (n, k) => n == y && (k == .local || k == .cell)) &&
      blkC Γ.N sc scope (ownN Γ.N own) && t.inn own && tgB Γ.N (relS scope sc) scope t tg && notSet it && fa (.i sc tg it) &&
      (match ifs with
        | [] => isTT b
        | [x] => fb (.e true (relS scope sc) x)
        | _ => false) && fc (.e false (relS scope sc) elt)
  | _ => false
def m_setT (Γ : Gm) (t : Tg) (fa : Ro → Bool) : Ro → Bool
  | .s sc (.Assign [tg] ex _) => isTup tg && tgB Γ.N sc sc t tg && !isComp ex && (!isTup ex || foldT ex || celT sc tg) && fa (.e false sc ex)
  | _ => false
def m_par (Γ : Gm) (fa : Ro → Bool) : List Nat → Ro → Bool
  | [i, j], .s sc (.Assign [.Tuple [.Name x px, .Name y py] _ _] (.Tuple [e, f] _ _) _) => atN Γ.N i x && atN Γ.N j y && swB2 sc x y px py e f && fa (.a sc [e, f])
  | [i, j, l], .s sc (.Assign [.Tuple [.Name x px, .Name y py, .Name z pz] _ _] (.Tuple [e, f, g] _ _) _) => atN Γ.N i x && atN Γ.N j y && atN Γ.N l z && swB3 sc x y z px py pz e f g && fa (.a sc [e, f, g])
  | _, _ => false
def m_app (Γ : Gm) (i : Nat) (fa : Ro → Bool) : Ro → Bool
  | .s sc (.Expr (.Call (.Attribute (.Name x _) nm apos) [e] [] cpos) _) => decide (nm = "append") && varB Γ.N sc i x && (apos.endLine == cpos.line) && notStar e && fa (.e false sc e)
  | _ => false
def m_ext (Γ : Gm) (i : Nat) (fa : Ro → Bool) : Ro → Bool
  | .s sc (.Expr (.Call (.Attribute (.Name x _) nm apos) [e] [] cpos) _) => decide (nm = "extend") && varB Γ.N sc i x && (apos.endLine == cpos.line) && notStar e && fa (.e false sc e)
  | _ => false
def m_six (Γ : Gm) (i : Nat) (fa fb : Ro → Bool) : Ro → Bool
  | .s sc (.Assign [.Subscript (.Name x _) y _] ex _) => varB Γ.N sc i x && plainI y && !isComp ex && fa (.e false sc y) && fb (.e false sc ex)
  | _ => false
def m_exp (Γ : Gm) (fa : Ro → Bool) : Ro → Bool
  | .s sc (.Expr ex _) => !isComp ex && fa (.e false sc ex)
  | _ => false
def m_ret (Γ : Gm) (a : Ir) (fa : Ro → Bool) : Ro → Bool
  | .s sc (.Return (some ex) _) => fa (.e false sc ex)
  | .s _ (.Return none _) => isNone a
  | _ => false
def m_iff (Γ : Gm) (fc fa fb : Ro → Bool) : Ro → Bool
  | .s sc (.If tc as bs _) => fc (.e true sc tc) && fa (.b sc as) && fb (.b sc bs)
  | _ => false
def m_fr (Γ : Gm) (t : Tg) (fa fb : Ro → Bool) : Ro → Bool
  | .s sc (.For tg it body [] _) => notSet it && tgB Γ.N sc sc t tg && fa (.i sc tg it) && fb (.b sc body)
  | _ => false
def m_grp (Γ : Gm) (i : Nat) (t : Tg) (fa fb fc : Ro → Bool) : Ro → Bool
  | .s sc (.For tg it [.Expr (.Call (.Attribute (.Call (.Attribute (.Name x _) nm1 ap1) [k1, k2] [] cp1) nm2 ap2) [v] [] cp2) _] [] _) =>
    (decide (nm1 = "setdefault") && decide (nm2 = "append") && notSet it && tgB Γ.N sc sc t tg && fa (.i sc tg it)) && (varB Γ.N sc i x && (ap1.endLine == cp1.line) && (ap2.endLine == cp2.line)) && (notStar k1 && notStar k2 && notStar v && fb (.a sc [k1, k2]) && fc (.e false sc v))
  | _ => false
def m_frw (Γ : Gm) (i : Nat) (t : Tg) (fb : Ro → Bool) : Ro → Bool
  | .s sc (.For tg (.Name x _) body [] _) => varB Γ.N sc i x && tgB Γ.N sc sc t tg && fb (.b sc body)
  | _ => false
def m_whl (Γ : Gm) (fc fa : Ro → Bool) : Ro → Bool
  | .s sc (.While tc body [] _) => fc (.e true sc tc) && fa (.b sc body)
  | _ => false
def m_rse (Γ : Gm) (c : Nat) (fa : Ro → Bool) : Ro → Bool
  | .s sc (.Raise (some (.Call (.Name x _) [e] [] _)) none _) => decide (Γ.cls[c]? = some x) && Γ.rse.contains c && glB sc x && notStar e && fa (.e false sc e)
  | _ => false
def m_tri (Γ : Gm) (b : Ir) (s : Nat) (c : Nat) (fa fb : Ro → Bool) : Ro → Bool
  | .s sc (.Try body [.ExceptHandler (some (.Name x _)) (some n) (b0 :: suite) _] [] [] _) => atN Γ.N s n && isLoc sc n && decide (Γ.cls[c]? = some x) && glB sc x && fa (.b sc body) && Γ.hot b sc (b0 :: suite)
  | _ => false
def m_brk (Γ : Gm) : Ro → Bool
  | .s _ (.Break _) => true
  | _ => false
def m_cnt (Γ : Gm) : Ro → Bool
  | .s _ (.Continue _) => true
  | _ => false
def m_seq (Γ : Gm) (fa fb : Ro → Bool) : Ro → Bool
  | .b sc (st :: sts) => fa (.s sc st) && fb (.b sc sts)
  | _ => false
def m_skp (Γ : Gm) : Ro → Bool
  | .s _ (.Pass _) => true
  | .s _ (.Expr (.Constant (.str _) _ _) _) => true
  | .b _ [] => true
  | _ => false
/-- the text fits -/
def m (Γ : Gm) : Ir → Ro → Bool
  | .var i => m_var Γ i
  | .lit d => m_lit Γ d
  | .gc g => m_gc Γ g
  | .tup a => m_tup Γ (m Γ a)
  | .lst a => m_lst Γ (m Γ a)
  | .nil => m_nil Γ 
  | .cons a b => m_cons Γ (m Γ a) (m Γ b)
  | .star a b => m_star Γ (m Γ a) (m Γ b)
  | .bin o a b => m_bin Γ o (m Γ a) (m Γ b)
  | .neg a => m_neg Γ (m Γ a)
  | .nt a => m_nt Γ (m Γ a)
  | .an a b => m_an Γ (m Γ a) (m Γ b)
  | .orr a b => m_orr Γ (m Γ a) (m Γ b)
  | .ite c a b => m_ite Γ (m Γ c) (m Γ a) (m Γ b)
  | .cmp o a b => m_cmp Γ o (m Γ a) (m Γ b)
  | .ch2 o p a b c => m_ch2 Γ o p (m Γ a) (m Γ b) (m Γ c)
  | .ix a b => m_ix Γ (m Γ a) (m Γ b)
  | .sl a b c => m_sl Γ (m Γ a) (m Γ b) (m Γ c)
  | .slL a b => m_slL Γ (m Γ a) (m Γ b)
  | .slH a b => m_slH Γ (m Γ a) (m Γ b)
  | .slA a => m_slA Γ (m Γ a)
  | .rev a => m_rev Γ (m Γ a)
  | .call f a => m_call Γ a f (m Γ a)
  | .pick fs a b => m_pick Γ fs (m Γ a) (m Γ b)
  | .blt n a => fun ro => m_blt Γ a n (m Γ a) ro || (m_rg Γ n (m Γ a) ro || (m_ss Γ n (m Γ a) ro || m_ls Γ n (m Γ a) ro))
  | .mtl n a b => m_mtl Γ n (m Γ a) (m Γ b)
  | .mut n i a => m_mut Γ n i (m Γ a)
  | .join a b => m_join Γ (m Γ a) (m Γ b)
  | .lc own t a b c => m_lc Γ b own t (m Γ a) (m Γ b) (m Γ c)
  | .lc2 own own1 t t1 a b c p q => m_lc2 Γ b p own own1 t t1 (m Γ a) (m Γ b) (m Γ c) (m Γ p) (m Γ q)
  | .setL2 i k own own1 t t1 a b c p q => m_setL2 Γ b p i k own own1 t t1 (m Γ a) (m Γ b) (m Γ c) (m Γ p) (m Γ q)
  | .itE a => m_itE Γ (m Γ a)
  | .itL a => m_itL Γ (m Γ a)
  | .itR a => m_itR Γ (m Γ a)
  | .itR2 a => m_itR2 Γ (m Γ a)
  | .itN a => m_itN Γ (m Γ a)
  | .itZ a => m_itZ Γ (m Γ a)
  | .set i k a => m_set Γ i k (m Γ a)
  | .setL i k own t a b c => m_setL Γ b i k own t (m Γ a) (m Γ b) (m Γ c)
  | .setT t a => m_setT Γ t (m Γ a)
  | .par ts a => m_par Γ (m Γ a) ts
  | .app i a => m_app Γ i (m Γ a)
  | .ext i a => m_ext Γ i (m Γ a)
  | .six i a b => m_six Γ i (m Γ a) (m Γ b)
  | .exp a => m_exp Γ (m Γ a)
  | .ret a => m_ret Γ a (m Γ a)
  | .iff c a b => m_iff Γ (m Γ c) (m Γ a) (m Γ b)
  | .fr t a b => m_fr Γ t (m Γ a) (m Γ b)
  | .grp i t a b c => m_grp Γ i t (m Γ a) (m Γ b) (m Γ c)
  | .frw i t b => m_frw Γ i t (m Γ b)
  | .whl c a => m_whl Γ (m Γ c) (m Γ a)
  | .rse c a => m_rse Γ c (m Γ a)
  | .tri s c a b => m_tri Γ b s c (m Γ a) (m Γ b)
  | .brk => m_brk Γ 
  | .cnt => m_cnt Γ 
  | .seq a b => m_seq Γ (m Γ a) (m Γ b)
  | .skp => m_skp Γ 
  | _ => fun _ => false
end Ev
end

section
set_option Elab.async false
set_option linter.all false
set_option maxRecDepth 100000
set_option maxHeartbeats 2000000
namespace Ev
open PySem PySem.Spec PyProof.Rows L2
/-! ## the text that fits does what its Ir says -/
/-- what stands behind the module's names -/
structure Top (Γ : Gm) (P : Program) (w : World) (K : PySem.W.Frag) (mg : Str → Option Value) (base : Heap) (cl : Nat → Addr) (M : Pm) (k : Nat) : Prop where
  fn : ∀ f x, Γ.fns[f]? = some x → ∃ (fa : Addr) (fd : FuncData) (ps : List Str), FnG P w K mg base (L2N.CX P w) k fa fd ps (spF ⟨K, noPx, w⟩ cl (M.call f) ps.length) ∧ (M.lens f).length = ps.length ∧ mg x = some (.ref fa) ∧ PySem.W.keepIn K (.ref fa) = true ∧ Binds K fd ps []
  cls : ∀ c x, Γ.cls[c]? = some x → mg x = some (.ref (cl c))
  rse : ∀ c, Γ.rse.contains c = true → ∃ (D fI : Addr) (fd : FuncData) (j : Nat), ClsI K D (cl c) ∧ PySem.W.findIn K (.ref (cl c)) "__init__" = some (some (.ref fI)) ∧ PySem.W.typeIn K (.ref fI) = some (.type "function") ∧ (∀ CX, FnOk P w K mg base CX j fI fd ["self", "at"] (spI K D)) ∧ j < k ∧ Binds K fd ["self", "at"] []
  gc : ∀ g x, Γ.gcs[g]? = some x → ∃ v u, mg x = some u ∧ RelV v u ∧ ∀ px, Rep ⟨K, px, w⟩ (fun _ => False) (fun _ => none) v (M.gcs g)
  free : ∀ x, Γ.free.contains x = true → mg x = none
  gcd : Γ.gcd = true → mg "gcd" = some (.builtin "math.gcd")
  exm : ∀ c x, Γ.cls[c]? = some x → ∀ c' b, M.sub c' c = some b → PySem.W.exmOne K (.ref (cl c')) (.ref (cl c)) = some b
/-- the context -/
structure Good (Γ : Gm) (P : Program) (w : World) (K : PySem.W.Frag) (mg : Str → Option Value) (base : Heap) (k : Nat) (X : Cx) (W : WX) (sc : Scope) : Prop where
  prog : X.prog = P
  wrld : X.w = w
  frag : X.K = K
  glob : X.mg = mg
  bas : X.base = base
  nms : X.N = Γ.N
  scp : X.env.scope = sc
  nd : Γ.N.Nodup
  cal : X.calm = true
  tk : L2N.Takes X W
  own : PassesOwn (model X.prog X.w) X.A X.env X.xe
  room : Room k X.A
  grd : X.A.guards = some []
/-- a def's own body -/
structure Body (X : Cx) : Prop where
  stk : X.stack = X.env :: X.outer
  frm : X.env.frame = some X.env.locals
  fns : ∀ x, X.fn x = true
  fk : X.env.blockKind = .function
def Fns (X : Cx) (f : Scope) : Prop := ∀ x, f.names.lookup x = some .cell → X.fn x = true
section
variable {Γ : Gm} {P : Program} {w : World} {K : PySem.W.Frag} {mg : Str → Option Value} {base : Heap} {cl : Nat → Addr} {M : Pm} {k : Nat} {X : Cx} {W : WX} {sc : Scope}
theorem Good.blk (g : Good Γ P w K mg base k X W sc) (s : Shared) (H : Hp) (scope : Scope) (C : Addr) (cells : List (Str × Addr)) (fp : List Addr) : Good Γ P w K mg base k (X.blk s H scope (compEnvC scope cells C X.env) fp) (fun _ _ _ _ => False) (relS scope sc) :=
  ⟨g.prog, g.wrld, g.frag, g.glob, g.bas, g.nms, by show relS scope X.env.scope = _; rw [g.scp], g.nd, g.cal, fun _ _ ⟨_, _, _, _, _, _, _, _, _, _, _, _, _, _, _, _, h⟩ => h, PassesOwn.never, g.room, g.grd⟩
theorem Good.tr {W' : WX} (g : Good Γ P w K mg base k X W sc) {pn : List (Addr × Obj)} {xe : Value → Shared → Prop} (tk : L2N.Takes (X.tr pn xe) W') (hp : PassesOwn (model X.prog X.w) X.A X.env xe) : Good Γ P w K mg base k (X.tr pn xe) W' sc :=
  ⟨g.prog, g.wrld, g.frag, g.glob, g.bas, g.nms, g.scp, g.nd, g.cal, tk, hp, g.room, g.grd⟩
theorem Good.un (g : Good Γ P w K mg base k X W sc) : X.A.units + 100 < cLine := by have := g.room.un; omega
/-- names -/
theorem visB_ok {x : Str} (h : visB sc x = true) : Vis sc x := by
  unfold visB at h
  unfold Vis
  split at h
  · rename_i q; exact .inl q
  · rename_i q; exact .inr (.inl q)
  · rename_i q; exact .inr (.inr q)
  · cases h
theorem isLoc_ok {x : Str} (h : isLoc sc x = true) : sc.names.lookup x = some .local := by
  unfold isLoc at h
  split at h
  · assumption
  · cases h
theorem isCel_ok {x : Str} (h : isCel sc x = true) : sc.names.lookup x = some .cell := by
  unfold isCel at h
  split at h
  · assumption
  · cases h
theorem glB_ok {x : Str} (h : glB sc x = true) : sc.names.lookup x = some .globalImplicit ∧ (x == ("__debug__" : Str)) = false := by
  unfold glB at h
  split at h
  · exact ⟨by assumption, by simpa using h⟩
  · cases h
theorem Good.gl (g : Good Γ P w K mg base k X W sc) {x : Str} (h : glB sc x = true) : Gl X x ∧ (x == ("__debug__" : Str)) = false := by
  obtain ⟨h1, h2⟩ := glB_ok h
  refine ⟨?_, h2⟩
  show X.env.scope.names.lookup x = _
  rw [g.scp]; exact h1
theorem varB_ok (g : Good Γ P w K mg base k X W sc) {i : Nat} {x : Str} (h : varB Γ.N sc i x = true) : X.N[i]? = some x ∧ Vis X.env.scope x ∧ (x == ("__debug__" : Str)) = false ∧ (x == ("__classdict__" : Str)) = false := by
  unfold varB at h
  simp only [Bool.and_eq_true, atN, decide_eq_true_eq, Bool.not_eq_true'] at h
  exact ⟨by rw [g.nms]; exact h.1.1.1, by rw [g.scp]; exact visB_ok h.1.1.2, h.1.2, h.2⟩
theorem stoB_ok (g : Good Γ P w K mg base k X W sc) {f : Scope} (hf : Fns X f) {i : Nat} {x : Str} (h : stoB Γ.N sc f i x = true) : X.N[i]? = some x ∧ Loc X.env.scope x ∧ (X.fn x = true ∨ X.env.scope.names.lookup x = some .local) := by
  unfold stoB at h
  simp only [Bool.and_eq_true, atN, decide_eq_true_eq, Bool.or_eq_true] at h
  rw [g.scp, g.nms]
  obtain ⟨h1, h2⟩ := h
  rcases h2 with h2 | ⟨h2, h3⟩
  · exact ⟨h1, .inl (isLoc_ok h2), .inr (isLoc_ok h2)⟩
  · exact ⟨h1, .inr (isCel_ok h2), .inl (hf x (isCel_ok h3))⟩
mutual
theorem tgB_ok (g : Good Γ P w K mg base k X W sc) {f : Scope} (hf : Fns X f) : ∀ {t : Tg} {tg : Expr}, tgB Γ.N sc f t tg = true → PG X tg (tG ⟨X.K, noPx, X.w⟩ t)
  | .nm i, tg, h => by
    unfold tgB at h
    split at h
    · rename_i h'; cases h'
      obtain ⟨h1, h2, h3⟩ := stoB_ok g hf h
      exact g_nm (by rw [g.nms]; exact g.nd) h1 h2 h3
    · rename_i h'; cases h'
    · cases h
  | .tp ts, tg, h => by
    unfold tgB at h
    split at h
    · rename_i h'; cases h'
    · rename_i h'; cases h'
      simp only [Bool.and_eq_true] at h
      obtain ⟨h1, h2⟩ := asgEach_len (env := X.env) h.1
      obtain ⟨q, hl⟩ := tgsB_ok g hf h.2
      exact g_tup g.cal (h1.trans hl) h2 (q h.1)
    · cases h
theorem tgsB_ok (g : Good Γ P w K mg base k X W sc) {f : Scope} (hf : Fns X f) : ∀ {ts : List Tg} {es : List Expr}, tgsB Γ.N sc f ts es = true → (noStars es = true → PGs X es (tGs ⟨X.K, noPx, X.w⟩ ts)) ∧ es.length = ts.length
  | [], [], _ => ⟨fun _ => g_nil, rfl⟩
  | t :: ts, e :: es, h => by
    simp only [tgsB, Bool.and_eq_true] at h
    obtain ⟨q, hl⟩ := tgsB_ok g hf h.2
    refine ⟨fun n => ?_, by simp [hl]⟩
    simp only [noStars, Bool.and_eq_true] at n
    exact g_cons (by rw [asgEach_cons n.1]; rfl) (tgB_ok g hf h.1) (q n.2)
  | [], _ :: _, h => by simp [tgsB] at h
  | _ :: _, [], h => by simp [tgsB] at h
end
end
end Ev
end

section
set_option Elab.async false
set_option linter.all false
set_option maxRecDepth 100000
set_option maxHeartbeats 4000000
namespace Ev
open PySem PySem.Spec PyProof.Rows L2
section
variable {Γ : Gm} {P : Program} {w : World} {K : PySem.W.Frag} {mg : Str → Option Value} {base : Heap} {cl : Nat → Addr} {M : Pm} {k : Nat}
/-- an expression, as a value or as a test -/
def SE (Γ : Gm) (P : Program) (w : World) (K : PySem.W.Frag) (mg : Str → Option Value) (base : Heap) (cl : Nat → Addr) (k : Nat) (t : Bool) (sc : Scope) (ex : Expr) (f : En → R) : Prop := ∀ X W, Good Γ P w K mg base k X W sc → match t with
  | false => PE X ex (tE ⟨X.K, noPx, X.w⟩ cl W f)
  | true => PT X ex (tT ⟨X.K, noPx, X.w⟩ cl W f)
def So (Γ : Gm) (P : Program) (w : World) (K : PySem.W.Frag) (mg : Str → Option Value) (base : Heap) (cl : Nat → Addr) (k : Nat) (f : En → R) : Ro → Prop
  | .e t sc ex => SE Γ P w K mg base cl k t sc ex f
  | .a sc es => ∀ X W, Good Γ P w K mg base k X W sc → PA X es (tA ⟨X.K, noPx, X.w⟩ cl W f)
  | .i sc tg it => ∀ X W, Good Γ P w K mg base k X W sc → PI X tg it (tI ⟨X.K, noPx, X.w⟩ cl W f)
  | .s sc st => ∀ X W, Good Γ P w K mg base k X W sc → Body X → PS X st (tS ⟨X.K, noPx, X.w⟩ cl W f)
  | .b sc sts => ∀ X W, Good Γ P w K mg base k X W sc → Body X → PSs X sts (tS ⟨X.K, noPx, X.w⟩ cl W f)
/-- the suites that are caught -/
def HotOk (Γ : Gm) (P : Program) (w : World) (K : PySem.W.Frag) (mg : Str → Option Value) (base : Heap) (cl : Nat → Addr) (M : Pm) (k : Nat) : Prop :=
  ∀ b sc sts, Γ.hot b sc sts = true → ∀ X W, Good Γ P w K mg base k X W sc → Body X → ∀ (a : Addr) (oe : Obj) (cls : Value) (d : Option Addr) (pn : List (Addr × Obj)), L2N.Zn cls d oe → (∃ vs, oe.data = .fields vs) → PSs (X.suite a ((a, oe) :: pn)) sts (tS ⟨X.K, pxOf cl a cls d, X.w⟩ cl (fun _ _ _ _ => False) (ev M b))
theorem SE.of {t : Bool} {sc : Scope} {ex : Expr} {f : En → R} (pl : plainT ex = true) (h : ∀ X W, Good Γ P w K mg base k X W sc → PE X ex (tE ⟨X.K, noPx, X.w⟩ cl W f)) : SE Γ P w K mg base cl k t sc ex f := fun X W g => by
  cases t with
  | false => exact h X W g
  | true => exact t_val (h X W g) (test_plain pl)
theorem pw_of {X : Cx} {op : BoolOp} {vs : List Expr} {pos : Pos} {t : TT} (h : PT X (.BoolOp op vs pos) t) : PW X (.BoolOp op vs pos) t := ⟨fun _ pins s σ H Q I q => h.run pins s σ H Q I q⟩
theorem pt_of {X : Cx} {op : BoolOp} {vs : List Expr} {pos : Pos} {t : TT} (h : PW X (.BoolOp op vs pos) t) : PT X (.BoolOp op vs pos) t := ⟨fun pins s σ H Q I q => h.run _ pins s σ H Q I q⟩
theorem dec_ok {p : Prop} [Decidable p] (h : decide p = true) : p := of_decide_eq_true h
theorem bn_ok (n : Nat) (h : (Nat.ble n 14 || n == 21) = true) (h14 : n ≠ 14) : bootBuiltins (bltNm n) = some (bltV n) ∧ bltNm n ≠ "__name__" ∧ ((∃ id, bltV n = .builtin id) ∨ ∃ T, bltV n = .type T) := by
  by_cases h21 : n = 21
  · subst h21
    exact ⟨by kernel_rfl, by decide, .inr ⟨_, rfl⟩⟩
  have hn : n < 14 := by
    rw [Bool.or_eq_true] at h
    rcases h with h | h
    · have := Nat.le_of_ble_eq_true h
      omega
    · exact absurd (by simpa using h) h21
  match n, hn with
  | 0, _ => exact ⟨by kernel_rfl, by decide, .inl ⟨_, rfl⟩⟩
  | 1, _ => exact ⟨by kernel_rfl, by decide, .inr ⟨_, rfl⟩⟩
  | 2, _ => exact ⟨by kernel_rfl, by decide, .inl ⟨_, rfl⟩⟩
  | 3, _ => exact ⟨by kernel_rfl, by decide, .inl ⟨_, rfl⟩⟩
  | 4, _ => exact ⟨by kernel_rfl, by decide, .inl ⟨_, rfl⟩⟩
  | 5, _ => exact ⟨by kernel_rfl, by decide, .inl ⟨_, rfl⟩⟩
  | 6, _ => exact ⟨by kernel_rfl, by decide, .inl ⟨_, rfl⟩⟩
  | 7, _ => exact ⟨by kernel_rfl, by decide, .inl ⟨_, rfl⟩⟩
  | 8, _ => exact ⟨by kernel_rfl, by decide, .inl ⟨_, rfl⟩⟩
  | 9, _ => exact ⟨by kernel_rfl, by decide, .inr ⟨_, rfl⟩⟩
  | 10, _ => exact ⟨by kernel_rfl, by decide, .inr ⟨_, rfl⟩⟩
  | 11, _ => exact ⟨by kernel_rfl, by decide, .inl ⟨_, rfl⟩⟩
  | 12, _ => exact ⟨by kernel_rfl, by decide, .inl ⟨_, rfl⟩⟩
  | 13, _ => exact ⟨by kernel_rfl, by decide, .inl ⟨_, rfl⟩⟩
  | n + 14, h => omega
theorem passF {X : Cx} {CX : CXT} {W : WX} (tk : L2N.Takes X W) : Passes (L2N.CX X.prog X.w) X (fun _ _ _ => False) := fun pins σ H s e s' I c => L2N.passes_call tk (E := fun _ _ _ => False) (fun _ _ _ _ z => z.elim) pins σ H s e s' I c
theorem so_var (i : Nat) (ro : Ro) (h : m_var Γ i ro = true) : So Γ P w K mg base cl k (dVar i) ro := by
  unfold m_var at h
  split at h
  · exact SE.of rfl fun X W g => by
      obtain ⟨h1, h2, h3, h4⟩ := varB_ok g h
      exact s_var h1 h2 h3 h4
  · cases h
theorem so_lit (d : PyData) (ro : Ro) (h : m_lit Γ d ro = true) : So Γ P w K mg base cl k (dLit d) ro := by
  unfold m_lit at h
  split at h
  · refine SE.of rfl fun X W g => ?_
    unfold litB at h
    split at h
    · cases dec_ok h; exact s_int
    · cases dec_ok h; exact s_bool
    · exact s_none
    · cases dec_ok h; exact s_str
    · cases h
  · cases h
theorem so_gc (T : Top Γ P w K mg base cl M k) (i : Nat) (ro : Ro) (h : m_gc Γ i ro = true) : So Γ P w K mg base cl k (dLit (M.gcs i)) ro := by
  unfold m_gc at h
  split at h
  · simp only [Bool.and_eq_true, decide_eq_true_eq] at h
    refine SE.of rfl fun X W g => ?_
    obtain ⟨v, u, h1, h2, h3⟩ := T.gc _ _ h.1
    obtain ⟨g1, g2⟩ := g.gl h.2
    exact s_glob g1 (by rw [g.glob]; exact h1) h2 (by rw [g.frag, g.wrld]; exact h3 _) g2
  · cases h
variable {fa fb fc : Ro → Bool} {da db dc : En → R}
theorem so_tup (ia : ∀ ro, fa ro = true → So Γ P w K mg base cl k da ro) (ro : Ro) (h : m_tup Γ fa ro = true) : So Γ P w K mg base cl k (dTup da) ro := by
  unfold m_tup at h
  split at h
  · exact SE.of rfl fun X W g => s_tup (ia _ h X W g)
  · cases h
theorem so_lst (ia : ∀ ro, fa ro = true → So Γ P w K mg base cl k da ro) (ro : Ro) (h : m_lst Γ fa ro = true) : So Γ P w K mg base cl k (dLst da) ro := by
  unfold m_lst at h
  split at h
  · exact SE.of rfl fun X W g => s_lst (ia _ h X W g)
  · cases h
theorem so_nil (ro : Ro) (h : m_nil Γ ro = true) : So Γ P w K mg base cl k dNil ro := by
  unfold m_nil at h
  split at h
  · exact fun X W g => s_nil
  · cases h
theorem so_cons (ia : ∀ ro, fa ro = true → So Γ P w K mg base cl k da ro) (ib : ∀ ro, fb ro = true → So Γ P w K mg base cl k db ro) (ro : Ro) (h : m_cons Γ fa fb ro = true) : So Γ P w K mg base cl k (dCons da db) ro := by
  unfold m_cons at h
  split at h
  · simp only [Bool.and_eq_true] at h
    exact fun X W g => s_cons (ia _ h.1.2 X W g) (ib _ h.2 X W g) h.1.1
  · cases h
theorem so_star (ia : ∀ ro, fa ro = true → So Γ P w K mg base cl k da ro) (ib : ∀ ro, fb ro = true → So Γ P w K mg base cl k db ro) (ro : Ro) (h : m_star Γ fa fb ro = true) : So Γ P w K mg base cl k (dStar da db) ro := by
  unfold m_star at h
  split at h
  · simp only [Bool.and_eq_true] at h
    exact fun X W g => s_star (ia _ h.1 X W g) (ib _ h.2 X W g)
  · cases h
theorem so_bin (o : Bop) (ia : ∀ ro, fa ro = true → So Γ P w K mg base cl k da ro) (ib : ∀ ro, fb ro = true → So Γ P w K mg base cl k db ro) (ro : Ro) (h : m_bin Γ o fa fb ro = true) : So Γ P w K mg base cl k (dBin o da db) ro := by
  unfold m_bin at h
  split at h
  · simp only [Bool.and_eq_true, decide_eq_true_eq] at h
    refine SE.of rfl fun X W g => ?_
    rw [h.1.1]
    exact s_bin (ia _ h.1.2 X W g) (ib _ h.2 X W g)
  · cases h
theorem so_neg (ia : ∀ ro, fa ro = true → So Γ P w K mg base cl k da ro) (ro : Ro) (h : m_neg Γ fa ro = true) : So Γ P w K mg base cl k (dNeg da) ro := by
  unfold m_neg at h
  split at h
  · exact SE.of rfl fun X W g => s_neg (ia _ h X W g)
  · cases h
theorem so_nt (ia : ∀ ro, fa ro = true → So Γ P w K mg base cl k da ro) (ro : Ro) (h : m_nt Γ fa ro = true) : So Γ P w K mg base cl k (dNot da) ro := by
  unfold m_nt at h
  split at h
  · rename_i t sc x p
    intro X W g
    cases t with
    | false => exact s_not (ia _ h X W g)
    | true => exact t_not (ia _ h X W g)
  · cases h
theorem so_an (ia : ∀ ro, fa ro = true → So Γ P w K mg base cl k da ro) (ib : ∀ ro, fb ro = true → So Γ P w K mg base cl k db ro) (ro : Ro) (h : m_an Γ fa fb ro = true) : So Γ P w K mg base cl k (dAnd da db) ro := by
  unfold m_an at h
  split at h
  · rename_i t sc x y p
    simp only [Bool.and_eq_true] at h
    intro X W g
    cases t with
    | false => exact s_and (ia _ h.1 X W g) (s_one (ib _ h.2 X W g))
    | true => exact pt_of (w_and (ia _ h.1 X W g) (w_and1 (ib _ h.2 X W g)))
  · rename_i t sc x y z r p
    simp only [Bool.and_eq_true] at h
    intro X W g
    cases t with
    | false => exact s_and (ia _ h.1 X W g) (ib _ h.2 X W g)
    | true => exact pt_of (w_and (ia _ h.1 X W g) (pw_of (ib _ h.2 X W g)))
  · cases h
theorem so_orr (ia : ∀ ro, fa ro = true → So Γ P w K mg base cl k da ro) (ib : ∀ ro, fb ro = true → So Γ P w K mg base cl k db ro) (ro : Ro) (h : m_orr Γ fa fb ro = true) : So Γ P w K mg base cl k (dOr da db) ro := by
  unfold m_orr at h
  split at h
  · rename_i t sc x y p
    simp only [Bool.and_eq_true] at h
    intro X W g
    cases t with
    | false => exact s_or (ia _ h.1 X W g) (s_one (ib _ h.2 X W g))
    | true => exact pt_of (w_or (ia _ h.1 X W g) (w_or1 (ib _ h.2 X W g)))
  · rename_i t sc x y z r p
    simp only [Bool.and_eq_true] at h
    intro X W g
    cases t with
    | false => exact s_or (ia _ h.1 X W g) (ib _ h.2 X W g)
    | true => exact pt_of (w_or (ia _ h.1 X W g) (pw_of (ib _ h.2 X W g)))
  · cases h
theorem so_ite (ic : ∀ ro, fc ro = true → So Γ P w K mg base cl k dc ro) (ia : ∀ ro, fa ro = true → So Γ P w K mg base cl k da ro) (ib : ∀ ro, fb ro = true → So Γ P w K mg base cl k db ro) (ro : Ro) (h : m_ite Γ fc fa fb ro = true) : So Γ P w K mg base cl k (dIte dc da db) ro := by
  unfold m_ite at h
  split at h
  · simp only [Bool.and_eq_true] at h
    exact fun X W g => s_ite (ic _ h.1.1 X W g) (ia _ h.1.2 X W g) (ib _ h.2 X W g)
  · cases h
theorem so_cmp (o : Cop) (ia : ∀ ro, fa ro = true → So Γ P w K mg base cl k da ro) (ib : ∀ ro, fb ro = true → So Γ P w K mg base cl k db ro) (ro : Ro) (h : m_cmp Γ o fa fb ro = true) : So Γ P w K mg base cl k (dCmp o da db) ro := by
  unfold m_cmp at h
  split at h
  · rename_i t sc x op y p
    simp only [Bool.and_eq_true, decide_eq_true_eq] at h
    intro X W g
    rw [h.1.1.1]
    cases t with
    | false => exact s_cmp g.un (marks_plain h.1.1.2) (ia _ h.1.2 X W g) (ib _ h.2 X W g)
    | true => exact t_cmp g.un (marks_plain h.1.1.2) (ia _ h.1.2 X W g) (ib _ h.2 X W g)
  · cases h
theorem so_ch2 (o o' : Cop) (ia : ∀ ro, fa ro = true → So Γ P w K mg base cl k da ro) (ib : ∀ ro, fb ro = true → So Γ P w K mg base cl k db ro) (ic : ∀ ro, fc ro = true → So Γ P w K mg base cl k dc ro) (ro : Ro) (h : m_ch2 Γ o o' fa fb fc ro = true) : So Γ P w K mg base cl k (dCh2 o o' da db dc) ro := by
  unfold m_ch2 at h
  split at h
  · rename_i t sc x op op' y z p
    simp only [Bool.and_eq_true, decide_eq_true_eq] at h
    intro X W g
    rw [h.1.1.1.1.1, h.1.1.1.1.2]
    cases t with
    | false => exact s_ch2 g.un (marks_plain h.1.1.1.2) (ia _ h.1.1.2 X W g) (ib _ h.1.2 X W g) (ic _ h.2 X W g)
    | true => exact t_ch2 g.un (marks_plain h.1.1.1.2) (ia _ h.1.1.2 X W g) (ib _ h.1.2 X W g) (ic _ h.2 X W g)
  · cases h
theorem so_ix (ia : ∀ ro, fa ro = true → So Γ P w K mg base cl k da ro) (ib : ∀ ro, fb ro = true → So Γ P w K mg base cl k db ro) (ro : Ro) (h : m_ix Γ fa fb ro = true) : So Γ P w K mg base cl k (dIx da db) ro := by
  unfold m_ix at h
  split at h
  · simp only [Bool.and_eq_true] at h
    exact SE.of rfl fun X W g => s_ix g.un (ix_plain h.1.1) (ia _ h.1.2 X W g) (ib _ h.2 X W g)
  · cases h
theorem so_sl (ia : ∀ ro, fa ro = true → So Γ P w K mg base cl k da ro) (ib : ∀ ro, fb ro = true → So Γ P w K mg base cl k db ro) (ic : ∀ ro, fc ro = true → So Γ P w K mg base cl k dc ro) (ro : Ro) (h : m_sl Γ fa fb fc ro = true) : So Γ P w K mg base cl k (dSl da db dc) ro := by
  unfold m_sl at h
  split at h
  · simp only [Bool.and_eq_true] at h
    exact SE.of rfl fun X W g => s_sl (ia _ h.1.1 X W g) (ib _ h.1.2 X W g) (ic _ h.2 X W g)
  · cases h
theorem so_slL (ia : ∀ ro, fa ro = true → So Γ P w K mg base cl k da ro) (ib : ∀ ro, fb ro = true → So Γ P w K mg base cl k db ro) (ro : Ro) (h : m_slL Γ fa fb ro = true) : So Γ P w K mg base cl k (dSlL da db) ro := by
  unfold m_slL at h
  split at h
  · simp only [Bool.and_eq_true] at h
    exact SE.of rfl fun X W g => s_slL (ia _ h.1 X W g) (ib _ h.2 X W g)
  · cases h
theorem so_slH (ia : ∀ ro, fa ro = true → So Γ P w K mg base cl k da ro) (ib : ∀ ro, fb ro = true → So Γ P w K mg base cl k db ro) (ro : Ro) (h : m_slH Γ fa fb ro = true) : So Γ P w K mg base cl k (dSlH da db) ro := by
  unfold m_slH at h
  split at h
  · simp only [Bool.and_eq_true] at h
    exact SE.of rfl fun X W g => s_slH (ia _ h.1 X W g) (ib _ h.2 X W g)
  · cases h
theorem so_slA (ia : ∀ ro, fa ro = true → So Γ P w K mg base cl k da ro) (ro : Ro) (h : m_slA Γ fa ro = true) : So Γ P w K mg base cl k (dSlA da) ro := by
  unfold m_slA at h
  split at h
  · exact SE.of rfl fun X W g => s_slA (ia _ h X W g)
  · cases h
theorem so_rev (ia : ∀ ro, fa ro = true → So Γ P w K mg base cl k da ro) (ro : Ro) (h : m_rev Γ fa ro = true) : So Γ P w K mg base cl k (dRev da) ro := by
  unfold m_rev at h
  split at h
  · simp only [Bool.and_eq_true, decide_eq_true_eq] at h
    refine SE.of rfl fun X W g => ?_
    rw [h.1]
    exact s_rev (ia _ h.2 X W g)
  · cases h
theorem so_join (ia : ∀ ro, fa ro = true → So Γ P w K mg base cl k da ro) (ib : ∀ ro, fb ro = true → So Γ P w K mg base cl k db ro) (ro : Ro) (h : m_join Γ fa fb ro = true) : So Γ P w K mg base cl k (dMth 0 da (dCons db dNil)) ro := by
  unfold m_join at h
  split at h
  · rename_i t sc o nm apos x pos
    simp only [Bool.and_eq_true, decide_eq_true_eq] at h
    obtain ⟨⟨⟨⟨⟨h1, h2⟩, h3⟩, h4⟩, h5⟩, h6⟩ := h
    subst h1
    refine SE.of rfl fun X W g => s_join (starEach_cons h4) ?_ h3 (ia _ h5 X W g) (ib _ h6 X W g)
    cases o <;> first | rfl | (simp [noSup] at h2)
  · cases h
theorem so_blt (T : Top Γ P w K mg base cl M k) (a : Ir) (n : Nat) (ha : da = ev M a) (ia : ∀ ro, fa ro = true → So Γ P w K mg base cl k da ro) (ro : Ro) (h : m_blt Γ a n fa ro = true) : So Γ P w K mg base cl k (dBlt n da) ro := by
  unfold m_blt at h
  split at h
  · simp only [Bool.and_eq_true, beq_iff_eq] at h
    obtain ⟨rfl, h2⟩ := h
    have hd : da = dNil := by
      rw [ha]
      cases a <;> first | rfl | (simp [isNil] at h2)
    rw [hd]
    exact SE.of rfl fun X W g => s_dnew
  · rename_i t sc x p e es pos
    simp only [Bool.and_eq_true] at h
    obtain ⟨⟨⟨h1, h2⟩, h3⟩, h4⟩ := h
    unfold bltB at h1
    simp only [Bool.and_eq_true, decide_eq_true_eq] at h1
    obtain ⟨⟨b1, b3⟩, b4⟩ := h1
    have h3' := h3
    simp only [noStars, Bool.and_eq_true] at h3'
    refine SE.of rfl fun X W g => ?_
    obtain ⟨g1, g2⟩ := g.gl h2
    by_cases e14 : n = 14
    · subst e14
      have hm : X.mg x = some (.builtin "math.gcd") := by
        rw [g.glob, b3]
        exact T.gcd b4
      exact s_bltM (blt_ok 14 g.cal (by decide) (by decide) (by decide) g.un) g1 hm g2 (starEach_cons h3'.1) (back_plain h3'.2) (ia _ h4 X W g)
    · have b4' : Γ.free.contains x = true := by
        have e : (n == 14) = false := by simpa using e14
        rw [e] at b4
        exact b4
      have hm : X.mg x = none := by rw [g.glob]; exact T.free x b4'
      obtain ⟨c1, c2, c3⟩ := bn_ok n b1 e14
      have hc : CallR X (bltV n) (rBt ⟨X.K, noPx, X.w⟩ n) := by
        by_cases e11 : n = 11
        · subst e11; exact repr_ok g.grd g.un
        · exact blt_ok n g.cal e11 (fun z => by rw [z] at b1; cases b1) ⟨fun z => (by rw [z] at b1; cases b1), fun z => (by rw [z] at b1; cases b1), fun z => (by rw [z] at b1; cases b1), fun z => (by rw [z] at b1; cases b1)⟩ g.un
      subst b3
      rcases c3 with ⟨id, c3⟩ | ⟨T', c3⟩
      · rw [c3] at c1 hc
        exact s_bltB hc g1 hm c1 c2 g2 (starEach_cons h3'.1) (back_plain h3'.2) (ia _ h4 X W g)
      · rw [c3] at c1 hc
        exact s_bltT hc g1 hm c1 c2 g2 (starEach_cons h3'.1) (back_plain h3'.2) (ia _ h4 X W g)
  · cases h
theorem so_rg (T : Top Γ P w K mg base cl M k) (n : Nat) (ia : ∀ ro, fa ro = true → So Γ P w K mg base cl k da ro) (ro : Ro) (h : m_rg Γ n fa ro = true) : So Γ P w K mg base cl k (dBlt n da) ro := by
  unfold m_rg at h
  split at h
  · simp only [Bool.and_eq_true, Bool.or_eq_true, decide_eq_true_eq, beq_iff_eq] at h
    obtain ⟨⟨⟨⟨⟨⟨⟨h1, h2⟩, h3⟩, h4⟩, h5⟩, h6⟩, h7⟩, h8⟩ := h
    subst h2
    refine SE.of rfl fun X W g => ?_
    obtain ⟨g1, _⟩ := g.gl h3
    obtain ⟨g2, _⟩ := g.gl h4
    have m1 := T.free _ h5
    have m2 := T.free _ h6
    rw [← g.glob] at m1 m2
    rcases h1 with ⟨rfl, rfl⟩ | ⟨rfl, rfl⟩
    · exact s_lstRg g.cal g2 m2 g1 m1 (starEach_cons h7) (ia _ h8 X W g)
    · exact s_tupRg g.cal g2 m2 g1 m1 (starEach_cons h7) (ia _ h8 X W g)
  · cases h
theorem so_ss (T : Top Γ P w K mg base cl M k) (n : Nat) (ia : ∀ ro, fa ro = true → So Γ P w K mg base cl k da ro) (ro : Ro) (h : m_ss Γ n fa ro = true) : So Γ P w K mg base cl k (dBlt n da) ro := by
  unfold m_ss at h
  split at h
  · simp only [Bool.and_eq_true, decide_eq_true_eq, beq_iff_eq] at h
    obtain ⟨⟨⟨⟨⟨⟨⟨⟨h1, h2⟩, h3⟩, h4⟩, h5⟩, h6⟩, h7⟩, h8⟩, h9⟩ := h
    subst h1 h2 h3
    refine SE.of rfl fun X W g => ?_
    obtain ⟨g1, _⟩ := g.gl h4
    obtain ⟨g2, _⟩ := g.gl h5
    have m1 := T.free _ h6
    have m2 := T.free _ h7
    rw [← g.glob] at m1 m2
    exact s_sortSet g.cal g.un g1 m1 g2 m2 (starEach_cons h8) (ia _ h9 X W g)
  · cases h
theorem so_ls (T : Top Γ P w K mg base cl M k) (n : Nat) (ia : ∀ ro, fa ro = true → So Γ P w K mg base cl k da ro) (ro : Ro) (h : m_ls Γ n fa ro = true) : So Γ P w K mg base cl k (dBlt n da) ro := by
  unfold m_ls at h
  split at h
  · simp only [Bool.and_eq_true, decide_eq_true_eq, beq_iff_eq] at h
    obtain ⟨⟨⟨⟨⟨⟨⟨⟨h1, h2⟩, h3⟩, h4⟩, h5⟩, h6⟩, h7⟩, h8⟩, h9⟩ := h
    subst h1 h2 h3
    refine SE.of rfl fun X W g => ?_
    obtain ⟨g1, _⟩ := g.gl h4
    obtain ⟨g2, _⟩ := g.gl h5
    have m1 := T.free _ h6
    have m2 := T.free _ h7
    rw [← g.glob] at m1 m2
    exact s_lenSet g.cal g1 m1 g2 m2 (starEach_cons h8) (ia _ h9 X W g)
  · cases h
theorem so_blts (T : Top Γ P w K mg base cl M k) (a : Ir) (n : Nat) (ha : da = ev M a) (ia : ∀ ro, fa ro = true → So Γ P w K mg base cl k da ro) (ro : Ro) (h : (m_blt Γ a n fa ro || (m_rg Γ n fa ro || (m_ss Γ n fa ro || m_ls Γ n fa ro))) = true) : So Γ P w K mg base cl k (dBlt n da) ro := by
  rw [Bool.or_eq_true] at h
  rcases h with h | h
  · exact so_blt T a n ha ia ro h
  · rw [Bool.or_eq_true] at h
    rcases h with h | h
    · exact so_rg T n ia ro h
    · rw [Bool.or_eq_true] at h
      rcases h with h | h
      · exact so_ss T n ia ro h
      · exact so_ls T n ia ro h
theorem so_mtl (n : Nat) (ia : ∀ ro, fa ro = true → So Γ P w K mg base cl k da ro) (ib : ∀ ro, fb ro = true → So Γ P w K mg base cl k db ro) (ro : Ro) (h : m_mtl Γ n fa fb ro = true) : So Γ P w K mg base cl k (dMtL n da db) ro := by
  unfold m_mtl at h
  split at h
  · rename_i t sc o nm apos x pos
    simp only [Bool.and_eq_true, Bool.or_eq_true, decide_eq_true_eq, beq_iff_eq] at h
    obtain ⟨⟨⟨⟨⟨h0, h2⟩, h3⟩, h4⟩, h5⟩, h6⟩ := h
    rcases h0 with ⟨rfl, rfl⟩ | ⟨rfl, rfl⟩
    · refine SE.of rfl fun X W g => s_mtl ?_ (few_one h4) (by simpa using h3) (starEach_cons h4) rfl h4 (ia _ h5 X W g) (ib _ h6 X W g)
      cases o <;> first | rfl | (simp [noSup] at h2)
    · refine SE.of rfl fun X W g => s_idx ?_ (few_one h4) (by simpa using h3) (starEach_cons h4) rfl h4 (ia _ h5 X W g) (ib _ h6 X W g)
      cases o <;> first | rfl | (simp [noSup] at h2)
  · cases h
theorem so_mut (n i : Nat) (ia : ∀ ro, fa ro = true → So Γ P w K mg base cl k da ro) (ro : Ro) (h : m_mut Γ n i fa ro = true) : So Γ P w K mg base cl k (dMut n i da) ro := by
  unfold m_mut at h
  split at h
  · simp only [Bool.and_eq_true, decide_eq_true_eq, beq_iff_eq] at h
    obtain ⟨⟨⟨⟨h0, h2⟩, h3⟩, h4⟩, h5⟩ := h
    simp only [Bool.or_eq_true, Bool.and_eq_true, decide_eq_true_eq, beq_iff_eq] at h0
    obtain ⟨rfl, rfl⟩ | ⟨rfl, rfl⟩ := h0
    · refine SE.of rfl fun X W g => ?_
      obtain ⟨c1, c2, c3, c4⟩ := varB_ok g h2
      exact s_pop c1 c2 c3 c4 rfl (few_one h4) (by simpa using h3) (starEach_cons h4) rfl h4 (ia _ h5 X W g)
    · refine SE.of rfl fun X W g => ?_
      obtain ⟨c1, c2, c3, c4⟩ := varB_ok g h2
      exact s_rem c1 c2 c3 c4 rfl (few_one h4) (by simpa using h3) (starEach_cons h4) rfl h4 (ia _ h5 X W g)
  · cases h
theorem so_call (T : Top Γ P w K mg base cl M k) (a : Ir) (f : Nat) (ha : da = ev M a) (ia : ∀ ro, fa ro = true → So Γ P w K mg base cl k da ro) (ro : Ro) (h : m_call Γ a f fa ro = true) : So Γ P w K mg base cl k (dCall M f da) ro := by
  unfold m_call at h
  split at h
  · simp only [Bool.and_eq_true, decide_eq_true_eq] at h
    refine SE.of rfl fun X W g => ?_
    obtain ⟨fa, fd, ps, h1, h2, h3, h4, h5⟩ := T.fn _ _ h.1.2
    obtain ⟨g1, g2⟩ := g.gl h.2
    have hn : da = dNil := by
      rw [ha]
      have := h.1.1
      unfold isNil at this
      split at this
      · rfl
      · cases this
    rw [hn]
    obtain ⟨rfl, rfl, rfl, rfl, rfl⟩ : X.prog = P ∧ X.w = w ∧ X.K = K ∧ X.mg = mg ∧ X.base = base := ⟨g.prog, g.wrld, g.frag, g.glob, g.bas⟩
    exact s_call0 h1 h2 g.room g.grd g1 h3 h4 h5 g.tk g2
  · simp only [Bool.and_eq_true, decide_eq_true_eq] at h
    refine SE.of rfl fun X W g => ?_
    obtain ⟨fa, fd, ps, h1, h2, h3, h4, h5⟩ := T.fn _ _ h.1.1.1
    obtain ⟨g1, g2⟩ := g.gl h.1.1.2
    have n := h.1.2
    simp only [noStars, Bool.and_eq_true] at n
    obtain ⟨rfl, rfl, rfl, rfl, rfl⟩ : X.prog = P ∧ X.w = w ∧ X.K = K ∧ X.mg = mg ∧ X.base = base := ⟨g.prog, g.wrld, g.frag, g.glob, g.bas⟩
    exact s_call h1 h2 g.room g.grd g1 h3 h4 h5 g.tk g2 (starEach_cons n.1) (back_plain n.2) (ia _ h.2 X W g)
  · cases h
/-! iterables -/
theorem so_itE (ia : ∀ ro, fa ro = true → So Γ P w K mg base cl k da ro) (ro : Ro) (h : m_itE Γ fa ro = true) : So Γ P w K mg base cl k (dItE da) ro := by
  unfold m_itE at h
  split at h
  · simp only [Bool.and_eq_true] at h
    exact fun X W g => s_itE (ia _ h.2 X W g)
  · cases h
theorem so_itL (ia : ∀ ro, fa ro = true → So Γ P w K mg base cl k da ro) (ro : Ro) (h : m_itL Γ fa ro = true) : So Γ P w K mg base cl k (dItL da) ro := by
  unfold m_itL at h
  split at h
  · simp only [Bool.and_eq_true] at h
    exact fun X W g => s_itL (ia _ h.2 X W g)
  · cases h
theorem so_itR (T : Top Γ P w K mg base cl M k) (ia : ∀ ro, fa ro = true → So Γ P w K mg base cl k da ro) (ro : Ro) (h : m_itR Γ fa ro = true) : So Γ P w K mg base cl k (dItR da) ro := by
  unfold m_itR at h
  split at h
  · simp only [Bool.and_eq_true, decide_eq_true_eq] at h
    obtain ⟨⟨⟨⟨h1, h2⟩, h3⟩, h4⟩, h5⟩ := h
    subst h1
    exact fun X W g => s_itR (g.gl h2).1 (by rw [g.glob]; exact T.free _ h3) (starEach_cons h4) (ia _ h5 X W g)
  · cases h
theorem so_itR2 (T : Top Γ P w K mg base cl M k) (ia : ∀ ro, fa ro = true → So Γ P w K mg base cl k da ro) (ro : Ro) (h : m_itR2 Γ fa ro = true) : So Γ P w K mg base cl k (dItR2 da) ro := by
  unfold m_itR2 at h
  split at h
  · simp only [Bool.and_eq_true, decide_eq_true_eq] at h
    obtain ⟨⟨⟨⟨⟨h1, h2⟩, h3⟩, h4⟩, h6⟩, h5⟩ := h
    subst h1
    exact fun X W g => s_itR2 (g.gl h2).1 (by rw [g.glob]; exact T.free _ h3) (by rw [starEach_cons h4, starEach_cons h6]; rfl) (starEach_cons h6) (ia _ h5 X W g)
  · cases h
theorem so_itN (T : Top Γ P w K mg base cl M k) (ia : ∀ ro, fa ro = true → So Γ P w K mg base cl k da ro) (ro : Ro) (h : m_itN Γ fa ro = true) : So Γ P w K mg base cl k (dItN da) ro := by
  unfold m_itN at h
  split at h
  · simp only [Bool.and_eq_true, decide_eq_true_eq] at h
    obtain ⟨⟨⟨⟨h1, h2⟩, h3⟩, h4⟩, h5⟩ := h
    subst h1
    exact fun X W g => s_itN (g.gl h2).1 (by rw [g.glob]; exact T.free _ h3) (starEach_cons h4) h4 (ia _ h5 X W g)
  · cases h
theorem so_itZ (T : Top Γ P w K mg base cl M k) (ia : ∀ ro, fa ro = true → So Γ P w K mg base cl k da ro) (ro : Ro) (h : m_itZ Γ fa ro = true) : So Γ P w K mg base cl k (dItZ da) ro := by
  unfold m_itZ at h
  split at h
  · simp only [Bool.and_eq_true, decide_eq_true_eq] at h
    obtain ⟨⟨⟨⟨⟨h1, h2⟩, h3⟩, h4⟩, h6⟩, h5⟩ := h
    subst h1
    exact fun X W g => s_itZ (g.gl h2).1 (by rw [g.glob]; exact T.free _ h3) (starEach_cons h4) (back_plain (by simp [noStars, h6])) (ia _ h5 X W g)
  · cases h
end
end Ev
end

section
set_option Elab.async false
set_option linter.all false
set_option maxRecDepth 100000
set_option maxHeartbeats 4000000
namespace Ev
open PySem PySem.Spec PyProof.Rows L2
section
variable {X : Cx} {cl : Nat → Addr} {W : WX} {M : Pm}
/-! ## [f, g, ..][i](..) -/
theorem pa_names {Γ : Gm} {P : Program} {w : World} {K : PySem.W.Frag} {mg : Str → Option Value} {base : Heap} {k : Nat} {sc : Scope} (g : Good Γ P w K mg base k X W sc) (T : Top Γ P w K mg base cl M k) :
    ∀ {fs : List Nat} {es : List Expr}, glsB Γ sc fs es = true → ∃ as : List Addr, as.length = fs.length ∧ PA X es (fun _ H Q => Q (as.map V.ref) H) ∧ ∀ (j : Nat) (f : Nat) (a : Addr), fs[j]? = some f → as[j]? = some a → ∃ (fd : FuncData) (ps : List Str), FnG P w K mg base (L2N.CX P w) k a fd ps (spF ⟨K, noPx, w⟩ cl (M.call f) ps.length) ∧ (M.lens f).length = ps.length ∧ PySem.W.keepIn K (.ref a) = true ∧ Binds K fd ps []
  | [], [], _ => ⟨[], rfl, pa_nil, fun j f a h => by simp at h⟩
  | [], _ :: _, h => by simp [glsB] at h
  | f :: fs, [], h => by simp [glsB] at h
  | f :: fs, e :: es, h => by
    unfold glsB at h
    split at h
    · rename_i h' _; cases h'
    · rename_i h1 h2
      cases h1; cases h2
      simp only [Bool.and_eq_true, decide_eq_true_eq] at h
      obtain ⟨a, fd, ps, c1, c2, c3, c4, c5⟩ := T.fn _ _ h.1.1
      obtain ⟨g1, g2⟩ := g.gl h.1.2
      obtain ⟨as, l, pa, q⟩ := pa_names (fs := fs) g T h.2
      refine ⟨a :: as, by simp [l], paI (pa_cons (pe_glob (u := .ref a) (v := .ref a) g1 (by rw [g.glob]; exact c3) (by show Value.ref a = Value.ref a; rfl) g2) pa rfl) fun _ _ _ q => q, fun j f' a' h1 h2 => ?_⟩
      cases j with
      | zero => cases h1; cases h2; exact ⟨fd, ps, c1, c2, c4, c5⟩
      | succ j => exact q j f' a' (by simpa using h1) (by simpa using h2)
    · cases h
theorem s_pick {Γ : Gm} {k : Nat} {sc : Scope} {fs : List Nat} {ns : List Expr} {b a : Expr} {es : List Expr} {fa fb : En → R} {p1 p2 pos : Pos} (g : Good Γ X.prog X.w X.K X.mg X.base k X W sc) (T : Top Γ X.prog X.w X.K X.mg X.base cl M k) (hn : glsB Γ sc fs ns = true) (hz : lenOk fs.length = true) (hs : PlainIx b)
    (he : starEach (a :: es) X.env = (false, eval a X.env) :: starEach es X.env) (hpl : (backTo pos (starEach es X.env)).any (·.1) = false) (ha : PE X b (tE ⟨X.K, noPx, X.w⟩ cl W fa)) (hb : PA X (a :: es) (tA ⟨X.K, noPx, X.w⟩ cl W fb)) :
    PE X (.Call (.Subscript (.List ns p1) b p2) (a :: es) [] pos) (tE ⟨X.K, noPx, X.w⟩ cl W (dPick M fs fa fb)) := by
  obtain ⟨as, l, pa, G⟩ := pa_names (fs := fs) g T hn
  refine ⟨fun pins s σ H Q I ⟨F, e, r, q⟩ => ?_⟩
  have pf : PE X (.Subscript (.List ns p1) b p2) _ := pe_ix ix_list (pe_lst pa) ha hs
  refine Call_ ?_ rfl
  refine thn (pf.run pins s σ H (fun v H1 => ∃ (F1 : As) (e1 : En) (j f : Nat) (ad : Addr), At ⟨X.K, noPx, X.w⟩ F e σ H F1 e1 σ H1 ∧ v = .ref ad ∧ fs[j]? = some f ∧ as[j]? = some ad ∧ PO' ⟨X.K, noPx, X.w⟩ cl W F e σ H Q ((fb e1).bds fun vs e2 => callR M f vs e2)) I ?_) fun u s1 ⟨v, H1, I1, rv, F1, e1, j, f, ad, a1, ev, hj, hja, p1⟩ => ?_
  · refine ⟨by rw [List.length_map, l]; exact lenOk_line hz, fun p np => ?_⟩
    have m := More.one (F := F) (H := H) (p := p) (o := .lst (as.map V.ref)) r.dom np
    obtain ⟨r1, f1⟩ := r.more m
    have a0 : At ⟨X.K, noPx, X.w⟩ F e σ H F e σ (upd H p (.lst (as.map V.ref))) := ⟨r, f1, r1⟩
    refine ⟨F, e, r1, PO'.bd a0 q fun u e1 F1 H1 z a1 f1 v1 n1 p1 => ?_⟩
    split at p1
    · rename_i i q1
      cases q2 : (ixF fs.length i).bind fun j => fs[j]? with
      | none => rw [q2] at p1; exact p1.elim
      | some f =>
        rw [q2] at p1
        cases q3 : ixF fs.length i with
        | none => rw [q3] at q2; cases q2
        | some j =>
          rw [q3] at q2
          have q2 : fs[j]? = some f := q2
          have hj : j < fs.length := (List.getElem?_eq_some_iff.mp q2).1
          have hja : as[j]? = some as[j] := List.getElem?_eq_getElem (by rw [l]; exact hj)
          refine ⟨p, as.map V.ref, i, .ref as[j], rfl, (res_ok a1.r v1 q1).int, .inl (.inl (f1.keep _ _ upd_same fun mm => ?_)), ?_, F1, e1, j, f, as[j], a1, rfl, q2, hja, p1⟩
          · exact (r.own mm.own).2 np
          · unfold atI
            have q4 : ixN (as.map V.ref).length i = some j := by rw [List.length_map, l, ← ixF_N, q3]
            rw [q4]
            show (as.map V.ref)[j]? = _
            rw [List.getElem?_map, hja]
            rfl
    · exact p1.elim
  · subst ev
    obtain rfl : u = Value.ref ad := rv
    obtain ⟨fd, ps, c1, c2, c3, c4⟩ := G j f ad hj hja
    refine PySem.W.callWith_K (h₀ := X.base) I1.ok.mod.kin c3 (thn (hb.run pos pins s1 σ H1 (fun zs H2 => spF ⟨X.K, noPx, X.w⟩ cl (M.call f) ps.length zs H2 Q (WE W σ)) I1 ⟨F1, e1, a1.r, PO'.bds a1 p1 fun us e2 F2 H2 zs a2 f2 v2 p2 => call_ok a2 (VRs.old a1.f.dom v2) c2 p2⟩) fun us s2 ⟨vs, H2, I2, rv2, q2⟩ => ⟨I2.kIn, ?_⟩) he hpl
    exact runG (E := WE W) c1 g.room g.grd c4 (L2N.passAt g.tk σ) I2 rv2 q2
end
/-! ## swapped stores -/
theorem swap2_ok {env : Env} {sc : Scope} {x y : Str} {px py pt pt2 : Pos} {a b : Expr} {kt k2} (hs : env.scope = sc) (hk : env.blockKind = .function) (h : swB2 sc x y px py a b = true) : swappedStores [.Tuple [.Name x px, .Name y py] kt pt] (.Tuple [a, b] k2 pt2) env = pure (some [x, y]) := by
  unfold swB2 at h
  simp only [Bool.and_eq_true, decide_eq_true_eq, Bool.not_eq_true', beq_iff_eq] at h
  obtain ⟨⟨⟨⟨⟨⟨⟨h1, h2⟩, h3⟩, h4⟩, h5⟩, h6⟩, h7⟩, h8⟩ := h
  have kx : env.kindOf x = some .local := by show env.scope.names.lookup x = _; rw [hs]; exact isLoc_ok h1
  have ky : env.kindOf y = some .local := by show env.scope.names.lookup y = _; rw [hs]; exact isLoc_ok h2
  have n1 : (x == y) = false := by simpa using h4
  have n2 : (y == x) = false := by simpa using fun h => h4 h.symm
  have st : ([a, b].any fun | .Starred .. => true | _ => false) = false := by
    cases a <;> cases b <;> first | rfl | (simp [notStar] at h5 h6)
  unfold swappedStores
  dsimp only
  refine (if_neg (by rw [hk]; show ¬ (false = true); decide)).trans ?_
  refine (if_neg (fun h => Bool.noConfusion (h.symm.trans st))).trans ?_
  have f1 : ¬ (foldedForSure 8 a = true ∧ foldedForSure 8 b = true) := fun q => by simp [q.1, q.2] at h7
  have f2 : ¬ (constantsAlone 8 a = true ∧ constantsAlone 8 b = true) := fun q => by simp [q.1, q.2] at h8
  simp [kx, ky, h3, Expr.pos, n1, n2, List.eraseDups_cons, f1, f2]
theorem swap3_ok {env : Env} {sc : Scope} {x y z : Str} {px py pz pt pt2 : Pos} {a b c : Expr} {kt k2} (hs : env.scope = sc) (hk : env.blockKind = .function) (h : swB3 sc x y z px py pz a b c = true) : swappedStores [.Tuple [.Name x px, .Name y py, .Name z pz] kt pt] (.Tuple [a, b, c] k2 pt2) env = pure (some [x, y, z]) := by
  unfold swB3 at h
  simp only [Bool.and_eq_true, decide_eq_true_eq, Bool.not_eq_true', beq_iff_eq] at h
  obtain ⟨⟨⟨⟨⟨⟨⟨⟨⟨⟨⟨⟨h1, h2⟩, h0⟩, h3⟩, h3'⟩, h4⟩, h4'⟩, h4''⟩, h5⟩, h6⟩, h6'⟩, h7⟩, h8⟩ := h
  have kx : env.kindOf x = some .local := by show env.scope.names.lookup x = _; rw [hs]; exact isLoc_ok h1
  have ky : env.kindOf y = some .local := by show env.scope.names.lookup y = _; rw [hs]; exact isLoc_ok h2
  have kz : env.kindOf z = some .local := by show env.scope.names.lookup z = _; rw [hs]; exact isLoc_ok h0
  have n2 : (y == x) = false := by simpa using fun h => h4 h.symm
  have n3 : (z == x) = false := by simpa using fun h => h4' h.symm
  have n4 : (z == y) = false := by simpa using fun h => h4'' h.symm
  have st : ([a, b, c].any fun | .Starred .. => true | _ => false) = false := by
    cases a <;> first | (simp [notStar] at h5; done) | (cases b <;> first | (simp [notStar] at h6; done) | (cases c <;> first | rfl | (simp [notStar] at h6')))
  unfold swappedStores
  dsimp only
  refine (if_neg (by rw [hk]; show ¬ (false = true); decide)).trans ?_
  refine (if_neg (fun h => Bool.noConfusion (h.symm.trans st))).trans ?_
  have f1 : ¬ (foldedForSure 8 a = true ∧ foldedForSure 8 b = true ∧ foldedForSure 8 c = true) := fun q => by simp [q.1, q.2.1, q.2.2] at h7
  have f2 : ¬ (constantsAlone 8 a = true ∧ constantsAlone 8 b = true ∧ constantsAlone 8 c = true) := fun q => by simp [q.1, q.2.1, q.2.2] at h8
  simp [kx, ky, kz, h3, h3', Expr.pos, n2, n3, n4, List.eraseDups_cons, f1, f2]
end Ev
end

section
set_option Elab.async false
set_option linter.all false
set_option maxRecDepth 100000
set_option maxHeartbeats 4000000
namespace Ev
open PySem PySem.Spec PyProof.Rows L2
section
variable {Γ : Gm} {P : Program} {w : World} {K : PySem.W.Frag} {mg : Str → Option Value} {base : Heap} {cl : Nat → Addr} {M : Pm} {k : Nat}
variable {fa fb fc : Ro → Bool} {da db dc : En → R}
theorem so_pick (T : Top Γ P w K mg base cl M k) (fs : List Nat) (ia : ∀ ro, fa ro = true → So Γ P w K mg base cl k da ro) (ib : ∀ ro, fb ro = true → So Γ P w K mg base cl k db ro) (ro : Ro) (h : m_pick Γ fs fa fb ro = true) : So Γ P w K mg base cl k (dPick M fs da db) ro := by
  unfold m_pick at h
  split at h
  · simp only [Bool.and_eq_true] at h
    obtain ⟨⟨⟨⟨⟨h1, h2⟩, h3⟩, h4⟩, h5⟩, h6⟩ := h
    refine SE.of rfl fun X W g => ?_
    have n := h4
    simp only [noStars, Bool.and_eq_true] at n
    obtain ⟨rfl, rfl, rfl, rfl, rfl⟩ : X.prog = P ∧ X.w = w ∧ X.K = K ∧ X.mg = mg ∧ X.base = base := ⟨g.prog, g.wrld, g.frag, g.glob, g.bas⟩
    exact s_pick g T h2 h3 (ix_plain h1) (starEach_cons n.1) (back_plain n.2) (ia _ h5 X W g) (ib _ h6 X W g)
  · cases h
theorem ownN_snd (N : List Str) : ∀ (own : List Nat), (ownN N own).map (·.2) = own
  | [] => rfl
  | a :: own => by
    show a :: (ownN N own).map (·.2) = _
    rw [ownN_snd N own]
/-- what both comprehensions ask of their block -/
theorem lc_parts {X : Cx} {W : WX} {sc scope : Scope} {t : Tg} {tg elt : Expr} {ifs : List Expr} {b : Ir} (hb : db = ev M b) (g : Good Γ P w K mg base k X W sc) (ib : ∀ ro, fb ro = true → So Γ P w K mg base cl k db ro) (ic : ∀ ro, fc ro = true → So Γ P w K mg base cl k dc ro)
    (h2 : tgB Γ.N (relS scope sc) scope t tg = true) (h3 : (match ifs with
        | [] => isTT b
        | [x] => fb (.e true (relS scope sc) x)
        | _ => false) = true) (h4 : fc (.e false (relS scope sc) elt) = true) (s : Shared) (H : Hp) (C : Addr) (cl' : List (Str × Addr)) (fp : List Addr) :
    PG (X.blk s H scope (compEnvC scope cl' C X.env) fp) tg (tG ⟨X.K, noPx, X.w⟩ t) ∧ PTs (X.blk s H scope (compEnvC scope cl' C X.env) fp) ifs (tT ⟨X.K, noPx, X.w⟩ cl (fun _ _ _ _ => False) db) ∧ PE (X.blk s H scope (compEnvC scope cl' C X.env) fp) elt (tE ⟨X.K, noPx, X.w⟩ cl (fun _ _ _ _ => False) dc) := by
  have g' := g.blk s H scope C cl' fp
  refine ⟨?_, ?_, ic _ h4 _ _ g'⟩
  · refine tgB_ok g' (f := scope) ?_ h2
    intro x hx
    show (scope.names.lookup x == some .cell) = true
    rw [hx]; rfl
  · split at h3
    · subst hb
      unfold isTT at h3
      split at h3
      · exact c_nil
      · cases h3
    · exact c_one (ib _ h3 _ _ g')
    · cases h3
theorem so_lc (b : Ir) (own : List Nat) (t : Tg) (hb : db = ev M b) (ia : ∀ ro, fa ro = true → So Γ P w K mg base cl k da ro) (ib : ∀ ro, fb ro = true → So Γ P w K mg base cl k db ro) (ic : ∀ ro, fc ro = true → So Γ P w K mg base cl k dc ro) (ro : Ro) (h : m_lc Γ b own t fa fb fc ro = true) : So Γ P w K mg base cl k (dLc own t da db dc) ro := by
  unfold m_lc at h
  split at h
  · simp only [Bool.and_eq_true, beq_iff_eq] at h
    obtain ⟨⟨⟨⟨⟨⟨⟨h0, h1⟩, h2⟩, h3⟩, h4⟩, h5⟩, h6⟩, h7⟩ := h
    subst h0
    refine SE.of rfl fun X W g => ?_
    have L := lc_parts hb g ib ic h3 h6 h7
    exact s_lc g.cal (by rw [g.nms]; exact g.nd) (by rw [g.nms, g.scp]; exact blkOk_by h1) (fold_plain h4) h2 (ownN_snd _ _) (ia _ h5 X W g) (fun s H C cl' fp => (L s H C cl' fp).1) (fun s H C cl' fp => (L s H C cl' fp).2.1) (fun s H C cl' fp => (L s H C cl' fp).2.2)
  · cases h
theorem tgk_ok {X : Cx} {W : WX} {sc scope : Scope} {t : Tg} {tg : Expr} (g : Good Γ P w K mg base k X W sc) (h2 : tgB Γ.N (relS scope sc) scope t tg = true) (s : Shared) (H : Hp) (C : Addr) (cl' : List (Str × Addr)) (fp : List Addr) :
    PG (X.blk s H scope (compEnvC scope cl' C X.env) fp) tg (tG ⟨X.K, noPx, X.w⟩ t) := by
  have g' := g.blk s H scope C cl' fp
  refine tgB_ok g' (f := scope) ?_ h2
  intro x hx
  show (scope.names.lookup x == some .cell) = true
  rw [hx]; rfl
theorem one_ok {X : Cx} {W : WX} {sc : Scope} {ifs : List Expr} {b : Ir} (hb : db = ev M b) (g : Good Γ P w K mg base k X W sc) (ib : ∀ ro, fb ro = true → So Γ P w K mg base cl k db ro) (h3 : oneB b fb sc ifs = true) : PTs X ifs (tT ⟨X.K, noPx, X.w⟩ cl W db) := by
  unfold oneB at h3
  split at h3
  · subst hb
    unfold isTT at h3
    split at h3
    · exact c_nil
    · cases h3
  · exact c_one (ib _ h3 _ _ g)
  · cases h3
theorem so_lc2 {fp fq : Ro → Bool} {dp dq : En → R} (b p : Ir) (own own1 : List Nat) (t t1 : Tg) (hb : db = ev M b) (hp : dp = ev M p) (ia : ∀ ro, fa ro = true → So Γ P w K mg base cl k da ro) (ib : ∀ ro, fb ro = true → So Γ P w K mg base cl k db ro) (ic : ∀ ro, fc ro = true → So Γ P w K mg base cl k dc ro) (ip : ∀ ro, fp ro = true → So Γ P w K mg base cl k dp ro) (iq : ∀ ro, fq ro = true → So Γ P w K mg base cl k dq ro) (ro : Ro) (h : m_lc2 Γ b p own own1 t t1 fa fb fc fp fq ro = true) : So Γ P w K mg base cl k (dLc2 own own1 t t1 da db dc dp dq) ro := by
  unfold m_lc2 at h
  split at h
  · simp only [Bool.and_eq_true, beq_iff_eq] at h
    obtain ⟨⟨⟨⟨⟨⟨⟨⟨⟨⟨⟨⟨⟨⟨h0, h0'⟩, h1⟩, h2⟩, h2'⟩, hv⟩, h3⟩, h3'⟩, h4⟩, h4'⟩, h5⟩, h6⟩, h7⟩, h8⟩, h9⟩ := h
    subst h0 h0'
    refine SE.of rfl fun X W g => ?_
    exact s_lc2 g.cal (by rw [g.nms]; exact g.nd) (by rw [g.nms, g.scp]; exact blkOk_by h1) (fold_plain h4) (fun env => fold_plain h4') h2 h2' (ownN_snd _ _) hv (ia _ h5 X W g) (fun s H C cl' fp => tgk_ok g h3 s H C cl' fp) (fun s H C cl' fp => one_ok (W := fun _ _ _ _ => False) hb (g.blk s H _ C cl' fp) ib h6) (fun s H C cl' fp => ic _ h7 _ _ (g.blk s H _ C cl' fp)) (fun s H C cl' fp => tgk_ok g h3' s H C cl' fp) (fun s H C cl' fp => one_ok hp (g.blk s H _ C cl' fp) ip h8) (fun s H C cl' fp => iq _ h9 _ _ (g.blk s H _ C cl' fp))
  · cases h
theorem swaps_yes {elt : Expr} {gs : List Comprehension} {scope : Scope} {p q : Pos} {y : Str} {env : Env} {l : Nat} (h1 : env.blockKind = .function) (h2 : env.kindOf y = some .local) (h3 : q.line = p.line) (h4 : (scope.names.any fun (n, k) => n == y && (k == .local || k == .cell)) = false) : swapsWith (.ListComp elt gs scope p) (some (.Name y q)) l env = pure true := by
  unfold swapsWith
  dsimp only
  refine congrArg (pure (f := Sem)) ?_
  rw [h1, h2]
  show (true && (q.line == p.line) && !_) = true
  have e : (q.line == p.line) = true := by rw [h3]; exact beq_self_eq_true _
  rw [e]
  exact congrArg not h4
theorem so_setL (b : Ir) (i : Nat) (kk : Bool) (own : List Nat) (t : Tg) (hb : db = ev M b) (ia : ∀ ro, fa ro = true → So Γ P w K mg base cl k da ro) (ib : ∀ ro, fb ro = true → So Γ P w K mg base cl k db ro) (ic : ∀ ro, fc ro = true → So Γ P w K mg base cl k dc ro) (ro : Ro) (h : m_setL Γ b i kk own t fa fb fc ro = true) : So Γ P w K mg base cl k (dSet i kk (dLc own t da db dc)) ro := by
  unfold m_setL at h
  split at h
  · simp only [Bool.and_eq_true, beq_iff_eq, Bool.not_eq_true'] at h
    obtain ⟨⟨⟨⟨⟨⟨⟨⟨⟨⟨⟨h0, a1⟩, a2⟩, a3⟩, a4⟩, h1⟩, h2⟩, h3⟩, h4⟩, h5⟩, h6⟩, h7⟩ := h
    subst h0
    intro X W g B
    have L := lc_parts hb g ib ic h3 h6 h7
    have hl := isLoc_ok a2
    exact s_setLc g.cal (by rw [g.nms]; exact g.nd) (by rw [g.nms]; exact dec_ok a1) (by rw [g.scp]; exact hl) (swaps_yes B.fk (by show X.env.scope.names.lookup _ = _; rw [g.scp]; exact hl) a3 a4) (by rw [g.nms, g.scp]; exact blkOk_by h1) (fold_plain h4) h2 (ownN_snd _ _) (ia _ h5 X W g) (fun s H C cl' fp => (L s H C cl' fp).1) (fun s H C cl' fp => (L s H C cl' fp).2.1) (fun s H C cl' fp => (L s H C cl' fp).2.2)
  · cases h
theorem so_setL2 {fp fq : Ro → Bool} {dp dq : En → R} (b p : Ir) (i : Nat) (kk : Bool) (own own1 : List Nat) (t t1 : Tg) (hb : db = ev M b) (hp : dp = ev M p) (ia : ∀ ro, fa ro = true → So Γ P w K mg base cl k da ro) (ib : ∀ ro, fb ro = true → So Γ P w K mg base cl k db ro) (ic : ∀ ro, fc ro = true → So Γ P w K mg base cl k dc ro) (ip : ∀ ro, fp ro = true → So Γ P w K mg base cl k dp ro) (iq : ∀ ro, fq ro = true → So Γ P w K mg base cl k dq ro) (ro : Ro) (h : m_setL2 Γ b p i kk own own1 t t1 fa fb fc fp fq ro = true) : So Γ P w K mg base cl k (dSet i kk (dLc2 own own1 t t1 da db dc dp dq)) ro := by
  unfold m_setL2 at h
  split at h
  · simp only [Bool.and_eq_true, beq_iff_eq, Bool.not_eq_true'] at h
    obtain ⟨⟨⟨⟨⟨⟨⟨⟨⟨⟨⟨⟨⟨⟨⟨⟨⟨⟨h0, h0'⟩, a1⟩, a2⟩, a3⟩, a4⟩, h1⟩, h2⟩, h2'⟩, hv⟩, h3⟩, h3'⟩, h4⟩, h4'⟩, h5⟩, h6⟩, h7⟩, h8⟩, h9⟩ := h
    subst h0 h0'
    intro X W g B
    have hl := isLoc_ok a2
    exact s_setLc2 g.cal (by rw [g.nms]; exact g.nd) (by rw [g.nms]; exact dec_ok a1) (by rw [g.scp]; exact hl) (swaps_yes B.fk (by show X.env.scope.names.lookup _ = _; rw [g.scp]; exact hl) a3 a4) (by rw [g.nms, g.scp]; exact blkOk_by h1) (fold_plain h4) (fun env => fold_plain h4') h2 h2' (ownN_snd _ _) hv (ia _ h5 X W g) (fun s H C cl' fp => tgk_ok g h3 s H C cl' fp) (fun s H C cl' fp => one_ok (W := fun _ _ _ _ => False) hb (g.blk s H _ C cl' fp) ib h6) (fun s H C cl' fp => ic _ h7 _ _ (g.blk s H _ C cl' fp)) (fun s H C cl' fp => tgk_ok g h3' s H C cl' fp) (fun s H C cl' fp => one_ok hp (g.blk s H _ C cl' fp) ip h8) (fun s H C cl' fp => iq _ h9 _ _ (g.blk s H _ C cl' fp))
  · cases h
theorem swaps_cell {e : Expr} {x : Str} {p : Pos} {l : Nat} {env : Env} (h : env.kindOf x ≠ some .local) : swapsWith e (some (.Name x p)) l env = pure false := by
  have : (env.kindOf x == some NameKind.local) = false := by simpa using h
  cases e <;> first | rfl | skip
  all_goals
    show (pure (env.blockKind == ScopeKind.function && env.kindOf x == some NameKind.local && _ && _) : Sem Bool) = pure false
    rw [this]
    simp
theorem so_set (i : Nat) (kk : Bool) (ia : ∀ ro, fa ro = true → So Γ P w K mg base cl k da ro) (ro : Ro) (h : m_set Γ i kk fa ro = true) : So Γ P w K mg base cl k (dSet i kk da) ro := by
  unfold m_set at h
  split at h
  · simp only [Bool.and_eq_true, Bool.or_eq_true, Bool.not_eq_true'] at h
    intro X W g B
    obtain ⟨h1, h2, h3⟩ := stoB_ok g (f := _) (fun x _ => B.fns x) h.1.1
    refine s_set (by rw [g.nms]; exact g.nd) h1 h2 ?_ h3 (ia _ h.2 X W g)
    rcases h.1.2 with q | q
    · exact swaps_plain q
    · refine swaps_cell fun z => ?_
      have z : X.env.scope.names.lookup _ = _ := z
      rw [g.scp] at z
      unfold isLoc at q
      rw [z] at q
      cases q
  · cases h
theorem so_setT (t : Tg) (ia : ∀ ro, fa ro = true → So Γ P w K mg base cl k da ro) (ro : Ro) (h : m_setT Γ t fa ro = true) : So Γ P w K mg base cl k (dSetT t da) ro := by
  unfold m_setT at h
  split at h
  · rename_i sc tg ex pos
    simp only [Bool.and_eq_true, Bool.not_eq_true'] at h
    obtain ⟨⟨⟨⟨h1, h2⟩, h3⟩, h4⟩, h5⟩ := h
    intro X W g B
    refine s_setT (sole_plain h3) ?_ (asgEach_one ?_) (ia _ h5 X W g) (tgB_ok g (fun x _ => B.fns x) h2)
    · rw [Bool.or_eq_true, Bool.or_eq_true, Bool.not_eq_true'] at h4
      rcases h4 with (h4 | h4) | h4
      · exact swapped_plain (.inl h4)
      · exact swapped_fold h4
      · exact swapped_cell g.scp h4
    · cases tg <;> first | rfl | (simp [isTup] at h1)
  · cases h
theorem so_par (ts : List Nat) (ia : ∀ ro, fa ro = true → So Γ P w K mg base cl k da ro) (ro : Ro) (h : m_par Γ fa ts ro = true) : So Γ P w K mg base cl k (dPar ts da) ro := by
  unfold m_par at h
  split at h
  · simp only [Bool.and_eq_true] at h
    obtain ⟨⟨⟨h1, h2⟩, h3⟩, h4⟩ := h
    intro X W g B
    have h1 := dec_ok h1
    have h2 := dec_ok h2
    have hw := fun kt k2 pt pt2 => swap2_ok (kt := kt) (k2 := k2) (pt := pt) (pt2 := pt2) g.scp B.fk h3
    unfold swB2 at h3
    simp only [Bool.and_eq_true, decide_eq_true_eq, Bool.not_eq_true', beq_iff_eq] at h3
    obtain ⟨⟨⟨⟨⟨⟨⟨c1, c2⟩, c3⟩, c4⟩, c5⟩, c6⟩, c7⟩, c8⟩ := h3
    refine s_par2 g.cal (by rw [g.nms]; exact g.nd) (by rw [g.nms]; exact h1) (by rw [g.nms]; exact h2) (fun z => ?_) (by rw [g.scp]; exact isLoc_ok c1) (by rw [g.scp]; exact isLoc_ok c2) (hw _ _ _ _) (sole_plain rfl) (ia _ h4 X W g)
    subst z
    rw [h1] at h2
    exact c4 (Option.some.inj h2)
  · simp only [Bool.and_eq_true] at h
    obtain ⟨⟨⟨⟨h1, h2⟩, h2'⟩, h3⟩, h4⟩ := h
    intro X W g B
    have h1 := dec_ok h1
    have h2 := dec_ok h2
    have h2' := dec_ok h2'
    have hw := fun kt k2 pt pt2 => swap3_ok (kt := kt) (k2 := k2) (pt := pt) (pt2 := pt2) g.scp B.fk h3
    unfold swB3 at h3
    simp only [Bool.and_eq_true, decide_eq_true_eq, Bool.not_eq_true', beq_iff_eq] at h3
    obtain ⟨⟨⟨⟨⟨⟨⟨⟨⟨⟨⟨⟨c1, c2⟩, c0⟩, c3⟩, c3'⟩, c4⟩, c4'⟩, c4''⟩, c5⟩, c6⟩, c6'⟩, c7⟩, c8⟩ := h3
    refine s_par3 g.cal (by rw [g.nms]; exact g.nd) (by rw [g.nms]; exact h1) (by rw [g.nms]; exact h2) (by rw [g.nms]; exact h2') (fun z => ?_) (fun z => ?_) (fun z => ?_) (by rw [g.scp]; exact isLoc_ok c1) (by rw [g.scp]; exact isLoc_ok c2) (by rw [g.scp]; exact isLoc_ok c0) (hw _ _ _ _) (sole_plain rfl) (ia _ h4 X W g)
    · subst z; rw [h1] at h2; exact c4 (Option.some.inj h2)
    · subst z; rw [h1] at h2'; exact c4' (Option.some.inj h2')
    · subst z; rw [h2] at h2'; exact c4'' (Option.some.inj h2')
  · cases h
theorem so_app (i : Nat) (ia : ∀ ro, fa ro = true → So Γ P w K mg base cl k da ro) (ro : Ro) (h : m_app Γ i fa ro = true) : So Γ P w K mg base cl k (dApp i da) ro := by
  unfold m_app at h
  split at h
  · simp only [Bool.and_eq_true, decide_eq_true_eq] at h
    obtain ⟨⟨⟨⟨h1, h2⟩, h3⟩, h4⟩, h5⟩ := h
    subst h1
    intro X W g B
    obtain ⟨c1, c2, c3, c4⟩ := varB_ok g h2
    exact s_app c1 c2 c3 c4 rfl (few_one h4) h3 (starEach_cons h4) rfl h4 rfl (ia _ h5 X W g)
  · cases h
theorem so_ext (i : Nat) (ia : ∀ ro, fa ro = true → So Γ P w K mg base cl k da ro) (ro : Ro) (h : m_ext Γ i fa ro = true) : So Γ P w K mg base cl k (dExt i da) ro := by
  unfold m_ext at h
  split at h
  · simp only [Bool.and_eq_true, decide_eq_true_eq] at h
    obtain ⟨⟨⟨⟨h1, h2⟩, h3⟩, h4⟩, h5⟩ := h
    subst h1
    intro X W g B
    obtain ⟨c1, c2, c3, c4⟩ := varB_ok g h2
    exact s_ext c1 c2 c3 c4 rfl (few_one h4) h3 (starEach_cons h4) rfl h4 rfl (ia _ h5 X W g)
  · cases h
theorem so_six (i : Nat) (ia : ∀ ro, fa ro = true → So Γ P w K mg base cl k da ro) (ib : ∀ ro, fb ro = true → So Γ P w K mg base cl k db ro) (ro : Ro) (h : m_six Γ i fa fb ro = true) : So Γ P w K mg base cl k (dSix i da db) ro := by
  unfold m_six at h
  split at h
  · rename_i sc x xp y sp ex pos
    simp only [Bool.and_eq_true, Bool.not_eq_true'] at h
    obtain ⟨⟨⟨⟨h1, h2⟩, h3⟩, h4⟩, h5⟩ := h
    intro X W g B
    obtain ⟨c1, c2, c3, c4⟩ := varB_ok g h1
    refine s_six g.un c1 c2 c3 c4 (sole_plain h3) (swapped_plain (.inr ⟨fun _ _ _ z => (by cases z), fun _ _ z => (by cases z)⟩)) rfl ?_ (ia _ h4 X W g) (ib _ h5 X W g)
    intro v
    cases y <;> first | rfl | (simp [plainI] at h2)
  · cases h
theorem so_exp (ia : ∀ ro, fa ro = true → So Γ P w K mg base cl k da ro) (ro : Ro) (h : m_exp Γ fa ro = true) : So Γ P w K mg base cl k (dExp da) ro := by
  unfold m_exp at h
  split at h
  · simp only [Bool.and_eq_true, Bool.not_eq_true'] at h
    exact fun X W g B => s_exp (swaps_plain h.1) (ia _ h.2 X W g)
  · cases h
theorem so_ret (a : Ir) (ha : da = ev M a) (ia : ∀ ro, fa ro = true → So Γ P w K mg base cl k da ro) (ro : Ro) (h : m_ret Γ a fa ro = true) : So Γ P w K mg base cl k (dRet da) ro := by
  unfold m_ret at h
  split at h
  · exact fun X W g B => s_ret (ia _ h X W g)
  · subst ha
    unfold isNone at h
    split at h
    · exact fun X W g B => s_retN
    · cases h
  · cases h
theorem so_iff (ic : ∀ ro, fc ro = true → So Γ P w K mg base cl k dc ro) (ia : ∀ ro, fa ro = true → So Γ P w K mg base cl k da ro) (ib : ∀ ro, fb ro = true → So Γ P w K mg base cl k db ro) (ro : Ro) (h : m_iff Γ fc fa fb ro = true) : So Γ P w K mg base cl k (dIff dc da db) ro := by
  unfold m_iff at h
  split at h
  · simp only [Bool.and_eq_true] at h
    exact fun X W g B => s_iff (ic _ h.1.1 X W g) (ia _ h.1.2 X W g B) (ib _ h.2 X W g B)
  · cases h
theorem so_fr (t : Tg) (ia : ∀ ro, fa ro = true → So Γ P w K mg base cl k da ro) (ib : ∀ ro, fb ro = true → So Γ P w K mg base cl k db ro) (ro : Ro) (h : m_fr Γ t fa fb ro = true) : So Γ P w K mg base cl k (dFor t da db) ro := by
  unfold m_fr at h
  split at h
  · simp only [Bool.and_eq_true] at h
    exact fun X W g B => s_fr g.own g.cal (fold_plain h.1.1.1) (ia _ h.1.2 X W g) (tgB_ok g (fun x _ => B.fns x) h.1.1.2) (ib _ h.2 X W g B)
  · cases h
theorem so_grp (i : Nat) (t : Tg) (ia : ∀ ro, fa ro = true → So Γ P w K mg base cl k da ro) (ib : ∀ ro, fb ro = true → So Γ P w K mg base cl k db ro) (ic : ∀ ro, fc ro = true → So Γ P w K mg base cl k dc ro) (ro : Ro) (h : m_grp Γ i t fa fb fc ro = true) : So Γ P w K mg base cl k (dGrp i t da db dc) ro := by
  unfold m_grp at h
  split at h
  · simp only [Bool.and_eq_true, decide_eq_true_eq] at h
    obtain ⟨⟨⟨⟨⟨⟨h1, h2⟩, h3⟩, h4⟩, h5⟩, ⟨⟨h6, h7⟩, h8⟩⟩, ⟨⟨⟨⟨h9, h10⟩, h11⟩, h12⟩, h13⟩⟩ := h
    subst h1 h2
    intro X W g B
    obtain ⟨c1, c2, c3, c4⟩ := varB_ok g h6
    exact s_grp g.un g.own g.cal (fold_plain h3) c1 c2 c3 c4 h9 h10 h11 h7 h8 (ia _ h5 X W g) (tgB_ok g (fun x _ => B.fns x) h4) (ib _ h12 X W g) (ic _ h13 X W g)
  · cases h
theorem so_frw (n i : Nat) (t : Tg) (ib : ∀ ro, fb ro = true → So Γ P w K mg base cl k db ro) (ro : Ro) (h : m_frw Γ i t fb ro = true) : So Γ P w K mg base cl k (dFrw n i t db) ro := by
  unfold m_frw at h
  split at h
  · simp only [Bool.and_eq_true] at h
    intro X W g B
    obtain ⟨c1, c2, c3, c4⟩ := varB_ok g h.1.1
    exact s_frw g.own g.cal c1 c2 c3 c4 (tgB_ok g (fun x _ => B.fns x) h.1.2) (ib _ h.2 X W g B)
  · cases h
theorem so_whl (n : Nat) (ic : ∀ ro, fc ro = true → So Γ P w K mg base cl k dc ro) (ia : ∀ ro, fa ro = true → So Γ P w K mg base cl k da ro) (ro : Ro) (h : m_whl Γ fc fa ro = true) : So Γ P w K mg base cl k (dWhl n dc da) ro := by
  unfold m_whl at h
  split at h
  · simp only [Bool.and_eq_true] at h
    exact fun X W g B => s_whl g.own (ic _ h.1 X W g) (ia _ h.2 X W g B)
  · cases h
theorem so_rse (T : Top Γ P w K mg base cl M k) (c : Nat) (ia : ∀ ro, fa ro = true → So Γ P w K mg base cl k da ro) (ro : Ro) (h : m_rse Γ c fa ro = true) : So Γ P w K mg base cl k (dRse c da) ro := by
  unfold m_rse at h
  split at h
  · simp only [Bool.and_eq_true] at h
    obtain ⟨⟨⟨⟨h1, h2⟩, h3⟩, h4⟩, h5⟩ := h
    intro X W g B
    obtain ⟨D, fI, fd, j, c1, c2, c3, c4, c5, c6⟩ := T.rse c h2
    obtain ⟨g1, g2⟩ := g.gl h3
    have hm := T.cls c _ (dec_ok h1)
    obtain ⟨rfl, rfl, rfl, rfl, rfl⟩ : X.prog = P ∧ X.w = w ∧ X.K = K ∧ X.mg = mg ∧ X.base = base := ⟨g.prog, g.wrld, g.frag, g.glob, g.bas⟩
    exact s_rse g.cal g.tk c1 c2 c3 (c4 (L2N.CX X.prog X.w)) (g.room.mono c5) c6 (passF (CX := L2N.CX X.prog X.w) g.tk) g1 hm g2 (starEach_cons h4) rfl h4 (ia _ h5 X W g)
  · cases h
theorem so_tri (T : Top Γ P w K mg base cl M k) (Hh : HotOk Γ P w K mg base cl M k) (b : Ir) (s c : Nat) (hb : db = ev M b) (ia : ∀ ro, fa ro = true → So Γ P w K mg base cl k da ro) (ro : Ro) (h : m_tri Γ b s c fa fb ro = true) : So Γ P w K mg base cl k (dTry M s c da db) ro := by
  unfold m_tri at h
  split at h
  · simp only [Bool.and_eq_true] at h
    obtain ⟨⟨⟨⟨⟨h1, h2⟩, h3⟩, h4⟩, h5⟩, h6⟩ := h
    intro X W g B
    obtain ⟨g1, g2⟩ := g.gl h4
    have hm := T.cls c _ (dec_ok h3)
    subst hb
    obtain ⟨rfl, rfl, rfl, rfl, rfl⟩ : X.prog = P ∧ X.w = w ∧ X.K = K ∧ X.mg = mg ∧ X.base = base := ⟨g.prog, g.wrld, g.frag, g.glob, g.bas⟩
    exact s_try B.stk B.frm (by rw [g.nms]; exact g.nd) (by rw [g.nms]; exact dec_ok h1) (by show X.env.scope.names.lookup _ = _; rw [g.scp]; exact isLoc_ok h2) ⟨g1, g2, .inl hm⟩ g.tk (T.exm c _ (dec_ok h3)) (fun W' pn xe tk hp => ia _ h5 _ _ (g.tr tk hp) ⟨B.stk, B.frm, B.fns, B.fk⟩) (fun a oe cls d pn z hf => Hh b _ _ h6 X W g B a oe cls d pn z hf)
  · cases h
theorem so_brk (ro : Ro) (h : m_brk Γ ro = true) : So Γ P w K mg base cl k R.bk ro := by
  unfold m_brk at h
  split at h
  · exact fun X W g B => s_brk
  · cases h
theorem so_cnt (ro : Ro) (h : m_cnt Γ ro = true) : So Γ P w K mg base cl k R.ct ro := by
  unfold m_cnt at h
  split at h
  · exact fun X W g B => s_cnt
  · cases h
theorem so_skp (ro : Ro) (h : m_skp Γ ro = true) : So Γ P w K mg base cl k R.nx ro := by
  unfold m_skp at h
  split at h
  · exact fun X W g B => s_pass
  · exact fun X W g B => s_doc
  · exact fun X W g B => b_nil
  · cases h
theorem so_seq (ia : ∀ ro, fa ro = true → So Γ P w K mg base cl k da ro) (ib : ∀ ro, fb ro = true → So Γ P w K mg base cl k db ro) (ro : Ro) (h : m_seq Γ fa fb ro = true) : So Γ P w K mg base cl k (dSeq da db) ro := by
  unfold m_seq at h
  split at h
  · simp only [Bool.and_eq_true] at h
    exact fun X W g B => b_cons (ia _ h.1 X W g B) (ib _ h.2 X W g B)
  · cases h
end
end Ev
end

section
set_option Elab.async false
set_option linter.all false
set_option maxRecDepth 100000
set_option maxHeartbeats 4000000
namespace Ev
open PySem PySem.Spec PyProof.Rows L2
section
variable {Γ : Gm} {P : Program} {w : World} {K : PySem.W.Frag} {mg : Str → Option Value} {base : Heap} {cl : Nat → Addr} {M : Pm} {k : Nat}
/-- what fits the text is what the text does -/
theorem sound (T : Top Γ P w K mg base cl M k) (Hh : HotOk Γ P w K mg base cl M k) : ∀ (x : Ir) (ro : Ro), m Γ x ro = true → So Γ P w K mg base cl k (ev M x) ro
  | .var i => so_var i
  | .lit d => so_lit d
  | .gc g => so_gc T g
  | .tup a => so_tup (sound T Hh a)
  | .lst a => so_lst (sound T Hh a)
  | .nil => so_nil
  | .cons a b => so_cons (sound T Hh a) (sound T Hh b)
  | .star a b => so_star (sound T Hh a) (sound T Hh b)
  | .bin o a b => so_bin o (sound T Hh a) (sound T Hh b)
  | .neg a => so_neg (sound T Hh a)
  | .nt a => so_nt (sound T Hh a)
  | .an a b => so_an (sound T Hh a) (sound T Hh b)
  | .orr a b => so_orr (sound T Hh a) (sound T Hh b)
  | .ite c a b => so_ite (sound T Hh c) (sound T Hh a) (sound T Hh b)
  | .cmp o a b => so_cmp o (sound T Hh a) (sound T Hh b)
  | .ch2 o p a b c => so_ch2 o p (sound T Hh a) (sound T Hh b) (sound T Hh c)
  | .ix a b => so_ix (sound T Hh a) (sound T Hh b)
  | .sl a b c => so_sl (sound T Hh a) (sound T Hh b) (sound T Hh c)
  | .slL a b => so_slL (sound T Hh a) (sound T Hh b)
  | .slH a b => so_slH (sound T Hh a) (sound T Hh b)
  | .slA a => so_slA (sound T Hh a)
  | .rev a => so_rev (sound T Hh a)
  | .call f a => so_call T a f rfl (sound T Hh a)
  | .pick fs a b => so_pick T fs (sound T Hh a) (sound T Hh b)
  | .blt n a => so_blts T a n rfl (sound T Hh a)
  | .mtl n a b => so_mtl n (sound T Hh a) (sound T Hh b)
  | .join a b => so_join (sound T Hh a) (sound T Hh b)
  | .lc own t a b c => so_lc b own t rfl (sound T Hh a) (sound T Hh b) (sound T Hh c)
  | .itE a => so_itE (sound T Hh a)
  | .itL a => so_itL (sound T Hh a)
  | .itR a => so_itR T (sound T Hh a)
  | .itR2 a => so_itR2 T (sound T Hh a)
  | .itN a => so_itN T (sound T Hh a)
  | .itZ a => so_itZ T (sound T Hh a)
  | .set i k a => so_set i k (sound T Hh a)
  | .setL i k own t a b c => so_setL b i k own t rfl (sound T Hh a) (sound T Hh b) (sound T Hh c)
  | .setT t a => so_setT t (sound T Hh a)
  | .par ts a => so_par ts (sound T Hh a)
  | .app i a => so_app i (sound T Hh a)
  | .ext i a => so_ext i (sound T Hh a)
  | .six i a b => so_six i (sound T Hh a) (sound T Hh b)
  | .exp a => so_exp (sound T Hh a)
  | .ret a => so_ret a rfl (sound T Hh a)
  | .iff c a b => so_iff (sound T Hh c) (sound T Hh a) (sound T Hh b)
  | .fr t a b => so_fr t (sound T Hh a) (sound T Hh b)
  | .grp i t a b c => so_grp i t (sound T Hh a) (sound T Hh b) (sound T Hh c)
  | .frw i t b => so_frw M.fuel i t (sound T Hh b)
  | .whl c a => so_whl M.fuel (sound T Hh c) (sound T Hh a)
  | .rse c a => so_rse T c (sound T Hh a)
  | .tri s c a b => so_tri T Hh b s c rfl (sound T Hh a)
  | .brk => so_brk
  | .cnt => so_cnt
  | .seq a b => so_seq (sound T Hh a) (sound T Hh b)
  | .skp => so_skp
  | .lc2 own own1 t t1 a b c p q => so_lc2 b p own own1 t t1 rfl rfl (sound T Hh a) (sound T Hh b) (sound T Hh c) (sound T Hh p) (sound T Hh q)
  | .setL2 i k own own1 t t1 a b c p q => so_setL2 b p i k own own1 t t1 rfl rfl (sound T Hh a) (sound T Hh b) (sound T Hh c) (sound T Hh p) (sound T Hh q)
  | .isi .. => fun ro h => by cases h
  | .xat .. => fun ro h => by cases h
  | .callX .. => fun ro h => by cases h
  | .tt => fun ro h => by cases h
  | .mut n i a => so_mut n i (sound T Hh a)
end
end Ev
end

section
set_option Elab.async false
set_option linter.all false
set_option maxRecDepth 100000
set_option maxHeartbeats 4000000
namespace Ev
open PySem PySem.Spec PyProof.Rows L2
/-! ## a def keeps its promise -/
section
variable {Γ : Gm} {P : Program} {w : World} {K : PySem.W.Frag} {mg : Str → Option Value} {base : Heap} {cl : Nat → Addr} {M : Pm} {k : Nat}
theorem def_ok {x qual : Str} {st : Stmt} {f : Addr} {fd : FuncData} {ps : List Str} {body : Ir} (T : Top Γ P w K mg base cl M k) (Hh : HotOk Γ P w K mg base cl M k) (Fn : Fun K x qual st f fd) (S : FnScope Γ.N ps (defScope st)) (hps : ps.length ≤ Γ.N.length)
    (hm : m Γ body (.b (defScope st) (defBody st)) = true) :
    FnG P w K mg base (L2N.CX P w) (k + 1) f fd ps (spF ⟨K, noPx, w⟩ cl (fun sl => fin sl (ev M body (sl ++ List.replicate (Γ.N.length - sl.length) .no))) ps.length) := by
  obtain ⟨oc, od, kV, doc, pm, an, cdv, ct, osl, rfl, lk, hcd⟩ := Fn.ex
  refine fnG_of lk hcd S (fun _ _ _ _ h => h.1) fun A outer s H vs Q E hr gd ⟨hl, F, sl, r, nol, p⟩ => ⟨tS ⟨K, noPx, w⟩ cl (fun cls d _ H' => E cls d H') (ev M body), ?_, F, _, r.start (by rw [hl]; exact hps), fin_ok r (by rw [hl]; exact hps) nol p⟩
  refine sound T Hh body _ hm _ _ ⟨rfl, rfl, rfl, rfl, rfl, rfl, rfl, S.nd, rfl, L2N.takes_of rfl rfl rfl rfl, L2.passes_of rfl, hr, gd⟩ ⟨rfl, rfl, fun _ => rfl, ?_⟩
  show Env.blockKind (envOfC qual (defScope st) s.heap.objs.size f cdv) = .function
  have hk : (envOfC qual (defScope st) s.heap.objs.size f cdv).scope.kind = .function := S.kind
  unfold Env.blockKind
  rw [hk]
  rfl
end
/-! ## the law's call -/
theorem law_callG {P : Program} {w : World} {K : PySem.W.Frag} {mg mb : Str → Option Value} {CX : CXT} {k : Nat} {fa a : Addr} {sp : Sp} {s₁ : Shared} {vs : List Value} {ns : List Int}
    (KX : K.In s₁.heap) (hns : s₁.heap.Ns mainGlobals mg) (hb : s₁.heap.Ns builtinsNs mb) (hbb : ∀ x : Str, x ≠ "__name__" → mb x = bootBuiltins x) (hlim : s₁.heap.NoLimit) (hg : s₁.gens = #[])
    (ha : s₁.heap.get? a = some { cls := .type "list", data := .seq vs.toArray }) (hi : IntsAre vs ns) (hl : ns.length ≤ sizeLine) (hr : Room k callerA)
    (F : ∀ base : Heap, K.In base → base.Ns mainGlobals mg → ∃ (fd : FuncData) (x : Str), FnG P w K mg base CX k fa fd [x] sp ∧ ∀ (s : Shared) (u : Value), K.In s.heap → BindsTo s fd ⟨[u], []⟩ [(x, u)])
    (hsp : ∀ H : Hp, Only H → SqS K H a (ns.map V.int) → sp [.ref a] H (fun v _ => v = .bl true) fun _ _ _ => False)
    (hCX : ∀ H e s', CX [] H s₁ (fun _ _ _ => False) e s' → False) :
    codeAny (model P w) callerA (.call (.ref fa) ⟨[.ref a], []⟩) (fun r s' => r = .ok (.ret (.bool true)) ∧ OldK s₁.heap s'.heap ∧ s'.os = s₁.os ∧ AllBare s'.gens) s₁ := by
  suffices main : ∀ H : Hp, Only H → SqS K H a (ns.map V.int) → HOk P w H s₁.heap → (∀ b u, H b = some u → b = a ∧ K.lookup a = none) →
      codeAny (model P w) callerA (.call (.ref fa) ⟨[.ref a], []⟩) (fun r s' => r = .ok (.ret (.bool true)) ∧ OldK s₁.heap s'.heap ∧ s'.os = s₁.os ∧ AllBare s'.gens) s₁ by
    cases hk : K.lookup a with
    | some o =>
      have e := KX a o hk
      rw [ha] at e
      cases e
      exact main (fun _ => none) (fun _ => .inl rfl) (.inr ⟨vs, _, hk, by rw [hi.length]; exact hl, vals_ints hi⟩) (fun b u z => by cases (show (none : Option HO) = some u from z)) fun b u z => by cases (show (none : Option HO) = some u from z)
    | none =>
      have pick : ∀ b u, (if b = a then some (HO.frz { cls := .type "list", data := .seq vs.toArray } (.lst (ns.map V.int))) else none) = some u → b = a ∧ u = .frz { cls := .type "list", data := .seq vs.toArray } (.lst (ns.map V.int)) := fun b u z => by
        split at z
        · exact ⟨by assumption, (Option.some.inj z).symm⟩
        · cases z
      refine main (fun b => if b = a then some (.frz { cls := .type "list", data := .seq vs.toArray } (.lst (ns.map V.int))) else none) (fun b => ?_) (.inl (.inr ⟨_, if_pos rfl⟩)) (fun b u z => ?_) fun b u z => ⟨(pick b u z).1, hk⟩
      · by_cases e : b = a
        · exact .inr ⟨_, _, if_pos e⟩
        · exact .inl (if_neg e)
      · obtain ⟨rfl, rfl⟩ := pick b u z
        exact ⟨ha, by rw [List.length_map]; exact hl, vs, _, vals_ints hi, ha⟩
  intro H hO hS hok hA
  -- what stands outside H stands in the ground
  have dn : ∀ {b : Addr} {o : Obj}, s₁.heap.get? b = some o → (∀ xs n, o.data ≠ .seq xs n) → H b = none := fun {b o} e d => by
    cases q : H b with
    | none => rfl
    | some u =>
      obtain ⟨rfl, _⟩ := hA b u q
      rw [ha] at e
      cases e
      exact absurd rfl (d _ _)
  have ground : ∀ {b : Addr} {nm : Str → Option Value}, s₁.heap.Ns b nm → (hidT s₁.heap H).Ns b nm := fun {b nm} ⟨o, es, ep, e, d, r⟩ => ⟨o, es, ep, hidT_get e (dn e fun xs n z => by rw [d] at z; cases z), d, r⟩
  have inB : K.In (hidT s₁.heap H) := fun b o e => hidT_get (KX b o e) (by
    cases q : H b with
    | none => rfl
    | some u =>
      obtain ⟨rfl, h⟩ := hA b u q
      rw [h] at e; cases e)
  obtain ⟨mc, l1, l2⟩ := hlim
  have env : Env0 P w K mg (hidT s₁.heap H) callerA [] s₁ H := ⟨rfl, ⟨inB, ground hns, ⟨mb, ground hb, hbb⟩, ⟨mc, ground l1, l2⟩⟩, fun b o e => of_hidT e, Nat.le_of_eq (hidT_size _ _), trivial, fun b h => absurd h List.not_mem_nil, hok, .of_eq hg⟩
  obtain ⟨fd, x, F', hbind⟩ := F _ inB (ground hns)
  refine codeAny_mono (F'.run callerA [] s₁ H ⟨[.ref a], []⟩ [.ref a] [.ref a] _ _ hr rfl env (hbind s₁ (.ref a) KX) (.cons rfl .nil) (hsp H hO hS)) fun r s' h => ?_
  match r, h with
  | .error e, h => exact (hCX H e s' h).elim
  | .ok .next, h => exact h.elim
  | .ok .brk, h => exact h.elim
  | .ok .cont, h => exact h.elim
  | .ok (.ret u), h =>
    obtain ⟨v, H', os, bare, un, hok', rv, (rfl : v = .bl true)⟩ := h
    obtain rfl : u = Value.bool true := rv
    refine ⟨rfl, OldK.of_keep fun b o e => ?_, os, bare⟩
    rcases hO b with q | ⟨ob, xs, z⟩
    · exact un.keep b o e q (fun z => absurd z List.not_mem_nil) List.not_mem_nil
    · obtain ⟨e1, _⟩ := hok b _ z
      obtain ⟨e2, _⟩ := hok' b _ (un.frzs b ob _ z)
      rw [e] at e1; cases e1
      exact e2
theorem walkG {l : PySem.W.OpenLaw} {n k : Nat} {q : Program} {loose : List Str} {XP : (Str → Option Value) → Heap → Prop} {YP : World → Heap → Prop} {d : DefRec} {K : Params → PySem.W.Frag} {CX : World → CXT} {sp : World → Sp}
    (hn : l.most = some n) (hn2 : n ≤ sizeLine) (hdf : d.params.defaults = []) (hr : Room k callerA) (hY : ∀ (w : World) (h : Heap), YP w h → (K w.params).In h)
    (F : ∀ (w : World) (mg : Str → Option Value) (fa : Addr) (h : Heap), (K w.params).In h → h.Ns mainGlobals mg → mg d.name = some (.ref fa) →
      ∀ base : Heap, (K w.params).In base → base.Ns mainGlobals mg → ∃ (fd : FuncData) (x : Str), FnG l.prog w (K w.params) mg base (CX w) k fa fd [x] (sp w) ∧ ∀ (s : Shared) (u : Value), (K w.params).In s.heap → BindsTo s fd ⟨[u], []⟩ [(x, u)])
    (hsp : ∀ (w : World) (H : Hp) (a : Addr) (ns : List Int), ns.length ≤ n → Only H → SqS (K w.params) H a (ns.map V.int) → sp w [.ref a] H (fun v _ => v = .bl true) fun _ _ _ => False)
    (hCX : ∀ (w : World) (H : Hp) (s : Shared) (e : Value) (s' : Shared), CX w [] H s (fun _ _ _ => False) e s' → False) :
    PySem.W.WalkO q loose XP YP l.row.toRowW d [] (fun f vs => PySem.call f vs) := by
  refine Att.attach_call hn hdf fun w s₀ s₁ mg mb fa o pm cd doc a vs ns G Y ho hd hcd hmg hobj hints hlen hg => ?_
  exact law_callG (hY w _ Y) G.T.g G.T.b G.T.builtins G.T.nolimit hg hobj hints (Nat.le_trans hlen hn2) hr (F w mg fa _ (hY w _ Y) G.T.g hmg) (fun H hO hS => hsp w H a ns hlen hO hS) fun H e s' => hCX w H s₁ e s'
end Ev
end

section
set_option Elab.async false
set_option linter.all false
set_option maxRecDepth 100000
set_option maxHeartbeats 4000000
namespace Ev
open PySem PySem.Spec PyProof.Rows L2
/-! ## the module's defs, all at once -/
/-- a def of the module as it stands in the text -/
structure DefAt (fns : List Str) (Γ : Nat → Gm) (G : Pg) (K : PySem.W.Frag) (mg : Str → Option Value) (f : Nat) (x : Str) : Prop where
  ex : ∃ (fa : Addr) (fd : FuncData) (ps : List Str) (st : Stmt) (d : Df), Fun K x x st fa fd ∧ FnScope (Γ f).N ps (defScope st) ∧ ps.length ≤ (Γ f).N.length ∧ G.defs[f]? = some d ∧ d.size = (Γ f).N.length ∧ d.lens.length = ps.length ∧
    m (Γ f) d.body (.b (defScope st) (defBody st)) = true ∧ mg x = some (.ref fa) ∧ Binds K fd ps []
/-- what of a module does not hang on its defs -/
structure Base (Γ : Gm) (P : Program) (w : World) (K : PySem.W.Frag) (mg : Str → Option Value) (base : Heap) (cl : Nat → Addr) (G : Pg) : Prop where
  cls : ∀ c x, Γ.cls[c]? = some x → mg x = some (.ref (cl c))
  rse : ∀ c, Γ.rse.contains c = true → ∃ (D fI : Addr) (fd : FuncData), ClsI K D (cl c) ∧ PySem.W.findIn K (.ref (cl c)) "__init__" = some (some (.ref fI)) ∧ PySem.W.typeIn K (.ref fI) = some (.type "function") ∧ (∀ CX, FnOk P w K mg base CX 1 fI fd ["self", "at"] (spI K D)) ∧ Binds K fd ["self", "at"] []
  gc : ∀ g x, Γ.gcs[g]? = some x → ∃ v u, mg x = some u ∧ RelV v u ∧ ∀ px, Rep ⟨K, px, w⟩ (fun _ => False) (fun _ => none) v (G.gc g)
  free : ∀ x, Γ.free.contains x = true → mg x = none
  gcd : Γ.gcd = true → mg "gcd" = some (.builtin "math.gcd")
  exm : ∀ c x, Γ.cls[c]? = some x → ∀ c' b, G.sub c' c = some b → PySem.W.exmOne K (.ref (cl c')) (.ref (cl c)) = some b
section
variable {fns : List Str} {Γ : Nat → Gm} {G : Pg} {P : Program} {w : World} {K : PySem.W.Frag} {mg : Str → Option Value} {base : Heap} {cl : Nat → Addr}
/-- every def's run is its promise -/
theorem run_ok (hd : ∀ f x, fns[f]? = some x → DefAt fns Γ G K mg f x) (hf : ∀ f, (Γ f).fns = fns) (hb : ∀ f, f < fns.length → Base (Γ f) P w K mg base cl G)
    (hh : ∀ f k, f < fns.length → HotOk (Γ f) P w K mg base cl (G.pm (run G k)) (k + 2)) :
    ∀ (k f : Nat) (x : Str), fns[f]? = some x → ∃ (fa : Addr) (fd : FuncData) (ps : List Str), FnG P w K mg base (L2N.CX P w) (k + 2) fa fd ps (spF ⟨K, noPx, w⟩ cl (run G k f) ps.length) ∧ (G.lens f).length = ps.length ∧ mg x = some (.ref fa) ∧ PySem.W.keepIn K (.ref fa) = true ∧ Binds K fd ps []
  | 0, f, x, h => by
    obtain ⟨fa, fd, ps, st, d, h1, h2, h3, h4, h5, h6, h7, h8, h9⟩ := (hd f x h).ex
    refine ⟨fa, fd, ps, ⟨fun _ _ _ _ z => z.1, fun _ _ _ _ _ _ _ _ _ _ _ _ _ _ ⟨_, _, _, _, _, p⟩ => p.elim⟩, ?_, h8, h1.kp, h9⟩
    unfold Pg.lens
    rw [h4]; exact h6
  | k + 1, f, x, h => by
    have ih := run_ok hd hf hb hh k
    obtain ⟨fa, fd, ps, st, d, h1, h2, h3, h4, h5, h6, h7, h8, h9⟩ := (hd f x h).ex
    have hlt : f < fns.length := (List.getElem?_eq_some_iff.mp h).1
    have B := hb f hlt
    have T : Top (Γ f) P w K mg base cl (G.pm (run G k)) (k + 2) := {
      fn := fun g y hy => by
        rw [hf] at hy
        exact ih g y hy
      cls := B.cls
      rse := fun c hc => by
        obtain ⟨D, fI, fd', c1, c2, c3, c4, c5⟩ := B.rse c hc
        exact ⟨D, fI, fd', 1, c1, c2, c3, c4, by omega, c5⟩
      gc := B.gc
      free := B.free
      gcd := B.gcd
      exm := B.exm }
    refine ⟨fa, fd, ps, ?_, ?_, h8, h1.kp, h9⟩
    · have D := def_ok T (hh f k hlt) h1 h2 h3 h7
      have e : run G (k + 1) f = fun sl => fin sl (ev (G.pm (run G k)) d.body (sl ++ List.replicate ((Γ f).N.length - sl.length) .no)) := by
        funext sl
        show (match G.defs[f]? with
          | some d => fin sl (ev (G.pm (run G k)) d.body (sl ++ List.replicate (d.size - sl.length) Sl.no))
          | none => CR.bad) = _
        rw [h4]
        dsimp only
        rw [h5]
      rw [e]
      exact D
    · unfold Pg.lens
      rw [h4]; exact h6
theorem reps {kx : Kx} {F : As} {H : Hp} : ∀ (ns : List Int), RepL kx F H (ns.map V.int) (ns.map PyData.int)
  | [] => .nil
  | n :: ns => .cons (.int n) (reps ns)
theorem sh_noown {d : PyData} {σ : L2.St} {i : Nat} {a : Addr} (h : OwnAt [.sh d] σ i a) : False := by
  obtain ⟨⟨l, k, x, g⟩, _⟩ := h
  cases i with
  | zero => cases g
  | succ i => cases i <;> cases g
/-- the law's argument -/
theorem start_law {H : Hp} {a : Addr} {ns : List Int} {px : Addr → Nat → Addr → Prop} (h : SqS K H a (ns.map V.int)) : ∃ F, Rel ⟨K, px, w⟩ F [.sh (.list (ns.map PyData.int))] [some (.ref a)] H := by
  have fin : ∀ {F : As}, (∀ b, F b → H b ≠ none) → Rep ⟨K, px, w⟩ F H (.ref a) (.list (ns.map PyData.int)) → Rel ⟨K, px, w⟩ F [.sh (.list (ns.map PyData.int))] [some (.ref a)] H := fun dm rp =>
    ⟨rfl, dm, fun i => by
      cases i with
      | zero => exact ⟨_, rfl, rp⟩
      | succ i => cases i <;> trivial, fun i j b h1 _ => (sh_noown h1).elim⟩
  rcases h with h | h
  · refine ⟨fun b => b = a, fin (fun b e => ?_) (.lst rfl h (reps ns))⟩
    subst e
    rcases h with h | ⟨o, h⟩ <;> rw [h] <;> simp
  · exact ⟨fun _ => False, fin (fun _ e => e.elim) (.klst h (reps ns))⟩
theorem start_spF {M : List Sl → CR} {H : Hp} {a : Addr} {ns : List Int} (h : SqS K H a (ns.map V.int)) (e : M [.sh (.list (ns.map PyData.int))] = .ret (.d (.bool true)) [.no]) :
    spF ⟨K, noPx, w⟩ cl M 1 [.ref a] H (fun v _ => v = .bl true) fun _ _ _ => False := by
  obtain ⟨F, r⟩ := start_law (px := noPx) h
  refine ⟨rfl, F, _, r, fun j l k x g => ?_, ?_⟩
  · cases j with
    | zero => cases g
    | succ j => cases j <;> cases g
  · rw [e]
    intro F' H' z r' f v n
    cases (show Rep _ _ _ z (.bool true) from v)
    rfl
end
end Ev
end

section
set_option Elab.async false
set_option linter.all false
set_option maxRecDepth 100000
set_option maxHeartbeats 4000000
namespace Ev
open PySem PySem.Spec PyProof.Rows L2 HotX
/-! ## ends of iterators while an exception is handled -/
section
variable {prog : Program} {w : World} {A : Around} {E : Value → Shared → Prop} {s : Shared}
/-- the last look changes the iterator (it lets its list go), the exception that is handled stands -/
theorem hot_set {x1 it : Addr} {f : Obj → Obj} (hot : HotAt A x1 s.heap) (hn : x1 ≠ it) : HotAt A x1 (s.heap.update it f) := by
  obtain ⟨hh, o, vs, h, d, c⟩ := hot
  exact ⟨hh, o, vs, by rw [Heap.get?_update_other _ _ (Ne.symm hn)]; exact h, d, c⟩
theorem list_end_hot {it l x1 : Addr} {i : Nat} {items} {Q : Option Value → Shared → Prop} (hot : HotAt A x1 s.heap) (hn : x1 ≠ it)
    (hit : s.heap.IsListIter it l i) (hl : s.heap.IsList l items) (hx : items[i]? = none)
    (hQ : ∀ h', Heap.ExtBut it s.heap h' → Q none { s with heap := h' }) : wpAny (model prog w) A (pyNext (.ref it)) Q E s := by
  obtain ⟨o, ho, hc, hd⟩ := id hit
  obtain ⟨ol, hol, _, nl, hdl⟩ := hl
  unfold pyNext
  refine wpAny_bind (wpAny_attempt (wpAny_callSpecial?_slot (name := Str.ofString "__next__") hit.typeIs slot_listiter_next
    (wpAny_call_entry slot_listiter_next hit.typeIs entry_listiter_next ?_ (args_listiter_next _))))
  show wpAny _ _ (field (.ref it) 0 >>= _) _ _ s
  refine wpAny_bind (wpAny_field ho hd (x := .ref l) rfl ?_)
  show wpAny _ _ (if (Value.ref l == Value.none) = true then _ else _) _ _ s
  rw [if_neg (show ¬ ((Value.ref l == Value.none) = true) from Bool.false_ne_true)]
  show wpAny _ _ (field (.ref it) 1 >>= _) _ _ s
  refine wpAny_bind (wpAny_field ho hd (x := .int i 0) rfl ?_)
  show wpAny _ _ (seqItems? (.ref l) >>= _) _ _ s
  refine wpAny_bind (wpAny_seqItems hol hdl ?_)
  simp only [Int.toNat_natCast, hx]
  refine wpAny_bind (wpAny_rule (wpAny_bind (wpAny_setField ho hd (by simp) ?_)))
  obtain ⟨hh, o1, vs1, h1, d1, c1⟩ := hot_set (f := Obj.mapFields (·.setIfInBounds 0 Value.none)) hot hn
  show wpAny _ _ (newExc (.type "StopIteration") [] >>= _) _ _ _
  refine wpAny_bind ?_
  simp only [newExc, newTuple]
  refine wpAny_bind (wpAny_newObj_type ?_ (by size_fits))
  refine wpAny_bind (m := firstArgMember _ _) (wpAny_of_eq (a := Value.none) (by first | rfl | (simp only [firstArgMember]; rfl)) ?_)
  refine wpAny_newObj_type ?_ (by size_fits)
  refine raiseNew_hot ⟨hh, o1, vs1, Heap.get?_push_of_some _ (Heap.get?_push_of_some _ h1), d1, c1⟩ (Nat.ne_of_lt (Heap.lt_size (Heap.get?_push_of_some _ h1))) (Heap.get?_push_size _ rfl) rfl (by first | (simp; done) | (simp; omega) | (simp only [Array.size_append]; simp; omega)) ?_
  refine wpAny_bind (wpAny_isInstance (T := "StopIteration") (b := true) ⟨_, Heap.get?_update_self _ (Heap.get?_push_size _ rfl) rfl, rfl⟩ isSubtype_stop ?_)
  refine wpAny_pure (hQ _ fun b o hb e => ?_)
  have e1 := Heap.SameBut.update s.heap it (Obj.mapFields (·.setIfInBounds 0 Value.none))
  have e2 := e1.extBut b o hb e
  rw [Heap.get?_update_other _ _ (Nat.ne_of_gt (Heap.lt_size (Heap.get?_push_of_some _ e2)))]
  exact Heap.get?_push_of_some _ (Heap.get?_push_of_some _ e2)
theorem tup_end_hot {it l x1 : Addr} {i : Nat} {items} {Q : Option Value → Shared → Prop} (hot : HotAt A x1 s.heap) (hn : x1 ≠ it)
    (hit : IsTupIter s.heap it l i) (hl : IsTup s.heap l items) (hx : items[i]? = none)
    (hQ : ∀ h', Heap.ExtBut it s.heap h' → Q none { s with heap := h' }) : wpAny (model prog w) A (pyNext (.ref it)) Q E s := by
  obtain ⟨o, ho, hc, hd⟩ := id hit
  obtain ⟨ol, hol, _, nl, hdl⟩ := hl
  unfold pyNext
  refine wpAny_bind (wpAny_attempt (wpAny_callSpecial?_slot (name := Str.ofString "__next__") hit.typeIs slot_tupleiter_next
    (wpAny_call_entry slot_tupleiter_next hit.typeIs entry_tupleiter_next ?_ (args_tupleiter_next _))))
  show wpAny _ _ (field (.ref it) 0 >>= _) _ _ s
  refine wpAny_bind (wpAny_field ho hd (x := .ref l) rfl ?_)
  show wpAny _ _ (if (Value.ref l == Value.none) = true then _ else _) _ _ s
  rw [if_neg (show ¬ ((Value.ref l == Value.none) = true) from Bool.false_ne_true)]
  show wpAny _ _ (field (.ref it) 1 >>= _) _ _ s
  refine wpAny_bind (wpAny_field ho hd (x := .int i 0) rfl ?_)
  show wpAny _ _ (seqItems? (.ref l) >>= _) _ _ s
  refine wpAny_bind (wpAny_seqItems hol hdl ?_)
  simp only [Int.toNat_natCast, hx]
  refine wpAny_bind (wpAny_rule (wpAny_bind (wpAny_setField ho hd (by simp) ?_)))
  obtain ⟨hh, o1, vs1, h1, d1, c1⟩ := hot_set (f := Obj.mapFields (·.setIfInBounds 0 Value.none)) hot hn
  show wpAny _ _ (newExc (.type "StopIteration") [] >>= _) _ _ _
  refine wpAny_bind ?_
  simp only [newExc, newTuple]
  refine wpAny_bind (wpAny_newObj_type ?_ (by size_fits))
  refine wpAny_bind (m := firstArgMember _ _) (wpAny_of_eq (a := Value.none) (by first | rfl | (simp only [firstArgMember]; rfl)) ?_)
  refine wpAny_newObj_type ?_ (by size_fits)
  refine raiseNew_hot ⟨hh, o1, vs1, Heap.get?_push_of_some _ (Heap.get?_push_of_some _ h1), d1, c1⟩ (Nat.ne_of_lt (Heap.lt_size (Heap.get?_push_of_some _ h1))) (Heap.get?_push_size _ rfl) rfl (by first | (simp; done) | (simp; omega) | (simp only [Array.size_append]; simp; omega)) ?_
  refine wpAny_bind (wpAny_isInstance (T := "StopIteration") (b := true) ⟨_, Heap.get?_update_self _ (Heap.get?_push_size _ rfl) rfl, rfl⟩ isSubtype_stop ?_)
  refine wpAny_pure (hQ _ fun b o hb e => ?_)
  have e1 := Heap.SameBut.update s.heap it (Obj.mapFields (·.setIfInBounds 0 Value.none))
  have e2 := e1.extBut b o hb e
  rw [Heap.get?_update_other _ _ (Nat.ne_of_gt (Heap.lt_size (Heap.get?_push_of_some _ e2)))]
  exact Heap.get?_push_of_some _ (Heap.get?_push_of_some _ e2)
theorem HotAt.keep {x1 a : Addr} {h h' : Heap} (hot : HotAt A x1 h) (k : Heap.ExtBut a h h') (n : x1 ≠ a) : HotAt A x1 h' := by
  obtain ⟨hh, o, vs, e, d, c⟩ := hot
  exact ⟨hh, o, vs, k _ _ n e, d, c⟩
theorem items_hot {t x1 : Addr} {items : Array Value} {Q : List Value → Shared → Prop} (hot : HotAt A x1 s.heap) (ht : IsTup s.heap t items)
    (hQ : ∀ h', Heap.ExtBut s.heap.objs.size s.heap h' → Q items.toList { s with heap := h' }) : wpAny (model prog w) A (unpackItems (.ref t) items.size none) Q E s := by
  have nt : t ≠ s.heap.objs.size := by obtain ⟨o, ho, _⟩ := ht; exact Nat.ne_of_lt (Heap.lt_size ho)
  have nx : x1 ≠ s.heap.objs.size := by obtain ⟨_, o, _, ho, _⟩ := hot; exact Nat.ne_of_lt (Heap.lt_size ho)
  unfold unpackItems
  refine wpAny_bind ?_
  · unfold notIterableAtAll
    refine wpAny_bind (wpAny_specialOf ht.typeIs slot_tuple_iter.lookup ?_)
    refine wpAny_pure ?_
    simp only [Bool.false_eq_true, if_false]
    refine wpAny_bind (wpAny_holding (iter_tuple ht ?_))
    refine wpAny_bind (wpAny_holding (draw_tuple nt items.size 0 _ _ ⟨_, Heap.get?_push_size _ rfl, rfl, rfl⟩ (ht.push _) (by omega) fun h₁ hit₁ hs₁ => ?_))
    have all : List.take items.size (List.drop 0 items.toList) = items.toList := by
      rw [List.drop_zero]; exact List.take_of_length_le (by simp)
    rw [all]
    rw [if_neg (by simp)]
    have k1 : Heap.ExtBut s.heap.objs.size s.heap h₁ := fun b o hb e => hs₁.extBut b o hb (Heap.get?_push_of_some _ e)
    refine wpAny_bind (wpAny_holding (tup_end_hot (HotAt.keep hot k1 nx) nx hit₁ ((ht.push _).extBut hs₁.extBut nt) (by simp) fun h₂ k2 => ?_))
    simp only [Option.isSome_none, Bool.false_eq_true, if_false]
    exact wpAny_pure (hQ h₂ fun b o hb e => k2 b o hb (k1 b o hb e))
theorem assign_hot {env : Env} {elts : List Expr} {k} {pos : Pos} {t x1 : Addr} {items : Array Value} {Q : Unit → Shared → Prop} (hot : HotAt A x1 s.heap) (ht : IsTup s.heap t items)
    (hn : (assignEach elts env).length = items.size) (hstar : (assignEach elts env).findIdx? (·.1) = none)
    (h : ∀ h', Heap.ExtBut s.heap.objs.size s.heap h' → wpAny (model prog w) A (assignInOrder ((assignEach elts env).map (·.2)) items.toList) Q E { s with heap := h' }) :
    wpAny (model prog w) A (assign (.Tuple elts k pos) env (.ref t)) Q E s := by
  rw [assign_Tuple]
  refine wpAny_bind (wpAny_standAt ?_)
  unfold unpack
  rw [hn, hstar]
  exact wpAny_bind (wpAny_holding (items_hot hot ht h))
theorem litems_hot {t x1 : Addr} {items : Array Value} {Q : List Value → Shared → Prop} (hot : HotAt A x1 s.heap) (ht : s.heap.IsList t items)
    (hQ : ∀ h', Heap.ExtBut s.heap.objs.size s.heap h' → Q items.toList { s with heap := h' }) : wpAny (model prog w) A (unpackItems (.ref t) items.size none) Q E s := by
  have nt : t ≠ s.heap.objs.size := by obtain ⟨o, ho, _⟩ := ht; exact Nat.ne_of_lt (Heap.lt_size ho)
  have nx : x1 ≠ s.heap.objs.size := by obtain ⟨_, o, _, ho, _⟩ := hot; exact Nat.ne_of_lt (Heap.lt_size ho)
  unfold unpackItems
  refine wpAny_bind ?_
  · unfold notIterableAtAll
    refine wpAny_bind (wpAny_specialOf ht.typeIs slot_list_iter.lookup ?_)
    refine wpAny_pure ?_
    simp only [Bool.false_eq_true, if_false]
    refine wpAny_bind (wpAny_holding (wpAny_pyIter_list ht ?_))
    refine wpAny_bind (wpAny_holding (PySem.W.kun_draw nt items.size 0 _ _ ⟨_, Heap.get?_push_size _ rfl, rfl, rfl⟩ (ht.push _) (by omega) fun h₁ hit₁ hs₁ => ?_))
    have all : List.take items.size (List.drop 0 items.toList) = items.toList := by
      rw [List.drop_zero]; exact List.take_of_length_le (by simp)
    rw [all]
    rw [if_neg (by simp)]
    have k1 : Heap.ExtBut s.heap.objs.size s.heap h₁ := fun b o hb e => hs₁.extBut b o hb (Heap.get?_push_of_some _ e)
    refine wpAny_bind (wpAny_holding (list_end_hot (HotAt.keep hot k1 nx) nx hit₁ ((ht.push _).extBut hs₁.extBut nt) (by simp) fun h₂ k2 => ?_))
    simp only [Option.isSome_none, Bool.false_eq_true, if_false]
    exact wpAny_pure (hQ h₂ fun b o hb e => k2 b o hb (k1 b o hb e))
end
end Ev
end

section
set_option Elab.async false
set_option linter.all false
set_option maxRecDepth 100000
set_option maxHeartbeats 4000000
namespace Ev
open PySem PySem.Spec PyProof.Rows L2 HotX
/-! ## list comprehensions while an exception is handled (the library's road, PyProof of HandS.Comp, with the end of the iterator hot) -/
def HotS (A : Around) (s : Shared) : Prop := ∃ x1, HotAt A x1 s.heap
/-- hot throughout -/
def HotB (X : Cx) : Prop := ∀ (pins : List (Addr × Obj)) (σ : L2.St) (H : Hp) (s : Shared), L2.Inv X pins σ H s → HotS X.A s
structure TurnS (P : Program) (w : World) (K : PySem.W.Frag) (tg : Expr) (J : It) (fp : List Addr) (it : Addr) (tn : Nat → Heap → Prop) : Prop where
  mem : it ∈ fp
  obj : ∀ i h, tn i h → ∀ b ∈ fp, ∃ o, h.get? b = some o ∧ ∀ v, o.data ≠ .cell v
  keep : ∀ i h h', tn i h → (∀ b ∈ fp, ∀ o, h.get? b = some o → h'.get? b = some o) → tn i h'
  item : ∀ (X : Cx), X.prog = P → X.w = w → X.K = K → ∀ (i : Nat) (pins : List (Addr × Obj)) (s : Shared) (σ : L2.St) (H : Hp) (E : Value → Shared → Prop), HotS X.A s → Inv X pins σ H s → (∀ b ∈ fp, FpOk X pins H b) → tn i s.heap → J.go i H →
    wpAny (model P w) X.A (pyNext (.ref it)) (fun r s1 => ∃ u, r = some u ∧
      wpAny (model P w) X.A (letOwnedTupleGo tg (.ref it) u) (fun _ s2 => ∃ x H', Inv X pins σ H' s2 ∧ RelV x u ∧ J.yld i H x H' ∧ tn (i + 1) s2.heap ∧ ∀ b ∈ fp, H' b = none) E s1) E s
  done : ∀ (X : Cx), X.prog = P → X.w = w → X.K = K → ∀ (i : Nat) (pins : List (Addr × Obj)) (s : Shared) (σ : L2.St) (H : Hp) (E : Value → Shared → Prop), HotS X.A s → Inv X pins σ H s → (∀ b ∈ fp, FpOk X pins H b) → tn i s.heap → J.stop i H →
    wpAny (model P w) X.A (pyNext (.ref it)) (fun r s1 => r = none ∧ Inv X pins σ H s1) E s
  self : ∀ (A : Around) (i : Nat) (s : Shared) (Q : Value → Shared → Prop) (E : Value → Shared → Prop), tn i s.heap → Q (.ref it) s → wpAny (model P w) A (pyIter (.ref it)) Q E s
def PIES (X : Cx) (pins : List (Addr × Obj)) (σ : L2.St) (tg : Expr) (R : It → Hp → Prop) (itv : Value) (s2 : Shared) : Prop :=
  ∃ (it : Addr) (fp : List Addr) (tn : Nat → Heap → Prop) (J : It) (H' : Hp), itv = .ref it ∧ Inv X pins σ H' s2 ∧ TurnS X.prog X.w X.K tg J fp it tn ∧ tn 0 s2.heap ∧ (∀ b ∈ fp, FpOk X pins H' b) ∧ R J H'
structure PIS (X : Cx) (tg iter : Expr) (wi : TI) : Prop where
  run : ∀ (pins : List (Addr × Obj)) (s : Shared) (σ : L2.St) (H : Hp) (R : It → Hp → Prop), Inv X pins σ H s → wi σ H R →
    wpAny (model X.prog X.w) X.A (eval iter X.env) (fun v s1 => wpAny (model X.prog X.w) X.A (pyIter v) (PIES X pins σ tg R) X.xe s1) X.xe s
theorem turnS_list {P : Program} {w : World} {K : PySem.W.Frag} {tg : Expr} (a it : Addr) : TurnS P w K tg (Itl K a) [it] it (fun i h => h.IsListIter it a i) where
  mem := (turn_list (P := P) (w := w) (K := K) (tg := tg) a it).mem
  obj := (turn_list (P := P) (w := w) (K := K) (tg := tg) a it).obj
  keep := (turn_list (P := P) (w := w) (K := K) (tg := tg) a it).keep
  item := by
    intro X hP hw hK i pins s σ H E _ I hf st hg
    subst hP hw hK
    obtain ⟨xs, x, hq, hx⟩ := hg
    obtain ⟨its, rv, p, hz⟩ := I.list hq
    obtain ⟨u, hu, ru⟩ := rv.get hx
    obtain ⟨f0, f1, f2, f3, f4, f5⟩ := hf it (by simp)
    refine wpAny_pyNext_list_item st p.isList (x := u) (by simpa using hu) fun h' st' sb => ?_
    have I1 : Inv X pins σ H { s with heap := h' } := I.turned (t' := s.toks) (fun b o hb e => (sb.2 b hb).trans e) f0 f1 f3 f4 f5
    obtain ⟨o, e, c, d⟩ := id st'
    exact ⟨u, rfl, go_of (s := { s with heap := h' }) e c d (by decide) ⟨x, H, I1, ru, ⟨rfl, fun ys hy => by rw [I.list_inj hy hq]; exact hx⟩, st', fun b hb => (hf b hb).1⟩⟩
  done := by
    intro X hP hw hK i pins s σ H E ⟨x1, hot⟩ I hf st hg
    subst hP hw hK
    obtain ⟨xs, hq, hx⟩ := hg
    obtain ⟨its, rv, p, hz⟩ := I.list hq
    obtain ⟨f0, f1, f2, f3, f4, f5⟩ := hf it (by simp)
    have hl := rv.length
    have nx : x1 ≠ it := fun z => by
      obtain ⟨_, o1, vs1, h1, d1, c1⟩ := hot
      obtain ⟨o, e, c, d⟩ := id st
      rw [z, e] at h1
      cases h1
      rw [d] at d1
      cases d1
      cases c1
    exact list_end_hot hot nx st p.isList (by simp; omega) fun h' eb => ⟨rfl, I.turned (t' := s.toks) (fun b o hb e => eb b o hb e) f0 f1 f3 f4 f5⟩
  self := (turn_list (P := P) (w := w) (K := K) (tg := tg) a it).self
section
variable {X : Cx}
theorem lcS {pins : List (Addr × Obj)} {s : Shared} {σ : L2.St} {H : Hp} {Q : VK} {elt tg iter : Expr} {ifs : List Expr} {scope : Scope} {own : List (Str × Nat)} {pos pos' : Pos} {wi : TI} {g : TG} {tt : TT} {te : TE} {use : Option (Value → Sem Unit)} {Qf : Value → Shared → Prop}
    (hh : L2H.HotC X) (hN : X.N.Nodup) (I : Inv X pins σ H s) (hi : PIS X tg iter wi) (ok : BlkOk X.N X.env.scope scope own)
    (hg : ∀ (s : Shared) (H : Hp) (C : Addr) (cl : List (Str × Addr)) (fp : List Addr), HotB (X.blk s H scope (compEnvC scope cl C X.env) fp) → PG (X.blk s H scope (compEnvC scope cl C X.env) fp) tg g) (ht : ∀ (s : Shared) (H : Hp) (C : Addr) (cl : List (Str × Addr)) (fp : List Addr), PTs (X.blk s H scope (compEnvC scope cl C X.env) fp) ifs tt)
    (he : ∀ (s : Shared) (H : Hp) (C : Addr) (cl : List (Str × Addr)) (fp : List Addr), PE (X.blk s H scope (compEnvC scope cl C X.env) fp) elt te) (hs : ∀ x, foldedSetIterable iter X.env x = pure x)
    (h : tLc wi g tt te (own.map (·.2)) σ H Q)
    (hRR : ∀ D C s' m H', Inv X pins σ H' s' → Q (.ref D) H' → s'.heap.Ns C m → FpOk X pins H' C → compPost (model X.prog X.w) X.A X.xe use Qf (.ref D) C (.ok .next) s') :
    wpAny (model X.prog X.w) X.A (comprehension (.ListComp elt [⟨tg, iter, ifs, 0⟩] scope pos) scope X.env pos' (newList []) false (eval iter X.env) use) Qf X.xe s := by
  have hfree : ∀ y ∈ scope.names, y.2 = .free → ∃ c, X.env.cells.lookup y.1 = some c := fun y hy e => by
    rcases ok.free y hy e with k | k
    · exact I.ok.has _ (.inl k)
    · exact I.ok.has _ (.inr k)
  refine wpAny_comprehension_free (use := use) rfl hs (closure_ok hfree) ok.kind (fun y hy e => by rw [ok.uniq y hy, e])
    (thn (hi.run pins s σ H _ I h) fun xv s1 hx => thn hx fun itv s2 h2 => ?_)
  obtain ⟨it, fp, tn, J, H2, e, I2, T, st2, f2, q⟩ := h2
  subst e
  refine wpAny_newObj_type (newEnv_comp ?_) (by show 0 ≤ sizeLine; decide)
  generalize hD : s2.heap.objs.size = D
  have hDn : H2 D = none := I2.hok.fresh (Nat.le_of_eq hD)
  obtain ⟨W, ⟨m0, w0⟩, turn⟩ := q D hDn
  -- the new list
  generalize hs3 : ({ s2 with heap := s2.heap.push { cls := .type "list", data := .seq ([] : List Value).toArray } } : Shared) = s3
  have I3 : Inv X pins σ (upd H2 D (.lst [])) s3 := by
    rw [← hs3]
    refine I2.laid (t' := s2.toks) (fun b o e => Heap.get?_push_of_some _ e) (Nat.le_of_eq hD) ⟨Nat.zero_le _, [], 0, .nil, ?_⟩
    rw [← hD]
    exact Heap.get?_push_size _ rfl
  have h3 : s3.heap = s2.heap.push { cls := .type "list", data := .seq ([] : List Value).toArray } := by rw [← hs3]
  have sz : ∀ b ∈ fp, b < s2.heap.objs.size := fun b hb => by
    obtain ⟨o, e, _⟩ := T.obj _ _ st2 b hb
    exact Heap.lt_size e
  have f3 : ∀ b ∈ fp, FpOk X pins (upd H2 D (.lst [])) b ∧ b < s3.heap.objs.size := fun b hb => by
    have hlt := sz b hb
    refine ⟨⟨?_, (f2 b hb).2⟩, by rw [h3, Heap.size_push]; exact Nat.lt_succ_of_lt hlt⟩
    rw [upd_ne (by rw [← hD]; exact Nat.ne_of_lt hlt)]
    exact (f2 b hb).1
  have st3 : tn 0 s3.heap := T.keep _ _ _ st2 fun b _ o e => by rw [h3]; exact Heap.get?_push_of_some _ e
  have I4 := block_start I3 ok hN f3
  have hot0 : ∀ (env : Env), HotB (X.blk s3 (upd H2 D (.lst [])) scope env fp) := fun env pins' σ' H' s' I' => by
    obtain ⟨p, ⟨ph, v1, e1, c1⟩, hp⟩ := hh
    have P1 := I3.pin p (List.mem_append_left _ hp)
    refine ⟨p.1, ph, p.2, v1, I'.base.keep p.1 p.2 P1.1 P1.2.1 (fun hm => (List.mem_cons.mp (I3.stkSub p.1 hm)).elim P1.2.2.1 P1.2.2.2.1) (fun hm => ?_), e1, c1⟩
    exact (f3 p.1 hm).1.2.2.2.2.2 p (List.mem_append_left _ hp) rfl
  have pg := hg s3 (upd H2 D (.lst [])) s3.heap.objs.size (cellsFrom (s3.heap.objs.size + 1) scope.names (cloFrom X.env.cells scope.names [])) fp (hot0 _)
  have pt := ht s3 (upd H2 D (.lst [])) s3.heap.objs.size (cellsFrom (s3.heap.objs.size + 1) scope.names (cloFrom X.env.cells scope.names [])) fp
  have pe := he s3 (upd H2 D (.lst [])) s3.heap.objs.size (cellsFrom (s3.heap.objs.size + 1) scope.names (cloFrom X.env.cells scope.names [])) fp
  show codeAny _ _ (.compStart (.ListComp elt [⟨tg, iter, ifs, 0⟩] scope pos) 0 (.ref it) (.ref D) (compEnvC scope (cellsFrom (s3.heap.objs.size + 1) scope.names (cloFrom X.env.cells scope.names [])) s3.heap.objs.size X.env)) (compPost (model X.prog X.w) X.A X.xe use Qf (.ref D) s3.heap.objs.size) { s3 with heap := pushCells (s3.heap.push { cls := .type "dict", data := .dict #[] }) scope.names }
  have nfp : ∀ b ∈ fp, (upd H2 D (.lst [])) b = none := fun b hb => (f3 b hb).1.1
  generalize hce : compEnvC scope (cellsFrom (s3.heap.objs.size + 1) scope.names (cloFrom X.env.cells scope.names [])) s3.heap.objs.size X.env = ce at I4 pg pt pe ⊢
  have cL : ce.locals = s3.heap.objs.size := by subst hce; rfl
  generalize hH3 : upd H2 D (.lst []) = H3 at I3 I4 pg pt pe w0 nfp f3
  generalize hs4 : ({ s3 with heap := pushCells (s3.heap.push { cls := .type "dict", data := .dict #[] }) scope.names } : Shared) = s4 at I4 ⊢
  have st4 : tn 0 s4.heap := T.keep _ _ _ st3 fun b _ o e => by rw [← hs4]; exact pushCells_keeps _ _ _ _ (Heap.get?_push_of_some _ e)
  have stat : ∀ {σ' : L2.St} {H' : Hp} {s' : Shared}, Inv (X.blk s3 H3 scope ce fp) [] σ' H' s' → (∀ b ∈ fp, H' b = none) → ∀ b ∈ fp, FpOk (X.blk s3 H3 scope ce fp) [] H' b := fun {σ' H' s'} I' hn b hb =>
    ⟨hn b hb, (I'.ok.exf b hb).1, I'.ok.exfs b hb, .inl hb, fun x c e => (I'.ok.exf b hb).2 x c e, fun p hp => absurd (show p ∈ ([] : List (Addr × Obj)) ++ [] from hp) (by simp)⟩
  have hot4 : ∀ {σ' : L2.St} {H' : Hp} {s' : Shared}, Inv (X.blk s3 H3 scope ce fp) [] σ' H' s' → HotS X.A s' := fun {σ' H' s'} I' => by
    obtain ⟨p, ⟨ph, v1, e1, c1⟩, hp⟩ := hh
    have P1 := I3.pin p (List.mem_append_left _ hp)
    refine ⟨p.1, ph, p.2, v1, I'.base.keep p.1 p.2 P1.1 P1.2.1 (fun hm => (List.mem_cons.mp (I3.stkSub p.1 hm)).elim P1.2.2.1 P1.2.2.2.1) (fun hm => ?_), e1, c1⟩
    exact (f3 p.1 hm).1.2.2.2.2.2 p (List.mem_append_left _ hp) rfl
  have loop : codeAny (model X.prog X.w) X.A (.compLoop (.ListComp elt [⟨tg, iter, ifs, 0⟩] scope pos) 0 (.ref it) (.ref D) ce) (compPost (model X.prog X.w) X.A X.xe use Qf (.ref D) s3.heap.objs.size) s4 := by
    refine compLoop_any (fun n s' => ∃ i H', Inv (X.blk s3 H3 scope ce fp) [] (wipe σ (own.map (·.2))) H' s' ∧ tn i s'.heap ∧ (∀ b ∈ fp, H' b = none) ∧ W i n H') ?_ m0 ⟨0, H3, I4, st4, nfp, w0⟩
    rintro n s5 ⟨i, H5, I5, st5, n5, w5⟩
    rcases turn i n H5 w5 with ⟨stop, qq⟩ | ⟨go, Nx, hNx, step⟩
    · have td := T.done (X.blk s3 H3 scope ce fp) rfl rfl rfl i [] s5 _ H5 (fun _ _ => False) (hot4 I5) I5 (stat I5 n5) st5 stop
      refine thnF td fun r s6 ⟨hr, I6⟩ => ?_
      subst hr
      -- back in the def's context
      have I7 : Inv X pins σ H5 s6 := I3.call' (ch := fp) I6.os I6.base I6.hok I6.bare fun b hb => ⟨(f3 b hb).1.2.2.2.1, (f3 b hb).1.2.1, (f3 b hb).1.2.2.2.2.1, (f3 b hb).1.2.2.2.2.2⟩
      have nC : H5 s3.heap.objs.size = none := by
        have z : H5 ce.locals = none := I6.free
        rw [cL] at z
        exact z
      obtain ⟨m, hn, _⟩ := I6.loc
      have hn : s6.heap.Ns ce.locals m := hn
      rw [cL] at hn
      exact hRR D s3.heap.objs.size s6 m H5 I7 qq hn (I3.fpOk (Nat.le_refl _) nC)
    · have ti := T.item (X.blk s3 H3 scope ce fp) rfl rfl rfl i [] s5 _ H5 (fun _ _ => False) (hot4 I5) I5 (stat I5 n5) st5 go
      refine thnF ti fun r s6 ⟨u, hr, h6⟩ => ?_
      subst hr
      refine thnF h6 fun _ s7 ⟨x, H7, I7, r7, y7, st7, n7⟩ => ?_
      have I7' := I7.pinned (stat I7 n7) (T.obj _ _ st7)
      refine thnF (pg.run _ s7 _ H7 x u _ I7' r7 (step x H7 y7)) fun _ s8 ⟨σ8, H8, I8, hw8, q8⟩ => ?_
      refine thnF (pt.run _ s8 σ8 H8 _ I8 q8) fun b s9 ⟨H9, I9, q9⟩ => ?_
      -- the turn's end
      have fin : ∀ {s' : Shared} {H' : Hp}, Inv (X.blk s3 H3 scope ce fp) ([] ++ pinsAt fp s7.heap) σ8 H' s' → Nx H' → ∃ m, m < n ∧ ∃ i H', Inv (X.blk s3 H3 scope ce fp) [] (wipe σ (own.map (·.2))) H' s' ∧ tn i s'.heap ∧ (∀ b ∈ fp, H' b = none) ∧ W i m H' := fun {s' H'} I' nx => by
        obtain ⟨m', hm, w'⟩ := hNx H' nx
        have pin' : ∀ b ∈ fp, ∀ o, s7.heap.get? b = some o → s'.heap.get? b = some o ∧ H' b = none := fun b hb o e =>
          let z := I'.pin (b, o) (List.mem_append_right _ (List.mem_append_right _ (mem_pinsAt hb e)))
          ⟨z.1, z.2.1⟩
        have hl : (wipe σ (own.map (·.2))).length = σ8.length := by rw [← hw8, wipe_length]
        refine ⟨m', hm, i + 1, H', (I'.unpinned (pins := [])).weak hl (fun j v e => ?_), T.keep _ _ _ st7 fun b hb o e => (pin' b hb o e).1, fun b hb => ?_, w'⟩
        · rw [← hw8] at e
          exact (wipe_some e).1
        · obtain ⟨o, e, _⟩ := T.obj _ _ st7 b hb
          exact (pin' b hb o e).2
      cases b with
      | false =>
        simp only [Bool.false_eq_true, if_false] at q9 ⊢
        exact fin I9 q9
      | true =>
        simp only [if_true] at q9 ⊢
        refine thnF (pe.run _ s9 σ8 H9 _ I9 q9) fun z s10 ⟨yv, H10, I10, r10, acc, hD10, hz10, nx⟩ => ?_
        exact app_ok (X := X.blk s3 H3 scope ce fp) I10 hD10 hz10 r10 fun s11 I11 => fin I11 nx
  exact codeAny_compStart_list loop (T.self X.A 0 _ _ _ st4 loop)

theorem pe_lcS {elt tg iter : Expr} {ifs : List Expr} {scope : Scope} {own : List (Str × Nat)} {pos : Pos} {wi : TI} {g : TG} {tt : TT} {te : TE} (hh : L2H.HotC X) (hN : X.N.Nodup) (hi : PIS X tg iter wi) (ok : BlkOk X.N X.env.scope scope own)
    (hg : ∀ (s : Shared) (H : Hp) (C : Addr) (cl : List (Str × Addr)) (fp : List Addr), HotB (X.blk s H scope (compEnvC scope cl C X.env) fp) → PG (X.blk s H scope (compEnvC scope cl C X.env) fp) tg g) (ht : ∀ (s : Shared) (H : Hp) (C : Addr) (cl : List (Str × Addr)) (fp : List Addr), PTs (X.blk s H scope (compEnvC scope cl C X.env) fp) ifs tt)
    (he : ∀ (s : Shared) (H : Hp) (C : Addr) (cl : List (Str × Addr)) (fp : List Addr), PE (X.blk s H scope (compEnvC scope cl C X.env) fp) elt te) (hs : ∀ x, foldedSetIterable iter X.env x = pure x) :
    PE X (.ListComp elt [⟨tg, iter, ifs, 0⟩] scope pos) (tLc wi g tt te (own.map (·.2))) := by
  refine ⟨fun pins s σ H Q I h => ?_⟩
  rw [eval_ListComp]
  refine lcS hh hN I hi ok hg ht he hs h fun D C s' m H' I' q hn f => ⟨m, hn, fun h'' sb => ?_⟩
  obtain ⟨f0, f1, f2, f3, f4, f5⟩ := f
  exact ⟨.ref D, H', I'.turned (t' := s'.toks) (fun b o hb e => (sb.2 b hb).trans e) f0 f1 f3 f4 f5, rfl, q⟩
theorem pg_tupS {es : List Expr} {k : Nat} {t : TGs} {n : Nat} {pos : Pos} (hh : HotB X) (h : PGs X es t) (hn : (assignEach es X.env).length = n) (hst : (assignEach es X.env).findIdx? (·.1) = none) : PG X (.Tuple es k pos) (gTup X.K n t) := by
  refine ⟨fun pins s σ H v u Q I r ⟨a, xs, e1, hq, hl, hw⟩ => ?_⟩
  subst e1
  cases r
  obtain ⟨x1, hot⟩ := hh pins σ H s I
  obtain ⟨its, rv, ht, hz⟩ := I.tuple hq
  refine assign_hot hot ht (by simp [hn, ← hl, rv.length]) hst fun h' hx => ?_
  exact h.run pins _ σ H xs _ Q (I.kept (t' := s.toks) fun b o e => hx b o (Nat.ne_of_lt (Heap.lt_size e)) e) (by simpa using rv) hw
theorem pg_unlS {es : List Expr} {k : Nat} {t : TGs} {n : Nat} {pos : Pos} (hh : HotB X) (h : PGs X es t) (hn : (assignEach es X.env).length = n) (hst : (assignEach es X.env).findIdx? (·.1) = none) : PG X (.Tuple es k pos) (gUnl X.K n t) := by
  refine ⟨fun pins s σ H v u Q I r ⟨a, xs, e1, hq, hl, hw⟩ => ?_⟩
  subst e1
  cases r
  obtain ⟨x1, hot⟩ := hh pins σ H s I
  obtain ⟨its, rv, pl, hz⟩ := I.list hq
  have il : s.heap.IsList a its.toArray := by
    obtain ⟨o, m, e, c, d, q⟩ := pl
    exact ⟨o, e, c, m, q⟩
  have hn' : (assignEach es X.env).length = its.toArray.size := hn.trans (hl.symm.trans (rv.length.trans (by simp)))
  rw [PyProof.Rows.assign_Tuple]
  refine wpAny_bind (wpAny_standAt ?_)
  unfold unpack
  rw [hn', hst]
  refine wpAny_bind (wpAny_holding (litems_hot hot il fun h' hx => ?_))
  exact h.run pins _ σ H xs _ Q (I.kept (t' := s.toks) fun b o e => hx b o (Nat.ne_of_lt (Heap.lt_size e)) e) (by simpa using rv) hw
theorem g_tupS {px : Addr → Nat → Addr → Prop} {ts : List Tg} {es : List Expr} {k : Nat} {pos : Pos} (hh : HotB X) (hn : (assignEach es X.env).length = ts.length) (hst : (assignEach es X.env).findIdx? (·.1) = none) (h : PGs X es (tGs ⟨X.K, px, X.w⟩ ts)) : PG X (.Tuple es k pos) (tG ⟨X.K, px, X.w⟩ (.tp ts)) := by
  refine ⟨fun pins s σ H v u Q I rv ⟨F, e, x, r, rp, p⟩ => ?_⟩
  cases x <;> simp only [asg] at p
  case tuple xs =>
    cases q : asgs ts xs e with
    | none => rw [q] at p; exact p.elim
    | some e1 =>
      rw [q] at p
      obtain ⟨a, vs, rfl, hs, rl⟩ := (Pk.rep rp).tuple
      exact (pg_tupS hh h hn hst).run pins s σ H _ u Q I rv ⟨a, vs, rfl, hs, by rw [rl.length]; exact asgs_length q, F, e, xs, r, rl, by rw [q]; exact p⟩
  case list xs =>
    cases q : asgs ts xs e with
    | none => rw [q] at p; exact p.elim
    | some e1 =>
      rw [q] at p
      obtain ⟨a, vs, rfl, hs, rl⟩ := (Pk.rep rp).list
      exact (pg_unlS hh h hn hst).run pins s σ H _ u Q I rv ⟨a, vs, rfl, hs.sqL, by rw [rl.length]; exact asgs_length q, F, e, xs, r, rl, by rw [q]; exact p⟩
  all_goals exact p.elim
theorem pis_list {tg l : Expr} {tl : TE} (hl : PE X l tl) : PIS X tg l (iList X.K tl) := by
  refine ⟨fun pins s σ H R I h => ?_⟩
  refine thn (hl.run pins s σ H _ I h) fun v s1 ⟨x, H1, I1, r1, a, e, ⟨xs, hq⟩, q⟩ => ?_
  subst e
  cases r1
  obtain ⟨its, rv, p, hz⟩ := I1.list hq
  refine wpAny_pyIter_list p.isList ?_
  refine ⟨s1.heap.objs.size, [s1.heap.objs.size], _, _, H1, rfl, I1.kept (t' := s1.toks) fun b o e => Heap.get?_push_of_some _ e, turnS_list a _, ⟨_, Heap.get?_push_size _ rfl, rfl, rfl⟩, fun b hb => ?_, q⟩
  have e : b = s1.heap.objs.size := by simpa using hb
  subst e
  exact I1.fpOk (Nat.le_refl _) (I1.hok.fresh (Nat.le_refl _))
theorem s_itLS {px : Addr → Nat → Addr → Prop} {cl : Nat → Addr} {W : WX} {tg l : Expr} {fa : En → R} (ha : PE X l (tE ⟨X.K, px, X.w⟩ cl W fa)) : PIS X tg l (tI ⟨X.K, px, X.w⟩ cl W (dItL fa)) :=
  ⟨fun pins s σ H R I h => (pis_list ha).run pins s σ H R I (itL_ok h)⟩
theorem s_lcS {px : Addr → Nat → Addr → Prop} {cl : Nat → Addr} {W : WX} {own : List (Str × Nat)} {ids : List Nat} {t : Tg} {elt tg iter : Expr} {ifs : List Expr} {scope : Scope} {pos : Pos} {fa fc fe : En → R} (hh : L2H.HotC X) (hN : X.N.Nodup) (ok : BlkOk X.N X.env.scope scope own) (hs : ∀ x, foldedSetIterable iter X.env x = pure x) (hin : t.inn ids = true) (hid : own.map (·.2) = ids)
    (hi : PIS X tg iter (tI ⟨X.K, px, X.w⟩ cl W fa))
    (hg : ∀ (s : Shared) (H : Hp) (C : Addr) (cl : List (Str × Addr)) (fp : List Addr), HotB (X.blk s H scope (compEnvC scope cl C X.env) fp) → PG (X.blk s H scope (compEnvC scope cl C X.env) fp) tg (tG ⟨X.K, px, X.w⟩ t))
    (ht : ∀ (s : Shared) (H : Hp) (C : Addr) (cl' : List (Str × Addr)) (fp : List Addr), PTs (X.blk s H scope (compEnvC scope cl' C X.env) fp) ifs (tT ⟨X.K, px, X.w⟩ cl (fun _ _ _ _ => False) fc))
    (he : ∀ (s : Shared) (H : Hp) (C : Addr) (cl' : List (Str × Addr)) (fp : List Addr), PE (X.blk s H scope (compEnvC scope cl' C X.env) fp) elt (tE ⟨X.K, px, X.w⟩ cl (fun _ _ _ _ => False) fe)) :
    PE X (.ListComp elt [⟨tg, iter, ifs, 0⟩] scope pos) (tE ⟨X.K, px, X.w⟩ cl W (dLc ids t fa fc fe)) := by
  subst hid
  exact peI (pe_lcS hh hN hi ok hg ht he hs) (lc_turn hin)
end
end Ev
end

section
set_option Elab.async false
set_option linter.all false
set_option maxRecDepth 100000
set_option maxHeartbeats 4000000
namespace Ev
open PySem PySem.Spec PyProof.Rows L2 L2H
/-! ## a def that is called with the exception that is handled -/
abbrev kxp (K : PySem.W.Frag) (w : World) (cl : Nat → Addr) (p : Addr × Obj) : Kx := ⟨K, pxOf cl p.1 p.2.cls p.2.dict, w⟩
/-- what it promises; p: the exception as it stands -/
def spX (K : PySem.W.Frag) (w : World) (cl : Nat → Addr) (run : List Sl → CR) (p : Addr × Obj) (H : Hp) (Q : VK) (E : XK) : Prop :=
  ∃ F c x, Rel (kxp K w cl p) F [.ex c x] [some (.ref p.1)] H ∧ PoC (kxp K w cl p) cl F [.ex c x] [some (.ref p.1)] H Q E (run [.ex c x])
structure FnX (P : Program) (w : World) (K : PySem.W.Frag) (mg : Str → Option Value) (base : Heap) (k : Nat) (f : Addr) (fd : FuncData) (q : Str) (cl : Nat → Addr) (run : List Sl → CR) : Prop where
  run : ∀ (A : Around) (outer : List Env) (s : Shared) (H : Hp) (args : Args) (Q : VK) (E : XK) (p : Addr × Obj), RoomH k A → Hot1 A p → PinOk outer H s p → Env0 P w K mg base A outer s H → BindsTo s fd args [(q, .ref p.1)] → spX K w cl run p H Q E →
    codeAny (model P w) A (.call (.ref f) args) (L2.CR (L2N.CX P w) outer P w H s Q E) s
theorem fnX_of {P : Program} {w : World} {K : PySem.W.Frag} {mg : Str → Option Value} {base : Heap} {k : Nat} {f : Addr} {name qual : Str} {params : Arguments} {body : List Stmt} {scope : Scope} {dV kV doc pm cdv ct oc : Value} {an od : Option Addr}
    {osl : Array (Option Value)} {N : List Str} {q : Str} {cl : Nat → Addr} {run : List Sl → CR} (lk : K.lookup f = some ⟨oc, od, .func (PySem.W.fnOf name qual params body scope dV kV doc pm an cdv ct), osl⟩) (hcd : PySem.W.codeIn K cdv qual = true) (S : FnScope N [q] scope)
    (hbody : ∀ (A : Around) (outer : List Env) (s : Shared) (H : Hp) (Q : VK) (E : XK) (p : Addr × Obj), Hot1 A p → spX K w cl run p H Q E →
      ∃ t, PSs (cxH (L2N.CX P w) P w K mg base N qual scope f cdv A outer s H E p) body t ∧ t { nx := fun _ H' => Q .non H', rt := Q } (L2.start N [.ref p.1]) H) :
    FnX P w K mg base (k + 1) f (PySem.W.fnOf name qual params body scope dV kV doc pm an cdv ct) q cl run := by
  refine ⟨fun A outer s H args Q E p hr hot hpin e0 hb hsp => ?_⟩
  have inK : K.In s.heap := e0.mod.kin.keeps fun b o e => (e0.bs b o e).1
  have small : s.heap.NoLimit := e0.mod.nolimit.keeps fun b o e => (e0.bs b o e).1
  have kinds : ∀ y ∈ [q].zip [Value.ref p.1], scope.names.lookup y.1 = some .local ∨ (scope.names.lookup y.1 = some .cell ∧ ((cellsFrom (s.heap.objs.size + 1) scope.names []).lookup y.1).isSome = true) := by
    intro ⟨n, v⟩ hy
    refine (S.par n (List.of_mem_zip hy).1).imp id fun c => ⟨c, PySem.W.cellsFrom_some _ _ _ (.inl c)⟩
  refine codeAny_call_function hr.depth (inK _ _ lk) rfl S.co S.gen rfl (PySem.W.codeRec_of inK hcd) (hb _ _ _ _ ?_)
  refine wpAny_newFunctionEnv_cells S.kind kinds fun env he s1 x => ?_
  subst he
  refine ⟨small.keeps x.toInCall.keep, codeAny_func ?_⟩
  obtain ⟨t, ht, hq⟩ := hbody A outer s H Q E p hot hsp
  have rv : Vals [.ref p.1] [Value.ref p.1] := .cons rfl .nil
  refine wpAny_mono (ht.run [] s1 (L2.start N [.ref p.1]) H _ (inv_startH S hpin e0 rfl rv x) hq) (fun fl s' hs => ?_) fun e s' hs => hs
  cases fl with
  | ret u =>
    obtain ⟨v, σ', H', J, rv, q⟩ := hs
    exact ⟨v, H', J.os, J.bare, J.base, J.hok, rv, q⟩
  | next =>
    obtain ⟨σ', H', J, q⟩ := hs
    exact ⟨V.non, H', J.os, J.bare, J.base, J.hok, rfl, q⟩
  | brk => exact hs.elim fun _ h => h.elim fun _ h => h.2.elim
  | cont => exact hs.elim fun _ h => h.elim fun _ h => h.2.elim
/-! ## code in a suite, and in such a def -/
structure GoodH (Γ : Gm) (K : PySem.W.Frag) (mg : Str → Option Value) (cl : Nat → Addr) (M : Pm) (px : Addr → Nat → Addr → Prop) (X : Cx) (sc : Scope) : Prop where
  frag : X.K = K
  glob : X.mg = mg
  nms : X.N = Γ.N
  scp : X.env.scope = sc
  nd : Γ.N.Nodup
  hot : HotC X
  pxo : PxOk X cl px
def m_isi (Γ : Gm) (s c : Nat) : Ro → Bool
  | .e _ sc (.Call (.Name f _) [.Name x _, .Name y _] [] _) => decide (f = "isinstance") && glB sc f && Γ.free.contains f && varB Γ.N sc s x && decide (Γ.cls[c]? = some y) && glB sc y
  | _ => false
def m_xat (Γ : Gm) (s : Nat) : Ro → Bool
  | .e _ sc (.Attribute (.Name x _) nm _) => decide (nm = "at") && varB Γ.N sc s x
  | _ => false
/-- the parts of a comprehension's block: names alone -/
def mv (Γ : Gm) : Ir → Ro → Bool
  | .var i => m_var Γ i
  | _ => fun _ => false
def mh (Γ : Gm) : Ir → Ro → Bool
  | .var i => m_var Γ i
  | .lit d => m_lit Γ d
  | .tup a => m_tup Γ (mh Γ a)
  | .lst a => m_lst Γ (mh Γ a)
  | .nil => m_nil Γ
  | .cons a b => m_cons Γ (mh Γ a) (mh Γ b)
  | .bin o a b => m_bin Γ o (mh Γ a) (mh Γ b)
  | .join a b => m_join Γ (mh Γ a) (mh Γ b)
  | .isi s c => m_isi Γ s c
  | .xat s => m_xat Γ s
  | .itL a => m_itL Γ (mh Γ a)
  | .lc own t a b c => m_lc Γ b own t (mh Γ a) (mv Γ b) (mv Γ c)
  | .set i k a => m_set Γ i k (mh Γ a)
  | .ret a => m_ret Γ a (mh Γ a)
  | .seq a b => m_seq Γ (mh Γ a) (mh Γ b)
  | .skp => m_skp Γ
  | _ => fun _ => false
/-- module facts -/
structure TopH (Γ : Gm) (K : PySem.W.Frag) (mg : Str → Option Value) (cl : Nat → Addr) (M : Pm) : Prop where
  cls : ∀ c x, Γ.cls[c]? = some x → mg x = some (.ref (cl c))
  free : ∀ x, Γ.free.contains x = true → mg x = none
  kit : ∀ c x, Γ.cls[c]? = some x → ∀ c' b, M.sub c' c = some b → PySem.W.kitOne K (.ref (cl c')) (.ref (cl c)) = some b
section
variable {Γ : Gm} {K : PySem.W.Frag} {mg : Str → Option Value} {cl : Nat → Addr} {M : Pm}
def SoH (Γ : Gm) (K : PySem.W.Frag) (mg : Str → Option Value) (cl : Nat → Addr) (M : Pm) (f : En → R) : Ro → Prop
  | .e false sc ex => ∀ X W px, GoodH Γ K mg cl M px X sc → PE X ex (tE ⟨X.K, px, X.w⟩ cl W f)
  | .e true _ _ => True
  | .a sc es => ∀ X W px, GoodH Γ K mg cl M px X sc → PA X es (tA ⟨X.K, px, X.w⟩ cl W f)
  | .i sc tg it => ∀ X W px, GoodH Γ K mg cl M px X sc → PIS X tg it (tI ⟨X.K, px, X.w⟩ cl W f)
  | .s sc st => ∀ X W px, GoodH Γ K mg cl M px X sc → Body X → PS X st (tS ⟨X.K, px, X.w⟩ cl W f)
  | .b sc sts => ∀ X W px, GoodH Γ K mg cl M px X sc → Body X → PSs X sts (tS ⟨X.K, px, X.w⟩ cl W f)
theorem varH {X : Cx} {sc : Scope} (hn : X.N = Γ.N) (hs : X.env.scope = sc) {i : Nat} {x : Str} (h : varB Γ.N sc i x = true) : X.N[i]? = some x ∧ Vis X.env.scope x ∧ (x == ("__debug__" : Str)) = false ∧ (x == ("__classdict__" : Str)) = false := by
  unfold varB at h
  simp only [Bool.and_eq_true, atN, decide_eq_true_eq, Bool.not_eq_true'] at h
  exact ⟨by rw [hn]; exact h.1.1.1, by rw [hs]; exact visB_ok h.1.1.2, h.1.2, h.2⟩
theorem glH {X : Cx} {sc : Scope} (hs : X.env.scope = sc) {x : Str} (h : glB sc x = true) : Gl X x ∧ (x == ("__debug__" : Str)) = false := by
  obtain ⟨h1, h2⟩ := glB_ok h
  refine ⟨?_, h2⟩
  show X.env.scope.names.lookup x = _
  rw [hs]; exact h1
variable {fa fb fc : Ro → Bool} {da db dc : En → R}
theorem soh_var (i : Nat) (ro : Ro) (h : m_var Γ i ro = true) : SoH Γ K mg cl M (dVar i) ro := by
  unfold m_var at h
  split at h
  · rename_i t sc x p
    cases t with
    | true => trivial
    | false =>
      intro X W px g
      obtain ⟨h1, h2, h3, h4⟩ := varH g.nms g.scp h
      exact s_var h1 h2 h3 h4
  · cases h
theorem soh_lit (d : PyData) (ro : Ro) (h : m_lit Γ d ro = true) : SoH Γ K mg cl M (dLit d) ro := by
  unfold m_lit at h
  split at h
  · rename_i t sc c j p
    cases t with
    | true => trivial
    | false =>
      intro X W px g
      unfold litB at h
      split at h
      · cases dec_ok h; exact s_int
      · cases dec_ok h; exact s_bool
      · exact s_none
      · cases dec_ok h; exact s_str
      · cases h
  · cases h
theorem soh_tup (ia : ∀ ro, fa ro = true → SoH Γ K mg cl M da ro) (ro : Ro) (h : m_tup Γ fa ro = true) : SoH Γ K mg cl M (dTup da) ro := by
  unfold m_tup at h
  split at h
  · rename_i t sc es j p
    cases t with
    | true => trivial
    | false => exact fun X W px g => s_tup (ia _ h X W px g)
  · cases h
theorem soh_lst (ia : ∀ ro, fa ro = true → SoH Γ K mg cl M da ro) (ro : Ro) (h : m_lst Γ fa ro = true) : SoH Γ K mg cl M (dLst da) ro := by
  unfold m_lst at h
  split at h
  · rename_i t sc es p
    cases t with
    | true => trivial
    | false => exact fun X W px g => s_lst (ia _ h X W px g)
  · cases h
theorem soh_nil (ro : Ro) (h : m_nil Γ ro = true) : SoH Γ K mg cl M dNil ro := by
  unfold m_nil at h
  split at h
  · exact fun X W px g => s_nil
  · cases h
theorem soh_cons (ia : ∀ ro, fa ro = true → SoH Γ K mg cl M da ro) (ib : ∀ ro, fb ro = true → SoH Γ K mg cl M db ro) (ro : Ro) (h : m_cons Γ fa fb ro = true) : SoH Γ K mg cl M (dCons da db) ro := by
  unfold m_cons at h
  split at h
  · simp only [Bool.and_eq_true] at h
    exact fun X W px g => s_cons (ia _ h.1.2 X W px g) (ib _ h.2 X W px g) h.1.1
  · cases h
theorem soh_bin (o : Bop) (ia : ∀ ro, fa ro = true → SoH Γ K mg cl M da ro) (ib : ∀ ro, fb ro = true → SoH Γ K mg cl M db ro) (ro : Ro) (h : m_bin Γ o fa fb ro = true) : SoH Γ K mg cl M (dBin o da db) ro := by
  unfold m_bin at h
  split at h
  · rename_i t sc x op y p
    simp only [Bool.and_eq_true, decide_eq_true_eq] at h
    cases t with
    | true => trivial
    | false =>
      intro X W px g
      rw [h.1.1]
      exact s_bin (ia _ h.1.2 X W px g) (ib _ h.2 X W px g)
  · cases h
theorem soh_join (ia : ∀ ro, fa ro = true → SoH Γ K mg cl M da ro) (ib : ∀ ro, fb ro = true → SoH Γ K mg cl M db ro) (ro : Ro) (h : m_join Γ fa fb ro = true) : SoH Γ K mg cl M (dMth 0 da (dCons db dNil)) ro := by
  unfold m_join at h
  split at h
  · rename_i t sc o nm apos x pos
    simp only [Bool.and_eq_true, decide_eq_true_eq] at h
    obtain ⟨⟨⟨⟨⟨h1, h2⟩, h3⟩, h4⟩, h5⟩, h6⟩ := h
    subst h1
    cases t with
    | true => trivial
    | false =>
      refine fun X W px g => s_join (starEach_cons h4) ?_ h3 (ia _ h5 X W px g) (ib _ h6 X W px g)
      cases o <;> first | rfl | (simp [noSup] at h2)
  · cases h
theorem soh_xat (s : Nat) (ro : Ro) (h : m_xat Γ s ro = true) : SoH Γ K mg cl M (dXat s) ro := by
  unfold m_xat at h
  split at h
  · rename_i t sc x p nm q
    simp only [Bool.and_eq_true, decide_eq_true_eq] at h
    obtain ⟨h1, h2⟩ := h
    subst h1
    cases t with
    | true => trivial
    | false =>
      intro X W px g
      obtain ⟨c1, c2, c3, c4⟩ := varH g.nms g.scp h2
      exact s_xat g.pxo c1 c2 c3 c4 rfl
  · cases h
theorem soh_isi (T : TopH Γ K mg cl M) (s c : Nat) (ro : Ro) (h : m_isi Γ s c ro = true) : SoH Γ K mg cl M (dIsi M s c) ro := by
  unfold m_isi at h
  split at h
  · rename_i t sc f p x px1 y px2 pos
    simp only [Bool.and_eq_true, decide_eq_true_eq] at h
    obtain ⟨⟨⟨⟨⟨h1, h2⟩, h3⟩, h4⟩, h5⟩, h6⟩ := h
    subst h1
    cases t with
    | true => trivial
    | false =>
      intro X W px g
      obtain ⟨c1, c2, c3, c4⟩ := varH g.nms g.scp h4
      obtain ⟨g1, g2⟩ := glH g.scp h2
      obtain ⟨g3, g4⟩ := glH g.scp h6
      exact s_isi g.pxo c1 c2 c3 c4 g1 (by rw [g.glob]; exact T.free _ h3) g3 (by rw [g.glob]; exact T.cls _ _ h5) g4 (by rw [g.frag]; exact T.kit _ _ h5) (starEach_cons rfl) (starEach_cons rfl) rfl
  · cases h
theorem soh_itL (ia : ∀ ro, fa ro = true → SoH Γ K mg cl M da ro) (ro : Ro) (h : m_itL Γ fa ro = true) : SoH Γ K mg cl M (dItL da) ro := by
  unfold m_itL at h
  split at h
  · simp only [Bool.and_eq_true] at h
    exact fun X W px g => s_itLS (ia _ h.2 X W px g)
  · cases h
theorem soh_set (i : Nat) (kk : Bool) (ia : ∀ ro, fa ro = true → SoH Γ K mg cl M da ro) (ro : Ro) (h : m_set Γ i kk fa ro = true) : SoH Γ K mg cl M (dSet i kk da) ro := by
  unfold m_set at h
  split at h
  · simp only [Bool.and_eq_true, Bool.or_eq_true, Bool.not_eq_true'] at h
    intro X W px g B
    have h0 := h.1.1
    unfold stoB at h0
    simp only [Bool.and_eq_true, atN, decide_eq_true_eq, Bool.or_eq_true] at h0
    obtain ⟨h1, h2⟩ := h0
    refine s_set (by rw [g.nms]; exact g.nd) (by rw [g.nms]; exact h1) (by rw [g.scp]; exact h2.elim (fun z => .inl (isLoc_ok z)) fun z => .inr (isCel_ok z.1)) ?_ (.inl (B.fns _)) (ia _ h.2 X W px g)
    rcases h.1.2 with q | q
    · exact swaps_plain q
    · refine swaps_cell fun z => ?_
      have z : X.env.scope.names.lookup _ = _ := z
      rw [g.scp] at z
      unfold isLoc at q
      rw [z] at q
      cases q
  · cases h
theorem soh_ret (a : Ir) (ha : da = ev M a) (ia : ∀ ro, fa ro = true → SoH Γ K mg cl M da ro) (ro : Ro) (h : m_ret Γ a fa ro = true) : SoH Γ K mg cl M (dRet da) ro := by
  unfold m_ret at h
  split at h
  · exact fun X W px g B => s_ret (ia _ h X W px g)
  · subst ha
    unfold isNone at h
    split at h
    · exact fun X W px g B => s_retN
    · cases h
  · cases h
theorem soh_seq (ia : ∀ ro, fa ro = true → SoH Γ K mg cl M da ro) (ib : ∀ ro, fb ro = true → SoH Γ K mg cl M db ro) (ro : Ro) (h : m_seq Γ fa fb ro = true) : SoH Γ K mg cl M (dSeq da db) ro := by
  unfold m_seq at h
  split at h
  · simp only [Bool.and_eq_true] at h
    exact fun X W px g B => b_cons (ia _ h.1 X W px g B) (ib _ h.2 X W px g B)
  · cases h
theorem soh_skp (ro : Ro) (h : m_skp Γ ro = true) : SoH Γ K mg cl M R.nx ro := by
  unfold m_skp at h
  split at h
  · exact fun X W px g B => s_pass
  · exact fun X W px g B => s_doc
  · exact fun X W px g B => b_nil
  · cases h
mutual
theorem tgH {X : Cx} {sc f : Scope} (hn : X.N = Γ.N) (hs : X.env.scope = sc) (nd : Γ.N.Nodup) (hh : HotB X) (hf : Fns X f) {px : Addr → Nat → Addr → Prop} : ∀ {t : Tg} {tg : Expr}, tgB Γ.N sc f t tg = true → PG X tg (tG ⟨X.K, px, X.w⟩ t)
  | .nm i, tg, h => by
    unfold tgB at h
    split at h
    · rename_i h'; cases h'
      unfold stoB at h
      simp only [Bool.and_eq_true, atN, decide_eq_true_eq, Bool.or_eq_true] at h
      obtain ⟨h1, h2⟩ := h
      refine g_nm (by rw [hn]; exact nd) (by rw [hn]; exact h1) (by rw [hs]; exact h2.elim (fun z => .inl (isLoc_ok z)) fun z => .inr (isCel_ok z.1)) ?_
      rcases h2 with h2 | ⟨h2, h3⟩
      · exact .inr (by rw [hs]; exact isLoc_ok h2)
      · exact .inl (hf _ (isCel_ok h3))
    · rename_i h'; cases h'
    · cases h
  | .tp ts, tg, h => by
    unfold tgB at h
    split at h
    · rename_i h'; cases h'
    · rename_i h'; cases h'
      simp only [Bool.and_eq_true] at h
      obtain ⟨h1, h2⟩ := asgEach_len (env := X.env) h.1
      obtain ⟨q, hl⟩ := tgsH (px := px) hn hs nd hh hf h.2
      exact g_tupS hh (h1.trans hl) h2 (q h.1)
    · cases h
theorem tgsH {X : Cx} {sc f : Scope} (hn : X.N = Γ.N) (hs : X.env.scope = sc) (nd : Γ.N.Nodup) (hh : HotB X) (hf : Fns X f) {px : Addr → Nat → Addr → Prop} : ∀ {ts : List Tg} {es : List Expr}, tgsB Γ.N sc f ts es = true → (noStars es = true → PGs X es (tGs ⟨X.K, px, X.w⟩ ts)) ∧ es.length = ts.length
  | [], [], _ => ⟨fun _ => g_nil, rfl⟩
  | t :: ts, e :: es, h => by
    simp only [tgsB, Bool.and_eq_true] at h
    obtain ⟨q, hl⟩ := tgsH (px := px) hn hs nd hh hf h.2
    refine ⟨fun n => ?_, by simp [hl]⟩
    simp only [noStars, Bool.and_eq_true] at n
    exact g_cons (by rw [asgEach_cons n.1]; rfl) (tgH hn hs nd hh hf h.1) (q n.2)
  | [], _ :: _, h => by simp [tgsB] at h
  | _ :: _, [], h => by simp [tgsB] at h
end
theorem mv_ok {X : Cx} {W : WX} {sc : Scope} {px : Addr → Nat → Addr → Prop} (hn : X.N = Γ.N) (hs : X.env.scope = sc) : ∀ {b : Ir} {t : Bool} {ex : Expr}, mv Γ b (.e t sc ex) = true → PE X ex (tE ⟨X.K, px, X.w⟩ cl W (ev M b)) ∧ plainT ex = true
  | .var i, t, ex, h => by
    have h : m_var Γ i (.e t sc ex) = true := h
    cases ex with
    | Name x p =>
      obtain ⟨h1, h2, h3, h4⟩ := varH hn hs h
      exact ⟨s_var h1 h2 h3 h4, rfl⟩
    | _ => cases h
  | .lit _, _, _, h => by cases h
  | .gc _, _, _, h => by cases h
  | .tup _, _, _, h => by cases h
  | .lst _, _, _, h => by cases h
  | .nil, _, _, h => by cases h
  | .cons _ _, _, _, h => by cases h
  | .star _ _, _, _, h => by cases h
  | .bin _ _ _, _, _, h => by cases h
  | .neg _, _, _, h => by cases h
  | .nt _, _, _, h => by cases h
  | .an _ _, _, _, h => by cases h
  | .orr _ _, _, _, h => by cases h
  | .ite _ _ _, _, _, h => by cases h
  | .cmp _ _ _, _, _, h => by cases h
  | .ch2 _ _ _ _ _, _, _, h => by cases h
  | .ix _ _, _, _, h => by cases h
  | .sl _ _ _, _, _, h => by cases h
  | .slL _ _, _, _, h => by cases h
  | .slH _ _, _, _, h => by cases h
  | .slA _, _, _, h => by cases h
  | .rev _, _, _, h => by cases h
  | .call _ _, _, _, h => by cases h
  | .pick _ _ _, _, _, h => by cases h
  | .blt _ _, _, _, h => by cases h
  | .join _ _, _, _, h => by cases h
  | .lc .., _, _, h => by cases h
  | .lc2 .., _, _, h => by cases h
  | .isi _ _, _, _, h => by cases h
  | .xat _, _, _, h => by cases h
  | .callX _ _, _, _, h => by cases h
  | .itE _, _, _, h => by cases h
  | .itL _, _, _, h => by cases h
  | .itR _, _, _, h => by cases h
  | .itR2 _, _, _, h => by cases h
  | .itN _, _, _, h => by cases h
  | .itZ _, _, _, h => by cases h
  | .tt, _, _, h => by cases h
  | .set .., _, _, h => by cases h
  | .setL .., _, _, h => by cases h
  | .setL2 .., _, _, h => by cases h
  | .setT .., _, _, h => by cases h
  | .par .., _, _, h => by cases h
  | .app .., _, _, h => by cases h
  | .ext .., _, _, h => by cases h
  | .six .., _, _, h => by cases h
  | .mut .., _, _, h => by cases h
  | .exp .., _, _, h => by cases h
  | .ret .., _, _, h => by cases h
  | .iff .., _, _, h => by cases h
  | .fr .., _, _, h => by cases h
  | .grp .., _, _, h => by cases h
  | .frw .., _, _, h => by cases h
  | .whl .., _, _, h => by cases h
  | .rse .., _, _, h => by cases h
  | .tri .., _, _, h => by cases h
  | .brk, _, _, h => by cases h
  | .cnt, _, _, h => by cases h
  | .seq .., _, _, h => by cases h
  | .skp, _, _, h => by cases h
theorem soh_lc (b c : Ir) (own : List Nat) (t : Tg) (ia : ∀ ro, fa ro = true → SoH Γ K mg cl M da ro) (ro : Ro) (h : m_lc Γ b own t fa (mv Γ b) (mv Γ c) ro = true) : SoH Γ K mg cl M (dLc own t da (ev M b) (ev M c)) ro := by
  unfold m_lc at h
  split at h
  · rename_i t0 sc elt tg it ifs kk scope pos
    simp only [Bool.and_eq_true, beq_iff_eq] at h
    obtain ⟨⟨⟨⟨⟨⟨⟨h0, h1⟩, h2⟩, h3⟩, h4⟩, h5⟩, h6⟩, h7⟩ := h
    subst h0
    cases t0 with
    | true => trivial
    | false =>
      intro X W px g
      have bn : ∀ (s : Shared) (H : Hp) (C : Addr) (cl' : List (Str × Addr)) (fp : List Addr), (X.blk s H scope (compEnvC scope cl' C X.env) fp).env.scope = relS scope sc := fun s H C cl' fp => by
        show relS scope X.env.scope = _
        rw [g.scp]
      refine s_lcS g.hot (by rw [g.nms]; exact g.nd) (by rw [g.nms, g.scp]; exact blkOk_by h1) (fold_plain h4) h2 (ownN_snd _ _) (ia _ h5 X W px g) (fun s H C cl' fp hh => ?_) (fun s H C cl' fp => ?_) (fun s H C cl' fp => ?_)
      · refine tgH (X := X.blk s H scope (compEnvC scope cl' C X.env) fp) g.nms (bn s H C cl' fp) g.nd hh (f := scope) (fun x hx => ?_) h3
        show (scope.names.lookup x == some .cell) = true
        rw [hx]; rfl
      · split at h6
        · unfold isTT at h6
          split at h6
          · exact c_nil
          · cases h6
        · obtain ⟨q1, q2⟩ := mv_ok (M := M) (cl := cl) (W := fun _ _ _ _ => False) (px := px) (X := X.blk s H scope (compEnvC scope cl' C X.env) fp) g.nms (bn s H C cl' fp) h6
          exact c_one (t_val q1 (test_plain q2))
        · cases h6
      · exact (mv_ok (M := M) (cl := cl) (W := fun _ _ _ _ => False) (px := px) (X := X.blk s H scope (compEnvC scope cl' C X.env) fp) g.nms (bn s H C cl' fp) h7).1
  · cases h
end
end Ev
end

section
set_option Elab.async false
set_option linter.all false
set_option maxRecDepth 100000
set_option maxHeartbeats 4000000
namespace Ev
open PySem PySem.Spec PyProof.Rows L2 L2H
section
variable {Γ : Gm} {K : PySem.W.Frag} {mg : Str → Option Value} {cl : Nat → Addr} {M : Pm}
theorem soundH (T : TopH Γ K mg cl M) : ∀ (x : Ir) (ro : Ro), mh Γ x ro = true → SoH Γ K mg cl M (ev M x) ro
  | .var i => soh_var i
  | .lit d => soh_lit d
  | .tup a => soh_tup (soundH T a)
  | .lst a => soh_lst (soundH T a)
  | .nil => soh_nil
  | .cons a b => soh_cons (soundH T a) (soundH T b)
  | .bin o a b => soh_bin o (soundH T a) (soundH T b)
  | .join a b => soh_join (soundH T a) (soundH T b)
  | .isi s c => soh_isi T s c
  | .xat s => soh_xat s
  | .itL a => soh_itL (soundH T a)
  | .lc own t a b c => soh_lc b c own t (soundH T a)
  | .set i k a => soh_set i k (soundH T a)
  | .ret a => soh_ret a rfl (soundH T a)
  | .seq a b => soh_seq (soundH T a) (soundH T b)
  | .skp => soh_skp
  | .gc _ => fun ro h => by cases h
  | .star _ _ => fun ro h => by cases h
  | .neg _ => fun ro h => by cases h
  | .nt _ => fun ro h => by cases h
  | .an _ _ => fun ro h => by cases h
  | .orr _ _ => fun ro h => by cases h
  | .ite _ _ _ => fun ro h => by cases h
  | .cmp _ _ _ => fun ro h => by cases h
  | .ch2 _ _ _ _ _ => fun ro h => by cases h
  | .ix _ _ => fun ro h => by cases h
  | .sl _ _ _ => fun ro h => by cases h
  | .slL _ _ => fun ro h => by cases h
  | .slH _ _ => fun ro h => by cases h
  | .slA _ => fun ro h => by cases h
  | .rev _ => fun ro h => by cases h
  | .call _ _ => fun ro h => by cases h
  | .pick _ _ _ => fun ro h => by cases h
  | .blt _ _ => fun ro h => by cases h
  | .lc2 .. => fun ro h => by cases h
  | .callX _ _ => fun ro h => by cases h
  | .itE _ => fun ro h => by cases h
  | .itR _ => fun ro h => by cases h
  | .itR2 _ => fun ro h => by cases h
  | .itN _ => fun ro h => by cases h
  | .itZ _ => fun ro h => by cases h
  | .tt => fun ro h => by cases h
  | .setL .. => fun ro h => by cases h
  | .setL2 .. => fun ro h => by cases h
  | .setT .. => fun ro h => by cases h
  | .par .. => fun ro h => by cases h
  | .app .. => fun ro h => by cases h
  | .ext .. => fun ro h => by cases h
  | .six .. => fun ro h => by cases h
  | .mut .. => fun ro h => by cases h
  | .mtl .. => fun ro h => by cases h
  | .exp .. => fun ro h => by cases h
  | .iff .. => fun ro h => by cases h
  | .fr .. => fun ro h => by cases h
  | .grp .. => fun ro h => by cases h
  | .frw .. => fun ro h => by cases h
  | .whl .. => fun ro h => by cases h
  | .rse .. => fun ro h => by cases h
  | .tri .. => fun ro h => by cases h
  | .brk => fun ro h => by cases h
  | .cnt => fun ro h => by cases h
/-- every class by number is one of ours -/
def XCl (K : PySem.W.Frag) (cl : Nat → Addr) : Prop := ∀ c, ExcC K (cl c) ∧ XfC K (cl c) ∧ PySem.W.findIn K (.ref (cl c)) "at" = some none
theorem pxo_of {X : Cx} {p : Addr × Obj} (hx : XCl X.K cl) (hp : p ∈ X.pn) (hf : ∃ vs, p.2.data = .fields vs) : PxOk X cl (pxOf cl p.1 p.2.cls p.2.dict) :=
  ⟨fun a c dx ⟨h1, h2, h3⟩ => ⟨p.2, by subst h1; exact hp, h2, h3, hf⟩, fun a c dx _ => hx c⟩
variable {P : Program} {w : World} {base : Heap}
/-- a def that is called with the exception -/
theorem defX_ok {x qual q : Str} {st : Stmt} {f : Addr} {fd : FuncData} {body : Ir} {k : Nat} (T : TopH Γ K mg cl M) (hx : XCl K cl) (Fn : Fun K x qual st f fd) (S : FnScope Γ.N [q] (defScope st)) (hps : 1 ≤ Γ.N.length)
    (hm : mh Γ body (.b (defScope st) (defBody st)) = true) :
    FnX P w K mg base (k + 1) f fd q cl (fun sl => fin sl (ev M body (sl ++ List.replicate (Γ.N.length - sl.length) .no))) := by
  obtain ⟨oc, od, kV, doc, pm, an, cdv, ct, osl, rfl, lk, hcd⟩ := Fn.ex
  refine fnX_of lk hcd S fun A outer s H Q E p hot ⟨F, c, y, r, pc⟩ => ⟨tS (kxp K w cl p) cl (fun cls d _ H' => E cls d H') (ev M body), ?_, F, _, Rel.start (vs := [.ref p.1]) hps r, fin_ok (vs := [.ref p.1]) r hps (fun j l k x g => ?_) pc⟩
  · refine soundH T body _ hm _ _ _ ⟨rfl, rfl, rfl, rfl, S.nd, ⟨p, hot, List.mem_singleton.mpr rfl⟩, pxo_of hx (List.mem_singleton.mpr rfl) ?_⟩ ⟨rfl, rfl, fun _ => rfl, ?_⟩
    · obtain ⟨_, vs, h, _⟩ := hot
      exact ⟨vs, h⟩
    · show Env.blockKind (envOfC qual (defScope st) s.heap.objs.size f cdv) = .function
      have hk : (envOfC qual (defScope st) s.heap.objs.size f cdv).scope.kind = .function := S.kind
      unfold Env.blockKind
      rw [hk]
      rfl
  · cases j with
    | zero => cases g
    | succ j => cases j <;> cases g
/-! ## the suites -/
theorem rel_over {kx : Kx} {F F' : As} {e : En} {σ : L2.St} {H H' : Hp} (r : Rel kx F e σ H) (grow : ∀ a, F a → F' a) (keep : ∀ a o, H a = some o → H' a = some o) (dom : ∀ a, F' a → H' a ≠ none) (new : ∀ a, F' a → F a ∨ H a = none) : Rel kx F' e σ H' := by
  refine ⟨r.len, dom, fun i => ?_, r.apart⟩
  have s := r.slot i
  cases g : getS e i with
  | sh d => rw [g] at s; obtain ⟨v, h1, h2⟩ := s; exact ⟨v, h1, h2.mono grow fun a o _ => keep a o⟩
  | ow l k d =>
    rw [g] at s
    obtain ⟨a, h1, h2, h3⟩ := s
    exact ⟨a, h1, fun h => (new a h).elim h2 fun z => h3.there z, h3.mono grow (fun a o _ => keep a o) (keep a)⟩
  | no => trivial
  | ex c x => rw [g] at s; exact SlotOk.exm s grow (fun a u _ => keep a u) fun d fs => keep d _
theorem no_own {c : Nat} {y : PyData} {σ : L2.St} {i : Nat} {a : Addr} (h : OwnAt [.ex c y] σ i a) : False := by
  obtain ⟨⟨l, k, x, g⟩, _⟩ := h
  cases i with
  | zero => cases g
  | succ i => cases i <;> cases g
theorem no_mut {c : Nat} {y : PyData} {σ : L2.St} {a : Addr} (h : MutA [.ex c y] σ a) : False := by
  obtain ⟨i, ⟨l, x, g⟩, h⟩ := h
  exact no_own ⟨⟨l, false, x, g⟩, h⟩
/-- the call of such a def -/
theorem s_callX {X : Cx} {W : WX} {fi s k : Nat} {f : Addr} {fd : FuncData} {q g x : Str} {p1 p2 pos : Pos} {p : Addr × Obj} (G : FnX X.prog X.w X.K X.mg X.base k f fd q cl (M.call fi)) (hr : RoomH k X.A) (hot : Hot1 X.A p) (hp : p ∈ X.pn) (hg : Gl X g) (hdg : (g == ("__debug__" : Str)) = false) (hm : X.mg g = some (.ref f)) (hk : PySem.W.keepIn X.K (.ref f) = true) (hb : Binds X.K fd [q] [])
    (hN : X.N[s]? = some x) (hv : Vis X.env.scope x) (hd : (x == ("__debug__" : Str)) = false) (hcd : (x == ("__classdict__" : Str)) = false) :
    PE X (.Call (.Name g p1) [.Name x p2] [] pos) (tE ⟨X.K, pxOf cl p.1 p.2.cls p.2.dict, X.w⟩ cl W (dCallX M fi s)) := by
  refine ⟨fun pins st σ H Q I ⟨F, e, r, h⟩ => ?_⟩
  unfold dCallX at h
  cases gs : getS e s with
  | ex c y =>
    rw [gs] at h
    dsimp only at h
    have sl := r.slot s
    rw [gs] at sl
    obtain ⟨a, dx, v, e1, e2, e3, e4⟩ := sl
    obtain ⟨rfl, ec, ed⟩ := e2
    refine wpAny_Call_Name_kw (ld_glob I hg hm ?_ hdg)
    have sp : spX X.K X.w cl (M.call fi) p H Q fun _ _ _ => False := by
      refine ⟨F, c, y, ⟨rfl, r.dom, fun i => ?_, fun i j b h1 _ => (no_own h1).elim⟩, ?_⟩
      · cases i with
        | zero => exact ⟨p.1, dx, v, rfl, ⟨rfl, ec, ed⟩, e3, e4⟩
        | succ i => cases i <;> trivial
      · cases hc : M.call fi [.ex c y] with
        | ret u fs =>
          rw [hc] at h
          cases u with
          | d z =>
            intro F' H' z' r' f' v' n'
            have kp : ∀ a o, H a = some o → H' a = some o := fun a o ho => f'.keep a o ho no_mut
            have nw : ∀ a, F' a → F a ∨ H a = none := fun a ha => (f'.new a ha).imp id fun q => q.elim (fun ⟨i, q⟩ => (no_own q).elim) id
            have r2 := rel_over r f'.grow kp r'.dom nw
            exact h F' H' z' r2 { (Fr.refl : Fr F e σ H F e σ H) with
              keep := fun a o ho _ => kp a o ho
              dom := f'.dom
              grow := f'.grow
              new := fun a ha => (nw a ha).imp id .inr } v' n'
          | o z => exact h.elim
          | p i => exact h.elim
        | ex c' y' => rw [hc] at h; exact h.elim
        | bad => rw [hc] at h; exact h.elim
    refine PySem.W.callWith_K (h₀ := X.base) I.ok.mod.kin hk (thn ((pa_cons (pe_var hN hv hd hcd) pa_nil).run pos pins st σ H (fun zs H2 => zs = [.ref p.1] ∧ H2 = H) I ⟨.ref p.1, e1, rfl, rfl⟩) fun us s1 ⟨vs, H1, I1, rv, ev, eh⟩ => ⟨I1.kIn, ?_⟩) (starEach_cons rfl) rfl
    subst ev eh
    cases rv with
    | cons ra rr =>
      cases rr
      cases (show _ = Value.ref p.1 from ra)
      have P1 := I1.pin p (List.mem_append_left _ hp)
      have hpin : PinOk X.stack H1 s1 p := ⟨P1.1, P1.2.1, fun hm => (List.mem_cons.mp (I1.stkSub p.1 hm)).elim P1.2.2.1 P1.2.2.2.1, P1.2.2.2.2⟩
      have b := hb s1 [.ref p.1] I1.kIn rfl
      refine wpAny_call (codeAny_mono (G.run X.A X.stack s1 H1 ⟨[.ref p.1], []⟩ Q (fun _ _ _ => False) p hr hot hpin I1.env0 b sp) fun r s' hq => ?_)
      match r, hq with
      | .error e, ⟨_, _, _, _, _, _, _, _, _, _, _, _, z⟩ => exact z.elim
      | .ok (.ret u), hq => exact I1.after hq
      | .ok .next, hq => exact False.elim hq
      | .ok .brk, hq => exact False.elim hq
      | .ok .cont, hq => exact False.elim hq
  | _ => rw [gs] at h; exact h.elim
end
end Ev
end

section
set_option Elab.async false
set_option linter.all false
set_option maxRecDepth 100000
set_option maxHeartbeats 4000000
namespace Ev
open PySem PySem.Spec PyProof.Rows L2 L2H
/-! ## the suites of except, all together -/
/-- the call of a def by the exception; hx: these defs by number and name -/
def hotC (Γ : Gm) (hx : List (Nat × Str)) (b : Ir) (sc : Scope) (sts : List Stmt) : Bool := match b, sts with
  | .seq (.ret (.callX f s)) .skp, [.Return (some (.Call (.Name g _) [.Name x _] [] _)) _] => hx.contains (f, g) && glB sc g && varB Γ.N sc s x
  | _, _ => false
def hotM (Γ : Gm) (hx : List (Nat × Str)) (b : Ir) (sc : Scope) (sts : List Stmt) : Bool := hotC Γ hx b sc sts || mh Γ b (.b sc sts)
section
variable {Γ Γ1 : Gm} {hx : List (Nat × Str)} {P : Program} {w : World} {K : PySem.W.Frag} {mg : Str → Option Value} {base : Heap} {cl : Nat → Addr} {M : Pm} {k : Nat}
theorem hot_ok (hN : Γ.N = Γ1.N) (hh : ∀ b sc sts, Γ.hot b sc sts = true → hotM Γ1 hx b sc sts = true) (T : TopH Γ1 K mg cl M) (hc : XCl K cl)
    (hf : ∀ f g, hx.contains (f, g) = true → ∃ (fa : Addr) (fd : FuncData) (q : Str), FnX P w K mg base k fa fd q cl (M.call f) ∧ mg g = some (.ref fa) ∧ PySem.W.keepIn K (.ref fa) = true ∧ Binds K fd [q] []) : HotOk Γ P w K mg base cl M k := by
  intro b sc sts h X W g B a oe cls d pn z hd
  have h := hh b sc sts h
  obtain ⟨vs, hd⟩ := hd
  obtain ⟨rfl, rfl, zc⟩ := z
  have hot : Hot1 (X.suite a ((a, oe) :: pn)).A (a, oe) := ⟨rfl, vs, hd, zc vs hd⟩
  have mem : (a, oe) ∈ (X.suite a ((a, oe) :: pn)).pn := List.mem_cons_self
  obtain ⟨rfl, rfl, rfl, rfl, rfl⟩ : X.prog = P ∧ X.w = w ∧ X.K = K ∧ X.mg = mg ∧ X.base = base := ⟨g.prog, g.wrld, g.frag, g.glob, g.bas⟩
  unfold hotM at h
  simp only [Bool.or_eq_true] at h
  rcases h with h | h
  · unfold hotC at h
    split at h
    · rename_i f s gn p1 x p2 p3 p4
      simp only [Bool.and_eq_true] at h
      obtain ⟨fa, fd, q, c1, c2, c3, c4⟩ := hf _ _ h.1.1
      obtain ⟨g1, g2⟩ := g.gl h.1.2
      obtain ⟨v1, v2, v3, v4⟩ := varB_ok g (hN ▸ h.2)
      have hr : RoomH k (X.suite a ((a, oe) :: pn)).A := ⟨g.room.dp, g.room.un⟩
      exact b_cons (s_ret (s_callX (X := X.suite a ((a, oe) :: pn)) (p := (a, oe)) c1 hr hot mem g1 g2 c2 c3 c4 v1 v2 v3 v4)) b_nil
    · cases h
  · exact soundH T b _ h (X.suite a ((a, oe) :: pn)) _ _ ⟨rfl, rfl, g.nms.trans hN, g.scp, hN ▸ g.nd, ⟨_, hot, mem⟩, pxo_of (X := X.suite a ((a, oe) :: pn)) (p := (a, oe)) hc mem ⟨vs, hd⟩⟩ ⟨B.stk, B.frm, B.fns, B.fk⟩
end
/-- a def that is called with the exception, as it stands in the text -/
structure HotAtDef (Γ : Gm) (G : Pg) (K : PySem.W.Frag) (mg : Str → Option Value) (f : Nat) (x : Str) : Prop where
  ex : ∃ (fa : Addr) (fd : FuncData) (q : Str) (st : Stmt) (d : Df), Fun K x x st fa fd ∧ FnScope Γ.N [q] (defScope st) ∧ 1 ≤ Γ.N.length ∧ G.defs[f]? = some d ∧ d.size = Γ.N.length ∧ mh Γ d.body (.b (defScope st) (defBody st)) = true ∧ mg x = some (.ref fa) ∧ Binds K fd [q] []
section
variable {Γ : Gm} {G : Pg} {P : Program} {w : World} {K : PySem.W.Frag} {mg : Str → Option Value} {base : Heap} {cl : Nat → Addr}
theorem hot_run {f : Nat} {x : Str} (h : HotAtDef Γ G K mg f x) (T : ∀ M : Pm, M.sub = G.sub → TopH Γ K mg cl M) (hc : XCl K cl) : ∀ (j k : Nat), ∃ (fa : Addr) (fd : FuncData) (q : Str), FnX P w K mg base (k + 1) fa fd q cl (run G j f) ∧ mg x = some (.ref fa) ∧ PySem.W.keepIn K (.ref fa) = true ∧ Binds K fd [q] []
  | 0, k => by
    obtain ⟨fa, fd, q, st, d, h1, h2, h3, h4, h5, h6, h7, h8⟩ := h.ex
    exact ⟨fa, fd, q, ⟨fun _ _ _ _ _ _ _ _ _ _ _ _ _ ⟨_, _, _, _, p⟩ => p.elim⟩, h7, h1.kp, h8⟩
  | j + 1, k => by
    obtain ⟨fa, fd, q, st, d, h1, h2, h3, h4, h5, h6, h7, h8⟩ := h.ex
    refine ⟨fa, fd, q, ?_, h7, h1.kp, h8⟩
    have D := defX_ok (P := P) (w := w) (base := base) (k := k) (T (G.pm (run G j)) rfl) hc h1 h2 h3 h6
    have e : run G (j + 1) f = fun sl => fin sl (ev (G.pm (run G j)) d.body (sl ++ List.replicate (Γ.N.length - sl.length) .no)) := by
      funext sl
      show (match G.defs[f]? with
        | some d => fin sl (ev (G.pm (run G j)) d.body (sl ++ List.replicate (d.size - sl.length) Sl.no))
        | none => CR.bad) = _
      rw [h4]
      dsimp only
      rw [h5]
    rw [e]
    exact D
end
end Ev
end

section
set_option Elab.async false
set_option linter.all false
set_option maxRecDepth 100000
set_option maxHeartbeats 4000000
namespace Ev
open PySem PySem.Spec PyProof.Rows L2 L2H
/-! ## the module's facts, all by one Bool -/
/-- plain parameters -/
def simB (p : Arguments) : Bool := p.posonlyargs.isEmpty && p.vararg.isNone && p.kwonlyargs.isEmpty && p.kwarg.isNone
def parN (p : Arguments) : List Str := p.args.map (·.arg)
theorem zip_lk : ∀ {ps : List Str} {us : List Value}, us.length = ps.length → ∀ n ∈ ps, ((ps.zip us).lookup n).isSome = true
  | [], us, _, n, h => by cases h
  | p :: ps, [], hl, n, h => by simp at hl
  | p :: ps, u :: us, hl, n, h => by
    by_cases e : n = p
    · subst e; simp [List.lookup]
    · have e' : (n == p) = false := by simpa using e
      have hm : n ∈ ps := by
        rcases List.mem_cons.mp h with h | h
        · exact absurd h e
        · exact h
      simp only [List.zip_cons_cons, List.lookup, e']
      exact zip_lk (by simpa using hl) n hm
theorem zip_fm : ∀ {ps : List Str} {us : List Value} {l : List (Str × Value)}, us.length = ps.length → ps.Nodup → (∀ n ∈ ps, l.lookup n = (ps.zip us).lookup n) → ps.filterMap (fun n => (l.lookup n).map (n, ·)) = ps.zip us
  | [], us, l, _, _, _ => by simp
  | p :: ps, [], l, hl, _, _ => by simp at hl
  | p :: ps, u :: us, l, hl, nd, h => by
    have h0 := h p List.mem_cons_self
    simp only [List.zip_cons_cons, List.lookup, beq_self_eq_true] at h0
    rw [List.filterMap_cons, h0]
    simp only [Option.map_some, List.zip_cons_cons, List.cons.injEq, true_and]
    refine zip_fm (by simpa using hl) (List.nodup_cons.mp nd).2 fun n hn => ?_
    rw [h n (List.mem_cons_of_mem _ hn)]
    have e : (n == p) = false := by
      simp only [beq_eq_false_iff_ne, ne_eq]
      rintro rfl
      exact (List.nodup_cons.mp nd).1 hn
    simp only [List.zip_cons_cons, List.lookup, e]
theorem bind_sim {fd : FuncData} {p : Arguments} {us : List Value} (hp : fd.params = p) (hd : fd.defaults = .none) (h : simB p = true) (nd : (parN p).Nodup) (hl : us.length = (parN p).length) :
    bindArgs fd ⟨us, []⟩ = pure ((parN p).zip us) := by
  obtain ⟨nm, qn, p', bd, sc, gl, cs, dV, kV, doc, pm, an, cd, ct, bl⟩ := fd
  dsimp only at hp hd
  subst hp hd
  obtain ⟨po, as, va, ko, kd, kw, df⟩ := p'
  unfold simB at h
  simp only [Bool.and_eq_true, List.isEmpty_iff, Option.isNone_iff_eq_none] at h
  obtain ⟨⟨⟨rfl, rfl⟩, rfl⟩, rfl⟩ := h
  unfold parN at nd hl ⊢
  dsimp only at nd hl ⊢
  unfold bindArgs
  have e1 : ¬ us.length > (as.map (·.arg)).length := by omega
  have e2 : ((as.map (·.arg)).filter fun n => (((as.map (·.arg)).zip us).lookup n).isNone) = [] := by
    rw [List.filter_eq_nil_iff]
    intro n hn
    have := zip_lk hl n hn
    simp only [Option.isNone_iff_eq_none, ne_eq]
    intro z
    rw [z] at this
    cases this
  have e3 := zip_fm hl nd (l := (as.map (·.arg)).zip us) fun n _ => rfl
  have e4 : seqItems? Value.none = pure Option.none := by rfl
  simp only [List.map_nil, List.nil_append, List.append_nil, List.forIn_nil, pure_bind, e4, Option.getD_none, List.length_nil, Nat.sub_zero, List.drop_nil, List.zip_nil_right, List.take_length]
  rw [e2, e3]
  have e5 : ¬ as.length < us.length := by rw [List.length_map] at hl; omega
  simp [e5]
end Ev
end

section
set_option Elab.async false
set_option linter.all false
set_option maxRecDepth 100000
set_option maxHeartbeats 4000000
namespace Ev
open PySem PySem.Spec PyProof.Rows L2 L2H
/-- what is told of a law's module -/
structure Lw where
  G : Pg
  fns : List Str
  N : List (List Str)
  cls : List Str
  gcs : List Str
  free : List Str
  gcd : Bool
  rse : List Nat
  hx : List (Nat × Str)
def Lw.Γ0 (L : Lw) (f : Nat) : Gm := ⟨L.N.getD f [], L.fns, L.cls, L.rse, L.gcs, L.free, L.gcd, fun _ _ _ => false⟩
def Lw.Γ (L : Lw) (f : Nat) : Gm := ⟨L.N.getD f [], L.fns, L.cls, L.rse, L.gcs, L.free, L.gcd, hotM (L.Γ0 f) L.hx⟩
def addrOf (K : PySem.W.Frag) (x : Str) : Addr := match PySem.W.nsIn K mainGlobals x with
  | some (some (.ref a)) => a
  | _ => 0
def Lw.cl (L : Lw) (K : PySem.W.Frag) (c : Nat) : Addr := addrOf K (L.cls.getD c (L.cls.headD ""))
/-! ### a def -/
def scB (N ps : List Str) (sc : Scope) : Bool := (match sc.kind with
    | .function => true
    | _ => false) && !sc.isCoroutine && !sc.isGenerator && decide N.Nodup && decide (N.take ps.length = ps) && ps.all (fun x => isLoc sc x || isCel sc x) && sc.names.all (fun y => decide (y.2 ≠ .free))
theorem scB_ok {N ps : List Str} {sc : Scope} (h : scB N ps sc = true) : FnScope N ps sc := by
  unfold scB at h
  simp only [Bool.and_eq_true, decide_eq_true_eq, Bool.not_eq_true', List.all_eq_true, Bool.or_eq_true] at h
  obtain ⟨⟨⟨⟨⟨⟨h1, h2⟩, h3⟩, h4⟩, h5⟩, h6⟩, h7⟩ := h
  refine ⟨?_, h2, h3, h4, h5, fun x hx => ?_, h7⟩
  · split at h1
    · assumption
    · cases h1
  · rcases h6 x hx with h | h
    · exact .inl (isLoc_ok h)
    · exact .inr (isCel_ok h)
/-- the func at fa is a plain def of the module -/
def fdB (K : PySem.W.Frag) (fa : Addr) (x : Str) (N : List Str) (p : List Str → Scope → List Stmt → Bool) : Bool := match K.lookup fa with
  | some ⟨_, _, .func ⟨nm, q, params, .stmts body, sc, gl, cs, .none, _, _, _, _, cd, _, bl⟩, _⟩ => decide (nm = x) && decide (q = x) && decide (gl = mainGlobals) && cs.isEmpty && decide (bl = builtinsNs) && PySem.W.codeIn K cd x && PySem.W.keepIn K (.ref fa) && simB params && scB N (parN params) sc && p (parN params) sc body
  | _ => false
theorem fdB_ok {K : PySem.W.Frag} {fa : Addr} {x : Str} {N : List Str} {p : List Str → Scope → List Stmt → Bool} (h : fdB K fa x N p = true) : ∃ (fd : FuncData) (ps : List Str) (st : Stmt), Fun K x x st fa fd ∧ FnScope N ps (defScope st) ∧ p ps (defScope st) (defBody st) = true ∧ Binds K fd ps [] ∧
    (∀ us : List Value, us.length = ps.length → bindArgs fd ⟨us, []⟩ = pure (ps.zip us)) := by
  unfold fdB at h
  split at h
  · rename_i oc od nm q params body sc gl cs kV doc pm an cd ct bl osl lk
    simp only [Bool.and_eq_true, decide_eq_true_eq, List.isEmpty_iff] at h
    obtain ⟨⟨⟨⟨⟨⟨⟨⟨⟨rfl, rfl⟩, rfl⟩, rfl⟩, rfl⟩, h6⟩, h7⟩, h8⟩, h9⟩, h10⟩ := h
    have S := scB_ok h9
    have nd : (parN params).Nodup := by
      have := S.pre
      rw [← this]
      exact S.nd.sublist (List.take_sublist _ _)
    have bd : ∀ us : List Value, us.length = (parN params).length → bindArgs (PySem.W.fnOf q q params body sc .none kV doc pm an cd ct) ⟨us, []⟩ = pure ((parN params).zip us) := fun us hl => bind_sim rfl rfl h8 nd hl
    exact ⟨_, parN params, .FunctionDef q params body [] none [] sc none q ⟨0, 0, 0, 0⟩, fun_mk (st := .FunctionDef q params body [] none [] sc none q ⟨0, 0, 0, 0⟩) lk h6 h7, S, h10, .all bd, bd⟩
  · cases h
def defB (L : Lw) (K : PySem.W.Frag) (f : Nat) (x : Str) : Bool := match PySem.W.nsIn K mainGlobals x, L.G.defs[f]? with
  | some (some (.ref fa)), some d => fdB K fa x (L.N.getD f []) fun ps sc body => Nat.ble ps.length (L.N.getD f []).length && d.size == (L.N.getD f []).length && d.lens.length == ps.length && m (L.Γ f) d.body (.b sc body)
  | _, _ => false
theorem defB_ok {L : Lw} {K : PySem.W.Frag} {f : Nat} {x : Str} {h : Heap} {mg : Str → Option Value} (X : K.In h) (G : h.Ns mainGlobals mg) (e : defB L K f x = true) : DefAt L.fns L.Γ L.G K mg f x := by
  unfold defB at e
  split at e
  · rename_i fa d e1 e2
    obtain ⟨fd, ps, st, F, S, h, B, _⟩ := fdB_ok e
    simp only [Bool.and_eq_true, beq_iff_eq, Nat.ble_eq] at h
    exact ⟨fa, fd, ps, st, d, F, S, h.1.1.1, e2, h.1.1.2, h.1.2, h.2, PySem.W.mg_of X G e1, B⟩
  · cases e
def hotB (L : Lw) (K : PySem.W.Frag) (f : Nat) (x : Str) : Bool := match PySem.W.nsIn K mainGlobals x, L.G.defs[f]? with
  | some (some (.ref fa)), some d => fdB K fa x (L.N.getD f []) fun ps sc body => ps.length == 1 && Nat.ble 1 (L.N.getD f []).length && d.size == (L.N.getD f []).length && mh (L.Γ0 f) d.body (.b sc body)
  | _, _ => false
theorem hotB_ok {L : Lw} {K : PySem.W.Frag} {f : Nat} {x : Str} {h : Heap} {mg : Str → Option Value} (X : K.In h) (G : h.Ns mainGlobals mg) (e : hotB L K f x = true) : HotAtDef (L.Γ0 f) L.G K mg f x := by
  unfold hotB at e
  split at e
  · rename_i fa d e1 e2
    obtain ⟨fd, ps, st, F, S, h, B, _⟩ := fdB_ok e
    simp only [Bool.and_eq_true, beq_iff_eq, Nat.ble_eq] at h
    obtain ⟨⟨⟨h1, h2⟩, h3⟩, h4⟩ := h
    match ps, h1 with
    | [q], _ => exact ⟨fa, fd, q, st, d, F, S, h2, e2, h3, h4, PySem.W.mg_of X G e1, B⟩
  · cases e
/-! ### a class -/
def ocB (K : PySem.W.Frag) (C : Addr) : Bool := match K.lookup C with
  | some ⟨.type t, _, .cls ⟨_, _, .ref C' :: bm, _, _, true, _, _, _, _, false⟩, ⟨[_, _, _, _, some (.builtin n), _]⟩⟩ => decide (t = "type") && decide (C' = C) && PySem.HandSPX.refsVE bm && decide (n = "ValueError.__new__")
  | _ => false
theorem ocB_ok {K : PySem.W.Frag} {C : Addr} (h : ocB K C = true) : ∃ nm q N bs bm sn sub ab col dd k0 k1 k2 k3 k5, K.lookup C = some (excClassObj nm q C N bs bm true sn sub ab col dd k0 k1 k2 k3 k5 "ValueError.__new__") ∧ PySem.HandSPX.refsVE bm = true := by
  unfold ocB at h
  split at h
  · rename_i lk
    simp only [Bool.and_eq_true, decide_eq_true_eq] at h
    obtain ⟨⟨⟨rfl, rfl⟩, h3⟩, rfl⟩ := h
    exact ⟨_, _, _, _, _, _, _, _, _, _, _, _, _, _, _, lk, h3⟩
  · cases h
def clB (K : PySem.W.Frag) (C : Addr) : Bool := ocB K C && decide (PySem.W.findIn K (.ref C) "__setattr__" = some (some (.builtin "object.__setattr__"))) && decide (PySem.W.subIn K (.ref C) (.type "BaseException") = some true) && decide (PySem.W.typeIn K (.ref C) = some (.type "type")) && PySem.W.keepIn K (.ref C) &&
  decide (PySem.W.findIn K (.ref C) "__class__" = some (some (.builtin "object.__class__"))) && decide (PySem.W.specialIn K (.builtin "object.__class__") "__get__" = some (some (.builtin "getset_descriptor.__get__"))) && decide (PySem.W.takesIn K (.builtin "object.__class__") = some true) && decide (PySem.W.mroIn K C (.type "object") = some true) &&
  xfB K C && decide (PySem.W.findIn K (.ref C) "at" = some none)
theorem clB_ok {K : PySem.W.Frag} {C : Addr} (h : clB K C = true) : OexC K C ∧ ExcC K C ∧ XfC K C ∧ PySem.W.findIn K (.ref C) "at" = some none := by
  unfold clB at h
  simp only [Bool.and_eq_true, decide_eq_true_eq] at h
  obtain ⟨⟨⟨⟨⟨⟨⟨⟨⟨⟨h1, h2⟩, h3⟩, h4⟩, h5⟩, h6⟩, h7⟩, h8⟩, h9⟩, h10⟩, h11⟩ := h
  have xf := xfB_ok h10
  exact ⟨⟨ocB_ok h1, h2, h3, h4, h5⟩, ⟨xf.ga, xf.gg, xf.exC, xf.hdC, h6, h7, h8, h9⟩, xf, h11⟩
/-! ### a constant -/
mutual
def gvB (K : PySem.W.Frag) : Value → PyData → Bool
  | u, .int j => match u with
    | .int i _ => decide (i = j)
    | _ => false
  | u, .bool b => match u with
    | .bool a => decide (a = b)
    | _ => false
  | u, .none => match u with
    | .none => true
    | _ => false
  | u, .str y => match u with
    | .str x _ => decide (x = y)
    | _ => false
  | u, .tuple ds => match u with
    | .ref a => match K.lookup a with
      | some ⟨.type t, _, .seq its _, _⟩ => decide (t = "tuple") && Nat.ble its.size 1000 && gvBs K its.toList ds
      | _ => false
    | _ => false
  | _, _ => false
def gvBs (K : PySem.W.Frag) : List Value → List PyData → Bool
  | [], [] => true
  | u :: us, d :: ds => gvB K u d && gvBs K us ds
  | _, _ => false
end
mutual
theorem gvB_ok (K : PySem.W.Frag) : ∀ (u : Value) (d : PyData), gvB K u d = true → ∃ v, RelV v u ∧ ∀ px w', Rep ⟨K, px, w'⟩ (fun _ => False) (fun _ => none) v d
  | u, .int j, h => by
    unfold gvB at h
    split at h
    · cases of_decide_eq_true h; exact ⟨.int _, ⟨_, rfl⟩, fun _ _ => .int _⟩
    · cases h
  | u, .bool b, h => by
    unfold gvB at h
    split at h
    · cases of_decide_eq_true h; exact ⟨.bl _, rfl, fun _ _ => .bl _⟩
    · cases h
  | u, .none, h => by
    unfold gvB at h
    split at h
    · exact ⟨.non, rfl, fun _ _ => .non⟩
    · cases h
  | u, .str y, h => by
    unfold gvB at h
    split at h
    · cases of_decide_eq_true h; exact ⟨.str _, ⟨_, rfl⟩, fun _ _ => .str _⟩
    · cases h
  | u, .tuple ds, h => by
    unfold gvB at h
    split at h
    · split at h
      · rename_i a _ t _ its n _ lk
        simp only [Bool.and_eq_true, decide_eq_true_eq, Nat.ble_eq] at h
        obtain ⟨⟨rfl, h2⟩, h3⟩ := h
        obtain ⟨vs, h4, h5⟩ := gvBs_ok K _ ds h3
        exact ⟨.ref a, rfl, fun px w' => .ktup ⟨_, its, n, lk, rfl, rfl, by rw [sizeLine_eq]; omega, h4⟩ (h5 px w')⟩
      · cases h
    · cases h
  | u, .list _, h => by unfold gvB at h; cases h
  | u, .dict _, h => by unfold gvB at h; cases h
theorem gvBs_ok (K : PySem.W.Frag) : ∀ (us : List Value) (ds : List PyData), gvBs K us ds = true → ∃ vs, Vals vs us ∧ ∀ px w', RepL ⟨K, px, w'⟩ (fun _ => False) (fun _ => none) vs ds
  | [], [], _ => ⟨[], .nil, fun _ _ => .nil⟩
  | u :: us, d :: ds, h => by
    simp only [gvBs, Bool.and_eq_true] at h
    obtain ⟨v, h1, h2⟩ := gvB_ok K u d h.1
    obtain ⟨vs, h3, h4⟩ := gvBs_ok K us ds h.2
    exact ⟨v :: vs, .cons h1 h3, fun px w' => .cons (h2 px w') (h4 px w')⟩
  | [], _ :: _, h => by simp [gvBs] at h
  | _ :: _, [], h => by simp [gvBs] at h
end
def gcB (L : Lw) (K : PySem.W.Frag) (g : Nat) (x : Str) : Bool := match PySem.W.nsIn K mainGlobals x with
  | some (some u) => gvB K u (L.G.gc g)
  | _ => false
/-! ### every item of a list by its number -/
def allN {α : Type} (p : Nat → α → Bool) : Nat → List α → Bool
  | _, [] => true
  | i, x :: xs => p i x && allN p (i + 1) xs
theorem allN_ok {α : Type} {p : Nat → α → Bool} : ∀ {xs : List α} {i : Nat}, allN p i xs = true → ∀ j x, xs[j]? = some x → p (i + j) x = true
  | [], _, _, _, _, h => by simp at h
  | y :: ys, i, h, 0, x, e => by
    simp only [allN, Bool.and_eq_true] at h
    cases e
    exact h.1
  | y :: ys, i, h, j + 1, x, e => by
    simp only [allN, Bool.and_eq_true] at h
    have := allN_ok h.2 j x (by simpa using e)
    rwa [show i + 1 + j = i + (j + 1) by omega] at this
end Ev
end

section
set_option Elab.async false
set_option linter.all false
set_option maxRecDepth 100000
set_option maxHeartbeats 4000000
namespace Ev
open PySem PySem.Spec PyProof.Rows L2 L2H
/-! ### the __init__ of the classes -/
def iniB (P : Program) (K : PySem.W.Frag) (fI : Addr) (r : Addr → Bool) : Bool := match K.lookup fI with
  | some ⟨_, _, .func ⟨nm, q, params, .stmts [.Expr (.Call (.Attribute (.Call (.Name x0 p0) [] [] p1) x1 p2) [.Name x2 p3] [] p4) p5, .Assign [.Attribute (.Name x3 p6) x4 p7] (.Name x5 p8) p9], sc, gl, [(x6, cc)], .none, _, _, _, _, .ref cda, _, bl⟩, _⟩ =>
    decide (nm = "__init__") && (p2.endLine == p4.line) && decide (x0 = "super") && decide (x1 = "__init__") && decide (x2 = "at") && decide (x3 = "self") && decide (x4 = "at") && decide (x5 = "at") && decide (x6 = "__class__") && decide (gl = mainGlobals) && decide (bl = builtinsNs) && PySem.W.codeIn K (.ref cda) q && simB params && decide (parN params = (["self", "at"] : List Str)) &&
    (match K.lookup cda with
      | some ⟨_, _, .fields vs, _⟩ => (match vs[2]? with
        | some (Value.str file _) => (P.main.file : Str) == file
        | _ => false)
      | _ => false) &&
    (match K.lookup cc with
      | some ⟨_, _, .cell (some (.ref D)), _⟩ => (PySem.W.clsIn K D).isSome && r D
      | _ => false) &&
    (match sc.kind with
      | .function => true
      | _ => false) && !sc.isCoroutine && !sc.isGenerator && isLoc sc "self" && isLoc sc "at" && decide (sc.names.lookup ("__class__" : Str) = some .free) && decide (sc.names.lookup ("super" : Str) = some .globalImplicit) &&
    sc.names.all (fun y => decide (y.2 ≠ .cell)) && sc.names.all (fun y => decide (y.2 ≠ .free) || decide (y.1 = "__class__")) && !(P.main.scope.names.lookup ("super" : Str)).isSome &&
    decide (PySem.W.nsIn K mainGlobals "super" = some none) && decide (PySem.W.nsIn K cStatics "thirdparty.any" = some none)
  | _ => false
theorem hev_ok {p0 p1 p2 p3 p4 : Pos} (h : (p2.endLine == p4.line) = true) (env : Env) : eval (.Call (.Attribute (.Call (.Name "super" p0) [] [] p1) "__init__" p2) [.Name "at" p3] [] p4) env = (do
      let ov ← attributeBase (.Call (.Name "super" p0) [] [] p1) "__init__" env (eval (.Call (.Name "super" p0) [] [] p1) env)
      standAt p2.atName
      let (f, first) ← holding [ov] (getMethod ov "__init__" (do return (← importBound (.Call (.Name "super" p0) [] [] p1) env).getD true))
      callWith p4 f first (backTo p4 (starEach [.Name "at" p3] env)) []) := by
  rw [arm_eval_Call]
  have hform : methodCallForm (([.Name "at" p3] : List Expr).length + ([] : List Keyword).length) (backTo p4 (starEach [.Name "at" p3] env)) (backToKw p4 (keywordEach [] env)) = true := rfl
  have hpos : methodCallPos true (.Call (.Name "super" p0) [] [] p1) env p2 p4 = pure p4 := by unfold methodCallPos; simp [h]
  unfold methodCall
  rw [hform, hpos]
  rfl
theorem iniB_ok {P : Program} {w : World} {K : PySem.W.Frag} {fI : Addr} {r : Addr → Bool} {h : Heap} {mg : Str → Option Value} {base : Heap} (X : K.In h) (G : h.Ns mainGlobals mg) (e : iniB P K fI r = true) :
    ∃ (D : Addr) (fd : FuncData), r D = true ∧ (∀ CX, FnOk P w K mg base CX 1 fI fd ["self", "at"] (spI K D)) ∧ Binds K fd ["self", "at"] [] := by
  unfold iniB at e
  split at e
  · rename_i oc od nm q params x0 p0 p1 x1 p2 x2 p3 p4 p5 x3 p6 x4 p7 x5 p8 p9 sc gl x6 cc kV doc pm an cda ct bl osl lk
    simp only [Bool.and_eq_true, decide_eq_true_eq, Bool.not_eq_true', List.all_eq_true, Bool.or_eq_true] at e
    obtain ⟨⟨⟨⟨⟨⟨⟨⟨⟨⟨⟨⟨⟨⟨⟨⟨⟨⟨⟨⟨⟨⟨⟨⟨⟨⟨⟨rfl, hl⟩, rfl⟩, rfl⟩, rfl⟩, rfl⟩, rfl⟩, rfl⟩, rfl⟩, rfl⟩, rfl⟩, h11⟩, h12⟩, h13⟩, h14⟩, h15⟩, h16⟩, h17⟩, h18⟩, h19⟩, h20⟩, h21⟩, h22⟩, h23⟩, h24⟩, h25⟩, h26⟩, h27⟩ := e
    split at h14
    · rename_i ccl cdd vs ccs lc
      split at h14
      · rename_i file tf hv
        split at h15
        · rename_i cll cld D csl lcc
          simp only [Bool.and_eq_true] at h15
          obtain ⟨cdD, hD⟩ := Option.isSome_iff_exists.mp h15.1
          have hk : sc.kind = .function := by
            split at h16
            · assumption
            · cases h16
          have bd : ∀ us : List Value, us.length = (["self", "at"] : List Str).length → bindArgs (PySem.W.ksFn "__init__" q params (initBody p0 p1 p2 p3 p4 p5 p6 p7 p8 p9) sc .none kV doc pm an (.ref cda) ct cc) ⟨us, []⟩ = pure ((["self", "at"] : List Str).zip us) := fun us hl => by
            rw [← h13] at hl ⊢
            exact bind_sim rfl rfl h12 (by rw [h13]; decide) hl
          obtain ⟨ar, hp, har⟩ : ∃ ar, (params.posonlyargs ++ params.args).head? = some ar ∧ ar.arg = "self" := by
            unfold simB at h12
            simp only [Bool.and_eq_true, List.isEmpty_iff] at h12
            unfold parN at h13
            rw [h12.1.1.1]
            match ha : params.args, h13 with
            | [], z => simp at z
            | a :: l, z =>
              simp only [List.map_cons, List.cons.injEq] at z
              exact ⟨a, rfl, z.1⟩
          refine ⟨D, _, h15.2, fun CX => init_ok (k := 0) lk h11 hp har lc hv h14 lcc hD (PySem.W.mg_none_of X G h26) h27 hk h17 h18 (isLoc_ok h19) (isLoc_ok h20) h21 h22 (fun x hx => h23 x hx) (fun x hx => ?_) (by simpa using h25) (fun env => hev_ok hl env) (fun env => rfl) (fun env => rfl), .all bd⟩
          rcases h24 _ (PySem.mem_of_lookup hx) with z | z
          · exact absurd rfl z
          · exact z
        · cases h15
      · cases h14
    · cases h14
  · cases e
def clIB (K : PySem.W.Frag) (D C : Addr) : Bool := clB K C && decide (PySem.W.mroIn K C (.ref D) = some true) && decide (PySem.W.ks_superIn K C D "__init__" = some (some (.builtin "ValueError.__init__"))) && decide (PySem.W.subIn K (.ref C) (.type "ValueError") = some true)
def rseB (P : Program) (K : PySem.W.Frag) (C : Addr) : Bool := match PySem.W.findIn K (.ref C) "__init__" with
  | some (some (.ref fI)) => decide (PySem.W.typeIn K (.ref fI) = some (.type "function")) && iniB P K fI fun D => clIB K D C
  | _ => false
theorem rseB_ok {P : Program} {w : World} {K : PySem.W.Frag} {C : Addr} {h : Heap} {mg : Str → Option Value} {base : Heap} (X : K.In h) (G : h.Ns mainGlobals mg) (e : rseB P K C = true) :
    ∃ (D fI : Addr) (fd : FuncData), ClsI K D C ∧ PySem.W.findIn K (.ref C) "__init__" = some (some (.ref fI)) ∧ PySem.W.typeIn K (.ref fI) = some (.type "function") ∧ (∀ CX, FnOk P w K mg base CX 1 fI fd ["self", "at"] (spI K D)) ∧ Binds K fd ["self", "at"] [] := by
  unfold rseB at e
  split at e
  · rename_i fI e1
    simp only [Bool.and_eq_true, decide_eq_true_eq] at e
    obtain ⟨D, fd, r, F, B⟩ := iniB_ok (w := w) (base := base) X G e.2
    unfold clIB at r
    simp only [Bool.and_eq_true, decide_eq_true_eq] at r
    obtain ⟨⟨⟨r1, r2⟩, r3⟩, r4⟩ := r
    obtain ⟨o1, o2, o3, o4⟩ := clB_ok r1
    exact ⟨D, fI, fd, ⟨o1, r2, r3, r4, o4⟩, e1, e.1, F, B⟩
  · cases e
/-! ### all -/
def subB (L : Lw) (p : Nat → Nat → Bool → Bool) : Bool := allN (fun c' r => allN (fun c b => p c' c b) 0 r) 0 L.G.subs
theorem subB_ok {L : Lw} {p : Nat → Nat → Bool → Bool} (h : subB L p = true) {c' c : Nat} {b : Bool} (e : L.G.sub c' c = some b) : p c' c b = true := by
  unfold Pg.sub at e
  split at e
  · rename_i r hr
    have := allN_ok h c' r hr
    have := allN_ok this c b e
    simpa using this
  · cases e
def okB (L : Lw) (P : Program) (K : PySem.W.Frag) : Bool := allN (defB L K) 0 L.fns && L.hx.all (fun p => hotB L K p.1 p.2) && allN (fun c x => decide (PySem.W.nsIn K mainGlobals x = some (some (.ref (L.cl K c)))) && clB K (L.cl K c)) 0 L.cls && !L.cls.isEmpty && L.rse.all (fun c => rseB P K (L.cl K c)) && allN (gcB L K) 0 L.gcs &&
  L.free.all (fun x => decide (PySem.W.nsIn K mainGlobals x = some none)) && (!L.gcd || decide (PySem.W.nsIn K mainGlobals "gcd" = some (some (.builtin "math.gcd")))) &&
  subB L (fun c' c b => decide (PySem.W.exmOne K (.ref (L.cl K c')) (.ref (L.cl K c)) = some b) && decide (PySem.W.kitOne K (.ref (L.cl K c')) (.ref (L.cl K c)) = some b))
section
variable {L : Lw} {P : Program} {w : World} {K : PySem.W.Frag} {h : Heap} {mg : Str → Option Value}
theorem okB_run (X : K.In h) (G : h.Ns mainGlobals mg) (ok : okB L P K = true) (base : Heap) (k f : Nat) (x : Str) (hf : L.fns[f]? = some x) :
    ∃ (fa : Addr) (fd : FuncData) (ps : List Str), FnG P w K mg base (L2N.CX P w) (k + 2) fa fd ps (spF ⟨K, noPx, w⟩ (L.cl K) (run L.G k f) ps.length) ∧ (L.G.lens f).length = ps.length ∧ mg x = some (.ref fa) ∧ PySem.W.keepIn K (.ref fa) = true ∧ Binds K fd ps [] := by
  unfold okB at ok
  simp only [Bool.and_eq_true, Bool.not_eq_true', List.all_eq_true, decide_eq_true_eq, Bool.or_eq_true] at ok
  obtain ⟨⟨⟨⟨⟨⟨⟨⟨h1, h2⟩, h3⟩, h4⟩, h5⟩, h6⟩, h7⟩, h8⟩, h9⟩ := ok
  have cls : ∀ (c : Nat) (x : Str), L.cls[c]? = some x → PySem.W.nsIn K mainGlobals x = some (some (.ref (L.cl K c))) ∧ clB K (L.cl K c) = true := fun c x e => by
    have := allN_ok h3 c x e
    simpa using this
  have hcl : ∀ c, clB K (L.cl K c) = true := fun c => by
    by_cases hc : c < L.cls.length
    · exact (cls c _ (List.getElem?_eq_getElem hc)).2
    · have e0 : L.cl K c = L.cl K 0 := by
        unfold Lw.cl
        have : L.cls[c]? = none := List.getElem?_eq_none (by omega)
        rw [List.getD_eq_getElem?_getD, this]
        match L.cls, h4 with
        | [], z => cases z
        | y :: ys, _ => rfl
      rw [e0]
      match hL : L.cls, h4 with
      | [], z => cases z
      | y :: ys, _ => exact (cls 0 y (by rw [hL]; rfl)).2
  have xcl : XCl K (L.cl K) := fun c => (clB_ok (hcl c)).2
  have mgc : ∀ (c : Nat) (x : Str), L.cls[c]? = some x → mg x = some (.ref (L.cl K c)) := fun c x e => PySem.W.mg_of X G (cls c x e).1
  have mgf : ∀ x, L.free.contains x = true → mg x = none := fun x hx => PySem.W.mg_none_of X G (h7 x (by simpa using hx))
  have B : ∀ f, Base (L.Γ f) P w K mg base (L.cl K) L.G := fun f => {
    cls := mgc
    rse := fun c hc => rseB_ok X G (h5 c (by simpa [Lw.Γ] using hc))
    gc := fun g x e => by
      have := allN_ok h6 g x e
      rw [Nat.zero_add] at this
      unfold gcB at this
      split at this
      · rename_i u e1
        obtain ⟨v, r1, r2⟩ := gvB_ok K _ _ this
        exact ⟨v, u, PySem.W.mg_of X G e1, r1, fun px => r2 px w⟩
      · cases this
    free := mgf
    gcd := fun e => by
      rcases h8 with z | z
      · rw [show L.gcd = true from e] at z; cases z
      · exact PySem.W.mg_of X G z
    exm := fun c x e c' b hb => by
      have := subB_ok h9 hb
      simp only [Bool.and_eq_true, decide_eq_true_eq] at this
      exact this.1 }
  have T : ∀ (f : Nat) (M : Pm), M.sub = L.G.sub → TopH (L.Γ0 f) K mg (L.cl K) M := fun f M hM => {
    cls := mgc
    free := mgf
    kit := fun c x e c' b hb => by
      rw [hM] at hb
      have := subB_ok h9 hb
      simp only [Bool.and_eq_true, decide_eq_true_eq] at this
      exact this.2 }
  refine run_ok (Γ := L.Γ) (fns := L.fns) (fun f x e => ?_) (fun f => rfl) (fun f _ => B f) (fun f k _ => ?_) k f x hf
  · have := allN_ok h1 f x e
    rw [Nat.zero_add] at this
    exact defB_ok X G this
  · refine hot_ok (Γ := L.Γ f) (Γ1 := L.Γ0 f) (hx := L.hx) rfl (fun b sc sts z => z) (T f _ rfl) xcl fun g y hg => ?_
    have hm : (g, y) ∈ L.hx := by simpa using hg
    exact hot_run (hotB_ok X G (h2 _ hm)) (fun M hM => T g M hM) xcl k (k + 1)
end
end Ev
end

section
set_option Elab.async false
set_option linter.all false
set_option maxRecDepth 100000
set_option maxHeartbeats 4000000
set_option exponentiation.threshold 2000
namespace Ev
open PySem
/-! ## loops with an invariant -/
theorem forL_inv {t : Tg} {fb : En → R} (I : Nat → En → Prop) : ∀ (xs : List PyData) (i : Nat) (e : En), I i e →
    (∀ j x e, xs[j]? = some x → I (i + j) e → ∃ e1, asg t x e = some e1 ∧ ∃ e2, (fb e1 = .nx e2 ∨ fb e1 = .ct e2) ∧ I (i + j + 1) e2) → ∃ e', forL t fb xs e = .nx e' ∧ I (i + xs.length) e'
  | [], i, e, h, _ => ⟨e, rfl, h⟩
  | x :: xs, i, e, h, st => by
    obtain ⟨e1, h1, e2, h2, h3⟩ := st 0 x e rfl h
    obtain ⟨e', q1, q2⟩ := forL_inv I xs (i + 1) e2 h3 fun j y e hy hi => by
      have := st (j + 1) y e (by simpa using hy) (by rwa [show i + (j + 1) = i + 1 + j by omega])
      rwa [show i + (j + 1) + 1 = i + 1 + j + 1 by omega] at this
    refine ⟨e', ?_, by rwa [show i + (x :: xs).length = i + 1 + xs.length by simp; omega]⟩
    unfold forL
    rw [h1]
    rcases h2 with h2 | h2 <;> (simp only [h2]; exact q1)
theorem upto_sz (lo : Int) : ∀ n, (upto lo n).length = n
  | 0 => rfl
  | n + 1 => by simp [upto, upto_sz (lo + 1) n]
theorem upto_at : ∀ (n : Nat) (lo : Int) (j : Nat) (x : PyData), (upto lo n)[j]? = some x → x = .int (lo + j) ∧ j < n
  | 0, lo, j, x, h => by simp [upto] at h
  | n + 1, lo, 0, x, h => by
    simp [upto] at h
    exact ⟨by rw [← h]; simp, by omega⟩
  | n + 1, lo, j + 1, x, h => by
    have := upto_at n (lo + 1) j x (by simpa [upto] using h)
    refine ⟨?_, by omega⟩
    rw [this.1]
    congr 1
    omega
/-! ## the draws -/
def iDr : Ir := (.seq (.set 1 true (.lst .nil)) (.seq (.fr (.nm 2) (.itR (.cons (.blt 7 (.cons (.lit (.int 63)) (.cons (.blt 0 (.cons (.var 0) .nil)) .nil))) .nil)) (.seq (.set 3 false (.blt 2 (.cons (.ix (.var 0) (.var 2)) .nil))) (.seq (.iff (.cmp .ge (.var 3) (.bin .pow (.lit (.int 10)) (.lit (.int 18)))) (.seq (.fr (.nm 4) (.itR (.cons (.lit (.int 60)) .nil)) (.seq (.iff (.cmp .gt (.var 3) (.lit (.int 0))) (.seq (.app 1 (.bin .mod (.blt 1 (.cons (.var 3) .nil)) (.lit (.int 65536)))) (.seq (.set 3 false (.bin .div (.var 3) (.lit (.int 65536)))) .skp)) .skp) .skp)) .skp) (.seq (.set 5 false (.bin .mod (.blt 1 (.cons (.bin .add (.bin .mul (.var 3) (.lit (.int 48271))) (.bin .mul (.bin .add (.var 2) (.lit (.int 1))) (.lit (.int 69621)))) .nil)) (.lit (.int 2147483647)))) (.seq (.set 5 false (.bin .mod (.blt 1 (.cons (.bin .add (.bin .add (.bin .mul (.var 5) (.lit (.int 16807))) (.bin .mul (.lit (.int 11)) (.var 2))) (.lit (.int 5))) .nil)) (.lit (.int 2147483629)))) (.seq (.app 1 (.bin .mod (.blt 1 (.cons (.var 5) .nil)) (.lit (.int 65536)))) (.seq (.app 1 (.bin .mod (.blt 1 (.cons (.bin .div (.var 5) (.lit (.int 65536))) .nil)) (.lit (.int 32768)))) .skp))))) .skp))) (.seq (.ret (.var 1)) .skp)))
/-- the draws so far: not too long, each of at most 65535 -/
def DrOk (n : Nat) (ds : List Int) : Prop := ds.length ≤ n ∧ ∀ d ∈ ds, 0 ≤ d ∧ d < 65536
abbrev dI (ds : List Int) : PyData := .list (ds.map .int)
theorem DrOk.app {n : Nat} {ds : List Int} (h : DrOk n ds) {d : Int} (h1 : 0 ≤ d) (h2 : d < 65536) : DrOk (n + 1) (ds ++ [d]) := by
  refine ⟨by simp; exact h.1, fun x hx => ?_⟩
  rcases List.mem_append.mp hx with hx | hx
  · exact h.2 x hx
  · rw [List.mem_singleton.mp hx]; exact ⟨h1, h2⟩
theorem DrOk.mono {n n' : Nat} {ds : List Int} (h : DrOk n ds) (l : n ≤ n') : DrOk n' ds := ⟨Nat.le_trans h.1 l, h.2⟩
/-- a slot that holds nothing or data -/
def isSh : Sl → Prop
  | .no => True
  | .sh _ => True
  | _ => False
theorem big_of {i : Int} (h : i.natAbs < 2 ^ 1000) : bigOk i = true := by
  unfold bigOk
  rw [Nat.ble_eq]
  by_cases h0 : i.natAbs = 0
  · rw [h0]; decide
  · have : i.natAbs.log2 < 1000 := (Nat.log2_lt h0).mpr h
    omega
theorem dI_app (ds : List Int) (d : Int) : (ds.map PyData.int) ++ [PyData.int d] = (ds ++ [d]).map PyData.int := by simp
theorem freeS_sh {s : Sl} (h : isSh s) (e : En) (i : Nat) (q : getS e i = s) : freeS e i = true := by
  unfold freeS
  rw [q]
  cases s with
  | no => rfl
  | sh _ => rfl
  | ow _ _ _ => exact h.elim
  | ex _ _ => exact h.elim
/-! steps -/
section
variable {M : Pm} {a b c : Ir} {e e1 e2 e3 : En} {x y z : PyData} {v : Vl}
theorem seq_nx (h : ev M a e = .nx e1) : ev M (.seq a b) e = ev M b e1 := by rw [ev_seq, dSeq, h]; rfl
theorem seq_rt (h : ev M a e = .rt v e1) : ev M (.seq a b) e = .rt v e1 := by rw [ev_seq, dSeq, h]; rfl
theorem seq_eq {r : R} (h : ev M a e = .nx e1) (h2 : ev M b e1 = r) : ev M (.seq a b) e = r := (seq_nx h).trans h2
theorem iff_t (h : ev M c e = .ok (.d (.bool true)) e1) : ev M (.iff c a b) e = ev M a e1 := by rw [ev_iff, dIff, h]; rfl
theorem iff_f (h : ev M c e = .ok (.d (.bool false)) e1) : ev M (.iff c a b) e = ev M b e1 := by rw [ev_iff, dIff, h]; rfl
theorem bin_of {o : Bop} (h : ev M a e = .ok (.d x) e1) (h2 : ev M b e1 = .ok (.d y) e2) (h3 : bop o x y = some v) : ev M (.bin o a b) e = .ok v e2 := by
  rw [ev_bin, dBin, h]
  show R.bd (ev M b e1) _ = _
  rw [h2]
  show oR (bop o x y) e2 = _
  rw [h3]; rfl
theorem cmp_of {o : Cop} {t : Bool} (h : ev M a e = .ok (.d x) e1) (h2 : ev M b e1 = .ok (.d y) e2) (h3 : cop o x y = some t) : ev M (.cmp o a b) e = .ok (.d (.bool t)) e2 := by
  rw [ev_cmp, dCmp, h]
  show R.bd (ev M b e1) _ = _
  rw [h2]
  show cR (cop o x y) e2 = _
  rw [h3]; rfl
theorem blt1_of {n : Nat} {u : Vl} (h : ev M a e = .ok v e1) (h2 : res e1 v = some x) (h3 : bltF n [x] = some u) : ev M (.blt n (.cons a .nil)) e = .ok u e1 := by
  rw [ev_blt, dBlt, ev_cons, dCons, h]
  show (match ress e1 [v] with
    | some xs => oR (bltF n xs) e1
    | none => R.bad) = _
  have : ress e1 [v] = some [x] := by
    show (match res e1 v, some [] with
      | some x, some xs => some (x :: xs)
      | _, _ => none) = _
    rw [h2]
  rw [this]
  show oR (bltF n [x]) e1 = _
  rw [h3]; rfl
theorem ix_of (h : ev M a e = .ok v e1) (h2 : ev M b e1 = .ok (.d y) e2) (h4 : res e2 v = some x) (h3 : ixD x y = some z) : ev M (.ix a b) e = .ok (.d z) e2 := by
  rw [ev_ix, dIx, h]
  show R.bd (ev M b e1) _ = _
  rw [h2]
  show (match res e2 v, some y with
    | some a, some b => match ixD a b with
      | some x => R.ok (.d x) e2
      | none => .bad
    | _, _ => .bad) = _
  rw [h4]
  show (match ixD x y with
      | some x => R.ok (.d x) e2
      | none => .bad) = _
  rw [h3]
theorem set_of {i : Nat} {k : Bool} {r : R} (h : ev M a e = .ok (.d x) e1) (h2 : freeS e1 i = true) (h3 : .nx (setS e1 i (.sh x)) = r) : ev M (.set i k a) e = r := by
  rw [← h3, ev_set, dSet, h]
  show put i k (.d x) e1 = _
  unfold put
  rw [h2]
  cases k <;> rfl
theorem ret_of (h : ev M a e = .ok v e1) : ev M (.ret a) e = .rt v e1 := by rw [ev_ret, dRet, h]; rfl
theorem fr_of {t : Tg} {xs : List PyData} {ls : List Nat} (h : ev M a e = .its xs ls e1) (h2 : forL t (ev M b) xs e1 = .nx e2) : ev M (.fr t a b) e = .nx (unlock ls e2) := by
  rw [ev_fr, dFor, h]
  show (forL t (ev M b) xs e1).mp (unlock ls) = _
  rw [h2]; rfl
theorem itR_of {j : Int} (h : ev M a e = .ok (.d (.int j)) e1) (h2 : rngOk j = true) : ev M (.itR (.cons a .nil)) e = .its (upto 0 j.toNat) [] e1 := by
  rw [ev_itR, dItR, ev_cons, dCons, h]
  show (if rngOk j then R.its (upto 0 j.toNat) [] e1 else .bad) = _
  rw [h2]; rfl
end
theorem app_of {M : Pm} {a : Ir} {i : Nat} {e : En} {l : Bool} {ds : List Int} {d : Int} (h : ev M a e = .ok (.d (.int d)) e) (g : getS e i = .ow l false (dI ds)) (hl : ds.length < 5000) : ev M (.app i a) e = .nx (setS e i (.ow l false (dI (ds ++ [d])))) := by
  rw [ev_app, dApp]
  have o : ownL e i = true := by unfold ownL; rw [g]
  rw [o, h]
  show chg i _ e = _
  unfold chg
  rw [g]
  have : lenOk ((ds.map PyData.int).length + 1) = true := by
    unfold lenOk lim
    rw [Nat.ble_eq, List.length_map]
    omega
  simp only [this, if_true, dI_app]
theorem mod_bd (x m : Int) (h : 0 < m) : 0 ≤ x % m ∧ x % m < m := ⟨Int.emod_nonneg _ (by omega), Int.emod_lt_of_pos _ h⟩
theorem mul_ev {i j : Int} (hi : i.natAbs < 2 ^ 200) (hj : j.natAbs < 2 ^ 200) : bop .mul (.int i) (.int j) = some (.d (.int (i * j))) := by
  show (if _ then _ else _) = _
  rw [big_of (Nat.lt_of_lt_of_le hi (Nat.pow_le_pow_right (by decide) (by decide))), big_of (Nat.lt_of_lt_of_le hj (Nat.pow_le_pow_right (by decide) (by decide)))]
  rfl
theorem mod_ev {i j : Int} (h : 0 < j) : bop .mod (.int i) (.int j) = some (.d (.int (i % j))) := by
  show (if decide (0 < j) = true then _ else _) = _
  rw [decide_eq_true h]
  rfl
theorem ix_nat {xs : List PyData} {k : Nat} {x : PyData} (h : xs[k]? = some x) : ixD (.list xs) (.int (k : Int)) = some x := by
  show ((if Nat.ble (k + 1) xs.length = true then some k else none : Option Nat).bind fun j => xs[j]?) = _
  have hk := (List.getElem?_eq_some_iff.mp h).1
  have : Nat.ble (k + 1) xs.length = true := by rw [Nat.ble_eq]; omega
  rw [if_pos this]
  exact h
/-! the inner loop -/
def iDrIn : Ir := (.seq (.iff (.cmp .gt (.var 3) (.lit (.int 0))) (.seq (.app 1 (.bin .mod (.blt 1 (.cons (.var 3) .nil)) (.lit (.int 65536)))) (.seq (.set 3 false (.bin .div (.var 3) (.lit (.int 65536)))) .skp)) .skp) .skp)
theorem drIn_ok (M : Pm) {s0 s5 : Sl} {k tn rest : Int} {ds : List Int} {n : Nat} (h : DrOk n ds) (hn : n < 5000) (hr : 0 ≤ rest) :
    ∃ ds' rest', DrOk (n + 1) ds' ∧ 0 ≤ rest' ∧ ev M iDrIn [s0, .ow false false (dI ds), .sh (.int k), .sh (.int rest), .sh (.int tn), s5] = .nx [s0, .ow false false (dI ds'), .sh (.int k), .sh (.int rest'), .sh (.int tn), s5] := by
  by_cases hc : 0 < rest
  · refine ⟨ds ++ [rest % 65536], rest / 65536, h.app (by omega) (by omega), by omega, ?_⟩
    refine seq_eq ((iff_t (cmp_of (o := .gt) (x := .int rest) (y := .int 0) rfl rfl (congrArg some (decide_eq_true hc)))).trans ?_) rfl
    exact seq_eq (app_of (i := 1) rfl rfl (by have := h.1; omega)) (seq_eq (set_of (bin_of rfl rfl rfl) rfl rfl) rfl)
  · refine ⟨ds, rest, h.mono (by omega), hr, ?_⟩
    exact seq_eq (iff_f (cmp_of (o := .gt) (x := .int rest) (y := .int 0) rfl rfl (congrArg some (decide_eq_false hc)))) rfl
/-! the outer loop -/
def iDrBig : Ir := (.seq (.fr (.nm 4) (.itR (.cons (.lit (.int 60)) .nil)) iDrIn) .skp)
def iDrSmall : Ir := (.seq (.set 5 false (.bin .mod (.blt 1 (.cons (.bin .add (.bin .mul (.var 3) (.lit (.int 48271))) (.bin .mul (.bin .add (.var 2) (.lit (.int 1))) (.lit (.int 69621)))) .nil)) (.lit (.int 2147483647)))) (.seq (.set 5 false (.bin .mod (.blt 1 (.cons (.bin .add (.bin .add (.bin .mul (.var 5) (.lit (.int 16807))) (.bin .mul (.lit (.int 11)) (.var 2))) (.lit (.int 5))) .nil)) (.lit (.int 2147483629)))) (.seq (.app 1 (.bin .mod (.blt 1 (.cons (.var 5) .nil)) (.lit (.int 65536)))) (.seq (.app 1 (.bin .mod (.blt 1 (.cons (.bin .div (.var 5) (.lit (.int 65536))) .nil)) (.lit (.int 32768)))) .skp))))
def iDrOut : Ir := (.seq (.set 3 false (.blt 2 (.cons (.ix (.var 0) (.var 2)) .nil))) (.seq (.iff (.cmp .ge (.var 3) (.bin .pow (.lit (.int 10)) (.lit (.int 18)))) iDrBig iDrSmall) .skp))
theorem iDr_eq : iDr = .seq (.set 1 true (.lst .nil)) (.seq (.fr (.nm 2) (.itR (.cons (.blt 7 (.cons (.lit (.int 63)) (.cons (.blt 0 (.cons (.var 0) .nil)) .nil))) .nil)) iDrOut) (.seq (.ret (.var 1)) .skp)) := rfl
theorem asg_nm {i : Nat} {x : PyData} {e : En} (h : freeS e i = true) : asg (.nm i) x e = some (setS e i (.sh x)) := by
  show (if freeS e i = true then _ else _) = _
  rw [h]; rfl
theorem drBig_ok (M : Pm) {s0 s4 s5 : Sl} {k rest : Int} {ds : List Int} {n : Nat} (h : DrOk n ds) (hn : n + 60 < 5000) (hr : 0 ≤ rest) (h4 : isSh s4) :
    ∃ ds' rest' s4', DrOk (n + 60) ds' ∧ isSh s4' ∧ ev M iDrBig [s0, .ow false false (dI ds), .sh (.int k), .sh (.int rest), s4, s5] = .nx [s0, .ow false false (dI ds'), .sh (.int k), .sh (.int rest'), s4', s5] := by
  obtain ⟨e', h1, h2⟩ := forL_inv (t := .nm 4) (fb := ev M iDrIn) (fun i e => i ≤ 60 → ∃ ds rest s4, DrOk (n + i) ds ∧ 0 ≤ rest ∧ isSh s4 ∧ e = [s0, .ow false false (dI ds), .sh (.int k), .sh (.int rest), s4, s5]) (upto 0 60) 0 _ (fun _ => ⟨ds, rest, s4, h, hr, h4, rfl⟩) fun j x e hj hI => by
    obtain ⟨rfl, hj⟩ := upto_at 60 0 j x hj
    obtain ⟨ds, rest, s4, g1, g2, g3, rfl⟩ := hI (by omega)
    obtain ⟨ds', rest', q1, q2, q3⟩ := drIn_ok M (s0 := s0) (s5 := s5) (k := k) (tn := 0 + j) (rest := rest) g1 (by omega) g2
    exact ⟨_, asg_nm (freeS_sh g3 _ 4 rfl), _, .inl q3, fun _ => ⟨ds', rest', .sh (.int (0 + j)), by rwa [show n + (0 + j + 1) = n + (0 + j) + 1 by omega], q2, trivial, rfl⟩⟩
  rw [upto_sz] at h2
  obtain ⟨ds', rest', s4', g1, g2, g3, rfl⟩ := h2 (by omega)
  exact ⟨ds', rest', s4', by rwa [Nat.zero_add] at g1, g3, seq_eq (fr_of (itR_of rfl rfl) h1) rfl⟩
theorem drSmall_ok (M : Pm) {s0 s4 s5 : Sl} {k rest : Int} {ds : List Int} {n : Nat} (h : DrOk n ds) (hn : n + 2 < 5000) (hr : 0 ≤ rest) (hb : rest < 10 ^ 18) (hk : 0 ≤ k) (hk2 : k < 1000) (h5 : isSh s5) :
    ∃ ds' s5', DrOk (n + 2) ds' ∧ isSh s5' ∧ ev M iDrSmall [s0, .ow false false (dI ds), .sh (.int k), .sh (.int rest), s4, s5] = .nx [s0, .ow false false (dI ds'), .sh (.int k), .sh (.int rest), s4, s5'] := by
  have big : ∀ i : Int, i.natAbs < 2 ^ 64 → i.natAbs < 2 ^ 200 := fun i hi => Nat.lt_of_lt_of_le hi (Nat.pow_le_pow_right (by decide) (by decide))
  generalize hm1 : (rest * 48271 + (k + 1) * 69621) % 2147483647 = m1
  have b1 := mod_bd (rest * 48271 + (k + 1) * 69621) 2147483647 (by decide)
  rw [hm1] at b1
  generalize hm2 : (m1 * 16807 + 11 * k + 5) % 2147483629 = m2
  have d1 := h.app (d := m2 % 65536) (mod_bd m2 65536 (by decide)).1 (mod_bd m2 65536 (by decide)).2
  have d2 := d1.app (d := m2 / 65536 % 32768) (mod_bd _ 32768 (by decide)).1 (Int.lt_trans (mod_bd (m2 / 65536) 32768 (by decide)).2 (by decide))
  refine ⟨ds ++ [m2 % 65536] ++ [m2 / 65536 % 32768], .sh (.int m2), d2, trivial, ?_⟩
  refine seq_eq (e1 := [s0, .ow false false (dI ds), .sh (.int k), .sh (.int rest), s4, .sh (.int m1)]) ?_ (seq_eq (e1 := [s0, .ow false false (dI ds), .sh (.int k), .sh (.int rest), s4, .sh (.int m2)]) ?_ (seq_eq (app_of (i := 1) rfl rfl (by have := h.1; omega)) (seq_eq (app_of (i := 1) rfl rfl (by have := d1.1; omega)) rfl)))
  · subst hm1
    refine set_of (bin_of (blt1_of (bin_of (bin_of (x := .int rest) (y := .int 48271) rfl rfl (mul_ev (big _ ?_) (big _ ?_))) (bin_of (x := .int (k + 1)) (y := .int 69621) (bin_of rfl rfl rfl) rfl (mul_ev (big _ ?_) (big _ ?_))) rfl) rfl rfl) rfl (mod_ev (j := 2147483647) ?_)) ?_ rfl
    all_goals first | exact freeS_sh h5 _ 5 rfl | decide | omega
  · subst hm2
    refine set_of (bin_of (blt1_of (bin_of (bin_of (bin_of (x := .int m1) (y := .int 16807) rfl rfl (mul_ev (big _ ?_) (big _ ?_))) (bin_of (x := .int 11) (y := .int k) rfl rfl (mul_ev (big _ ?_) (big _ ?_))) rfl) rfl rfl) rfl rfl) rfl (mod_ev (j := 2147483629) ?_)) ?_ rfl
    all_goals first | rfl | decide | omega
theorem drOut_ok (M : Pm) {ns : List Int} {s3 s4 s5 : Sl} {k : Nat} {ds : List Int} {n : Nat} (h : DrOk n ds) (hn : n + 60 < 5000) (hk : k < ns.length) (hk2 : k < 1000) (h3 : isSh s3) (h4 : isSh s4) (h5 : isSh s5) :
    ∃ ds' s3' s4' s5', DrOk (n + 60) ds' ∧ isSh s3' ∧ isSh s4' ∧ isSh s5' ∧ ev M iDrOut [.sh (dI ns), .ow false false (dI ds), .sh (.int k), s3, s4, s5] = .nx [.sh (dI ns), .ow false false (dI ds'), .sh (.int k), s3', s4', s5'] := by
  generalize hx : ns[k] = x
  have hg : (ns.map PyData.int)[k]? = some (.int x) := by
    rw [List.getElem?_map, List.getElem?_eq_getElem hk, hx]
    rfl
  generalize hr' : (if x < 0 then -x else x) = rest
  have hr : 0 ≤ rest := by rw [← hr']; split <;> omega
  have p1 : ev M (.set 3 false (.blt 2 (.cons (.ix (.var 0) (.var 2)) .nil))) [.sh (dI ns), .ow false false (dI ds), .sh (.int k), s3, s4, s5] = .nx [.sh (dI ns), .ow false false (dI ds), .sh (.int k), .sh (.int rest), s4, s5] := by
    subst hr'
    refine set_of (blt1_of (ix_of rfl rfl rfl (ix_nat hg)) rfl rfl) ?_ rfl
    exact freeS_sh h3 _ 3 rfl
  by_cases hc : 10 ^ 18 ≤ rest
  · obtain ⟨ds', rest', s4', g1, g2, g3⟩ := drBig_ok M (s0 := .sh (dI ns)) (s4 := s4) (s5 := s5) (k := k) h hn hr h4
    exact ⟨ds', .sh (.int rest'), s4', s5, g1, trivial, g2, h5, seq_eq p1 (seq_eq ((iff_t (cmp_of (o := .ge) (x := .int rest) (y := .int (10 ^ 18)) rfl (bin_of rfl rfl rfl) (congrArg some (decide_eq_true hc)))).trans g3) rfl)⟩
  · obtain ⟨ds', s5', g1, g2, g3⟩ := drSmall_ok M (s0 := .sh (dI ns)) (s4 := s4) (s5 := s5) (k := k) h (by omega) hr (by omega) (by omega) (by omega) h5
    exact ⟨ds', .sh (.int rest), s4, s5', g1.mono (by omega), trivial, h4, g2, seq_eq p1 (seq_eq ((iff_f (cmp_of (o := .ge) (x := .int rest) (y := .int (10 ^ 18)) rfl (bin_of rfl rfl rfl) (congrArg some (decide_eq_false hc)))).trans g3) rfl)⟩
theorem draws_ok (M : Pm) (ns : List Int) : ∃ ds : List Int, DrOk 3780 ds ∧ fin [.sh (dI ns)] (ev M iDr [.sh (dI ns), .no, .no, .no, .no, .no]) = .ret (.o (dI ds)) [.no] := by
  generalize hn' : (if (ns.length : Int) < 63 then (ns.length : Int) else 63) = n
  have hn : n.toNat ≤ 63 ∧ n.toNat ≤ ns.length := by rw [← hn']; split <;> omega
  have hn0 : 0 ≤ n ∧ n ≤ 63 := by rw [← hn']; split <;> omega
  obtain ⟨e', h1, h2⟩ := forL_inv (t := .nm 2) (fb := ev M iDrOut) (fun i e => i ≤ 63 → ∃ ds s2 s3 s4 s5, DrOk (60 * i) ds ∧ isSh s2 ∧ isSh s3 ∧ isSh s4 ∧ isSh s5 ∧ e = [.sh (dI ns), .ow false false (dI ds), s2, s3, s4, s5]) (upto 0 n.toNat) 0 [.sh (dI ns), .ow false false (dI []), .no, .no, .no, .no] (fun _ => ⟨[], .no, .no, .no, .no, ⟨Nat.zero_le _, fun d hd => absurd hd List.not_mem_nil⟩, trivial, trivial, trivial, trivial, rfl⟩) fun j x e hj hI => by
    obtain ⟨rfl, hj⟩ := upto_at n.toNat 0 j x hj
    obtain ⟨ds, s2, s3, s4, s5, g1, g2, g3, g4, g5, rfl⟩ := hI (by omega)
    obtain ⟨ds', s3', s4', s5', q1, q3, q4, q5, q⟩ := drOut_ok M (ns := ns) (k := j) g1 (by omega) (by omega) (by omega) g3 g4 g5
    refine ⟨_, asg_nm (freeS_sh g2 _ 2 rfl), _, .inl (by rw [Int.zero_add]; exact q), fun _ => ⟨ds', .sh (.int j), s3', s4', s5', by rwa [show 60 * (0 + j + 1) = 60 * (0 + j) + 60 by omega], trivial, q3, q4, q5, rfl⟩⟩
  rw [upto_sz] at h2
  obtain ⟨ds, s2, s3, s4, s5, g1, _, _, _, _, rfl⟩ := h2 (by omega)
  refine ⟨ds, g1.mono (by omega), ?_⟩
  have a : ev M (.itR (.cons (.blt 7 (.cons (.lit (.int 63)) (.cons (.blt 0 (.cons (.var 0) .nil)) .nil))) .nil)) [.sh (dI ns), .ow false false (dI []), .no, .no, .no, .no] = .its (upto 0 n.toNat) [] [.sh (dI ns), .ow false false (dI []), .no, .no, .no, .no] := by
    refine itR_of (j := n) ?_ ?_
    · show R.ok (.d (.int (if ((ns.map PyData.int).length : Int) < 63 then ((ns.map PyData.int).length : Int) else 63))) _ = _
      rw [List.length_map, hn']
    · show (decide (-1048576 ≤ n) && decide (n ≤ 1048576)) = true
      rw [decide_eq_true (show -1048576 ≤ n by omega), decide_eq_true (show n ≤ 1048576 by omega)]
      rfl
  rw [iDr_eq, seq_nx (e1 := [.sh (dI ns), .ow false false (dI []), .no, .no, .no, .no]) rfl, seq_nx (fr_of a h1)]
  rfl
/-! ## the mix -/
def iMxB : Ir := (.seq (.iff (.cmp .lt (.var 1) (.blt 0 (.cons (.var 0) .nil))) (.seq (.ret (.bin .mod (.blt 1 (.cons (.var 3) .nil)) (.var 2))) .skp) .skp) (.seq (.ret (.bin .mod (.blt 1 (.cons (.bin .div (.blt 1 (.cons (.bin .add (.bin .mul (.var 3) (.lit (.int 7919))) (.bin .mul (.var 1) (.lit (.int 104729)))) .nil)) (.lit (.int 3))) .nil)) (.var 2))) .skp))
def iMx : Ir := (.seq (.set 3 false (.lit (.int 0))) (.seq (.iff (.cmp .gt (.blt 0 (.cons (.var 0) .nil)) (.lit (.int 0))) (.seq (.set 3 false (.ix (.var 0) (.bin .mod (.blt 1 (.cons (.var 1) .nil)) (.blt 0 (.cons (.var 0) .nil))))) .skp) .skp) iMxB))
theorem mxB_ok (M : Pm) {ds : List Int} {k many c : Int} (hk : 0 ≤ k) (hk2 : k < 2 ^ 100) (hc : 0 ≤ c) (hc2 : c < 65536) (hm : 0 < many) :
    ∃ r : Int, 0 ≤ r ∧ r < many ∧ ev M iMxB [.sh (dI ds), .sh (.int k), .sh (.int many), .sh (.int c)] = .rt (.d (.int r)) [.sh (dI ds), .sh (.int k), .sh (.int many), .sh (.int c)] := by
  have big : ∀ i : Int, i.natAbs < 2 ^ 101 → i.natAbs < 2 ^ 200 := fun i hi => Nat.lt_of_lt_of_le hi (Nat.pow_le_pow_right (by decide) (by decide))
  by_cases h : k < ((ds.map PyData.int).length : Int)
  · refine ⟨c % many, (mod_bd c many hm).1, (mod_bd c many hm).2, ?_⟩
    refine seq_rt ((iff_t (cmp_of (o := .lt) (x := .int k) (y := .int ((ds.map PyData.int).length : Int)) rfl (blt1_of rfl rfl rfl) (congrArg some (decide_eq_true h)))).trans ?_)
    exact seq_rt (ret_of (bin_of rfl rfl (mod_ev hm)))
  · refine ⟨(c * 7919 + k * 104729) / 3 % many, (mod_bd _ many hm).1, (mod_bd _ many hm).2, ?_⟩
    refine seq_eq ((iff_f (cmp_of (o := .lt) (x := .int k) (y := .int ((ds.map PyData.int).length : Int)) rfl (blt1_of rfl rfl rfl) (congrArg some (decide_eq_false h)))).trans rfl) ?_
    refine seq_rt (ret_of (bin_of (blt1_of (bin_of (blt1_of (bin_of (bin_of (x := .int c) (y := .int 7919) rfl rfl (mul_ev (big _ ?_) (big _ ?_))) (bin_of (x := .int k) (y := .int 104729) rfl rfl (mul_ev (big _ ?_) (big _ ?_))) rfl) rfl rfl) rfl rfl) rfl rfl) rfl (mod_ev hm)))
    all_goals first | decide | omega
theorem mix_ok (M : Pm) {ds : List Int} {n : Nat} {k many : Int} (hd : DrOk n ds) (hk : 0 ≤ k) (hk2 : k < 2 ^ 100) (hm : 0 < many) :
    ∃ r : Int, 0 ≤ r ∧ r < many ∧ fin [.sh (dI ds), .sh (.int k), .sh (.int many)] (ev M iMx [.sh (dI ds), .sh (.int k), .sh (.int many), .no]) = .ret (.d (.int r)) [.no, .no, .no] := by
  have key : ∀ c : Int, 0 ≤ c → c < 65536 → ev M iMx [.sh (dI ds), .sh (.int k), .sh (.int many), .no] = ev M iMxB [.sh (dI ds), .sh (.int k), .sh (.int many), .sh (.int c)] → ∃ r : Int, 0 ≤ r ∧ r < many ∧ fin [.sh (dI ds), .sh (.int k), .sh (.int many)] (ev M iMx [.sh (dI ds), .sh (.int k), .sh (.int many), .no]) = .ret (.d (.int r)) [.no, .no, .no] := fun c h1 h2 h3 => by
    obtain ⟨r, q1, q2, q3⟩ := mxB_ok M (ds := ds) hk hk2 h1 h2 hm
    exact ⟨r, q1, q2, by rw [h3, q3]; rfl⟩
  by_cases h : 0 < ((ds.map PyData.int).length : Int)
  · have hl : 0 < ds.length := by rw [List.length_map] at h; omega
    have bd := mod_bd k ds.length (by omega)
    have hj : (k % (ds.length : Int)).toNat < ds.length := by omega
    refine key ds[(k % (ds.length : Int)).toNat] (hd.2 _ (List.getElem_mem hj)).1 (hd.2 _ (List.getElem_mem hj)).2 ?_
    have hg : (ds.map PyData.int)[(k % (ds.length : Int)).toNat]? = some (.int ds[(k % (ds.length : Int)).toNat]) := by
      rw [List.getElem?_map, List.getElem?_eq_getElem hj]
      rfl
    have p : bop .mod (.int k) (.int ((ds.map PyData.int).length : Int)) = some (.d (.int ((k % (ds.length : Int)).toNat : Int))) := by
      rw [mod_ev h, List.length_map, Int.toNat_of_nonneg bd.1]
    refine seq_eq (e1 := [.sh (dI ds), .sh (.int k), .sh (.int many), .sh (.int 0)]) rfl ?_
    exact seq_nx ((iff_t (cmp_of (o := .gt) (x := .int ((ds.map PyData.int).length : Int)) (y := .int 0) (blt1_of rfl rfl rfl) rfl (congrArg some (decide_eq_true h)))).trans (seq_eq (set_of (ix_of rfl (bin_of (blt1_of rfl rfl rfl) (blt1_of rfl rfl rfl) p) rfl (ix_nat hg)) rfl rfl) rfl))
  · refine key 0 (by decide) (by decide) ?_
    refine seq_eq (e1 := [.sh (dI ds), .sh (.int k), .sh (.int many), .sh (.int 0)]) rfl ?_
    exact seq_nx ((iff_f (cmp_of (o := .gt) (x := .int ((ds.map PyData.int).length : Int)) (y := .int 0) (blt1_of rfl rfl rfl) rfl (congrArg some (decide_eq_false h)))).trans rfl)
end Ev
end

section
set_option Elab.async false
set_option linter.all false
set_option maxRecDepth 100000
set_option maxHeartbeats 4000000
namespace Ev
open PySem PySem.Spec PyProof.Rows L2 L2H
/-! ## the law's head: what is left is a statement about run -/
theorem walkL (L : Lw) {l : PySem.W.OpenLaw} {n k f : Nat} {q : Program} {loose : List Str} {XP : (Str → Option Value) → Heap → Prop} {YP : World → Heap → Prop} {d : DefRec} {K : Params → PySem.W.Frag}
    (hn : l.most = some n) (hn2 : n ≤ sizeLine) (hdf : d.params.defaults = []) (hr : Room (k + 2) callerA) (hY : ∀ (w : World) (h : Heap), YP w h → (K w.params).In h)
    (hf : L.fns[f]? = some d.name) (h1 : (L.G.lens f).length = 1) (ok : ∀ p : Params, okB L l.prog (K p) = true)
    (law : ∀ ns : List Int, ns.length ≤ n → run L.G k f [.sh (.list (ns.map PyData.int))] = .ret (.d (.bool true)) [.no]) :
    PySem.W.WalkO q loose XP YP l.row.toRowW d [] (fun f vs => PySem.call f vs) := by
  refine walkG (l := l) (n := n) (k := k + 2) (CX := fun w => L2N.CX l.prog w) (sp := fun w => spF ⟨K w.params, noPx, w⟩ (L.cl (K w.params)) (run L.G k f) 1) hn hn2 hdf hr hY (fun w mg fa h X G hmg base _ _ => ?_) (fun w H a ns hl _ hS => start_spF hS (law ns hl)) (fun w H s e s' h => ?_)
  · obtain ⟨fa', fd, ps, F, hps, e, _, B⟩ := okB_run (w := w) X G (ok w.params) base k f d.name hf
    have : fa' = fa := by
      rw [e] at hmg
      cases hmg; rfl
    subst this
    rw [h1] at hps
    match ps, hps with
    | [y], _ => exact ⟨fd, y, F, fun s u hk => B s [u] hk rfl⟩
  · obtain ⟨_, _, _, _, _, _, _, _, _, _, _, _, p⟩ := h
    exact p
end Ev
end

section
set_option Elab.async false
set_option linter.all false
set_option maxRecDepth 100000
set_option maxHeartbeats 4000000
namespace Ev
open PySem PySem.Spec PyProof.Rows L2
/-! ## texts shown are texts -/
abbrev sOk (x : Str) : Prop := ∀ c ∈ x.cps.toList, c < 0x110000
theorem sOk_iff {x : Str} : PyData.strOk x = true ↔ sOk x := by
  unfold PyData.strOk
  rw [← Array.all_toList, List.all_eq_true]
  simp only [decide_eq_true_eq]
theorem sOk_of (s : String) : sOk (Str.ofString s) := by
  rw [Str.ofString_eq_toList]
  intro c hc
  simp only [List.mem_map] at hc
  obtain ⟨ch, _, rfl⟩ := hc
  have := ch.valid
  have h2 : ch.toNat = ch.val.toNat := rfl
  rcases this with h | ⟨_, h⟩ <;> omega
theorem sOk_app {x y : Str} (hx : sOk x) (hy : sOk y) : sOk (x ++ y) := by
  intro c hc
  have e : (x ++ y).cps = x.cps ++ y.cps := rfl
  rw [e, Array.toList_append, List.mem_append] at hc
  rcases hc with h | h
  · exact hx c h
  · exact hy c h
theorem sOk_textFrom : ∀ (ts : List Str) (k : Nat) (acc : Str), sOk acc → (∀ t ∈ ts, sOk t) → sOk (textFrom k acc ts)
  | [], _, _, ha, _ => ha
  | t :: ts, k, acc, ha, h => by
    unfold textFrom
    exact sOk_textFrom ts (k + 1) _ (sOk_app (sOk_app ha (sOk_of _)) (h t List.mem_cons_self)) fun u hu => h u (List.mem_cons_of_mem _ hu)
theorem sOk_join (sep : Str) (hs : sOk sep) : ∀ ts : List Str, (∀ t ∈ ts, sOk t) → sOk (Str.join sep ts)
  | [], _ => fun c hc => by simp [Str.join, Str.empty] at hc
  | [x], h => h x List.mem_cons_self
  | x :: y :: r, h => by
    show sOk (x ++ sep ++ Str.join sep (y :: r))
    exact sOk_app (sOk_app (h x List.mem_cons_self) hs) (sOk_join sep hs (y :: r) fun u hu => h u (List.mem_cons_of_mem _ hu))
theorem digits_ok (b n : Nat) : ∀ c ∈ (Nat.toDigits b n).map Char.toNat, c < 0x110000 := by
  intro c hc
  simp only [List.mem_map] at hc
  obtain ⟨ch, _, rfl⟩ := hc
  have := ch.valid
  have h2 : ch.toNat = ch.val.toNat := rfl
  rcases this with h | ⟨_, h⟩ <;> omega
theorem reprChar_ok {q c : Nat} (hc : c < 0x110000) : ∀ d ∈ PySem.Builtin.Str.reprChar q c, d < 0x110000 := by
  have hx : ∀ w, ∀ d ∈ List.replicate (w - ((Nat.toDigits 16 c).map Char.toNat).length) 48 ++ (Nat.toDigits 16 c).map Char.toNat, d < 0x110000 := fun w d hd => by
    rcases List.mem_append.mp hd with h | h
    · rw [List.eq_of_mem_replicate h]; decide
    · exact digits_ok 16 c d h
  intro d hd
  unfold PySem.Builtin.Str.reprChar at hd
  dsimp only at hd
  split at hd
  · simp only [List.mem_cons, List.not_mem_nil, or_false] at hd; omega
  split at hd
  · simp only [List.mem_cons, List.not_mem_nil, or_false] at hd; omega
  split at hd
  · simp only [List.mem_cons, List.not_mem_nil, or_false] at hd; omega
  split at hd
  · simp only [List.mem_cons, List.not_mem_nil, or_false] at hd; omega
  split at hd
  · simp only [List.mem_cons, List.not_mem_nil, or_false] at hd; omega
  split at hd
  · rcases List.mem_append.mp hd with h | h
    · simp only [List.mem_cons, List.not_mem_nil, or_false] at h; omega
    · exact hx 2 d h
  split at hd
  · rcases List.mem_append.mp hd with h | h
    · simp only [List.mem_cons, List.not_mem_nil, or_false] at h; omega
    · exact hx 4 d h
  · rcases List.mem_append.mp hd with h | h
    · simp only [List.mem_cons, List.not_mem_nil, or_false] at h; omega
    · exact hx 8 d h
theorem sOk_fold (q : Nat) : ∀ (l : List Nat) (acc : Array Nat), (∀ c ∈ l, c < 0x110000) → (∀ c ∈ acc.toList, c < 0x110000) → ∀ c ∈ (l.foldl (fun out c => out ++ (PySem.Builtin.Str.reprChar q c).toArray) acc).toList, c < 0x110000
  | [], acc, _, ha => ha
  | x :: l, acc, hl, ha => by
    rw [List.foldl_cons]
    refine sOk_fold q l _ (fun c hc => hl c (List.mem_cons_of_mem _ hc)) fun c hc => ?_
    rw [Array.toList_append, List.mem_append] at hc
    rcases hc with h | h
    · exact ha c h
    · exact reprChar_ok (hl x List.mem_cons_self) c h
theorem sOk_repr {x : Str} (h : sOk x) : sOk (reprText x) := by
  have hq : reprQuote x < 0x110000 := by unfold reprQuote; split <;> decide
  unfold reprText
  intro c hc
  rw [Array.toList_push, List.mem_append] at hc
  rcases hc with hc | hc
  · rw [← Array.foldl_toList] at hc
    exact sOk_fold (reprQuote x) x.cps.toList _ h (fun d hd => by
      rw [List.mem_singleton.mp hd]
      exact hq) c hc
  · rw [List.mem_singleton.mp hc]
    exact hq
mutual
theorem shown_ok : ∀ (n : Nat) (x : PyData), okD n x = true → sOk x.shown
  | _, .none, _ => by rw [PyData.shown]; exact sOk_of _
  | _, .bool b, _ => by rw [PyData.shown]; split <;> exact sOk_of _
  | _, .int i, _ => by rw [PyData.shown]; exact sOk_of _
  | _, .str x, h => by
    rw [PyData.shown]
    exact sOk_repr (sOk_iff.mp (by simpa only [okD] using h))
  | n, .list xs, h => by
    rw [PyData.shown]
    exact sOk_app (sOk_textFrom _ _ _ (sOk_of _) (shownAll_ok n xs (by simpa only [okD] using h))) (sOk_of _)
  | n, .tuple xs, h => by
    rw [PyData.shown]
    exact sOk_app (sOk_app (sOk_of _) (sOk_join _ (sOk_of _) _ (shownAll_ok n xs (by simpa only [okD] using h)))) (sOk_of _)
  | _, .dict _, h => by simp [okD] at h
theorem shownAll_ok : ∀ (n : Nat) (xs : List PyData), okDs n xs = true → ∀ t ∈ PyData.shownAll xs, sOk t
  | _, [], _, t, ht => by simp [PyData.shownAll] at ht
  | 0, _ :: _, h, _, _ => by simp [okDs] at h
  | n + 1, x :: xs, h, t, ht => by
    have h' : okD n x = true ∧ okDs (n + 1) xs = true := by simpa only [okDs, Bool.and_eq_true] using h
    rw [PyData.shownAll] at ht
    rcases List.mem_cons.mp ht with rfl | ht
    · exact shown_ok n x h'.1
    · exact shownAll_ok (n + 1) xs h'.2 t ht
end
theorem shp_shown {x : PyData} (h : showOk x = true) : shp (.str x.shown) = true := by
  unfold showOk at h
  simp only [Bool.and_eq_true] at h
  show PyData.strOk x.shown = true
  exact sOk_iff.mpr (shown_ok 40 x h.1.1)
/-! ## the same data -/
theorem eqv_same {x : PyData} (h : shp x = true) : PyData.eqv x x = true := PySem.SeqAt.eqv_refl x (okD_ok 40 x h).1
theorem ne_same {x : PyData} (h : shp x = true) : cop .ne x x = some false := by
  have e := eqv_same h
  cases x <;> first | (simp [cop]; done) | (simp only [cop, h, e, Bool.and_self, if_true, Bool.not_true])
theorem eq_same {x : PyData} (h : shp x = true) : cop .eq x x = some true := by
  have e := eqv_same h
  cases x <;> first | (simp [cop]; done) | (simp only [cop, h, e, Bool.and_self, if_true])
/-! ## parts that can be shown -/
def repOk (x : PyData) : Bool := okD 39 x && intsOk x && Nat.ble (wgt x) 2000
theorem reps_wgt : ∀ xs : List PyData, xs.all repOk = true → wgts xs ≤ 2001 * xs.length ∧ intsOks xs = true ∧ okDs 40 xs = true
  | [], _ => ⟨by simp [wgts], rfl, rfl⟩
  | x :: xs, h => by
    simp only [List.all_cons, Bool.and_eq_true] at h
    obtain ⟨h1, h2⟩ := h
    unfold repOk at h1
    simp only [Bool.and_eq_true, Nat.ble_eq] at h1
    obtain ⟨a, b, c⟩ := reps_wgt xs h2
    refine ⟨by simp only [wgts, List.length_cons]; omega, by simp [intsOks, h1.1.2, b], by simp [okDs, h1.1.1, c]⟩
theorem shp_list {xs : List PyData} (h : xs.all repOk = true) : shp (.list xs) = true := (reps_wgt xs h).2.2
theorem show_tup {xs : List PyData} (h : xs.all repOk = true) (hl : xs.length ≤ 4) : showOk (.tuple xs) = true := by
  obtain ⟨a, b, c⟩ := reps_wgt xs h
  have d : shp (.tuple xs) = true := c
  have e : intsOk (.tuple xs) = true := b
  have f : Nat.ble (wgt (.tuple xs)) 8192 = true := by rw [Nat.ble_eq]; show wgts xs ≤ 8192; omega
  unfold showOk
  rw [d, e, f]; rfl
theorem show_list {xs : List PyData} (h : repOk (.list xs) = true) : showOk (.list xs) = true := by
  unfold repOk at h
  simp only [Bool.and_eq_true, Nat.ble_eq] at h
  have d : shp (.list xs) = true := okD_up 39 _ h.1.1
  have f : Nat.ble (wgt (.list xs)) 8192 = true := by rw [Nat.ble_eq]; omega
  unfold showOk
  rw [d, h.1.2, f]; rfl
end Ev
end

section
set_option Elab.async false
set_option linter.all false
set_option maxRecDepth 100000
set_option maxHeartbeats 4000000
namespace Ev
open PySem PySem.Spec PyProof.Rows L2
/-! ## tables -/
theorem tb1 {α : Type} {n : Nat} {f g : Nat → α} (h : (List.range n).map f = (List.range n).map g) : ∀ i, i < n → f i = g i := fun i hi => List.map_inj_left.mp h i (List.mem_range.mpr hi)
theorem tb2 {α : Type} {n m : Nat} {f g : Nat → Nat → α} (h : (List.range n).map (fun i => (List.range m).map (f i)) = (List.range n).map (fun i => (List.range m).map (g i))) : ∀ i, i < n → ∀ j, j < m → f i j = g i j := fun i hi => tb1 (tb1 h i hi)
theorem tb3 {α : Type} {n m l : Nat} {f g : Nat → Nat → Nat → α} (h : (List.range n).map (fun i => (List.range m).map fun j => (List.range l).map (f i j)) = (List.range n).map (fun i => (List.range m).map fun j => (List.range l).map (g i j))) : ∀ i, i < n → ∀ j, j < m → ∀ k, k < l → f i j k = g i j k := fun i hi j hj => tb1 (tb1 (tb1 h i hi) j hj)
theorem tb4 {α : Type} {n m l o : Nat} {f g : Nat → Nat → Nat → Nat → α} (h : (List.range n).map (fun i => (List.range m).map fun j => (List.range l).map fun k => (List.range o).map (f i j k)) = (List.range n).map (fun i => (List.range m).map fun j => (List.range l).map fun k => (List.range o).map (g i j k))) : ∀ i, i < n → ∀ j, j < m → ∀ k, k < l → ∀ p, p < o → f i j k p = g i j k p := fun i hi j hj k hk => tb1 (tb1 (tb1 (tb1 h i hi) j hj) k hk)
/-- the i-th item -/
def tab (xs : List PyData) (i : Nat) : PyData := xs.getD i .none
theorem tab_get {xs : List PyData} {i : Nat} (h : i < xs.length) : xs[i]? = some (tab xs i) := by
  unfold tab
  rw [List.getD_eq_getElem?_getD, List.getElem?_eq_getElem h]
  rfl
theorem nat_of {r : Int} {n : Nat} (h : 0 ≤ r) (h2 : r < (n : Int)) : ∃ i : Nat, i < n ∧ r = (i : Int) := ⟨r.toNat, by omega, by omega⟩
/-! ## slots -/
theorem ss_ss : ∀ (e : En) (i : Nat) (s t : Sl), setS (setS e i s) i t = setS e i t
  | [], _, _, _ => rfl
  | _ :: _, 0, _, _ => rfl
  | x :: r, i + 1, s, t => congrArg (x :: ·) (ss_ss r i s t)
theorem gs_ss : ∀ (e : En) (i : Nat) (s : Sl), i < e.length → getS (setS e i s) i = s
  | [], _, _, h => absurd h (Nat.not_lt_zero _)
  | _ :: _, 0, _, _ => rfl
  | x :: r, i + 1, s, h => gs_ss r i s (Nat.lt_of_succ_lt_succ h)
theorem ss_gs : ∀ (e : En) (i : Nat), i < e.length → setS e i (getS e i) = e
  | [], _, h => absurd h (Nat.not_lt_zero _)
  | _ :: _, 0, _ => rfl
  | x :: r, i + 1, h => congrArg (x :: ·) (ss_gs r i (Nat.lt_of_succ_lt_succ h))
theorem len_ss : ∀ (e : En) (i : Nat) (s : Sl), (setS e i s).length = e.length
  | [], _, _ => rfl
  | _ :: _, 0, _ => rfl
  | x :: r, i + 1, s => congrArg (· + 1) (len_ss r i s)
/-! ## more steps -/
section
variable {M : Pm} {a b c : Ir} {e e1 e2 e3 : En} {x y z : PyData} {v u : Vl}
theorem cons_of {vs : List Vl} (h : ev M a e = .ok v e1) (h2 : ev M b e1 = .oks vs e2) : ev M (.cons a b) e = .oks (v :: vs) e2 := by
  rw [ev_cons, dCons, h]
  show R.bds (ev M b e1) _ = _
  rw [h2]; rfl
theorem setV_of {i : Nat} {k : Bool} {r : R} (h : ev M a e = .ok v e1) (h1 : take e1 v = some (x, e1)) (hk : k = false) (h2 : freeS e1 i = true) (h3 : .nx (setS e1 i (.sh x)) = r) : ev M (.set i k a) e = r := by
  subst hk
  rw [← h3, ev_set, dSet, h]
  show put i false v e1 = _
  unfold put
  rw [h2]
  cases v <;> simp only [if_true, h1]
theorem setLV_of {i : Nat} {k : Bool} {own : List Nat} {t : Tg} {r : R} (h : ev M (.lc own t a b c) e = .ok v e1) (h1 : take e1 v = some (x, e1)) (hk : k = false) (h2 : freeS e1 i = true) (h3 : .nx (setS e1 i (.sh x)) = r) : ev M (.setL i k own t a b c) e = r := by
  subst hk
  rw [← h3, ev_setL, dSet, ← ev_lc, h]
  show put i false v e1 = _
  unfold put
  rw [h2]
  cases v <;> simp only [if_true, h1]
theorem setT2_of {i j : Nat} {r : R} (h : ev M a e = .ok v e1) (h1 : take e1 v = some (.tuple [x, y], e1)) (h2 : freeS e1 i = true) (h3 : freeS (setS e1 i (.sh x)) j = true) (h4 : .nx (setS (setS e1 i (.sh x)) j (.sh y)) = r) : ev M (.setT (.tp [.nm i, .nm j]) a) e = r := by
  rw [← h4, ev_setT, dSetT, h]
  show (match take e1 v with
    | some (x, e2) => match asg (.tp [.nm i, .nm j]) x e2 with
      | some e3 => R.nx e3
      | none => .bad
    | none => .bad) = _
  rw [h1]
  simp only [asg, asgs, h2, h3, if_true]
theorem setT3_of {i j l : Nat} {r : R} (h : ev M a e = .ok v e1) (h1 : take e1 v = some (.tuple [x, y, z], e1)) (h2 : freeS e1 i = true) (h3 : freeS (setS e1 i (.sh x)) j = true) (h5 : freeS (setS (setS e1 i (.sh x)) j (.sh y)) l = true) (h4 : .nx (setS (setS (setS e1 i (.sh x)) j (.sh y)) l (.sh z)) = r) : ev M (.setT (.tp [.nm i, .nm j, .nm l]) a) e = r := by
  rw [← h4, ev_setT, dSetT, h]
  show (match take e1 v with
    | some (x, e2) => match asg (.tp [.nm i, .nm j, .nm l]) x e2 with
      | some e3 => R.nx e3
      | none => .bad
    | none => .bad) = _
  rw [h1]
  simp only [asg, asgs, h2, h3, h5, if_true]
theorem par2_of {i j : Nat} {vs : List Vl} {r : R} (h : ev M a e = .oks vs e1) (h1 : takes e1 vs = some ([x, y], e1)) (h2 : freeS e1 i = true) (h3 : freeS (setS e1 i (.sh x)) j = true) (h4 : .nx (setS (setS e1 i (.sh x)) j (.sh y)) = r) : ev M (.par [i, j] a) e = r := by
  rw [← h4, ev_par, dPar, h]
  show (match takes e1 vs with
    | some (xs, e2) => match asgs (nms [i, j]) xs e2 with
      | some e3 => R.nx e3
      | none => .bad
    | none => .bad) = _
  rw [h1]
  simp only [nms, asg, asgs, h2, h3, if_true]
theorem orr_f (h : ev M a e = .ok (.d (.bool false)) e1) : ev M (.orr a b) e = ev M b e1 := by rw [ev_orr, dOr, h]; rfl
theorem cmpV_of {o : Cop} {t : Bool} (h : ev M a e = .ok v e1) (h2 : ev M b e1 = .ok u e2) (hv : res e2 v = some x) (hu : res e2 u = some y) (h3 : cop o x y = some t) : ev M (.cmp o a b) e = .ok (.d (.bool t)) e2 := by
  rw [ev_cmp, dCmp, h]
  show R.bd (ev M b e1) _ = _
  rw [h2]
  show (match res e2 v, res e2 u with
    | some a, some b => cR (cop o a b) e2
    | _, _ => .bad) = _
  rw [hv, hu]
  show cR (cop o x y) e2 = _
  rw [h3]; rfl
/-- x or y -/
def orD (x y : PyData) : PyData := match truth x with
  | some true => x
  | _ => y
theorem orr_of (h : ev M a e = .ok (.d x) e) (h2 : ev M b e = .ok (.d y) e) (t : (truth x).isSome = true) : ev M (.orr a b) e = .ok (.d (orD x y)) e := by
  rw [ev_orr, dOr, h]
  show (match truth x with
    | some b' => (match b' with
      | true => R.ok (.d x) e
      | false => ev M b e)
    | none => .bad) = _
  unfold orD
  cases q : truth x with
  | none => rw [q] at t; cases t
  | some b' =>
    cases b' with
    | true => rfl
    | false => exact h2
theorem truth_orD (hx : (truth x).isSome = true) (hy : (truth y).isSome = true) : (truth (orD x y)).isSome = true := by
  unfold orD
  split
  · exact hx
  · exact hy
theorem repOk_orD (hx : repOk x = true) (hy : repOk y = true) : repOk (orD x y) = true := by
  unfold orD
  split
  · exact hx
  · exact hy
theorem binV_of {o : Bop} {w : Vl} (h : ev M a e = .ok v e1) (h2 : ev M b e1 = .ok u e2) (hv : res e2 v = some x) (hu : res e2 u = some y) (h3 : bop o x y = some w) : ev M (.bin o a b) e = .ok w e2 := by
  rw [ev_bin, dBin, h]
  show R.bd (ev M b e1) _ = _
  rw [h2]
  show (match res e2 v, res e2 u with
    | some a, some b => oR (bop o a b) e2
    | _, _ => .bad) = _
  rw [hv, hu]
  show oR (bop o x y) e2 = _
  rw [h3]; rfl
theorem take_o (h : noDct x = true) : take e (.o x) = some (x, e) := by
  cases x <;> first | rfl | cases h
theorem tup_of {vs : List Vl} {xs : List PyData} (h : ev M a e = .oks vs e1) (h1 : takes e1 vs = some (xs, e1)) (h2 : lenOk xs.length = true) : ev M (.tup a) e = .ok (.d (.tuple xs)) e1 := by
  rw [ev_tup, dTup, h]
  show (match takes e1 vs with
    | some (xs, e2) => if lenOk xs.length = true then R.ok (.d (.tuple xs)) e2 else .bad
    | none => .bad) = _
  rw [h1]
  simp only [h2, if_true]
def seqq : PyData → Bool
  | .list _ => true
  | .tuple _ => true
  | _ => false
theorem reprX_of (h : ev M a e = .ok v e1) (hr : res e1 v = some x) (hq : seqq x = true) (hs : showOk x = true) : ev M (.blt 11 (.cons a .nil)) e = .ok (.d (.str x.shown)) e1 := by
  refine blt1_of h hr ?_
  cases x <;> first | (simp [seqq] at hq; done) | (simp only [bltF, hs, if_true])
theorem lst_of {vs : List Vl} {xs : List PyData} (h : ev M a e = .oks vs e1) (h1 : takes e1 vs = some (xs, e1)) (h2 : lenOk xs.length = true) : ev M (.lst a) e = .ok (.o (.list xs)) e1 := by
  rw [ev_lst, dLst, h]
  show (match takes e1 vs with
    | some (xs, e2) => if lenOk xs.length = true then R.ok (.o (.list xs)) e2 else .bad
    | none => .bad) = _
  rw [h1]
  simp only [h2, if_true]
theorem bindA_sh : ∀ (xs : List PyData) (e : En), bindA (List.replicate xs.length false) (xs.map .d) e = some (xs.map .sh, List.replicate xs.length none, e)
  | [], _ => rfl
  | x :: xs, e => by
    show (bindA (List.replicate xs.length false) (xs.map .d) e).map _ = _
    rw [bindA_sh xs e]; rfl
theorem backA_no : ∀ (n : Nat) (fs : List Sl) (e : En), backA (List.replicate n none) fs e = e
  | 0, _, _ => by unfold backA; rfl
  | n + 1, [], _ => by unfold backA; rfl
  | n + 1, f :: fs, e => by
    show backA (none :: List.replicate n none) (f :: fs) e = e
    unfold backA
    exact backA_no n fs e
theorem call_of {f : Nat} {xs : List PyData} {fs : List Sl} (h : ev M a e = .oks (xs.map .d) e1) (hl : M.lens f = List.replicate xs.length false) (hc : M.call f (xs.map .sh) = .ret v fs) (hv : ∀ i, v ≠ .p i) : ev M (.call f a) e = .ok v e1 := by
  rw [ev_call, dCall, h]
  show callR M f (xs.map .d) e1 = _
  unfold callR
  rw [hl, bindA_sh]
  simp only [hc]
  cases v with
  | p i => exact absurd rfl (hv i)
  | d y => simp only [backA_no]
  | o y => simp only [backA_no]
theorem lcR_go {j : Nat} {body : Ir} {ew : En} (ys : Nat → PyData) (hj : j < ew.length) (hw : getS ew j = .no) {n : Nat} (hn : n ≤ 1000) (k : List PyData → En → R)
    (hb : ∀ w, w < n → ∃ v, ev M body (setS ew j (.sh (.int w))) = .ok v (setS ew j (.sh (.int w))) ∧ take (setS ew j (.sh (.int w))) v = some (ys w, setS ew j (.sh (.int w)))) :
    ∀ (m i : Nat) (acc : List PyData), i + m = n → acc.length = i → lcL [j] (.nm j) (dLit (.bool true)) (ev M body) (upto (i : Int) m) acc ew k = k (acc ++ (List.range' i m).map ys) ew
  | 0, i, acc, _, _ => by simp [upto, lcL]
  | m + 1, i, acc, h, ha => by
    obtain ⟨v, h1, h2⟩ := hb i (by omega)
    have f : freeS ew j = true := by unfold freeS; rw [hw]
    have l : lenOk (acc.length + 1) = true := by unfold lenOk lim; rw [Nat.ble_eq]; omega
    have w : wipeE [j] (setS ew j (.sh (.int (i : Int)))) = ew := by
      show setS (setS ew j _) j .no = ew
      rw [ss_ss, ← hw, ss_gs ew j hj]
    unfold upto lcL
    rw [asg_nm f]
    show (match ev M body (setS ew j (.sh (.int (i : Int)))) with
      | .ok u e3 => match take e3 u with
        | some (y, e4) => if lenOk (acc.length + 1) = true then lcL [j] (.nm j) (dLit (.bool true)) (ev M body) (upto ((i : Int) + 1) m) (acc ++ [y]) (wipeE [j] e4) k else .bad
        | none => .bad
      | _ => .bad) = _
    rw [h1]
    simp only [h2, l, if_true, w]
    have := lcR_go ys hj hw hn k hb m (i + 1) (acc ++ [ys i]) (by omega) (by simp [ha])
    rw [show ((i : Int) + 1) = ((i + 1 : Nat) : Int) by simp, this, List.range'_succ]
    simp
theorem lcR_of {j n : Nat} {body it : Ir} (ys : Nat → PyData) (hj : j < e.length) (hw : getS e j = .no) (hn : n ≤ 1000) (hi : ev M it e = .its (upto 0 n) [] e)
    (hb : ∀ w, w < n → ∃ v, ev M body (setS e j (.sh (.int w))) = .ok v (setS e j (.sh (.int w))) ∧ take (setS e j (.sh (.int w))) v = some (ys w, setS e j (.sh (.int w)))) :
    ev M (.lc [j] (.nm j) it .tt body) e = .ok (.o (.list ((List.range n).map ys))) e := by
  have e0 : wipeE [j] e = e := by
    show setS e j .no = e
    rw [← hw, ss_gs e j hj]
  have f : ownFree [j] e = true := by
    unfold ownFree
    simp only [List.all_cons, List.all_nil, Bool.and_true]
    unfold freeS
    rw [hw]
  rw [ev_lc, dLc, hi]
  show (if ownFree [j] e = true then lcL [j] (.nm j) (dLit (.bool true)) (ev M body) (upto 0 n) [] (wipeE [j] e) _ else .bad) = _
  rw [f, e0, if_pos rfl]
  have := lcR_go ys hj hw hn (fun acc e2 => R.ok (.o (.list acc)) (unlock [] (backE [j] e e2))) hb n 0 [] (by omega) rfl
  rw [show ((0 : Nat) : Int) = 0 from rfl] at this
  rw [this, List.nil_append, ← List.range_eq_range']
  show R.ok _ (setS e j (match getS e j with
    | .sh x => .sh x
    | _ => .no)) = _
  rw [hw]
  show R.ok _ (setS e j .no) = _
  have : setS e j .no = e := e0
  rw [this]
end
/-! ## the calls of a program -/
theorem run_def {G : Pg} {k f : Nat} {d : Df} {sl : List Sl} (h : G.defs[f]? = some d) : run G (k + 1) f sl = fin sl (ev (G.pm (run G k)) d.body (sl ++ List.replicate (d.size - sl.length) .no)) := by
  show (match G.defs[f]? with
    | some d => fin sl (ev (G.pm (run G k)) d.body (sl ++ List.replicate (d.size - sl.length) Sl.no))
    | none => CR.bad) = _
  rw [h]
/-- the two defs of the draws as they stand in a law -/
structure Drawn (G : Pg) (fd fm : Nat) : Prop where
  d : G.defs[fd]? = some ⟨iDr, [false], 6⟩
  m : G.defs[fm]? = some ⟨iMx, [false, false, false], 4⟩
theorem Drawn.draws {G : Pg} {fd fm : Nat} (h : Drawn G fd fm) (k : Nat) (ns : List Int) : ∃ ds : List Int, DrOk 3780 ds ∧ run G (k + 1) fd [.sh (dI ns)] = .ret (.o (dI ds)) [.no] := by
  obtain ⟨ds, h1, h2⟩ := draws_ok (G.pm (run G k)) ns
  exact ⟨ds, h1, (run_def h.d).trans h2⟩
theorem Drawn.mix {G : Pg} {fd fm : Nat} (h : Drawn G fd fm) (k : Nat) {ds : List Int} {n : Nat} (hd : DrOk n ds) (x many : Int) (hx : 0 ≤ x) (hx2 : x < 2 ^ 100) (hm : 0 < many) :
    ∃ r : Int, 0 ≤ r ∧ r < many ∧ run G (k + 1) fm ([dI ds, .int x, .int many].map .sh) = .ret (.d (.int r)) [.no, .no, .no] := by
  obtain ⟨r, h1, h2, h3⟩ := mix_ok (G.pm (run G k)) hd hx hx2 hm
  exact ⟨r, h1, h2, (run_def h.m).trans h3⟩
/-- a call of the mix in an expression -/
theorem mixE {G : Pg} {fd fm : Nat} (h : Drawn G fd fm) {k : Nat} {ds : List Int} {n : Nat} (hd : DrOk n ds) {a b : Ir} {j : Nat} {e : En} {x many : Int} (g : getS e j = .sh (dI ds)) (ha : ev (G.pm (run G (k + 1))) a e = .ok (.d (.int x)) e) (hb : ev (G.pm (run G (k + 1))) b e = .ok (.d (.int many)) e) (hx : 0 ≤ x) (hx2 : x < 2 ^ 100) (hm : 0 < many) :
    ∃ i : Nat, (i : Int) < many ∧ ev (G.pm (run G (k + 1))) (.call fm (.cons (.var j) (.cons a (.cons b .nil)))) e = .ok (.d (.int i)) e := by
  obtain ⟨r, h1, h2, h3⟩ := h.mix k hd x many hx hx2 hm
  refine ⟨r.toNat, by omega, ?_⟩
  have hv : ev (G.pm (run G (k + 1))) (.var j) e = .ok (.d (dI ds)) e := by
    rw [ev_var, dVar, g]
  have hl : (G.pm (run G (k + 1))).lens fm = List.replicate 3 false := by
    show G.lens fm = _
    unfold Pg.lens
    rw [h.m]; rfl
  rw [show ((r.toNat : Nat) : Int) = r by omega]
  exact call_of (xs := [dI ds, .int x, .int many]) (cons_of hv (cons_of ha (cons_of hb rfl))) hl h3 (fun i z => by cases z)
end Ev
end

section
set_option linter.all false
set_option maxRecDepth 1000000
set_option maxHeartbeats 0
namespace Ev
open PySem
def i0 : Ir := (.seq (.iff (.nt (.ch2 .le .le (.lit (.int 1)) (.blt 0 (.cons (.var 0) .nil)) (.gc 0))) (.seq (.rse 2 (.blt 0 (.cons (.var 0) .nil))) .skp) .skp) (.seq (.fr (.tp [(.nm 1), (.nm 2)]) (.itN (.var 0)) (.seq (.iff (.orr (.an (.cmp .eq (.var 1) (.lit (.int 0))) (.cmp .ne (.var 2) (.lit (.int 0)))) (.orr (.an (.cmp .gt (.var 1) (.lit (.int 0))) (.cmp .le (.var 2) (.ix (.var 0) (.bin .sub (.var 1) (.lit (.int 1)))))) (.cmp .gt (.var 2) (.gc 1)))) (.seq (.rse 3 (.var 1)) .skp) .skp) .skp)) .skp))
def d0 : Df := ⟨i0, [false], 3⟩
def i1 : Ir := (.seq (.iff (.cmp .nin (.blt 0 (.cons (.var 0) .nil)) (.gc 2)) (.seq (.rse 2 (.blt 0 (.cons (.var 0) .nil))) .skp) .skp) (.seq (.fr (.tp [(.nm 1), (.nm 2)]) (.itN (.var 0)) (.seq (.iff (.orr (.nt (.ch2 .le .le (.lit (.int 1)) (.var 2) (.gc 1))) (.an (.cmp .gt (.var 1) (.lit (.int 0))) (.cmp .gt (.ix (.var 0) (.bin .sub (.var 1) (.lit (.int 1)))) (.var 2)))) (.seq (.rse 4 (.var 1)) .skp) .skp) .skp)) .skp))
def d1 : Df := ⟨i1, [false], 3⟩
def i2 : Ir := (.seq (.set 1 true (.lst .nil)) (.seq (.fr (.tp [(.nm 2), (.nm 3)]) (.itN (.var 0)) (.seq (.ext 1 (.lc [4] (.nm 4) (.itE (.slH (.var 0) (.var 2))) .tt (.bin .sub (.var 3) (.var 4)))) .skp)) (.seq (.ret (.blt 8 (.cons (.var 1) .nil))) .skp)))
def d2 : Df := ⟨i2, [false], 5⟩
def i3 : Ir := (.seq (.exp (.call 0 (.cons (.var 0) .nil))) (.seq (.ret (.call 2 (.cons (.var 0) .nil))) .skp))
def d3 : Df := ⟨i3, [false], 1⟩
def i4 : Ir := (.seq (.ret (.lc [1] (.nm 1) (.itE (.rev (.var 0))) .tt (.bin .sub (.ix (.var 0) (.neg (.lit (.int 1)))) (.var 1)))) .skp)
def d4 : Df := ⟨i4, [false], 2⟩
def i5 : Ir := (.seq (.exp (.call 0 (.cons (.var 0) .nil))) (.seq (.ret (.call 4 (.cons (.var 0) .nil))) .skp))
def d5 : Df := ⟨i5, [false], 1⟩
def i6 : Ir := (.seq (.exp (.call 0 (.cons (.var 0) .nil))) (.seq (.iff (.nt (.ch2 .le .lt (.lit (.int 0)) (.var 1) (.blt 0 (.cons (.var 0) .nil)))) (.seq (.rse 1 (.var 1)) .skp) .skp) (.seq (.ret (.blt 19 (.cons (.lc [2] (.nm 2) (.itE (.var 0)) (.cmp .ne (.var 2) (.ix (.var 0) (.var 1))) (.blt 2 (.cons (.bin .sub (.var 2) (.ix (.var 0) (.var 1))) .nil))) .nil))) .skp)))
def d6 : Df := ⟨i6, [false, false], 3⟩
def i7 : Ir := (.seq (.exp (.call 0 (.cons (.var 0) .nil))) (.seq (.exp (.call 1 (.cons (.var 1) .nil))) (.seq (.ret (.cmp .eq (.call 2 (.cons (.var 0) .nil)) (.var 1))) .skp)))
def d7 : Df := ⟨i7, [false, false], 2⟩
def i8 : Ir := (.seq (.set 2 true (.blt 9 (.cons (.var 0) .nil))) (.seq (.fr (.nm 3) (.itE (.var 1)) (.seq (.iff (.cmp .nin (.var 3) (.var 2)) (.seq (.ret (.lit .none)) .skp) .skp) (.seq (.exp (.mut 3 2 (.var 3))) .skp))) (.seq (.ret (.var 2)) .skp)))
def d8 : Df := ⟨i8, [false, false], 4⟩
def i9 : Ir := (.seq (.iff (.cmp .eq (.blt 0 (.cons (.var 1) .nil)) (.lit (.int 0))) (.seq (.ret (.lst (.cons (.blt 8 (.cons (.var 0) .nil)) .nil))) .skp) .skp) (.seq (.set 2 true (.lst .nil)) (.seq (.set 3 false (.blt 4 (.cons (.var 0) .nil))) (.seq (.set 4 false (.ix (.var 1) (.neg (.lit (.int 1))))) (.seq (.fr (.nm 5) (.itE (.blt 19 (.cons (.lst (.cons (.var 4) (.cons (.bin .sub (.var 3) (.var 4)) .nil))) .nil))) (.seq (.iff (.cmp .nin (.var 5) (.var 0)) (.seq (.set 6 false (.call 8 (.cons (.var 1) (.cons (.lc [7] (.nm 7) (.itE (.var 0)) .tt (.blt 2 (.cons (.bin .sub (.var 5) (.var 7)) .nil))) .nil)))) (.seq (.iff (.cmp .nis (.var 6) (.lit .none)) (.seq (.ext 2 (.call 9 (.cons (.lst (.star (.var 0) (.cons (.var 5) .nil))) (.cons (.var 6) .nil)))) .skp) .skp) .skp)) .skp) .skp)) (.seq (.ret (.var 2)) .skp))))))
def d9 : Df := ⟨i9, [false, false], 8⟩
def i10 : Ir := (.seq (.set 1 true (.lst .nil)) (.seq (.fr (.nm 2) (.itE (.blt 8 (.cons (.var 0) .nil))) (.seq (.iff (.orr (.cmp .eq (.blt 0 (.cons (.var 1) .nil)) (.lit (.int 0))) (.cmp .ne (.ix (.var 1) (.neg (.lit (.int 1)))) (.var 2))) (.seq (.app 1 (.var 2)) .skp) .skp) .skp)) (.seq (.ret (.var 1)) .skp)))
def d10 : Df := ⟨i10, [false], 3⟩
def i11 : Ir := (.seq (.iff (.cmp .eq (.blt 0 (.cons (.var 0) .nil)) (.lit (.int 0))) (.seq (.ret (.lst (.cons (.lst (.cons (.lit (.int 0)) .nil)) .nil))) .skp) .skp) (.seq (.ret (.call 10 (.cons (.call 9 (.cons (.lst (.cons (.lit (.int 0)) (.cons (.ix (.var 0) (.neg (.lit (.int 1)))) .nil))) (.cons (.slH (.var 0) (.neg (.lit (.int 1)))) .nil))) .nil))) .skp))
def d11 : Df := ⟨i11, [false], 1⟩
def i12 : Ir := (.seq (.exp (.call 1 (.cons (.var 0) .nil))) (.seq (.ret (.call 11 (.cons (.var 0) .nil))) .skp))
def d12 : Df := ⟨i12, [false], 1⟩
def i13 : Ir := (.seq (.exp (.call 0 (.cons (.var 0) .nil))) (.seq (.set 1 false (.tup (.cons (.blt 9 (.cons (.var 0) .nil)) (.cons (.call 4 (.cons (.var 0) .nil)) .nil)))) (.seq (.ret (.blt 12 (.cons (.lc [2] (.nm 2) (.itE (.call 11 (.cons (.call 2 (.cons (.var 0) .nil)) .nil))) .tt (.cmp .inn (.var 2) (.var 1))) .nil))) .skp)))
def d13 : Df := ⟨i13, [false], 3⟩
def i14 : Ir := (.seq (.set 2 false (.lst (.cons (.lst (.cons (.lit (.int 0)) .nil)) .nil))) (.seq (.fr (.nm 3) (.itR (.cons (.bin .sub (.var 0) (.lit (.int 1))) .nil)) (.seq (.setL2 2 false [4, 5] [5] (.nm 4) (.nm 5) (.itE (.var 2)) .tt (.itR2 (.cons (.bin .add (.ix (.var 4) (.neg (.lit (.int 1)))) (.lit (.int 1))) (.cons (.bin .add (.var 1) (.lit (.int 1))) .nil))) .tt (.lst (.star (.var 4) (.cons (.var 5) .nil)))) .skp)) (.seq (.ret (.var 2)) .skp)))
def d14 : Df := ⟨i14, [false, false], 6⟩
def i15 : Ir := (.seq (.iff (.nt (.ch2 .le .le (.lit (.int 1)) (.var 0) (.gc 3))) (.seq (.rse 1 (.var 0)) .skp) .skp) (.seq (.iff (.nt (.ch2 .le .le (.lit (.int 1)) (.var 1) (.gc 4))) (.seq (.rse 1 (.var 1)) .skp) .skp) (.seq (.set 2 true (.blt 30 .nil)) (.seq (.grp 2 (.nm 3) (.itE (.call 14 (.cons (.var 0) (.cons (.var 1) .nil)))) (.cons (.blt 10 (.cons (.call 2 (.cons (.var 3) .nil)) .nil)) (.cons (.lst .nil) .nil)) (.var 3)) (.seq (.set 4 true (.lst .nil)) (.seq (.fr (.nm 5) (.itE (.var 2)) (.seq (.set 6 false (.ix (.var 2) (.var 5))) (.seq (.fr (.tp [(.nm 7), (.nm 8)]) (.itN (.var 6)) (.seq (.ext 4 (.lc [9] (.nm 9) (.itE (.slL (.var 6) (.bin .add (.var 7) (.lit (.int 1))))) (.cmp .ne (.var 9) (.call 4 (.cons (.var 8) .nil))) (.tup (.cons (.var 8) (.cons (.var 9) .nil))))) .skp)) .skp))) (.seq (.ret (.blt 8 (.cons (.var 4) .nil))) .skp)))))))
def d15 : Df := ⟨i15, [false, false], 10⟩
def i16 : Ir := (.seq (.set 1 true (.lst .nil)) (.seq (.fr (.nm 2) (.itR (.cons (.blt 7 (.cons (.lit (.int 63)) (.cons (.blt 0 (.cons (.var 0) .nil)) .nil))) .nil)) (.seq (.set 3 false (.blt 2 (.cons (.ix (.var 0) (.var 2)) .nil))) (.seq (.iff (.cmp .ge (.var 3) (.bin .pow (.lit (.int 10)) (.lit (.int 18)))) (.seq (.fr (.nm 4) (.itR (.cons (.lit (.int 60)) .nil)) (.seq (.iff (.cmp .gt (.var 3) (.lit (.int 0))) (.seq (.app 1 (.bin .mod (.blt 1 (.cons (.var 3) .nil)) (.lit (.int 65536)))) (.seq (.set 3 false (.bin .div (.var 3) (.lit (.int 65536)))) .skp)) .skp) .skp)) .skp) (.seq (.set 5 false (.bin .mod (.blt 1 (.cons (.bin .add (.bin .mul (.var 3) (.lit (.int 48271))) (.bin .mul (.bin .add (.var 2) (.lit (.int 1))) (.lit (.int 69621)))) .nil)) (.lit (.int 2147483647)))) (.seq (.set 5 false (.bin .mod (.blt 1 (.cons (.bin .add (.bin .add (.bin .mul (.var 5) (.lit (.int 16807))) (.bin .mul (.lit (.int 11)) (.var 2))) (.lit (.int 5))) .nil)) (.lit (.int 2147483629)))) (.seq (.app 1 (.bin .mod (.blt 1 (.cons (.var 5) .nil)) (.lit (.int 65536)))) (.seq (.app 1 (.bin .mod (.blt 1 (.cons (.bin .div (.var 5) (.lit (.int 65536))) .nil)) (.lit (.int 32768)))) .skp))))) .skp))) (.seq (.ret (.var 1)) .skp)))
def d16 : Df := ⟨i16, [false], 6⟩
def i17 : Ir := (.seq (.set 3 false (.lit (.int 0))) (.seq (.iff (.cmp .gt (.blt 0 (.cons (.var 0) .nil)) (.lit (.int 0))) (.seq (.set 3 false (.ix (.var 0) (.bin .mod (.blt 1 (.cons (.var 1) .nil)) (.blt 0 (.cons (.var 0) .nil))))) .skp) .skp) (.seq (.iff (.cmp .lt (.var 1) (.blt 0 (.cons (.var 0) .nil))) (.seq (.ret (.bin .mod (.blt 1 (.cons (.var 3) .nil)) (.var 2))) .skp) .skp) (.seq (.ret (.bin .mod (.blt 1 (.cons (.bin .div (.blt 1 (.cons (.bin .add (.bin .mul (.var 3) (.lit (.int 7919))) (.bin .mul (.var 1) (.lit (.int 104729)))) .nil)) (.lit (.int 3))) .nil)) (.var 2))) .skp))))
def d17 : Df := ⟨i17, [false, false, false], 4⟩
def i18 : Ir := (.seq (.tri 6 0 (.seq (.iff (.cmp .lt (.var 0) (.lit (.int 3))) (.seq (.exp (.pick [3, 5, 13] (.var 0) (.cons (.var 1) .nil))) .skp) (.seq (.iff (.cmp .eq (.var 0) (.lit (.int 3))) (.seq (.exp (.call 6 (.cons (.var 1) (.cons (.var 2) .nil)))) .skp) (.seq (.iff (.cmp .eq (.var 0) (.lit (.int 4))) (.seq (.exp (.call 7 (.cons (.var 1) (.cons (.var 3) .nil)))) .skp) (.seq (.iff (.cmp .eq (.var 0) (.lit (.int 5))) (.seq (.exp (.call 12 (.cons (.var 3) .nil))) .skp) (.seq (.exp (.call 15 (.cons (.var 4) (.cons (.var 5) .nil)))) .skp)) .skp)) .skp)) .skp)) .skp) (.seq (.ret (.callX 20 6)) .skp)) (.seq (.ret (.lit .none)) .skp))
def d18 : Df := ⟨i18, [false, false, false, false, false, false], 7⟩
def i19 : Ir := (.seq (.set 1 false (.call 16 (.cons (.var 0) .nil))) (.seq (.set 2 false (.lst (.cons (.tup (.cons (.lst (.cons (.lit (.int 0)) .nil)) (.cons (.lit .none) .nil))) (.cons (.tup (.cons (.lst (.cons (.lit (.int 0)) (.cons (.lit (.int 5)) .nil))) (.cons (.lit .none) .nil))) (.cons (.tup (.cons (.lst (.cons (.lit (.int 0)) (.cons (.lit (.int 1)) (.cons (.lit (.int 1000)) .nil)))) (.cons (.lit .none) .nil))) (.cons (.tup (.cons (.lst .nil) (.cons (.tup (.cons (.lit (.str "size")) (.cons (.lit (.int 0)) .nil))) .nil))) (.cons (.tup (.cons (.lst (.cons (.lit (.int 0)) (.cons (.lit (.int 1)) (.cons (.lit (.int 2)) (.cons (.lit (.int 3)) (.cons (.lit (.int 4)) (.cons (.lit (.int 5)) (.cons (.lit (.int 6)) (.cons (.lit (.int 7)) .nil))))))))) (.cons (.tup (.cons (.lit (.str "size")) (.cons (.lit (.int 8)) .nil))) .nil))) (.cons (.tup (.cons (.lst (.cons (.lit (.int 1)) (.cons (.lit (.int 2)) .nil))) (.cons (.tup (.cons (.lit (.str "corner")) (.cons (.lit (.int 0)) .nil))) .nil))) (.cons (.tup (.cons (.lst (.cons (.lit (.int 0)) (.cons (.lit (.int 2)) (.cons (.lit (.int 2)) .nil)))) (.cons (.tup (.cons (.lit (.str "corner")) (.cons (.lit (.int 2)) .nil))) .nil))) (.cons (.tup (.cons (.lst (.cons (.lit (.int 0)) (.cons (.lit (.int 5)) (.cons (.lit (.int 3)) .nil)))) (.cons (.tup (.cons (.lit (.str "corner")) (.cons (.lit (.int 2)) .nil))) .nil))) .nil)))))))))) (.seq (.set 2 false (.bin .add (.var 2) (.lst (.cons (.tup (.cons (.lst (.cons (.lit (.int 0)) (.cons (.lit (.int 1001)) .nil))) (.cons (.tup (.cons (.lit (.str "corner")) (.cons (.lit (.int 1)) .nil))) .nil))) (.cons (.tup (.cons (.lst (.cons (.neg (.lit (.int 1))) (.cons (.lit (.int 0)) .nil))) (.cons (.tup (.cons (.lit (.str "corner")) (.cons (.lit (.int 0)) .nil))) .nil))) .nil))))) (.seq (.set 3 false (.lst (.cons (.tup (.cons (.lst .nil) (.cons (.lit .none) .nil))) (.cons (.tup (.cons (.lst (.cons (.lit (.int 7)) .nil)) (.cons (.lit .none) .nil))) (.cons (.tup (.cons (.lst (.cons (.lit (.int 1)) (.cons (.lit (.int 1)) (.cons (.lit (.int 2)) .nil)))) (.cons (.lit .none) .nil))) (.cons (.tup (.cons (.lst (.cons (.lit (.int 1)) (.cons (.lit (.int 2)) .nil))) (.cons (.tup (.cons (.lit (.str "size")) (.cons (.lit (.int 2)) .nil))) .nil))) (.cons (.tup (.cons (.lst (.cons (.lit (.int 0)) .nil)) (.cons (.tup (.cons (.lit (.str "echo")) (.cons (.lit (.int 0)) .nil))) .nil))) (.cons (.tup (.cons (.lst (.cons (.lit (.int 1001)) .nil)) (.cons (.tup (.cons (.lit (.str "echo")) (.cons (.lit (.int 0)) .nil))) .nil))) (.cons (.tup (.cons (.lst (.cons (.lit (.int 2)) (.cons (.lit (.int 1)) (.cons (.lit (.int 3)) .nil)))) (.cons (.tup (.cons (.lit (.str "echo")) (.cons (.lit (.int 1)) .nil))) .nil))) (.cons (.tup (.cons (.bin .mul (.lst (.cons (.lit (.int 1)) .nil)) (.lit (.int 22))) (.cons (.tup (.cons (.lit (.str "size")) (.cons (.lit (.int 22)) .nil))) .nil))) .nil)))))))))) (.seq (.fr (.nm 4) (.itR (.cons (.lit (.int 10)) .nil)) (.seq (.set 5 false (.bin .add (.lit (.int 10)) (.bin .mul (.lit (.int 8)) (.var 4)))) (.seq (.setT (.tp [(.nm 10), (.nm 11)]) (.ix (.var 2) (.call 17 (.cons (.var 1) (.cons (.var 5) (.cons (.ix (.lst (.cons (.lit (.int 3)) (.cons (.lit (.int 10)) .nil))) (.call 17 (.cons (.var 1) (.cons (.bin .add (.var 5) (.lit (.int 1))) (.cons (.lit (.int 2)) .nil))))) .nil)))))) (.seq (.setT (.tp [(.nm 12), (.nm 13)]) (.ix (.var 3) (.call 17 (.cons (.var 1) (.cons (.bin .add (.var 5) (.lit (.int 2))) (.cons (.lit (.int 8)) .nil)))))) (.seq (.set 6 false (.ix (.lst (.cons (.lit (.int 0)) (.cons (.lit (.int 1)) (.cons (.lit (.int 2)) (.cons (.lit (.int 7)) (.cons (.neg (.lit (.int 1))) .nil)))))) (.call 17 (.cons (.var 1) (.cons (.bin .add (.var 5) (.lit (.int 3))) (.cons (.lit (.int 5)) .nil)))))) (.seq (.setT (.tp [(.nm 14), (.nm 15)]) (.tup (.cons (.ix (.lst (.cons (.lit (.int 1)) (.cons (.lit (.int 3)) (.cons (.lit (.int 6)) (.cons (.lit (.int 0)) (.cons (.lit (.int 7)) .nil)))))) (.call 17 (.cons (.var 1) (.cons (.bin .add (.var 5) (.lit (.int 4))) (.cons (.lit (.int 5)) .nil))))) (.cons (.ix (.lst (.cons (.lit (.int 1)) (.cons (.lit (.int 4)) (.cons (.lit (.int 0)) (.cons (.lit (.int 13)) (.cons (.lit (.int 7)) .nil)))))) (.call 17 (.cons (.var 1) (.cons (.bin .add (.var 5) (.lit (.int 5))) (.cons (.lit (.int 5)) .nil))))) .nil)))) (.seq (.set 7 false (.blt 11 (.cons (.tup (.cons (.var 10) (.cons (.var 12) .nil))) .nil))) (.seq (.set 8 false (.orr (.var 11) (.ix (.lst (.cons (.tup (.cons (.lit (.str "range")) (.cons (.var 6) .nil))) (.cons (.lit .none) .nil))) (.blt 1 (.cons (.ch2 .le .lt (.lit (.int 0)) (.var 6) (.blt 0 (.cons (.var 10) .nil))) .nil))))) (.seq (.set 9 false (.orr (.ix (.lst (.cons (.tup (.cons (.lit (.str "range")) (.cons (.var 14) .nil))) (.cons (.lit .none) .nil))) (.blt 1 (.cons (.ch2 .le .le (.lit (.int 1)) (.var 14) (.lit (.int 6))) .nil))) (.ix (.lst (.cons (.tup (.cons (.lit (.str "range")) (.cons (.var 15) .nil))) (.cons (.lit .none) .nil))) (.blt 1 (.cons (.ch2 .le .le (.lit (.int 1)) (.var 15) (.lit (.int 12))) .nil))))) (.seq (.iff (.orr (.cmp .ne (.lc [16] (.nm 16) (.itR (.cons (.lit (.int 7)) .nil)) .tt (.call 18 (.cons (.var 16) (.cons (.var 10) (.cons (.var 6) (.cons (.var 12) (.cons (.var 14) (.cons (.var 15) .nil)))))))) (.lst (.cons (.var 11) (.cons (.var 11) (.cons (.var 11) (.cons (.var 8) (.cons (.orr (.var 11) (.var 13)) (.cons (.var 13) (.cons (.var 9) .nil))))))))) (.cmp .ne (.blt 11 (.cons (.tup (.cons (.var 10) (.cons (.var 12) .nil))) .nil)) (.var 7))) (.seq (.ret (.lit (.bool false))) .skp) .skp) .skp)))))))))) (.seq (.ret (.lit (.bool true))) .skp))))))
def d19 : Df := ⟨i19, [false], 17⟩
def i20 : Ir := (.seq (.set 1 false (.lst (.cons (.tup (.cons (.lit (.str "corner")) (.cons (.isi 0 3) .nil))) (.cons (.tup (.cons (.lit (.str "echo")) (.cons (.isi 0 4) .nil))) (.cons (.tup (.cons (.lit (.str "range")) (.cons (.isi 0 1) .nil))) (.cons (.tup (.cons (.lit (.str "size")) (.cons (.isi 0 2) .nil))) .nil)))))) (.seq (.ret (.tup (.cons (.join (.lit (.str " ")) (.lc [2, 3] (.tp [(.nm 2), (.nm 3)]) (.itL (.var 1)) (.var 3) (.var 2))) (.cons (.xat 0) .nil)))) .skp))
def d20 : Df := ⟨i20, [false], 4⟩
def G : Pg := ⟨[d0, d1, d2, d3, d4, d5, d6, d7, d8, d9, d10, d11, d12, d13, d14, d15, d16, d17, d18, d19, d20], [.int 7, .int 1000, .tuple [.int 0, .int 1, .int 3, .int 6, .int 10, .int 15, .int 21], .int 6, .int 12], [[true, false, false, false, false], [true, true, false, false, false], [true, false, true, false, false], [true, false, false, true, false], [true, false, false, false, true]], 3000⟩
def lw : Lw := ⟨G, ["check_corners", "check_echoes", "echoes_of", "echoes", "mirrored_of", "mirrored", "ear", "does_meet", "without", "gone_on", "unlike", "answers_of", "answers", "is_clear", "all_corners", "alike", "_law_draws", "_law_mix", "_law_of", "law"], [(["corners", "k", "place"] : List Str), (["told", "k", "far"] : List Str), (["corners", "found", "k", "place", "other"] : List Str), (["corners"] : List Str), (["corners", "place"] : List Str), (["corners"] : List Str), (["corners", "k", "place"] : List Str), (["corners", "told"] : List Str), (["told", "some", "found", "one"] : List Str), (["corners", "rest", "found", "last", "far", "place", "left", "one"] : List Str), (["rows", "found", "row"] : List Str), (["told"] : List Str), (["told"] : List Str), (["corners", "both", "row"] : List Str), (["many", "most", "found", "_", "row", "place"] : List Str), (["many", "most", "groups", "row", "found", "name", "rows", "k", "one", "two"] : List Str), (["script", "draws", "k", "rest", "turn", "mixed"] : List Str), (["draws", "k", "many", "cell"] : List Str), (["which", "corners", "k", "told", "many", "most", "e"] : List Str), (["script", "draws", "pool", "rows", "turn", "at", "k", "kept", "here", "last", "corners", "due", "told", "odd", "many", "most", "which"] : List Str), (["e", "words", "word", "is_it"] : List Str)], ["SeekError", "OutOfRange", "WrongSize", "BadCorner", "BadEcho"], ["MOST_CORNERS", "MOST_PLACE", "SIZES", "MOST_LISTED", "MOST_LAST"], ["len", "int", "abs", "max", "min", "sorted", "list", "tuple", "repr", "all", "range", "enumerate", "isinstance", "set"], false, [1, 2, 3, 4], [(20, "_law_name")]⟩
def nLaw : Nat := 19
noncomputable abbrev Mk : Pm := lw.G.pm (run lw.G 60)
theorem pre1 (M : Pm) (ns ds : List Int) : ev M (.set 2 false (.lst (.cons (.tup (.cons (.lst (.cons (.lit (.int 0)) .nil)) (.cons (.lit .none) .nil))) (.cons (.tup (.cons (.lst (.cons (.lit (.int 0)) (.cons (.lit (.int 5)) .nil))) (.cons (.lit .none) .nil))) (.cons (.tup (.cons (.lst (.cons (.lit (.int 0)) (.cons (.lit (.int 1)) (.cons (.lit (.int 1000)) .nil)))) (.cons (.lit .none) .nil))) (.cons (.tup (.cons (.lst .nil) (.cons (.tup (.cons (.lit (.str "size")) (.cons (.lit (.int 0)) .nil))) .nil))) (.cons (.tup (.cons (.lst (.cons (.lit (.int 0)) (.cons (.lit (.int 1)) (.cons (.lit (.int 2)) (.cons (.lit (.int 3)) (.cons (.lit (.int 4)) (.cons (.lit (.int 5)) (.cons (.lit (.int 6)) (.cons (.lit (.int 7)) .nil))))))))) (.cons (.tup (.cons (.lit (.str "size")) (.cons (.lit (.int 8)) .nil))) .nil))) (.cons (.tup (.cons (.lst (.cons (.lit (.int 1)) (.cons (.lit (.int 2)) .nil))) (.cons (.tup (.cons (.lit (.str "corner")) (.cons (.lit (.int 0)) .nil))) .nil))) (.cons (.tup (.cons (.lst (.cons (.lit (.int 0)) (.cons (.lit (.int 2)) (.cons (.lit (.int 2)) .nil)))) (.cons (.tup (.cons (.lit (.str "corner")) (.cons (.lit (.int 2)) .nil))) .nil))) (.cons (.tup (.cons (.lst (.cons (.lit (.int 0)) (.cons (.lit (.int 5)) (.cons (.lit (.int 3)) .nil)))) (.cons (.tup (.cons (.lit (.str "corner")) (.cons (.lit (.int 2)) .nil))) .nil))) .nil)))))))))) [.sh (dI ns), .sh (dI ds), .no, .no, .no, .no, .no, .no, .no, .no, .no, .no, .no, .no, .no, .no, .no] = .nx [.sh (dI ns), .sh (dI ds), .sh (.list [.tuple [.list [.int 0], .none], .tuple [.list [.int 0, .int 5], .none], .tuple [.list [.int 0, .int 1, .int 1000], .none], .tuple [.list [], .tuple [.str "size", .int 0]], .tuple [.list [.int 0, .int 1, .int 2, .int 3, .int 4, .int 5, .int 6, .int 7], .tuple [.str "size", .int 8]], .tuple [.list [.int 1, .int 2], .tuple [.str "corner", .int 0]], .tuple [.list [.int 0, .int 2, .int 2], .tuple [.str "corner", .int 2]], .tuple [.list [.int 0, .int 5, .int 3], .tuple [.str "corner", .int 2]]]), .no, .no, .no, .no, .no, .no, .no, .no, .no, .no, .no, .no, .no, .no] := by kernel_rfl
theorem pre2 (M : Pm) (ns ds : List Int) : ev M (.set 2 false (.bin .add (.var 2) (.lst (.cons (.tup (.cons (.lst (.cons (.lit (.int 0)) (.cons (.lit (.int 1001)) .nil))) (.cons (.tup (.cons (.lit (.str "corner")) (.cons (.lit (.int 1)) .nil))) .nil))) (.cons (.tup (.cons (.lst (.cons (.neg (.lit (.int 1))) (.cons (.lit (.int 0)) .nil))) (.cons (.tup (.cons (.lit (.str "corner")) (.cons (.lit (.int 0)) .nil))) .nil))) .nil))))) [.sh (dI ns), .sh (dI ds), .sh (.list [.tuple [.list [.int 0], .none], .tuple [.list [.int 0, .int 5], .none], .tuple [.list [.int 0, .int 1, .int 1000], .none], .tuple [.list [], .tuple [.str "size", .int 0]], .tuple [.list [.int 0, .int 1, .int 2, .int 3, .int 4, .int 5, .int 6, .int 7], .tuple [.str "size", .int 8]], .tuple [.list [.int 1, .int 2], .tuple [.str "corner", .int 0]], .tuple [.list [.int 0, .int 2, .int 2], .tuple [.str "corner", .int 2]], .tuple [.list [.int 0, .int 5, .int 3], .tuple [.str "corner", .int 2]]]), .no, .no, .no, .no, .no, .no, .no, .no, .no, .no, .no, .no, .no, .no] = .nx [.sh (dI ns), .sh (dI ds), .sh (.list [.tuple [.list [.int 0], .none], .tuple [.list [.int 0, .int 5], .none], .tuple [.list [.int 0, .int 1, .int 1000], .none], .tuple [.list [], .tuple [.str "size", .int 0]], .tuple [.list [.int 0, .int 1, .int 2, .int 3, .int 4, .int 5, .int 6, .int 7], .tuple [.str "size", .int 8]], .tuple [.list [.int 1, .int 2], .tuple [.str "corner", .int 0]], .tuple [.list [.int 0, .int 2, .int 2], .tuple [.str "corner", .int 2]], .tuple [.list [.int 0, .int 5, .int 3], .tuple [.str "corner", .int 2]], .tuple [.list [.int 0, .int 1001], .tuple [.str "corner", .int 1]], .tuple [.list [.int (-1), .int 0], .tuple [.str "corner", .int 0]]]), .no, .no, .no, .no, .no, .no, .no, .no, .no, .no, .no, .no, .no, .no] := by kernel_rfl
theorem pre3 (M : Pm) (ns ds : List Int) : ev M (.set 3 false (.lst (.cons (.tup (.cons (.lst .nil) (.cons (.lit .none) .nil))) (.cons (.tup (.cons (.lst (.cons (.lit (.int 7)) .nil)) (.cons (.lit .none) .nil))) (.cons (.tup (.cons (.lst (.cons (.lit (.int 1)) (.cons (.lit (.int 1)) (.cons (.lit (.int 2)) .nil)))) (.cons (.lit .none) .nil))) (.cons (.tup (.cons (.lst (.cons (.lit (.int 1)) (.cons (.lit (.int 2)) .nil))) (.cons (.tup (.cons (.lit (.str "size")) (.cons (.lit (.int 2)) .nil))) .nil))) (.cons (.tup (.cons (.lst (.cons (.lit (.int 0)) .nil)) (.cons (.tup (.cons (.lit (.str "echo")) (.cons (.lit (.int 0)) .nil))) .nil))) (.cons (.tup (.cons (.lst (.cons (.lit (.int 1001)) .nil)) (.cons (.tup (.cons (.lit (.str "echo")) (.cons (.lit (.int 0)) .nil))) .nil))) (.cons (.tup (.cons (.lst (.cons (.lit (.int 2)) (.cons (.lit (.int 1)) (.cons (.lit (.int 3)) .nil)))) (.cons (.tup (.cons (.lit (.str "echo")) (.cons (.lit (.int 1)) .nil))) .nil))) (.cons (.tup (.cons (.bin .mul (.lst (.cons (.lit (.int 1)) .nil)) (.lit (.int 22))) (.cons (.tup (.cons (.lit (.str "size")) (.cons (.lit (.int 22)) .nil))) .nil))) .nil)))))))))) [.sh (dI ns), .sh (dI ds), .sh (.list [.tuple [.list [.int 0], .none], .tuple [.list [.int 0, .int 5], .none], .tuple [.list [.int 0, .int 1, .int 1000], .none], .tuple [.list [], .tuple [.str "size", .int 0]], .tuple [.list [.int 0, .int 1, .int 2, .int 3, .int 4, .int 5, .int 6, .int 7], .tuple [.str "size", .int 8]], .tuple [.list [.int 1, .int 2], .tuple [.str "corner", .int 0]], .tuple [.list [.int 0, .int 2, .int 2], .tuple [.str "corner", .int 2]], .tuple [.list [.int 0, .int 5, .int 3], .tuple [.str "corner", .int 2]], .tuple [.list [.int 0, .int 1001], .tuple [.str "corner", .int 1]], .tuple [.list [.int (-1), .int 0], .tuple [.str "corner", .int 0]]]), .no, .no, .no, .no, .no, .no, .no, .no, .no, .no, .no, .no, .no, .no] = .nx [.sh (dI ns), .sh (dI ds), .sh (.list [.tuple [.list [.int 0], .none], .tuple [.list [.int 0, .int 5], .none], .tuple [.list [.int 0, .int 1, .int 1000], .none], .tuple [.list [], .tuple [.str "size", .int 0]], .tuple [.list [.int 0, .int 1, .int 2, .int 3, .int 4, .int 5, .int 6, .int 7], .tuple [.str "size", .int 8]], .tuple [.list [.int 1, .int 2], .tuple [.str "corner", .int 0]], .tuple [.list [.int 0, .int 2, .int 2], .tuple [.str "corner", .int 2]], .tuple [.list [.int 0, .int 5, .int 3], .tuple [.str "corner", .int 2]], .tuple [.list [.int 0, .int 1001], .tuple [.str "corner", .int 1]], .tuple [.list [.int (-1), .int 0], .tuple [.str "corner", .int 0]]]), .sh (.list [.tuple [.list [], .none], .tuple [.list [.int 7], .none], .tuple [.list [.int 1, .int 1, .int 2], .none], .tuple [.list [.int 1, .int 2], .tuple [.str "size", .int 2]], .tuple [.list [.int 0], .tuple [.str "echo", .int 0]], .tuple [.list [.int 1001], .tuple [.str "echo", .int 0]], .tuple [.list [.int 2, .int 1, .int 3], .tuple [.str "echo", .int 1]], .tuple [.list (List.replicate 22 (.int 1)), .tuple [.str "size", .int 22]]]), .no, .no, .no, .no, .no, .no, .no, .no, .no, .no, .no, .no, .no] := by kernel_rfl
def L1 : List PyData := [.tuple [.list [.int 0], .none], .tuple [.list [.int 0, .int 5], .none], .tuple [.list [.int 0, .int 1, .int 1000], .none], .tuple [.list [], .tuple [.str "size", .int 0]], .tuple [.list [.int 0, .int 1, .int 2, .int 3, .int 4, .int 5, .int 6, .int 7], .tuple [.str "size", .int 8]], .tuple [.list [.int 1, .int 2], .tuple [.str "corner", .int 0]], .tuple [.list [.int 0, .int 2, .int 2], .tuple [.str "corner", .int 2]], .tuple [.list [.int 0, .int 5, .int 3], .tuple [.str "corner", .int 2]], .tuple [.list [.int 0, .int 1001], .tuple [.str "corner", .int 1]], .tuple [.list [.int (-1), .int 0], .tuple [.str "corner", .int 0]]]
def T10 (i_corners_due : Nat) : PyData := tab [.list [.int 0], .list [.int 0, .int 5], .list [.int 0, .int 1, .int 1000], .list [], .list [.int 0, .int 1, .int 2, .int 3, .int 4, .int 5, .int 6, .int 7], .list [.int 1, .int 2], .list [.int 0, .int 2, .int 2], .list [.int 0, .int 5, .int 3], .list [.int 0, .int 1001], .list [.int (-1), .int 0]] i_corners_due
def T11 (i_corners_due : Nat) : PyData := tab [.none, .none, .none, .tuple [.str "size", .int 0], .tuple [.str "size", .int 8], .tuple [.str "corner", .int 0], .tuple [.str "corner", .int 2], .tuple [.str "corner", .int 2], .tuple [.str "corner", .int 1], .tuple [.str "corner", .int 0]] i_corners_due
theorem p12 : ∀ i_corners_due, i_corners_due < 10 → (tab L1 i_corners_due) = .tuple [(T10 i_corners_due), (T11 i_corners_due)] := tb1 (by kernel_rfl)
def L13 : List PyData := [.tuple [.list [], .none], .tuple [.list [.int 7], .none], .tuple [.list [.int 1, .int 1, .int 2], .none], .tuple [.list [.int 1, .int 2], .tuple [.str "size", .int 2]], .tuple [.list [.int 0], .tuple [.str "echo", .int 0]], .tuple [.list [.int 1001], .tuple [.str "echo", .int 0]], .tuple [.list [.int 2, .int 1, .int 3], .tuple [.str "echo", .int 1]], .tuple [.list (List.replicate 22 (.int 1)), .tuple [.str "size", .int 22]]]
def T18 (i_told_odd : Nat) : PyData := tab [.list [], .list [.int 7], .list [.int 1, .int 1, .int 2], .list [.int 1, .int 2], .list [.int 0], .list [.int 1001], .list [.int 2, .int 1, .int 3], .list (List.replicate 22 (.int 1))] i_told_odd
def T19 (i_told_odd : Nat) : PyData := tab [.none, .none, .none, .tuple [.str "size", .int 2], .tuple [.str "echo", .int 0], .tuple [.str "echo", .int 0], .tuple [.str "echo", .int 1], .tuple [.str "size", .int 22]] i_told_odd
theorem p20 : ∀ i_told_odd, i_told_odd < 8 → (tab L13 i_told_odd) = .tuple [(T18 i_told_odd), (T19 i_told_odd)] := tb1 (by kernel_rfl)
def L21 : List PyData := [.int 0, .int 1, .int 2, .int 7, .int (-1)]
theorem p23 (M : Pm) (v0 v1 v2 v3 v4 v5 v6 v7 v8 v9 v10 v11 v12 v13 v14 v15 : Sl) : ev M (.lst (.cons (.lit (.int 0)) (.cons (.lit (.int 1)) (.cons (.lit (.int 2)) (.cons (.lit (.int 7)) (.cons (.neg (.lit (.int 1))) .nil)))))) [v0, v1, v2, v3, v4, v5, v6, v7, v8, v9, v10, v11, v12, v13, v14, v15, .no] = .ok (.o (.list L21)) [v0, v1, v2, v3, v4, v5, v6, v7, v8, v9, v10, v11, v12, v13, v14, v15, .no] := by kernel_rfl
def L26 : List PyData := [.int 1, .int 3, .int 6, .int 0, .int 7]
theorem p28 (M : Pm) (v0 v1 v2 v3 v4 v5 v6 v7 v8 v9 v10 v11 v12 v13 v14 v15 : Sl) : ev M (.lst (.cons (.lit (.int 1)) (.cons (.lit (.int 3)) (.cons (.lit (.int 6)) (.cons (.lit (.int 0)) (.cons (.lit (.int 7)) .nil)))))) [v0, v1, v2, v3, v4, v5, v6, v7, v8, v9, v10, v11, v12, v13, v14, v15, .no] = .ok (.o (.list L26)) [v0, v1, v2, v3, v4, v5, v6, v7, v8, v9, v10, v11, v12, v13, v14, v15, .no] := by kernel_rfl
def L31 : List PyData := [.int 1, .int 4, .int 0, .int 13, .int 7]
theorem p33 (M : Pm) (v0 v1 v2 v3 v4 v5 v6 v7 v8 v9 v10 v11 v12 v13 v14 v15 : Sl) : ev M (.lst (.cons (.lit (.int 1)) (.cons (.lit (.int 4)) (.cons (.lit (.int 0)) (.cons (.lit (.int 13)) (.cons (.lit (.int 7)) .nil)))))) [v0, v1, v2, v3, v4, v5, v6, v7, v8, v9, v10, v11, v12, v13, v14, v15, .no] = .ok (.o (.list L31)) [v0, v1, v2, v3, v4, v5, v6, v7, v8, v9, v10, v11, v12, v13, v14, v15, .no] := by kernel_rfl
theorem r36 : ∀ i_corners_due, i_corners_due < 10 → repOk (T10 i_corners_due) = true := tb1 (by kernel_rfl)
theorem r37 : ∀ i_told_odd, i_told_odd < 8 → repOk (T18 i_told_odd) = true := tb1 (by kernel_rfl)
def T38 (i_k i_corners_due : Nat) : PyData := tab [.none, .none, .none, .tuple [.str "size", .int 0], .tuple [.str "size", .int 8], .tuple [.str "corner", .int 0], .tuple [.str "corner", .int 2], .tuple [.str "corner", .int 2], .tuple [.str "corner", .int 1], .tuple [.str "corner", .int 0], .tuple [.str "range", .int 1], .none, .none, .tuple [.str "size", .int 0], .tuple [.str "size", .int 8], .tuple [.str "corner", .int 0], .tuple [.str "corner", .int 2], .tuple [.str "corner", .int 2], .tuple [.str "corner", .int 1], .tuple [.str "corner", .int 0], .tuple [.str "range", .int 2], .tuple [.str "range", .int 2], .none, .tuple [.str "size", .int 0], .tuple [.str "size", .int 8], .tuple [.str "corner", .int 0], .tuple [.str "corner", .int 2], .tuple [.str "corner", .int 2], .tuple [.str "corner", .int 1], .tuple [.str "corner", .int 0], .tuple [.str "range", .int 7], .tuple [.str "range", .int 7], .tuple [.str "range", .int 7], .tuple [.str "size", .int 0], .tuple [.str "size", .int 8], .tuple [.str "corner", .int 0], .tuple [.str "corner", .int 2], .tuple [.str "corner", .int 2], .tuple [.str "corner", .int 1], .tuple [.str "corner", .int 0], .tuple [.str "range", .int (-1)], .tuple [.str "range", .int (-1)], .tuple [.str "range", .int (-1)], .tuple [.str "size", .int 0], .tuple [.str "size", .int 8], .tuple [.str "corner", .int 0], .tuple [.str "corner", .int 2], .tuple [.str "corner", .int 2], .tuple [.str "corner", .int 1], .tuple [.str "corner", .int 0]] (i_k * 10 + i_corners_due)
theorem p39 (M : Pm) (v0 v1 v2 v3 v4 v5 v7 v8 v9 v12 v13 v14 v15 : Sl) : ∀ i_k, i_k < 5 → ∀ i_corners_due, i_corners_due < 10 → ev M (.orr (.var 11) (.ix (.lst (.cons (.tup (.cons (.lit (.str "range")) (.cons (.var 6) .nil))) (.cons (.lit .none) .nil))) (.blt 1 (.cons (.ch2 .le .lt (.lit (.int 0)) (.var 6) (.blt 0 (.cons (.var 10) .nil))) .nil)))) [v0, v1, v2, v3, v4, v5, .sh (tab L21 i_k), v7, v8, v9, .sh (T10 i_corners_due), .sh (T11 i_corners_due), v12, v13, v14, v15, .no] = .ok (.d (T38 i_k i_corners_due)) [v0, v1, v2, v3, v4, v5, .sh (tab L21 i_k), v7, v8, v9, .sh (T10 i_corners_due), .sh (T11 i_corners_due), v12, v13, v14, v15, .no] := tb2 (by kernel_rfl)
def T40 (i_many i_most : Nat) : PyData := tab [.none, .none, .tuple [.str "range", .int 0], .tuple [.str "range", .int 13], .none, .none, .none, .tuple [.str "range", .int 0], .tuple [.str "range", .int 13], .none, .none, .none, .tuple [.str "range", .int 0], .tuple [.str "range", .int 13], .none, .tuple [.str "range", .int 0], .tuple [.str "range", .int 0], .tuple [.str "range", .int 0], .tuple [.str "range", .int 0], .tuple [.str "range", .int 0], .tuple [.str "range", .int 7], .tuple [.str "range", .int 7], .tuple [.str "range", .int 7], .tuple [.str "range", .int 7], .tuple [.str "range", .int 7]] (i_many * 5 + i_most)
theorem p41 (M : Pm) (v0 v1 v2 v3 v4 v5 v6 v7 v8 v9 v10 v11 v12 v13 : Sl) : ∀ i_many, i_many < 5 → ∀ i_most, i_most < 5 → ev M (.orr (.ix (.lst (.cons (.tup (.cons (.lit (.str "range")) (.cons (.var 14) .nil))) (.cons (.lit .none) .nil))) (.blt 1 (.cons (.ch2 .le .le (.lit (.int 1)) (.var 14) (.lit (.int 6))) .nil))) (.ix (.lst (.cons (.tup (.cons (.lit (.str "range")) (.cons (.var 15) .nil))) (.cons (.lit .none) .nil))) (.blt 1 (.cons (.ch2 .le .le (.lit (.int 1)) (.var 15) (.lit (.int 12))) .nil)))) [v0, v1, v2, v3, v4, v5, v6, v7, v8, v9, v10, v11, v12, v13, .sh (tab L26 i_many), .sh (tab L31 i_most), .no] = .ok (.d (T40 i_many i_most)) [v0, v1, v2, v3, v4, v5, v6, v7, v8, v9, v10, v11, v12, v13, .sh (tab L26 i_many), .sh (tab L31 i_most), .no] := tb2 (by kernel_rfl)
theorem r42 : ∀ i_corners_due, i_corners_due < 10 → (truth (T11 i_corners_due)).isSome = true := tb1 (by kernel_rfl)
theorem w43_0r (x_k x_told x_many x_most : PyData) : run lw.G 60 18 [.sh (.int 0), .sh ((T10 0)), .sh (x_k), .sh (x_told), .sh (x_many), .sh (x_most)] = .ret (.d (.none)) [.no, .no, .no, .no, .no, .no] := by kernel_rfl
theorem w43_0d : (T11 0) = (.none) := by kernel_rfl
theorem w43_0 (x_k x_told x_many x_most : PyData) : run lw.G 60 18 [.sh (.int 0), .sh ((T10 0)), .sh (x_k), .sh (x_told), .sh (x_many), .sh (x_most)] = .ret (.d (T11 0)) [.no, .no, .no, .no, .no, .no] := (w43_0r x_k x_told x_many x_most ).trans (congrArg (fun z => CR.ret (.d z) [.no, .no, .no, .no, .no, .no]) (w43_0d ).symm)
theorem w43_1r (x_k x_told x_many x_most : PyData) : run lw.G 60 18 [.sh (.int 0), .sh ((T10 1)), .sh (x_k), .sh (x_told), .sh (x_many), .sh (x_most)] = .ret (.d (.none)) [.no, .no, .no, .no, .no, .no] := by kernel_rfl
theorem w43_1d : (T11 1) = (.none) := by kernel_rfl
theorem w43_1 (x_k x_told x_many x_most : PyData) : run lw.G 60 18 [.sh (.int 0), .sh ((T10 1)), .sh (x_k), .sh (x_told), .sh (x_many), .sh (x_most)] = .ret (.d (T11 1)) [.no, .no, .no, .no, .no, .no] := (w43_1r x_k x_told x_many x_most ).trans (congrArg (fun z => CR.ret (.d z) [.no, .no, .no, .no, .no, .no]) (w43_1d ).symm)
theorem w43_2r (x_k x_told x_many x_most : PyData) : run lw.G 60 18 [.sh (.int 0), .sh ((T10 2)), .sh (x_k), .sh (x_told), .sh (x_many), .sh (x_most)] = .ret (.d (.none)) [.no, .no, .no, .no, .no, .no] := by kernel_rfl
theorem w43_2d : (T11 2) = (.none) := by kernel_rfl
theorem w43_2 (x_k x_told x_many x_most : PyData) : run lw.G 60 18 [.sh (.int 0), .sh ((T10 2)), .sh (x_k), .sh (x_told), .sh (x_many), .sh (x_most)] = .ret (.d (T11 2)) [.no, .no, .no, .no, .no, .no] := (w43_2r x_k x_told x_many x_most ).trans (congrArg (fun z => CR.ret (.d z) [.no, .no, .no, .no, .no, .no]) (w43_2d ).symm)
theorem w43_3r (x_k x_told x_many x_most : PyData) : run lw.G 60 18 [.sh (.int 0), .sh ((T10 3)), .sh (x_k), .sh (x_told), .sh (x_many), .sh (x_most)] = .ret (.d (.tuple [.str "size", .int 0])) [.no, .no, .no, .no, .no, .no] := by kernel_rfl
theorem w43_3d : (T11 3) = (.tuple [.str "size", .int 0]) := by kernel_rfl
theorem w43_3 (x_k x_told x_many x_most : PyData) : run lw.G 60 18 [.sh (.int 0), .sh ((T10 3)), .sh (x_k), .sh (x_told), .sh (x_many), .sh (x_most)] = .ret (.d (T11 3)) [.no, .no, .no, .no, .no, .no] := (w43_3r x_k x_told x_many x_most ).trans (congrArg (fun z => CR.ret (.d z) [.no, .no, .no, .no, .no, .no]) (w43_3d ).symm)
theorem w43_4r (x_k x_told x_many x_most : PyData) : run lw.G 60 18 [.sh (.int 0), .sh ((T10 4)), .sh (x_k), .sh (x_told), .sh (x_many), .sh (x_most)] = .ret (.d (.tuple [.str "size", .int 8])) [.no, .no, .no, .no, .no, .no] := by kernel_rfl
theorem w43_4d : (T11 4) = (.tuple [.str "size", .int 8]) := by kernel_rfl
theorem w43_4 (x_k x_told x_many x_most : PyData) : run lw.G 60 18 [.sh (.int 0), .sh ((T10 4)), .sh (x_k), .sh (x_told), .sh (x_many), .sh (x_most)] = .ret (.d (T11 4)) [.no, .no, .no, .no, .no, .no] := (w43_4r x_k x_told x_many x_most ).trans (congrArg (fun z => CR.ret (.d z) [.no, .no, .no, .no, .no, .no]) (w43_4d ).symm)
theorem w43_5r (x_k x_told x_many x_most : PyData) : run lw.G 60 18 [.sh (.int 0), .sh ((T10 5)), .sh (x_k), .sh (x_told), .sh (x_many), .sh (x_most)] = .ret (.d (.tuple [.str "corner", .int 0])) [.no, .no, .no, .no, .no, .no] := by kernel_rfl
theorem w43_5d : (T11 5) = (.tuple [.str "corner", .int 0]) := by kernel_rfl
theorem w43_5 (x_k x_told x_many x_most : PyData) : run lw.G 60 18 [.sh (.int 0), .sh ((T10 5)), .sh (x_k), .sh (x_told), .sh (x_many), .sh (x_most)] = .ret (.d (T11 5)) [.no, .no, .no, .no, .no, .no] := (w43_5r x_k x_told x_many x_most ).trans (congrArg (fun z => CR.ret (.d z) [.no, .no, .no, .no, .no, .no]) (w43_5d ).symm)
theorem w43_6r (x_k x_told x_many x_most : PyData) : run lw.G 60 18 [.sh (.int 0), .sh ((T10 6)), .sh (x_k), .sh (x_told), .sh (x_many), .sh (x_most)] = .ret (.d (.tuple [.str "corner", .int 2])) [.no, .no, .no, .no, .no, .no] := by kernel_rfl
theorem w43_6d : (T11 6) = (.tuple [.str "corner", .int 2]) := by kernel_rfl
theorem w43_6 (x_k x_told x_many x_most : PyData) : run lw.G 60 18 [.sh (.int 0), .sh ((T10 6)), .sh (x_k), .sh (x_told), .sh (x_many), .sh (x_most)] = .ret (.d (T11 6)) [.no, .no, .no, .no, .no, .no] := (w43_6r x_k x_told x_many x_most ).trans (congrArg (fun z => CR.ret (.d z) [.no, .no, .no, .no, .no, .no]) (w43_6d ).symm)
theorem w43_7r (x_k x_told x_many x_most : PyData) : run lw.G 60 18 [.sh (.int 0), .sh ((T10 7)), .sh (x_k), .sh (x_told), .sh (x_many), .sh (x_most)] = .ret (.d (.tuple [.str "corner", .int 2])) [.no, .no, .no, .no, .no, .no] := by kernel_rfl
theorem w43_7d : (T11 7) = (.tuple [.str "corner", .int 2]) := by kernel_rfl
theorem w43_7 (x_k x_told x_many x_most : PyData) : run lw.G 60 18 [.sh (.int 0), .sh ((T10 7)), .sh (x_k), .sh (x_told), .sh (x_many), .sh (x_most)] = .ret (.d (T11 7)) [.no, .no, .no, .no, .no, .no] := (w43_7r x_k x_told x_many x_most ).trans (congrArg (fun z => CR.ret (.d z) [.no, .no, .no, .no, .no, .no]) (w43_7d ).symm)
theorem w43_8r (x_k x_told x_many x_most : PyData) : run lw.G 60 18 [.sh (.int 0), .sh ((T10 8)), .sh (x_k), .sh (x_told), .sh (x_many), .sh (x_most)] = .ret (.d (.tuple [.str "corner", .int 1])) [.no, .no, .no, .no, .no, .no] := by kernel_rfl
theorem w43_8d : (T11 8) = (.tuple [.str "corner", .int 1]) := by kernel_rfl
theorem w43_8 (x_k x_told x_many x_most : PyData) : run lw.G 60 18 [.sh (.int 0), .sh ((T10 8)), .sh (x_k), .sh (x_told), .sh (x_many), .sh (x_most)] = .ret (.d (T11 8)) [.no, .no, .no, .no, .no, .no] := (w43_8r x_k x_told x_many x_most ).trans (congrArg (fun z => CR.ret (.d z) [.no, .no, .no, .no, .no, .no]) (w43_8d ).symm)
theorem w43_9r (x_k x_told x_many x_most : PyData) : run lw.G 60 18 [.sh (.int 0), .sh ((T10 9)), .sh (x_k), .sh (x_told), .sh (x_many), .sh (x_most)] = .ret (.d (.tuple [.str "corner", .int 0])) [.no, .no, .no, .no, .no, .no] := by kernel_rfl
theorem w43_9d : (T11 9) = (.tuple [.str "corner", .int 0]) := by kernel_rfl
theorem w43_9 (x_k x_told x_many x_most : PyData) : run lw.G 60 18 [.sh (.int 0), .sh ((T10 9)), .sh (x_k), .sh (x_told), .sh (x_many), .sh (x_most)] = .ret (.d (T11 9)) [.no, .no, .no, .no, .no, .no] := (w43_9r x_k x_told x_many x_most ).trans (congrArg (fun z => CR.ret (.d z) [.no, .no, .no, .no, .no, .no]) (w43_9d ).symm)
theorem w43 (x_k x_told x_many x_most : PyData) (i_corners_due : Nat) (h_i_corners_due : i_corners_due < 10) : run lw.G 60 18 [.sh (.int 0), .sh ((T10 i_corners_due)), .sh (x_k), .sh (x_told), .sh (x_many), .sh (x_most)] = .ret (.d (T11 i_corners_due)) [.no, .no, .no, .no, .no, .no] := match i_corners_due, h_i_corners_due with | 0, _ => w43_0 x_k x_told x_many x_most | 1, _ => w43_1 x_k x_told x_many x_most | 2, _ => w43_2 x_k x_told x_many x_most | 3, _ => w43_3 x_k x_told x_many x_most | 4, _ => w43_4 x_k x_told x_many x_most | 5, _ => w43_5 x_k x_told x_many x_most | 6, _ => w43_6 x_k x_told x_many x_most | 7, _ => w43_7 x_k x_told x_many x_most | 8, _ => w43_8 x_k x_told x_many x_most | 9, _ => w43_9 x_k x_told x_many x_most
theorem w44_0r (x_k x_told x_many x_most : PyData) : run lw.G 60 18 [.sh (.int 1), .sh ((T10 0)), .sh (x_k), .sh (x_told), .sh (x_many), .sh (x_most)] = .ret (.d (.none)) [.no, .no, .no, .no, .no, .no] := by kernel_rfl
theorem w44_0d : (T11 0) = (.none) := by kernel_rfl
theorem w44_0 (x_k x_told x_many x_most : PyData) : run lw.G 60 18 [.sh (.int 1), .sh ((T10 0)), .sh (x_k), .sh (x_told), .sh (x_many), .sh (x_most)] = .ret (.d (T11 0)) [.no, .no, .no, .no, .no, .no] := (w44_0r x_k x_told x_many x_most ).trans (congrArg (fun z => CR.ret (.d z) [.no, .no, .no, .no, .no, .no]) (w44_0d ).symm)
theorem w44_1r (x_k x_told x_many x_most : PyData) : run lw.G 60 18 [.sh (.int 1), .sh ((T10 1)), .sh (x_k), .sh (x_told), .sh (x_many), .sh (x_most)] = .ret (.d (.none)) [.no, .no, .no, .no, .no, .no] := by kernel_rfl
theorem w44_1d : (T11 1) = (.none) := by kernel_rfl
theorem w44_1 (x_k x_told x_many x_most : PyData) : run lw.G 60 18 [.sh (.int 1), .sh ((T10 1)), .sh (x_k), .sh (x_told), .sh (x_many), .sh (x_most)] = .ret (.d (T11 1)) [.no, .no, .no, .no, .no, .no] := (w44_1r x_k x_told x_many x_most ).trans (congrArg (fun z => CR.ret (.d z) [.no, .no, .no, .no, .no, .no]) (w44_1d ).symm)
theorem w44_2r (x_k x_told x_many x_most : PyData) : run lw.G 60 18 [.sh (.int 1), .sh ((T10 2)), .sh (x_k), .sh (x_told), .sh (x_many), .sh (x_most)] = .ret (.d (.none)) [.no, .no, .no, .no, .no, .no] := by kernel_rfl
theorem w44_2d : (T11 2) = (.none) := by kernel_rfl
theorem w44_2 (x_k x_told x_many x_most : PyData) : run lw.G 60 18 [.sh (.int 1), .sh ((T10 2)), .sh (x_k), .sh (x_told), .sh (x_many), .sh (x_most)] = .ret (.d (T11 2)) [.no, .no, .no, .no, .no, .no] := (w44_2r x_k x_told x_many x_most ).trans (congrArg (fun z => CR.ret (.d z) [.no, .no, .no, .no, .no, .no]) (w44_2d ).symm)
theorem w44_3r (x_k x_told x_many x_most : PyData) : run lw.G 60 18 [.sh (.int 1), .sh ((T10 3)), .sh (x_k), .sh (x_told), .sh (x_many), .sh (x_most)] = .ret (.d (.tuple [.str "size", .int 0])) [.no, .no, .no, .no, .no, .no] := by kernel_rfl
theorem w44_3d : (T11 3) = (.tuple [.str "size", .int 0]) := by kernel_rfl
theorem w44_3 (x_k x_told x_many x_most : PyData) : run lw.G 60 18 [.sh (.int 1), .sh ((T10 3)), .sh (x_k), .sh (x_told), .sh (x_many), .sh (x_most)] = .ret (.d (T11 3)) [.no, .no, .no, .no, .no, .no] := (w44_3r x_k x_told x_many x_most ).trans (congrArg (fun z => CR.ret (.d z) [.no, .no, .no, .no, .no, .no]) (w44_3d ).symm)
theorem w44_4r (x_k x_told x_many x_most : PyData) : run lw.G 60 18 [.sh (.int 1), .sh ((T10 4)), .sh (x_k), .sh (x_told), .sh (x_many), .sh (x_most)] = .ret (.d (.tuple [.str "size", .int 8])) [.no, .no, .no, .no, .no, .no] := by kernel_rfl
theorem w44_4d : (T11 4) = (.tuple [.str "size", .int 8]) := by kernel_rfl
theorem w44_4 (x_k x_told x_many x_most : PyData) : run lw.G 60 18 [.sh (.int 1), .sh ((T10 4)), .sh (x_k), .sh (x_told), .sh (x_many), .sh (x_most)] = .ret (.d (T11 4)) [.no, .no, .no, .no, .no, .no] := (w44_4r x_k x_told x_many x_most ).trans (congrArg (fun z => CR.ret (.d z) [.no, .no, .no, .no, .no, .no]) (w44_4d ).symm)
theorem w44_5r (x_k x_told x_many x_most : PyData) : run lw.G 60 18 [.sh (.int 1), .sh ((T10 5)), .sh (x_k), .sh (x_told), .sh (x_many), .sh (x_most)] = .ret (.d (.tuple [.str "corner", .int 0])) [.no, .no, .no, .no, .no, .no] := by kernel_rfl
theorem w44_5d : (T11 5) = (.tuple [.str "corner", .int 0]) := by kernel_rfl
theorem w44_5 (x_k x_told x_many x_most : PyData) : run lw.G 60 18 [.sh (.int 1), .sh ((T10 5)), .sh (x_k), .sh (x_told), .sh (x_many), .sh (x_most)] = .ret (.d (T11 5)) [.no, .no, .no, .no, .no, .no] := (w44_5r x_k x_told x_many x_most ).trans (congrArg (fun z => CR.ret (.d z) [.no, .no, .no, .no, .no, .no]) (w44_5d ).symm)
theorem w44_6r (x_k x_told x_many x_most : PyData) : run lw.G 60 18 [.sh (.int 1), .sh ((T10 6)), .sh (x_k), .sh (x_told), .sh (x_many), .sh (x_most)] = .ret (.d (.tuple [.str "corner", .int 2])) [.no, .no, .no, .no, .no, .no] := by kernel_rfl
theorem w44_6d : (T11 6) = (.tuple [.str "corner", .int 2]) := by kernel_rfl
theorem w44_6 (x_k x_told x_many x_most : PyData) : run lw.G 60 18 [.sh (.int 1), .sh ((T10 6)), .sh (x_k), .sh (x_told), .sh (x_many), .sh (x_most)] = .ret (.d (T11 6)) [.no, .no, .no, .no, .no, .no] := (w44_6r x_k x_told x_many x_most ).trans (congrArg (fun z => CR.ret (.d z) [.no, .no, .no, .no, .no, .no]) (w44_6d ).symm)
theorem w44_7r (x_k x_told x_many x_most : PyData) : run lw.G 60 18 [.sh (.int 1), .sh ((T10 7)), .sh (x_k), .sh (x_told), .sh (x_many), .sh (x_most)] = .ret (.d (.tuple [.str "corner", .int 2])) [.no, .no, .no, .no, .no, .no] := by kernel_rfl
theorem w44_7d : (T11 7) = (.tuple [.str "corner", .int 2]) := by kernel_rfl
theorem w44_7 (x_k x_told x_many x_most : PyData) : run lw.G 60 18 [.sh (.int 1), .sh ((T10 7)), .sh (x_k), .sh (x_told), .sh (x_many), .sh (x_most)] = .ret (.d (T11 7)) [.no, .no, .no, .no, .no, .no] := (w44_7r x_k x_told x_many x_most ).trans (congrArg (fun z => CR.ret (.d z) [.no, .no, .no, .no, .no, .no]) (w44_7d ).symm)
theorem w44_8r (x_k x_told x_many x_most : PyData) : run lw.G 60 18 [.sh (.int 1), .sh ((T10 8)), .sh (x_k), .sh (x_told), .sh (x_many), .sh (x_most)] = .ret (.d (.tuple [.str "corner", .int 1])) [.no, .no, .no, .no, .no, .no] := by kernel_rfl
theorem w44_8d : (T11 8) = (.tuple [.str "corner", .int 1]) := by kernel_rfl
theorem w44_8 (x_k x_told x_many x_most : PyData) : run lw.G 60 18 [.sh (.int 1), .sh ((T10 8)), .sh (x_k), .sh (x_told), .sh (x_many), .sh (x_most)] = .ret (.d (T11 8)) [.no, .no, .no, .no, .no, .no] := (w44_8r x_k x_told x_many x_most ).trans (congrArg (fun z => CR.ret (.d z) [.no, .no, .no, .no, .no, .no]) (w44_8d ).symm)
theorem w44_9r (x_k x_told x_many x_most : PyData) : run lw.G 60 18 [.sh (.int 1), .sh ((T10 9)), .sh (x_k), .sh (x_told), .sh (x_many), .sh (x_most)] = .ret (.d (.tuple [.str "corner", .int 0])) [.no, .no, .no, .no, .no, .no] := by kernel_rfl
theorem w44_9d : (T11 9) = (.tuple [.str "corner", .int 0]) := by kernel_rfl
theorem w44_9 (x_k x_told x_many x_most : PyData) : run lw.G 60 18 [.sh (.int 1), .sh ((T10 9)), .sh (x_k), .sh (x_told), .sh (x_many), .sh (x_most)] = .ret (.d (T11 9)) [.no, .no, .no, .no, .no, .no] := (w44_9r x_k x_told x_many x_most ).trans (congrArg (fun z => CR.ret (.d z) [.no, .no, .no, .no, .no, .no]) (w44_9d ).symm)
theorem w44 (x_k x_told x_many x_most : PyData) (i_corners_due : Nat) (h_i_corners_due : i_corners_due < 10) : run lw.G 60 18 [.sh (.int 1), .sh ((T10 i_corners_due)), .sh (x_k), .sh (x_told), .sh (x_many), .sh (x_most)] = .ret (.d (T11 i_corners_due)) [.no, .no, .no, .no, .no, .no] := match i_corners_due, h_i_corners_due with | 0, _ => w44_0 x_k x_told x_many x_most | 1, _ => w44_1 x_k x_told x_many x_most | 2, _ => w44_2 x_k x_told x_many x_most | 3, _ => w44_3 x_k x_told x_many x_most | 4, _ => w44_4 x_k x_told x_many x_most | 5, _ => w44_5 x_k x_told x_many x_most | 6, _ => w44_6 x_k x_told x_many x_most | 7, _ => w44_7 x_k x_told x_many x_most | 8, _ => w44_8 x_k x_told x_many x_most | 9, _ => w44_9 x_k x_told x_many x_most
theorem w45_0r (x_k x_told x_many x_most : PyData) : run lw.G 60 18 [.sh (.int 2), .sh ((T10 0)), .sh (x_k), .sh (x_told), .sh (x_many), .sh (x_most)] = .ret (.d (.none)) [.no, .no, .no, .no, .no, .no] := by kernel_rfl
theorem w45_0d : (T11 0) = (.none) := by kernel_rfl
theorem w45_0 (x_k x_told x_many x_most : PyData) : run lw.G 60 18 [.sh (.int 2), .sh ((T10 0)), .sh (x_k), .sh (x_told), .sh (x_many), .sh (x_most)] = .ret (.d (T11 0)) [.no, .no, .no, .no, .no, .no] := (w45_0r x_k x_told x_many x_most ).trans (congrArg (fun z => CR.ret (.d z) [.no, .no, .no, .no, .no, .no]) (w45_0d ).symm)
theorem w45_1r (x_k x_told x_many x_most : PyData) : run lw.G 60 18 [.sh (.int 2), .sh ((T10 1)), .sh (x_k), .sh (x_told), .sh (x_many), .sh (x_most)] = .ret (.d (.none)) [.no, .no, .no, .no, .no, .no] := by kernel_rfl
theorem w45_1d : (T11 1) = (.none) := by kernel_rfl
theorem w45_1 (x_k x_told x_many x_most : PyData) : run lw.G 60 18 [.sh (.int 2), .sh ((T10 1)), .sh (x_k), .sh (x_told), .sh (x_many), .sh (x_most)] = .ret (.d (T11 1)) [.no, .no, .no, .no, .no, .no] := (w45_1r x_k x_told x_many x_most ).trans (congrArg (fun z => CR.ret (.d z) [.no, .no, .no, .no, .no, .no]) (w45_1d ).symm)
theorem w45_2r (x_k x_told x_many x_most : PyData) : run lw.G 60 18 [.sh (.int 2), .sh ((T10 2)), .sh (x_k), .sh (x_told), .sh (x_many), .sh (x_most)] = .ret (.d (.none)) [.no, .no, .no, .no, .no, .no] := by kernel_rfl
theorem w45_2d : (T11 2) = (.none) := by kernel_rfl
theorem w45_2 (x_k x_told x_many x_most : PyData) : run lw.G 60 18 [.sh (.int 2), .sh ((T10 2)), .sh (x_k), .sh (x_told), .sh (x_many), .sh (x_most)] = .ret (.d (T11 2)) [.no, .no, .no, .no, .no, .no] := (w45_2r x_k x_told x_many x_most ).trans (congrArg (fun z => CR.ret (.d z) [.no, .no, .no, .no, .no, .no]) (w45_2d ).symm)
theorem w45_3r (x_k x_told x_many x_most : PyData) : run lw.G 60 18 [.sh (.int 2), .sh ((T10 3)), .sh (x_k), .sh (x_told), .sh (x_many), .sh (x_most)] = .ret (.d (.tuple [.str "size", .int 0])) [.no, .no, .no, .no, .no, .no] := by kernel_rfl
theorem w45_3d : (T11 3) = (.tuple [.str "size", .int 0]) := by kernel_rfl
theorem w45_3 (x_k x_told x_many x_most : PyData) : run lw.G 60 18 [.sh (.int 2), .sh ((T10 3)), .sh (x_k), .sh (x_told), .sh (x_many), .sh (x_most)] = .ret (.d (T11 3)) [.no, .no, .no, .no, .no, .no] := (w45_3r x_k x_told x_many x_most ).trans (congrArg (fun z => CR.ret (.d z) [.no, .no, .no, .no, .no, .no]) (w45_3d ).symm)
theorem w45_4r (x_k x_told x_many x_most : PyData) : run lw.G 60 18 [.sh (.int 2), .sh ((T10 4)), .sh (x_k), .sh (x_told), .sh (x_many), .sh (x_most)] = .ret (.d (.tuple [.str "size", .int 8])) [.no, .no, .no, .no, .no, .no] := by kernel_rfl
theorem w45_4d : (T11 4) = (.tuple [.str "size", .int 8]) := by kernel_rfl
theorem w45_4 (x_k x_told x_many x_most : PyData) : run lw.G 60 18 [.sh (.int 2), .sh ((T10 4)), .sh (x_k), .sh (x_told), .sh (x_many), .sh (x_most)] = .ret (.d (T11 4)) [.no, .no, .no, .no, .no, .no] := (w45_4r x_k x_told x_many x_most ).trans (congrArg (fun z => CR.ret (.d z) [.no, .no, .no, .no, .no, .no]) (w45_4d ).symm)
theorem w45_5r (x_k x_told x_many x_most : PyData) : run lw.G 60 18 [.sh (.int 2), .sh ((T10 5)), .sh (x_k), .sh (x_told), .sh (x_many), .sh (x_most)] = .ret (.d (.tuple [.str "corner", .int 0])) [.no, .no, .no, .no, .no, .no] := by kernel_rfl
theorem w45_5d : (T11 5) = (.tuple [.str "corner", .int 0]) := by kernel_rfl
theorem w45_5 (x_k x_told x_many x_most : PyData) : run lw.G 60 18 [.sh (.int 2), .sh ((T10 5)), .sh (x_k), .sh (x_told), .sh (x_many), .sh (x_most)] = .ret (.d (T11 5)) [.no, .no, .no, .no, .no, .no] := (w45_5r x_k x_told x_many x_most ).trans (congrArg (fun z => CR.ret (.d z) [.no, .no, .no, .no, .no, .no]) (w45_5d ).symm)
theorem w45_6r (x_k x_told x_many x_most : PyData) : run lw.G 60 18 [.sh (.int 2), .sh ((T10 6)), .sh (x_k), .sh (x_told), .sh (x_many), .sh (x_most)] = .ret (.d (.tuple [.str "corner", .int 2])) [.no, .no, .no, .no, .no, .no] := by kernel_rfl
theorem w45_6d : (T11 6) = (.tuple [.str "corner", .int 2]) := by kernel_rfl
theorem w45_6 (x_k x_told x_many x_most : PyData) : run lw.G 60 18 [.sh (.int 2), .sh ((T10 6)), .sh (x_k), .sh (x_told), .sh (x_many), .sh (x_most)] = .ret (.d (T11 6)) [.no, .no, .no, .no, .no, .no] := (w45_6r x_k x_told x_many x_most ).trans (congrArg (fun z => CR.ret (.d z) [.no, .no, .no, .no, .no, .no]) (w45_6d ).symm)
theorem w45_7r (x_k x_told x_many x_most : PyData) : run lw.G 60 18 [.sh (.int 2), .sh ((T10 7)), .sh (x_k), .sh (x_told), .sh (x_many), .sh (x_most)] = .ret (.d (.tuple [.str "corner", .int 2])) [.no, .no, .no, .no, .no, .no] := by kernel_rfl
theorem w45_7d : (T11 7) = (.tuple [.str "corner", .int 2]) := by kernel_rfl
theorem w45_7 (x_k x_told x_many x_most : PyData) : run lw.G 60 18 [.sh (.int 2), .sh ((T10 7)), .sh (x_k), .sh (x_told), .sh (x_many), .sh (x_most)] = .ret (.d (T11 7)) [.no, .no, .no, .no, .no, .no] := (w45_7r x_k x_told x_many x_most ).trans (congrArg (fun z => CR.ret (.d z) [.no, .no, .no, .no, .no, .no]) (w45_7d ).symm)
theorem w45_8r (x_k x_told x_many x_most : PyData) : run lw.G 60 18 [.sh (.int 2), .sh ((T10 8)), .sh (x_k), .sh (x_told), .sh (x_many), .sh (x_most)] = .ret (.d (.tuple [.str "corner", .int 1])) [.no, .no, .no, .no, .no, .no] := by kernel_rfl
theorem w45_8d : (T11 8) = (.tuple [.str "corner", .int 1]) := by kernel_rfl
theorem w45_8 (x_k x_told x_many x_most : PyData) : run lw.G 60 18 [.sh (.int 2), .sh ((T10 8)), .sh (x_k), .sh (x_told), .sh (x_many), .sh (x_most)] = .ret (.d (T11 8)) [.no, .no, .no, .no, .no, .no] := (w45_8r x_k x_told x_many x_most ).trans (congrArg (fun z => CR.ret (.d z) [.no, .no, .no, .no, .no, .no]) (w45_8d ).symm)
theorem w45_9r (x_k x_told x_many x_most : PyData) : run lw.G 60 18 [.sh (.int 2), .sh ((T10 9)), .sh (x_k), .sh (x_told), .sh (x_many), .sh (x_most)] = .ret (.d (.tuple [.str "corner", .int 0])) [.no, .no, .no, .no, .no, .no] := by kernel_rfl
theorem w45_9d : (T11 9) = (.tuple [.str "corner", .int 0]) := by kernel_rfl
theorem w45_9 (x_k x_told x_many x_most : PyData) : run lw.G 60 18 [.sh (.int 2), .sh ((T10 9)), .sh (x_k), .sh (x_told), .sh (x_many), .sh (x_most)] = .ret (.d (T11 9)) [.no, .no, .no, .no, .no, .no] := (w45_9r x_k x_told x_many x_most ).trans (congrArg (fun z => CR.ret (.d z) [.no, .no, .no, .no, .no, .no]) (w45_9d ).symm)
theorem w45 (x_k x_told x_many x_most : PyData) (i_corners_due : Nat) (h_i_corners_due : i_corners_due < 10) : run lw.G 60 18 [.sh (.int 2), .sh ((T10 i_corners_due)), .sh (x_k), .sh (x_told), .sh (x_many), .sh (x_most)] = .ret (.d (T11 i_corners_due)) [.no, .no, .no, .no, .no, .no] := match i_corners_due, h_i_corners_due with | 0, _ => w45_0 x_k x_told x_many x_most | 1, _ => w45_1 x_k x_told x_many x_most | 2, _ => w45_2 x_k x_told x_many x_most | 3, _ => w45_3 x_k x_told x_many x_most | 4, _ => w45_4 x_k x_told x_many x_most | 5, _ => w45_5 x_k x_told x_many x_most | 6, _ => w45_6 x_k x_told x_many x_most | 7, _ => w45_7 x_k x_told x_many x_most | 8, _ => w45_8 x_k x_told x_many x_most | 9, _ => w45_9 x_k x_told x_many x_most
theorem w46_0_0r (x_told x_many x_most : PyData) : run lw.G 60 18 [.sh (.int 3), .sh ((T10 0)), .sh ((tab L21 0)), .sh (x_told), .sh (x_many), .sh (x_most)] = .ret (.d (.none)) [.no, .no, .no, .no, .no, .no] := by kernel_rfl
theorem w46_0_0d : (T38 0 0) = (.none) := by kernel_rfl
theorem w46_0_0 (x_told x_many x_most : PyData) : run lw.G 60 18 [.sh (.int 3), .sh ((T10 0)), .sh ((tab L21 0)), .sh (x_told), .sh (x_many), .sh (x_most)] = .ret (.d (T38 0 0)) [.no, .no, .no, .no, .no, .no] := (w46_0_0r x_told x_many x_most ).trans (congrArg (fun z => CR.ret (.d z) [.no, .no, .no, .no, .no, .no]) (w46_0_0d ).symm)
theorem w46_0_1r (x_told x_many x_most : PyData) : run lw.G 60 18 [.sh (.int 3), .sh ((T10 1)), .sh ((tab L21 0)), .sh (x_told), .sh (x_many), .sh (x_most)] = .ret (.d (.none)) [.no, .no, .no, .no, .no, .no] := by kernel_rfl
theorem w46_0_1d : (T38 0 1) = (.none) := by kernel_rfl
theorem w46_0_1 (x_told x_many x_most : PyData) : run lw.G 60 18 [.sh (.int 3), .sh ((T10 1)), .sh ((tab L21 0)), .sh (x_told), .sh (x_many), .sh (x_most)] = .ret (.d (T38 0 1)) [.no, .no, .no, .no, .no, .no] := (w46_0_1r x_told x_many x_most ).trans (congrArg (fun z => CR.ret (.d z) [.no, .no, .no, .no, .no, .no]) (w46_0_1d ).symm)
theorem w46_0_2r (x_told x_many x_most : PyData) : run lw.G 60 18 [.sh (.int 3), .sh ((T10 2)), .sh ((tab L21 0)), .sh (x_told), .sh (x_many), .sh (x_most)] = .ret (.d (.none)) [.no, .no, .no, .no, .no, .no] := by kernel_rfl
theorem w46_0_2d : (T38 0 2) = (.none) := by kernel_rfl
theorem w46_0_2 (x_told x_many x_most : PyData) : run lw.G 60 18 [.sh (.int 3), .sh ((T10 2)), .sh ((tab L21 0)), .sh (x_told), .sh (x_many), .sh (x_most)] = .ret (.d (T38 0 2)) [.no, .no, .no, .no, .no, .no] := (w46_0_2r x_told x_many x_most ).trans (congrArg (fun z => CR.ret (.d z) [.no, .no, .no, .no, .no, .no]) (w46_0_2d ).symm)
theorem w46_0_3r (x_told x_many x_most : PyData) : run lw.G 60 18 [.sh (.int 3), .sh ((T10 3)), .sh ((tab L21 0)), .sh (x_told), .sh (x_many), .sh (x_most)] = .ret (.d (.tuple [.str "size", .int 0])) [.no, .no, .no, .no, .no, .no] := by kernel_rfl
theorem w46_0_3d : (T38 0 3) = (.tuple [.str "size", .int 0]) := by kernel_rfl
theorem w46_0_3 (x_told x_many x_most : PyData) : run lw.G 60 18 [.sh (.int 3), .sh ((T10 3)), .sh ((tab L21 0)), .sh (x_told), .sh (x_many), .sh (x_most)] = .ret (.d (T38 0 3)) [.no, .no, .no, .no, .no, .no] := (w46_0_3r x_told x_many x_most ).trans (congrArg (fun z => CR.ret (.d z) [.no, .no, .no, .no, .no, .no]) (w46_0_3d ).symm)
theorem w46_0_4r (x_told x_many x_most : PyData) : run lw.G 60 18 [.sh (.int 3), .sh ((T10 4)), .sh ((tab L21 0)), .sh (x_told), .sh (x_many), .sh (x_most)] = .ret (.d (.tuple [.str "size", .int 8])) [.no, .no, .no, .no, .no, .no] := by kernel_rfl
theorem w46_0_4d : (T38 0 4) = (.tuple [.str "size", .int 8]) := by kernel_rfl
theorem w46_0_4 (x_told x_many x_most : PyData) : run lw.G 60 18 [.sh (.int 3), .sh ((T10 4)), .sh ((tab L21 0)), .sh (x_told), .sh (x_many), .sh (x_most)] = .ret (.d (T38 0 4)) [.no, .no, .no, .no, .no, .no] := (w46_0_4r x_told x_many x_most ).trans (congrArg (fun z => CR.ret (.d z) [.no, .no, .no, .no, .no, .no]) (w46_0_4d ).symm)
theorem w46_0_5r (x_told x_many x_most : PyData) : run lw.G 60 18 [.sh (.int 3), .sh ((T10 5)), .sh ((tab L21 0)), .sh (x_told), .sh (x_many), .sh (x_most)] = .ret (.d (.tuple [.str "corner", .int 0])) [.no, .no, .no, .no, .no, .no] := by kernel_rfl
theorem w46_0_5d : (T38 0 5) = (.tuple [.str "corner", .int 0]) := by kernel_rfl
theorem w46_0_5 (x_told x_many x_most : PyData) : run lw.G 60 18 [.sh (.int 3), .sh ((T10 5)), .sh ((tab L21 0)), .sh (x_told), .sh (x_many), .sh (x_most)] = .ret (.d (T38 0 5)) [.no, .no, .no, .no, .no, .no] := (w46_0_5r x_told x_many x_most ).trans (congrArg (fun z => CR.ret (.d z) [.no, .no, .no, .no, .no, .no]) (w46_0_5d ).symm)
theorem w46_0_6r (x_told x_many x_most : PyData) : run lw.G 60 18 [.sh (.int 3), .sh ((T10 6)), .sh ((tab L21 0)), .sh (x_told), .sh (x_many), .sh (x_most)] = .ret (.d (.tuple [.str "corner", .int 2])) [.no, .no, .no, .no, .no, .no] := by kernel_rfl
theorem w46_0_6d : (T38 0 6) = (.tuple [.str "corner", .int 2]) := by kernel_rfl
theorem w46_0_6 (x_told x_many x_most : PyData) : run lw.G 60 18 [.sh (.int 3), .sh ((T10 6)), .sh ((tab L21 0)), .sh (x_told), .sh (x_many), .sh (x_most)] = .ret (.d (T38 0 6)) [.no, .no, .no, .no, .no, .no] := (w46_0_6r x_told x_many x_most ).trans (congrArg (fun z => CR.ret (.d z) [.no, .no, .no, .no, .no, .no]) (w46_0_6d ).symm)
theorem w46_0_7r (x_told x_many x_most : PyData) : run lw.G 60 18 [.sh (.int 3), .sh ((T10 7)), .sh ((tab L21 0)), .sh (x_told), .sh (x_many), .sh (x_most)] = .ret (.d (.tuple [.str "corner", .int 2])) [.no, .no, .no, .no, .no, .no] := by kernel_rfl
theorem w46_0_7d : (T38 0 7) = (.tuple [.str "corner", .int 2]) := by kernel_rfl
theorem w46_0_7 (x_told x_many x_most : PyData) : run lw.G 60 18 [.sh (.int 3), .sh ((T10 7)), .sh ((tab L21 0)), .sh (x_told), .sh (x_many), .sh (x_most)] = .ret (.d (T38 0 7)) [.no, .no, .no, .no, .no, .no] := (w46_0_7r x_told x_many x_most ).trans (congrArg (fun z => CR.ret (.d z) [.no, .no, .no, .no, .no, .no]) (w46_0_7d ).symm)
theorem w46_0_8r (x_told x_many x_most : PyData) : run lw.G 60 18 [.sh (.int 3), .sh ((T10 8)), .sh ((tab L21 0)), .sh (x_told), .sh (x_many), .sh (x_most)] = .ret (.d (.tuple [.str "corner", .int 1])) [.no, .no, .no, .no, .no, .no] := by kernel_rfl
theorem w46_0_8d : (T38 0 8) = (.tuple [.str "corner", .int 1]) := by kernel_rfl
theorem w46_0_8 (x_told x_many x_most : PyData) : run lw.G 60 18 [.sh (.int 3), .sh ((T10 8)), .sh ((tab L21 0)), .sh (x_told), .sh (x_many), .sh (x_most)] = .ret (.d (T38 0 8)) [.no, .no, .no, .no, .no, .no] := (w46_0_8r x_told x_many x_most ).trans (congrArg (fun z => CR.ret (.d z) [.no, .no, .no, .no, .no, .no]) (w46_0_8d ).symm)
theorem w46_0_9r (x_told x_many x_most : PyData) : run lw.G 60 18 [.sh (.int 3), .sh ((T10 9)), .sh ((tab L21 0)), .sh (x_told), .sh (x_many), .sh (x_most)] = .ret (.d (.tuple [.str "corner", .int 0])) [.no, .no, .no, .no, .no, .no] := by kernel_rfl
theorem w46_0_9d : (T38 0 9) = (.tuple [.str "corner", .int 0]) := by kernel_rfl
theorem w46_0_9 (x_told x_many x_most : PyData) : run lw.G 60 18 [.sh (.int 3), .sh ((T10 9)), .sh ((tab L21 0)), .sh (x_told), .sh (x_many), .sh (x_most)] = .ret (.d (T38 0 9)) [.no, .no, .no, .no, .no, .no] := (w46_0_9r x_told x_many x_most ).trans (congrArg (fun z => CR.ret (.d z) [.no, .no, .no, .no, .no, .no]) (w46_0_9d ).symm)
theorem w46_0 (x_told x_many x_most : PyData) (i_corners_due : Nat) (h_i_corners_due : i_corners_due < 10) : run lw.G 60 18 [.sh (.int 3), .sh ((T10 i_corners_due)), .sh ((tab L21 0)), .sh (x_told), .sh (x_many), .sh (x_most)] = .ret (.d (T38 0 i_corners_due)) [.no, .no, .no, .no, .no, .no] := match i_corners_due, h_i_corners_due with | 0, _ => w46_0_0 x_told x_many x_most | 1, _ => w46_0_1 x_told x_many x_most | 2, _ => w46_0_2 x_told x_many x_most | 3, _ => w46_0_3 x_told x_many x_most | 4, _ => w46_0_4 x_told x_many x_most | 5, _ => w46_0_5 x_told x_many x_most | 6, _ => w46_0_6 x_told x_many x_most | 7, _ => w46_0_7 x_told x_many x_most | 8, _ => w46_0_8 x_told x_many x_most | 9, _ => w46_0_9 x_told x_many x_most
theorem w46_1_0r (x_told x_many x_most : PyData) : run lw.G 60 18 [.sh (.int 3), .sh ((T10 0)), .sh ((tab L21 1)), .sh (x_told), .sh (x_many), .sh (x_most)] = .ret (.d (.tuple [.str "range", .int 1])) [.no, .no, .no, .no, .no, .no] := by kernel_rfl
theorem w46_1_0d : (T38 1 0) = (.tuple [.str "range", .int 1]) := by kernel_rfl
theorem w46_1_0 (x_told x_many x_most : PyData) : run lw.G 60 18 [.sh (.int 3), .sh ((T10 0)), .sh ((tab L21 1)), .sh (x_told), .sh (x_many), .sh (x_most)] = .ret (.d (T38 1 0)) [.no, .no, .no, .no, .no, .no] := (w46_1_0r x_told x_many x_most ).trans (congrArg (fun z => CR.ret (.d z) [.no, .no, .no, .no, .no, .no]) (w46_1_0d ).symm)
theorem w46_1_1r (x_told x_many x_most : PyData) : run lw.G 60 18 [.sh (.int 3), .sh ((T10 1)), .sh ((tab L21 1)), .sh (x_told), .sh (x_many), .sh (x_most)] = .ret (.d (.none)) [.no, .no, .no, .no, .no, .no] := by kernel_rfl
theorem w46_1_1d : (T38 1 1) = (.none) := by kernel_rfl
theorem w46_1_1 (x_told x_many x_most : PyData) : run lw.G 60 18 [.sh (.int 3), .sh ((T10 1)), .sh ((tab L21 1)), .sh (x_told), .sh (x_many), .sh (x_most)] = .ret (.d (T38 1 1)) [.no, .no, .no, .no, .no, .no] := (w46_1_1r x_told x_many x_most ).trans (congrArg (fun z => CR.ret (.d z) [.no, .no, .no, .no, .no, .no]) (w46_1_1d ).symm)
theorem w46_1_2r (x_told x_many x_most : PyData) : run lw.G 60 18 [.sh (.int 3), .sh ((T10 2)), .sh ((tab L21 1)), .sh (x_told), .sh (x_many), .sh (x_most)] = .ret (.d (.none)) [.no, .no, .no, .no, .no, .no] := by kernel_rfl
theorem w46_1_2d : (T38 1 2) = (.none) := by kernel_rfl
theorem w46_1_2 (x_told x_many x_most : PyData) : run lw.G 60 18 [.sh (.int 3), .sh ((T10 2)), .sh ((tab L21 1)), .sh (x_told), .sh (x_many), .sh (x_most)] = .ret (.d (T38 1 2)) [.no, .no, .no, .no, .no, .no] := (w46_1_2r x_told x_many x_most ).trans (congrArg (fun z => CR.ret (.d z) [.no, .no, .no, .no, .no, .no]) (w46_1_2d ).symm)
theorem w46_1_3r (x_told x_many x_most : PyData) : run lw.G 60 18 [.sh (.int 3), .sh ((T10 3)), .sh ((tab L21 1)), .sh (x_told), .sh (x_many), .sh (x_most)] = .ret (.d (.tuple [.str "size", .int 0])) [.no, .no, .no, .no, .no, .no] := by kernel_rfl
theorem w46_1_3d : (T38 1 3) = (.tuple [.str "size", .int 0]) := by kernel_rfl
theorem w46_1_3 (x_told x_many x_most : PyData) : run lw.G 60 18 [.sh (.int 3), .sh ((T10 3)), .sh ((tab L21 1)), .sh (x_told), .sh (x_many), .sh (x_most)] = .ret (.d (T38 1 3)) [.no, .no, .no, .no, .no, .no] := (w46_1_3r x_told x_many x_most ).trans (congrArg (fun z => CR.ret (.d z) [.no, .no, .no, .no, .no, .no]) (w46_1_3d ).symm)
theorem w46_1_4r (x_told x_many x_most : PyData) : run lw.G 60 18 [.sh (.int 3), .sh ((T10 4)), .sh ((tab L21 1)), .sh (x_told), .sh (x_many), .sh (x_most)] = .ret (.d (.tuple [.str "size", .int 8])) [.no, .no, .no, .no, .no, .no] := by kernel_rfl
theorem w46_1_4d : (T38 1 4) = (.tuple [.str "size", .int 8]) := by kernel_rfl
theorem w46_1_4 (x_told x_many x_most : PyData) : run lw.G 60 18 [.sh (.int 3), .sh ((T10 4)), .sh ((tab L21 1)), .sh (x_told), .sh (x_many), .sh (x_most)] = .ret (.d (T38 1 4)) [.no, .no, .no, .no, .no, .no] := (w46_1_4r x_told x_many x_most ).trans (congrArg (fun z => CR.ret (.d z) [.no, .no, .no, .no, .no, .no]) (w46_1_4d ).symm)
theorem w46_1_5r (x_told x_many x_most : PyData) : run lw.G 60 18 [.sh (.int 3), .sh ((T10 5)), .sh ((tab L21 1)), .sh (x_told), .sh (x_many), .sh (x_most)] = .ret (.d (.tuple [.str "corner", .int 0])) [.no, .no, .no, .no, .no, .no] := by kernel_rfl
theorem w46_1_5d : (T38 1 5) = (.tuple [.str "corner", .int 0]) := by kernel_rfl
theorem w46_1_5 (x_told x_many x_most : PyData) : run lw.G 60 18 [.sh (.int 3), .sh ((T10 5)), .sh ((tab L21 1)), .sh (x_told), .sh (x_many), .sh (x_most)] = .ret (.d (T38 1 5)) [.no, .no, .no, .no, .no, .no] := (w46_1_5r x_told x_many x_most ).trans (congrArg (fun z => CR.ret (.d z) [.no, .no, .no, .no, .no, .no]) (w46_1_5d ).symm)
theorem w46_1_6r (x_told x_many x_most : PyData) : run lw.G 60 18 [.sh (.int 3), .sh ((T10 6)), .sh ((tab L21 1)), .sh (x_told), .sh (x_many), .sh (x_most)] = .ret (.d (.tuple [.str "corner", .int 2])) [.no, .no, .no, .no, .no, .no] := by kernel_rfl
theorem w46_1_6d : (T38 1 6) = (.tuple [.str "corner", .int 2]) := by kernel_rfl
theorem w46_1_6 (x_told x_many x_most : PyData) : run lw.G 60 18 [.sh (.int 3), .sh ((T10 6)), .sh ((tab L21 1)), .sh (x_told), .sh (x_many), .sh (x_most)] = .ret (.d (T38 1 6)) [.no, .no, .no, .no, .no, .no] := (w46_1_6r x_told x_many x_most ).trans (congrArg (fun z => CR.ret (.d z) [.no, .no, .no, .no, .no, .no]) (w46_1_6d ).symm)
theorem w46_1_7r (x_told x_many x_most : PyData) : run lw.G 60 18 [.sh (.int 3), .sh ((T10 7)), .sh ((tab L21 1)), .sh (x_told), .sh (x_many), .sh (x_most)] = .ret (.d (.tuple [.str "corner", .int 2])) [.no, .no, .no, .no, .no, .no] := by kernel_rfl
theorem w46_1_7d : (T38 1 7) = (.tuple [.str "corner", .int 2]) := by kernel_rfl
theorem w46_1_7 (x_told x_many x_most : PyData) : run lw.G 60 18 [.sh (.int 3), .sh ((T10 7)), .sh ((tab L21 1)), .sh (x_told), .sh (x_many), .sh (x_most)] = .ret (.d (T38 1 7)) [.no, .no, .no, .no, .no, .no] := (w46_1_7r x_told x_many x_most ).trans (congrArg (fun z => CR.ret (.d z) [.no, .no, .no, .no, .no, .no]) (w46_1_7d ).symm)
theorem w46_1_8r (x_told x_many x_most : PyData) : run lw.G 60 18 [.sh (.int 3), .sh ((T10 8)), .sh ((tab L21 1)), .sh (x_told), .sh (x_many), .sh (x_most)] = .ret (.d (.tuple [.str "corner", .int 1])) [.no, .no, .no, .no, .no, .no] := by kernel_rfl
theorem w46_1_8d : (T38 1 8) = (.tuple [.str "corner", .int 1]) := by kernel_rfl
theorem w46_1_8 (x_told x_many x_most : PyData) : run lw.G 60 18 [.sh (.int 3), .sh ((T10 8)), .sh ((tab L21 1)), .sh (x_told), .sh (x_many), .sh (x_most)] = .ret (.d (T38 1 8)) [.no, .no, .no, .no, .no, .no] := (w46_1_8r x_told x_many x_most ).trans (congrArg (fun z => CR.ret (.d z) [.no, .no, .no, .no, .no, .no]) (w46_1_8d ).symm)
theorem w46_1_9r (x_told x_many x_most : PyData) : run lw.G 60 18 [.sh (.int 3), .sh ((T10 9)), .sh ((tab L21 1)), .sh (x_told), .sh (x_many), .sh (x_most)] = .ret (.d (.tuple [.str "corner", .int 0])) [.no, .no, .no, .no, .no, .no] := by kernel_rfl
theorem w46_1_9d : (T38 1 9) = (.tuple [.str "corner", .int 0]) := by kernel_rfl
theorem w46_1_9 (x_told x_many x_most : PyData) : run lw.G 60 18 [.sh (.int 3), .sh ((T10 9)), .sh ((tab L21 1)), .sh (x_told), .sh (x_many), .sh (x_most)] = .ret (.d (T38 1 9)) [.no, .no, .no, .no, .no, .no] := (w46_1_9r x_told x_many x_most ).trans (congrArg (fun z => CR.ret (.d z) [.no, .no, .no, .no, .no, .no]) (w46_1_9d ).symm)
theorem w46_1 (x_told x_many x_most : PyData) (i_corners_due : Nat) (h_i_corners_due : i_corners_due < 10) : run lw.G 60 18 [.sh (.int 3), .sh ((T10 i_corners_due)), .sh ((tab L21 1)), .sh (x_told), .sh (x_many), .sh (x_most)] = .ret (.d (T38 1 i_corners_due)) [.no, .no, .no, .no, .no, .no] := match i_corners_due, h_i_corners_due with | 0, _ => w46_1_0 x_told x_many x_most | 1, _ => w46_1_1 x_told x_many x_most | 2, _ => w46_1_2 x_told x_many x_most | 3, _ => w46_1_3 x_told x_many x_most | 4, _ => w46_1_4 x_told x_many x_most | 5, _ => w46_1_5 x_told x_many x_most | 6, _ => w46_1_6 x_told x_many x_most | 7, _ => w46_1_7 x_told x_many x_most | 8, _ => w46_1_8 x_told x_many x_most | 9, _ => w46_1_9 x_told x_many x_most
theorem w46_2_0r (x_told x_many x_most : PyData) : run lw.G 60 18 [.sh (.int 3), .sh ((T10 0)), .sh ((tab L21 2)), .sh (x_told), .sh (x_many), .sh (x_most)] = .ret (.d (.tuple [.str "range", .int 2])) [.no, .no, .no, .no, .no, .no] := by kernel_rfl
theorem w46_2_0d : (T38 2 0) = (.tuple [.str "range", .int 2]) := by kernel_rfl
theorem w46_2_0 (x_told x_many x_most : PyData) : run lw.G 60 18 [.sh (.int 3), .sh ((T10 0)), .sh ((tab L21 2)), .sh (x_told), .sh (x_many), .sh (x_most)] = .ret (.d (T38 2 0)) [.no, .no, .no, .no, .no, .no] := (w46_2_0r x_told x_many x_most ).trans (congrArg (fun z => CR.ret (.d z) [.no, .no, .no, .no, .no, .no]) (w46_2_0d ).symm)
theorem w46_2_1r (x_told x_many x_most : PyData) : run lw.G 60 18 [.sh (.int 3), .sh ((T10 1)), .sh ((tab L21 2)), .sh (x_told), .sh (x_many), .sh (x_most)] = .ret (.d (.tuple [.str "range", .int 2])) [.no, .no, .no, .no, .no, .no] := by kernel_rfl
theorem w46_2_1d : (T38 2 1) = (.tuple [.str "range", .int 2]) := by kernel_rfl
theorem w46_2_1 (x_told x_many x_most : PyData) : run lw.G 60 18 [.sh (.int 3), .sh ((T10 1)), .sh ((tab L21 2)), .sh (x_told), .sh (x_many), .sh (x_most)] = .ret (.d (T38 2 1)) [.no, .no, .no, .no, .no, .no] := (w46_2_1r x_told x_many x_most ).trans (congrArg (fun z => CR.ret (.d z) [.no, .no, .no, .no, .no, .no]) (w46_2_1d ).symm)
theorem w46_2_2r (x_told x_many x_most : PyData) : run lw.G 60 18 [.sh (.int 3), .sh ((T10 2)), .sh ((tab L21 2)), .sh (x_told), .sh (x_many), .sh (x_most)] = .ret (.d (.none)) [.no, .no, .no, .no, .no, .no] := by kernel_rfl
theorem w46_2_2d : (T38 2 2) = (.none) := by kernel_rfl
theorem w46_2_2 (x_told x_many x_most : PyData) : run lw.G 60 18 [.sh (.int 3), .sh ((T10 2)), .sh ((tab L21 2)), .sh (x_told), .sh (x_many), .sh (x_most)] = .ret (.d (T38 2 2)) [.no, .no, .no, .no, .no, .no] := (w46_2_2r x_told x_many x_most ).trans (congrArg (fun z => CR.ret (.d z) [.no, .no, .no, .no, .no, .no]) (w46_2_2d ).symm)
theorem w46_2_3r (x_told x_many x_most : PyData) : run lw.G 60 18 [.sh (.int 3), .sh ((T10 3)), .sh ((tab L21 2)), .sh (x_told), .sh (x_many), .sh (x_most)] = .ret (.d (.tuple [.str "size", .int 0])) [.no, .no, .no, .no, .no, .no] := by kernel_rfl
theorem w46_2_3d : (T38 2 3) = (.tuple [.str "size", .int 0]) := by kernel_rfl
theorem w46_2_3 (x_told x_many x_most : PyData) : run lw.G 60 18 [.sh (.int 3), .sh ((T10 3)), .sh ((tab L21 2)), .sh (x_told), .sh (x_many), .sh (x_most)] = .ret (.d (T38 2 3)) [.no, .no, .no, .no, .no, .no] := (w46_2_3r x_told x_many x_most ).trans (congrArg (fun z => CR.ret (.d z) [.no, .no, .no, .no, .no, .no]) (w46_2_3d ).symm)
theorem w46_2_4r (x_told x_many x_most : PyData) : run lw.G 60 18 [.sh (.int 3), .sh ((T10 4)), .sh ((tab L21 2)), .sh (x_told), .sh (x_many), .sh (x_most)] = .ret (.d (.tuple [.str "size", .int 8])) [.no, .no, .no, .no, .no, .no] := by kernel_rfl
theorem w46_2_4d : (T38 2 4) = (.tuple [.str "size", .int 8]) := by kernel_rfl
theorem w46_2_4 (x_told x_many x_most : PyData) : run lw.G 60 18 [.sh (.int 3), .sh ((T10 4)), .sh ((tab L21 2)), .sh (x_told), .sh (x_many), .sh (x_most)] = .ret (.d (T38 2 4)) [.no, .no, .no, .no, .no, .no] := (w46_2_4r x_told x_many x_most ).trans (congrArg (fun z => CR.ret (.d z) [.no, .no, .no, .no, .no, .no]) (w46_2_4d ).symm)
theorem w46_2_5r (x_told x_many x_most : PyData) : run lw.G 60 18 [.sh (.int 3), .sh ((T10 5)), .sh ((tab L21 2)), .sh (x_told), .sh (x_many), .sh (x_most)] = .ret (.d (.tuple [.str "corner", .int 0])) [.no, .no, .no, .no, .no, .no] := by kernel_rfl
theorem w46_2_5d : (T38 2 5) = (.tuple [.str "corner", .int 0]) := by kernel_rfl
theorem w46_2_5 (x_told x_many x_most : PyData) : run lw.G 60 18 [.sh (.int 3), .sh ((T10 5)), .sh ((tab L21 2)), .sh (x_told), .sh (x_many), .sh (x_most)] = .ret (.d (T38 2 5)) [.no, .no, .no, .no, .no, .no] := (w46_2_5r x_told x_many x_most ).trans (congrArg (fun z => CR.ret (.d z) [.no, .no, .no, .no, .no, .no]) (w46_2_5d ).symm)
theorem w46_2_6r (x_told x_many x_most : PyData) : run lw.G 60 18 [.sh (.int 3), .sh ((T10 6)), .sh ((tab L21 2)), .sh (x_told), .sh (x_many), .sh (x_most)] = .ret (.d (.tuple [.str "corner", .int 2])) [.no, .no, .no, .no, .no, .no] := by kernel_rfl
theorem w46_2_6d : (T38 2 6) = (.tuple [.str "corner", .int 2]) := by kernel_rfl
theorem w46_2_6 (x_told x_many x_most : PyData) : run lw.G 60 18 [.sh (.int 3), .sh ((T10 6)), .sh ((tab L21 2)), .sh (x_told), .sh (x_many), .sh (x_most)] = .ret (.d (T38 2 6)) [.no, .no, .no, .no, .no, .no] := (w46_2_6r x_told x_many x_most ).trans (congrArg (fun z => CR.ret (.d z) [.no, .no, .no, .no, .no, .no]) (w46_2_6d ).symm)
theorem w46_2_7r (x_told x_many x_most : PyData) : run lw.G 60 18 [.sh (.int 3), .sh ((T10 7)), .sh ((tab L21 2)), .sh (x_told), .sh (x_many), .sh (x_most)] = .ret (.d (.tuple [.str "corner", .int 2])) [.no, .no, .no, .no, .no, .no] := by kernel_rfl
theorem w46_2_7d : (T38 2 7) = (.tuple [.str "corner", .int 2]) := by kernel_rfl
theorem w46_2_7 (x_told x_many x_most : PyData) : run lw.G 60 18 [.sh (.int 3), .sh ((T10 7)), .sh ((tab L21 2)), .sh (x_told), .sh (x_many), .sh (x_most)] = .ret (.d (T38 2 7)) [.no, .no, .no, .no, .no, .no] := (w46_2_7r x_told x_many x_most ).trans (congrArg (fun z => CR.ret (.d z) [.no, .no, .no, .no, .no, .no]) (w46_2_7d ).symm)
theorem w46_2_8r (x_told x_many x_most : PyData) : run lw.G 60 18 [.sh (.int 3), .sh ((T10 8)), .sh ((tab L21 2)), .sh (x_told), .sh (x_many), .sh (x_most)] = .ret (.d (.tuple [.str "corner", .int 1])) [.no, .no, .no, .no, .no, .no] := by kernel_rfl
theorem w46_2_8d : (T38 2 8) = (.tuple [.str "corner", .int 1]) := by kernel_rfl
theorem w46_2_8 (x_told x_many x_most : PyData) : run lw.G 60 18 [.sh (.int 3), .sh ((T10 8)), .sh ((tab L21 2)), .sh (x_told), .sh (x_many), .sh (x_most)] = .ret (.d (T38 2 8)) [.no, .no, .no, .no, .no, .no] := (w46_2_8r x_told x_many x_most ).trans (congrArg (fun z => CR.ret (.d z) [.no, .no, .no, .no, .no, .no]) (w46_2_8d ).symm)
theorem w46_2_9r (x_told x_many x_most : PyData) : run lw.G 60 18 [.sh (.int 3), .sh ((T10 9)), .sh ((tab L21 2)), .sh (x_told), .sh (x_many), .sh (x_most)] = .ret (.d (.tuple [.str "corner", .int 0])) [.no, .no, .no, .no, .no, .no] := by kernel_rfl
theorem w46_2_9d : (T38 2 9) = (.tuple [.str "corner", .int 0]) := by kernel_rfl
theorem w46_2_9 (x_told x_many x_most : PyData) : run lw.G 60 18 [.sh (.int 3), .sh ((T10 9)), .sh ((tab L21 2)), .sh (x_told), .sh (x_many), .sh (x_most)] = .ret (.d (T38 2 9)) [.no, .no, .no, .no, .no, .no] := (w46_2_9r x_told x_many x_most ).trans (congrArg (fun z => CR.ret (.d z) [.no, .no, .no, .no, .no, .no]) (w46_2_9d ).symm)
theorem w46_2 (x_told x_many x_most : PyData) (i_corners_due : Nat) (h_i_corners_due : i_corners_due < 10) : run lw.G 60 18 [.sh (.int 3), .sh ((T10 i_corners_due)), .sh ((tab L21 2)), .sh (x_told), .sh (x_many), .sh (x_most)] = .ret (.d (T38 2 i_corners_due)) [.no, .no, .no, .no, .no, .no] := match i_corners_due, h_i_corners_due with | 0, _ => w46_2_0 x_told x_many x_most | 1, _ => w46_2_1 x_told x_many x_most | 2, _ => w46_2_2 x_told x_many x_most | 3, _ => w46_2_3 x_told x_many x_most | 4, _ => w46_2_4 x_told x_many x_most | 5, _ => w46_2_5 x_told x_many x_most | 6, _ => w46_2_6 x_told x_many x_most | 7, _ => w46_2_7 x_told x_many x_most | 8, _ => w46_2_8 x_told x_many x_most | 9, _ => w46_2_9 x_told x_many x_most
theorem w46_3_0r (x_told x_many x_most : PyData) : run lw.G 60 18 [.sh (.int 3), .sh ((T10 0)), .sh ((tab L21 3)), .sh (x_told), .sh (x_many), .sh (x_most)] = .ret (.d (.tuple [.str "range", .int 7])) [.no, .no, .no, .no, .no, .no] := by kernel_rfl
theorem w46_3_0d : (T38 3 0) = (.tuple [.str "range", .int 7]) := by kernel_rfl
theorem w46_3_0 (x_told x_many x_most : PyData) : run lw.G 60 18 [.sh (.int 3), .sh ((T10 0)), .sh ((tab L21 3)), .sh (x_told), .sh (x_many), .sh (x_most)] = .ret (.d (T38 3 0)) [.no, .no, .no, .no, .no, .no] := (w46_3_0r x_told x_many x_most ).trans (congrArg (fun z => CR.ret (.d z) [.no, .no, .no, .no, .no, .no]) (w46_3_0d ).symm)
theorem w46_3_1r (x_told x_many x_most : PyData) : run lw.G 60 18 [.sh (.int 3), .sh ((T10 1)), .sh ((tab L21 3)), .sh (x_told), .sh (x_many), .sh (x_most)] = .ret (.d (.tuple [.str "range", .int 7])) [.no, .no, .no, .no, .no, .no] := by kernel_rfl
theorem w46_3_1d : (T38 3 1) = (.tuple [.str "range", .int 7]) := by kernel_rfl
theorem w46_3_1 (x_told x_many x_most : PyData) : run lw.G 60 18 [.sh (.int 3), .sh ((T10 1)), .sh ((tab L21 3)), .sh (x_told), .sh (x_many), .sh (x_most)] = .ret (.d (T38 3 1)) [.no, .no, .no, .no, .no, .no] := (w46_3_1r x_told x_many x_most ).trans (congrArg (fun z => CR.ret (.d z) [.no, .no, .no, .no, .no, .no]) (w46_3_1d ).symm)
theorem w46_3_2r (x_told x_many x_most : PyData) : run lw.G 60 18 [.sh (.int 3), .sh ((T10 2)), .sh ((tab L21 3)), .sh (x_told), .sh (x_many), .sh (x_most)] = .ret (.d (.tuple [.str "range", .int 7])) [.no, .no, .no, .no, .no, .no] := by kernel_rfl
theorem w46_3_2d : (T38 3 2) = (.tuple [.str "range", .int 7]) := by kernel_rfl
theorem w46_3_2 (x_told x_many x_most : PyData) : run lw.G 60 18 [.sh (.int 3), .sh ((T10 2)), .sh ((tab L21 3)), .sh (x_told), .sh (x_many), .sh (x_most)] = .ret (.d (T38 3 2)) [.no, .no, .no, .no, .no, .no] := (w46_3_2r x_told x_many x_most ).trans (congrArg (fun z => CR.ret (.d z) [.no, .no, .no, .no, .no, .no]) (w46_3_2d ).symm)
theorem w46_3_3r (x_told x_many x_most : PyData) : run lw.G 60 18 [.sh (.int 3), .sh ((T10 3)), .sh ((tab L21 3)), .sh (x_told), .sh (x_many), .sh (x_most)] = .ret (.d (.tuple [.str "size", .int 0])) [.no, .no, .no, .no, .no, .no] := by kernel_rfl
theorem w46_3_3d : (T38 3 3) = (.tuple [.str "size", .int 0]) := by kernel_rfl
theorem w46_3_3 (x_told x_many x_most : PyData) : run lw.G 60 18 [.sh (.int 3), .sh ((T10 3)), .sh ((tab L21 3)), .sh (x_told), .sh (x_many), .sh (x_most)] = .ret (.d (T38 3 3)) [.no, .no, .no, .no, .no, .no] := (w46_3_3r x_told x_many x_most ).trans (congrArg (fun z => CR.ret (.d z) [.no, .no, .no, .no, .no, .no]) (w46_3_3d ).symm)
theorem w46_3_4r (x_told x_many x_most : PyData) : run lw.G 60 18 [.sh (.int 3), .sh ((T10 4)), .sh ((tab L21 3)), .sh (x_told), .sh (x_many), .sh (x_most)] = .ret (.d (.tuple [.str "size", .int 8])) [.no, .no, .no, .no, .no, .no] := by kernel_rfl
theorem w46_3_4d : (T38 3 4) = (.tuple [.str "size", .int 8]) := by kernel_rfl
theorem w46_3_4 (x_told x_many x_most : PyData) : run lw.G 60 18 [.sh (.int 3), .sh ((T10 4)), .sh ((tab L21 3)), .sh (x_told), .sh (x_many), .sh (x_most)] = .ret (.d (T38 3 4)) [.no, .no, .no, .no, .no, .no] := (w46_3_4r x_told x_many x_most ).trans (congrArg (fun z => CR.ret (.d z) [.no, .no, .no, .no, .no, .no]) (w46_3_4d ).symm)
theorem w46_3_5r (x_told x_many x_most : PyData) : run lw.G 60 18 [.sh (.int 3), .sh ((T10 5)), .sh ((tab L21 3)), .sh (x_told), .sh (x_many), .sh (x_most)] = .ret (.d (.tuple [.str "corner", .int 0])) [.no, .no, .no, .no, .no, .no] := by kernel_rfl
theorem w46_3_5d : (T38 3 5) = (.tuple [.str "corner", .int 0]) := by kernel_rfl
theorem w46_3_5 (x_told x_many x_most : PyData) : run lw.G 60 18 [.sh (.int 3), .sh ((T10 5)), .sh ((tab L21 3)), .sh (x_told), .sh (x_many), .sh (x_most)] = .ret (.d (T38 3 5)) [.no, .no, .no, .no, .no, .no] := (w46_3_5r x_told x_many x_most ).trans (congrArg (fun z => CR.ret (.d z) [.no, .no, .no, .no, .no, .no]) (w46_3_5d ).symm)
theorem w46_3_6r (x_told x_many x_most : PyData) : run lw.G 60 18 [.sh (.int 3), .sh ((T10 6)), .sh ((tab L21 3)), .sh (x_told), .sh (x_many), .sh (x_most)] = .ret (.d (.tuple [.str "corner", .int 2])) [.no, .no, .no, .no, .no, .no] := by kernel_rfl
theorem w46_3_6d : (T38 3 6) = (.tuple [.str "corner", .int 2]) := by kernel_rfl
theorem w46_3_6 (x_told x_many x_most : PyData) : run lw.G 60 18 [.sh (.int 3), .sh ((T10 6)), .sh ((tab L21 3)), .sh (x_told), .sh (x_many), .sh (x_most)] = .ret (.d (T38 3 6)) [.no, .no, .no, .no, .no, .no] := (w46_3_6r x_told x_many x_most ).trans (congrArg (fun z => CR.ret (.d z) [.no, .no, .no, .no, .no, .no]) (w46_3_6d ).symm)
theorem w46_3_7r (x_told x_many x_most : PyData) : run lw.G 60 18 [.sh (.int 3), .sh ((T10 7)), .sh ((tab L21 3)), .sh (x_told), .sh (x_many), .sh (x_most)] = .ret (.d (.tuple [.str "corner", .int 2])) [.no, .no, .no, .no, .no, .no] := by kernel_rfl
theorem w46_3_7d : (T38 3 7) = (.tuple [.str "corner", .int 2]) := by kernel_rfl
theorem w46_3_7 (x_told x_many x_most : PyData) : run lw.G 60 18 [.sh (.int 3), .sh ((T10 7)), .sh ((tab L21 3)), .sh (x_told), .sh (x_many), .sh (x_most)] = .ret (.d (T38 3 7)) [.no, .no, .no, .no, .no, .no] := (w46_3_7r x_told x_many x_most ).trans (congrArg (fun z => CR.ret (.d z) [.no, .no, .no, .no, .no, .no]) (w46_3_7d ).symm)
theorem w46_3_8r (x_told x_many x_most : PyData) : run lw.G 60 18 [.sh (.int 3), .sh ((T10 8)), .sh ((tab L21 3)), .sh (x_told), .sh (x_many), .sh (x_most)] = .ret (.d (.tuple [.str "corner", .int 1])) [.no, .no, .no, .no, .no, .no] := by kernel_rfl
theorem w46_3_8d : (T38 3 8) = (.tuple [.str "corner", .int 1]) := by kernel_rfl
theorem w46_3_8 (x_told x_many x_most : PyData) : run lw.G 60 18 [.sh (.int 3), .sh ((T10 8)), .sh ((tab L21 3)), .sh (x_told), .sh (x_many), .sh (x_most)] = .ret (.d (T38 3 8)) [.no, .no, .no, .no, .no, .no] := (w46_3_8r x_told x_many x_most ).trans (congrArg (fun z => CR.ret (.d z) [.no, .no, .no, .no, .no, .no]) (w46_3_8d ).symm)
theorem w46_3_9r (x_told x_many x_most : PyData) : run lw.G 60 18 [.sh (.int 3), .sh ((T10 9)), .sh ((tab L21 3)), .sh (x_told), .sh (x_many), .sh (x_most)] = .ret (.d (.tuple [.str "corner", .int 0])) [.no, .no, .no, .no, .no, .no] := by kernel_rfl
theorem w46_3_9d : (T38 3 9) = (.tuple [.str "corner", .int 0]) := by kernel_rfl
theorem w46_3_9 (x_told x_many x_most : PyData) : run lw.G 60 18 [.sh (.int 3), .sh ((T10 9)), .sh ((tab L21 3)), .sh (x_told), .sh (x_many), .sh (x_most)] = .ret (.d (T38 3 9)) [.no, .no, .no, .no, .no, .no] := (w46_3_9r x_told x_many x_most ).trans (congrArg (fun z => CR.ret (.d z) [.no, .no, .no, .no, .no, .no]) (w46_3_9d ).symm)
theorem w46_3 (x_told x_many x_most : PyData) (i_corners_due : Nat) (h_i_corners_due : i_corners_due < 10) : run lw.G 60 18 [.sh (.int 3), .sh ((T10 i_corners_due)), .sh ((tab L21 3)), .sh (x_told), .sh (x_many), .sh (x_most)] = .ret (.d (T38 3 i_corners_due)) [.no, .no, .no, .no, .no, .no] := match i_corners_due, h_i_corners_due with | 0, _ => w46_3_0 x_told x_many x_most | 1, _ => w46_3_1 x_told x_many x_most | 2, _ => w46_3_2 x_told x_many x_most | 3, _ => w46_3_3 x_told x_many x_most | 4, _ => w46_3_4 x_told x_many x_most | 5, _ => w46_3_5 x_told x_many x_most | 6, _ => w46_3_6 x_told x_many x_most | 7, _ => w46_3_7 x_told x_many x_most | 8, _ => w46_3_8 x_told x_many x_most | 9, _ => w46_3_9 x_told x_many x_most
theorem w46_4_0r (x_told x_many x_most : PyData) : run lw.G 60 18 [.sh (.int 3), .sh ((T10 0)), .sh ((tab L21 4)), .sh (x_told), .sh (x_many), .sh (x_most)] = .ret (.d (.tuple [.str "range", .int (-1)])) [.no, .no, .no, .no, .no, .no] := by kernel_rfl
theorem w46_4_0d : (T38 4 0) = (.tuple [.str "range", .int (-1)]) := by kernel_rfl
theorem w46_4_0 (x_told x_many x_most : PyData) : run lw.G 60 18 [.sh (.int 3), .sh ((T10 0)), .sh ((tab L21 4)), .sh (x_told), .sh (x_many), .sh (x_most)] = .ret (.d (T38 4 0)) [.no, .no, .no, .no, .no, .no] := (w46_4_0r x_told x_many x_most ).trans (congrArg (fun z => CR.ret (.d z) [.no, .no, .no, .no, .no, .no]) (w46_4_0d ).symm)
theorem w46_4_1r (x_told x_many x_most : PyData) : run lw.G 60 18 [.sh (.int 3), .sh ((T10 1)), .sh ((tab L21 4)), .sh (x_told), .sh (x_many), .sh (x_most)] = .ret (.d (.tuple [.str "range", .int (-1)])) [.no, .no, .no, .no, .no, .no] := by kernel_rfl
theorem w46_4_1d : (T38 4 1) = (.tuple [.str "range", .int (-1)]) := by kernel_rfl
theorem w46_4_1 (x_told x_many x_most : PyData) : run lw.G 60 18 [.sh (.int 3), .sh ((T10 1)), .sh ((tab L21 4)), .sh (x_told), .sh (x_many), .sh (x_most)] = .ret (.d (T38 4 1)) [.no, .no, .no, .no, .no, .no] := (w46_4_1r x_told x_many x_most ).trans (congrArg (fun z => CR.ret (.d z) [.no, .no, .no, .no, .no, .no]) (w46_4_1d ).symm)
theorem w46_4_2r (x_told x_many x_most : PyData) : run lw.G 60 18 [.sh (.int 3), .sh ((T10 2)), .sh ((tab L21 4)), .sh (x_told), .sh (x_many), .sh (x_most)] = .ret (.d (.tuple [.str "range", .int (-1)])) [.no, .no, .no, .no, .no, .no] := by kernel_rfl
theorem w46_4_2d : (T38 4 2) = (.tuple [.str "range", .int (-1)]) := by kernel_rfl
theorem w46_4_2 (x_told x_many x_most : PyData) : run lw.G 60 18 [.sh (.int 3), .sh ((T10 2)), .sh ((tab L21 4)), .sh (x_told), .sh (x_many), .sh (x_most)] = .ret (.d (T38 4 2)) [.no, .no, .no, .no, .no, .no] := (w46_4_2r x_told x_many x_most ).trans (congrArg (fun z => CR.ret (.d z) [.no, .no, .no, .no, .no, .no]) (w46_4_2d ).symm)
theorem w46_4_3r (x_told x_many x_most : PyData) : run lw.G 60 18 [.sh (.int 3), .sh ((T10 3)), .sh ((tab L21 4)), .sh (x_told), .sh (x_many), .sh (x_most)] = .ret (.d (.tuple [.str "size", .int 0])) [.no, .no, .no, .no, .no, .no] := by kernel_rfl
theorem w46_4_3d : (T38 4 3) = (.tuple [.str "size", .int 0]) := by kernel_rfl
theorem w46_4_3 (x_told x_many x_most : PyData) : run lw.G 60 18 [.sh (.int 3), .sh ((T10 3)), .sh ((tab L21 4)), .sh (x_told), .sh (x_many), .sh (x_most)] = .ret (.d (T38 4 3)) [.no, .no, .no, .no, .no, .no] := (w46_4_3r x_told x_many x_most ).trans (congrArg (fun z => CR.ret (.d z) [.no, .no, .no, .no, .no, .no]) (w46_4_3d ).symm)
theorem w46_4_4r (x_told x_many x_most : PyData) : run lw.G 60 18 [.sh (.int 3), .sh ((T10 4)), .sh ((tab L21 4)), .sh (x_told), .sh (x_many), .sh (x_most)] = .ret (.d (.tuple [.str "size", .int 8])) [.no, .no, .no, .no, .no, .no] := by kernel_rfl
theorem w46_4_4d : (T38 4 4) = (.tuple [.str "size", .int 8]) := by kernel_rfl
theorem w46_4_4 (x_told x_many x_most : PyData) : run lw.G 60 18 [.sh (.int 3), .sh ((T10 4)), .sh ((tab L21 4)), .sh (x_told), .sh (x_many), .sh (x_most)] = .ret (.d (T38 4 4)) [.no, .no, .no, .no, .no, .no] := (w46_4_4r x_told x_many x_most ).trans (congrArg (fun z => CR.ret (.d z) [.no, .no, .no, .no, .no, .no]) (w46_4_4d ).symm)
theorem w46_4_5r (x_told x_many x_most : PyData) : run lw.G 60 18 [.sh (.int 3), .sh ((T10 5)), .sh ((tab L21 4)), .sh (x_told), .sh (x_many), .sh (x_most)] = .ret (.d (.tuple [.str "corner", .int 0])) [.no, .no, .no, .no, .no, .no] := by kernel_rfl
theorem w46_4_5d : (T38 4 5) = (.tuple [.str "corner", .int 0]) := by kernel_rfl
theorem w46_4_5 (x_told x_many x_most : PyData) : run lw.G 60 18 [.sh (.int 3), .sh ((T10 5)), .sh ((tab L21 4)), .sh (x_told), .sh (x_many), .sh (x_most)] = .ret (.d (T38 4 5)) [.no, .no, .no, .no, .no, .no] := (w46_4_5r x_told x_many x_most ).trans (congrArg (fun z => CR.ret (.d z) [.no, .no, .no, .no, .no, .no]) (w46_4_5d ).symm)
theorem w46_4_6r (x_told x_many x_most : PyData) : run lw.G 60 18 [.sh (.int 3), .sh ((T10 6)), .sh ((tab L21 4)), .sh (x_told), .sh (x_many), .sh (x_most)] = .ret (.d (.tuple [.str "corner", .int 2])) [.no, .no, .no, .no, .no, .no] := by kernel_rfl
theorem w46_4_6d : (T38 4 6) = (.tuple [.str "corner", .int 2]) := by kernel_rfl
theorem w46_4_6 (x_told x_many x_most : PyData) : run lw.G 60 18 [.sh (.int 3), .sh ((T10 6)), .sh ((tab L21 4)), .sh (x_told), .sh (x_many), .sh (x_most)] = .ret (.d (T38 4 6)) [.no, .no, .no, .no, .no, .no] := (w46_4_6r x_told x_many x_most ).trans (congrArg (fun z => CR.ret (.d z) [.no, .no, .no, .no, .no, .no]) (w46_4_6d ).symm)
theorem w46_4_7r (x_told x_many x_most : PyData) : run lw.G 60 18 [.sh (.int 3), .sh ((T10 7)), .sh ((tab L21 4)), .sh (x_told), .sh (x_many), .sh (x_most)] = .ret (.d (.tuple [.str "corner", .int 2])) [.no, .no, .no, .no, .no, .no] := by kernel_rfl
theorem w46_4_7d : (T38 4 7) = (.tuple [.str "corner", .int 2]) := by kernel_rfl
theorem w46_4_7 (x_told x_many x_most : PyData) : run lw.G 60 18 [.sh (.int 3), .sh ((T10 7)), .sh ((tab L21 4)), .sh (x_told), .sh (x_many), .sh (x_most)] = .ret (.d (T38 4 7)) [.no, .no, .no, .no, .no, .no] := (w46_4_7r x_told x_many x_most ).trans (congrArg (fun z => CR.ret (.d z) [.no, .no, .no, .no, .no, .no]) (w46_4_7d ).symm)
theorem w46_4_8r (x_told x_many x_most : PyData) : run lw.G 60 18 [.sh (.int 3), .sh ((T10 8)), .sh ((tab L21 4)), .sh (x_told), .sh (x_many), .sh (x_most)] = .ret (.d (.tuple [.str "corner", .int 1])) [.no, .no, .no, .no, .no, .no] := by kernel_rfl
theorem w46_4_8d : (T38 4 8) = (.tuple [.str "corner", .int 1]) := by kernel_rfl
theorem w46_4_8 (x_told x_many x_most : PyData) : run lw.G 60 18 [.sh (.int 3), .sh ((T10 8)), .sh ((tab L21 4)), .sh (x_told), .sh (x_many), .sh (x_most)] = .ret (.d (T38 4 8)) [.no, .no, .no, .no, .no, .no] := (w46_4_8r x_told x_many x_most ).trans (congrArg (fun z => CR.ret (.d z) [.no, .no, .no, .no, .no, .no]) (w46_4_8d ).symm)
theorem w46_4_9r (x_told x_many x_most : PyData) : run lw.G 60 18 [.sh (.int 3), .sh ((T10 9)), .sh ((tab L21 4)), .sh (x_told), .sh (x_many), .sh (x_most)] = .ret (.d (.tuple [.str "corner", .int 0])) [.no, .no, .no, .no, .no, .no] := by kernel_rfl
theorem w46_4_9d : (T38 4 9) = (.tuple [.str "corner", .int 0]) := by kernel_rfl
theorem w46_4_9 (x_told x_many x_most : PyData) : run lw.G 60 18 [.sh (.int 3), .sh ((T10 9)), .sh ((tab L21 4)), .sh (x_told), .sh (x_many), .sh (x_most)] = .ret (.d (T38 4 9)) [.no, .no, .no, .no, .no, .no] := (w46_4_9r x_told x_many x_most ).trans (congrArg (fun z => CR.ret (.d z) [.no, .no, .no, .no, .no, .no]) (w46_4_9d ).symm)
theorem w46_4 (x_told x_many x_most : PyData) (i_corners_due : Nat) (h_i_corners_due : i_corners_due < 10) : run lw.G 60 18 [.sh (.int 3), .sh ((T10 i_corners_due)), .sh ((tab L21 4)), .sh (x_told), .sh (x_many), .sh (x_most)] = .ret (.d (T38 4 i_corners_due)) [.no, .no, .no, .no, .no, .no] := match i_corners_due, h_i_corners_due with | 0, _ => w46_4_0 x_told x_many x_most | 1, _ => w46_4_1 x_told x_many x_most | 2, _ => w46_4_2 x_told x_many x_most | 3, _ => w46_4_3 x_told x_many x_most | 4, _ => w46_4_4 x_told x_many x_most | 5, _ => w46_4_5 x_told x_many x_most | 6, _ => w46_4_6 x_told x_many x_most | 7, _ => w46_4_7 x_told x_many x_most | 8, _ => w46_4_8 x_told x_many x_most | 9, _ => w46_4_9 x_told x_many x_most
theorem w46 (x_told x_many x_most : PyData) (i_k : Nat) (h_i_k : i_k < 5) (i_corners_due : Nat) (h_i_corners_due : i_corners_due < 10) : run lw.G 60 18 [.sh (.int 3), .sh ((T10 i_corners_due)), .sh ((tab L21 i_k)), .sh (x_told), .sh (x_many), .sh (x_most)] = .ret (.d (T38 i_k i_corners_due)) [.no, .no, .no, .no, .no, .no] := match i_k, h_i_k with | 0, _ => w46_0 x_told x_many x_most i_corners_due h_i_corners_due | 1, _ => w46_1 x_told x_many x_most i_corners_due h_i_corners_due | 2, _ => w46_2 x_told x_many x_most i_corners_due h_i_corners_due | 3, _ => w46_3 x_told x_many x_most i_corners_due h_i_corners_due | 4, _ => w46_4 x_told x_many x_most i_corners_due h_i_corners_due
theorem w47_0_0r (x_k x_many x_most : PyData) : run lw.G 60 18 [.sh (.int 4), .sh ((T10 0)), .sh (x_k), .sh ((T18 0)), .sh (x_many), .sh (x_most)] = .ret (.d (.none)) [.no, .no, .no, .no, .no, .no] := by kernel_rfl
theorem w47_0_0d : (orD (T11 0) (T19 0)) = (.none) := by kernel_rfl
theorem w47_0_0 (x_k x_many x_most : PyData) : run lw.G 60 18 [.sh (.int 4), .sh ((T10 0)), .sh (x_k), .sh ((T18 0)), .sh (x_many), .sh (x_most)] = .ret (.d (orD (T11 0) (T19 0))) [.no, .no, .no, .no, .no, .no] := (w47_0_0r x_k x_many x_most ).trans (congrArg (fun z => CR.ret (.d z) [.no, .no, .no, .no, .no, .no]) (w47_0_0d ).symm)
theorem w47_0_1r (x_k x_many x_most : PyData) : run lw.G 60 18 [.sh (.int 4), .sh ((T10 0)), .sh (x_k), .sh ((T18 1)), .sh (x_many), .sh (x_most)] = .ret (.d (.none)) [.no, .no, .no, .no, .no, .no] := by kernel_rfl
theorem w47_0_1d : (orD (T11 0) (T19 1)) = (.none) := by kernel_rfl
theorem w47_0_1 (x_k x_many x_most : PyData) : run lw.G 60 18 [.sh (.int 4), .sh ((T10 0)), .sh (x_k), .sh ((T18 1)), .sh (x_many), .sh (x_most)] = .ret (.d (orD (T11 0) (T19 1))) [.no, .no, .no, .no, .no, .no] := (w47_0_1r x_k x_many x_most ).trans (congrArg (fun z => CR.ret (.d z) [.no, .no, .no, .no, .no, .no]) (w47_0_1d ).symm)
theorem w47_0_2r (x_k x_many x_most : PyData) : run lw.G 60 18 [.sh (.int 4), .sh ((T10 0)), .sh (x_k), .sh ((T18 2)), .sh (x_many), .sh (x_most)] = .ret (.d (.none)) [.no, .no, .no, .no, .no, .no] := by kernel_rfl
theorem w47_0_2d : (orD (T11 0) (T19 2)) = (.none) := by kernel_rfl
theorem w47_0_2 (x_k x_many x_most : PyData) : run lw.G 60 18 [.sh (.int 4), .sh ((T10 0)), .sh (x_k), .sh ((T18 2)), .sh (x_many), .sh (x_most)] = .ret (.d (orD (T11 0) (T19 2))) [.no, .no, .no, .no, .no, .no] := (w47_0_2r x_k x_many x_most ).trans (congrArg (fun z => CR.ret (.d z) [.no, .no, .no, .no, .no, .no]) (w47_0_2d ).symm)
theorem w47_0_3r (x_k x_many x_most : PyData) : run lw.G 60 18 [.sh (.int 4), .sh ((T10 0)), .sh (x_k), .sh ((T18 3)), .sh (x_many), .sh (x_most)] = .ret (.d (.tuple [.str "size", .int 2])) [.no, .no, .no, .no, .no, .no] := by kernel_rfl
theorem w47_0_3d : (orD (T11 0) (T19 3)) = (.tuple [.str "size", .int 2]) := by kernel_rfl
theorem w47_0_3 (x_k x_many x_most : PyData) : run lw.G 60 18 [.sh (.int 4), .sh ((T10 0)), .sh (x_k), .sh ((T18 3)), .sh (x_many), .sh (x_most)] = .ret (.d (orD (T11 0) (T19 3))) [.no, .no, .no, .no, .no, .no] := (w47_0_3r x_k x_many x_most ).trans (congrArg (fun z => CR.ret (.d z) [.no, .no, .no, .no, .no, .no]) (w47_0_3d ).symm)
theorem w47_0_4r (x_k x_many x_most : PyData) : run lw.G 60 18 [.sh (.int 4), .sh ((T10 0)), .sh (x_k), .sh ((T18 4)), .sh (x_many), .sh (x_most)] = .ret (.d (.tuple [.str "echo", .int 0])) [.no, .no, .no, .no, .no, .no] := by kernel_rfl
theorem w47_0_4d : (orD (T11 0) (T19 4)) = (.tuple [.str "echo", .int 0]) := by kernel_rfl
theorem w47_0_4 (x_k x_many x_most : PyData) : run lw.G 60 18 [.sh (.int 4), .sh ((T10 0)), .sh (x_k), .sh ((T18 4)), .sh (x_many), .sh (x_most)] = .ret (.d (orD (T11 0) (T19 4))) [.no, .no, .no, .no, .no, .no] := (w47_0_4r x_k x_many x_most ).trans (congrArg (fun z => CR.ret (.d z) [.no, .no, .no, .no, .no, .no]) (w47_0_4d ).symm)
theorem w47_0_5r (x_k x_many x_most : PyData) : run lw.G 60 18 [.sh (.int 4), .sh ((T10 0)), .sh (x_k), .sh ((T18 5)), .sh (x_many), .sh (x_most)] = .ret (.d (.tuple [.str "echo", .int 0])) [.no, .no, .no, .no, .no, .no] := by kernel_rfl
theorem w47_0_5d : (orD (T11 0) (T19 5)) = (.tuple [.str "echo", .int 0]) := by kernel_rfl
theorem w47_0_5 (x_k x_many x_most : PyData) : run lw.G 60 18 [.sh (.int 4), .sh ((T10 0)), .sh (x_k), .sh ((T18 5)), .sh (x_many), .sh (x_most)] = .ret (.d (orD (T11 0) (T19 5))) [.no, .no, .no, .no, .no, .no] := (w47_0_5r x_k x_many x_most ).trans (congrArg (fun z => CR.ret (.d z) [.no, .no, .no, .no, .no, .no]) (w47_0_5d ).symm)
theorem w47_0_6r (x_k x_many x_most : PyData) : run lw.G 60 18 [.sh (.int 4), .sh ((T10 0)), .sh (x_k), .sh ((T18 6)), .sh (x_many), .sh (x_most)] = .ret (.d (.tuple [.str "echo", .int 1])) [.no, .no, .no, .no, .no, .no] := by kernel_rfl
theorem w47_0_6d : (orD (T11 0) (T19 6)) = (.tuple [.str "echo", .int 1]) := by kernel_rfl
theorem w47_0_6 (x_k x_many x_most : PyData) : run lw.G 60 18 [.sh (.int 4), .sh ((T10 0)), .sh (x_k), .sh ((T18 6)), .sh (x_many), .sh (x_most)] = .ret (.d (orD (T11 0) (T19 6))) [.no, .no, .no, .no, .no, .no] := (w47_0_6r x_k x_many x_most ).trans (congrArg (fun z => CR.ret (.d z) [.no, .no, .no, .no, .no, .no]) (w47_0_6d ).symm)
theorem w47_0_7r (x_k x_many x_most : PyData) : run lw.G 60 18 [.sh (.int 4), .sh ((T10 0)), .sh (x_k), .sh ((T18 7)), .sh (x_many), .sh (x_most)] = .ret (.d (.tuple [.str "size", .int 22])) [.no, .no, .no, .no, .no, .no] := by kernel_rfl
theorem w47_0_7d : (orD (T11 0) (T19 7)) = (.tuple [.str "size", .int 22]) := by kernel_rfl
theorem w47_0_7 (x_k x_many x_most : PyData) : run lw.G 60 18 [.sh (.int 4), .sh ((T10 0)), .sh (x_k), .sh ((T18 7)), .sh (x_many), .sh (x_most)] = .ret (.d (orD (T11 0) (T19 7))) [.no, .no, .no, .no, .no, .no] := (w47_0_7r x_k x_many x_most ).trans (congrArg (fun z => CR.ret (.d z) [.no, .no, .no, .no, .no, .no]) (w47_0_7d ).symm)
theorem w47_0 (x_k x_many x_most : PyData) (i_told_odd : Nat) (h_i_told_odd : i_told_odd < 8) : run lw.G 60 18 [.sh (.int 4), .sh ((T10 0)), .sh (x_k), .sh ((T18 i_told_odd)), .sh (x_many), .sh (x_most)] = .ret (.d (orD (T11 0) (T19 i_told_odd))) [.no, .no, .no, .no, .no, .no] := match i_told_odd, h_i_told_odd with | 0, _ => w47_0_0 x_k x_many x_most | 1, _ => w47_0_1 x_k x_many x_most | 2, _ => w47_0_2 x_k x_many x_most | 3, _ => w47_0_3 x_k x_many x_most | 4, _ => w47_0_4 x_k x_many x_most | 5, _ => w47_0_5 x_k x_many x_most | 6, _ => w47_0_6 x_k x_many x_most | 7, _ => w47_0_7 x_k x_many x_most
theorem w47_1_0r (x_k x_many x_most : PyData) : run lw.G 60 18 [.sh (.int 4), .sh ((T10 1)), .sh (x_k), .sh ((T18 0)), .sh (x_many), .sh (x_most)] = .ret (.d (.none)) [.no, .no, .no, .no, .no, .no] := by kernel_rfl
theorem w47_1_0d : (orD (T11 1) (T19 0)) = (.none) := by kernel_rfl
theorem w47_1_0 (x_k x_many x_most : PyData) : run lw.G 60 18 [.sh (.int 4), .sh ((T10 1)), .sh (x_k), .sh ((T18 0)), .sh (x_many), .sh (x_most)] = .ret (.d (orD (T11 1) (T19 0))) [.no, .no, .no, .no, .no, .no] := (w47_1_0r x_k x_many x_most ).trans (congrArg (fun z => CR.ret (.d z) [.no, .no, .no, .no, .no, .no]) (w47_1_0d ).symm)
theorem w47_1_1r (x_k x_many x_most : PyData) : run lw.G 60 18 [.sh (.int 4), .sh ((T10 1)), .sh (x_k), .sh ((T18 1)), .sh (x_many), .sh (x_most)] = .ret (.d (.none)) [.no, .no, .no, .no, .no, .no] := by kernel_rfl
theorem w47_1_1d : (orD (T11 1) (T19 1)) = (.none) := by kernel_rfl
theorem w47_1_1 (x_k x_many x_most : PyData) : run lw.G 60 18 [.sh (.int 4), .sh ((T10 1)), .sh (x_k), .sh ((T18 1)), .sh (x_many), .sh (x_most)] = .ret (.d (orD (T11 1) (T19 1))) [.no, .no, .no, .no, .no, .no] := (w47_1_1r x_k x_many x_most ).trans (congrArg (fun z => CR.ret (.d z) [.no, .no, .no, .no, .no, .no]) (w47_1_1d ).symm)
theorem w47_1_2r (x_k x_many x_most : PyData) : run lw.G 60 18 [.sh (.int 4), .sh ((T10 1)), .sh (x_k), .sh ((T18 2)), .sh (x_many), .sh (x_most)] = .ret (.d (.none)) [.no, .no, .no, .no, .no, .no] := by kernel_rfl
theorem w47_1_2d : (orD (T11 1) (T19 2)) = (.none) := by kernel_rfl
theorem w47_1_2 (x_k x_many x_most : PyData) : run lw.G 60 18 [.sh (.int 4), .sh ((T10 1)), .sh (x_k), .sh ((T18 2)), .sh (x_many), .sh (x_most)] = .ret (.d (orD (T11 1) (T19 2))) [.no, .no, .no, .no, .no, .no] := (w47_1_2r x_k x_many x_most ).trans (congrArg (fun z => CR.ret (.d z) [.no, .no, .no, .no, .no, .no]) (w47_1_2d ).symm)
theorem w47_1_3r (x_k x_many x_most : PyData) : run lw.G 60 18 [.sh (.int 4), .sh ((T10 1)), .sh (x_k), .sh ((T18 3)), .sh (x_many), .sh (x_most)] = .ret (.d (.tuple [.str "size", .int 2])) [.no, .no, .no, .no, .no, .no] := by kernel_rfl
theorem w47_1_3d : (orD (T11 1) (T19 3)) = (.tuple [.str "size", .int 2]) := by kernel_rfl
theorem w47_1_3 (x_k x_many x_most : PyData) : run lw.G 60 18 [.sh (.int 4), .sh ((T10 1)), .sh (x_k), .sh ((T18 3)), .sh (x_many), .sh (x_most)] = .ret (.d (orD (T11 1) (T19 3))) [.no, .no, .no, .no, .no, .no] := (w47_1_3r x_k x_many x_most ).trans (congrArg (fun z => CR.ret (.d z) [.no, .no, .no, .no, .no, .no]) (w47_1_3d ).symm)
theorem w47_1_4r (x_k x_many x_most : PyData) : run lw.G 60 18 [.sh (.int 4), .sh ((T10 1)), .sh (x_k), .sh ((T18 4)), .sh (x_many), .sh (x_most)] = .ret (.d (.tuple [.str "echo", .int 0])) [.no, .no, .no, .no, .no, .no] := by kernel_rfl
theorem w47_1_4d : (orD (T11 1) (T19 4)) = (.tuple [.str "echo", .int 0]) := by kernel_rfl
theorem w47_1_4 (x_k x_many x_most : PyData) : run lw.G 60 18 [.sh (.int 4), .sh ((T10 1)), .sh (x_k), .sh ((T18 4)), .sh (x_many), .sh (x_most)] = .ret (.d (orD (T11 1) (T19 4))) [.no, .no, .no, .no, .no, .no] := (w47_1_4r x_k x_many x_most ).trans (congrArg (fun z => CR.ret (.d z) [.no, .no, .no, .no, .no, .no]) (w47_1_4d ).symm)
theorem w47_1_5r (x_k x_many x_most : PyData) : run lw.G 60 18 [.sh (.int 4), .sh ((T10 1)), .sh (x_k), .sh ((T18 5)), .sh (x_many), .sh (x_most)] = .ret (.d (.tuple [.str "echo", .int 0])) [.no, .no, .no, .no, .no, .no] := by kernel_rfl
theorem w47_1_5d : (orD (T11 1) (T19 5)) = (.tuple [.str "echo", .int 0]) := by kernel_rfl
theorem w47_1_5 (x_k x_many x_most : PyData) : run lw.G 60 18 [.sh (.int 4), .sh ((T10 1)), .sh (x_k), .sh ((T18 5)), .sh (x_many), .sh (x_most)] = .ret (.d (orD (T11 1) (T19 5))) [.no, .no, .no, .no, .no, .no] := (w47_1_5r x_k x_many x_most ).trans (congrArg (fun z => CR.ret (.d z) [.no, .no, .no, .no, .no, .no]) (w47_1_5d ).symm)
theorem w47_1_6r (x_k x_many x_most : PyData) : run lw.G 60 18 [.sh (.int 4), .sh ((T10 1)), .sh (x_k), .sh ((T18 6)), .sh (x_many), .sh (x_most)] = .ret (.d (.tuple [.str "echo", .int 1])) [.no, .no, .no, .no, .no, .no] := by kernel_rfl
theorem w47_1_6d : (orD (T11 1) (T19 6)) = (.tuple [.str "echo", .int 1]) := by kernel_rfl
theorem w47_1_6 (x_k x_many x_most : PyData) : run lw.G 60 18 [.sh (.int 4), .sh ((T10 1)), .sh (x_k), .sh ((T18 6)), .sh (x_many), .sh (x_most)] = .ret (.d (orD (T11 1) (T19 6))) [.no, .no, .no, .no, .no, .no] := (w47_1_6r x_k x_many x_most ).trans (congrArg (fun z => CR.ret (.d z) [.no, .no, .no, .no, .no, .no]) (w47_1_6d ).symm)
theorem w47_1_7r (x_k x_many x_most : PyData) : run lw.G 60 18 [.sh (.int 4), .sh ((T10 1)), .sh (x_k), .sh ((T18 7)), .sh (x_many), .sh (x_most)] = .ret (.d (.tuple [.str "size", .int 22])) [.no, .no, .no, .no, .no, .no] := by kernel_rfl
theorem w47_1_7d : (orD (T11 1) (T19 7)) = (.tuple [.str "size", .int 22]) := by kernel_rfl
theorem w47_1_7 (x_k x_many x_most : PyData) : run lw.G 60 18 [.sh (.int 4), .sh ((T10 1)), .sh (x_k), .sh ((T18 7)), .sh (x_many), .sh (x_most)] = .ret (.d (orD (T11 1) (T19 7))) [.no, .no, .no, .no, .no, .no] := (w47_1_7r x_k x_many x_most ).trans (congrArg (fun z => CR.ret (.d z) [.no, .no, .no, .no, .no, .no]) (w47_1_7d ).symm)
theorem w47_1 (x_k x_many x_most : PyData) (i_told_odd : Nat) (h_i_told_odd : i_told_odd < 8) : run lw.G 60 18 [.sh (.int 4), .sh ((T10 1)), .sh (x_k), .sh ((T18 i_told_odd)), .sh (x_many), .sh (x_most)] = .ret (.d (orD (T11 1) (T19 i_told_odd))) [.no, .no, .no, .no, .no, .no] := match i_told_odd, h_i_told_odd with | 0, _ => w47_1_0 x_k x_many x_most | 1, _ => w47_1_1 x_k x_many x_most | 2, _ => w47_1_2 x_k x_many x_most | 3, _ => w47_1_3 x_k x_many x_most | 4, _ => w47_1_4 x_k x_many x_most | 5, _ => w47_1_5 x_k x_many x_most | 6, _ => w47_1_6 x_k x_many x_most | 7, _ => w47_1_7 x_k x_many x_most
theorem w47_2_0r (x_k x_many x_most : PyData) : run lw.G 60 18 [.sh (.int 4), .sh ((T10 2)), .sh (x_k), .sh ((T18 0)), .sh (x_many), .sh (x_most)] = .ret (.d (.none)) [.no, .no, .no, .no, .no, .no] := by kernel_rfl
theorem w47_2_0d : (orD (T11 2) (T19 0)) = (.none) := by kernel_rfl
theorem w47_2_0 (x_k x_many x_most : PyData) : run lw.G 60 18 [.sh (.int 4), .sh ((T10 2)), .sh (x_k), .sh ((T18 0)), .sh (x_many), .sh (x_most)] = .ret (.d (orD (T11 2) (T19 0))) [.no, .no, .no, .no, .no, .no] := (w47_2_0r x_k x_many x_most ).trans (congrArg (fun z => CR.ret (.d z) [.no, .no, .no, .no, .no, .no]) (w47_2_0d ).symm)
theorem w47_2_1r (x_k x_many x_most : PyData) : run lw.G 60 18 [.sh (.int 4), .sh ((T10 2)), .sh (x_k), .sh ((T18 1)), .sh (x_many), .sh (x_most)] = .ret (.d (.none)) [.no, .no, .no, .no, .no, .no] := by kernel_rfl
theorem w47_2_1d : (orD (T11 2) (T19 1)) = (.none) := by kernel_rfl
theorem w47_2_1 (x_k x_many x_most : PyData) : run lw.G 60 18 [.sh (.int 4), .sh ((T10 2)), .sh (x_k), .sh ((T18 1)), .sh (x_many), .sh (x_most)] = .ret (.d (orD (T11 2) (T19 1))) [.no, .no, .no, .no, .no, .no] := (w47_2_1r x_k x_many x_most ).trans (congrArg (fun z => CR.ret (.d z) [.no, .no, .no, .no, .no, .no]) (w47_2_1d ).symm)
theorem w47_2_2r (x_k x_many x_most : PyData) : run lw.G 60 18 [.sh (.int 4), .sh ((T10 2)), .sh (x_k), .sh ((T18 2)), .sh (x_many), .sh (x_most)] = .ret (.d (.none)) [.no, .no, .no, .no, .no, .no] := by kernel_rfl
theorem w47_2_2d : (orD (T11 2) (T19 2)) = (.none) := by kernel_rfl
theorem w47_2_2 (x_k x_many x_most : PyData) : run lw.G 60 18 [.sh (.int 4), .sh ((T10 2)), .sh (x_k), .sh ((T18 2)), .sh (x_many), .sh (x_most)] = .ret (.d (orD (T11 2) (T19 2))) [.no, .no, .no, .no, .no, .no] := (w47_2_2r x_k x_many x_most ).trans (congrArg (fun z => CR.ret (.d z) [.no, .no, .no, .no, .no, .no]) (w47_2_2d ).symm)
theorem w47_2_3r (x_k x_many x_most : PyData) : run lw.G 60 18 [.sh (.int 4), .sh ((T10 2)), .sh (x_k), .sh ((T18 3)), .sh (x_many), .sh (x_most)] = .ret (.d (.tuple [.str "size", .int 2])) [.no, .no, .no, .no, .no, .no] := by kernel_rfl
theorem w47_2_3d : (orD (T11 2) (T19 3)) = (.tuple [.str "size", .int 2]) := by kernel_rfl
theorem w47_2_3 (x_k x_many x_most : PyData) : run lw.G 60 18 [.sh (.int 4), .sh ((T10 2)), .sh (x_k), .sh ((T18 3)), .sh (x_many), .sh (x_most)] = .ret (.d (orD (T11 2) (T19 3))) [.no, .no, .no, .no, .no, .no] := (w47_2_3r x_k x_many x_most ).trans (congrArg (fun z => CR.ret (.d z) [.no, .no, .no, .no, .no, .no]) (w47_2_3d ).symm)
theorem w47_2_4r (x_k x_many x_most : PyData) : run lw.G 60 18 [.sh (.int 4), .sh ((T10 2)), .sh (x_k), .sh ((T18 4)), .sh (x_many), .sh (x_most)] = .ret (.d (.tuple [.str "echo", .int 0])) [.no, .no, .no, .no, .no, .no] := by kernel_rfl
theorem w47_2_4d : (orD (T11 2) (T19 4)) = (.tuple [.str "echo", .int 0]) := by kernel_rfl
theorem w47_2_4 (x_k x_many x_most : PyData) : run lw.G 60 18 [.sh (.int 4), .sh ((T10 2)), .sh (x_k), .sh ((T18 4)), .sh (x_many), .sh (x_most)] = .ret (.d (orD (T11 2) (T19 4))) [.no, .no, .no, .no, .no, .no] := (w47_2_4r x_k x_many x_most ).trans (congrArg (fun z => CR.ret (.d z) [.no, .no, .no, .no, .no, .no]) (w47_2_4d ).symm)
theorem w47_2_5r (x_k x_many x_most : PyData) : run lw.G 60 18 [.sh (.int 4), .sh ((T10 2)), .sh (x_k), .sh ((T18 5)), .sh (x_many), .sh (x_most)] = .ret (.d (.tuple [.str "echo", .int 0])) [.no, .no, .no, .no, .no, .no] := by kernel_rfl
theorem w47_2_5d : (orD (T11 2) (T19 5)) = (.tuple [.str "echo", .int 0]) := by kernel_rfl
theorem w47_2_5 (x_k x_many x_most : PyData) : run lw.G 60 18 [.sh (.int 4), .sh ((T10 2)), .sh (x_k), .sh ((T18 5)), .sh (x_many), .sh (x_most)] = .ret (.d (orD (T11 2) (T19 5))) [.no, .no, .no, .no, .no, .no] := (w47_2_5r x_k x_many x_most ).trans (congrArg (fun z => CR.ret (.d z) [.no, .no, .no, .no, .no, .no]) (w47_2_5d ).symm)
theorem w47_2_6r (x_k x_many x_most : PyData) : run lw.G 60 18 [.sh (.int 4), .sh ((T10 2)), .sh (x_k), .sh ((T18 6)), .sh (x_many), .sh (x_most)] = .ret (.d (.tuple [.str "echo", .int 1])) [.no, .no, .no, .no, .no, .no] := by kernel_rfl
theorem w47_2_6d : (orD (T11 2) (T19 6)) = (.tuple [.str "echo", .int 1]) := by kernel_rfl
theorem w47_2_6 (x_k x_many x_most : PyData) : run lw.G 60 18 [.sh (.int 4), .sh ((T10 2)), .sh (x_k), .sh ((T18 6)), .sh (x_many), .sh (x_most)] = .ret (.d (orD (T11 2) (T19 6))) [.no, .no, .no, .no, .no, .no] := (w47_2_6r x_k x_many x_most ).trans (congrArg (fun z => CR.ret (.d z) [.no, .no, .no, .no, .no, .no]) (w47_2_6d ).symm)
theorem w47_2_7r (x_k x_many x_most : PyData) : run lw.G 60 18 [.sh (.int 4), .sh ((T10 2)), .sh (x_k), .sh ((T18 7)), .sh (x_many), .sh (x_most)] = .ret (.d (.tuple [.str "size", .int 22])) [.no, .no, .no, .no, .no, .no] := by kernel_rfl
theorem w47_2_7d : (orD (T11 2) (T19 7)) = (.tuple [.str "size", .int 22]) := by kernel_rfl
theorem w47_2_7 (x_k x_many x_most : PyData) : run lw.G 60 18 [.sh (.int 4), .sh ((T10 2)), .sh (x_k), .sh ((T18 7)), .sh (x_many), .sh (x_most)] = .ret (.d (orD (T11 2) (T19 7))) [.no, .no, .no, .no, .no, .no] := (w47_2_7r x_k x_many x_most ).trans (congrArg (fun z => CR.ret (.d z) [.no, .no, .no, .no, .no, .no]) (w47_2_7d ).symm)
theorem w47_2 (x_k x_many x_most : PyData) (i_told_odd : Nat) (h_i_told_odd : i_told_odd < 8) : run lw.G 60 18 [.sh (.int 4), .sh ((T10 2)), .sh (x_k), .sh ((T18 i_told_odd)), .sh (x_many), .sh (x_most)] = .ret (.d (orD (T11 2) (T19 i_told_odd))) [.no, .no, .no, .no, .no, .no] := match i_told_odd, h_i_told_odd with | 0, _ => w47_2_0 x_k x_many x_most | 1, _ => w47_2_1 x_k x_many x_most | 2, _ => w47_2_2 x_k x_many x_most | 3, _ => w47_2_3 x_k x_many x_most | 4, _ => w47_2_4 x_k x_many x_most | 5, _ => w47_2_5 x_k x_many x_most | 6, _ => w47_2_6 x_k x_many x_most | 7, _ => w47_2_7 x_k x_many x_most
theorem w47_3r (x_k x_many x_most : PyData) (i_told_odd : Nat) : run lw.G 60 18 [.sh (.int 4), .sh ((T10 3)), .sh (x_k), .sh ((T18 i_told_odd)), .sh (x_many), .sh (x_most)] = .ret (.d (.tuple [.str "size", .int 0])) [.no, .no, .no, .no, .no, .no] := by kernel_rfl
theorem w47_3d (i_told_odd : Nat) : (orD (T11 3) (T19 i_told_odd)) = (.tuple [.str "size", .int 0]) := by kernel_rfl
theorem w47_3 (x_k x_many x_most : PyData) (i_told_odd : Nat) (h_i_told_odd : i_told_odd < 8) : run lw.G 60 18 [.sh (.int 4), .sh ((T10 3)), .sh (x_k), .sh ((T18 i_told_odd)), .sh (x_many), .sh (x_most)] = .ret (.d (orD (T11 3) (T19 i_told_odd))) [.no, .no, .no, .no, .no, .no] := (w47_3r x_k x_many x_most i_told_odd).trans (congrArg (fun z => CR.ret (.d z) [.no, .no, .no, .no, .no, .no]) (w47_3d i_told_odd).symm)
theorem w47_4r (x_k x_many x_most : PyData) (i_told_odd : Nat) : run lw.G 60 18 [.sh (.int 4), .sh ((T10 4)), .sh (x_k), .sh ((T18 i_told_odd)), .sh (x_many), .sh (x_most)] = .ret (.d (.tuple [.str "size", .int 8])) [.no, .no, .no, .no, .no, .no] := by kernel_rfl
theorem w47_4d (i_told_odd : Nat) : (orD (T11 4) (T19 i_told_odd)) = (.tuple [.str "size", .int 8]) := by kernel_rfl
theorem w47_4 (x_k x_many x_most : PyData) (i_told_odd : Nat) (h_i_told_odd : i_told_odd < 8) : run lw.G 60 18 [.sh (.int 4), .sh ((T10 4)), .sh (x_k), .sh ((T18 i_told_odd)), .sh (x_many), .sh (x_most)] = .ret (.d (orD (T11 4) (T19 i_told_odd))) [.no, .no, .no, .no, .no, .no] := (w47_4r x_k x_many x_most i_told_odd).trans (congrArg (fun z => CR.ret (.d z) [.no, .no, .no, .no, .no, .no]) (w47_4d i_told_odd).symm)
theorem w47_5r (x_k x_many x_most : PyData) (i_told_odd : Nat) : run lw.G 60 18 [.sh (.int 4), .sh ((T10 5)), .sh (x_k), .sh ((T18 i_told_odd)), .sh (x_many), .sh (x_most)] = .ret (.d (.tuple [.str "corner", .int 0])) [.no, .no, .no, .no, .no, .no] := by kernel_rfl
theorem w47_5d (i_told_odd : Nat) : (orD (T11 5) (T19 i_told_odd)) = (.tuple [.str "corner", .int 0]) := by kernel_rfl
theorem w47_5 (x_k x_many x_most : PyData) (i_told_odd : Nat) (h_i_told_odd : i_told_odd < 8) : run lw.G 60 18 [.sh (.int 4), .sh ((T10 5)), .sh (x_k), .sh ((T18 i_told_odd)), .sh (x_many), .sh (x_most)] = .ret (.d (orD (T11 5) (T19 i_told_odd))) [.no, .no, .no, .no, .no, .no] := (w47_5r x_k x_many x_most i_told_odd).trans (congrArg (fun z => CR.ret (.d z) [.no, .no, .no, .no, .no, .no]) (w47_5d i_told_odd).symm)
theorem w47_6r (x_k x_many x_most : PyData) (i_told_odd : Nat) : run lw.G 60 18 [.sh (.int 4), .sh ((T10 6)), .sh (x_k), .sh ((T18 i_told_odd)), .sh (x_many), .sh (x_most)] = .ret (.d (.tuple [.str "corner", .int 2])) [.no, .no, .no, .no, .no, .no] := by kernel_rfl
theorem w47_6d (i_told_odd : Nat) : (orD (T11 6) (T19 i_told_odd)) = (.tuple [.str "corner", .int 2]) := by kernel_rfl
theorem w47_6 (x_k x_many x_most : PyData) (i_told_odd : Nat) (h_i_told_odd : i_told_odd < 8) : run lw.G 60 18 [.sh (.int 4), .sh ((T10 6)), .sh (x_k), .sh ((T18 i_told_odd)), .sh (x_many), .sh (x_most)] = .ret (.d (orD (T11 6) (T19 i_told_odd))) [.no, .no, .no, .no, .no, .no] := (w47_6r x_k x_many x_most i_told_odd).trans (congrArg (fun z => CR.ret (.d z) [.no, .no, .no, .no, .no, .no]) (w47_6d i_told_odd).symm)
theorem w47_7r (x_k x_many x_most : PyData) (i_told_odd : Nat) : run lw.G 60 18 [.sh (.int 4), .sh ((T10 7)), .sh (x_k), .sh ((T18 i_told_odd)), .sh (x_many), .sh (x_most)] = .ret (.d (.tuple [.str "corner", .int 2])) [.no, .no, .no, .no, .no, .no] := by kernel_rfl
theorem w47_7d (i_told_odd : Nat) : (orD (T11 7) (T19 i_told_odd)) = (.tuple [.str "corner", .int 2]) := by kernel_rfl
theorem w47_7 (x_k x_many x_most : PyData) (i_told_odd : Nat) (h_i_told_odd : i_told_odd < 8) : run lw.G 60 18 [.sh (.int 4), .sh ((T10 7)), .sh (x_k), .sh ((T18 i_told_odd)), .sh (x_many), .sh (x_most)] = .ret (.d (orD (T11 7) (T19 i_told_odd))) [.no, .no, .no, .no, .no, .no] := (w47_7r x_k x_many x_most i_told_odd).trans (congrArg (fun z => CR.ret (.d z) [.no, .no, .no, .no, .no, .no]) (w47_7d i_told_odd).symm)
theorem w47_8r (x_k x_many x_most : PyData) (i_told_odd : Nat) : run lw.G 60 18 [.sh (.int 4), .sh ((T10 8)), .sh (x_k), .sh ((T18 i_told_odd)), .sh (x_many), .sh (x_most)] = .ret (.d (.tuple [.str "corner", .int 1])) [.no, .no, .no, .no, .no, .no] := by kernel_rfl
theorem w47_8d (i_told_odd : Nat) : (orD (T11 8) (T19 i_told_odd)) = (.tuple [.str "corner", .int 1]) := by kernel_rfl
theorem w47_8 (x_k x_many x_most : PyData) (i_told_odd : Nat) (h_i_told_odd : i_told_odd < 8) : run lw.G 60 18 [.sh (.int 4), .sh ((T10 8)), .sh (x_k), .sh ((T18 i_told_odd)), .sh (x_many), .sh (x_most)] = .ret (.d (orD (T11 8) (T19 i_told_odd))) [.no, .no, .no, .no, .no, .no] := (w47_8r x_k x_many x_most i_told_odd).trans (congrArg (fun z => CR.ret (.d z) [.no, .no, .no, .no, .no, .no]) (w47_8d i_told_odd).symm)
theorem w47_9r (x_k x_many x_most : PyData) (i_told_odd : Nat) : run lw.G 60 18 [.sh (.int 4), .sh ((T10 9)), .sh (x_k), .sh ((T18 i_told_odd)), .sh (x_many), .sh (x_most)] = .ret (.d (.tuple [.str "corner", .int 0])) [.no, .no, .no, .no, .no, .no] := by kernel_rfl
theorem w47_9d (i_told_odd : Nat) : (orD (T11 9) (T19 i_told_odd)) = (.tuple [.str "corner", .int 0]) := by kernel_rfl
theorem w47_9 (x_k x_many x_most : PyData) (i_told_odd : Nat) (h_i_told_odd : i_told_odd < 8) : run lw.G 60 18 [.sh (.int 4), .sh ((T10 9)), .sh (x_k), .sh ((T18 i_told_odd)), .sh (x_many), .sh (x_most)] = .ret (.d (orD (T11 9) (T19 i_told_odd))) [.no, .no, .no, .no, .no, .no] := (w47_9r x_k x_many x_most i_told_odd).trans (congrArg (fun z => CR.ret (.d z) [.no, .no, .no, .no, .no, .no]) (w47_9d i_told_odd).symm)
theorem w47 (x_k x_many x_most : PyData) (i_corners_due : Nat) (h_i_corners_due : i_corners_due < 10) (i_told_odd : Nat) (h_i_told_odd : i_told_odd < 8) : run lw.G 60 18 [.sh (.int 4), .sh ((T10 i_corners_due)), .sh (x_k), .sh ((T18 i_told_odd)), .sh (x_many), .sh (x_most)] = .ret (.d (orD (T11 i_corners_due) (T19 i_told_odd))) [.no, .no, .no, .no, .no, .no] := match i_corners_due, h_i_corners_due with | 0, _ => w47_0 x_k x_many x_most i_told_odd h_i_told_odd | 1, _ => w47_1 x_k x_many x_most i_told_odd h_i_told_odd | 2, _ => w47_2 x_k x_many x_most i_told_odd h_i_told_odd | 3, _ => w47_3 x_k x_many x_most i_told_odd h_i_told_odd | 4, _ => w47_4 x_k x_many x_most i_told_odd h_i_told_odd | 5, _ => w47_5 x_k x_many x_most i_told_odd h_i_told_odd | 6, _ => w47_6 x_k x_many x_most i_told_odd h_i_told_odd | 7, _ => w47_7 x_k x_many x_most i_told_odd h_i_told_odd | 8, _ => w47_8 x_k x_many x_most i_told_odd h_i_told_odd | 9, _ => w47_9 x_k x_many x_most i_told_odd h_i_told_odd
theorem w48_0r (x_corners x_k x_many x_most : PyData) : run lw.G 60 18 [.sh (.int 5), .sh (x_corners), .sh (x_k), .sh ((T18 0)), .sh (x_many), .sh (x_most)] = .ret (.d (.none)) [.no, .no, .no, .no, .no, .no] := by kernel_rfl
theorem w48_0d : (T19 0) = (.none) := by kernel_rfl
theorem w48_0 (x_corners x_k x_many x_most : PyData) : run lw.G 60 18 [.sh (.int 5), .sh (x_corners), .sh (x_k), .sh ((T18 0)), .sh (x_many), .sh (x_most)] = .ret (.d (T19 0)) [.no, .no, .no, .no, .no, .no] := (w48_0r x_corners x_k x_many x_most ).trans (congrArg (fun z => CR.ret (.d z) [.no, .no, .no, .no, .no, .no]) (w48_0d ).symm)
theorem w48_1r (x_corners x_k x_many x_most : PyData) : run lw.G 60 18 [.sh (.int 5), .sh (x_corners), .sh (x_k), .sh ((T18 1)), .sh (x_many), .sh (x_most)] = .ret (.d (.none)) [.no, .no, .no, .no, .no, .no] := by kernel_rfl
theorem w48_1d : (T19 1) = (.none) := by kernel_rfl
theorem w48_1 (x_corners x_k x_many x_most : PyData) : run lw.G 60 18 [.sh (.int 5), .sh (x_corners), .sh (x_k), .sh ((T18 1)), .sh (x_many), .sh (x_most)] = .ret (.d (T19 1)) [.no, .no, .no, .no, .no, .no] := (w48_1r x_corners x_k x_many x_most ).trans (congrArg (fun z => CR.ret (.d z) [.no, .no, .no, .no, .no, .no]) (w48_1d ).symm)
theorem w48_2r (x_corners x_k x_many x_most : PyData) : run lw.G 60 18 [.sh (.int 5), .sh (x_corners), .sh (x_k), .sh ((T18 2)), .sh (x_many), .sh (x_most)] = .ret (.d (.none)) [.no, .no, .no, .no, .no, .no] := by kernel_rfl
theorem w48_2d : (T19 2) = (.none) := by kernel_rfl
theorem w48_2 (x_corners x_k x_many x_most : PyData) : run lw.G 60 18 [.sh (.int 5), .sh (x_corners), .sh (x_k), .sh ((T18 2)), .sh (x_many), .sh (x_most)] = .ret (.d (T19 2)) [.no, .no, .no, .no, .no, .no] := (w48_2r x_corners x_k x_many x_most ).trans (congrArg (fun z => CR.ret (.d z) [.no, .no, .no, .no, .no, .no]) (w48_2d ).symm)
theorem w48_3r (x_corners x_k x_many x_most : PyData) : run lw.G 60 18 [.sh (.int 5), .sh (x_corners), .sh (x_k), .sh ((T18 3)), .sh (x_many), .sh (x_most)] = .ret (.d (.tuple [.str "size", .int 2])) [.no, .no, .no, .no, .no, .no] := by kernel_rfl
theorem w48_3d : (T19 3) = (.tuple [.str "size", .int 2]) := by kernel_rfl
theorem w48_3 (x_corners x_k x_many x_most : PyData) : run lw.G 60 18 [.sh (.int 5), .sh (x_corners), .sh (x_k), .sh ((T18 3)), .sh (x_many), .sh (x_most)] = .ret (.d (T19 3)) [.no, .no, .no, .no, .no, .no] := (w48_3r x_corners x_k x_many x_most ).trans (congrArg (fun z => CR.ret (.d z) [.no, .no, .no, .no, .no, .no]) (w48_3d ).symm)
theorem w48_4r (x_corners x_k x_many x_most : PyData) : run lw.G 60 18 [.sh (.int 5), .sh (x_corners), .sh (x_k), .sh ((T18 4)), .sh (x_many), .sh (x_most)] = .ret (.d (.tuple [.str "echo", .int 0])) [.no, .no, .no, .no, .no, .no] := by kernel_rfl
theorem w48_4d : (T19 4) = (.tuple [.str "echo", .int 0]) := by kernel_rfl
theorem w48_4 (x_corners x_k x_many x_most : PyData) : run lw.G 60 18 [.sh (.int 5), .sh (x_corners), .sh (x_k), .sh ((T18 4)), .sh (x_many), .sh (x_most)] = .ret (.d (T19 4)) [.no, .no, .no, .no, .no, .no] := (w48_4r x_corners x_k x_many x_most ).trans (congrArg (fun z => CR.ret (.d z) [.no, .no, .no, .no, .no, .no]) (w48_4d ).symm)
theorem w48_5r (x_corners x_k x_many x_most : PyData) : run lw.G 60 18 [.sh (.int 5), .sh (x_corners), .sh (x_k), .sh ((T18 5)), .sh (x_many), .sh (x_most)] = .ret (.d (.tuple [.str "echo", .int 0])) [.no, .no, .no, .no, .no, .no] := by kernel_rfl
theorem w48_5d : (T19 5) = (.tuple [.str "echo", .int 0]) := by kernel_rfl
theorem w48_5 (x_corners x_k x_many x_most : PyData) : run lw.G 60 18 [.sh (.int 5), .sh (x_corners), .sh (x_k), .sh ((T18 5)), .sh (x_many), .sh (x_most)] = .ret (.d (T19 5)) [.no, .no, .no, .no, .no, .no] := (w48_5r x_corners x_k x_many x_most ).trans (congrArg (fun z => CR.ret (.d z) [.no, .no, .no, .no, .no, .no]) (w48_5d ).symm)
theorem w48_6r (x_corners x_k x_many x_most : PyData) : run lw.G 60 18 [.sh (.int 5), .sh (x_corners), .sh (x_k), .sh ((T18 6)), .sh (x_many), .sh (x_most)] = .ret (.d (.tuple [.str "echo", .int 1])) [.no, .no, .no, .no, .no, .no] := by kernel_rfl
theorem w48_6d : (T19 6) = (.tuple [.str "echo", .int 1]) := by kernel_rfl
theorem w48_6 (x_corners x_k x_many x_most : PyData) : run lw.G 60 18 [.sh (.int 5), .sh (x_corners), .sh (x_k), .sh ((T18 6)), .sh (x_many), .sh (x_most)] = .ret (.d (T19 6)) [.no, .no, .no, .no, .no, .no] := (w48_6r x_corners x_k x_many x_most ).trans (congrArg (fun z => CR.ret (.d z) [.no, .no, .no, .no, .no, .no]) (w48_6d ).symm)
theorem w48_7r (x_corners x_k x_many x_most : PyData) : run lw.G 60 18 [.sh (.int 5), .sh (x_corners), .sh (x_k), .sh ((T18 7)), .sh (x_many), .sh (x_most)] = .ret (.d (.tuple [.str "size", .int 22])) [.no, .no, .no, .no, .no, .no] := by kernel_rfl
theorem w48_7d : (T19 7) = (.tuple [.str "size", .int 22]) := by kernel_rfl
theorem w48_7 (x_corners x_k x_many x_most : PyData) : run lw.G 60 18 [.sh (.int 5), .sh (x_corners), .sh (x_k), .sh ((T18 7)), .sh (x_many), .sh (x_most)] = .ret (.d (T19 7)) [.no, .no, .no, .no, .no, .no] := (w48_7r x_corners x_k x_many x_most ).trans (congrArg (fun z => CR.ret (.d z) [.no, .no, .no, .no, .no, .no]) (w48_7d ).symm)
theorem w48 (x_corners x_k x_many x_most : PyData) (i_told_odd : Nat) (h_i_told_odd : i_told_odd < 8) : run lw.G 60 18 [.sh (.int 5), .sh (x_corners), .sh (x_k), .sh ((T18 i_told_odd)), .sh (x_many), .sh (x_most)] = .ret (.d (T19 i_told_odd)) [.no, .no, .no, .no, .no, .no] := match i_told_odd, h_i_told_odd with | 0, _ => w48_0 x_corners x_k x_many x_most | 1, _ => w48_1 x_corners x_k x_many x_most | 2, _ => w48_2 x_corners x_k x_many x_most | 3, _ => w48_3 x_corners x_k x_many x_most | 4, _ => w48_4 x_corners x_k x_many x_most | 5, _ => w48_5 x_corners x_k x_many x_most | 6, _ => w48_6 x_corners x_k x_many x_most | 7, _ => w48_7 x_corners x_k x_many x_most
theorem w49_0_0r (x_corners x_k x_told : PyData) : run lw.G 60 18 [.sh (.int 6), .sh (x_corners), .sh (x_k), .sh (x_told), .sh ((tab L26 0)), .sh ((tab L31 0))] = .ret (.d (.none)) [.no, .no, .no, .no, .no, .no] := by kernel_rfl
theorem w49_0_0d : (T40 0 0) = (.none) := by kernel_rfl
theorem w49_0_0 (x_corners x_k x_told : PyData) : run lw.G 60 18 [.sh (.int 6), .sh (x_corners), .sh (x_k), .sh (x_told), .sh ((tab L26 0)), .sh ((tab L31 0))] = .ret (.d (T40 0 0)) [.no, .no, .no, .no, .no, .no] := (w49_0_0r x_corners x_k x_told ).trans (congrArg (fun z => CR.ret (.d z) [.no, .no, .no, .no, .no, .no]) (w49_0_0d ).symm)
theorem w49_0_1r (x_corners x_k x_told : PyData) : run lw.G 60 18 [.sh (.int 6), .sh (x_corners), .sh (x_k), .sh (x_told), .sh ((tab L26 0)), .sh ((tab L31 1))] = .ret (.d (.none)) [.no, .no, .no, .no, .no, .no] := by kernel_rfl
theorem w49_0_1d : (T40 0 1) = (.none) := by kernel_rfl
theorem w49_0_1 (x_corners x_k x_told : PyData) : run lw.G 60 18 [.sh (.int 6), .sh (x_corners), .sh (x_k), .sh (x_told), .sh ((tab L26 0)), .sh ((tab L31 1))] = .ret (.d (T40 0 1)) [.no, .no, .no, .no, .no, .no] := (w49_0_1r x_corners x_k x_told ).trans (congrArg (fun z => CR.ret (.d z) [.no, .no, .no, .no, .no, .no]) (w49_0_1d ).symm)
theorem w49_0_2r (x_corners x_k x_told : PyData) : run lw.G 60 18 [.sh (.int 6), .sh (x_corners), .sh (x_k), .sh (x_told), .sh ((tab L26 0)), .sh ((tab L31 2))] = .ret (.d (.tuple [.str "range", .int 0])) [.no, .no, .no, .no, .no, .no] := by kernel_rfl
theorem w49_0_2d : (T40 0 2) = (.tuple [.str "range", .int 0]) := by kernel_rfl
theorem w49_0_2 (x_corners x_k x_told : PyData) : run lw.G 60 18 [.sh (.int 6), .sh (x_corners), .sh (x_k), .sh (x_told), .sh ((tab L26 0)), .sh ((tab L31 2))] = .ret (.d (T40 0 2)) [.no, .no, .no, .no, .no, .no] := (w49_0_2r x_corners x_k x_told ).trans (congrArg (fun z => CR.ret (.d z) [.no, .no, .no, .no, .no, .no]) (w49_0_2d ).symm)
theorem w49_0_3r (x_corners x_k x_told : PyData) : run lw.G 60 18 [.sh (.int 6), .sh (x_corners), .sh (x_k), .sh (x_told), .sh ((tab L26 0)), .sh ((tab L31 3))] = .ret (.d (.tuple [.str "range", .int 13])) [.no, .no, .no, .no, .no, .no] := by kernel_rfl
theorem w49_0_3d : (T40 0 3) = (.tuple [.str "range", .int 13]) := by kernel_rfl
theorem w49_0_3 (x_corners x_k x_told : PyData) : run lw.G 60 18 [.sh (.int 6), .sh (x_corners), .sh (x_k), .sh (x_told), .sh ((tab L26 0)), .sh ((tab L31 3))] = .ret (.d (T40 0 3)) [.no, .no, .no, .no, .no, .no] := (w49_0_3r x_corners x_k x_told ).trans (congrArg (fun z => CR.ret (.d z) [.no, .no, .no, .no, .no, .no]) (w49_0_3d ).symm)
theorem w49_0_4r (x_corners x_k x_told : PyData) : run lw.G 60 18 [.sh (.int 6), .sh (x_corners), .sh (x_k), .sh (x_told), .sh ((tab L26 0)), .sh ((tab L31 4))] = .ret (.d (.none)) [.no, .no, .no, .no, .no, .no] := by kernel_rfl
theorem w49_0_4d : (T40 0 4) = (.none) := by kernel_rfl
theorem w49_0_4 (x_corners x_k x_told : PyData) : run lw.G 60 18 [.sh (.int 6), .sh (x_corners), .sh (x_k), .sh (x_told), .sh ((tab L26 0)), .sh ((tab L31 4))] = .ret (.d (T40 0 4)) [.no, .no, .no, .no, .no, .no] := (w49_0_4r x_corners x_k x_told ).trans (congrArg (fun z => CR.ret (.d z) [.no, .no, .no, .no, .no, .no]) (w49_0_4d ).symm)
theorem w49_0 (x_corners x_k x_told : PyData) (i_most : Nat) (h_i_most : i_most < 5) : run lw.G 60 18 [.sh (.int 6), .sh (x_corners), .sh (x_k), .sh (x_told), .sh ((tab L26 0)), .sh ((tab L31 i_most))] = .ret (.d (T40 0 i_most)) [.no, .no, .no, .no, .no, .no] := match i_most, h_i_most with | 0, _ => w49_0_0 x_corners x_k x_told | 1, _ => w49_0_1 x_corners x_k x_told | 2, _ => w49_0_2 x_corners x_k x_told | 3, _ => w49_0_3 x_corners x_k x_told | 4, _ => w49_0_4 x_corners x_k x_told
theorem w49_1_0r (x_corners x_k x_told : PyData) : run lw.G 60 18 [.sh (.int 6), .sh (x_corners), .sh (x_k), .sh (x_told), .sh ((tab L26 1)), .sh ((tab L31 0))] = .ret (.d (.none)) [.no, .no, .no, .no, .no, .no] := by kernel_rfl
theorem w49_1_0d : (T40 1 0) = (.none) := by kernel_rfl
theorem w49_1_0 (x_corners x_k x_told : PyData) : run lw.G 60 18 [.sh (.int 6), .sh (x_corners), .sh (x_k), .sh (x_told), .sh ((tab L26 1)), .sh ((tab L31 0))] = .ret (.d (T40 1 0)) [.no, .no, .no, .no, .no, .no] := (w49_1_0r x_corners x_k x_told ).trans (congrArg (fun z => CR.ret (.d z) [.no, .no, .no, .no, .no, .no]) (w49_1_0d ).symm)
theorem w49_1_1r (x_corners x_k x_told : PyData) : run lw.G 60 18 [.sh (.int 6), .sh (x_corners), .sh (x_k), .sh (x_told), .sh ((tab L26 1)), .sh ((tab L31 1))] = .ret (.d (.none)) [.no, .no, .no, .no, .no, .no] := by kernel_rfl
theorem w49_1_1d : (T40 1 1) = (.none) := by kernel_rfl
theorem w49_1_1 (x_corners x_k x_told : PyData) : run lw.G 60 18 [.sh (.int 6), .sh (x_corners), .sh (x_k), .sh (x_told), .sh ((tab L26 1)), .sh ((tab L31 1))] = .ret (.d (T40 1 1)) [.no, .no, .no, .no, .no, .no] := (w49_1_1r x_corners x_k x_told ).trans (congrArg (fun z => CR.ret (.d z) [.no, .no, .no, .no, .no, .no]) (w49_1_1d ).symm)
theorem w49_1_2r (x_corners x_k x_told : PyData) : run lw.G 60 18 [.sh (.int 6), .sh (x_corners), .sh (x_k), .sh (x_told), .sh ((tab L26 1)), .sh ((tab L31 2))] = .ret (.d (.tuple [.str "range", .int 0])) [.no, .no, .no, .no, .no, .no] := by kernel_rfl
theorem w49_1_2d : (T40 1 2) = (.tuple [.str "range", .int 0]) := by kernel_rfl
theorem w49_1_2 (x_corners x_k x_told : PyData) : run lw.G 60 18 [.sh (.int 6), .sh (x_corners), .sh (x_k), .sh (x_told), .sh ((tab L26 1)), .sh ((tab L31 2))] = .ret (.d (T40 1 2)) [.no, .no, .no, .no, .no, .no] := (w49_1_2r x_corners x_k x_told ).trans (congrArg (fun z => CR.ret (.d z) [.no, .no, .no, .no, .no, .no]) (w49_1_2d ).symm)
theorem w49_1_3r (x_corners x_k x_told : PyData) : run lw.G 60 18 [.sh (.int 6), .sh (x_corners), .sh (x_k), .sh (x_told), .sh ((tab L26 1)), .sh ((tab L31 3))] = .ret (.d (.tuple [.str "range", .int 13])) [.no, .no, .no, .no, .no, .no] := by kernel_rfl
theorem w49_1_3d : (T40 1 3) = (.tuple [.str "range", .int 13]) := by kernel_rfl
theorem w49_1_3 (x_corners x_k x_told : PyData) : run lw.G 60 18 [.sh (.int 6), .sh (x_corners), .sh (x_k), .sh (x_told), .sh ((tab L26 1)), .sh ((tab L31 3))] = .ret (.d (T40 1 3)) [.no, .no, .no, .no, .no, .no] := (w49_1_3r x_corners x_k x_told ).trans (congrArg (fun z => CR.ret (.d z) [.no, .no, .no, .no, .no, .no]) (w49_1_3d ).symm)
theorem w49_1_4r (x_corners x_k x_told : PyData) : run lw.G 60 18 [.sh (.int 6), .sh (x_corners), .sh (x_k), .sh (x_told), .sh ((tab L26 1)), .sh ((tab L31 4))] = .ret (.d (.none)) [.no, .no, .no, .no, .no, .no] := by kernel_rfl
theorem w49_1_4d : (T40 1 4) = (.none) := by kernel_rfl
theorem w49_1_4 (x_corners x_k x_told : PyData) : run lw.G 60 18 [.sh (.int 6), .sh (x_corners), .sh (x_k), .sh (x_told), .sh ((tab L26 1)), .sh ((tab L31 4))] = .ret (.d (T40 1 4)) [.no, .no, .no, .no, .no, .no] := (w49_1_4r x_corners x_k x_told ).trans (congrArg (fun z => CR.ret (.d z) [.no, .no, .no, .no, .no, .no]) (w49_1_4d ).symm)
theorem w49_1 (x_corners x_k x_told : PyData) (i_most : Nat) (h_i_most : i_most < 5) : run lw.G 60 18 [.sh (.int 6), .sh (x_corners), .sh (x_k), .sh (x_told), .sh ((tab L26 1)), .sh ((tab L31 i_most))] = .ret (.d (T40 1 i_most)) [.no, .no, .no, .no, .no, .no] := match i_most, h_i_most with | 0, _ => w49_1_0 x_corners x_k x_told | 1, _ => w49_1_1 x_corners x_k x_told | 2, _ => w49_1_2 x_corners x_k x_told | 3, _ => w49_1_3 x_corners x_k x_told | 4, _ => w49_1_4 x_corners x_k x_told
theorem w49_2_0r (x_corners x_k x_told : PyData) : run lw.G 60 18 [.sh (.int 6), .sh (x_corners), .sh (x_k), .sh (x_told), .sh ((tab L26 2)), .sh ((tab L31 0))] = .ret (.d (.none)) [.no, .no, .no, .no, .no, .no] := by kernel_rfl
theorem w49_2_0d : (T40 2 0) = (.none) := by kernel_rfl
theorem w49_2_0 (x_corners x_k x_told : PyData) : run lw.G 60 18 [.sh (.int 6), .sh (x_corners), .sh (x_k), .sh (x_told), .sh ((tab L26 2)), .sh ((tab L31 0))] = .ret (.d (T40 2 0)) [.no, .no, .no, .no, .no, .no] := (w49_2_0r x_corners x_k x_told ).trans (congrArg (fun z => CR.ret (.d z) [.no, .no, .no, .no, .no, .no]) (w49_2_0d ).symm)
theorem w49_2_1r (x_corners x_k x_told : PyData) : run lw.G 60 18 [.sh (.int 6), .sh (x_corners), .sh (x_k), .sh (x_told), .sh ((tab L26 2)), .sh ((tab L31 1))] = .ret (.d (.none)) [.no, .no, .no, .no, .no, .no] := by kernel_rfl
theorem w49_2_1d : (T40 2 1) = (.none) := by kernel_rfl
theorem w49_2_1 (x_corners x_k x_told : PyData) : run lw.G 60 18 [.sh (.int 6), .sh (x_corners), .sh (x_k), .sh (x_told), .sh ((tab L26 2)), .sh ((tab L31 1))] = .ret (.d (T40 2 1)) [.no, .no, .no, .no, .no, .no] := (w49_2_1r x_corners x_k x_told ).trans (congrArg (fun z => CR.ret (.d z) [.no, .no, .no, .no, .no, .no]) (w49_2_1d ).symm)
theorem w49_2_2r (x_corners x_k x_told : PyData) : run lw.G 60 18 [.sh (.int 6), .sh (x_corners), .sh (x_k), .sh (x_told), .sh ((tab L26 2)), .sh ((tab L31 2))] = .ret (.d (.tuple [.str "range", .int 0])) [.no, .no, .no, .no, .no, .no] := by kernel_rfl
theorem w49_2_2d : (T40 2 2) = (.tuple [.str "range", .int 0]) := by kernel_rfl
theorem w49_2_2 (x_corners x_k x_told : PyData) : run lw.G 60 18 [.sh (.int 6), .sh (x_corners), .sh (x_k), .sh (x_told), .sh ((tab L26 2)), .sh ((tab L31 2))] = .ret (.d (T40 2 2)) [.no, .no, .no, .no, .no, .no] := (w49_2_2r x_corners x_k x_told ).trans (congrArg (fun z => CR.ret (.d z) [.no, .no, .no, .no, .no, .no]) (w49_2_2d ).symm)
theorem w49_2_3r (x_corners x_k x_told : PyData) : run lw.G 60 18 [.sh (.int 6), .sh (x_corners), .sh (x_k), .sh (x_told), .sh ((tab L26 2)), .sh ((tab L31 3))] = .ret (.d (.tuple [.str "range", .int 13])) [.no, .no, .no, .no, .no, .no] := by kernel_rfl
theorem w49_2_3d : (T40 2 3) = (.tuple [.str "range", .int 13]) := by kernel_rfl
theorem w49_2_3 (x_corners x_k x_told : PyData) : run lw.G 60 18 [.sh (.int 6), .sh (x_corners), .sh (x_k), .sh (x_told), .sh ((tab L26 2)), .sh ((tab L31 3))] = .ret (.d (T40 2 3)) [.no, .no, .no, .no, .no, .no] := (w49_2_3r x_corners x_k x_told ).trans (congrArg (fun z => CR.ret (.d z) [.no, .no, .no, .no, .no, .no]) (w49_2_3d ).symm)
theorem w49_2_4r (x_corners x_k x_told : PyData) : run lw.G 60 18 [.sh (.int 6), .sh (x_corners), .sh (x_k), .sh (x_told), .sh ((tab L26 2)), .sh ((tab L31 4))] = .ret (.d (.none)) [.no, .no, .no, .no, .no, .no] := by kernel_rfl
theorem w49_2_4d : (T40 2 4) = (.none) := by kernel_rfl
theorem w49_2_4 (x_corners x_k x_told : PyData) : run lw.G 60 18 [.sh (.int 6), .sh (x_corners), .sh (x_k), .sh (x_told), .sh ((tab L26 2)), .sh ((tab L31 4))] = .ret (.d (T40 2 4)) [.no, .no, .no, .no, .no, .no] := (w49_2_4r x_corners x_k x_told ).trans (congrArg (fun z => CR.ret (.d z) [.no, .no, .no, .no, .no, .no]) (w49_2_4d ).symm)
theorem w49_2 (x_corners x_k x_told : PyData) (i_most : Nat) (h_i_most : i_most < 5) : run lw.G 60 18 [.sh (.int 6), .sh (x_corners), .sh (x_k), .sh (x_told), .sh ((tab L26 2)), .sh ((tab L31 i_most))] = .ret (.d (T40 2 i_most)) [.no, .no, .no, .no, .no, .no] := match i_most, h_i_most with | 0, _ => w49_2_0 x_corners x_k x_told | 1, _ => w49_2_1 x_corners x_k x_told | 2, _ => w49_2_2 x_corners x_k x_told | 3, _ => w49_2_3 x_corners x_k x_told | 4, _ => w49_2_4 x_corners x_k x_told
theorem w49_3r (x_corners x_k x_told : PyData) (i_most : Nat) : run lw.G 60 18 [.sh (.int 6), .sh (x_corners), .sh (x_k), .sh (x_told), .sh ((tab L26 3)), .sh ((tab L31 i_most))] = .ret (.d (.tuple [.str "range", .int 0])) [.no, .no, .no, .no, .no, .no] := by kernel_rfl
theorem w49_3d : ∀ i_most, i_most < 5 → (T40 3 i_most) = (.tuple [.str "range", .int 0]) := tb1 (by kernel_rfl)
theorem w49_3 (x_corners x_k x_told : PyData) (i_most : Nat) (h_i_most : i_most < 5) : run lw.G 60 18 [.sh (.int 6), .sh (x_corners), .sh (x_k), .sh (x_told), .sh ((tab L26 3)), .sh ((tab L31 i_most))] = .ret (.d (T40 3 i_most)) [.no, .no, .no, .no, .no, .no] := (w49_3r x_corners x_k x_told i_most).trans (congrArg (fun z => CR.ret (.d z) [.no, .no, .no, .no, .no, .no]) (w49_3d  i_most h_i_most).symm)
theorem w49_4r (x_corners x_k x_told : PyData) (i_most : Nat) : run lw.G 60 18 [.sh (.int 6), .sh (x_corners), .sh (x_k), .sh (x_told), .sh ((tab L26 4)), .sh ((tab L31 i_most))] = .ret (.d (.tuple [.str "range", .int 7])) [.no, .no, .no, .no, .no, .no] := by kernel_rfl
theorem w49_4d : ∀ i_most, i_most < 5 → (T40 4 i_most) = (.tuple [.str "range", .int 7]) := tb1 (by kernel_rfl)
theorem w49_4 (x_corners x_k x_told : PyData) (i_most : Nat) (h_i_most : i_most < 5) : run lw.G 60 18 [.sh (.int 6), .sh (x_corners), .sh (x_k), .sh (x_told), .sh ((tab L26 4)), .sh ((tab L31 i_most))] = .ret (.d (T40 4 i_most)) [.no, .no, .no, .no, .no, .no] := (w49_4r x_corners x_k x_told i_most).trans (congrArg (fun z => CR.ret (.d z) [.no, .no, .no, .no, .no, .no]) (w49_4d  i_most h_i_most).symm)
theorem w49 (x_corners x_k x_told : PyData) (i_many : Nat) (h_i_many : i_many < 5) (i_most : Nat) (h_i_most : i_most < 5) : run lw.G 60 18 [.sh (.int 6), .sh (x_corners), .sh (x_k), .sh (x_told), .sh ((tab L26 i_many)), .sh ((tab L31 i_most))] = .ret (.d (T40 i_many i_most)) [.no, .no, .no, .no, .no, .no] := match i_many, h_i_many with | 0, _ => w49_0 x_corners x_k x_told i_most h_i_most | 1, _ => w49_1 x_corners x_k x_told i_most h_i_most | 2, _ => w49_2 x_corners x_k x_told i_most h_i_most | 3, _ => w49_3 x_corners x_k x_told i_most h_i_most | 4, _ => w49_4 x_corners x_k x_told i_most h_i_most
theorem r51 : ∀ i_corners_due, i_corners_due < 10 → repOk (T11 i_corners_due) = true := tb1 (by kernel_rfl)
theorem r52 : ∀ i_k, i_k < 5 → ∀ i_corners_due, i_corners_due < 10 → repOk (T38 i_k i_corners_due) = true := tb2 (by kernel_rfl)
theorem r53 : ∀ i_told_odd, i_told_odd < 8 → repOk (T19 i_told_odd) = true := tb1 (by kernel_rfl)
theorem r54 : ∀ i_many, i_many < 5 → ∀ i_most, i_most < 5 → repOk (T40 i_many i_most) = true := tb2 (by kernel_rfl)
theorem drawn : Drawn lw.G 16 17 := ⟨rfl, rfl⟩
theorem big200 {i : Int} (h : i.natAbs < 2 ^ 64) : i.natAbs < 2 ^ 200 := Nat.lt_of_lt_of_le h (Nat.pow_le_pow_right (by decide) (by decide))
def iTurn : Ir := (.seq (.set 5 false (.bin .add (.lit (.int 10)) (.bin .mul (.lit (.int 8)) (.var 4)))) (.seq (.setT (.tp [(.nm 10), (.nm 11)]) (.ix (.var 2) (.call 17 (.cons (.var 1) (.cons (.var 5) (.cons (.ix (.lst (.cons (.lit (.int 3)) (.cons (.lit (.int 10)) .nil))) (.call 17 (.cons (.var 1) (.cons (.bin .add (.var 5) (.lit (.int 1))) (.cons (.lit (.int 2)) .nil))))) .nil)))))) (.seq (.setT (.tp [(.nm 12), (.nm 13)]) (.ix (.var 3) (.call 17 (.cons (.var 1) (.cons (.bin .add (.var 5) (.lit (.int 2))) (.cons (.lit (.int 8)) .nil)))))) (.seq (.set 6 false (.ix (.lst (.cons (.lit (.int 0)) (.cons (.lit (.int 1)) (.cons (.lit (.int 2)) (.cons (.lit (.int 7)) (.cons (.neg (.lit (.int 1))) .nil)))))) (.call 17 (.cons (.var 1) (.cons (.bin .add (.var 5) (.lit (.int 3))) (.cons (.lit (.int 5)) .nil)))))) (.seq (.setT (.tp [(.nm 14), (.nm 15)]) (.tup (.cons (.ix (.lst (.cons (.lit (.int 1)) (.cons (.lit (.int 3)) (.cons (.lit (.int 6)) (.cons (.lit (.int 0)) (.cons (.lit (.int 7)) .nil)))))) (.call 17 (.cons (.var 1) (.cons (.bin .add (.var 5) (.lit (.int 4))) (.cons (.lit (.int 5)) .nil))))) (.cons (.ix (.lst (.cons (.lit (.int 1)) (.cons (.lit (.int 4)) (.cons (.lit (.int 0)) (.cons (.lit (.int 13)) (.cons (.lit (.int 7)) .nil)))))) (.call 17 (.cons (.var 1) (.cons (.bin .add (.var 5) (.lit (.int 5))) (.cons (.lit (.int 5)) .nil))))) .nil)))) (.seq (.set 7 false (.blt 11 (.cons (.tup (.cons (.var 10) (.cons (.var 12) .nil))) .nil))) (.seq (.set 8 false (.orr (.var 11) (.ix (.lst (.cons (.tup (.cons (.lit (.str "range")) (.cons (.var 6) .nil))) (.cons (.lit .none) .nil))) (.blt 1 (.cons (.ch2 .le .lt (.lit (.int 0)) (.var 6) (.blt 0 (.cons (.var 10) .nil))) .nil))))) (.seq (.set 9 false (.orr (.ix (.lst (.cons (.tup (.cons (.lit (.str "range")) (.cons (.var 14) .nil))) (.cons (.lit .none) .nil))) (.blt 1 (.cons (.ch2 .le .le (.lit (.int 1)) (.var 14) (.lit (.int 6))) .nil))) (.ix (.lst (.cons (.tup (.cons (.lit (.str "range")) (.cons (.var 15) .nil))) (.cons (.lit .none) .nil))) (.blt 1 (.cons (.ch2 .le .le (.lit (.int 1)) (.var 15) (.lit (.int 12))) .nil))))) (.seq (.iff (.orr (.cmp .ne (.lc [16] (.nm 16) (.itR (.cons (.lit (.int 7)) .nil)) .tt (.call 18 (.cons (.var 16) (.cons (.var 10) (.cons (.var 6) (.cons (.var 12) (.cons (.var 14) (.cons (.var 15) .nil)))))))) (.lst (.cons (.var 11) (.cons (.var 11) (.cons (.var 11) (.cons (.var 8) (.cons (.orr (.var 11) (.var 13)) (.cons (.var 13) (.cons (.var 9) .nil))))))))) (.cmp .ne (.blt 11 (.cons (.tup (.cons (.var 10) (.cons (.var 12) .nil))) .nil)) (.var 7))) (.seq (.ret (.lit (.bool false))) .skp) .skp) .skp)))))))))
theorem turn_ok {ns ds : List Int} (hd : DrOk 3780 ds) (j : Nat) (hj : j < 10) (s_at s_k s_kept s_here s_last s_corners s_due s_told s_odd s_many s_most : Sl) (h_at : isSh s_at) (h_k : isSh s_k) (h_kept : isSh s_kept) (h_here : isSh s_here) (h_last : isSh s_last) (h_corners : isSh s_corners) (h_due : isSh s_due) (h_told : isSh s_told) (h_odd : isSh s_odd) (h_many : isSh s_many) (h_most : isSh s_most) : ∃ z_at z_k z_kept z_here z_last z_corners z_due z_told z_odd z_many z_most : Sl, (isSh z_at ∧ isSh z_k ∧ isSh z_kept ∧ isSh z_here ∧ isSh z_last ∧ isSh z_corners ∧ isSh z_due ∧ isSh z_told ∧ isSh z_odd ∧ isSh z_many ∧ isSh z_most) ∧ ev Mk iTurn [.sh (dI ns), .sh (dI ds), .sh (.list [.tuple [.list [.int 0], .none], .tuple [.list [.int 0, .int 5], .none], .tuple [.list [.int 0, .int 1, .int 1000], .none], .tuple [.list [], .tuple [.str "size", .int 0]], .tuple [.list [.int 0, .int 1, .int 2, .int 3, .int 4, .int 5, .int 6, .int 7], .tuple [.str "size", .int 8]], .tuple [.list [.int 1, .int 2], .tuple [.str "corner", .int 0]], .tuple [.list [.int 0, .int 2, .int 2], .tuple [.str "corner", .int 2]], .tuple [.list [.int 0, .int 5, .int 3], .tuple [.str "corner", .int 2]], .tuple [.list [.int 0, .int 1001], .tuple [.str "corner", .int 1]], .tuple [.list [.int (-1), .int 0], .tuple [.str "corner", .int 0]]]), .sh (.list [.tuple [.list [], .none], .tuple [.list [.int 7], .none], .tuple [.list [.int 1, .int 1, .int 2], .none], .tuple [.list [.int 1, .int 2], .tuple [.str "size", .int 2]], .tuple [.list [.int 0], .tuple [.str "echo", .int 0]], .tuple [.list [.int 1001], .tuple [.str "echo", .int 0]], .tuple [.list [.int 2, .int 1, .int 3], .tuple [.str "echo", .int 1]], .tuple [.list (List.replicate 22 (.int 1)), .tuple [.str "size", .int 22]]]), .sh (.int j), s_at, s_k, s_kept, s_here, s_last, s_corners, s_due, s_told, s_odd, s_many, s_most, .no] = .nx [.sh (dI ns), .sh (dI ds), .sh (.list [.tuple [.list [.int 0], .none], .tuple [.list [.int 0, .int 5], .none], .tuple [.list [.int 0, .int 1, .int 1000], .none], .tuple [.list [], .tuple [.str "size", .int 0]], .tuple [.list [.int 0, .int 1, .int 2, .int 3, .int 4, .int 5, .int 6, .int 7], .tuple [.str "size", .int 8]], .tuple [.list [.int 1, .int 2], .tuple [.str "corner", .int 0]], .tuple [.list [.int 0, .int 2, .int 2], .tuple [.str "corner", .int 2]], .tuple [.list [.int 0, .int 5, .int 3], .tuple [.str "corner", .int 2]], .tuple [.list [.int 0, .int 1001], .tuple [.str "corner", .int 1]], .tuple [.list [.int (-1), .int 0], .tuple [.str "corner", .int 0]]]), .sh (.list [.tuple [.list [], .none], .tuple [.list [.int 7], .none], .tuple [.list [.int 1, .int 1, .int 2], .none], .tuple [.list [.int 1, .int 2], .tuple [.str "size", .int 2]], .tuple [.list [.int 0], .tuple [.str "echo", .int 0]], .tuple [.list [.int 1001], .tuple [.str "echo", .int 0]], .tuple [.list [.int 2, .int 1, .int 3], .tuple [.str "echo", .int 1]], .tuple [.list (List.replicate 22 (.int 1)), .tuple [.str "size", .int 22]]]), .sh (.int j), z_at, z_k, z_kept, z_here, z_last, z_corners, z_due, z_told, z_odd, z_many, z_most, .no] := by
  obtain ⟨i_corners_due, h_i_corners_due, p2⟩ : ∃ i : Nat, i < 10 ∧ ev Mk (.ix (.var 2) (.call 17 (.cons (.var 1) (.cons (.var 5) (.cons (.ix (.lst (.cons (.lit (.int 3)) (.cons (.lit (.int 10)) .nil))) (.call 17 (.cons (.var 1) (.cons (.bin .add (.var 5) (.lit (.int 1))) (.cons (.lit (.int 2)) .nil))))) .nil))))) [.sh (dI ns), .sh (dI ds), .sh (.list [.tuple [.list [.int 0], .none], .tuple [.list [.int 0, .int 5], .none], .tuple [.list [.int 0, .int 1, .int 1000], .none], .tuple [.list [], .tuple [.str "size", .int 0]], .tuple [.list [.int 0, .int 1, .int 2, .int 3, .int 4, .int 5, .int 6, .int 7], .tuple [.str "size", .int 8]], .tuple [.list [.int 1, .int 2], .tuple [.str "corner", .int 0]], .tuple [.list [.int 0, .int 2, .int 2], .tuple [.str "corner", .int 2]], .tuple [.list [.int 0, .int 5, .int 3], .tuple [.str "corner", .int 2]], .tuple [.list [.int 0, .int 1001], .tuple [.str "corner", .int 1]], .tuple [.list [.int (-1), .int 0], .tuple [.str "corner", .int 0]]]), .sh (.list [.tuple [.list [], .none], .tuple [.list [.int 7], .none], .tuple [.list [.int 1, .int 1, .int 2], .none], .tuple [.list [.int 1, .int 2], .tuple [.str "size", .int 2]], .tuple [.list [.int 0], .tuple [.str "echo", .int 0]], .tuple [.list [.int 1001], .tuple [.str "echo", .int 0]], .tuple [.list [.int 2, .int 1, .int 3], .tuple [.str "echo", .int 1]], .tuple [.list (List.replicate 22 (.int 1)), .tuple [.str "size", .int 22]]]), .sh (.int j), .sh (.int (10 + 8 * (j : Int))), s_k, s_kept, s_here, s_last, s_corners, s_due, s_told, s_odd, s_many, s_most, .no] = .ok (.d (tab L1 i)) [.sh (dI ns), .sh (dI ds), .sh (.list [.tuple [.list [.int 0], .none], .tuple [.list [.int 0, .int 5], .none], .tuple [.list [.int 0, .int 1, .int 1000], .none], .tuple [.list [], .tuple [.str "size", .int 0]], .tuple [.list [.int 0, .int 1, .int 2, .int 3, .int 4, .int 5, .int 6, .int 7], .tuple [.str "size", .int 8]], .tuple [.list [.int 1, .int 2], .tuple [.str "corner", .int 0]], .tuple [.list [.int 0, .int 2, .int 2], .tuple [.str "corner", .int 2]], .tuple [.list [.int 0, .int 5, .int 3], .tuple [.str "corner", .int 2]], .tuple [.list [.int 0, .int 1001], .tuple [.str "corner", .int 1]], .tuple [.list [.int (-1), .int 0], .tuple [.str "corner", .int 0]]]), .sh (.list [.tuple [.list [], .none], .tuple [.list [.int 7], .none], .tuple [.list [.int 1, .int 1, .int 2], .none], .tuple [.list [.int 1, .int 2], .tuple [.str "size", .int 2]], .tuple [.list [.int 0], .tuple [.str "echo", .int 0]], .tuple [.list [.int 1001], .tuple [.str "echo", .int 0]], .tuple [.list [.int 2, .int 1, .int 3], .tuple [.str "echo", .int 1]], .tuple [.list (List.replicate 22 (.int 1)), .tuple [.str "size", .int 22]]]), .sh (.int j), .sh (.int (10 + 8 * (j : Int))), s_k, s_kept, s_here, s_last, s_corners, s_due, s_told, s_odd, s_many, s_most, .no] := by
    obtain ⟨j4, p5b, p5⟩ := mixE drawn hd (k := 59) (j := 1) (e := [.sh (dI ns), .sh (dI ds), .sh (.list [.tuple [.list [.int 0], .none], .tuple [.list [.int 0, .int 5], .none], .tuple [.list [.int 0, .int 1, .int 1000], .none], .tuple [.list [], .tuple [.str "size", .int 0]], .tuple [.list [.int 0, .int 1, .int 2, .int 3, .int 4, .int 5, .int 6, .int 7], .tuple [.str "size", .int 8]], .tuple [.list [.int 1, .int 2], .tuple [.str "corner", .int 0]], .tuple [.list [.int 0, .int 2, .int 2], .tuple [.str "corner", .int 2]], .tuple [.list [.int 0, .int 5, .int 3], .tuple [.str "corner", .int 2]], .tuple [.list [.int 0, .int 1001], .tuple [.str "corner", .int 1]], .tuple [.list [.int (-1), .int 0], .tuple [.str "corner", .int 0]]]), .sh (.list [.tuple [.list [], .none], .tuple [.list [.int 7], .none], .tuple [.list [.int 1, .int 1, .int 2], .none], .tuple [.list [.int 1, .int 2], .tuple [.str "size", .int 2]], .tuple [.list [.int 0], .tuple [.str "echo", .int 0]], .tuple [.list [.int 1001], .tuple [.str "echo", .int 0]], .tuple [.list [.int 2, .int 1, .int 3], .tuple [.str "echo", .int 1]], .tuple [.list (List.replicate 22 (.int 1)), .tuple [.str "size", .int 22]]]), .sh (.int j), .sh (.int (10 + 8 * (j : Int))), s_k, s_kept, s_here, s_last, s_corners, s_due, s_told, s_odd, s_many, s_most, .no]) (a := (.bin .add (.var 5) (.lit (.int 1)))) (b := (.lit (.int 2))) (x := ((10 + 8 * (j : Int)) + 1)) (many := 2) rfl rfl rfl (by omega) (by omega) (by omega)
    have b_j4 : j4 < 2 := by omega
    by_cases c_j4 : j4 = 0
    · subst c_j4
      obtain ⟨j6, p7b, p7⟩ := mixE drawn hd (k := 59) (j := 1) (e := [.sh (dI ns), .sh (dI ds), .sh (.list [.tuple [.list [.int 0], .none], .tuple [.list [.int 0, .int 5], .none], .tuple [.list [.int 0, .int 1, .int 1000], .none], .tuple [.list [], .tuple [.str "size", .int 0]], .tuple [.list [.int 0, .int 1, .int 2, .int 3, .int 4, .int 5, .int 6, .int 7], .tuple [.str "size", .int 8]], .tuple [.list [.int 1, .int 2], .tuple [.str "corner", .int 0]], .tuple [.list [.int 0, .int 2, .int 2], .tuple [.str "corner", .int 2]], .tuple [.list [.int 0, .int 5, .int 3], .tuple [.str "corner", .int 2]], .tuple [.list [.int 0, .int 1001], .tuple [.str "corner", .int 1]], .tuple [.list [.int (-1), .int 0], .tuple [.str "corner", .int 0]]]), .sh (.list [.tuple [.list [], .none], .tuple [.list [.int 7], .none], .tuple [.list [.int 1, .int 1, .int 2], .none], .tuple [.list [.int 1, .int 2], .tuple [.str "size", .int 2]], .tuple [.list [.int 0], .tuple [.str "echo", .int 0]], .tuple [.list [.int 1001], .tuple [.str "echo", .int 0]], .tuple [.list [.int 2, .int 1, .int 3], .tuple [.str "echo", .int 1]], .tuple [.list (List.replicate 22 (.int 1)), .tuple [.str "size", .int 22]]]), .sh (.int j), .sh (.int (10 + 8 * (j : Int))), s_k, s_kept, s_here, s_last, s_corners, s_due, s_told, s_odd, s_many, s_most, .no]) (a := (.var 5)) (b := (.ix (.lst (.cons (.lit (.int 3)) (.cons (.lit (.int 10)) .nil))) (.call 17 (.cons (.var 1) (.cons (.bin .add (.var 5) (.lit (.int 1))) (.cons (.lit (.int 2)) .nil)))))) (x := (10 + 8 * (j : Int))) (many := 3) rfl rfl (ix_of rfl p5 rfl (by kernel_rfl)) (by omega) (by omega) (by omega)
      exact ⟨j6, by omega, ix_of (x := .list L1) rfl p7 rfl (ix_nat (tab_get (show _ < 10 by omega)))⟩
    by_cases c_j4 : j4 = 1
    · subst c_j4
      obtain ⟨j8, p9b, p9⟩ := mixE drawn hd (k := 59) (j := 1) (e := [.sh (dI ns), .sh (dI ds), .sh (.list [.tuple [.list [.int 0], .none], .tuple [.list [.int 0, .int 5], .none], .tuple [.list [.int 0, .int 1, .int 1000], .none], .tuple [.list [], .tuple [.str "size", .int 0]], .tuple [.list [.int 0, .int 1, .int 2, .int 3, .int 4, .int 5, .int 6, .int 7], .tuple [.str "size", .int 8]], .tuple [.list [.int 1, .int 2], .tuple [.str "corner", .int 0]], .tuple [.list [.int 0, .int 2, .int 2], .tuple [.str "corner", .int 2]], .tuple [.list [.int 0, .int 5, .int 3], .tuple [.str "corner", .int 2]], .tuple [.list [.int 0, .int 1001], .tuple [.str "corner", .int 1]], .tuple [.list [.int (-1), .int 0], .tuple [.str "corner", .int 0]]]), .sh (.list [.tuple [.list [], .none], .tuple [.list [.int 7], .none], .tuple [.list [.int 1, .int 1, .int 2], .none], .tuple [.list [.int 1, .int 2], .tuple [.str "size", .int 2]], .tuple [.list [.int 0], .tuple [.str "echo", .int 0]], .tuple [.list [.int 1001], .tuple [.str "echo", .int 0]], .tuple [.list [.int 2, .int 1, .int 3], .tuple [.str "echo", .int 1]], .tuple [.list (List.replicate 22 (.int 1)), .tuple [.str "size", .int 22]]]), .sh (.int j), .sh (.int (10 + 8 * (j : Int))), s_k, s_kept, s_here, s_last, s_corners, s_due, s_told, s_odd, s_many, s_most, .no]) (a := (.var 5)) (b := (.ix (.lst (.cons (.lit (.int 3)) (.cons (.lit (.int 10)) .nil))) (.call 17 (.cons (.var 1) (.cons (.bin .add (.var 5) (.lit (.int 1))) (.cons (.lit (.int 2)) .nil)))))) (x := (10 + 8 * (j : Int))) (many := 10) rfl rfl (ix_of rfl p5 rfl (by kernel_rfl)) (by omega) (by omega) (by omega)
      exact ⟨j8, by omega, ix_of (x := .list L1) rfl p9 rfl (ix_nat (tab_get (show _ < 10 by omega)))⟩
    exact absurd b_j4 (by omega)
  obtain ⟨i_told_odd, h_i_told_odd, p14⟩ : ∃ i : Nat, i < 8 ∧ ev Mk (.ix (.var 3) (.call 17 (.cons (.var 1) (.cons (.bin .add (.var 5) (.lit (.int 2))) (.cons (.lit (.int 8)) .nil))))) [.sh (dI ns), .sh (dI ds), .sh (.list [.tuple [.list [.int 0], .none], .tuple [.list [.int 0, .int 5], .none], .tuple [.list [.int 0, .int 1, .int 1000], .none], .tuple [.list [], .tuple [.str "size", .int 0]], .tuple [.list [.int 0, .int 1, .int 2, .int 3, .int 4, .int 5, .int 6, .int 7], .tuple [.str "size", .int 8]], .tuple [.list [.int 1, .int 2], .tuple [.str "corner", .int 0]], .tuple [.list [.int 0, .int 2, .int 2], .tuple [.str "corner", .int 2]], .tuple [.list [.int 0, .int 5, .int 3], .tuple [.str "corner", .int 2]], .tuple [.list [.int 0, .int 1001], .tuple [.str "corner", .int 1]], .tuple [.list [.int (-1), .int 0], .tuple [.str "corner", .int 0]]]), .sh (.list [.tuple [.list [], .none], .tuple [.list [.int 7], .none], .tuple [.list [.int 1, .int 1, .int 2], .none], .tuple [.list [.int 1, .int 2], .tuple [.str "size", .int 2]], .tuple [.list [.int 0], .tuple [.str "echo", .int 0]], .tuple [.list [.int 1001], .tuple [.str "echo", .int 0]], .tuple [.list [.int 2, .int 1, .int 3], .tuple [.str "echo", .int 1]], .tuple [.list (List.replicate 22 (.int 1)), .tuple [.str "size", .int 22]]]), .sh (.int j), .sh (.int (10 + 8 * (j : Int))), s_k, s_kept, s_here, s_last, .sh (T10 i_corners_due), .sh (T11 i_corners_due), s_told, s_odd, s_many, s_most, .no] = .ok (.d (tab L13 i)) [.sh (dI ns), .sh (dI ds), .sh (.list [.tuple [.list [.int 0], .none], .tuple [.list [.int 0, .int 5], .none], .tuple [.list [.int 0, .int 1, .int 1000], .none], .tuple [.list [], .tuple [.str "size", .int 0]], .tuple [.list [.int 0, .int 1, .int 2, .int 3, .int 4, .int 5, .int 6, .int 7], .tuple [.str "size", .int 8]], .tuple [.list [.int 1, .int 2], .tuple [.str "corner", .int 0]], .tuple [.list [.int 0, .int 2, .int 2], .tuple [.str "corner", .int 2]], .tuple [.list [.int 0, .int 5, .int 3], .tuple [.str "corner", .int 2]], .tuple [.list [.int 0, .int 1001], .tuple [.str "corner", .int 1]], .tuple [.list [.int (-1), .int 0], .tuple [.str "corner", .int 0]]]), .sh (.list [.tuple [.list [], .none], .tuple [.list [.int 7], .none], .tuple [.list [.int 1, .int 1, .int 2], .none], .tuple [.list [.int 1, .int 2], .tuple [.str "size", .int 2]], .tuple [.list [.int 0], .tuple [.str "echo", .int 0]], .tuple [.list [.int 1001], .tuple [.str "echo", .int 0]], .tuple [.list [.int 2, .int 1, .int 3], .tuple [.str "echo", .int 1]], .tuple [.list (List.replicate 22 (.int 1)), .tuple [.str "size", .int 22]]]), .sh (.int j), .sh (.int (10 + 8 * (j : Int))), s_k, s_kept, s_here, s_last, .sh (T10 i_corners_due), .sh (T11 i_corners_due), s_told, s_odd, s_many, s_most, .no] := by
    obtain ⟨j16, p17b, p17⟩ := mixE drawn hd (k := 59) (j := 1) (e := [.sh (dI ns), .sh (dI ds), .sh (.list [.tuple [.list [.int 0], .none], .tuple [.list [.int 0, .int 5], .none], .tuple [.list [.int 0, .int 1, .int 1000], .none], .tuple [.list [], .tuple [.str "size", .int 0]], .tuple [.list [.int 0, .int 1, .int 2, .int 3, .int 4, .int 5, .int 6, .int 7], .tuple [.str "size", .int 8]], .tuple [.list [.int 1, .int 2], .tuple [.str "corner", .int 0]], .tuple [.list [.int 0, .int 2, .int 2], .tuple [.str "corner", .int 2]], .tuple [.list [.int 0, .int 5, .int 3], .tuple [.str "corner", .int 2]], .tuple [.list [.int 0, .int 1001], .tuple [.str "corner", .int 1]], .tuple [.list [.int (-1), .int 0], .tuple [.str "corner", .int 0]]]), .sh (.list [.tuple [.list [], .none], .tuple [.list [.int 7], .none], .tuple [.list [.int 1, .int 1, .int 2], .none], .tuple [.list [.int 1, .int 2], .tuple [.str "size", .int 2]], .tuple [.list [.int 0], .tuple [.str "echo", .int 0]], .tuple [.list [.int 1001], .tuple [.str "echo", .int 0]], .tuple [.list [.int 2, .int 1, .int 3], .tuple [.str "echo", .int 1]], .tuple [.list (List.replicate 22 (.int 1)), .tuple [.str "size", .int 22]]]), .sh (.int j), .sh (.int (10 + 8 * (j : Int))), s_k, s_kept, s_here, s_last, .sh (T10 i_corners_due), .sh (T11 i_corners_due), s_told, s_odd, s_many, s_most, .no]) (a := (.bin .add (.var 5) (.lit (.int 2)))) (b := (.lit (.int 8))) (x := ((10 + 8 * (j : Int)) + 2)) (many := 8) rfl rfl rfl (by omega) (by omega) (by omega)
    exact ⟨j16, by omega, ix_of (x := .list L13) rfl p17 rfl (ix_nat (tab_get (show _ < 8 by omega)))⟩
  obtain ⟨i_k, h_i_k, p22⟩ : ∃ i : Nat, i < 5 ∧ ev Mk (.ix (.lst (.cons (.lit (.int 0)) (.cons (.lit (.int 1)) (.cons (.lit (.int 2)) (.cons (.lit (.int 7)) (.cons (.neg (.lit (.int 1))) .nil)))))) (.call 17 (.cons (.var 1) (.cons (.bin .add (.var 5) (.lit (.int 3))) (.cons (.lit (.int 5)) .nil))))) [.sh (dI ns), .sh (dI ds), .sh (.list [.tuple [.list [.int 0], .none], .tuple [.list [.int 0, .int 5], .none], .tuple [.list [.int 0, .int 1, .int 1000], .none], .tuple [.list [], .tuple [.str "size", .int 0]], .tuple [.list [.int 0, .int 1, .int 2, .int 3, .int 4, .int 5, .int 6, .int 7], .tuple [.str "size", .int 8]], .tuple [.list [.int 1, .int 2], .tuple [.str "corner", .int 0]], .tuple [.list [.int 0, .int 2, .int 2], .tuple [.str "corner", .int 2]], .tuple [.list [.int 0, .int 5, .int 3], .tuple [.str "corner", .int 2]], .tuple [.list [.int 0, .int 1001], .tuple [.str "corner", .int 1]], .tuple [.list [.int (-1), .int 0], .tuple [.str "corner", .int 0]]]), .sh (.list [.tuple [.list [], .none], .tuple [.list [.int 7], .none], .tuple [.list [.int 1, .int 1, .int 2], .none], .tuple [.list [.int 1, .int 2], .tuple [.str "size", .int 2]], .tuple [.list [.int 0], .tuple [.str "echo", .int 0]], .tuple [.list [.int 1001], .tuple [.str "echo", .int 0]], .tuple [.list [.int 2, .int 1, .int 3], .tuple [.str "echo", .int 1]], .tuple [.list (List.replicate 22 (.int 1)), .tuple [.str "size", .int 22]]]), .sh (.int j), .sh (.int (10 + 8 * (j : Int))), s_k, s_kept, s_here, s_last, .sh (T10 i_corners_due), .sh (T11 i_corners_due), .sh (T18 i_told_odd), .sh (T19 i_told_odd), s_many, s_most, .no] = .ok (.d (tab L21 i)) [.sh (dI ns), .sh (dI ds), .sh (.list [.tuple [.list [.int 0], .none], .tuple [.list [.int 0, .int 5], .none], .tuple [.list [.int 0, .int 1, .int 1000], .none], .tuple [.list [], .tuple [.str "size", .int 0]], .tuple [.list [.int 0, .int 1, .int 2, .int 3, .int 4, .int 5, .int 6, .int 7], .tuple [.str "size", .int 8]], .tuple [.list [.int 1, .int 2], .tuple [.str "corner", .int 0]], .tuple [.list [.int 0, .int 2, .int 2], .tuple [.str "corner", .int 2]], .tuple [.list [.int 0, .int 5, .int 3], .tuple [.str "corner", .int 2]], .tuple [.list [.int 0, .int 1001], .tuple [.str "corner", .int 1]], .tuple [.list [.int (-1), .int 0], .tuple [.str "corner", .int 0]]]), .sh (.list [.tuple [.list [], .none], .tuple [.list [.int 7], .none], .tuple [.list [.int 1, .int 1, .int 2], .none], .tuple [.list [.int 1, .int 2], .tuple [.str "size", .int 2]], .tuple [.list [.int 0], .tuple [.str "echo", .int 0]], .tuple [.list [.int 1001], .tuple [.str "echo", .int 0]], .tuple [.list [.int 2, .int 1, .int 3], .tuple [.str "echo", .int 1]], .tuple [.list (List.replicate 22 (.int 1)), .tuple [.str "size", .int 22]]]), .sh (.int j), .sh (.int (10 + 8 * (j : Int))), s_k, s_kept, s_here, s_last, .sh (T10 i_corners_due), .sh (T11 i_corners_due), .sh (T18 i_told_odd), .sh (T19 i_told_odd), s_many, s_most, .no] := by
    obtain ⟨j24, p25b, p25⟩ := mixE drawn hd (k := 59) (j := 1) (e := [.sh (dI ns), .sh (dI ds), .sh (.list [.tuple [.list [.int 0], .none], .tuple [.list [.int 0, .int 5], .none], .tuple [.list [.int 0, .int 1, .int 1000], .none], .tuple [.list [], .tuple [.str "size", .int 0]], .tuple [.list [.int 0, .int 1, .int 2, .int 3, .int 4, .int 5, .int 6, .int 7], .tuple [.str "size", .int 8]], .tuple [.list [.int 1, .int 2], .tuple [.str "corner", .int 0]], .tuple [.list [.int 0, .int 2, .int 2], .tuple [.str "corner", .int 2]], .tuple [.list [.int 0, .int 5, .int 3], .tuple [.str "corner", .int 2]], .tuple [.list [.int 0, .int 1001], .tuple [.str "corner", .int 1]], .tuple [.list [.int (-1), .int 0], .tuple [.str "corner", .int 0]]]), .sh (.list [.tuple [.list [], .none], .tuple [.list [.int 7], .none], .tuple [.list [.int 1, .int 1, .int 2], .none], .tuple [.list [.int 1, .int 2], .tuple [.str "size", .int 2]], .tuple [.list [.int 0], .tuple [.str "echo", .int 0]], .tuple [.list [.int 1001], .tuple [.str "echo", .int 0]], .tuple [.list [.int 2, .int 1, .int 3], .tuple [.str "echo", .int 1]], .tuple [.list (List.replicate 22 (.int 1)), .tuple [.str "size", .int 22]]]), .sh (.int j), .sh (.int (10 + 8 * (j : Int))), s_k, s_kept, s_here, s_last, .sh (T10 i_corners_due), .sh (T11 i_corners_due), .sh (T18 i_told_odd), .sh (T19 i_told_odd), s_many, s_most, .no]) (a := (.bin .add (.var 5) (.lit (.int 3)))) (b := (.lit (.int 5))) (x := ((10 + 8 * (j : Int)) + 3)) (many := 5) rfl rfl rfl (by omega) (by omega) (by omega)
    exact ⟨j24, by omega, ix_of (x := .list L21) (p23 Mk (.sh (dI ns)) (.sh (dI ds)) (.sh (.list [.tuple [.list [.int 0], .none], .tuple [.list [.int 0, .int 5], .none], .tuple [.list [.int 0, .int 1, .int 1000], .none], .tuple [.list [], .tuple [.str "size", .int 0]], .tuple [.list [.int 0, .int 1, .int 2, .int 3, .int 4, .int 5, .int 6, .int 7], .tuple [.str "size", .int 8]], .tuple [.list [.int 1, .int 2], .tuple [.str "corner", .int 0]], .tuple [.list [.int 0, .int 2, .int 2], .tuple [.str "corner", .int 2]], .tuple [.list [.int 0, .int 5, .int 3], .tuple [.str "corner", .int 2]], .tuple [.list [.int 0, .int 1001], .tuple [.str "corner", .int 1]], .tuple [.list [.int (-1), .int 0], .tuple [.str "corner", .int 0]]])) (.sh (.list [.tuple [.list [], .none], .tuple [.list [.int 7], .none], .tuple [.list [.int 1, .int 1, .int 2], .none], .tuple [.list [.int 1, .int 2], .tuple [.str "size", .int 2]], .tuple [.list [.int 0], .tuple [.str "echo", .int 0]], .tuple [.list [.int 1001], .tuple [.str "echo", .int 0]], .tuple [.list [.int 2, .int 1, .int 3], .tuple [.str "echo", .int 1]], .tuple [.list (List.replicate 22 (.int 1)), .tuple [.str "size", .int 22]]])) (.sh (.int j)) (.sh (.int (10 + 8 * (j : Int)))) (s_k) (s_kept) (s_here) (s_last) (.sh (T10 i_corners_due)) (.sh (T11 i_corners_due)) (.sh (T18 i_told_odd)) (.sh (T19 i_told_odd)) (s_many) (s_most)) p25 rfl (ix_nat (tab_get (show _ < 5 by omega)))⟩
  obtain ⟨i_many, h_i_many, p27⟩ : ∃ i : Nat, i < 5 ∧ ev Mk (.ix (.lst (.cons (.lit (.int 1)) (.cons (.lit (.int 3)) (.cons (.lit (.int 6)) (.cons (.lit (.int 0)) (.cons (.lit (.int 7)) .nil)))))) (.call 17 (.cons (.var 1) (.cons (.bin .add (.var 5) (.lit (.int 4))) (.cons (.lit (.int 5)) .nil))))) [.sh (dI ns), .sh (dI ds), .sh (.list [.tuple [.list [.int 0], .none], .tuple [.list [.int 0, .int 5], .none], .tuple [.list [.int 0, .int 1, .int 1000], .none], .tuple [.list [], .tuple [.str "size", .int 0]], .tuple [.list [.int 0, .int 1, .int 2, .int 3, .int 4, .int 5, .int 6, .int 7], .tuple [.str "size", .int 8]], .tuple [.list [.int 1, .int 2], .tuple [.str "corner", .int 0]], .tuple [.list [.int 0, .int 2, .int 2], .tuple [.str "corner", .int 2]], .tuple [.list [.int 0, .int 5, .int 3], .tuple [.str "corner", .int 2]], .tuple [.list [.int 0, .int 1001], .tuple [.str "corner", .int 1]], .tuple [.list [.int (-1), .int 0], .tuple [.str "corner", .int 0]]]), .sh (.list [.tuple [.list [], .none], .tuple [.list [.int 7], .none], .tuple [.list [.int 1, .int 1, .int 2], .none], .tuple [.list [.int 1, .int 2], .tuple [.str "size", .int 2]], .tuple [.list [.int 0], .tuple [.str "echo", .int 0]], .tuple [.list [.int 1001], .tuple [.str "echo", .int 0]], .tuple [.list [.int 2, .int 1, .int 3], .tuple [.str "echo", .int 1]], .tuple [.list (List.replicate 22 (.int 1)), .tuple [.str "size", .int 22]]]), .sh (.int j), .sh (.int (10 + 8 * (j : Int))), .sh (tab L21 i_k), s_kept, s_here, s_last, .sh (T10 i_corners_due), .sh (T11 i_corners_due), .sh (T18 i_told_odd), .sh (T19 i_told_odd), s_many, s_most, .no] = .ok (.d (tab L26 i)) [.sh (dI ns), .sh (dI ds), .sh (.list [.tuple [.list [.int 0], .none], .tuple [.list [.int 0, .int 5], .none], .tuple [.list [.int 0, .int 1, .int 1000], .none], .tuple [.list [], .tuple [.str "size", .int 0]], .tuple [.list [.int 0, .int 1, .int 2, .int 3, .int 4, .int 5, .int 6, .int 7], .tuple [.str "size", .int 8]], .tuple [.list [.int 1, .int 2], .tuple [.str "corner", .int 0]], .tuple [.list [.int 0, .int 2, .int 2], .tuple [.str "corner", .int 2]], .tuple [.list [.int 0, .int 5, .int 3], .tuple [.str "corner", .int 2]], .tuple [.list [.int 0, .int 1001], .tuple [.str "corner", .int 1]], .tuple [.list [.int (-1), .int 0], .tuple [.str "corner", .int 0]]]), .sh (.list [.tuple [.list [], .none], .tuple [.list [.int 7], .none], .tuple [.list [.int 1, .int 1, .int 2], .none], .tuple [.list [.int 1, .int 2], .tuple [.str "size", .int 2]], .tuple [.list [.int 0], .tuple [.str "echo", .int 0]], .tuple [.list [.int 1001], .tuple [.str "echo", .int 0]], .tuple [.list [.int 2, .int 1, .int 3], .tuple [.str "echo", .int 1]], .tuple [.list (List.replicate 22 (.int 1)), .tuple [.str "size", .int 22]]]), .sh (.int j), .sh (.int (10 + 8 * (j : Int))), .sh (tab L21 i_k), s_kept, s_here, s_last, .sh (T10 i_corners_due), .sh (T11 i_corners_due), .sh (T18 i_told_odd), .sh (T19 i_told_odd), s_many, s_most, .no] := by
    obtain ⟨j29, p30b, p30⟩ := mixE drawn hd (k := 59) (j := 1) (e := [.sh (dI ns), .sh (dI ds), .sh (.list [.tuple [.list [.int 0], .none], .tuple [.list [.int 0, .int 5], .none], .tuple [.list [.int 0, .int 1, .int 1000], .none], .tuple [.list [], .tuple [.str "size", .int 0]], .tuple [.list [.int 0, .int 1, .int 2, .int 3, .int 4, .int 5, .int 6, .int 7], .tuple [.str "size", .int 8]], .tuple [.list [.int 1, .int 2], .tuple [.str "corner", .int 0]], .tuple [.list [.int 0, .int 2, .int 2], .tuple [.str "corner", .int 2]], .tuple [.list [.int 0, .int 5, .int 3], .tuple [.str "corner", .int 2]], .tuple [.list [.int 0, .int 1001], .tuple [.str "corner", .int 1]], .tuple [.list [.int (-1), .int 0], .tuple [.str "corner", .int 0]]]), .sh (.list [.tuple [.list [], .none], .tuple [.list [.int 7], .none], .tuple [.list [.int 1, .int 1, .int 2], .none], .tuple [.list [.int 1, .int 2], .tuple [.str "size", .int 2]], .tuple [.list [.int 0], .tuple [.str "echo", .int 0]], .tuple [.list [.int 1001], .tuple [.str "echo", .int 0]], .tuple [.list [.int 2, .int 1, .int 3], .tuple [.str "echo", .int 1]], .tuple [.list (List.replicate 22 (.int 1)), .tuple [.str "size", .int 22]]]), .sh (.int j), .sh (.int (10 + 8 * (j : Int))), .sh (tab L21 i_k), s_kept, s_here, s_last, .sh (T10 i_corners_due), .sh (T11 i_corners_due), .sh (T18 i_told_odd), .sh (T19 i_told_odd), s_many, s_most, .no]) (a := (.bin .add (.var 5) (.lit (.int 4)))) (b := (.lit (.int 5))) (x := ((10 + 8 * (j : Int)) + 4)) (many := 5) rfl rfl rfl (by omega) (by omega) (by omega)
    exact ⟨j29, by omega, ix_of (x := .list L26) (p28 Mk (.sh (dI ns)) (.sh (dI ds)) (.sh (.list [.tuple [.list [.int 0], .none], .tuple [.list [.int 0, .int 5], .none], .tuple [.list [.int 0, .int 1, .int 1000], .none], .tuple [.list [], .tuple [.str "size", .int 0]], .tuple [.list [.int 0, .int 1, .int 2, .int 3, .int 4, .int 5, .int 6, .int 7], .tuple [.str "size", .int 8]], .tuple [.list [.int 1, .int 2], .tuple [.str "corner", .int 0]], .tuple [.list [.int 0, .int 2, .int 2], .tuple [.str "corner", .int 2]], .tuple [.list [.int 0, .int 5, .int 3], .tuple [.str "corner", .int 2]], .tuple [.list [.int 0, .int 1001], .tuple [.str "corner", .int 1]], .tuple [.list [.int (-1), .int 0], .tuple [.str "corner", .int 0]]])) (.sh (.list [.tuple [.list [], .none], .tuple [.list [.int 7], .none], .tuple [.list [.int 1, .int 1, .int 2], .none], .tuple [.list [.int 1, .int 2], .tuple [.str "size", .int 2]], .tuple [.list [.int 0], .tuple [.str "echo", .int 0]], .tuple [.list [.int 1001], .tuple [.str "echo", .int 0]], .tuple [.list [.int 2, .int 1, .int 3], .tuple [.str "echo", .int 1]], .tuple [.list (List.replicate 22 (.int 1)), .tuple [.str "size", .int 22]]])) (.sh (.int j)) (.sh (.int (10 + 8 * (j : Int)))) (.sh (tab L21 i_k)) (s_kept) (s_here) (s_last) (.sh (T10 i_corners_due)) (.sh (T11 i_corners_due)) (.sh (T18 i_told_odd)) (.sh (T19 i_told_odd)) (s_many) (s_most)) p30 rfl (ix_nat (tab_get (show _ < 5 by omega)))⟩
  obtain ⟨i_most, h_i_most, p32⟩ : ∃ i : Nat, i < 5 ∧ ev Mk (.ix (.lst (.cons (.lit (.int 1)) (.cons (.lit (.int 4)) (.cons (.lit (.int 0)) (.cons (.lit (.int 13)) (.cons (.lit (.int 7)) .nil)))))) (.call 17 (.cons (.var 1) (.cons (.bin .add (.var 5) (.lit (.int 5))) (.cons (.lit (.int 5)) .nil))))) [.sh (dI ns), .sh (dI ds), .sh (.list [.tuple [.list [.int 0], .none], .tuple [.list [.int 0, .int 5], .none], .tuple [.list [.int 0, .int 1, .int 1000], .none], .tuple [.list [], .tuple [.str "size", .int 0]], .tuple [.list [.int 0, .int 1, .int 2, .int 3, .int 4, .int 5, .int 6, .int 7], .tuple [.str "size", .int 8]], .tuple [.list [.int 1, .int 2], .tuple [.str "corner", .int 0]], .tuple [.list [.int 0, .int 2, .int 2], .tuple [.str "corner", .int 2]], .tuple [.list [.int 0, .int 5, .int 3], .tuple [.str "corner", .int 2]], .tuple [.list [.int 0, .int 1001], .tuple [.str "corner", .int 1]], .tuple [.list [.int (-1), .int 0], .tuple [.str "corner", .int 0]]]), .sh (.list [.tuple [.list [], .none], .tuple [.list [.int 7], .none], .tuple [.list [.int 1, .int 1, .int 2], .none], .tuple [.list [.int 1, .int 2], .tuple [.str "size", .int 2]], .tuple [.list [.int 0], .tuple [.str "echo", .int 0]], .tuple [.list [.int 1001], .tuple [.str "echo", .int 0]], .tuple [.list [.int 2, .int 1, .int 3], .tuple [.str "echo", .int 1]], .tuple [.list (List.replicate 22 (.int 1)), .tuple [.str "size", .int 22]]]), .sh (.int j), .sh (.int (10 + 8 * (j : Int))), .sh (tab L21 i_k), s_kept, s_here, s_last, .sh (T10 i_corners_due), .sh (T11 i_corners_due), .sh (T18 i_told_odd), .sh (T19 i_told_odd), s_many, s_most, .no] = .ok (.d (tab L31 i)) [.sh (dI ns), .sh (dI ds), .sh (.list [.tuple [.list [.int 0], .none], .tuple [.list [.int 0, .int 5], .none], .tuple [.list [.int 0, .int 1, .int 1000], .none], .tuple [.list [], .tuple [.str "size", .int 0]], .tuple [.list [.int 0, .int 1, .int 2, .int 3, .int 4, .int 5, .int 6, .int 7], .tuple [.str "size", .int 8]], .tuple [.list [.int 1, .int 2], .tuple [.str "corner", .int 0]], .tuple [.list [.int 0, .int 2, .int 2], .tuple [.str "corner", .int 2]], .tuple [.list [.int 0, .int 5, .int 3], .tuple [.str "corner", .int 2]], .tuple [.list [.int 0, .int 1001], .tuple [.str "corner", .int 1]], .tuple [.list [.int (-1), .int 0], .tuple [.str "corner", .int 0]]]), .sh (.list [.tuple [.list [], .none], .tuple [.list [.int 7], .none], .tuple [.list [.int 1, .int 1, .int 2], .none], .tuple [.list [.int 1, .int 2], .tuple [.str "size", .int 2]], .tuple [.list [.int 0], .tuple [.str "echo", .int 0]], .tuple [.list [.int 1001], .tuple [.str "echo", .int 0]], .tuple [.list [.int 2, .int 1, .int 3], .tuple [.str "echo", .int 1]], .tuple [.list (List.replicate 22 (.int 1)), .tuple [.str "size", .int 22]]]), .sh (.int j), .sh (.int (10 + 8 * (j : Int))), .sh (tab L21 i_k), s_kept, s_here, s_last, .sh (T10 i_corners_due), .sh (T11 i_corners_due), .sh (T18 i_told_odd), .sh (T19 i_told_odd), s_many, s_most, .no] := by
    obtain ⟨j34, p35b, p35⟩ := mixE drawn hd (k := 59) (j := 1) (e := [.sh (dI ns), .sh (dI ds), .sh (.list [.tuple [.list [.int 0], .none], .tuple [.list [.int 0, .int 5], .none], .tuple [.list [.int 0, .int 1, .int 1000], .none], .tuple [.list [], .tuple [.str "size", .int 0]], .tuple [.list [.int 0, .int 1, .int 2, .int 3, .int 4, .int 5, .int 6, .int 7], .tuple [.str "size", .int 8]], .tuple [.list [.int 1, .int 2], .tuple [.str "corner", .int 0]], .tuple [.list [.int 0, .int 2, .int 2], .tuple [.str "corner", .int 2]], .tuple [.list [.int 0, .int 5, .int 3], .tuple [.str "corner", .int 2]], .tuple [.list [.int 0, .int 1001], .tuple [.str "corner", .int 1]], .tuple [.list [.int (-1), .int 0], .tuple [.str "corner", .int 0]]]), .sh (.list [.tuple [.list [], .none], .tuple [.list [.int 7], .none], .tuple [.list [.int 1, .int 1, .int 2], .none], .tuple [.list [.int 1, .int 2], .tuple [.str "size", .int 2]], .tuple [.list [.int 0], .tuple [.str "echo", .int 0]], .tuple [.list [.int 1001], .tuple [.str "echo", .int 0]], .tuple [.list [.int 2, .int 1, .int 3], .tuple [.str "echo", .int 1]], .tuple [.list (List.replicate 22 (.int 1)), .tuple [.str "size", .int 22]]]), .sh (.int j), .sh (.int (10 + 8 * (j : Int))), .sh (tab L21 i_k), s_kept, s_here, s_last, .sh (T10 i_corners_due), .sh (T11 i_corners_due), .sh (T18 i_told_odd), .sh (T19 i_told_odd), s_many, s_most, .no]) (a := (.bin .add (.var 5) (.lit (.int 5)))) (b := (.lit (.int 5))) (x := ((10 + 8 * (j : Int)) + 5)) (many := 5) rfl rfl rfl (by omega) (by omega) (by omega)
    exact ⟨j34, by omega, ix_of (x := .list L31) (p33 Mk (.sh (dI ns)) (.sh (dI ds)) (.sh (.list [.tuple [.list [.int 0], .none], .tuple [.list [.int 0, .int 5], .none], .tuple [.list [.int 0, .int 1, .int 1000], .none], .tuple [.list [], .tuple [.str "size", .int 0]], .tuple [.list [.int 0, .int 1, .int 2, .int 3, .int 4, .int 5, .int 6, .int 7], .tuple [.str "size", .int 8]], .tuple [.list [.int 1, .int 2], .tuple [.str "corner", .int 0]], .tuple [.list [.int 0, .int 2, .int 2], .tuple [.str "corner", .int 2]], .tuple [.list [.int 0, .int 5, .int 3], .tuple [.str "corner", .int 2]], .tuple [.list [.int 0, .int 1001], .tuple [.str "corner", .int 1]], .tuple [.list [.int (-1), .int 0], .tuple [.str "corner", .int 0]]])) (.sh (.list [.tuple [.list [], .none], .tuple [.list [.int 7], .none], .tuple [.list [.int 1, .int 1, .int 2], .none], .tuple [.list [.int 1, .int 2], .tuple [.str "size", .int 2]], .tuple [.list [.int 0], .tuple [.str "echo", .int 0]], .tuple [.list [.int 1001], .tuple [.str "echo", .int 0]], .tuple [.list [.int 2, .int 1, .int 3], .tuple [.str "echo", .int 1]], .tuple [.list (List.replicate 22 (.int 1)), .tuple [.str "size", .int 22]]])) (.sh (.int j)) (.sh (.int (10 + 8 * (j : Int)))) (.sh (tab L21 i_k)) (s_kept) (s_here) (s_last) (.sh (T10 i_corners_due)) (.sh (T11 i_corners_due)) (.sh (T18 i_told_odd)) (.sh (T19 i_told_odd)) (s_many) (s_most)) p35 rfl (ix_nat (tab_get (show _ < 5 by omega)))⟩
  have p50 : ev Mk (.lc [16] (.nm 16) (.itR (.cons (.lit (.int 7)) .nil)) .tt (.call 18 (.cons (.var 16) (.cons (.var 10) (.cons (.var 6) (.cons (.var 12) (.cons (.var 14) (.cons (.var 15) .nil)))))))) [.sh (dI ns), .sh (dI ds), .sh (.list [.tuple [.list [.int 0], .none], .tuple [.list [.int 0, .int 5], .none], .tuple [.list [.int 0, .int 1, .int 1000], .none], .tuple [.list [], .tuple [.str "size", .int 0]], .tuple [.list [.int 0, .int 1, .int 2, .int 3, .int 4, .int 5, .int 6, .int 7], .tuple [.str "size", .int 8]], .tuple [.list [.int 1, .int 2], .tuple [.str "corner", .int 0]], .tuple [.list [.int 0, .int 2, .int 2], .tuple [.str "corner", .int 2]], .tuple [.list [.int 0, .int 5, .int 3], .tuple [.str "corner", .int 2]], .tuple [.list [.int 0, .int 1001], .tuple [.str "corner", .int 1]], .tuple [.list [.int (-1), .int 0], .tuple [.str "corner", .int 0]]]), .sh (.list [.tuple [.list [], .none], .tuple [.list [.int 7], .none], .tuple [.list [.int 1, .int 1, .int 2], .none], .tuple [.list [.int 1, .int 2], .tuple [.str "size", .int 2]], .tuple [.list [.int 0], .tuple [.str "echo", .int 0]], .tuple [.list [.int 1001], .tuple [.str "echo", .int 0]], .tuple [.list [.int 2, .int 1, .int 3], .tuple [.str "echo", .int 1]], .tuple [.list (List.replicate 22 (.int 1)), .tuple [.str "size", .int 22]]]), .sh (.int j), .sh (.int (10 + 8 * (j : Int))), .sh (tab L21 i_k), .sh (.str (PyData.shown (.tuple [(T10 i_corners_due), (T18 i_told_odd)]))), .sh (T38 i_k i_corners_due), .sh (T40 i_many i_most), .sh (T10 i_corners_due), .sh (T11 i_corners_due), .sh (T18 i_told_odd), .sh (T19 i_told_odd), .sh (tab L26 i_many), .sh (tab L31 i_most), .no] = .ok (.o (.list [(T11 i_corners_due), (T11 i_corners_due), (T11 i_corners_due), (T38 i_k i_corners_due), (orD (T11 i_corners_due) (T19 i_told_odd)), (T19 i_told_odd), (T40 i_many i_most)])) [.sh (dI ns), .sh (dI ds), .sh (.list [.tuple [.list [.int 0], .none], .tuple [.list [.int 0, .int 5], .none], .tuple [.list [.int 0, .int 1, .int 1000], .none], .tuple [.list [], .tuple [.str "size", .int 0]], .tuple [.list [.int 0, .int 1, .int 2, .int 3, .int 4, .int 5, .int 6, .int 7], .tuple [.str "size", .int 8]], .tuple [.list [.int 1, .int 2], .tuple [.str "corner", .int 0]], .tuple [.list [.int 0, .int 2, .int 2], .tuple [.str "corner", .int 2]], .tuple [.list [.int 0, .int 5, .int 3], .tuple [.str "corner", .int 2]], .tuple [.list [.int 0, .int 1001], .tuple [.str "corner", .int 1]], .tuple [.list [.int (-1), .int 0], .tuple [.str "corner", .int 0]]]), .sh (.list [.tuple [.list [], .none], .tuple [.list [.int 7], .none], .tuple [.list [.int 1, .int 1, .int 2], .none], .tuple [.list [.int 1, .int 2], .tuple [.str "size", .int 2]], .tuple [.list [.int 0], .tuple [.str "echo", .int 0]], .tuple [.list [.int 1001], .tuple [.str "echo", .int 0]], .tuple [.list [.int 2, .int 1, .int 3], .tuple [.str "echo", .int 1]], .tuple [.list (List.replicate 22 (.int 1)), .tuple [.str "size", .int 22]]]), .sh (.int j), .sh (.int (10 + 8 * (j : Int))), .sh (tab L21 i_k), .sh (.str (PyData.shown (.tuple [(T10 i_corners_due), (T18 i_told_odd)]))), .sh (T38 i_k i_corners_due), .sh (T40 i_many i_most), .sh (T10 i_corners_due), .sh (T11 i_corners_due), .sh (T18 i_told_odd), .sh (T19 i_told_odd), .sh (tab L26 i_many), .sh (tab L31 i_most), .no] := lcR_of (n := 7) (fun w => tab [(T11 i_corners_due), (T11 i_corners_due), (T11 i_corners_due), (T38 i_k i_corners_due), (orD (T11 i_corners_due) (T19 i_told_odd)), (T19 i_told_odd), (T40 i_many i_most)] w) (show 16 < 17 by decide) rfl (by decide) rfl fun w hw => match w, hw with
    | 0, _ => ⟨.d (T11 i_corners_due), call_of (xs := [.int 0, (T10 i_corners_due), (tab L21 i_k), (T18 i_told_odd), (tab L26 i_many), (tab L31 i_most)]) rfl rfl (w43 ((tab L21 i_k)) ((T18 i_told_odd)) ((tab L26 i_many)) ((tab L31 i_most)) i_corners_due h_i_corners_due) (fun i z => by cases z), rfl⟩
    | 1, _ => ⟨.d (T11 i_corners_due), call_of (xs := [.int 1, (T10 i_corners_due), (tab L21 i_k), (T18 i_told_odd), (tab L26 i_many), (tab L31 i_most)]) rfl rfl (w44 ((tab L21 i_k)) ((T18 i_told_odd)) ((tab L26 i_many)) ((tab L31 i_most)) i_corners_due h_i_corners_due) (fun i z => by cases z), rfl⟩
    | 2, _ => ⟨.d (T11 i_corners_due), call_of (xs := [.int 2, (T10 i_corners_due), (tab L21 i_k), (T18 i_told_odd), (tab L26 i_many), (tab L31 i_most)]) rfl rfl (w45 ((tab L21 i_k)) ((T18 i_told_odd)) ((tab L26 i_many)) ((tab L31 i_most)) i_corners_due h_i_corners_due) (fun i z => by cases z), rfl⟩
    | 3, _ => ⟨.d (T38 i_k i_corners_due), call_of (xs := [.int 3, (T10 i_corners_due), (tab L21 i_k), (T18 i_told_odd), (tab L26 i_many), (tab L31 i_most)]) rfl rfl (w46 ((T18 i_told_odd)) ((tab L26 i_many)) ((tab L31 i_most)) i_k h_i_k i_corners_due h_i_corners_due) (fun i z => by cases z), rfl⟩
    | 4, _ => ⟨.d (orD (T11 i_corners_due) (T19 i_told_odd)), call_of (xs := [.int 4, (T10 i_corners_due), (tab L21 i_k), (T18 i_told_odd), (tab L26 i_many), (tab L31 i_most)]) rfl rfl (w47 ((tab L21 i_k)) ((tab L26 i_many)) ((tab L31 i_most)) i_corners_due h_i_corners_due i_told_odd h_i_told_odd) (fun i z => by cases z), rfl⟩
    | 5, _ => ⟨.d (T19 i_told_odd), call_of (xs := [.int 5, (T10 i_corners_due), (tab L21 i_k), (T18 i_told_odd), (tab L26 i_many), (tab L31 i_most)]) rfl rfl (w48 ((T10 i_corners_due)) ((tab L21 i_k)) ((tab L26 i_many)) ((tab L31 i_most)) i_told_odd h_i_told_odd) (fun i z => by cases z), rfl⟩
    | 6, _ => ⟨.d (T40 i_many i_most), call_of (xs := [.int 6, (T10 i_corners_due), (tab L21 i_k), (T18 i_told_odd), (tab L26 i_many), (tab L31 i_most)]) rfl rfl (w49 ((T10 i_corners_due)) ((tab L21 i_k)) ((T18 i_told_odd)) i_many h_i_many i_most h_i_most) (fun i z => by cases z), rfl⟩
  exact ⟨.sh (.int (10 + 8 * (j : Int))), .sh (tab L21 i_k), .sh (.str (PyData.shown (.tuple [(T10 i_corners_due), (T18 i_told_odd)]))), .sh (T38 i_k i_corners_due), .sh (T40 i_many i_most), .sh (T10 i_corners_due), .sh (T11 i_corners_due), .sh (T18 i_told_odd), .sh (T19 i_told_odd), .sh (tab L26 i_many), .sh (tab L31 i_most), ⟨trivial, trivial, trivial, trivial, trivial, trivial, trivial, trivial, trivial, trivial, trivial⟩, 
    seq_eq (set_of (bin_of rfl (bin_of (x := .int 8) (y := .int j) rfl rfl (mul_ev (by decide) (big200 (by omega)))) rfl) (freeS_sh h_at _ 5 rfl) rfl) <|
    seq_eq (setT2_of (p2.trans (congrArg (fun z => R.ok (.d z) _) (p12 i_corners_due h_i_corners_due))) rfl (freeS_sh h_corners _ 10 rfl) (freeS_sh h_due _ 11 rfl) rfl) <|
    seq_eq (setT2_of (p14.trans (congrArg (fun z => R.ok (.d z) _) (p20 i_told_odd h_i_told_odd))) rfl (freeS_sh h_told _ 12 rfl) (freeS_sh h_odd _ 13 rfl) rfl) <|
    seq_eq (set_of p22 (freeS_sh h_k _ 6 rfl) rfl) <|
    seq_eq (setT2_of (tup_of (cons_of p27 (cons_of p32 rfl)) rfl rfl) rfl (freeS_sh h_many _ 14 rfl) (freeS_sh h_most _ 15 rfl) rfl) <|
    seq_eq (set_of (reprX_of (x := (.tuple [(T10 i_corners_due), (T18 i_told_odd)])) rfl rfl rfl (show_tup (xs := [(T10 i_corners_due), (T18 i_told_odd)]) (by simp only [List.all_cons, List.all_nil, Bool.and_true, (r36 i_corners_due h_i_corners_due), (r37 i_told_odd h_i_told_odd)]) (Nat.le_of_ble_eq_true rfl))) (freeS_sh h_kept _ 7 rfl) rfl) <|
    seq_eq (setV_of (p39 Mk (.sh (dI ns)) (.sh (dI ds)) (.sh (.list [.tuple [.list [.int 0], .none], .tuple [.list [.int 0, .int 5], .none], .tuple [.list [.int 0, .int 1, .int 1000], .none], .tuple [.list [], .tuple [.str "size", .int 0]], .tuple [.list [.int 0, .int 1, .int 2, .int 3, .int 4, .int 5, .int 6, .int 7], .tuple [.str "size", .int 8]], .tuple [.list [.int 1, .int 2], .tuple [.str "corner", .int 0]], .tuple [.list [.int 0, .int 2, .int 2], .tuple [.str "corner", .int 2]], .tuple [.list [.int 0, .int 5, .int 3], .tuple [.str "corner", .int 2]], .tuple [.list [.int 0, .int 1001], .tuple [.str "corner", .int 1]], .tuple [.list [.int (-1), .int 0], .tuple [.str "corner", .int 0]]])) (.sh (.list [.tuple [.list [], .none], .tuple [.list [.int 7], .none], .tuple [.list [.int 1, .int 1, .int 2], .none], .tuple [.list [.int 1, .int 2], .tuple [.str "size", .int 2]], .tuple [.list [.int 0], .tuple [.str "echo", .int 0]], .tuple [.list [.int 1001], .tuple [.str "echo", .int 0]], .tuple [.list [.int 2, .int 1, .int 3], .tuple [.str "echo", .int 1]], .tuple [.list (List.replicate 22 (.int 1)), .tuple [.str "size", .int 22]]])) (.sh (.int j)) (.sh (.int (10 + 8 * (j : Int)))) (.sh (.str (PyData.shown (.tuple [(T10 i_corners_due), (T18 i_told_odd)])))) (s_here) (s_last) (.sh (T18 i_told_odd)) (.sh (T19 i_told_odd)) (.sh (tab L26 i_many)) (.sh (tab L31 i_most)) i_k h_i_k i_corners_due h_i_corners_due) rfl rfl (freeS_sh h_here _ 8 rfl) rfl) <|
    seq_eq (setV_of (p41 Mk (.sh (dI ns)) (.sh (dI ds)) (.sh (.list [.tuple [.list [.int 0], .none], .tuple [.list [.int 0, .int 5], .none], .tuple [.list [.int 0, .int 1, .int 1000], .none], .tuple [.list [], .tuple [.str "size", .int 0]], .tuple [.list [.int 0, .int 1, .int 2, .int 3, .int 4, .int 5, .int 6, .int 7], .tuple [.str "size", .int 8]], .tuple [.list [.int 1, .int 2], .tuple [.str "corner", .int 0]], .tuple [.list [.int 0, .int 2, .int 2], .tuple [.str "corner", .int 2]], .tuple [.list [.int 0, .int 5, .int 3], .tuple [.str "corner", .int 2]], .tuple [.list [.int 0, .int 1001], .tuple [.str "corner", .int 1]], .tuple [.list [.int (-1), .int 0], .tuple [.str "corner", .int 0]]])) (.sh (.list [.tuple [.list [], .none], .tuple [.list [.int 7], .none], .tuple [.list [.int 1, .int 1, .int 2], .none], .tuple [.list [.int 1, .int 2], .tuple [.str "size", .int 2]], .tuple [.list [.int 0], .tuple [.str "echo", .int 0]], .tuple [.list [.int 1001], .tuple [.str "echo", .int 0]], .tuple [.list [.int 2, .int 1, .int 3], .tuple [.str "echo", .int 1]], .tuple [.list (List.replicate 22 (.int 1)), .tuple [.str "size", .int 22]]])) (.sh (.int j)) (.sh (.int (10 + 8 * (j : Int)))) (.sh (tab L21 i_k)) (.sh (.str (PyData.shown (.tuple [(T10 i_corners_due), (T18 i_told_odd)])))) (.sh (T38 i_k i_corners_due)) (s_last) (.sh (T10 i_corners_due)) (.sh (T11 i_corners_due)) (.sh (T18 i_told_odd)) (.sh (T19 i_told_odd)) i_many h_i_many i_most h_i_most) rfl rfl (freeS_sh h_last _ 9 rfl) rfl) <|
    seq_eq ((iff_f ((orr_f (cmpV_of (x := .list [(T11 i_corners_due), (T11 i_corners_due), (T11 i_corners_due), (T38 i_k i_corners_due), (orD (T11 i_corners_due) (T19 i_told_odd)), (T19 i_told_odd), (T40 i_many i_most)]) (y := .list [(T11 i_corners_due), (T11 i_corners_due), (T11 i_corners_due), (T38 i_k i_corners_due), (orD (T11 i_corners_due) (T19 i_told_odd)), (T19 i_told_odd), (T40 i_many i_most)]) p50 (lst_of (cons_of rfl (cons_of rfl (cons_of rfl (cons_of rfl (cons_of (orr_of rfl rfl (r42 i_corners_due h_i_corners_due)) (cons_of rfl (cons_of rfl rfl))))))) rfl rfl) rfl rfl (ne_same (shp_list (by simp only [List.all_cons, List.all_nil, Bool.and_true, (r51 i_corners_due h_i_corners_due), (r52 i_k h_i_k i_corners_due h_i_corners_due), (repOk_orD (r51 i_corners_due h_i_corners_due) (r53 i_told_odd h_i_told_odd)), (r53 i_told_odd h_i_told_odd), (r54 i_many h_i_many i_most h_i_most)]))))).trans (cmpV_of (x := .str (PyData.shown (.tuple [(T10 i_corners_due), (T18 i_told_odd)]))) (y := .str (PyData.shown (.tuple [(T10 i_corners_due), (T18 i_told_odd)]))) (reprX_of (x := (.tuple [(T10 i_corners_due), (T18 i_told_odd)])) rfl rfl rfl (show_tup (xs := [(T10 i_corners_due), (T18 i_told_odd)]) (by simp only [List.all_cons, List.all_nil, Bool.and_true, (r36 i_corners_due h_i_corners_due), (r37 i_told_odd h_i_told_odd)]) (Nat.le_of_ble_eq_true rfl))) rfl rfl rfl (ne_same (shp_shown (show_tup (xs := [(T10 i_corners_due), (T18 i_told_odd)]) (by simp only [List.all_cons, List.all_nil, Bool.and_true, (r36 i_corners_due h_i_corners_due), (r37 i_told_odd h_i_told_odd)]) (Nat.le_of_ble_eq_true rfl))))))).trans rfl) <|
    rfl⟩
theorem law_ok (ns : List Int) (hn : ns.length ≤ 63) : run lw.G 61 19 [.sh (.list (ns.map PyData.int))] = .ret (.d (.bool true)) [.no] := by
  obtain ⟨ds, hd, dr⟩ := drawn.draws 59 ns
  have p0 : ev Mk (.set 1 false (.call 16 (.cons (.var 0) .nil))) [.sh (dI ns), .no, .no, .no, .no, .no, .no, .no, .no, .no, .no, .no, .no, .no, .no, .no, .no] = .nx [.sh (dI ns), .sh (dI ds), .no, .no, .no, .no, .no, .no, .no, .no, .no, .no, .no, .no, .no, .no, .no] := setV_of (call_of (xs := [dI ns]) rfl rfl dr (fun i z => by cases z)) rfl rfl rfl rfl
  obtain ⟨e2, h1, h2⟩ := forL_inv (t := .nm 4) (fb := ev Mk iTurn) (fun i e => ∃ s_at s_k s_kept s_here s_last s_corners s_due s_told s_odd s_many s_most s_turn : Sl, (isSh s_at ∧ isSh s_k ∧ isSh s_kept ∧ isSh s_here ∧ isSh s_last ∧ isSh s_corners ∧ isSh s_due ∧ isSh s_told ∧ isSh s_odd ∧ isSh s_many ∧ isSh s_most ∧ isSh s_turn) ∧ e = [.sh (dI ns), .sh (dI ds), .sh (.list [.tuple [.list [.int 0], .none], .tuple [.list [.int 0, .int 5], .none], .tuple [.list [.int 0, .int 1, .int 1000], .none], .tuple [.list [], .tuple [.str "size", .int 0]], .tuple [.list [.int 0, .int 1, .int 2, .int 3, .int 4, .int 5, .int 6, .int 7], .tuple [.str "size", .int 8]], .tuple [.list [.int 1, .int 2], .tuple [.str "corner", .int 0]], .tuple [.list [.int 0, .int 2, .int 2], .tuple [.str "corner", .int 2]], .tuple [.list [.int 0, .int 5, .int 3], .tuple [.str "corner", .int 2]], .tuple [.list [.int 0, .int 1001], .tuple [.str "corner", .int 1]], .tuple [.list [.int (-1), .int 0], .tuple [.str "corner", .int 0]]]), .sh (.list [.tuple [.list [], .none], .tuple [.list [.int 7], .none], .tuple [.list [.int 1, .int 1, .int 2], .none], .tuple [.list [.int 1, .int 2], .tuple [.str "size", .int 2]], .tuple [.list [.int 0], .tuple [.str "echo", .int 0]], .tuple [.list [.int 1001], .tuple [.str "echo", .int 0]], .tuple [.list [.int 2, .int 1, .int 3], .tuple [.str "echo", .int 1]], .tuple [.list (List.replicate 22 (.int 1)), .tuple [.str "size", .int 22]]]), s_turn, s_at, s_k, s_kept, s_here, s_last, s_corners, s_due, s_told, s_odd, s_many, s_most, .no]) (upto 0 10) 0 [.sh (dI ns), .sh (dI ds), .sh (.list [.tuple [.list [.int 0], .none], .tuple [.list [.int 0, .int 5], .none], .tuple [.list [.int 0, .int 1, .int 1000], .none], .tuple [.list [], .tuple [.str "size", .int 0]], .tuple [.list [.int 0, .int 1, .int 2, .int 3, .int 4, .int 5, .int 6, .int 7], .tuple [.str "size", .int 8]], .tuple [.list [.int 1, .int 2], .tuple [.str "corner", .int 0]], .tuple [.list [.int 0, .int 2, .int 2], .tuple [.str "corner", .int 2]], .tuple [.list [.int 0, .int 5, .int 3], .tuple [.str "corner", .int 2]], .tuple [.list [.int 0, .int 1001], .tuple [.str "corner", .int 1]], .tuple [.list [.int (-1), .int 0], .tuple [.str "corner", .int 0]]]), .sh (.list [.tuple [.list [], .none], .tuple [.list [.int 7], .none], .tuple [.list [.int 1, .int 1, .int 2], .none], .tuple [.list [.int 1, .int 2], .tuple [.str "size", .int 2]], .tuple [.list [.int 0], .tuple [.str "echo", .int 0]], .tuple [.list [.int 1001], .tuple [.str "echo", .int 0]], .tuple [.list [.int 2, .int 1, .int 3], .tuple [.str "echo", .int 1]], .tuple [.list (List.replicate 22 (.int 1)), .tuple [.str "size", .int 22]]]), .no, .no, .no, .no, .no, .no, .no, .no, .no, .no, .no, .no, .no] ⟨.no, .no, .no, .no, .no, .no, .no, .no, .no, .no, .no, .no, ⟨trivial, trivial, trivial, trivial, trivial, trivial, trivial, trivial, trivial, trivial, trivial, trivial⟩, rfl⟩ fun j x e hj hI => by
    obtain ⟨rfl, hj2⟩ := upto_at 10 0 j x hj
    obtain ⟨s_at, s_k, s_kept, s_here, s_last, s_corners, s_due, s_told, s_odd, s_many, s_most, s_turn, ⟨h_at, h_k, h_kept, h_here, h_last, h_corners, h_due, h_told, h_odd, h_many, h_most, h_turn⟩, rfl⟩ := hI
    obtain ⟨z_at, z_k, z_kept, z_here, z_last, z_corners, z_due, z_told, z_odd, z_many, z_most, ⟨g_at, g_k, g_kept, g_here, g_last, g_corners, g_due, g_told, g_odd, g_many, g_most⟩, q⟩ := turn_ok (ns := ns) hd j hj2 s_at s_k s_kept s_here s_last s_corners s_due s_told s_odd s_many s_most h_at h_k h_kept h_here h_last h_corners h_due h_told h_odd h_many h_most
    exact ⟨_, asg_nm (freeS_sh h_turn _ 4 rfl), _, .inl (by rw [Int.zero_add]; exact q), z_at, z_k, z_kept, z_here, z_last, z_corners, z_due, z_told, z_odd, z_many, z_most, .sh (.int j), ⟨g_at, g_k, g_kept, g_here, g_last, g_corners, g_due, g_told, g_odd, g_many, g_most, trivial⟩, rfl⟩
  obtain ⟨s_at, s_k, s_kept, s_here, s_last, s_corners, s_due, s_told, s_odd, s_many, s_most, s_turn, _, rfl⟩ := h2
  refine (run_def (d := d19) rfl).trans ?_
  refine (congrArg (fin _) (show ev Mk d19.body [.sh (dI ns), .no, .no, .no, .no, .no, .no, .no, .no, .no, .no, .no, .no, .no, .no, .no, .no] = .rt (.d (.bool true)) _ from seq_eq p0 <| seq_eq (pre1 Mk ns ds) <| seq_eq (pre2 Mk ns ds) <| seq_eq (pre3 Mk ns ds) <| seq_eq (fr_of (itR_of rfl rfl) h1) <| seq_rt (ret_of rfl))).trans rfl
def kLaw : Nat := 61
end Ev
end

open PySem PySem.W PyProof.Rows
set_option maxRecDepth 100000 in
set_option maxHeartbeats 0 in
theorem PySem.Challenge.cw_hiddenandsought_k57_errors_of_echoes_holds : PySem.Challenge.rw_hiddenandsought_k57_errors_of_echoes.Holds := by
  w_on; o_law; k_head; (case hw => w_witness2)
  k_fill
  refine Ev.walkL Ev.lw (l := PySem.Challenge.rw_hiddenandsought_k57_errors_of_echoes) (n := 63) (k := 61) (f := 19) rfl (by decide) rfl ⟨rfl, by decide, by decide⟩ (fun w h Y => PySem.W.kIn_of Y) rfl rfl (fun p => ?ok) Ev.law_ok
  case ok => kernel_rfl
