import PyProof.Rows.All
import HandS.ForMost
import HandS.Walk
import HandS.Deep
import HandS.Wide
import HandS.Flow
import HandS.Evl
import HandS.IsInst
import HandS.TupAny
import HandS.Style
import KE.DataEq
import KE.SortData
import KE.GoesNewDict
import KE.DataMinMax
import PyProof.MaxThree
import KE.KDictKeyed
import KE.KDictZip
import KE.KDictItemsList
import HandS.DictTup
import HandS.Conv
import PySem.Challenge.RW_anyhands_k67_whole_bills_beside_tables
set_option Elab.async false
set_option linter.all false
set_option maxRecDepth 100000
/-! KA: what the program's text computes, in plain Lean: data Dt, values Av, environments Rho, and one combinator a construct (no heap, no machine). -/
namespace S67

/-- immutable data -/
inductive Dt where
  | non | bl (b : Bool) | int (i : Int) | str (x : PySem.Str) | tup (ds : List Dt)
/-- a container's standing: new, borrowed and read only, owned by a name, the box -/
inductive Fl where
  | fr | ro | ow | bx
  deriving DecidableEq
/-- a value: data, a list of data, a dict (pairs of ints to ints), the box's list -/
inductive Av where
  | d (x : Dt) | l (k : Fl) (ds : List Dt) | m (k : Fl) (kvs : List ((Int × Int) × Int)) | x (ds : List Dt)
abbrev Rho := List (Option Av)
abbrev SE := Rho → Option Av
abbrev SB := Rho → Option Bool
abbrev SX := Rho → Option (Av × Rho)
abbrev SXB := Rho → Option (Bool × Rho)
abbrev SI := Rho → Option (Bool × List Dt)
abbrev SG := Dt → Rho → Option Rho
inductive Out where
  | nx (r : Rho) | rt (r : Rho) (a : Av)
abbrev SS := Rho → Option Out

abbrev Dt.p (i j : Int) : Dt := .tup [.int i, .int j]
abbrev Av.i (i : Int) : Av := .d (.int i)
abbrev Av.b (b : Bool) : Av := .d (.bl b)

def vInt : Av → Option Int
  | .d (.int i) => some i
  | _ => none
def vBl : Av → Option Bool
  | .d (.bl b) => some b
  | _ => none
def vDat : Av → Option Dt
  | .d x => some x
  | _ => none
/-- the items of a list or a tuple -/
def vSeq : Av → Option (List Dt)
  | .d (.tup ds) => some ds
  | .l _ ds => some ds
  | _ => none
def vInts : List Dt → Option (List Int)
  | [] => some []
  | .int i :: r => (vInts r).map (i :: ·)
  | _ :: _ => none
def vBls : List Dt → Option (List Bool)
  | [] => some []
  | .bl i :: r => (vBls r).map (i :: ·)
  | _ :: _ => none
def vDats : List Av → Option (List Dt)
  | [] => some []
  | .d x :: r => (vDats r).map (x :: ·)
  | _ :: _ => none

/-! ### equality as Python has it -/
mutual
def eqD : Dt → Dt → Bool
  | .non, .non => true
  | .bl a, .bl b => a == b
  | .bl a, .int j => (if a then 1 else 0) == j
  | .int i, .bl b => i == (if b then 1 else 0)
  | .int i, .int j => i == j
  | .str x, .str y => x == y
  | .tup xs, .tup ys => eqDs xs ys
  | _, _ => false
def eqDs : List Dt → List Dt → Bool
  | [], [] => true
  | x :: xs, y :: ys => eqD x y && eqDs xs ys
  | _, _ => false
end
mutual
def dpt : Dt → Nat
  | .tup xs => dpts xs + 1
  | .non | .bl _ | .int _ | .str _ => 0
def dpts : List Dt → Nat
  | [] => 0
  | x :: xs => max (dpt x) (dpts xs)
end
def eqA : Av → Av → Option Bool
  | .d x, .d y => if min (dpt x) (dpt y) ≤ 32 then some (eqD x y) else none
  | .l _ xs, .l _ ys => if min (dpts xs) (dpts ys) ≤ 32 then some (eqDs xs ys) else none
  | _, _ => none

/-! ### expressions -/
def sVar (i : Nat) : SE := fun r => match r[i]? with
  | some (some (.x ds)) => some (.l .bx ds)
  | some (some a) => some a
  | _ => none
def sK (a : Av) : SE := fun _ => some a
def s1 (h : Av → Option Av) (f : SE) : SE := fun r => (f r).bind h
def s2 (h : Av → Av → Option Av) (f g : SE) : SE := fun r => (f r).bind fun a => (g r).bind fun b => h a b
def oI (C : Int → Int → Prop) [∀ i j, Decidable (C i j)] (g : Int → Int → Int) (a b : Av) : Option Av := (vInt a).bind fun i => (vInt b).bind fun j => if C i j then some (.i (g i j)) else none
def oB (g : Int → Int → Bool) (a b : Av) : Option Av := (vInt a).bind fun i => (vInt b).bind fun j => some (.b (g i j))
def oAdd : Av → Av → Option Av
  | .d (.int i), .d (.int j) => some (.i (i + j))
  | .l k xs, .l q ys => if k ≠ .ro ∧ q ≠ .ro ∧ xs.length + ys.length ≤ 1000000 then some (.l .fr (xs ++ ys)) else none
  | _, _ => none
def oSub : Av → Av → Option Av
  | .d (.int i), .d (.int j) => some (.i (i - j))
  | _, _ => none
def mulOk (i j : Int) : Prop := i.natAbs < 2 ^ 64 ∨ j.natAbs < 2 ^ 64 ∨ i.natAbs.log2 + j.natAbs.log2 < 1000000
instance (i j : Int) : Decidable (mulOk i j) := inferInstanceAs (Decidable (_ ∨ _ ∨ _))
def oMul : Av → Av → Option Av
  | .d (.int i), .d (.int j) => if mulOk i j then some (.i (i * j)) else none
  | .l k xs, .d (.int n) => if k ≠ .ro ∧ 0 ≤ n ∧ n ≤ 1000000 ∧ xs.length * n.toNat ≤ 1000000 then some (.l .fr (List.replicate n.toNat xs).flatten) else none
  | _, _ => none
def oMod : Av → Av → Option Av := oI (fun _ j => 0 < j) fun i j => i % j
def oFdiv : Av → Av → Option Av := oI (fun _ j => 0 < j ∧ j.natAbs.log2 < 9000) fun i j => i / j
def oPow : Av → Av → Option Av := oI (fun i j => 0 ≤ j ∧ j ≤ 1000000 ∧ i.natAbs < 2 ^ 64) fun i j => i ^ j.toNat
def oNeg (a : Av) : Option Av := (vInt a).bind fun i => some (.i (-i))
def oLt : Av → Av → Option Av := oB fun i j => decide (i < j)
/-- <, of tuples of ints too -/
def lexLtI : List Int → List Int → Bool
  | [], [] => false
  | [], _ :: _ => true
  | _ :: _, [] => false
  | x :: xs, y :: ys => if x = y then lexLtI xs ys else decide (x < y)
def oLtX : Av → Av → Option Av
  | .d (.int i), .d (.int j) => some (.b (decide (i < j)))
  | .d (.tup xs), .d (.tup ys) => (vInts xs).bind fun ns => (vInts ys).map fun ms => .b (lexLtI ns ms)
  | _, _ => none
def oLe : Av → Av → Option Av := oB fun i j => decide (i ≤ j)
def oGt : Av → Av → Option Av := oB fun i j => decide (j < i)
def oGe : Av → Av → Option Av := oB fun i j => decide (j ≤ i)
def oEq (a b : Av) : Option Av := (eqA a b).map .b
def oNe (a b : Av) : Option Av := (eqA a b).map fun c => .b (!c)
def oIn (a b : Av) : Option Av := (vDat a).bind fun x => (vSeq b).bind fun ys => if dpt x ≤ 32 then some (.b (ys.any fun y => eqD y x)) else none
def oNotIn (a b : Av) : Option Av := (vDat a).bind fun x => (vSeq b).bind fun ys => if dpt x ≤ 32 then some (.b (!ys.any fun y => eqD y x)) else none
def oIsN : Av → Option Av
  | .d .non => some (.b true)
  | .d _ => some (.b false)
  | .l _ _ => some (.b false)
  | _ => none
def oIs (u v : Av) : Option Av := match v with
  | .d .non => oIsN u
  | _ => none
/-- the place of an index, negative ones from behind -/
def ixA (n : Nat) (i : Int) : Option Nat := if 0 ≤ i then (if i < n then some i.toNat else none) else if -(n : Int) ≤ i then some (i + n).toNat else none
def mGet (kvs : List ((Int × Int) × Int)) (k : Int × Int) : Option Int := (kvs.find? fun e => decide (e.1 = k)).map (·.2)
def mPut (kvs : List ((Int × Int) × Int)) (k : Int × Int) (v : Int) : List ((Int × Int) × Int) := if (kvs.any fun e => decide (e.1 = k)) = true then kvs.map fun e => if e.1 = k then (e.1, v) else e else kvs ++ [(k, v)]
/-- a[b] of a list or a tuple; of a dict -/
def oIxS : Av → Av → Option Av
  | .d (.tup xs), .d (.int i) => ((ixA xs.length i).bind fun j => xs[j]?).map .d
  | .l _ xs, .d (.int i) => ((ixA xs.length i).bind fun j => xs[j]?).map .d
  | _, _ => none
def oIxM : Av → Av → Option Av
  | .m _ kvs, .d (.tup [.int i, .int j]) => (mGet kvs (i, j)).map .i
  | _, _ => none
/-- d.get(k, z) -/
def oGet : Av → Av → Av → Option Av
  | .m _ kvs, .d (.tup [.int i, .int j]), .d (.int z) => some (.i ((mGet kvs (i, j)).getD z))
  | _, _, _ => none
def s3 (h : Av → Av → Av → Option Av) (f g e : SE) : SE := fun r => (f r).bind fun a => (g r).bind fun b => (e r).bind fun c => h a b c
/-- a slice's place in a row of n -/
def cutIx (n dflt : Nat) : Option Int → Nat
  | none => dflt
  | some v => if v < 0 then (max (v + n) 0).toNat else min v.toNat n
def cutD (xs : List Dt) (lo hi : Option Int) : List Dt := (xs.drop (cutIx xs.length 0 lo)).take (cutIx xs.length xs.length hi - cutIx xs.length 0 lo)
/-- a slice's written part -/
abbrev SP1 := Rho → Option (Option Int)
def pNo : SP1 := fun _ => some none
def pYes (f : SE) : SP1 := fun r => ((f r).bind vInt).map some
def oCut : Av → Option Int → Option Int → Option Av
  | .d (.tup xs), lo, hi => some (.d (.tup (cutD xs lo hi)))
  | .l _ xs, lo, hi => some (.l .fr (cutD xs lo hi))
  | _, _, _ => none
def sCut (f : SE) (lo hi : SP1) : SE := fun r => (f r).bind fun a => (lo r).bind fun i => (hi r).bind fun j => oCut a i j
/-- t[::-1] of a tuple -/
def oRev : Av → Option Av
  | .d (.tup xs) => some (.d (.tup xs.reverse))
  | _ => none

/-! ### several expressions, displays -/
def seqE : List SE → Rho → Option (List Av)
  | [], _ => some []
  | f :: fs, r => (f r).bind fun a => (seqE fs r).map (a :: ·)
def sTup (fs : List SE) : SE := fun r => ((seqE fs r).bind vDats).map fun ds => .d (.tup ds)
def sLst (fs : List SE) : SE := fun r => ((seqE fs r).bind vDats).map fun ds => .l .fr ds

/-! ### tests -/
def bOf (f : SE) : SB := fun r => (f r).bind vBl
def bAnd (t u : SB) : SB := fun r => (t r).bind fun c => if c = true then u r else some false
def bOr (t u : SB) : SB := fun r => (t r).bind fun c => if c = true then some true else u r
def bNot (t : SB) : SB := fun r => (t r).map (!·)
def sAnd (f g : SE) : SE := fun r => ((f r).bind vBl).bind fun c => if c = true then g r else some (.b false)
def sOr (f g : SE) : SE := fun r => ((f r).bind vBl).bind fun c => if c = true then some (.b true) else g r
def sNot (f : SE) : SE := fun r => ((f r).bind vBl).map fun c => .b (!c)
/-- list or list, by truth -/
def sOrL (f g : SE) : SE := fun r => (f r).bind fun a => match a with
  | .l .fr [] => g r
  | .l .fr (x :: xs) => some (.l .fr (x :: xs))
  | _ => none
def sIf (t : SB) (f g : SE) : SE := fun r => (t r).bind fun c => if c = true then f r else g r

/-- a op b op2 c, a op b op2 c op3 d -/
def sCh2 (h h2 : Av → Av → Option Av) (f g k : SE) : SE := fun r => (f r).bind fun a => (g r).bind fun b => ((h a b).bind vBl).bind fun c => if c = true then (k r).bind fun d => h2 b d else some (.b false)
def sCh3 (h h2 h3 : Av → Av → Option Av) (f g k e : SE) : SE := fun r => (f r).bind fun a => (g r).bind fun b => ((h a b).bind vBl).bind fun c => if c = true then (k r).bind fun d => ((h2 b d).bind vBl).bind fun c2 => if c2 = true then (e r).bind fun x => h3 d x else some (.b false) else some (.b false)

/-! ### built-ins -/
def cLen (a : Av) : Option Av := (vSeq a).map fun xs => .i xs.length
def cSum : Av → Option Av
  | .l _ xs => (vInts xs).map fun ns => .i ns.sum
  | _ => none
def cAll : Av → Option Av
  | .l _ xs => (vBls xs).map fun bs => .b (bs.all id)
  | _ => none
def minL : List Int → Option Int
  | [] => none
  | x :: r => some (r.foldl min x)
def cMin (a : Av) : Option Av := (((vSeq a).bind vInts).bind minL).map .i
def cMin2 : Av → Av → Option Av := oI (fun _ _ => True) fun i j => min i j
def cMax2 : Av → Av → Option Av := oI (fun _ _ => True) fun i j => max i j
def cMax3 (a b c : Av) : Option Av := (vInt a).bind fun i => (vInt b).bind fun j => (vInt c).bind fun k => some (.i (max (max i j) k))
def cAbs (a : Av) : Option Av := (vInt a).bind fun i => some (.i (i.natAbs : Nat))
def cInt : Av → Option Av
  | .d (.int i) => some (.i i)
  | .d (.bl b) => some (.i (if b then 1 else 0))
  | _ => none
def cTuple : Av → Option Av
  | .d (.tup xs) => some (.d (.tup xs))
  | .l _ xs => some (.d (.tup xs))
  | _ => none
def cList : Av → Option Av
  | .d (.tup xs) => some (.l .fr xs)
  | .l _ xs => some (.l .fr xs)
  | _ => none
/-- a pair of ints, or a pair of such a pair and an int, as a row -/
def flat2 : Dt → Option (List Int)
  | .tup [.int i, .int j] => some [i, j]
  | _ => none
def flat3 : Dt → Option (List Int)
  | .tup [.tup [.int i, .int j], .int k] => some [i, j, k]
  | _ => none
def lexLe : List Int → List Int → Bool
  | [], _ => true
  | _ :: _, [] => false
  | x :: xs, y :: ys => if x = y then lexLe xs ys else decide (x < y)
def leF (g : Dt → Option (List Int)) (a b : Dt) : Bool := match g a, g b with
  | some x, some y => lexLe x y
  | _, _ => false
def sortD (xs : List Dt) : Option (List Dt) :=
  if xs.all (fun x => (flat2 x).isSome) = true then some (xs.mergeSort (leF flat2))
  else if xs.all (fun x => (flat3 x).isSome) = true then some (xs.mergeSort (leF flat3)) else none
def cSortL : Av → Option Av
  | .l _ xs => if xs.length ≤ 1000000 then (sortD xs).map (.l .fr) else none
  | _ => none
def cSortM : Av → Option Av
  | .m _ kvs => if kvs.length ≤ 1000000 then (sortD (kvs.map fun e => Dt.p e.1.1 e.1.2)).map (.l .fr) else none
  | _ => none
def isTup : Av → Option Av
  | .d (.tup _) => some (.b true)
  | .d _ => some (.b false)
  | .l _ _ => some (.b false)
  | _ => none
def isLst : Av → Option Av
  | .d _ => some (.b false)
  | .l _ _ => some (.b true)
  | _ => none
def isLT : Av → Option Av
  | .d (.tup _) => some (.b true)
  | .d _ => some (.b false)
  | .l _ _ => some (.b true)
  | _ => none
def isBl : Av → Option Av
  | .d (.bl _) => some (.b true)
  | .d _ => some (.b false)
  | .l _ _ => some (.b false)
  | _ => none
def isInt : Av → Option Av
  | .d (.bl _) => some (.b true)
  | .d (.int _) => some (.b true)
  | .d _ => some (.b false)
  | .l _ _ => some (.b false)
  | _ => none
/-- bool or str -/
def isBS : Av → Option Av
  | .d (.bl _) => some (.b true)
  | .d (.str _) => some (.b true)
  | .d _ => some (.b false)
  | .l _ _ => some (.b false)
  | _ => none

/-! ### what is walked; the Bool: no list that a name owns is among its sources -/
def notOw : Av → Bool
  | .l .ow _ => false
  | .l .bx _ => false
  | .m _ _ => false
  | _ => true
def iSeq (f : SE) : SI := fun r => (f r).bind fun a => (vSeq a).map fun xs => (notOw a, xs)
def rangeD (lo : Int) (n : Nat) : List Dt := (List.range n).map fun (i : Nat) => Dt.int (lo + (i : Int))
def small62 (i : Int) : Prop := -(2 ^ 62) ≤ i ∧ i < 2 ^ 62
instance (i : Int) : Decidable (small62 i) := inferInstanceAs (Decidable (_ ∧ _))
def iRange1 (f : SE) : SI := fun r => ((f r).bind vInt).bind fun j => if small62 j then some (true, rangeD 0 j.toNat) else none
def iRange2 (f g : SE) : SI := fun r => ((f r).bind vInt).bind fun i => ((g r).bind vInt).bind fun j => if small62 i ∧ small62 j then some (true, rangeD i (j - i).toNat) else none
def enumD (xs : List Dt) : List Dt := (List.range xs.length).zipWith (fun i x => Dt.tup [.int (i : Nat), x]) xs
def iEnum (f : SE) : SI := fun r => (f r).bind fun a => (vSeq a).map fun xs => (notOw a, enumD xs)
def zip2D (xs ys : List Dt) : List Dt := xs.zipWith (fun x y => Dt.tup [x, y]) ys
def iZip2 (f g : SE) : SI := fun r => (f r).bind fun a => (g r).bind fun b => (vSeq a).bind fun xs => (vSeq b).map fun ys => (notOw a && notOw b, zip2D xs ys)
def zip3D : List Dt → List Dt → List Dt → List Dt
  | x :: xs, y :: ys, z :: zs => Dt.tup [x, y, z] :: zip3D xs ys zs
  | _, _, _ => []
def iZip3 (f g e : SE) : SI := fun r => (f r).bind fun a => (g r).bind fun b => (e r).bind fun c => (vSeq a).bind fun xs => (vSeq b).bind fun ys => (vSeq c).map fun zs => (notOw a && notOw b && notOw c, zip3D xs ys zs)
def itemD (e : (Int × Int) × Int) : Dt := .tup [Dt.p e.1.1 e.1.2, .int e.2]
/-- list(zip(f, g)) -/
def sListZip (f g : SE) : SE := fun r => (iZip2 f g r).map fun e => .l .fr e.2
/-- {} -/
def sDictE : SE := fun _ => some (.m .fr [])
/-- dict of pairs ((i, j), v), later ones win -/
def pairOf : Dt → Option ((Int × Int) × Int)
  | .tup [.tup [.int i, .int j], .int v] => some ((i, j), v)
  | _ => none
def mPuts : List Dt → List ((Int × Int) × Int) → Option (List ((Int × Int) × Int))
  | [], acc => some acc
  | x :: xs, acc => (pairOf x).bind fun e => mPuts xs (mPut acc e.1 e.2)
def sDictZip (f g : SE) : SE := fun r => ((iZip2 f g r).bind fun e => if e.2.length ≤ 1000000 then mPuts e.2 [] else none).map (.m .fr)
def cDict : Av → Option Av
  | .l _ xs => if xs.length ≤ 1000000 then (mPuts xs []).map (.m .fr) else none
  | _ => none

/-! ### targets -/
def gNm (i : Nat) : SG := fun x r => some (r.set i (some (.d x)))
def gTps : List SG → List Dt → Rho → Option Rho
  | [], [], r => some r
  | t :: ts, d :: ds, r => (t d r).bind fun r1 => gTps ts ds r1
  | _, _, _ => none
def gTp (ts : List SG) : SG := fun x r => match x with
  | .tup ds => gTps ts ds r
  | _ => none

/-! ### comprehensions -/
def wipeR (r : Rho) : List Nat → Rho
  | [] => r
  | v :: vs => (wipeR r vs).set v none
def lcGo (g : SG) (t : SB) (e : SE) (r : Rho) : List Dt → Option (List Dt)
  | [] => some []
  | x :: xs => (g x r).bind fun r1 => (t r1).bind fun c => if c = true then ((e r1).bind vDat).bind fun y => (lcGo g t e r xs).map (y :: ·) else lcGo g t e r xs
def bYes : SB := fun _ => some true
def sLc (vs : List Nat) (it : SI) (g : SG) (t : SB) (e : SE) : SE := fun r => (it r).bind fun q => if q.2.length ≤ 1000000 then (lcGo g t e (wipeR r vs) q.2).map (.l .fr) else none
def lc2Go (g : SG) (t : SB) (it1 : SI) (vs1 : List Nat) (g1 : SG) (t1 : SB) (e : SE) (r : Rho) : List Dt → Option (List Dt)
  | [] => some []
  | x :: xs => (g x r).bind fun r1 => (t r1).bind fun c => if c = true then (it1 r1).bind fun q => (if q.1 = true then lcGo g1 t1 e (wipeR r1 vs1) q.2 else none).bind fun ys => (lc2Go g t it1 vs1 g1 t1 e r xs).map (ys ++ ·) else lc2Go g t it1 vs1 g1 t1 e r xs
def sLc2 (vs vs1 : List Nat) (it : SI) (g : SG) (t : SB) (it1 : SI) (g1 : SG) (t1 : SB) (e : SE) : SE := fun r => (it r).bind fun q => (lc2Go g t it1 vs1 g1 t1 e (wipeR r vs) q.2).bind fun ys => if ys.length ≤ 1000000 then some (.l .fr ys) else none
/-- a comprehension over the items of the dict that the i-th name owns -/
def sLcItems (i : Nat) (vs : List Nat) (g : SG) (t : SB) (e : SE) : SE := fun r => match r[i]? with
  | some (some (.m .ow kvs)) => if kvs.length ≤ 1000000 then (lcGo g t e (wipeR (r.set i none) vs) (kvs.map itemD)).map (.l .fr) else none
  | _ => none

/-! ### calls of the text's own defs -/
/-- an argument as the callee has it -/
def argA : Av → Option Av
  | .d x => some (.d x)
  | .l .bx _ => none
  | .l _ ds => some (.l .ro ds)
  | .m .ow kvs => some (.m .ro kvs)
  | _ => none
def argsA : List Av → Option (List Av)
  | [] => some []
  | a :: r => (argA a).bind fun b => (argsA r).map (b :: ·)
abbrev FP := List Av → Option Av
abbrev FB := List Dt → List Av → Option (List Dt × Av)
def sCall (F : FP) (fs : List SE) : SE := fun r => ((seqE fs r).bind argsA).bind F
def sCall0 (F : FP) : SE := fun _ => F []

/-! ### expressions that may turn the box -/
/-- a value that stays good whatever is changed -/
def vFree : Av → Option Av
  | .d x => some (.d x)
  | .l .fr ds => some (.l .fr ds)
  | .m .fr kvs => some (.m .fr kvs)
  | _ => none
def xP (f : SE) : SX := fun r => ((f r).bind vFree).map fun a => (a, r)
def xBP (t : SB) : SXB := fun r => (t r).map fun c => (c, r)
def xBOf (f : SX) : SXB := fun r => (f r).bind fun q => (vBl q.1).map fun c => (c, q.2)
def xBOr (t u : SXB) : SXB := fun r => (t r).bind fun q => if q.1 = true then some (true, q.2) else u q.2
def xBNot (t : SXB) : SXB := fun r => (t r).map fun q => (!q.1, q.2)
def xIf (t : SXB) (f g : SX) : SX := fun r => (t r).bind fun q => if q.1 = true then f q.2 else g q.2
/-- two data, an operation that gives data -/
def x2 (h : Av → Av → Option Av) (f g : SX) : SX := fun r => (f r).bind fun p => (vDat p.1).bind fun x => (g p.2).bind fun q => (vDat q.1).bind fun y => (h (.d x) (.d y)).bind fun z => (vDat z).map fun w => (.d w, q.2)
def seqX : List SX → Rho → Option (List Dt × Rho)
  | [], r => some ([], r)
  | f :: fs, r => (f r).bind fun p => (vDat p.1).bind fun x => (seqX fs p.2).map fun q => (x :: q.1, q.2)
def xTup (fs : List SX) : SX := fun r => (seqX fs r).map fun q => (.d (.tup q.1), q.2)
/-- a call of a def without a box, its arguments data that may turn the box -/
def xCall (F : FP) (fs : List SX) : SX := fun r => (seqX fs r).bind fun q => ((F (q.1.map .d)).bind vFree).map fun a => (a, q.2)
def boxAt (r : Rho) (i : Nat) : Option (List Dt) := match r[i]? with
  | some (some (.x ds)) => some ds
  | _ => none
/-- a call that hands the box on (the i-th name), its further arguments data that may turn the box -/
def xCallB (i : Nat) (F : FB) (fs : List SX) : SX := fun r => (boxAt r i).bind fun _ => (seqX fs r).bind fun q => (boxAt q.2 i).bind fun b => (F b (q.1.map .d)).bind fun z => (vFree z.2).map fun a => (a, q.2.set i (some (.x z.1)))
/-- .. its further arguments do not turn it -/
def xCallBP (i : Nat) (F : FB) (fs : List SE) : SX := fun r => ((seqE fs r).bind argsA).bind fun as => (boxAt r i).bind fun b => (F b as).bind fun z => (vFree z.2).map fun a => (a, r.set i (some (.x z.1)))
/-- name[..], the place may turn the box -/
def xIx (i : Nat) (f : SX) : SX := fun r => (sVar i r).bind fun _ => (f r).bind fun q => (vDat q.1).bind fun x => (sVar i q.2).bind fun a => ((oIxS a (.d x)).bind vDat).map fun z => (.d z, q.2)
/-- a call whose box is new, and dropped -/
def sCallNew (F : FB) (f : SE) : SE := fun r => (f r).bind fun a => match a with
  | .l .fr b => (F b []).bind fun z => vFree z.2
  | _ => none

/-! ### statements -/
def toSlot : Av → Option Av
  | .d x => some (.d x)
  | .l .fr ds => some (.l .ow ds)
  | .m .fr kvs => some (.m .ow kvs)
  | _ => none
def toRet : Av → Option Av
  | .d x => some (.d x)
  | .l .fr ds => some (.l .fr ds)
  | .l .ow ds => some (.l .fr ds)
  | .m .fr kvs => some (.m .fr kvs)
  | .m .ow kvs => some (.m .fr kvs)
  | _ => none
def kNil : SS := fun r => some (.nx r)
def kSeq (s t : SS) : SS := fun r => (s r).bind fun o => match o with
  | .nx r1 => t r1
  | .rt r1 a => some (.rt r1 a)
def kSet (i : Nat) (f : SX) : SS := fun r => (f r).bind fun q => (toSlot q.1).map fun a => .nx (q.2.set i (some a))
/-- two names at once -/
def kPar (i j : Nat) (f g : SX) : SS := fun r => (f r).bind fun p => (toSlot p.1).bind fun a => (g p.2).bind fun q => (toSlot q.1).map fun b => .nx ((q.2.set i (some a)).set j (some b))
/-- three names at once, data -/
def kPar3 (i j k : Nat) (f g h : SE) : SS := fun r => ((f r).bind vDat).bind fun x => ((g r).bind vDat).bind fun y => ((h r).bind vDat).map fun z => .nx (((r.set i (some (.d x))).set j (some (.d y))).set k (some (.d z)))
/-- a tuple's parts to several names -/
def kUnp (g : SG) (f : SX) : SS := fun r => (f r).bind fun q => (vDat q.1).bind fun x => (g x q.2).map .nx
/-- name[idx] = e, the name a list or the box; name[i, j] = e, the name a dict -/
def putL : Av → Int → Dt → Option Av
  | .l .ow xs, i, v => (ixA xs.length i).map fun j => .l .ow (xs.set j v)
  | .x xs, i, v => (ixA xs.length i).map fun j => .x (xs.set j v)
  | _, _, _ => none
def slotAt (r : Rho) (i : Nat) : Option Av := match r[i]? with
  | some (some a) => some a
  | _ => none
def kPutL (i : Nat) (idx : SE) (f : SX) : SS := fun r => (f r).bind fun q => (vDat q.1).bind fun v => ((idx q.2).bind vInt).bind fun k => (slotAt q.2 i).bind fun c => (putL c k v).map fun c' => .nx (q.2.set i (some c'))
def kPutM (i : Nat) (idx : SE) (f : SX) : SS := fun r => (f r).bind fun q => (vInt q.1).bind fun v => ((idx q.2).bind vDat).bind fun k => match k, q.2[i]? with
  | .tup [.int a, .int b], some (some (.m .ow kvs)) => if kvs.length < 1000000 then some (.nx (q.2.set i (some (.m .ow (mPut kvs (a, b) v))))) else none
  | _, _ => none
/-- name[idx] += e, the name a list -/
def kAug (i : Nat) (idx e : SE) : SS := fun r => ((idx r).bind vInt).bind fun k => match r[i]? with
  | some (some (.l .ow xs)) => (ixA xs.length k).bind fun j => (xs[j]?).bind fun old => match old with
    | .int n => ((e r).bind vInt).bind fun d => some (.nx (r.set i (some (.l .ow (xs.set j (.int (n + d)))))))
    | _ => none
  | _ => none
def owAt (r : Rho) (i : Nat) : Option (List Dt) := match r[i]? with
  | some (some (.l .ow xs)) => some xs
  | _ => none
def kApp (i : Nat) (f : SX) : SS := fun r => (owAt r i).bind fun _ => (f r).bind fun q => (vDat q.1).bind fun v => (owAt q.2 i).bind fun xs => if xs.length < 1000000 then some (.nx (q.2.set i (some (.l .ow (xs ++ [v]))))) else none
def kExpr (f : SE) : SS := fun r => (f r).map fun _ => .nx r
def kIf (t : SXB) (a b : SS) : SS := fun r => (t r).bind fun q => if q.1 = true then a q.2 else b q.2
def kNever : SS := fun _ => none
def kRet (f : SE) : SS := fun r => ((f r).bind toRet).map fun a => .rt r a
def kRetX (f : SX) : SS := fun r => (f r).map fun q => .rt q.2 q.1
def frz (r : Rho) : List Nat → Rho
  | [] => r
  | i :: is => match r[i]? with
    | some (some (.l .ow ds)) => frz (r.set i (some (.l .ro ds))) is
    | _ => frz r is
def forGo (g : SG) (b : SS) : List Dt → Rho → Option Out
  | [], r => some (.nx r)
  | x :: xs, r => (g x r).bind fun r1 => (b r1).bind fun o => match o with
    | .nx r2 => forGo g b xs r2
    | .rt r2 a => some (.rt r2 a)
def kFor (fz : List Nat) (it : SI) (g : SG) (b : SS) : SS := fun r => (it (frz r fz)).bind fun q => if q.1 = true then forGo g b q.2 (frz r fz) else none

/-! ### defs -/
def startR (n : Nat) (as : List Av) : Rho := as.map some ++ List.replicate (n - as.length) none
/-- a def of n names without a box -/
def runP (n : Nat) (b : SS) : FP := fun as => (b (startR n as)).map fun o => match o with
  | .nx _ => .d .non
  | .rt _ a => a
/-- a def whose first parameter is the box -/
def runB (n : Nat) (b : SS) : FB := fun box as => (b (startR n (.x box :: as))).bind fun o => match o with
  | .nx r => (boxAt r 0).map fun z => (z, .d .non)
  | .rt r a => (boxAt r 0).map fun z => (z, a)
end S67

/-! KB: how data, values and environments lie in the heap; the readings of the combinators of KA. -/
namespace S67
open PySem PySem.Spec PyProof.Rows L2

/-! ### data in a heap -/
mutual
inductive Rp (K : PySem.W.Frag) (H : Hp) : V → Dt → Prop
  | non : Rp K H .non .non
  | bl (b : Bool) : Rp K H (.bl b) (.bl b)
  | int (i : Int) : Rp K H (.int i) (.int i)
  | str (x : Str) : Rp K H (.str x) (.str x)
  | tup {a : Addr} {xs : List V} {ds : List Dt} : H a = some (.tup xs) → Rps K H xs ds → Rp K H (.ref a) (.tup ds)
inductive Rps (K : PySem.W.Frag) (H : Hp) : List V → List Dt → Prop
  | nil : Rps K H [] []
  | cons {v : V} {vs : List V} {d : Dt} {ds : List Dt} : Rp K H v d → Rps K H vs ds → Rps K H (v :: vs) (d :: ds)
end
/-- tuples stay -/
def Tl (H H' : Hp) : Prop := ∀ a xs, H a = some (.tup xs) → H' a = some (.tup xs)
/-- what is tracked stays tracked -/
def Dm (H H' : Hp) : Prop := ∀ a, H' a = none → H a = none
structure Mv (H H' : Hp) : Prop where
  tl : Tl H H'
  dm : Dm H H'
/-- all stays -/
abbrev Ex (H H' : Hp) : Prop := ∀ a u, H a = some u → H' a = some u
theorem Ex.refl (H : Hp) : Ex H H := fun _ _ h => h
theorem Ex.trans {H H1 H2 : Hp} (a : Ex H H1) (b : Ex H1 H2) : Ex H H2 := fun x o h => b x o (a x o h)
theorem Ex.new {H : Hp} {p : Addr} {o : HO} (h : H p = none) : Ex H (upd H p o) := fun a u e => by
  rw [upd_ne (ne_of_none e h)]
  exact e
theorem Ex.mut {H H' : Hp} {p : Addr} {o : HO} (e : Ex H H') (h : H p = none) : Ex H (upd H' p o) := fun a u ha => by
  rw [upd_ne (ne_of_none ha h)]
  exact e a u ha
theorem Ex.free {H H' : Hp} {p : Addr} (e : Ex H H') (h : H' p = none) : H p = none := by
  cases h1 : H p with
  | none => rfl
  | some o =>
    rw [e p o h1] at h
    cases h
theorem Ex.tl {H H' : Hp} (e : Ex H H') : Tl H H' := fun a xs h => e _ _ h
theorem Ex.mv {H H' : Hp} (e : Ex H H') : Mv H H' := ⟨e.tl, fun _ h => e.free h⟩
theorem Tl.refl (H : Hp) : Tl H H := fun _ _ h => h
theorem Tl.trans {H H1 H2 : Hp} (a : Tl H H1) (b : Tl H1 H2) : Tl H H2 := fun x o h => b x o (a x o h)
theorem Mv.refl (H : Hp) : Mv H H := ⟨.refl H, fun _ h => h⟩
theorem Mv.trans {H H1 H2 : Hp} (a : Mv H H1) (b : Mv H1 H2) : Mv H H2 := ⟨a.tl.trans b.tl, fun p h => a.dm p (b.dm p h)⟩
theorem Ex.seqL {K : PySem.W.Frag} {H H' : Hp} {a : Addr} {xs : List V} (e : Ex H H') (h : SqL K H a xs) : SqL K H' a xs := by
  rcases h with (h | ⟨o, h⟩) | h
  · exact .inl (.inl (e _ _ h))
  · exact .inl (.inr ⟨o, e _ _ h⟩)
  · exact .inr h
/-- a list or a dict is changed: tuples stay -/
theorem Tl.put {H : Hp} {p : Addr} {u o : HO} (h : H p = some u) (hu : ∀ xs, u ≠ .tup xs) : Tl H (upd H p o) := fun a xs q => by
  have ha : a ≠ p := fun e => by
    subst e
    rw [h] at q
    exact hu xs (Option.some.inj q)
  rw [upd_ne ha]
  exact q
theorem Dm.put {H : Hp} {p : Addr} {o : HO} : Dm H (upd H p o) := fun a q => by
  by_cases e : a = p
  · subst e
    rw [upd_same] at q
    cases q
  · rw [upd_ne e] at q
    exact q
mutual
theorem Rp.mono {K : PySem.W.Frag} {H H' : Hp} (t : Tl H H') : ∀ {d : Dt} {v : V}, Rp K H v d → Rp K H' v d
  | .non, _, h => by cases h; exact .non
  | .bl _, _, h => by cases h; exact .bl _
  | .int _, _, h => by cases h; exact .int _
  | .str _, _, h => by cases h; exact .str _
  | .tup ds, _, h => by
    cases h with
    | tup h1 h2 => exact .tup (t _ _ h1) (Rps.mono t h2)
theorem Rps.mono {K : PySem.W.Frag} {H H' : Hp} (t : Tl H H') : ∀ {ds : List Dt} {vs : List V}, Rps K H vs ds → Rps K H' vs ds
  | [], _, h => by cases h; exact .nil
  | _ :: _, _, h => by
    cases h with
    | cons h1 h2 => exact .cons (h1.mono t) (Rps.mono t h2)
end
theorem Rps.length {K : PySem.W.Frag} {H : Hp} : ∀ {ds : List Dt} {vs : List V}, Rps K H vs ds → vs.length = ds.length
  | [], _, h => by cases h; rfl
  | _ :: _, _, h => by
    cases h with
    | cons h1 h2 =>
      show _ + 1 = _ + 1
      rw [h2.length]
theorem Rps.get {K : PySem.W.Frag} {H : Hp} : ∀ {ds : List Dt} {vs : List V} {i : Nat} {d : Dt}, Rps K H vs ds → ds[i]? = some d → ∃ v, vs[i]? = some v ∧ Rp K H v d
  | [], _, _, _, _, e => by simp at e
  | d :: ds, _, 0, d', h, e => by
    cases h with
    | cons h1 h2 =>
      have e : d = d' := by simpa using e
      subst e
      exact ⟨_, rfl, h1⟩
  | d :: ds, _, i + 1, _, h, e => by
    cases h with
    | cons h1 h2 => exact h2.get (by simpa using e)
theorem Rps.getV {K : PySem.W.Frag} {H : Hp} : ∀ {ds : List Dt} {vs : List V} {i : Nat} {v : V}, Rps K H vs ds → vs[i]? = some v → ∃ d, ds[i]? = some d ∧ Rp K H v d
  | [], _, _, _, h, e => by cases h; simp at e
  | d :: ds, _, 0, _, h, e => by
    cases h with
    | cons h1 h2 =>
      have e := Option.some.inj e
      subst e
      exact ⟨_, rfl, h1⟩
  | d :: ds, _, i + 1, _, h, e => by
    cases h with
    | cons h1 h2 => exact h2.getV (by simpa using e)
theorem Rps.append {K : PySem.W.Frag} {H : Hp} : ∀ {ds es : List Dt} {vs ws : List V}, Rps K H vs ds → Rps K H ws es → Rps K H (vs ++ ws) (ds ++ es)
  | [], _, _, _, h, h' => by cases h; exact h'
  | _ :: _, _, _, _, h, h' => by
    cases h with
    | cons h1 h2 => exact .cons h1 (h2.append h')
theorem Rps.take {K : PySem.W.Frag} {H : Hp} : ∀ (n : Nat) {ds : List Dt} {vs : List V}, Rps K H vs ds → Rps K H (vs.take n) (ds.take n)
  | 0, _, _, _ => by simp; exact .nil
  | _ + 1, [], _, h => by cases h; exact .nil
  | n + 1, _ :: _, _, h => by
    cases h with
    | cons h1 h2 => exact .cons h1 (h2.take n)
theorem Rps.drop {K : PySem.W.Frag} {H : Hp} : ∀ (n : Nat) {ds : List Dt} {vs : List V}, Rps K H vs ds → Rps K H (vs.drop n) (ds.drop n)
  | 0, _, _, h => h
  | _ + 1, [], _, h => by cases h; exact .nil
  | n + 1, _ :: _, _, h => by
    cases h with
    | cons h1 h2 => exact h2.drop n
theorem Rps.set {K : PySem.W.Frag} {H : Hp} {v : V} {d : Dt} (h : Rp K H v d) : ∀ (i : Nat) {ds : List Dt} {vs : List V}, Rps K H vs ds → Rps K H (vs.set i v) (ds.set i d)
  | _, [], _, q => by cases q; exact .nil
  | 0, _ :: _, _, q => by
    cases q with
    | cons h1 h2 => exact .cons h h2
  | i + 1, _ :: _, _, q => by
    cases q with
    | cons h1 h2 => exact .cons h1 (h2.set h i)
theorem Rps.reverse {K : PySem.W.Frag} {H : Hp} : ∀ {ds : List Dt} {vs : List V}, Rps K H vs ds → Rps K H vs.reverse ds.reverse
  | [], _, h => by cases h; exact .nil
  | _ :: _, _, h => by
    cases h with
    | cons h1 h2 =>
      rw [List.reverse_cons, List.reverse_cons]
      exact h2.reverse.append (.cons h1 .nil)
theorem Rps.rep {K : PySem.W.Frag} {H : Hp} {ds : List Dt} {vs : List V} (h : Rps K H vs ds) : ∀ n : Nat, Rps K H (List.replicate n vs).flatten (List.replicate n ds).flatten
  | 0 => .nil
  | n + 1 => by
    rw [List.replicate_succ, List.replicate_succ, List.flatten_cons, List.flatten_cons]
    exact h.append (h.rep n)
theorem Rps.ints {K : PySem.W.Frag} {H : Hp} : ∀ {ds : List Dt} {vs : List V} {ns : List Int}, Rps K H vs ds → vInts ds = some ns → vs = ns.map V.int
  | [], _, ns, h, e => by
    cases h
    have e : [] = ns := Option.some.inj e
    subst e
    rfl
  | .int i :: ds, _, ns, h, e => by
    cases h with
    | cons h1 h2 =>
      cases h1
      simp only [vInts, Option.map_eq_some_iff] at e
      obtain ⟨ms, e1, rfl⟩ := e
      rw [h2.ints e1]
      rfl
  | .non :: ds, _, ns, h, e => by cases e
  | .bl _ :: ds, _, ns, h, e => by cases e
  | .str _ :: ds, _, ns, h, e => by cases e
  | .tup _ :: ds, _, ns, h, e => by cases e
theorem Rps.bls {K : PySem.W.Frag} {H : Hp} : ∀ {ds : List Dt} {vs : List V} {ns : List Bool}, Rps K H vs ds → vBls ds = some ns → vs = ns.map V.bl
  | [], _, ns, h, e => by
    cases h
    have e : [] = ns := Option.some.inj e
    subst e
    rfl
  | .bl i :: ds, _, ns, h, e => by
    cases h with
    | cons h1 h2 =>
      cases h1
      simp only [vBls, Option.map_eq_some_iff] at e
      obtain ⟨ms, e1, rfl⟩ := e
      rw [h2.bls e1]
      rfl
  | .non :: ds, _, ns, h, e => by cases e
  | .int _ :: ds, _, ns, h, e => by cases e
  | .str _ :: ds, _, ns, h, e => by cases e
  | .tup _ :: ds, _, ns, h, e => by cases e
mutual
/-- the library's own data -/
def Dt.py : Dt → PyData
  | .non => .none
  | .bl b => .bool b
  | .int i => .int i
  | .str x => .str x
  | .tup ds => .tuple (pys ds)
def pys : List Dt → List PyData
  | [] => []
  | d :: ds => d.py :: pys ds
end
theorem pys_map : ∀ ds : List Dt, pys ds = ds.map Dt.py
  | [] => rfl
  | d :: ds => by rw [pys, pys_map ds]; rfl
mutual
theorem Rp.dp {K : PySem.W.Frag} {H : Hp} : ∀ {d : Dt} {v : V}, Rp K H v d → Dp K H v d.py
  | .non, _, h => by cases h; exact .non
  | .bl _, _, h => by cases h; exact .bl _
  | .int _, _, h => by cases h; exact .int _
  | .str _, _, h => by cases h; exact .str _
  | .tup ds, _, h => by
    cases h with
    | tup h1 h2 => exact .tup (SqT.of h1) (Rps.dp h2)
theorem Rps.dp {K : PySem.W.Frag} {H : Hp} : ∀ {ds : List Dt} {vs : List V}, Rps K H vs ds → DpAll K H vs (pys ds)
  | [], _, h => by cases h; exact .nil
  | _ :: _, _, h => by
    cases h with
    | cons h1 h2 => exact .cons h1.dp (Rps.dp h2)
end
mutual
theorem eqv_py : ∀ a b : Dt, PyData.eqv a.py b.py = eqD a b
  | .non, .non | .non, .bl _ | .non, .int _ | .non, .str _ | .non, .tup _ => by simp [Dt.py, PyData.eqv, eqD]
  | .bl _, .non | .bl _, .bl _ | .bl _, .int _ | .bl _, .str _ | .bl _, .tup _ => by simp [Dt.py, PyData.eqv, eqD]
  | .int _, .non | .int _, .bl _ | .int _, .int _ | .int _, .str _ | .int _, .tup _ => by simp [Dt.py, PyData.eqv, eqD]
  | .str _, .non | .str _, .bl _ | .str _, .int _ | .str _, .str _ | .str _, .tup _ => by simp [Dt.py, PyData.eqv, eqD]
  | .tup _, .non | .tup _, .bl _ | .tup _, .int _ | .tup _, .str _ => by simp [Dt.py, PyData.eqv, eqD]
  | .tup xs, .tup ys => by
    rw [Dt.py, Dt.py, PyData.eqv, eqD]
    exact eqvs_py xs ys
theorem eqvs_py : ∀ a b : List Dt, PyData.eqvAll (pys a) (pys b) = eqDs a b
  | [], [] => by simp [pys, PyData.eqvAll, eqDs]
  | [], _ :: _ => by simp [pys, PyData.eqvAll, eqDs]
  | _ :: _, [] => by simp [pys, PyData.eqvAll, eqDs]
  | x :: xs, y :: ys => by
    rw [pys, pys, PyData.eqvAll, eqDs, eqv_py x y, eqvs_py xs ys]
end
mutual
theorem py_depth : ∀ a : Dt, a.py.depth = dpt a
  | .non | .bl _ | .int _ | .str _ => by simp [Dt.py, PyData.depth, dpt]
  | .tup xs => by rw [Dt.py, PyData.depth, dpt, pys_depth xs]
theorem pys_depth : ∀ a : List Dt, PyData.depthAll (pys a) = dpts a
  | [] => by simp [pys, PyData.depthAll, dpts]
  | x :: xs => by rw [pys, PyData.depthAll, dpts, py_depth x, pys_depth xs]
end
mutual
theorem py_plain : ∀ a : Dt, a.py.plain = true
  | .non | .bl _ | .int _ | .str _ => by simp [Dt.py, PyData.plain]
  | .tup xs => by rw [Dt.py, PyData.plain, pys_plain xs]
theorem pys_plain : ∀ a : List Dt, PyData.plainAll (pys a) = true
  | [] => by simp [pys, PyData.plainAll]
  | x :: xs => by rw [pys, PyData.plainAll, py_plain x, pys_plain xs]; rfl
end
end S67

/-! KC: environments in the heap; the readings; expressions, operators, tests. -/
namespace S67
open PySem PySem.Spec PyProof.Rows L2

/-- a dict's pairs in the layer -/
def cvM (kvs : List ((Int × Int) × Int)) : List (List Key × V) := kvs.map fun e => ([Sum.inl e.1.1, Sum.inl e.1.2], V.int e.2)
/-- what the frame's heap G holds stands, but for the box -/
def Frm (O : Option Addr) (G H : Hp) : Prop := ∀ a u, G a = some u → O ≠ some a → H a = some u
theorem Frm.ex {O : Option Addr} {G H H' : Hp} (f : Frm O G H) (e : Ex H H') : Frm O G H' := fun a u h1 h2 => e a u (f a u h1 h2)
theorem Frm.seqL {K : PySem.W.Frag} {O : Option Addr} {G H : Hp} {p : Addr} {xs : List V} (f : Frm O G H) (h : SqL K G p xs) (n : O ≠ some p) : SqL K H p xs := by
  rcases h with (h | ⟨o, h⟩) | h
  · exact .inl (.inl (f _ _ h n))
  · exact .inl (.inr ⟨o, f _ _ h n⟩)
  · exact .inr h
/-- a name's value -/
def RB (K : PySem.W.Frag) (G : Hp) (O : Option Addr) (H : Hp) (v : V) : Av → Prop
  | .d x => Rp K H v x
  | .l .ro ds => ∃ p xs, v = .ref p ∧ SqL K G p xs ∧ O ≠ some p ∧ Rps K H xs ds
  | .l .ow ds => ∃ p xs, v = .ref p ∧ G p = none ∧ H p = some (.lst xs) ∧ Rps K H xs ds
  | .m .ow kvs => ∃ p, v = .ref p ∧ G p = none ∧ H p = some (.dT (cvM kvs))
  | .x ds => ∃ p xs, v = .ref p ∧ O = some p ∧ H p = some (.lst xs) ∧ Rps K H xs ds
  | .m .ro kvs => ∃ p, v = .ref p ∧ G p = some (.dT (cvM kvs)) ∧ O ≠ some p
  | _ => False
def ownA : Av → Bool
  | .l .ow _ => true
  | .m .ow _ => true
  | .x _ => true
  | _ => false
/-- the slots are the environment's -/
structure RS (K : PySem.W.Frag) (G : Hp) (O : Option Addr) (σ : L2.St) (H : Hp) (r : Rho) : Prop where
  len : r.length = σ.length
  ext : Frm O G H
  gO : ∀ p, O = some p → G p ≠ none ∧ ∃ xs, H p = some (.lst xs)
  slot : ∀ (i : Nat) a, r[i]? = some (some a) → ∃ v, σ[i]? = some (some v) ∧ RB K G O H v a
  sep : ∀ (i j : Nat) a b, i ≠ j → r[i]? = some (some a) → r[j]? = some (some b) → ownA a = true → ownA b = true → σ[i]? ≠ σ[j]?
/-- a value that an expression gave from H, in H' -/
def RR (K : PySem.W.Frag) (G : Hp) (O : Option Addr) (H H' : Hp) (v : V) : Av → Prop
  | .d x => Rp K H' v x
  | .l .fr ds => ∃ p xs, v = .ref p ∧ H p = none ∧ H' p = some (.lst xs) ∧ Rps K H' xs ds
  | .l .bx ds => ∃ p xs, v = .ref p ∧ O = some p ∧ H' p = some (.lst xs) ∧ Rps K H' xs ds
  | .l .ro ds => ∃ p xs, v = .ref p ∧ SqL K G p xs ∧ O ≠ some p ∧ Rps K H' xs ds
  | .l .ow ds => ∃ p xs, v = .ref p ∧ G p = none ∧ H' p = some (.lst xs) ∧ Rps K H' xs ds
  | .m .ow kvs => ∃ p, v = .ref p ∧ G p = none ∧ H' p = some (.dT (cvM kvs))
  | .m .fr kvs => ∃ p, v = .ref p ∧ H p = none ∧ H' p = some (.dT (cvM kvs))
  | .m .ro kvs => ∃ p, v = .ref p ∧ G p = some (.dT (cvM kvs)) ∧ O ≠ some p
  | _ => False
section
variable {K : PySem.W.Frag} {G : Hp} {O : Option Addr} {σ : L2.St} {H H0 H1 H' : Hp} {r : Rho} {v : V} {a : Av}
theorem RB.ex (e : Ex H H') (h : RB K G O H v a) : RB K G O H' v a := by
  unfold RB at h ⊢
  split at h
  · exact h.mono e.tl
  · obtain ⟨p, xs, h1, h2, h3, h4⟩ := h
    exact ⟨p, xs, h1, h2, h3, h4.mono e.tl⟩
  · obtain ⟨p, xs, h1, h2, h3, h4⟩ := h
    exact ⟨p, xs, h1, h2, e _ _ h3, h4.mono e.tl⟩
  · obtain ⟨p, h1, h2, h3⟩ := h
    exact ⟨p, h1, h2, e _ _ h3⟩
  · obtain ⟨p, xs, h1, h2, h3, h4⟩ := h
    exact ⟨p, xs, h1, h2, e _ _ h3, h4.mono e.tl⟩
  · exact h
  · exact h.elim
theorem RS.ex (s : RS K G O σ H r) (e : Ex H H') : RS K G O σ H' r :=
  ⟨s.len, s.ext.ex e, fun p h => ⟨(s.gO p h).1, let ⟨xs, q⟩ := (s.gO p h).2; ⟨xs, e _ _ q⟩⟩, fun i a h => let ⟨v, h1, h2⟩ := s.slot i a h; ⟨v, h1, h2.ex e⟩, s.sep⟩
theorem RR.ex (e : Ex H H') (h : RR K G O H0 H v a) : RR K G O H0 H' v a := by
  unfold RR at h ⊢
  split at h
  · exact h.mono e.tl
  · obtain ⟨p, xs, h1, h2, h3, h4⟩ := h
    exact ⟨p, xs, h1, h2, e _ _ h3, h4.mono e.tl⟩
  · obtain ⟨p, xs, h1, h2, h3, h4⟩ := h
    exact ⟨p, xs, h1, h2, e _ _ h3, h4.mono e.tl⟩
  · obtain ⟨p, xs, h1, h2, h3, h4⟩ := h
    exact ⟨p, xs, h1, h2, h3, h4.mono e.tl⟩
  · obtain ⟨p, xs, h1, h2, h3, h4⟩ := h
    exact ⟨p, xs, h1, h2, e _ _ h3, h4.mono e.tl⟩
  · obtain ⟨p, h1, h2, h3⟩ := h
    exact ⟨p, h1, h2, e _ _ h3⟩
  · obtain ⟨p, h1, h2, h3⟩ := h
    exact ⟨p, h1, h2, e _ _ h3⟩
  · exact h
  · exact h.elim
/-- from an earlier heap -/
theorem RR.back (e : ∀ p, H1 p = none → H0 p = none) (h : RR K G O H1 H v a) : RR K G O H0 H v a := by
  unfold RR at h ⊢
  split at h
  · exact h
  · obtain ⟨p, xs, h1, h2, h3, h4⟩ := h
    exact ⟨p, xs, h1, e _ h2, h3, h4⟩
  · exact h
  · exact h
  · exact h
  · exact h
  · obtain ⟨p, h1, h2, h3⟩ := h
    exact ⟨p, h1, e _ h2, h3⟩
  · exact h
  · exact h.elim
/-- a list, whatever its standing -/
theorem RR.list {k : Fl} {ds : List Dt} (f : Frm O G H') (h : RR K G O H H' v (.l k ds)) : ∃ p xs, v = .ref p ∧ SqL K H' p xs ∧ Rps K H' xs ds := by
  cases k with
  | fr =>
    obtain ⟨p, xs, h1, h2, h3, h4⟩ := h
    exact ⟨p, xs, h1, SqL.of h3, h4⟩
  | ro =>
    obtain ⟨p, xs, h1, h2, h3, h4⟩ := h
    exact ⟨p, xs, h1, f.seqL h2 h3, h4⟩
  | ow =>
    obtain ⟨p, xs, h1, h2, h3, h4⟩ := h
    exact ⟨p, xs, h1, SqL.of h3, h4⟩
  | bx =>
    obtain ⟨p, xs, h1, h2, h3, h4⟩ := h
    exact ⟨p, xs, h1, SqL.of h3, h4⟩
/-- a list that is no borrowed one -/
theorem RR.listM {k : Fl} {ds : List Dt} (n : k ≠ .ro) (h : RR K G O H H' v (.l k ds)) : ∃ p xs, v = .ref p ∧ H' p = some (.lst xs) ∧ Rps K H' xs ds := by
  cases k with
  | fr =>
    obtain ⟨p, xs, h1, h2, h3, h4⟩ := h
    exact ⟨p, xs, h1, h3, h4⟩
  | ro => exact absurd rfl n
  | ow =>
    obtain ⟨p, xs, h1, h2, h3, h4⟩ := h
    exact ⟨p, xs, h1, h3, h4⟩
  | bx =>
    obtain ⟨p, xs, h1, h2, h3, h4⟩ := h
    exact ⟨p, xs, h1, h3, h4⟩
/-- a list or a tuple -/
theorem RR.seq {ds : List Dt} (f : Frm O G H') (h : RR K G O H H' v a) (e : vSeq a = some ds) : ∃ p xs, v = .ref p ∧ (SqL K H' p xs ∨ SqT K H' p xs) ∧ Rps K H' xs ds := by
  cases a with
  | d x =>
    cases x with
    | tup es =>
      have e : es = ds := Option.some.inj e
      subst e
      have h : Rp K H' v (.tup es) := h
      cases h with
      | tup h1 h2 => exact ⟨_, _, rfl, .inr (SqT.of h1), h2⟩
    | non => cases e
    | bl _ => cases e
    | int _ => cases e
    | str _ => cases e
  | l k es =>
    have e : es = ds := Option.some.inj e
    subst e
    obtain ⟨p, xs, h1, h2, h3⟩ := h.list f
    exact ⟨p, xs, h1, .inl h2, h3⟩
  | m _ _ => cases e
  | x _ => cases e
theorem RR.dict {k : Fl} {kvs : List ((Int × Int) × Int)} (f : Frm O G H') (h : RR K G O H H' v (.m k kvs)) : ∃ p, v = .ref p ∧ H' p = some (.dT (cvM kvs)) := by
  cases k with
  | fr =>
    obtain ⟨p, h1, h2, h3⟩ := h
    exact ⟨p, h1, h3⟩
  | ro =>
    obtain ⟨p, h1, h2, h3⟩ := h
    exact ⟨p, h1, f p _ h2 h3⟩
  | ow =>
    obtain ⟨p, h1, h2, h3⟩ := h
    exact ⟨p, h1, h3⟩
  | bx => exact h.elim
theorem RR.int {i : Int} (h : RR K G O H H' v (.d (.int i))) : v = .int i := by
  have h : Rp K H' v (.int i) := h
  cases h
  rfl
theorem RR.bl {i : Bool} (h : RR K G O H H' v (.d (.bl i))) : v = .bl i := by
  have h : Rp K H' v (.bl i) := h
  cases h
  rfl
theorem RR.i (i : Int) : RR K G O H H' (.int i) (.i i) := Rp.int i
theorem RR.b (i : Bool) : RR K G O H H' (.bl i) (.b i) := Rp.bl i
theorem vInt_eq {i : Int} : ∀ {a : Av}, vInt a = some i → a = .d (.int i)
  | .d (.int j), e => by
    have e : j = i := Option.some.inj e
    rw [e]
  | .d .non, e => by cases e
  | .d (.bl _), e => by cases e
  | .d (.str _), e => by cases e
  | .d (.tup _), e => by cases e
  | .l _ _, e => by cases e
  | .m _ _, e => by cases e
  | .x _, e => by cases e
theorem vBl_eq {i : Bool} : ∀ {a : Av}, vBl a = some i → a = .d (.bl i)
  | .d (.bl j), e => by
    have e : j = i := Option.some.inj e
    rw [e]
  | .d .non, e => by cases e
  | .d (.int _), e => by cases e
  | .d (.str _), e => by cases e
  | .d (.tup _), e => by cases e
  | .l _ _, e => by cases e
  | .m _ _, e => by cases e
  | .x _, e => by cases e
theorem vDat_eq {x : Dt} : ∀ {a : Av}, vDat a = some x → a = .d x
  | .d y, e => by
    have e : y = x := Option.some.inj e
    rw [e]
  | .l _ _, e => by cases e
  | .m _ _, e => by cases e
  | .x _, e => by cases e
theorem RR.vint {i : Int} (h : RR K G O H H' v a) (e : vInt a = some i) : v = .int i := by
  rw [vInt_eq e] at h
  exact h.int
theorem RR.vbl {i : Bool} (h : RR K G O H H' v a) (e : vBl a = some i) : v = .bl i := by
  rw [vBl_eq e] at h
  exact h.bl
theorem RR.vdat {x : Dt} (h : RR K G O H H' v a) (e : vDat a = some x) : Rp K H' v x := by
  rw [vDat_eq e] at h
  exact h
end
/-! ### readings -/
def tD (K : PySem.W.Frag) (f : SE) : TE := fun σ H Q => ∃ G O r a, RS K G O σ H r ∧ f r = some a ∧ ∀ v H', Ex H H' → RR K G O H H' v a → Q v H'
def tT (K : PySem.W.Frag) (t : SB) : TT := fun σ H Q => ∃ G O r b, RS K G O σ H r ∧ t r = some b ∧ ∀ H', Ex H H' → Q b H'
abbrev RRs (K : PySem.W.Frag) (G : Hp) (O : Option Addr) (H H' : Hp) : List V → List Av → Prop := Paired (RR K G O H H')
def tA (K : PySem.W.Frag) (fs : List SE) : TA := fun σ H Q => ∃ G O r as, RS K G O σ H r ∧ seqE fs r = some as ∧ ∀ vs H', Ex H H' → RRs K G O H H' vs as → Q vs H'
theorem PEw {X : Cx} {e : Expr} {t t' : TE} (h : PE X e t) (w : ∀ σ H Q, t' σ H Q → t σ H Q) : PE X e t' := ⟨fun pins s σ H Q I q => h.run pins s σ H Q I (w σ H Q q)⟩
theorem PTw {X : Cx} {e : Expr} {t t' : TT} (h : PT X e t) (w : ∀ σ H Q, t' σ H Q → t σ H Q) : PT X e t' := ⟨fun pins s σ H Q I q => h.run pins s σ H Q I (w σ H Q q)⟩
theorem PWw {X : Cx} {e : Expr} {t t' : TT} (h : PW X e t) (w : ∀ σ H Q, t' σ H Q → t σ H Q) : PW X e t' := ⟨fun wh pins s σ H Q I q => h.run wh pins s σ H Q I (w σ H Q q)⟩
theorem PAw {X : Cx} {e : List Expr} {t t' : TA} (h : PA X e t) (w : ∀ σ H Q, t' σ H Q → t σ H Q) : PA X e t' := ⟨fun pos pins s σ H Q I q => h.run pos pins s σ H Q I (w σ H Q q)⟩
theorem PSw {X : Cx} {e : Stmt} {t t' : TS} (h : PS X e t) (w : ∀ D σ H, t' D σ H → t D σ H) : PS X e t' := ⟨fun pins s σ H D I q => h.run pins s σ H D I (w D σ H q)⟩
theorem PSsw {X : Cx} {e : List Stmt} {t t' : TS} (h : PSs X e t) (w : ∀ D σ H, t' D σ H → t D σ H) : PSs X e t' := ⟨fun pins s σ H D I q => h.run pins s σ H D I (w D σ H q)⟩
theorem PIw {X : Cx} {g e : Expr} {t t' : TI} (h : PI X g e t) (w : ∀ σ H Q, t' σ H Q → t σ H Q) : PI X g e t' := ⟨fun pins s σ H Q I q => h.run pins s σ H Q I (w σ H Q q)⟩
theorem PGw {X : Cx} {e : Expr} {t t' : TG} (h : PG X e t) (w : ∀ v σ H Q, t' v σ H Q → t v σ H Q) : PG X e t' := ⟨fun pins s σ H v u Q I r q => h.run pins s σ H v u Q I r (w v σ H Q q)⟩
abbrev DE (X : Cx) (e : Expr) (f : SE) : Prop := PE X e (tD X.K f)
abbrev DT (X : Cx) (e : Expr) (f : SB) : Prop := PT X e (tT X.K f)
abbrev DA (X : Cx) (es : List Expr) (fs : List SE) : Prop := PA X es (tA X.K fs)
section
variable {X : Cx} {a b c e : Expr} {es : List Expr} {f g k : SE} {fs : List SE} {pos p p2 : Pos}
/-! ### names, constants -/
theorem de_var (i : Nat) {x : Str} (hN : X.N[i]? = some x := by rfl) (hv : Vis X.env.scope x := by first | exact Or.inl rfl | exact Or.inr (Or.inl rfl) | exact Or.inr (Or.inr rfl)) (hd : (x == ("__debug__" : Str)) = false := by decide)
    (hcd : (x == ("__classdict__" : Str)) = false := by decide) : DE X (.Name x pos) (sVar i) := by
  refine PEw (pe_var hN hv hd hcd) fun σ H Q h => ?_
  obtain ⟨G, O, r, a, s, e, q⟩ := h
  unfold sVar at e
  split at e
  · rename_i ds hr
    obtain ⟨v, h1, h2⟩ := s.slot i _ hr
    have e := Option.some.inj e
    subst e
    exact ⟨v, h1, q v H (Ex.refl H) h2⟩
  · rename_i a' hn hr
    obtain ⟨v, h1, h2⟩ := s.slot i _ hr
    have e := Option.some.inj e
    subst e
    refine ⟨v, h1, q v H (Ex.refl H) ?_⟩
    unfold RB at h2
    split at h2
    · exact h2
    · exact h2
    · exact h2
    · exact h2
    · first | exact (hn _ hr).elim | exact (hn _ rfl).elim
    · exact h2
    · exact h2.elim
  · cases e
theorem de_c {v : V} {x : Dt} (h : PE X e (tC v)) (hr : ∀ K H, Rp K H v x) : DE X e (sK (.d x)) := PEw h fun σ H Q ⟨G, O, r, a, s, e, q⟩ => by
  have e := Option.some.inj e
  subst e
  exact q v H (Ex.refl H) (hr _ _)
theorem de_int {i j} : DE X (.Constant (.int i) j pos) (sK (.i i)) := de_c pe_int fun _ _ => .int _
theorem de_bl {i j} : DE X (.Constant (.bool i) j pos) (sK (.b i)) := de_c pe_bl fun _ _ => .bl _
theorem de_str {i j} : DE X (.Constant (.str i) j pos) (sK (.d (.str i))) := de_c pe_str fun _ _ => .str _
theorem de_non {j} : DE X (.Constant .none j pos) (sK (.d .non)) := de_c pe_non fun _ _ => .non
/-- a module's int -/
theorem de_glob {x : Str} {i : Int} {u : Value} (hg : Gl X x) (hm : X.mg x = some u) (r : RelV (.int i) u) (hd : (x == ("__debug__" : Str)) = false := by decide) : DE X (.Name x pos) (sK (.i i)) := de_c (pe_glob hg hm r hd) fun _ _ => .int _
/-! ### operators -/
def R2ok (K : PySem.W.Frag) (r : R2) (h : Av → Av → Option Av) : Prop := ∀ G O H0 H x y u v c Q, Frm O G H → (∀ p, H p = none → H0 p = none) → RR K G O H0 H x u → RR K G O H0 H y v → h u v = some c → (∀ z H', Ex H H' → RR K G O H0 H' z c → Q z H') → r x y H Q
def R1ok (K : PySem.W.Frag) (r : V → Hp → VK → Prop) (h : Av → Option Av) : Prop := ∀ G O H0 H x u c Q, Frm O G H → (∀ p, H p = none → H0 p = none) → RR K G O H0 H x u → h u = some c → (∀ z H', Ex H H' → RR K G O H0 H' z c → Q z H') → r x H Q
theorem tD_s2 {r : R2} {h : Av → Av → Option Av} (hr : R2ok X.K r h) {σ : L2.St} {H : Hp} {Q : VK} (q : tD X.K (s2 h f g) σ H Q) : tOp r (tD X.K f) (tD X.K g) σ H Q := by
  obtain ⟨G, O, ρ, c, s, e, q⟩ := q
  simp only [s2, Option.bind_eq_some_iff] at e
  obtain ⟨u, e1, v, e2, e3⟩ := e
  refine ⟨G, O, ρ, u, s, e1, fun x H1 x1 r1 => ⟨G, O, ρ, v, s.ex x1, e2, fun y H2 x2 r2 => ?_⟩⟩
  exact hr G O H H2 x y u v c Q ((s.ex x1).ext.ex x2) (fun p hp => (x1.trans x2).free hp) (r1.ex x2) (r2.back fun p => x1.free) e3 fun z H' x3 r3 => q z H' ((x1.trans x2).trans x3) r3
theorem tD_s1 {r : V → Hp → VK → Prop} {h : Av → Option Av} (hr : R1ok X.K r h) {σ : L2.St} {H : Hp} {Q : VK} (q : tD X.K (s1 h f) σ H Q) : tUn r (tD X.K f) σ H Q := by
  obtain ⟨G, O, ρ, c, s, e, q⟩ := q
  simp only [s1, Option.bind_eq_some_iff] at e
  obtain ⟨u, e1, e3⟩ := e
  exact ⟨G, O, ρ, u, s, e1, fun x H1 x1 r1 => hr G O H H1 x u c Q (s.ext.ex x1) (fun p => x1.free) r1 e3 fun z H' x3 r3 => q z H' (x1.trans x3) r3⟩
theorem de_op {op : Operator} {r : R2} {h : Av → Av → Option Av} (ho : OpR X (binaryOp op) r) (hr : R2ok X.K r h) (ha : DE X a f) (hb : DE X b g) : DE X (.BinOp a op b pos) (s2 h f g) := PEw (pe_op ho ha hb) fun _ _ _ => tD_s2 hr
theorem de_un {op : UnaryOp} {r : V → Hp → VK → Prop} {h : Av → Option Av} (ho : UnR X (unaryOp op) r) (hr : R1ok X.K r h) (ha : DE X a f) : DE X (.UnaryOp op a pos) (s1 h f) := PEw (pe_un ho ha) fun _ _ _ => tD_s1 hr
theorem de_cmp {op : CmpOp} {r : R2} {h : Av → Av → Option Av} (ho : OpR X (compareOp op) r) (hr : R2ok X.K r h) (ha : DE X a f) (hb : DE X b g) (hm : behindInMarks op b = false) : DE X (.Compare a [op] [b] pos) (s2 h f g) := PEw (pe_cmpR ho ha hb hm) fun _ _ _ => tD_s2 hr
/-- a reading's value is a bool -/
theorem tD_test {σ : L2.St} {H : Hp} {Q : Bool → Hp → Prop} (q : tT X.K (bOf f) σ H Q) : tD X.K f σ H fun x H' => ∃ k, x = .bl k ∧ Q k H' := by
  obtain ⟨G, O, ρ, c, s, e, q⟩ := q
  simp only [bOf, Option.bind_eq_some_iff] at e
  obtain ⟨u, e1, e3⟩ := e
  exact ⟨G, O, ρ, u, s, e1, fun x H1 x1 r1 => ⟨c, r1.vbl e3, q H1 x1⟩⟩
theorem dt_cmp {op : CmpOp} {r : R2} {h : Av → Av → Option Av} (ho : OpR X (compareOp op) r) (hr : R2ok X.K r h) (ha : DE X a f) (hb : DE X b g) (hm : behindInMarks op b = false) : DT X (.Compare a [op] [b] pos) (bOf (s2 h f g)) :=
  PTw (pt_cmpR ho ha hb hm) fun σ H Q q => tD_s2 hr (tD_test q)
theorem dt_val (h : DE X e f) (he : ∀ whole, isTrue e X.env whole = (do let v ← whole; standAt e.pos; holding [v] (truthy v)) := by intro _; rfl) : DT X e (bOf f) := PTw (pt_val h he) fun σ H Q q => tD_test q
/-! ### the operators' sides -/
theorem ok_oI {K : PySem.W.Frag} {C : Int → Int → Prop} [∀ i j, Decidable (C i j)] {g : Int → Int → Int} : R2ok K (rI C fun i j => .int (g i j)) (oI C g) := by
  intro G O H0 H x y u v c Q _ _ r1 r2 e k
  simp only [oI, Option.bind_eq_some_iff] at e
  obtain ⟨i, e1, j, e2, e3⟩ := e
  split at e3
  · rename_i hc
    have e3 := Option.some.inj e3
    subst e3
    exact ⟨i, j, r1.vint e1, r2.vint e2, hc, k _ H (Ex.refl H) (Rp.int _)⟩
  · cases e3
theorem ok_oB {K : PySem.W.Frag} {g : Int → Int → Bool} : R2ok K (rI0 fun i j => .bl (g i j)) (oB g) := by
  intro G O H0 H x y u v c Q _ _ r1 r2 e k
  simp only [oB, Option.bind_eq_some_iff] at e
  obtain ⟨i, e1, j, e2, e3⟩ := e
  have e3 := Option.some.inj e3
  subst e3
  exact ⟨i, j, r1.vint e1, r2.vint e2, k _ H (Ex.refl H) (Rp.bl _)⟩
theorem ok_neg {K : PySem.W.Frag} : R1ok K (rU fun i => .int (-i)) oNeg := by
  intro G O H0 H x u c Q _ _ r1 e k
  simp only [oNeg, Option.bind_eq_some_iff] at e
  obtain ⟨i, e1, e3⟩ := e
  have e3 := Option.some.inj e3
  subst e3
  exact ⟨i, r1.vint e1, k _ H (Ex.refl H) (Rp.int _)⟩
theorem small_line {n : Nat} (h : n ≤ 1000000) : n ≤ sizeLine := Nat.le_trans h (by decide)
theorem small_lt {n : Nat} (h : n < 1000000) : n < sizeLine := Nat.lt_of_lt_of_le h (by decide)
def rAddX : R2 := fun x y H Q => rI0 (fun i j => .int (i + j)) x y H Q ∨ rCat x y H Q
theorem op_addX : OpR X (binaryOp .Add) rAddX := op_add.or op_cat
theorem ok_add {K : PySem.W.Frag} : R2ok K rAddX oAdd := by
  intro G O H0 H x y u v c Q fm db r1 r2 e k
  unfold oAdd at e
  split at e
  · have e := Option.some.inj e
    subst e
    exact .inl ⟨_, _, r1.int, r2.int, k _ H (Ex.refl H) (Rp.int _)⟩
  · split at e
    · rename_i hc
      have e := Option.some.inj e
      subst e
      obtain ⟨p, vs, e1, h1, q1⟩ := r1.listM hc.1
      obtain ⟨p', ws, e2, h2, q2⟩ := r2.listM hc.2.1
      refine .inr ⟨p, p', vs, ws, e1, e2, h1, h2, ?_, fun np hnp => k _ _ (Ex.new hnp) ?_⟩
      · rw [q1.length, q2.length]
        exact small_line hc.2.2
      · exact ⟨np, vs ++ ws, rfl, db _ hnp, upd_same, (q1.append q2).mono (Ex.new hnp).tl⟩
    · cases e
  · cases e
theorem ok_sub {K : PySem.W.Frag} : R2ok K (rI0 fun i j => .int (i - j)) oSub := by
  intro G O H0 H x y u v c Q fm db r1 r2 e k
  unfold oSub at e
  split at e
  · have e := Option.some.inj e
    subst e
    exact ⟨_, _, r1.int, r2.int, k _ H (Ex.refl H) (Rp.int _)⟩
  · cases e
def CMulX (i j : Int) : Prop := CMul i j ∨ CMulW i j
theorem CMulX.ok {i j : Int} (h : CMulX i j) : IntMulOk i j := by
  rcases h with h | h
  · exact h.ok
  · exact h.ok
def rMulX : R2 := fun x y H Q => rI CMulX (fun i j => .int (i * j)) x y H Q ∨ rRep x y H Q
theorem op_mulX : OpR X (binaryOp .Mult) rMulX := (opI fun _ _ _ _ _ _ _ hc q => mul_int q hc.ok : OpR X (binaryOp .Mult) (rI CMulX fun i j => .int (i * j))).or op_rep
theorem ok_mul {K : PySem.W.Frag} : R2ok K rMulX oMul := by
  intro G O H0 H x y u v c Q fm db r1 r2 e k
  unfold oMul at e
  split at e
  · split at e
    · rename_i i j hc
      have e := Option.some.inj e
      subst e
      refine .inl ⟨_, _, r1.int, r2.int, ?_, k _ H (Ex.refl H) (Rp.int _)⟩
      rcases hc with hc | hc | hc
      · refine .inl (.inl ?_)
        have : (i.natAbs : Int) < 2 ^ 64 := by exact_mod_cast hc
        omega
      · refine .inl (.inr ?_)
        have : (j.natAbs : Int) < 2 ^ 64 := by exact_mod_cast hc
        omega
      · exact .inr hc
    · cases e
  · split at e
    · rename_i hc
      have e := Option.some.inj e
      subst e
      obtain ⟨p, vs, e1, h1, q1⟩ := r1.listM hc.1
      refine .inr ⟨p, _, vs, e1, r2.int, h1, by omega, by omega, ?_, fun np hnp => k _ _ (Ex.new hnp) ?_⟩
      · rw [q1.length]
        exact small_line hc.2.2.2
      · exact ⟨np, _, rfl, db _ hnp, upd_same, (q1.rep _).mono (Ex.new hnp).tl⟩
    · cases e
  · cases e
theorem ok_fdiv {K : PySem.W.Frag} : R2ok K (rI CDivW fun i j => .int (i / j)) oFdiv := ok_oI (C := fun _ j => 0 < j ∧ j.natAbs.log2 < 9000)
theorem ok_isN {K : PySem.W.Frag} : R2ok K (fun x y H Q => y = .non ∧ Q (.bl (decide (x = .non))) H) oIs := by
  intro G O H0 H x y u v c Q fm db r1 r2 e k
  unfold oIs at e
  split at e
  · have hy : Rp K H y .non := r2
    cases hy
    refine ⟨rfl, ?_⟩
    unfold oIsN at e
    split at e
    · have e := Option.some.inj e
      subst e
      have hx : Rp K H x .non := r1
      cases hx
      exact k _ H (Ex.refl H) (Rp.bl _)
    · rename_i w hw
      have e := Option.some.inj e
      subst e
      have hx : x ≠ .non := fun z => by
        subst z
        have hx : Rp K H .non w := r1
        cases hx
        exact hw rfl
      rw [decide_eq_false hx]
      exact k _ H (Ex.refl H) (Rp.bl _)
    · have e := Option.some.inj e
      subst e
      obtain ⟨p, xs, rfl, _⟩ := r1.list fm
      exact k _ H (Ex.refl H) (Rp.bl _)
    · cases e
  · cases e
end
end S67

/-! KD: more expressions: ==, in, subscripts, slices, displays, chains, tests, conditional expressions, built-ins. -/
namespace S67
open PySem PySem.Spec PyProof.Rows L2
section
variable {X : Cx} {a b c e : Expr} {es : List Expr} {f g k : SE} {fs : List SE} {pos p p2 : Pos}
/-! ### == -/
def rEqX (K : PySem.W.Frag) : R2 := fun x y H Q => ∃ d e, Dp K H x d ∧ Dp K H y e ∧ d.plain = true ∧ e.plain = true ∧ min d.depth e.depth ≤ 33 ∧ Q (.bl (PyData.eqv d e)) H
def rNeX (K : PySem.W.Frag) : R2 := fun x y H Q => ∃ d e, Dp K H x d ∧ Dp K H y e ∧ d.plain = true ∧ e.plain = true ∧ min d.depth e.depth ≤ 33 ∧ Q (.bl (!PyData.eqv d e)) H
theorem op_eqX (hu : X.A.units + 64 < cLine) : OpR X (compareOp .Eq) (rEqX X.K) := by
  intro pins s σ H x y v u Q I rx ry h
  obtain ⟨d, e, hd, he, sd, se, hm, q⟩ := h
  obtain ⟨as, r1⟩ := Dp.reads I d x v hd rx
  obtain ⟨bs, r2⟩ := Dp.reads I e y u he ry
  exact SeqAt.eq_plain r1 r2 sd se (by omega) ⟨.bl _, H, I, rfl, q⟩
theorem op_neX (hu : X.A.units + 64 < cLine) : OpR X (compareOp .NotEq) (rNeX X.K) := by
  intro pins s σ H x y v u Q I rx ry h
  obtain ⟨d, e, hd, he, sd, se, hm, q⟩ := h
  obtain ⟨as, r1⟩ := Dp.reads I d x v hd rx
  obtain ⟨bs, r2⟩ := Dp.reads I e y u he ry
  exact SeqAt.ne_plain r1 r2 sd se (by omega) ⟨.bl _, H, I, rfl, q⟩
theorem eqA_dp {K : PySem.W.Frag} {G : Hp} {O : Option Addr} {H0 H : Hp} {x y : V} {u v : Av} {c : Bool} (fm : Frm O G H) (r1 : RR K G O H0 H x u) (r2 : RR K G O H0 H y v) (e : eqA u v = some c) :
    ∃ d e, Dp K H x d ∧ Dp K H y e ∧ d.plain = true ∧ e.plain = true ∧ min d.depth e.depth ≤ 33 ∧ PyData.eqv d e = c := by
  unfold eqA at e
  split at e
  · rename_i dx dy
    split at e
    · rename_i hm
      refine ⟨dx.py, dy.py, Rp.dp r1, Rp.dp r2, py_plain _, py_plain _, ?_, (eqv_py dx dy).trans (Option.some.inj e)⟩
      rw [py_depth, py_depth]
      omega
    · cases e
  · rename_i k1 xs k2 ys
    split at e
    · rename_i hm
      obtain ⟨p1, vs1, rfl, h1, q1⟩ := r1.list fm
      obtain ⟨p2, vs2, rfl, h2, q2⟩ := r2.list fm
      refine ⟨.list (pys xs), .list (pys ys), .lst h1 q1.dp, .lst h2 q2.dp, ?_, ?_, ?_, ?_⟩
      · rw [PyData.plain, pys_plain]
      · rw [PyData.plain, pys_plain]
      · rw [PyData.depth, PyData.depth, pys_depth, pys_depth]
        omega
      · rw [PyData.eqv, eqvs_py]
        exact Option.some.inj e
    · cases e
  · cases e
theorem ok_eq {K : PySem.W.Frag} : R2ok K (rEqX K) oEq := by
  intro G O H0 H x y u v c Q fm db r1 r2 e k
  simp only [oEq, Option.map_eq_some_iff] at e
  obtain ⟨b, e1, rfl⟩ := e
  obtain ⟨d, e, h1, h2, h3, h4, h5, h6⟩ := eqA_dp fm r1 r2 e1
  refine ⟨d, e, h1, h2, h3, h4, h5, ?_⟩
  rw [h6]
  exact k _ H (Ex.refl H) (Rp.bl _)
theorem ok_ne {K : PySem.W.Frag} : R2ok K (rNeX K) oNe := by
  intro G O H0 H x y u v c Q fm db r1 r2 e k
  simp only [oNe, Option.map_eq_some_iff] at e
  obtain ⟨b, e1, rfl⟩ := e
  obtain ⟨d, e, h1, h2, h3, h4, h5, h6⟩ := eqA_dp fm r1 r2 e1
  refine ⟨d, e, h1, h2, h3, h4, h5, ?_⟩
  rw [h6]
  exact k _ H (Ex.refl H) (Rp.bl _)
/-! ### in -/
def rInX (K : PySem.W.Frag) (neg : Bool) : R2 := fun x y H Q => ∃ d ds, Dp K H x d ∧ (Dp K H y (.list ds) ∨ Dp K H y (.tuple ds)) ∧ d.plain = true ∧ PyData.plainAll ds = true ∧ d.depth ≤ 32 ∧ Q (.bl (if neg then !ds.any (fun z => PyData.eqv z d) else ds.any fun z => PyData.eqv z d)) H
theorem op_inX (hu : X.A.units + 64 < cLine) : OpR X (compareOp .In) (rInX X.K false) := by
  intro pins s σ H x y v u Q I rx ry h
  obtain ⟨d, ds, hd, he, sd, se, hm, q⟩ := h
  obtain ⟨as, r1⟩ := Dp.reads I d x v hd rx
  rcases he with he | he
  · obtain ⟨bs, r2⟩ := Dp.reads I _ y u he ry
    exact SeqAt.in_list_data r2 r1 se sd (by omega) ⟨.bl _, H, I, rfl, q⟩
  · obtain ⟨bs, r2⟩ := Dp.reads I _ y u he ry
    exact SeqAt.in_tuple_data r2 r1 se sd (by omega) ⟨.bl _, H, I, rfl, q⟩
theorem op_notInX (hu : X.A.units + 64 < cLine) : OpR X (compareOp .NotIn) (rInX X.K true) := by
  intro pins s σ H x y v u Q I rx ry h
  obtain ⟨d, ds, hd, he, sd, se, hm, q⟩ := h
  obtain ⟨as, r1⟩ := Dp.reads I d x v hd rx
  rcases he with he | he
  · obtain ⟨bs, r2⟩ := Dp.reads I _ y u he ry
    exact SeqAt.notIn_list_data r2 r1 se sd (by omega) ⟨.bl _, H, I, rfl, q⟩
  · obtain ⟨bs, r2⟩ := Dp.reads I _ y u he ry
    exact SeqAt.notIn_tuple_data r2 r1 se sd (by omega) ⟨.bl _, H, I, rfl, q⟩
theorem any_py (x : Dt) (ys : List Dt) : ((pys ys).any fun z => PyData.eqv z x.py) = ys.any fun y => eqD y x := by
  rw [pys_map, List.any_map]
  congr 1
  funext y
  exact eqv_py y x
theorem in_dp {K : PySem.W.Frag} {G : Hp} {O : Option Addr} {H0 H : Hp} {y : V} {v : Av} {ys : List Dt} (fm : Frm O G H) (r2 : RR K G O H0 H y v) (e : vSeq v = some ys) : Dp K H y (.list (pys ys)) ∨ Dp K H y (.tuple (pys ys)) := by
  obtain ⟨p, xs, rfl, h | h, q⟩ := r2.seq fm e
  · exact .inl (.lst h q.dp)
  · exact .inr (.tup h q.dp)
theorem ok_in {K : PySem.W.Frag} : R2ok K (rInX K false) oIn := by
  intro G O H0 H x y u v c Q fm db r1 r2 e k
  simp only [oIn, Option.bind_eq_some_iff] at e
  obtain ⟨d, e1, ys, e2, e3⟩ := e
  split at e3
  · rename_i hd
    have e3 := Option.some.inj e3
    subst e3
    refine ⟨d.py, pys ys, (r1.vdat e1).dp, in_dp fm r2 e2, py_plain _, pys_plain _, by rw [py_depth]; exact hd, ?_⟩
    rw [any_py]
    exact k _ H (Ex.refl H) (Rp.bl _)
  · cases e3
theorem ok_notIn {K : PySem.W.Frag} : R2ok K (rInX K true) oNotIn := by
  intro G O H0 H x y u v c Q fm db r1 r2 e k
  simp only [oNotIn, Option.bind_eq_some_iff] at e
  obtain ⟨d, e1, ys, e2, e3⟩ := e
  split at e3
  · rename_i hd
    have e3 := Option.some.inj e3
    subst e3
    refine ⟨d.py, pys ys, (r1.vdat e1).dp, in_dp fm r2 e2, py_plain _, pys_plain _, by rw [py_depth]; exact hd, ?_⟩
    rw [any_py]
    exact k _ H (Ex.refl H) (Rp.bl _)
  · cases e3
/-! ### a[b] -/
theorem ixA_eq (n : Nat) (i : Int) : ixA n i = ixN n i := rfl
def rIxX (K : PySem.W.Frag) : R2 := fun x y H Q => rIxL K x y H Q ∨ rIxT K x y H Q
theorem ix_X : IxR X (rIxX X.K) := ix_list.or ix_tup
theorem ixSeq {K : PySem.W.Frag} {H : Hp} {xs : List Dt} {vs : List V} {i : Int} {z : Dt} (q : Rps K H vs xs) (e : ((ixA xs.length i).bind fun j => xs[j]?) = some z) : ∃ v, atI vs i = some v ∧ Rp K H v z := by
  simp only [Option.bind_eq_some_iff] at e
  obtain ⟨j, e1, e2⟩ := e
  obtain ⟨v, h1, h2⟩ := q.get e2
  refine ⟨v, ?_, h2⟩
  unfold atI
  rw [q.length, ← ixA_eq, e1]
  exact h1
theorem ok_ix {K : PySem.W.Frag} : R2ok K (rIxX K) oIxS := by
  intro G O H0 H x y u v c Q fm db r1 r2 e k
  unfold oIxS at e
  split at e
  · simp only [Option.map_eq_some_iff] at e
    obtain ⟨z, e1, rfl⟩ := e
    have r1 : Rp K H x (.tup _) := r1
    cases r1 with
    | tup h1 h2 =>
      obtain ⟨w, h3, h4⟩ := ixSeq h2 e1
      exact .inr ⟨_, _, _, w, rfl, r2.int, SqT.of h1, h3, k w H (Ex.refl H) h4⟩
  · simp only [Option.map_eq_some_iff] at e
    obtain ⟨z, e1, rfl⟩ := e
    obtain ⟨p, vs, rfl, h1, h2⟩ := r1.list fm
    obtain ⟨w, h3, h4⟩ := ixSeq h2 e1
    exact .inl ⟨_, _, _, w, rfl, r2.int, h1, h3, k w H (Ex.refl H) h4⟩
  · cases e
theorem de_ix (ha : DE X a f) (hb : DE X b g) (hs : PlainIx b := by exact fun _ _ => rfl) : DE X (.Subscript a b pos) (s2 oIxS f g) := PEw (pe_ix ix_X ha hb hs) fun _ _ _ => tD_s2 ok_ix
/-! ### dicts -/
theorem keyAt {K : PySem.W.Frag} {H : Hp} {y : V} {i j : Int} (h : Rp K H y (.tup [.int i, .int j])) : ∃ a, y = .ref a ∧ H a = some (.tup (([Sum.inl i, Sum.inl j] : List Key).map kV)) := by
  cases h with
  | tup h1 h2 =>
    cases h2 with
    | cons q1 q2 =>
      cases q2 with
      | cons q3 q4 =>
        cases q4
        cases q1
        cases q3
        exact ⟨_, rfl, h1⟩
theorem mGet_val (k : Int × Int) : ∀ kvs : List ((Int × Int) × Int), valV (cvM kvs) [Sum.inl k.1, Sum.inl k.2] = (mGet kvs k).map V.int
  | [] => rfl
  | e :: r => by
    have ih := mGet_val k r
    unfold mGet at ih ⊢
    show valV (([Sum.inl e.1.1, Sum.inl e.1.2], V.int e.2) :: cvM r) _ = _
    by_cases h : e.1 = k
    · rw [valV_pos (by rw [← h]), List.find?_cons_of_pos (by simp [h])]
      rfl
    · rw [valV_neg (fun z => h ?_), List.find?_cons_of_neg (by simp [h])]
      · exact ih
      · simp only [List.cons.injEq, Sum.inl.injEq, and_true] at z
        exact Prod.ext z.1 z.2
theorem cvM_length (kvs : List ((Int × Int) × Int)) : (cvM kvs).length = kvs.length := by simp [cvM]
theorem mPut_put (k : Int × Int) (v : Int) (kvs : List ((Int × Int) × Int)) : putK (cvM kvs) [Sum.inl k.1, Sum.inl k.2] (V.int v) = cvM (mPut kvs k v) := by
  have hk : ∀ e : (Int × Int) × Int, decide (([Sum.inl e.1.1, Sum.inl e.1.2] : List Key) = [Sum.inl k.1, Sum.inl k.2]) = decide (e.1 = k) := fun e => by
    have h : (([Sum.inl e.1.1, Sum.inl e.1.2] : List Key) = [Sum.inl k.1, Sum.inl k.2]) ↔ e.1 = k :=
      ⟨fun z => by
        simp only [List.cons.injEq, Sum.inl.injEq, and_true] at z
        exact Prod.ext z.1 z.2, fun z => by rw [z]⟩
    simp only [h]
  have ha : ((cvM kvs).any fun kv => decide (kv.1 = [Sum.inl k.1, Sum.inl k.2])) = kvs.any fun e => decide (e.1 = k) := by
    unfold cvM
    rw [List.any_map]
    congr 1
    funext e
    exact hk e
  unfold putK mPut
  rw [ha]
  split
  · unfold cvM
    rw [List.map_map, List.map_map]
    apply List.map_congr_left
    intro e _
    show (if ([Sum.inl e.1.1, Sum.inl e.1.2] : List Key) = [Sum.inl k.1, Sum.inl k.2] then _ else _) = _
    have := hk e
    by_cases h : e.1 = k
    · have h2 : ([Sum.inl e.1.1, Sum.inl e.1.2] : List Key) = [Sum.inl k.1, Sum.inl k.2] := by rw [h]
      rw [if_pos h2]
      show _ = ((fun e : (Int × Int) × Int => (([Sum.inl e.1.1, Sum.inl e.1.2] : List Key), V.int e.2)) (if e.1 = k then (e.1, v) else e))
      rw [if_pos h]
    · have h2 : ¬ ([Sum.inl e.1.1, Sum.inl e.1.2] : List Key) = [Sum.inl k.1, Sum.inl k.2] := fun z => h (by
        simp only [List.cons.injEq, Sum.inl.injEq, and_true] at z
        exact Prod.ext z.1 z.2)
      rw [if_neg h2]
      show _ = ((fun e : (Int × Int) × Int => (([Sum.inl e.1.1, Sum.inl e.1.2] : List Key), V.int e.2)) (if e.1 = k then (e.1, v) else e))
      rw [if_neg h]
  · unfold cvM
    rw [List.map_append]
    rfl
theorem de_ixM (hu : X.A.units + 1 < cLine) (ha : DE X a f) (hb : DE X b g) (hs : NoSl b := by exact fun _ _ => rfl) : DE X (.Subscript a b pos) (s2 oIxM f g) := PEw (pe_dget hu ha hb hs) fun σ H Q q => by
  obtain ⟨G, O, ρ, c, s, e, q⟩ := q
  simp only [s2, Option.bind_eq_some_iff] at e
  obtain ⟨u, e1, v, e2, e3⟩ := e
  refine ⟨G, O, ρ, u, s, e1, fun x H1 x1 r1 => ⟨G, O, ρ, v, s.ex x1, e2, fun y H2 x2 r2 => ?_⟩⟩
  unfold oIxM at e3
  split at e3
  · rename_i kvs i j
    simp only [Option.map_eq_some_iff] at e3
    obtain ⟨n, e4, rfl⟩ := e3
    obtain ⟨p, rfl, hp⟩ := r1.dict (s.ext.ex x1)
    obtain ⟨b', rfl, hb'⟩ := keyAt r2
    refine ⟨p, .int n, rfl, ?_, q _ H2 (x1.trans x2) (Rp.int _)⟩
    have := DGet.t (x2 _ _ hp) hb'
    rw [mGet_val (i, j), e4] at this
    exact this
  · cases e3
theorem isD_T {H : Hp} {p : Addr} {kvs : List (List Key × V)} (h : H p = some (.dT kvs)) : IsD H p := .inr ⟨kvs, .inl h⟩
theorem de_get {apos cpos : Pos} (hu : X.A.units + 1 < cLine) (ha : DE X a f) (hb : DE X b g) (hc : DE X c k) (m : M2 X a "get" apos b c cpos) : DE X (.Call (.Attribute a "get" apos) [b, c] [] cpos) (s3 oGet f g k) := PEw (pe_dget2 hu ha hb hc m) fun σ H Q q => by
  obtain ⟨G, O, ρ, c, s, e, q⟩ := q
  simp only [s3, Option.bind_eq_some_iff] at e
  obtain ⟨u, e1, v, e2, w, e3, e4⟩ := e
  refine ⟨G, O, ρ, u, s, e1, fun x H1 x1 r1 => ?_⟩
  unfold oGet at e4
  split at e4
  · rename_i kvs i j z
    have e4 := Option.some.inj e4
    subst e4
    obtain ⟨p, rfl, hp⟩ := r1.dict (s.ext.ex x1)
    refine ⟨p, rfl, isD_T hp, G, O, ρ, _, s.ex x1, e2, fun y H2 x2 r2 => ⟨G, O, ρ, _, (s.ex x1).ex x2, e3, fun d H3 x3 r3 => ?_⟩⟩
    obtain ⟨b', rfl, hb'⟩ := keyAt r2
    have g := DGet.t (x3 _ _ (x2 _ _ hp)) (x3 _ _ hb')
    rw [mGet_val (i, j)] at g
    refine ⟨_, g, ?_⟩
    rw [r3.int]
    have e5 : ((mGet kvs (i, j)).map V.int).getD (.int z) = .int ((mGet kvs (i, j)).getD z) := by cases mGet kvs (i, j) <;> rfl
    rw [e5]
    exact q _ H3 ((x1.trans x2).trans x3) (Rp.int _)
  · cases e4
/-! ### slices -/
def tO (K : PySem.W.Frag) (o : SP1) : TO := fun σ H Q => ∃ G O r i, RS K G O σ H r ∧ o r = some i ∧ ∀ H', Ex H H' → Q i H'
abbrev DO (X : Cx) (e : Option Expr) (o : SP1) : Prop := PO X e (tO X.K o)
theorem do_no : DO X none pNo := ⟨fun pins s σ H Q I h => po_none.run pins s σ H Q I (by
  obtain ⟨G, O, r, i, _, e, q⟩ := h
  have e := Option.some.inj e
  subst e
  exact q H (Ex.refl H))⟩
theorem do_yes (h : DE X e f) : DO X (some e) (pYes f) := ⟨fun pins s σ H Q I q => (po_some h).run pins s σ H Q I (by
  obtain ⟨G, O, r, i, s, e, q⟩ := q
  simp only [pYes, Option.map_eq_some_iff, Option.bind_eq_some_iff] at e
  obtain ⟨j, ⟨u, e1, e2⟩, rfl⟩ := e
  exact ⟨G, O, r, u, s, e1, fun x H1 x1 r1 => ⟨j, r1.vint e2, q H1 x1⟩⟩)⟩
theorem cutIx_eq (n d : Nat) (o : Option Int) : cutIx n d o = HT.sIx n d o := by
  cases o with
  | none => rfl
  | some v =>
    have h := HT.clip_eq v n d
    unfold cutIx
    simp only
    split at h <;> rename_i hv
    · rw [if_pos hv]
      omega
    · rw [if_neg hv]
      omega
theorem cutD_rps {K : PySem.W.Frag} {H : Hp} {xs : List Dt} {vs : List V} (q : Rps K H vs xs) (lo hi : Option Int) : Rps K H (cutV vs lo hi) (cutD xs lo hi) := by
  unfold cutV cutD
  rw [cutIx_eq, cutIx_eq, ← q.length]
  exact (q.drop _).take _
def rSlX (K : PySem.W.Frag) : V → Option Int → Option Int → Hp → VK → Prop := fun x lo hi H Q => rSlL K x lo hi H Q ∨ rSlA K x lo hi H Q
theorem sl_X : SlR X (rSlX X.K) := sl_list.or sl_tupA
theorem de_cut {lo hi : Option Expr} {o1 o2 : SP1} (ha : DE X a f) (hl : DO X lo o1) (hh : DO X hi o2) : DE X (.Subscript a (.Slice lo hi none p2) pos) (sCut f o1 o2) := PEw (pe_slice sl_X ha hl hh) fun σ H Q q => by
  obtain ⟨G, O, ρ, c, s, e, q⟩ := q
  simp only [sCut, Option.bind_eq_some_iff] at e
  obtain ⟨u, e1, i, e2, j, e3, e4⟩ := e
  refine ⟨G, O, ρ, u, s, e1, fun x H1 x1 r1 => ⟨G, O, ρ, i, s.ex x1, e2, fun H2 x2 => ⟨G, O, ρ, j, (s.ex x1).ex x2, e3, fun H3 x3 => ?_⟩⟩⟩
  have xx := (x1.trans x2).trans x3
  have r1 := r1.ex (x2.trans x3)
  unfold oCut at e4
  split at e4
  · have e4 := Option.some.inj e4
    subst e4
    have r1 : Rp X.K H3 x (.tup _) := r1
    cases r1 with
    | tup h1 h2 =>
      refine .inr ⟨_, _, rfl, SqT.of h1, fun hw => ?_, fun _ p hp => ?_⟩
      · refine q _ H3 xx (Rp.tup h1 ?_)
        have := cutD_rps h2 i j
        unfold cutV at this
        rw [hw.1, hw.2, List.drop_zero, Nat.sub_zero, List.take_length] at this
        exact this
      · exact q _ _ (xx.trans (Ex.new hp)) (Rp.tup upd_same ((cutD_rps h2 i j).mono (Ex.new hp).tl))
  · have e4 := Option.some.inj e4
    subst e4
    obtain ⟨p1, vs, rfl, h1, h2⟩ := r1.list (s.ext.ex xx)
    refine .inl ⟨_, _, rfl, h1, fun p hp => ?_⟩
    exact q _ _ (xx.trans (Ex.new hp)) ⟨p, _, rfl, xx.free hp, upd_same, (cutD_rps h2 i j).mono (Ex.new hp).tl⟩
  · cases e4
/-! ### displays -/
theorem da_nil : DA X [] [] := PAw pa_nil fun σ H Q ⟨G, O, r, as, s, e, q⟩ => by
  have e := Option.some.inj e
  subst e
  exact q [] H (Ex.refl H) .nil
theorem RRs.ex {K : PySem.W.Frag} {G : Hp} {O : Option Addr} {H0 H H' : Hp} (x : Ex H H') : ∀ {vs : List V} {as : List Av}, RRs K G O H0 H vs as → RRs K G O H0 H' vs as
  | _, _, .nil => .nil
  | _, _, .cons h t => .cons (h.ex x) (RRs.ex x t)
theorem RRs.back {K : PySem.W.Frag} {G : Hp} {O : Option Addr} {H0 H1 H : Hp} (x : ∀ p, H1 p = none → H0 p = none) : ∀ {vs : List V} {as : List Av}, RRs K G O H1 H vs as → RRs K G O H0 H vs as
  | _, _, .nil => .nil
  | _, _, .cons h t => .cons (h.back x) (RRs.back x t)
theorem da_cons (ha : DE X e f) (hr : DA X es fs) (hs : starEach (e :: es) X.env = (false, eval e X.env) :: starEach es X.env := by rfl) : DA X (e :: es) (f :: fs) := PAw (pa_cons ha hr hs) fun σ H Q ⟨G, O, r, as, s, e, q⟩ => by
  simp only [seqE, Option.bind_eq_some_iff, Option.map_eq_some_iff] at e
  obtain ⟨a, e1, bs, e2, rfl⟩ := e
  exact ⟨G, O, r, a, s, e1, fun x H1 x1 r1 => ⟨G, O, r, bs, s.ex x1, e2, fun xs H2 x2 r2 => q _ H2 (x1.trans x2) (.cons (r1.ex x2) (r2.back fun p => x1.free))⟩⟩
theorem RRs.dats {K : PySem.W.Frag} {G : Hp} {O : Option Addr} {H0 H : Hp} : ∀ {as : List Av} {vs : List V} {ds : List Dt}, RRs K G O H0 H vs as → vDats as = some ds → Rps K H vs ds
  | [], _, ds, h, e => by
    cases h
    have e : [] = ds := Option.some.inj e
    subst e
    exact .nil
  | .d x :: as, _, ds, h, e => by
    cases h with
    | cons h1 h2 =>
      simp only [vDats, Option.map_eq_some_iff] at e
      obtain ⟨es, e1, rfl⟩ := e
      exact .cons h1 (RRs.dats h2 e1)
  | .l _ _ :: as, _, ds, h, e => by cases e
  | .m _ _ :: as, _, ds, h, e => by cases e
  | .x _ :: as, _, ds, h, e => by cases e
theorem seqE_len : ∀ {fs : List SE} {r : Rho} {as : List Av}, seqE fs r = some as → as.length = fs.length
  | [], _, as, e => by
    have e : [] = as := Option.some.inj e
    subst e
    rfl
  | f :: fs, r, as, e => by
    simp only [seqE, Option.bind_eq_some_iff, Option.map_eq_some_iff] at e
    obtain ⟨a, e1, bs, e2, rfl⟩ := e
    show _ + 1 = _ + 1
    rw [seqE_len e2]
theorem de_tup {x1} (h : DA X es fs) (hl : fs.length ≤ 1000 := by decide) : DE X (.Tuple es x1 pos) (sTup fs) := PEw (pe_tup h) fun σ H Q ⟨G, O, r, c, s, e, q⟩ => by
  simp only [sTup, Option.bind_eq_some_iff, Option.map_eq_some_iff] at e
  obtain ⟨ds, ⟨as, e1, e2⟩, rfl⟩ := e
  refine ⟨G, O, r, as, s, e1, fun vs H1 x1 r1 => ⟨?_, fun p hp => ?_⟩⟩
  · rw [Paired.length r1, seqE_len e1]
    exact small_line (by omega)
  · exact q _ _ (x1.trans (Ex.new hp)) (Rp.tup upd_same ((r1.dats e2).mono (Ex.new hp).tl))
theorem de_lst (h : DA X es fs) (hl : fs.length ≤ 1000 := by decide) : DE X (.List es pos) (sLst fs) := PEw (pe_lst h) fun σ H Q ⟨G, O, r, c, s, e, q⟩ => by
  simp only [sLst, Option.bind_eq_some_iff, Option.map_eq_some_iff] at e
  obtain ⟨ds, ⟨as, e1, e2⟩, rfl⟩ := e
  refine ⟨G, O, r, as, s, e1, fun vs H1 x1 r1 => ⟨?_, fun p hp => ?_⟩⟩
  · rw [Paired.length r1, seqE_len e1]
    exact small_line (by omega)
  · exact q _ _ (x1.trans (Ex.new hp)) ⟨p, vs, rfl, x1.free hp, upd_same, (r1.dats e2).mono (Ex.new hp).tl⟩
/-! ### chains -/
theorem de_ch2 {op op' : CmpOp} {r r' : R2} {h h' : Av → Av → Option Av} (ho : OpR X (compareOp op) r) (hr : R2ok X.K r h) (ho' : OpR X (compareOp op') r') (hr' : R2ok X.K r' h') (ha : DE X a f) (hb : DE X b g) (hc : DE X c k)
    (hm : lastMarks [op, op'] [b, c] = false := by with_unfolding_all rfl) : DE X (.Compare a [op, op'] [b, c] pos) (sCh2 h h' f g k) := PEw (pe_chain ho ho' ha hb hc hm) fun σ H Q ⟨G, O, ρ, z, s, e, q⟩ => by
  simp only [sCh2, Option.bind_eq_some_iff] at e
  obtain ⟨u, e1, v, e2, t, ⟨w, e3, e4⟩, e5⟩ := e
  refine ⟨G, O, ρ, u, s, e1, fun x H1 x1 r1 => ⟨G, O, ρ, v, s.ex x1, e2, fun y H2 x2 r2 => ?_⟩⟩
  refine hr G O H H2 x y u v w _ ((s.ex x1).ext.ex x2) (fun p hp => (x1.trans x2).free hp) (r1.ex x2) (r2.back fun p => x1.free) e3 fun z' H3 x3 r3 => ⟨t, r3.vbl e4, ?_⟩
  have xx := (x1.trans x2).trans x3
  cases t with
  | false =>
    have e5 := Option.some.inj e5
    subst e5
    show Q (.bl false) H3
    exact q _ H3 xx (Rp.bl _)
  | true =>
    show tD X.K k σ H3 _
    simp only [if_true, Option.bind_eq_some_iff] at e5
    obtain ⟨d, e6, e7⟩ := e5
    refine ⟨G, O, ρ, d, s.ex xx, e6, fun y2 H4 x4 r4 => ?_⟩
    exact hr' G O H H4 y y2 v d z Q ((s.ex xx).ext.ex x4) (fun p hp => (xx.trans x4).free hp) ((r2.back fun p => x1.free).ex (x3.trans x4)) (r4.back fun p => xx.free) e7 fun z2 H5 x5 r5 => q z2 H5 ((xx.trans x4).trans x5) r5
theorem dt_ch2 {op op' : CmpOp} {r r' : R2} {h h' : Av → Av → Option Av} (ho : OpR X (compareOp op) r) (hr : R2ok X.K r h) (ho' : OpR X (compareOp op') r') (hr' : R2ok X.K r' h') (ha : DE X a f) (hb : DE X b g) (hc : DE X c k)
    (hm : lastMarks [op, op'] [b, c] = false := by with_unfolding_all rfl) : DT X (.Compare a [op, op'] [b, c] pos) (bOf (sCh2 h h' f g k)) := PTw (pt_chain ho ho' ha hb hc hm) fun σ H Q ⟨G, O, ρ, z, s, e, q⟩ => by
  simp only [bOf, sCh2, Option.bind_eq_some_iff] at e
  obtain ⟨zv, ⟨u, e1, v, e2, t, ⟨w, e3, e4⟩, e5⟩, ez⟩ := e
  refine ⟨G, O, ρ, u, s, e1, fun x H1 x1 r1 => ⟨G, O, ρ, v, s.ex x1, e2, fun y H2 x2 r2 => ?_⟩⟩
  refine hr G O H H2 x y u v w _ ((s.ex x1).ext.ex x2) (fun p hp => (x1.trans x2).free hp) (r1.ex x2) (r2.back fun p => x1.free) e3 fun z' H3 x3 r3 => ⟨t, r3.vbl e4, ?_⟩
  have xx := (x1.trans x2).trans x3
  cases t with
  | false =>
    have e5 := Option.some.inj e5
    subst e5
    have ez : false = z := Option.some.inj ez
    subst ez
    exact ⟨false, rfl, q H3 xx⟩
  | true =>
    show tD X.K k σ H3 _
    simp only [if_true, Option.bind_eq_some_iff] at e5
    obtain ⟨d, e6, e7⟩ := e5
    refine ⟨G, O, ρ, d, s.ex xx, e6, fun y2 H4 x4 r4 => ?_⟩
    exact hr' G O H H4 y y2 v d zv _ ((s.ex xx).ext.ex x4) (fun p hp => (xx.trans x4).free hp) ((r2.back fun p => x1.free).ex (x3.trans x4)) (r4.back fun p => xx.free) e7 fun z2 H5 x5 r5 => ⟨z, r5.vbl ez, q H5 ((xx.trans x4).trans x5)⟩
/-- three comparisons, as a test -/
theorem dt_ch3 {d : Expr} {m : SE} {op op' op'' : CmpOp} {r r' r'' : R2} {h h' h'' : Av → Av → Option Av} (ho : OpR X (compareOp op) r) (hr : R2ok X.K r h) (ho' : OpR X (compareOp op') r') (hr' : R2ok X.K r' h') (ho'' : OpR X (compareOp op'') r'') (hr'' : R2ok X.K r'' h'')
    (ha : DE X a f) (hb : DE X b g) (hc : DE X c k) (hd : DE X d m) (hm : lastMarks [op, op', op''] [b, c, d] = false := by with_unfolding_all rfl) : DT X (.Compare a [op, op', op''] [b, c, d] pos) (bOf (sCh3 h h' h'' f g k m)) := by
  refine ⟨fun pins s σ H Q I q => ?_⟩
  obtain ⟨G, O, ρ, z, S, e, q⟩ := q
  simp only [bOf, sCh3, Option.bind_eq_some_iff] at e
  obtain ⟨zv, ⟨u, e1, v, e2, t, ⟨w, e3, e4⟩, e5⟩, ez⟩ := e
  refine isTrue_chain (thn (ha.run pins s σ H (fun x H1 => Ex H H1 ∧ RR X.K G O H H1 x u) I ⟨G, O, ρ, u, S, e1, fun x H1 x1 r1 => ⟨x1, r1⟩⟩) fun va s1 ⟨x, H1, I1, ra, x1, r1⟩ => test_link (thn (hb.run pins s1 σ H1 (fun y H2 => Ex H1 H2 ∧ RR X.K G O H1 H2 y v) I1 ⟨G, O, ρ, v, S.ex x1, e2, fun x H1 x1 r1 => ⟨x1, r1⟩⟩) fun vb s2 ⟨y, H2, I2, rb, x2, r2⟩ => ?_)) hm
  have r2 := r2.back (H0 := H) fun p => x1.free
  have w1 := hr G O H H2 x y u v w (fun z H' => Ex H2 H' ∧ RR X.K G O H H' z w) ((S.ex x1).ext.ex x2) (fun p hp => (x1.trans x2).free hp) (r1.ex x2) r2 e3 fun z' H3 x3 r3 => ⟨x3, r3⟩
  refine thn (ho pins s2 σ H2 x y va vb _ I2 ra rb w1) fun vc s3 ⟨z3, H3, I3, rc, x3, r3⟩ => ?_
  have xx := (x1.trans x2).trans x3
  have r3 := r3.vbl e4
  subst r3
  cases rc
  refine wpAny_truthy_bool ?_
  cases t with
  | false =>
    have e5 := Option.some.inj e5
    subst e5
    have ez : false = z := Option.some.inj ez
    subst ez
    exact ite_ff ⟨H3, I3, q H3 xx⟩
  | true =>
    simp only [if_true, Option.bind_eq_some_iff] at e5
    obtain ⟨dv, e6, t2, ⟨w2, e7, e8⟩, e9⟩ := e5
    refine ite_tt (test_link (thn (hc.run pins s3 σ H3 (fun y H2 => Ex H3 H2 ∧ RR X.K G O H3 H2 y dv) I3 ⟨G, O, ρ, dv, S.ex xx, e6, fun x H1 x1 r1 => ⟨x1, r1⟩⟩) fun vd s4 ⟨y4, H4, I4, rd, x4, r4⟩ => ?_))
    have xx4 := xx.trans x4
    have r4 := r4.back (H0 := H) fun p => xx.free
    have w2' := hr' G O H H4 y y4 v dv w2 (fun z H' => Ex H4 H' ∧ RR X.K G O H H' z w2) ((S.ex xx).ext.ex x4) (fun p hp => xx4.free hp) (r2.ex (x3.trans x4)) r4 e7 fun z' H3 x3 r3 => ⟨x3, r3⟩
    refine thn (ho' pins s4 σ H4 y y4 vb vd _ I4 rb rd w2') fun ve s5 ⟨z5, H5, I5, re, x5, r5⟩ => ?_
    have xx5 := xx4.trans x5
    have r5 := r5.vbl e8
    subst r5
    cases re
    refine wpAny_truthy_bool ?_
    cases t2 with
    | false =>
      have e9 := Option.some.inj e9
      subst e9
      have ez : false = z := Option.some.inj ez
      subst ez
      exact ite_ff ⟨H5, I5, q H5 xx5⟩
    | true =>
      simp only [if_true, Option.bind_eq_some_iff] at e9
      obtain ⟨xv, e10, e11⟩ := e9
      refine ite_tt (test_last (thn (hd.run pins s5 σ H5 (fun y H2 => Ex H5 H2 ∧ RR X.K G O H5 H2 y xv) I5 ⟨G, O, ρ, xv, S.ex xx5, e10, fun x H1 x1 r1 => ⟨x1, r1⟩⟩) fun vf s6 ⟨y6, H6, I6, rf, x6, r6⟩ => ?_))
      have xx6 := xx5.trans x6
      have r6 := r6.back (H0 := H) fun p => xx5.free
      have w3 := hr'' G O H H6 y4 y6 dv xv zv (fun z H' => Ex H6 H' ∧ RR X.K G O H H' z zv) ((S.ex xx5).ext.ex x6) (fun p hp => xx6.free hp) (r4.ex (x5.trans x6)) r6 e11 fun z' H3 x3 r3 => ⟨x3, r3⟩
      refine thn (ho'' pins s6 σ H6 y4 y6 vd vf _ I6 rd rf w3) fun vg s7 ⟨z7, H7, I7, rg, x7, r7⟩ => ?_
      have r7 := r7.vbl ez
      subst r7
      cases rg
      exact wpAny_truthy_bool ⟨H7, I7, q H7 (xx6.trans x7)⟩
end
end S67

/-! KF: tests, and/or/not, conditional expressions, the built-ins by their names. -/
namespace S67
open PySem PySem.Spec PyProof.Rows L2
section
variable {X : Cx} {a b c e : Expr} {es rest : List Expr} {f g k : SE} {fs : List SE} {t u : SB} {pos p p2 : Pos}
/-! ### and, or, not as tests -/
abbrev DW (X : Cx) (e : Expr) (f : SB) : Prop := PW X e (tT X.K f)
theorem dw_and1 (ha : DT X a t) : DW X (.BoolOp .And [a] pos) t := pw_and1 ha
theorem dw_or1 (ha : DT X a t) : DW X (.BoolOp .Or [a] pos) t := pw_or1 ha
theorem dw_and (ha : DT X a t) (hb : DW X (.BoolOp .And (b :: rest) pos) u) : DW X (.BoolOp .And (a :: b :: rest) pos) (bAnd t u) := PWw (pw_and ha hb) fun σ H Q ⟨G, O, ρ, z, s, e, q⟩ => by
  simp only [bAnd, Option.bind_eq_some_iff] at e
  obtain ⟨c, e1, e2⟩ := e
  refine ⟨G, O, ρ, c, s, e1, fun H1 x1 => ?_⟩
  cases c with
  | true =>
    rw [if_pos rfl] at e2 ⊢
    exact ⟨G, O, ρ, z, s.ex x1, e2, fun H2 x2 => q H2 (x1.trans x2)⟩
  | false =>
    rw [if_neg (by decide)] at e2 ⊢
    have e2 := Option.some.inj e2
    subst e2
    exact q H1 x1
theorem dw_or (ha : DT X a t) (hb : DW X (.BoolOp .Or (b :: rest) pos) u) : DW X (.BoolOp .Or (a :: b :: rest) pos) (bOr t u) := PWw (pw_or ha hb) fun σ H Q ⟨G, O, ρ, z, s, e, q⟩ => by
  simp only [bOr, Option.bind_eq_some_iff] at e
  obtain ⟨c, e1, e2⟩ := e
  refine ⟨G, O, ρ, c, s, e1, fun H1 x1 => ?_⟩
  cases c with
  | true =>
    rw [if_pos rfl] at e2 ⊢
    have e2 := Option.some.inj e2
    subst e2
    exact q H1 x1
  | false =>
    rw [if_neg (by decide)] at e2 ⊢
    exact ⟨G, O, ρ, z, s.ex x1, e2, fun H2 x2 => q H2 (x1.trans x2)⟩
theorem dt_w (h : DW X e t) : DT X e t := h.pt
theorem dt_not (ha : DT X a t) : DT X (.UnaryOp .Not a pos) (bNot t) := PTw (pt_not ha) fun σ H Q ⟨G, O, ρ, z, s, e, q⟩ => by
  simp only [bNot, Option.map_eq_some_iff] at e
  obtain ⟨c, e1, e2⟩ := e
  subst e2
  exact ⟨G, O, ρ, c, s, e1, fun H1 x1 => q H1 x1⟩
/-! ### as values -/
theorem de_one {op} (h : DE X a f) : DE X (.BoolOp op [a] pos) f := pe_one h
theorem de_and (ha : DE X a f) (hb : DE X (.BoolOp .And (b :: rest) pos) g) : DE X (.BoolOp .And (a :: b :: rest) pos) (sAnd f g) := PEw (pe_and ha hb) fun σ H Q ⟨G, O, ρ, z, s, e, q⟩ => by
  simp only [sAnd, Option.bind_eq_some_iff] at e
  obtain ⟨c, ⟨v, e1, e2⟩, e3⟩ := e
  refine ⟨G, O, ρ, v, s, e1, fun x H1 x1 r1 => ⟨c, r1.vbl e2, ?_⟩⟩
  cases c with
  | true =>
    rw [if_pos rfl] at e3 ⊢
    exact ⟨G, O, ρ, z, s.ex x1, e3, fun y H2 x2 r2 => q y H2 (x1.trans x2) (r2.back fun p => x1.free)⟩
  | false =>
    rw [if_neg (by decide)] at e3 ⊢
    have e3 := Option.some.inj e3
    subst e3
    exact q _ H1 x1 (Rp.bl _)
theorem de_or (ha : DE X a f) (hb : DE X (.BoolOp .Or (b :: rest) pos) g) : DE X (.BoolOp .Or (a :: b :: rest) pos) (sOr f g) := PEw (pe_or ha hb) fun σ H Q ⟨G, O, ρ, z, s, e, q⟩ => by
  simp only [sOr, Option.bind_eq_some_iff] at e
  obtain ⟨c, ⟨v, e1, e2⟩, e3⟩ := e
  refine ⟨G, O, ρ, v, s, e1, fun x H1 x1 r1 => ⟨c, r1.vbl e2, ?_⟩⟩
  cases c with
  | true =>
    rw [if_pos rfl] at e3 ⊢
    have e3 := Option.some.inj e3
    subst e3
    exact q _ H1 x1 (Rp.bl _)
  | false =>
    rw [if_neg (by decide)] at e3 ⊢
    exact ⟨G, O, ρ, z, s.ex x1, e3, fun y H2 x2 r2 => q y H2 (x1.trans x2) (r2.back fun p => x1.free)⟩
theorem de_not (ha : DE X a f) : DE X (.UnaryOp .Not a pos) (sNot f) := PEw (pe_not ha) fun σ H Q ⟨G, O, ρ, z, s, e, q⟩ => by
  simp only [sNot, Option.map_eq_some_iff, Option.bind_eq_some_iff] at e
  obtain ⟨c, ⟨v, e1, e2⟩, e3⟩ := e
  subst e3
  exact ⟨G, O, ρ, v, s, e1, fun x H1 x1 r1 => ⟨c, r1.vbl e2, q _ H1 x1 (Rp.bl _)⟩⟩
/-- a new list, or another -/
theorem de_orL (ha : DE X a f) (hb : DE X (.BoolOp .Or (b :: rest) pos) g) : DE X (.BoolOp .Or (a :: b :: rest) pos) (sOrL f g) := PEw (pe_orT ha hb) fun σ H Q ⟨G, O, ρ, z, s, e, q⟩ => by
  simp only [sOrL, Option.bind_eq_some_iff] at e
  obtain ⟨v, e1, e2⟩ := e
  refine ⟨G, O, ρ, v, s, e1, fun x H1 x1 r1 => ?_⟩
  split at e2
  · obtain ⟨p, xs, rfl, h1, h2, h3⟩ := id r1
    cases h3
    refine ⟨false, .inl ⟨[], SqL.of h2, rfl⟩, ?_⟩
    exact ⟨G, O, ρ, z, s.ex x1, e2, fun y H2 x2 r2 => q y H2 (x1.trans x2) (r2.back fun p => x1.free)⟩
  · have e2 := Option.some.inj e2
    subst e2
    obtain ⟨p, xs, rfl, h1, h2, h3⟩ := id r1
    refine ⟨true, .inl ⟨xs, SqL.of h2, ?_⟩, q _ H1 x1 r1⟩
    cases h3
    rfl
  · cases e2
theorem de_if (hc : DT X c t) (ha : DE X a f) (hb : DE X b g) : DE X (.IfExp c a b pos) (sIf t f g) := PEw (pe_ifExp hc ha hb) fun σ H Q ⟨G, O, ρ, z, s, e, q⟩ => by
  simp only [sIf, Option.bind_eq_some_iff] at e
  obtain ⟨c, e1, e2⟩ := e
  refine ⟨G, O, ρ, c, s, e1, fun H1 x1 => ?_⟩
  cases c with
  | true =>
    rw [if_pos rfl] at e2 ⊢
    exact ⟨G, O, ρ, z, s.ex x1, e2, fun y H2 x2 r2 => q y H2 (x1.trans x2) (r2.back fun p => x1.free)⟩
  | false =>
    rw [if_neg (by decide)] at e2 ⊢
    exact ⟨G, O, ρ, z, s.ex x1, e2, fun y H2 x2 r2 => q y H2 (x1.trans x2) (r2.back fun p => x1.free)⟩
/-! ### built-ins -/
def C1ok (K : PySem.W.Frag) (r : List V → Hp → VK → Prop) (h : Av → Option Av) : Prop := ∀ G O H0 H x u c Q, Frm O G H → (∀ p, H p = none → H0 p = none) → RR K G O H0 H x u → h u = some c → (∀ z H', Ex H H' → RR K G O H0 H' z c → Q z H') → r [x] H Q
def C2ok (K : PySem.W.Frag) (r : List V → Hp → VK → Prop) (h : Av → Av → Option Av) : Prop := ∀ G O H0 H x y u v c Q, Frm O G H → (∀ p, H p = none → H0 p = none) → RR K G O H0 H x u → RR K G O H0 H y v → h u v = some c → (∀ z H', Ex H H' → RR K G O H0 H' z c → Q z H') → r [x, y] H Q
def C3ok (K : PySem.W.Frag) (r : List V → Hp → VK → Prop) (h : Av → Av → Av → Option Av) : Prop := ∀ G O H0 H x y z u v w c Q, Frm O G H → (∀ p, H p = none → H0 p = none) → RR K G O H0 H x u → RR K G O H0 H y v → RR K G O H0 H z w → h u v w = some c → (∀ z H', Ex H H' → RR K G O H0 H' z c → Q z H') → r [x, y, z] H Q
theorem tD_c1 {r : List V → Hp → VK → Prop} {h : Av → Option Av} (hr : C1ok X.K r h) {σ : L2.St} {H : Hp} {Q : VK} (q : tD X.K (s1 h f) σ H Q) : tCB r (tA X.K [f]) σ H Q := by
  obtain ⟨G, O, ρ, c, s, e, q⟩ := q
  simp only [s1, Option.bind_eq_some_iff] at e
  obtain ⟨u, e1, e3⟩ := e
  refine ⟨G, O, ρ, [u], s, by simp [seqE, e1], fun vs H1 x1 r1 => ?_⟩
  cases r1 with
  | cons r1 rr =>
    cases rr
    exact hr G O H H1 _ u c Q (s.ext.ex x1) (fun p => x1.free) r1 e3 fun z H' x3 r3 => q z H' (x1.trans x3) r3
theorem tD_c2 {r : List V → Hp → VK → Prop} {h : Av → Av → Option Av} (hr : C2ok X.K r h) {σ : L2.St} {H : Hp} {Q : VK} (q : tD X.K (s2 h f g) σ H Q) : tCB r (tA X.K [f, g]) σ H Q := by
  obtain ⟨G, O, ρ, c, s, e, q⟩ := q
  simp only [s2, Option.bind_eq_some_iff] at e
  obtain ⟨u, e1, v, e2, e3⟩ := e
  refine ⟨G, O, ρ, [u, v], s, by simp [seqE, e1, e2], fun vs H1 x1 r1 => ?_⟩
  cases r1 with
  | cons r1 rr =>
    cases rr with
    | cons r2 rr =>
      cases rr
      exact hr G O H H1 _ _ u v c Q (s.ext.ex x1) (fun p => x1.free) r1 r2 e3 fun z H' x3 r3 => q z H' (x1.trans x3) r3
theorem tD_c3 {r : List V → Hp → VK → Prop} {h : Av → Av → Av → Option Av} (hr : C3ok X.K r h) {σ : L2.St} {H : Hp} {Q : VK} (q : tD X.K (s3 h f g k) σ H Q) : tCB r (tA X.K [f, g, k]) σ H Q := by
  obtain ⟨G, O, ρ, c, s, e, q⟩ := q
  simp only [s3, Option.bind_eq_some_iff] at e
  obtain ⟨u, e1, v, e2, w, e3, e4⟩ := e
  refine ⟨G, O, ρ, [u, v, w], s, by simp [seqE, e1, e2, e3], fun vs H1 x1 r1 => ?_⟩
  cases r1 with
  | cons r1 rr =>
    cases rr with
    | cons r2 rr =>
      cases rr with
      | cons r3 rr =>
        cases rr
        exact hr G O H H1 _ _ _ u v w c Q (s.ext.ex x1) (fun p => x1.free) r1 r2 r3 e4 fun z H' x3 r3 => q z H' (x1.trans x3) r3
theorem de_call1 {x : Str} {id : String} {r : List V → Hp → VK → Prop} {h : Av → Option Av} (hc : CallR X (.builtin id) r) (hr : C1ok X.K r h) (hg : Gl X x) (hm : X.mg x = none) (hv : bootBuiltins x = some (.builtin id)) (ha : DE X a f) (hs : starEach [a] X.env = (false, eval a X.env) :: starEach [] X.env := by rfl)
    (hn : x ≠ "__name__" := by decide) (hdb : (x == ("__debug__" : Str)) = false := by decide) (hp : (backTo pos (starEach ([] : List Expr) X.env)).any (·.1) = false := by rfl) : DE X (.Call (.Name x p) [a] [] pos) (s1 h f) :=
  PEw (pe_callB hc hg hm hv (da_cons ha da_nil hs) hn hdb hs hp) fun _ _ _ => tD_c1 hr
theorem de_call2 {x : Str} {id : String} {r : List V → Hp → VK → Prop} {h : Av → Av → Option Av} (hc : CallR X (.builtin id) r) (hr : C2ok X.K r h) (hg : Gl X x) (hm : X.mg x = none) (hv : bootBuiltins x = some (.builtin id)) (ha : DE X a f) (hb : DE X b g)
    (hs : starEach [a, b] X.env = (false, eval a X.env) :: starEach [b] X.env := by rfl) (hs2 : starEach [b] X.env = (false, eval b X.env) :: starEach [] X.env := by rfl)
    (hn : x ≠ "__name__" := by decide) (hdb : (x == ("__debug__" : Str)) = false := by decide) (hp : (backTo pos (starEach [b] X.env)).any (·.1) = false := by rfl) : DE X (.Call (.Name x p) [a, b] [] pos) (s2 h f g) :=
  PEw (pe_callB hc hg hm hv (da_cons ha (da_cons hb da_nil hs2) hs) hn hdb hs hp) fun _ _ _ => tD_c2 hr
theorem de_call3 {x : Str} {id : String} {r : List V → Hp → VK → Prop} {h : Av → Av → Av → Option Av} (hc : CallR X (.builtin id) r) (hr : C3ok X.K r h) (hg : Gl X x) (hm : X.mg x = none) (hv : bootBuiltins x = some (.builtin id)) (ha : DE X a f) (hb : DE X b g) (he : DE X c k)
    (hs : starEach [a, b, c] X.env = (false, eval a X.env) :: starEach [b, c] X.env := by rfl) (hs2 : starEach [b, c] X.env = (false, eval b X.env) :: starEach [c] X.env := by rfl) (hs3 : starEach [c] X.env = (false, eval c X.env) :: starEach [] X.env := by rfl)
    (hn : x ≠ "__name__" := by decide) (hdb : (x == ("__debug__" : Str)) = false := by decide) (hp : (backTo pos (starEach [b, c] X.env)).any (·.1) = false := by rfl) : DE X (.Call (.Name x p) [a, b, c] [] pos) (s3 h f g k) :=
  PEw (pe_callB hc hg hm hv (da_cons ha (da_cons hb (da_cons he da_nil hs3) hs2) hs) hn hdb hs hp) fun _ _ _ => tD_c3 hr
theorem de_callT1 {x : Str} {id : String} {r : List V → Hp → VK → Prop} {h : Av → Option Av} (hc : CallR X (.type id) r) (hr : C1ok X.K r h) (hg : Gl X x) (hm : X.mg x = none) (hv : bootBuiltins x = some (.type id)) (ha : DE X a f) (hs : starEach [a] X.env = (false, eval a X.env) :: starEach [] X.env := by rfl)
    (hn : x ≠ "__name__" := by decide) (hdb : (x == ("__debug__" : Str)) = false := by decide) (hp : (backTo pos (starEach ([] : List Expr) X.env)).any (·.1) = false := by rfl) : DE X (.Call (.Name x p) [a] [] pos) (s1 h f) :=
  PEw (pe_callTy hc hg hm hv (da_cons ha da_nil hs) hn hdb hs hp) fun _ _ _ => tD_c1 hr
end
/-! ### what they ask -/
section
variable {K : PySem.W.Frag}
theorem ok_len : C1ok K (fun xs H Q => ∃ p ys, xs = [.ref p] ∧ (SqL K H p ys ∨ SqT K H p ys) ∧ Q (.int ys.length) H) cLen := by
  intro G O H0 H x u c Q fm db r1 e k
  simp only [cLen, Option.map_eq_some_iff] at e
  obtain ⟨xs, e1, rfl⟩ := e
  obtain ⟨p, vs, rfl, h, q⟩ := r1.seq fm e1
  refine ⟨p, vs, rfl, h, ?_⟩
  rw [q.length]
  exact k _ H (Ex.refl H) (Rp.int _)
theorem ok_sum : C1ok K (rSum K) cSum := by
  intro G O H0 H x u c Q fm db r1 e k
  unfold cSum at e
  split at e
  · simp only [Option.map_eq_some_iff] at e
    obtain ⟨ns, e1, rfl⟩ := e
    obtain ⟨p, vs, rfl, h, q⟩ := r1.list fm
    rw [q.ints e1] at h
    exact ⟨p, ns, rfl, h, k _ H (Ex.refl H) (Rp.int _)⟩
  · cases e
theorem ok_all : C1ok K (rAll K) cAll := by
  intro G O H0 H x u c Q fm db r1 e k
  unfold cAll at e
  split at e
  · simp only [Option.map_eq_some_iff] at e
    obtain ⟨ns, e1, rfl⟩ := e
    obtain ⟨p, vs, rfl, h, q⟩ := r1.list fm
    rw [q.bls e1] at h
    exact ⟨p, ns, rfl, h, k _ H (Ex.refl H) (Rp.bl _)⟩
  · cases e
theorem ok_abs : C1ok K (fun xs H Q => ∃ i, xs = [.int i] ∧ Q (.int (if i < 0 then -i else i)) H) cAbs := by
  intro G O H0 H x u c Q fm db r1 e k
  simp only [cAbs, Option.bind_eq_some_iff] at e
  obtain ⟨i, e1, e2⟩ := e
  have e2 := Option.some.inj e2
  subst e2
  refine ⟨i, by rw [r1.vint e1], ?_⟩
  have : (if i < 0 then -i else i) = ((i.natAbs : Nat) : Int) := by split <;> omega
  rw [this]
  exact k _ H (Ex.refl H) (Rp.int _)
theorem ok_int : C1ok K (fun xs H Q => (∃ i, xs = [.int i] ∧ Q (.int i) H) ∨ ∃ k, xs = [.bl k] ∧ Q (.int (if k then 1 else 0)) H) cInt := by
  intro G O H0 H x u c Q fm db r1 e k
  unfold cInt at e
  split at e
  · have e := Option.some.inj e
    subst e
    exact .inl ⟨_, by rw [r1.int], k _ H (Ex.refl H) (Rp.int _)⟩
  · have e := Option.some.inj e
    subst e
    exact .inr ⟨_, by rw [r1.bl], k _ H (Ex.refl H) (Rp.int _)⟩
  · cases e
theorem ok_tuple : C1ok K (fun xs H Q => ∃ p ys, xs = [.ref p] ∧ ((SqL K H p ys ∧ ∀ l, H l = none → Q (.ref l) (upd H l (.tup ys))) ∨ (SqT K H p ys ∧ Q (.ref p) H))) cTuple := by
  intro G O H0 H x u c Q fm db r1 e k
  unfold cTuple at e
  split at e
  · have e := Option.some.inj e
    subst e
    have r1 : Rp K H x (.tup _) := r1
    cases r1 with
    | tup h1 h2 => exact ⟨_, _, rfl, .inr ⟨SqT.of h1, k _ H (Ex.refl H) (Rp.tup h1 h2)⟩⟩
  · have e := Option.some.inj e
    subst e
    obtain ⟨p, vs, rfl, h, q⟩ := r1.list fm
    exact ⟨p, vs, rfl, .inl ⟨h, fun l hl => k _ _ (Ex.new hl) (Rp.tup upd_same (q.mono (Ex.new hl).tl))⟩⟩
  · cases e
theorem ok_list : C1ok K (fun xs H Q => ∃ p ys, xs = [.ref p] ∧ (SqL K H p ys ∨ SqT K H p ys) ∧ ∀ l, H l = none → Q (.ref l) (upd H l (.lst ys))) cList := by
  intro G O H0 H x u c Q fm db r1 e k
  have go : ∀ xs, vSeq u = some xs → c = .l .fr xs → ∃ p ys, [x] = [V.ref p] ∧ (SqL K H p ys ∨ SqT K H p ys) ∧ ∀ l, H l = none → Q (.ref l) (upd H l (.lst ys)) := by
    intro xs e1 e2
    subst e2
    obtain ⟨p, vs, rfl, h, q⟩ := r1.seq fm e1
    exact ⟨p, vs, rfl, h, fun l hl => k _ _ (Ex.new hl) ⟨l, vs, rfl, db _ hl, upd_same, q.mono (Ex.new hl).tl⟩⟩
  unfold cList at e
  split at e
  · exact go _ rfl (Option.some.inj e).symm
  · exact go _ rfl (Option.some.inj e).symm
  · cases e
theorem ok_min2 : C2ok K (fun xs H Q => ∃ i j, xs = [.int i, .int j] ∧ Q (.int (if j < i then j else i)) H) cMin2 := by
  intro G O H0 H x y u v c Q fm db r1 r2 e k
  simp only [cMin2, oI, Option.bind_eq_some_iff, if_true] at e
  obtain ⟨i, e1, j, e2, e3⟩ := e
  have e3 := Option.some.inj e3
  subst e3
  refine ⟨i, j, by rw [r1.vint e1, r2.vint e2], ?_⟩
  have : (if j < i then j else i) = min i j := by split <;> omega
  rw [this]
  exact k _ H (Ex.refl H) (Rp.int _)
theorem ok_max2 : C2ok K (fun xs H Q => ∃ i j, xs = [.int i, .int j] ∧ Q (.int (if j > i then j else i)) H) cMax2 := by
  intro G O H0 H x y u v c Q fm db r1 r2 e k
  simp only [cMax2, oI, Option.bind_eq_some_iff, if_true] at e
  obtain ⟨i, e1, j, e2, e3⟩ := e
  have e3 := Option.some.inj e3
  subst e3
  refine ⟨i, j, by rw [r1.vint e1, r2.vint e2], ?_⟩
  have : (if j > i then j else i) = max i j := by split <;> omega
  rw [this]
  exact k _ H (Ex.refl H) (Rp.int _)
def rMax3 : List V → Hp → VK → Prop := fun xs H Q => ∃ i j k, xs = [.int i, .int j, .int k] ∧ Q (.int (max (max i j) k)) H
theorem call_max3 {X : Cx} (hc : X.calm = true) : CallR X (.builtin "max") rMax3 := by
  intro pins s σ H xs us Q I r h
  obtain ⟨i, j, k, rfl, q⟩ := h
  cases r with
  | cons r1 r =>
    cases r with
    | cons r2 r =>
      cases r with
      | cons r3 r =>
        cases r
        obtain ⟨t1, rfl⟩ := r1
        obtain ⟨t2, rfl⟩ := r2
        obtain ⟨t3, rfl⟩ := r3
        refine max_three_ints (I.ok.hd hc) fun h' tk hk => ⟨.int (max (max i j) k), H, I.kept hk, ?_, q⟩
        split <;> split <;> rename_i h1 h2
        · exact ⟨t3, by rw [show max (max i j) k = k by omega]⟩
        · exact ⟨t2, by rw [show max (max i j) k = j by omega]⟩
        · exact ⟨t3, by rw [show max (max i j) k = k by omega]⟩
        · exact ⟨t1, by rw [show max (max i j) k = i by omega]⟩
theorem ok_max3 : C3ok K rMax3 cMax3 := by
  intro G O H0 H x y z u v w c Q fm db r1 r2 r3 e k
  simp only [cMax3, Option.bind_eq_some_iff] at e
  obtain ⟨i, e1, j, e2, l, e3, e4⟩ := e
  have e4 := Option.some.inj e4
  subst e4
  exact ⟨i, j, l, by rw [r1.vint e1, r2.vint e2, r3.vint e3], k _ H (Ex.refl H) (Rp.int _)⟩
/-! ### min of a list or a tuple -/
def rMinX (K : PySem.W.Frag) : List V → Hp → VK → Prop := fun vs H Q => ∃ (a : Addr) (n : Int) (ns : List Int), vs = [V.ref a] ∧ (SqL K H a ((n :: ns).map V.int) ∨ SqT K H a ((n :: ns).map V.int)) ∧ Q (.int (ns.foldl min n)) H
theorem reads_ints {h : Heap} : ∀ {ns : List Int} {us : List Value}, Vals (ns.map V.int) us → ∃ as, ReadsAll h us (ns.map PyData.int) as
  | [], _, r => by
    cases r
    exact ⟨_, .nil⟩
  | n :: ns, _, r => by
    cases r with
    | cons r1 r2 =>
      obtain ⟨t, rfl⟩ := r1
      obtain ⟨as, q⟩ := reads_ints r2
      exact ⟨_, .cons (.int n t) q⟩
theorem alike_ints' (n : Int) (ns : List Int) : PySem.W.AlikeAll (PyData.int n :: ns.map PyData.int) := by
  have key : ∀ z ∈ (PyData.int n :: ns.map PyData.int), ∃ i, z = PyData.int i := fun z hz => by
    rcases List.mem_cons.mp hz with rfl | hz
    · exact ⟨_, rfl⟩
    · obtain ⟨i, _, rfl⟩ := List.mem_map.mp hz
      exact ⟨i, rfl⟩
  refine ⟨fun x hx y hy => ?_, fun x hx => ?_⟩
  · obtain ⟨i, rfl⟩ := key x hx
    obtain ⟨j, rfl⟩ := key y hy
    simp [PySem.W.alike]
  · obtain ⟨i, rfl⟩ := key x hx
    exact fun z => nomatch z
theorem depth_ints' (n : Int) (ns : List Int) : PyData.depthAll (PyData.int n :: ns.map PyData.int) = 0 := by
  have := PySem.W.depth_ints (n :: ns)
  exact this
theorem call_minX {X : Cx} (hc : X.calm = true) (hu : X.A.units + 64 < cLine) : CallR X (.builtin "min") (rMinX X.K) := by
  intro pins s σ H xs us Q I r h
  obtain ⟨a, n, ns, rfl, hs, q⟩ := h
  obtain ⟨u, rfl, ru⟩ := vals1 r
  obtain rfl : u = Value.ref a := ru
  have fin : ∀ (i : Nat) (v : Value) (h' : Heap) (tk : Nat) (bs : List Addr), Reads h' v (PySem.W.minD (.int n) (ns.map .int)) bs → (∀ b o, s.heap.get? b = some o → h'.get? b = some o) → EP X pins σ Q v { s with heap := h', toks := tk } := by
    intro i v h' tk bs hr hk
    rw [PySem.W.minD_ints] at hr
    cases hr with
    | int _ t => exact ⟨.int (ns.foldl min n), H, I.kept hk, ⟨t, rfl⟩, q⟩
  rcases hs with hs | hs
  · obtain ⟨its, rv, hl, hz⟩ := I.list hs
    obtain ⟨as, hr⟩ := reads_ints (h := s.heap) rv
    exact PySem.W.min_list_data (I.ok.hd hc) hl.isList (by simpa using hr) (alike_ints' n ns) (by rw [depth_ints']; omega) fun i v h' tk bs _ hr hk => fin i v h' tk bs hr hk
  · obtain ⟨its, rv, hl, hz⟩ := I.tuple hs
    obtain ⟨as, hr⟩ := reads_ints (h := s.heap) rv
    exact PySem.W.min_tuple_data (I.ok.hd hc) (show s.heap.IsTuple a its.toArray from hl) (by simpa using hr) (alike_ints' n ns) (by rw [depth_ints']; omega) fun i v h' tk bs _ hr hk => fin i v h' tk bs hr hk
theorem ok_minX : C1ok K (rMinX K) cMin := by
  intro G O H0 H x u c Q fm db r1 e k
  simp only [cMin, Option.map_eq_some_iff, Option.bind_eq_some_iff] at e
  obtain ⟨m, ⟨ns, ⟨ds, e1, e2⟩, e3⟩, rfl⟩ := e
  obtain ⟨p, vs, rfl, h, q⟩ := r1.seq fm e1
  rw [q.ints e2] at h
  cases ns with
  | nil => cases e3
  | cons n ns =>
    have e3 := Option.some.inj e3
    subst e3
    exact ⟨p, n, ns, rfl, h, k _ H (Ex.refl H) (Rp.int _)⟩
/-! ### isinstance -/
def tyD : Dt → String
  | .non => "NoneType"
  | .bl _ => "bool"
  | .int _ => "int"
  | .str _ => "str"
  | .tup _ => "tuple"
theorem tyD_of {H : Hp} {x : V} {d : Dt} (h : Rp K H x d) : TyX K H x (.type (tyD d)) := by
  cases h with
  | non => exact .base .non
  | bl _ => exact .base (.bl _)
  | int _ => exact .base (.int _)
  | str _ => exact .base (.str _)
  | tup h1 _ => exact .base (.tup h1)
theorem tyL_of {H : Hp} {p : Addr} {xs : List V} (h : SqL K H p xs) : TyX K H (.ref p) (.type "list") := by
  rcases h with (h | ⟨o, h⟩) | ⟨o, its, n, h1, h2, _⟩
  · exact .base (.lst h)
  · exact .base (.frz h)
  · exact .kList h1 h2
end
section
variable {X : Cx} {a : Expr} {f : SE} {pos p q p2 : Pos}
/-- one class -/
theorem de_isi {T : String} {y : Str} {h : Av → Option Av} (hd : ∀ d c, h (.d d) = some c → ∃ b, c = .b b ∧ kitB (tyD d) T = some b) (hl : ∀ k ds c, h (.l k ds) = some c → ∃ b, c = .b b ∧ kitB "list" T = some b) (hm : ∀ k m, h (.m k m) = none) (hx : ∀ k, h (.x k) = none)
    (hg : Gl X "isinstance") (hmi : X.mg "isinstance" = none) (hgy : Gl X y) (hmy : X.mg y = none) (hv : bootBuiltins y = some (.type T)) (hn : y ≠ "__name__") (hdy : (y == ("__debug__" : Str)) = false) (ha : DE X a f)
    (hs : starEach [a, .Name y q] X.env = (false, eval a X.env) :: starEach [.Name y q] X.env := by rfl) (hs2 : starEach [Expr.Name y q] X.env = (false, eval (.Name y q) X.env) :: starEach [] X.env := by rfl) (hp : (backTo pos (starEach [Expr.Name y q] X.env)).any (·.1) = false := by rfl) :
    DE X (.Call (.Name "isinstance" p) [a, .Name y q] [] pos) (s1 h f) :=
  PEw (pe_callB call_isi hg hmi (by decide +kernel) (pa_cons ha (pa_cons (pe_bltn (v := .ty T) hgy hmy hv rfl hn hdy) pa_nil hs2) hs) (by decide) (by decide) hs hp) fun σ H Q ⟨G, O, ρ, z, s, e, q⟩ => by
    simp only [s1, Option.bind_eq_some_iff] at e
    obtain ⟨u, e1, e2⟩ := e
    refine ⟨G, O, ρ, u, s, e1, fun x H1 x1 r1 => ?_⟩
    cases u with
    | d d =>
      obtain ⟨b, rfl, e3⟩ := hd d z e2
      exact ⟨x, .ty T, _, _, b, rfl, .ty T, tyD_of r1, kit_ty e3, q _ H1 x1 (Rp.bl _)⟩
    | l k ds =>
      obtain ⟨b, rfl, e3⟩ := hl k ds z e2
      obtain ⟨p, vs, rfl, h1, h2⟩ := r1.list (s.ext.ex x1)
      exact ⟨_, .ty T, _, _, b, rfl, .ty T, tyL_of h1, kit_ty e3, q _ H1 x1 (Rp.bl _)⟩
    | m k kvs => rw [hm] at e2; cases e2
    | x k => rw [hx] at e2; cases e2
/-- two classes -/
theorem de_isi2 {T T' : String} {y y' : Str} {p3 p4 : Pos} {h : Av → Option Av} {kk} (hd : ∀ d c, h (.d d) = some c → ∃ b b', c = .b (b || b') ∧ kitB (tyD d) T = some b ∧ kitB (tyD d) T' = some b') (hl : ∀ k ds c, h (.l k ds) = some c → ∃ b b', c = .b (b || b') ∧ kitB "list" T = some b ∧ kitB "list" T' = some b') (hm : ∀ k m, h (.m k m) = none) (hx : ∀ k, h (.x k) = none)
    (hg : Gl X "isinstance") (hmi : X.mg "isinstance" = none) (hgy : Gl X y) (hmy : X.mg y = none) (hv : bootBuiltins y = some (.type T)) (hn : y ≠ "__name__") (hdy : (y == ("__debug__" : Str)) = false)
    (hgy' : Gl X y') (hmy' : X.mg y' = none) (hv' : bootBuiltins y' = some (.type T')) (hn' : y' ≠ "__name__") (hdy' : (y' == ("__debug__" : Str)) = false) (ha : DE X a f)
    (hs : starEach [a, .Tuple [.Name y q, .Name y' p3] kk p4] X.env = (false, eval a X.env) :: starEach [.Tuple [.Name y q, .Name y' p3] kk p4] X.env := by rfl) (hs2 : starEach [Expr.Tuple [.Name y q, .Name y' p3] kk p4] X.env = (false, eval (.Tuple [.Name y q, .Name y' p3] kk p4) X.env) :: starEach [] X.env := by rfl)
    (hp : (backTo pos (starEach [Expr.Tuple [.Name y q, .Name y' p3] kk p4] X.env)).any (·.1) = false := by rfl) (hs3 : starEach [Expr.Name y q, Expr.Name y' p3] X.env = (false, eval (.Name y q) X.env) :: starEach [.Name y' p3] X.env := by rfl) (hs4 : starEach [Expr.Name y' p3] X.env = (false, eval (.Name y' p3) X.env) :: starEach [] X.env := by rfl) :
    DE X (.Call (.Name "isinstance" p) [a, .Tuple [.Name y q, .Name y' p3] kk p4] [] pos) (s1 h f) :=
  PEw (pe_callB call_isiT hg hmi (by decide +kernel) (pa_cons ha (pa_cons (pe_tup (pa_cons (pe_bltn (v := .ty T) hgy hmy hv rfl hn hdy) (pa_cons (pe_bltn (v := .ty T') hgy' hmy' hv' rfl hn' hdy') pa_nil hs4) hs3)) pa_nil hs2) hs) (by decide) (by decide) hs hp) fun σ H Q ⟨G, O, ρ, z, s, e, q⟩ => by
    simp only [s1, Option.bind_eq_some_iff] at e
    obtain ⟨u, e1, e2⟩ := e
    refine ⟨G, O, ρ, u, s, e1, fun x H1 x1 r1 => ⟨by show 2 ≤ sizeLine; decide, fun tp htp => ?_⟩⟩
    have kk : ∀ (ty : String) (b b' : Bool), kitB ty T = some b → kitB ty T' = some b' → PySem.W.kitAny X.K (.type ty) [.type T, .type T'] = some (b || b') := fun ty b b' h1 h2 =>
      kitAny_cons (kit_ty h1) (fun hb => by
        rw [hb]
        exact kitAny_cons (kit_ty h2) (fun hb' => by rw [hb']; exact kitAny_nil) (fun hb' => by rw [hb']; rfl)) (fun hb => by rw [hb]; rfl)
    have xx := x1.trans (Ex.new (o := .tup [.ty T, .ty T']) htp)
    have r1 := r1.ex (Ex.new (o := .tup [.ty T, .ty T']) htp)
    cases u with
    | d d =>
      obtain ⟨b, b', rfl, e3, e4⟩ := hd d z e2
      exact ⟨x, tp, _, _, _, _, rfl, upd_same, .cons (.ty T) (.cons (.ty T') .nil), tyD_of r1, kk _ b b' e3 e4, q _ _ xx (Rp.bl _)⟩
    | l k ds =>
      obtain ⟨b, b', rfl, e3, e4⟩ := hl k ds z e2
      obtain ⟨p, vs, rfl, h1, h2⟩ := r1.list (s.ext.ex xx)
      exact ⟨_, tp, _, _, _, _, rfl, upd_same, .cons (.ty T) (.cons (.ty T') .nil), tyL_of h1, kk _ b b' e3 e4, q _ _ xx (Rp.bl _)⟩
    | m k kvs => rw [hm] at e2; cases e2
    | x k => rw [hx] at e2; cases e2
end
end S67

/-! KG: what a loop walks: lists and tuples, zip of two or three of them in any mix, enumerate of a list or a tuple, the items of a dict with pair keys. -/
namespace S67
open PySem PySem.Spec PyProof.Rows L2
open Sem (wp)
/-! ### a list or a tuple -/
/-- true: a tuple -/
def Sq (K : PySem.W.Frag) (t : Bool) (p : Addr) (H : Hp) (xs : List V) : Prop := if t = true then SqT K H p xs else SqL K H p xs
def HSeq (h : Heap) (t : Bool) (p : Addr) (its : Array Value) : Prop := if t = true then h.IsTuple p its else h.IsList p its
def HIt (h : Heap) (t : Bool) (it p : Addr) (i : Nat) : Prop := if t = true then h.IsTupleIter it p i else h.IsListIter it p i
def oIt (t : Bool) (p : Addr) : Obj := if t = true then { cls := .type "tuple_iterator", data := .fields #[.ref p, .int 0 0] } else { cls := .type "list_iterator", data := .fields #[.ref p, .int 0 0] }
section
variable {X : Cx} {pins : List (Addr × Obj)} {σ : L2.St} {H : Hp} {s : Shared} {t : Bool} {p it : Addr} {xs ys : List V} {i : Nat} {h h' : Heap}
theorem sqOf (I : Inv X pins σ H s) (q : Sq X.K t p H xs) : ∃ its : List Value, Vals xs its ∧ HSeq s.heap t p its.toArray ∧ p < s.heap.objs.size := by
  cases t with
  | true =>
    obtain ⟨its, r, h, _⟩ := I.tuple (show SqT X.K H p xs from q)
    exact ⟨its, r, h, h.lt⟩
  | false =>
    obtain ⟨its, r, h, _⟩ := I.list (show SqL X.K H p xs from q)
    exact ⟨its, r, h.isList, h.lt⟩
theorem sqInj (I : Inv X pins σ H s) (q : Sq X.K t p H xs) (q' : Sq X.K t p H ys) : xs = ys := by
  cases t with
  | true => exact I.tuple_inj q q'
  | false => exact I.list_inj q q'
theorem HIt.at (st : HIt h t it p i) (k : ∀ o, h.get? it = some o → h'.get? it = some o) : HIt h' t it p i := by
  cases t with
  | true => exact Heap.IsTupleIter.at (show h.IsTupleIter it p i from st) k
  | false => exact Heap.IsListIter.at (show h.IsListIter it p i from st) k
theorem HIt.obj (st : HIt h t it p i) : ∃ o, h.get? it = some o ∧ ∀ v, o.data ≠ .cell v := by
  cases t with
  | true =>
    obtain ⟨o, e, c, d⟩ := (show h.IsTupleIter it p i from st)
    exact ⟨o, e, fun v z => by rw [d] at z; cases z⟩
  | false =>
    obtain ⟨o, e, c, d⟩ := (show h.IsListIter it p i from st)
    exact ⟨o, e, fun v z => by rw [d] at z; cases z⟩
theorem hit_new (e : h.get? it = some (oIt t p)) : HIt h t it p 0 := by
  cases t with
  | true => exact ⟨_, e, rfl, rfl⟩
  | false => exact ⟨_, e, rfl, rfl⟩
theorem begins_sq (t : Bool) (p : Addr) (its : Array Value) : Begins (.ref p) (oIt t p) fun h => HSeq h t p its := by
  cases t with
  | true => exact begins_tuple p its
  | false => exact begins_list p its
theorem draws_sq {prog : Program} {w : World} {A : Around} (hh : A.handled = none) (t : Bool) (it p : Addr) (hne : p ≠ it) (its : Array Value) : Draws prog w A it [it, p] its.size (fun i v => its[i]? = some v) (fun i h => HIt h t it p i ∧ HSeq h t p its) := by
  cases t with
  | true => exact Draws.tuple hh it p hne its
  | false => exact Draws.list hh it p hne its
end
/-! ### an iterator that gives out new tuples -/
theorem turnN {P : Program} {w : World} {K : PySem.W.Frag} {tg : Expr} {J : It} {it : Addr} {fp0 : List Addr} {tn : Nat → Heap → Prop} (mem : it ∈ fp0) (obj : ∀ i h, tn i h → ∀ b ∈ fp0, ∃ o, h.get? b = some o ∧ ∀ v, o.data ≠ .cell v)
    (keep : ∀ i h h', tn i h → (∀ b ∈ fp0, ∀ o, h.get? b = some o → h'.get? b = some o) → tn i h')
    (step : ∀ (X : Cx), X.prog = P → X.w = w → X.K = K → X.A.handled = none → ∀ i pins s σ H, Inv X pins σ H s → (∀ b ∈ fp0, H b = none) → tn i s.heap → J.go i H → ∃ (fp wr : List Addr) (n : Nat) (Y : Nat → Heap → Value → Heap → Prop) (St : Nat → Heap → Prop), GoesN P w X.A tg it fp wr n Y St ∧ St i s.heap ∧ i < n ∧ (∀ b ∈ wr, b ∈ fp0) ∧
      ∀ v h', Y i s.heap v h' → St (i + 1) h' → (∀ b o, b ∉ wr → s.heap.get? b = some o → h'.get? b = some o) → ∃ (T : Addr) (xs : List V) (us : List Value), v = .ref T ∧ s.heap.objs.size ≤ T ∧ xs.length ≤ sizeLine ∧ Vals xs us ∧ h'.IsTuple T us.toArray ∧ tn (i + 1) h' ∧ J.yld i H (.ref T) (upd H T (.tup xs)))
    (fin : ∀ (X : Cx), X.prog = P → X.w = w → X.K = K → X.A.handled = none → ∀ i pins s σ H, Inv X pins σ H s → (∀ b ∈ fp0, H b = none) → tn i s.heap → J.stop i H → ∃ (fp wr : List Addr) (Y : Nat → Heap → Value → Heap → Prop) (St : Nat → Heap → Prop), GoesN P w X.A tg it fp wr i Y St ∧ St i s.heap ∧ (∀ b ∈ wr, b ∈ fp0))
    (self : ∀ (A : Around) (i : Nat) (s : Shared) (Q : Value → Shared → Prop) (E : Value → Shared → Prop), tn i s.heap → Q (.ref it) s → wpAny (model P w) A (pyIter (.ref it)) Q E s) : Turn P w K tg J fp0 it tn where
  mem := mem
  obj := obj
  keep := keep
  item := by
    intro X hP hw hK hc i pins s σ H E I hf st hg
    subst hP hw hK
    obtain ⟨fp, wr, n, Y, St, W, sti, hi, hwr, hY⟩ := step X rfl rfl rfl (I.ok.hd hc) i pins s σ H I (fun b hb => (hf b hb).1) st hg
    refine wpAny_mono (W.goes i s (fun v s2 => ∃ x H', Inv X pins σ H' s2 ∧ RelV x v ∧ J.yld i H x H' ∧ tn (i + 1) s2.heap ∧ ∀ b ∈ fp0, H' b = none) E hi sti fun v h' tk hy st' hk htk => ?_) (fun r s1 h1 => ?_) fun _ _ e => e
    · obtain ⟨T, xs, us, rfl, hT, hz, rv, hTt, stn, hyl⟩ := hY v h' hy st' hk
      obtain ⟨o, ho, hc', nn, hd⟩ := hTt
      have hk2 : ∀ b o, b ∉ fp0 → s.heap.get? b = some o → h'.get? b = some o := fun b o hb e => hk b o (fun z => hb (hwr b z)) e
      have new : ObjOk X.prog X.w (upd H T (.tup xs)) h' T (.tup xs) := ⟨hz, us, rv, ⟨o, ho, hc', nn, hd⟩⟩
      refine ⟨.ref T, _, I.turnedNew (t' := tk) hk2 hf hT new, rfl, hyl, stn, fun b hb => ?_⟩
      obtain ⟨ob, e, _⟩ := obj i _ st b hb
      rw [upd_ne (Nat.ne_of_lt (Nat.lt_of_lt_of_le (Heap.lt_size e) hT))]
      exact (hf b hb).1
    · obtain ⟨v, rfl, h2⟩ := h1
      exact ⟨v, rfl, h2⟩
  done := by
    intro X hP hw hK hc i pins s σ H E I hf st hg
    subst hP hw hK
    obtain ⟨fp, wr, Y, St, W, sti, hwr⟩ := fin X rfl rfl rfl (I.ok.hd hc) i pins s σ H I (fun b hb => (hf b hb).1) st hg
    exact W.stops s (fun s1 => Inv X pins σ H s1) E sti fun h' tk hk htk => I.turnedL (t' := tk) (fun b o hb e => hk b o (fun z => hb (hwr b z)) e) hf
  self := self
/-! ### zip of two -/
def Itm2 (K : PySem.W.Frag) (t1 t2 : Bool) (a b : Addr) : It :=
  ⟨fun i H => ∃ (xs ys : List V), Sq K t1 a H xs ∧ Sq K t2 b H ys ∧ i < xs.length ∧ i < ys.length,
    fun i H v H' => ∃ T x y, v = .ref T ∧ H T = none ∧ H' = upd H T (.tup [x, y]) ∧ (∀ xs, Sq K t1 a H xs → xs[i]? = some x) ∧ ∀ ys, Sq K t2 b H ys → ys[i]? = some y,
    fun i H => ∃ xs ys : List V, Sq K t1 a H xs ∧ Sq K t2 b H ys ∧ i = min xs.length ys.length⟩
theorem turn_zip2 {P : Program} {w : World} {K : PySem.W.Frag} {elts : List Expr} {kk : Nat} {tpos : Pos} {t1 t2 : Bool} {a b z TI TO i1 i2 : Addr} (D : ZipSep2 z TI TO i1 i2 [i1, a] [i2, b]) (ha : a ≠ i1) (hb : b ≠ i2) :
    Turn P w K (.Tuple elts kk tpos) (Itm2 K t1 t2 a b) [z, TI, TO, i1, i2] z (fun i h => IsZip h z TI TO .none ∧ IsTupOf2 h TI (.ref i1) (.ref i2) ∧ (∃ x y, IsTupOf2 h TO x y) ∧ HIt h t1 i1 a i ∧ HIt h t2 i2 b i) := by
  refine turnN (by simp) (fun i h st c hc => ?_) (fun i h h' st k => ?_) (fun X hP hw hK hh i pins s σ H I hf st hg => ?_) (fun X hP hw hK hh i pins s σ H I hf st hg => ?_) fun A i s Q E h => wpAny_pyIter_zip h.1
  · obtain ⟨hz, hTI, ⟨x, y, hTO⟩, h1, h2⟩ := st
    have e' : c = z ∨ c = TI ∨ c = TO ∨ c = i1 ∨ c = i2 := by simpa using hc
    rcases e' with q | q | q | q | q
    · rw [q]; exact ⟨_, hz, fun v q => nomatch q⟩
    · rw [q]; exact ⟨_, hTI, fun v q => nomatch q⟩
    · rw [q]; exact ⟨_, hTO, fun v q => nomatch q⟩
    · rw [q]; exact h1.obj
    · rw [q]; exact h2.obj
  · obtain ⟨hz, hTI, ⟨x, y, hTO⟩, h1, h2⟩ := st
    exact ⟨k z (by simp) _ hz, k TI (by simp) _ hTI, ⟨x, y, k TO (by simp) _ hTO⟩, h1.at fun o q => k i1 (by simp) o q, h2.at fun o q => k i2 (by simp) o q⟩
  · subst hP hw hK
    obtain ⟨hz, hTI, ⟨x0, y0, hTO⟩, h1, h2⟩ := st
    obtain ⟨xs, ys, hqx, hqy, hx, hy⟩ := hg
    obtain ⟨its, rv, p, la⟩ := sqOf I hqx
    obtain ⟨its2, rv2, p2, lb⟩ := sqOf I hqy
    have l1 := rv.length
    have l2 := rv2.length
    refine ⟨_, _, _, _, _, GoesN.zip2 D (draws_sq (A := X.A.in1) hh t1 i1 a ha its.toArray) (draws_sq (A := X.A.in1) hh t2 i2 b hb its2.toArray), ⟨hz, hTI, ⟨x0, y0, hTO⟩, ⟨h1, p⟩, ⟨h2, p2⟩⟩, by simp; omega, by simp, fun v h' hy' st' hk => ?_⟩
    obtain ⟨T, u, u2, rfl, hT, hu, hu2, hTt⟩ := hy'
    obtain ⟨z', TI', TO', h1', h2'⟩ := st'
    obtain ⟨u', e1, ru⟩ := rv.get (x := xs[i]) (List.getElem?_eq_getElem hx)
    obtain ⟨u2', e2, ru2⟩ := rv2.get (x := ys[i]) (List.getElem?_eq_getElem hy)
    have e3 : u' = u := Option.some.inj (e1.symm.trans (by simpa using hu))
    have e4 : u2' = u2 := Option.some.inj (e2.symm.trans (by simpa using hu2))
    subst e3 e4
    refine ⟨T, [xs[i], ys[i]], [u', u2'], rfl, hT, by show 2 ≤ sizeLine; decide, .cons ru (.cons ru2 .nil), hTt, ⟨z', TI', TO', h1'.1, h2'.1⟩, T, xs[i], ys[i], rfl, I.hok.fresh hT, rfl, fun l hl => ?_, fun l hl => ?_⟩
    · rw [sqInj I hl hqx]; exact List.getElem?_eq_getElem hx
    · rw [sqInj I hl hqy]; exact List.getElem?_eq_getElem hy
  · subst hP hw hK
    obtain ⟨hz, hTI, ⟨x0, y0, hTO⟩, h1, h2⟩ := st
    obtain ⟨xs, ys, hqx, hqy, he⟩ := hg
    obtain ⟨its, rv, p, la⟩ := sqOf I hqx
    obtain ⟨its2, rv2, p2, lb⟩ := sqOf I hqy
    have l1 := rv.length
    have l2 := rv2.length
    have en : min its.toArray.size its2.toArray.size = i := by simp; omega
    have W := GoesN.zip2 (prog := X.prog) (w := X.w) (A := X.A) (elts := elts) (x1 := kk) (pos := tpos) D (draws_sq (A := X.A.in1) hh t1 i1 a ha its.toArray) (draws_sq (A := X.A.in1) hh t2 i2 b hb its2.toArray)
    rw [en] at W
    exact ⟨_, _, _, _, W, ⟨hz, hTI, ⟨x0, y0, hTO⟩, ⟨h1, p⟩, ⟨h2, p2⟩⟩, by simp⟩
theorem walk_zip2 {K : PySem.W.Frag} {t1 t2 : Bool} {a b : Addr} {xs ys : List V} : Walk (Itm2 K t1 t2 a b) (min xs.length ys.length) (fun H => Sq K t1 a H xs ∧ Sq K t2 b H ys) (YPair (fun i => xs[i]?) (fun i => ys[i]?)) :=
  ⟨fun i H hi q => ⟨xs, ys, q.1, q.2, by omega, by omega⟩, fun H q => ⟨xs, ys, q.1, q.2, rfl⟩, fun i H v H' hi q y => by
    obtain ⟨T, x, z, h1, h2, h3, h4, h5⟩ := y
    exact ⟨T, x, z, h1, h2, h3, h4 xs q.1, h5 ys q.2⟩⟩
def iZipX (K : PySem.W.Frag) (ta : TA) : TI := fun σ H R => ta σ H fun vs H1 => ∃ t1 t2 a b xs ys, vs = [.ref a, .ref b] ∧ Sq K t1 a H1 xs ∧ Sq K t2 b H1 ys ∧ R (Itm2 K t1 t2 a b) H1
theorem pi_zipX {X : Cx} {e e2 : Expr} {ta : TA} {p pos tpos : Pos} {elts : List Expr} {kk : Nat} (hg : Gl X "zip") (hm : X.mg "zip" = none) (ha : PA X [e, e2] ta)
    (hs : starEach [e, e2] X.env = (false, eval e X.env) :: starEach [e2] X.env := by rfl) (hpl : (backTo pos (starEach [e2] X.env)).any (·.1) = false := by rfl) :
    PI X (.Tuple elts kk tpos) (.Call (.Name "zip" p) [e, e2] [] pos) (iZipX X.K ta) := by
  refine ⟨fun pins s σ H R I h => ?_⟩
  refine Call_ (ld_blt I hg hm PyProof.Rows.boot_zip (PyProof.Rows.callWith_type1 (thn (ha.run pos pins s σ H _ I h) fun us s1 ⟨vs, H1, I1, r1, q1⟩ => ?_) hs hpl))
  obtain ⟨t1, t2, a, b, xs, ys, ex, hqx, hqy, q⟩ := q1
  subst ex
  cases r1 with
  | cons r rr =>
    cases rr with
    | cons r' rr =>
      cases rr
      cases r
      cases r'
      obtain ⟨its, rv, p1, la⟩ := sqOf I1 hqx
      obtain ⟨its2, rv2, p2, lb⟩ := sqOf I1 hqy
      refine zip_begins2 (begins_sq t1 a its.toArray) (begins_sq t2 b its2.toArray) p1 p2 fun h' hz hTI hTO h1 h2 hsz hk => wpAny_pyIter_zip hz ?_
      have I2 : Inv X pins σ H1 { s1 with heap := h' } := I1.kept (t' := s1.toks) hk
      have D : ZipSep2 (s1.heap.objs.size + 4) (s1.heap.objs.size + 2) (s1.heap.objs.size + 3) s1.heap.objs.size (s1.heap.objs.size + 1) [s1.heap.objs.size, a] [s1.heap.objs.size + 1, b] := zip_sep2 (fp1 := [a]) (fp2 := [b]) (by simp; exact la) (by simp; exact lb)
      refine ⟨s1.heap.objs.size + 4, [s1.heap.objs.size + 4, s1.heap.objs.size + 2, s1.heap.objs.size + 3, s1.heap.objs.size, s1.heap.objs.size + 1], _, _, H1, rfl, I2, turn_zip2 D (Nat.ne_of_lt la) (Nat.ne_of_lt (Nat.lt_succ_of_lt lb)), ⟨hz, hTI, ⟨_, _, hTO⟩, hit_new h1, hit_new h2⟩, fun c hcm => ?_, q⟩
      have e' : c = s1.heap.objs.size + 4 ∨ c = s1.heap.objs.size + 2 ∨ c = s1.heap.objs.size + 3 ∨ c = s1.heap.objs.size ∨ c = s1.heap.objs.size + 1 := by simpa using hcm
      have hle : s1.heap.objs.size ≤ c := by
        rcases e' with z | z | z | z | z
        · rw [z]; exact Nat.le_add_right _ _
        · rw [z]; exact Nat.le_add_right _ _
        · rw [z]; exact Nat.le_add_right _ _
        · rw [z]; exact Nat.le_refl _
        · rw [z]; exact Nat.le_add_right _ _
      exact I1.fpOk hle (I1.hok.fresh hle)
/-! ### zip of three -/
def Itm3 (K : PySem.W.Frag) (t1 t2 t3 : Bool) (a b c : Addr) : It :=
  ⟨fun i H => ∃ (xs ys zs : List V), Sq K t1 a H xs ∧ Sq K t2 b H ys ∧ Sq K t3 c H zs ∧ i < xs.length ∧ i < ys.length ∧ i < zs.length,
    fun i H v H' => ∃ T x y u, v = .ref T ∧ H T = none ∧ H' = upd H T (.tup [x, y, u]) ∧ (∀ xs, Sq K t1 a H xs → xs[i]? = some x) ∧ (∀ ys, Sq K t2 b H ys → ys[i]? = some y) ∧ ∀ zs, Sq K t3 c H zs → zs[i]? = some u,
    fun i H => ∃ xs ys zs : List V, Sq K t1 a H xs ∧ Sq K t2 b H ys ∧ Sq K t3 c H zs ∧ i = min (min xs.length ys.length) zs.length⟩
theorem turn_zip3 {P : Program} {w : World} {K : PySem.W.Frag} {elts : List Expr} {kk : Nat} {tpos : Pos} {t1 t2 t3 : Bool} {a b c z TI TO i1 i2 i3 : Addr} (D : ZipSep3 z TI TO i1 i2 i3 [i1, a] [i2, b] [i3, c]) (ha : a ≠ i1) (hb : b ≠ i2) (hc : c ≠ i3) :
    Turn P w K (.Tuple elts kk tpos) (Itm3 K t1 t2 t3 a b c) [z, TI, TO, i1, i2, i3] z (fun i h => IsZip h z TI TO .none ∧ IsTupOf3 h TI (.ref i1) (.ref i2) (.ref i3) ∧ (∃ x y u, IsTupOf3 h TO x y u) ∧ HIt h t1 i1 a i ∧ HIt h t2 i2 b i ∧ HIt h t3 i3 c i) := by
  refine turnN (by simp) (fun i h st d hd => ?_) (fun i h h' st k => ?_) (fun X hP hw hK hh i pins s σ H I hf st hg => ?_) (fun X hP hw hK hh i pins s σ H I hf st hg => ?_) fun A i s Q E h => wpAny_pyIter_zip h.1
  · obtain ⟨hz, hTI, ⟨x, y, u, hTO⟩, h1, h2, h3⟩ := st
    have e' : d = z ∨ d = TI ∨ d = TO ∨ d = i1 ∨ d = i2 ∨ d = i3 := by simpa using hd
    rcases e' with q | q | q | q | q | q
    · rw [q]; exact ⟨_, hz, fun v q => nomatch q⟩
    · rw [q]; exact ⟨_, hTI, fun v q => nomatch q⟩
    · rw [q]; exact ⟨_, hTO, fun v q => nomatch q⟩
    · rw [q]; exact h1.obj
    · rw [q]; exact h2.obj
    · rw [q]; exact h3.obj
  · obtain ⟨hz, hTI, ⟨x, y, u, hTO⟩, h1, h2, h3⟩ := st
    exact ⟨k z (by simp) _ hz, k TI (by simp) _ hTI, ⟨x, y, u, k TO (by simp) _ hTO⟩, h1.at fun o q => k i1 (by simp) o q, h2.at fun o q => k i2 (by simp) o q, h3.at fun o q => k i3 (by simp) o q⟩
  · subst hP hw hK
    obtain ⟨hz, hTI, ⟨x0, y0, u0, hTO⟩, h1, h2, h3⟩ := st
    obtain ⟨xs, ys, zs, hqx, hqy, hqz, hx, hy, hzz⟩ := hg
    obtain ⟨its, rv, p, la⟩ := sqOf I hqx
    obtain ⟨its2, rv2, p2, lb⟩ := sqOf I hqy
    obtain ⟨its3, rv3, p3, lc⟩ := sqOf I hqz
    have l1 := rv.length
    have l2 := rv2.length
    have l3 := rv3.length
    refine ⟨_, _, _, _, _, GoesN.zip3 D (draws_sq (A := X.A.in1) hh t1 i1 a ha its.toArray) (draws_sq (A := X.A.in1) hh t2 i2 b hb its2.toArray) (draws_sq (A := X.A.in1) hh t3 i3 c hc its3.toArray), ⟨hz, hTI, ⟨x0, y0, u0, hTO⟩, ⟨h1, p⟩, ⟨h2, p2⟩, ⟨h3, p3⟩⟩, by simp; omega, by simp, fun v h' hy' st' hk => ?_⟩
    obtain ⟨T, u, u2, u3, rfl, hT, hu, hu2, hu3, hTt⟩ := hy'
    obtain ⟨z', TI', TO', h1', h2', h3'⟩ := st'
    obtain ⟨u', e1, ru⟩ := rv.get (x := xs[i]) (List.getElem?_eq_getElem hx)
    obtain ⟨u2', e2, ru2⟩ := rv2.get (x := ys[i]) (List.getElem?_eq_getElem hy)
    obtain ⟨u3', e3, ru3⟩ := rv3.get (x := zs[i]) (List.getElem?_eq_getElem hzz)
    have e4 : u' = u := Option.some.inj (e1.symm.trans (by simpa using hu))
    have e5 : u2' = u2 := Option.some.inj (e2.symm.trans (by simpa using hu2))
    have e6 : u3' = u3 := Option.some.inj (e3.symm.trans (by simpa using hu3))
    subst e4 e5 e6
    refine ⟨T, [xs[i], ys[i], zs[i]], [u', u2', u3'], rfl, hT, by show 3 ≤ sizeLine; decide, .cons ru (.cons ru2 (.cons ru3 .nil)), hTt, ⟨z', TI', TO', h1'.1, h2'.1, h3'.1⟩, T, xs[i], ys[i], zs[i], rfl, I.hok.fresh hT, rfl, fun l hl => ?_, fun l hl => ?_, fun l hl => ?_⟩
    · rw [sqInj I hl hqx]; exact List.getElem?_eq_getElem hx
    · rw [sqInj I hl hqy]; exact List.getElem?_eq_getElem hy
    · rw [sqInj I hl hqz]; exact List.getElem?_eq_getElem hzz
  · subst hP hw hK
    obtain ⟨hz, hTI, ⟨x0, y0, u0, hTO⟩, h1, h2, h3⟩ := st
    obtain ⟨xs, ys, zs, hqx, hqy, hqz, he⟩ := hg
    obtain ⟨its, rv, p, la⟩ := sqOf I hqx
    obtain ⟨its2, rv2, p2, lb⟩ := sqOf I hqy
    obtain ⟨its3, rv3, p3, lc⟩ := sqOf I hqz
    have l1 := rv.length
    have l2 := rv2.length
    have l3 := rv3.length
    have en : min (min its.toArray.size its2.toArray.size) its3.toArray.size = i := by simp; omega
    have W := GoesN.zip3 (prog := X.prog) (w := X.w) (A := X.A) (elts := elts) (x1 := kk) (pos := tpos) D (draws_sq (A := X.A.in1) hh t1 i1 a ha its.toArray) (draws_sq (A := X.A.in1) hh t2 i2 b hb its2.toArray) (draws_sq (A := X.A.in1) hh t3 i3 c hc its3.toArray)
    rw [en] at W
    exact ⟨_, _, _, _, W, ⟨hz, hTI, ⟨x0, y0, u0, hTO⟩, ⟨h1, p⟩, ⟨h2, p2⟩, ⟨h3, p3⟩⟩, by simp⟩
/-- a new triple of the i-th of three -/
def YTrip (xs ys zs : Nat → Option V) : Nat → Hp → V → Hp → Prop := fun i H v H' => ∃ T x y z, v = .ref T ∧ H T = none ∧ H' = upd H T (.tup [x, y, z]) ∧ xs i = some x ∧ ys i = some y ∧ zs i = some z
theorem walk_zip3 {K : PySem.W.Frag} {t1 t2 t3 : Bool} {a b c : Addr} {xs ys zs : List V} : Walk (Itm3 K t1 t2 t3 a b c) (min (min xs.length ys.length) zs.length) (fun H => Sq K t1 a H xs ∧ Sq K t2 b H ys ∧ Sq K t3 c H zs) (YTrip (fun i => xs[i]?) (fun i => ys[i]?) (fun i => zs[i]?)) :=
  ⟨fun i H hi q => ⟨xs, ys, zs, q.1, q.2.1, q.2.2, by omega, by omega, by omega⟩, fun H q => ⟨xs, ys, zs, q.1, q.2.1, q.2.2, rfl⟩, fun i H v H' hi q y => by
    obtain ⟨T, x, z, u, h1, h2, h3, h4, h5, h6⟩ := y
    exact ⟨T, x, z, u, h1, h2, h3, h4 xs q.1, h5 ys q.2.1, h6 zs q.2.2⟩⟩
def iZip3X (K : PySem.W.Frag) (ta : TA) : TI := fun σ H R => ta σ H fun vs H1 => ∃ t1 t2 t3 a b c xs ys zs, vs = [.ref a, .ref b, .ref c] ∧ Sq K t1 a H1 xs ∧ Sq K t2 b H1 ys ∧ Sq K t3 c H1 zs ∧ R (Itm3 K t1 t2 t3 a b c) H1
theorem pi_zip3X {X : Cx} {e e2 e3 : Expr} {ta : TA} {p pos tpos : Pos} {elts : List Expr} {kk : Nat} (hg : Gl X "zip") (hm : X.mg "zip" = none) (ha : PA X [e, e2, e3] ta)
    (hs : starEach [e, e2, e3] X.env = (false, eval e X.env) :: starEach [e2, e3] X.env := by rfl) (hpl : (backTo pos (starEach [e2, e3] X.env)).any (·.1) = false := by rfl) :
    PI X (.Tuple elts kk tpos) (.Call (.Name "zip" p) [e, e2, e3] [] pos) (iZip3X X.K ta) := by
  refine ⟨fun pins s σ H R I h => ?_⟩
  refine Call_ (ld_blt I hg hm PyProof.Rows.boot_zip (PyProof.Rows.callWith_type1 (thn (ha.run pos pins s σ H _ I h) fun us s1 ⟨vs, H1, I1, r1, q1⟩ => ?_) hs hpl))
  obtain ⟨t1, t2, t3, a, b, c, xs, ys, zs, ex, hqx, hqy, hqz, q⟩ := q1
  subst ex
  cases r1 with
  | cons r rr =>
    cases rr with
    | cons r' rr =>
      cases rr with
      | cons r'' rr =>
        cases rr
        cases r
        cases r'
        cases r''
        obtain ⟨its, rv, p1, la⟩ := sqOf I1 hqx
        obtain ⟨its2, rv2, p2, lb⟩ := sqOf I1 hqy
        obtain ⟨its3, rv3, p3, lc⟩ := sqOf I1 hqz
        refine zip_begins3 (begins_sq t1 a its.toArray) (begins_sq t2 b its2.toArray) (begins_sq t3 c its3.toArray) p1 p2 p3 fun h' hz hTI hTO h1 h2 h3 hsz hk => wpAny_pyIter_zip hz ?_
        have I2 : Inv X pins σ H1 { s1 with heap := h' } := I1.kept (t' := s1.toks) hk
        have D : ZipSep3 (s1.heap.objs.size + 5) (s1.heap.objs.size + 3) (s1.heap.objs.size + 4) s1.heap.objs.size (s1.heap.objs.size + 1) (s1.heap.objs.size + 2) [s1.heap.objs.size, a] [s1.heap.objs.size + 1, b] [s1.heap.objs.size + 2, c] := zip_sep3 (fp1 := [a]) (fp2 := [b]) (fp3 := [c]) (by simp; exact la) (by simp; exact lb) (by simp; exact lc)
        refine ⟨s1.heap.objs.size + 5, [s1.heap.objs.size + 5, s1.heap.objs.size + 3, s1.heap.objs.size + 4, s1.heap.objs.size, s1.heap.objs.size + 1, s1.heap.objs.size + 2], _, _, H1, rfl, I2, turn_zip3 D (Nat.ne_of_lt la) (Nat.ne_of_lt (Nat.lt_succ_of_lt lb)) (Nat.ne_of_lt (Nat.lt_succ_of_lt (Nat.lt_succ_of_lt lc))), ⟨hz, hTI, ⟨_, _, _, hTO⟩, hit_new h1, hit_new h2, hit_new h3⟩, fun c hcm => ?_, q⟩
        have hle : s1.heap.objs.size ≤ c := by
          have e' : c = s1.heap.objs.size + 5 ∨ c = s1.heap.objs.size + 3 ∨ c = s1.heap.objs.size + 4 ∨ c = s1.heap.objs.size ∨ c = s1.heap.objs.size + 1 ∨ c = s1.heap.objs.size + 2 := by simpa using hcm
          rcases e' with z | z | z | z | z | z <;> rw [z] <;> first | exact Nat.le_refl _ | exact Nat.le_add_right _ _
        exact I1.fpOk hle (I1.hok.fresh hle)
/-! ### enumerate -/
set_option maxHeartbeats 1000000 in
theorem meets_enumerate_newX {v : Value} {o : Obj} {H : Heap → Prop} (B : Begins v o H) :
    Meets (Builtin.«enumerate.__new__» ⟨[.type "enumerate", v], []⟩) (fun _ R s => H s.heap ∧
      R (.ok (.ret (.ref (s.heap.push o).objs.size))) { s with heap := (s.heap.push o).push { cls := .type "enumerate", data := .fields #[.none, .bool false, .ref s.heap.objs.size, rawInt 0, .none, .none] } }) :=
  .of_wp fun prog w A R s h => by
    obtain ⟨hp, g, d, tk, os⟩ := s; obtain ⟨h1, h⟩ := h
    have hsub := sub_enumerate
    have q1 : ∀ {A' : Around} {E : Value → Shared → Prop} {Q : Value → Shared → Prop}, Q (.ref hp.objs.size) ⟨hp.push o, g, d, tk, os⟩ → wpAny (model prog w) A' (pyIter v) Q E ⟨hp, g, d, tk, os⟩ :=
      fun q => B.iter prog w _ _ ⟨hp, g, d, tk, os⟩ _ h1 q
    wp_walk using q1
    refine wpAny_stack_any fun st => wpAny_pure ?_
    split
    · rename_i c _ _ _ _ _
      cases (c == Value.type "enumerate")
      · wp_walk using q1
        exact ⟨_, rfl, h⟩
      · wp_walk using q1
        exact ⟨_, rfl, h⟩
    · wp_walk using q1
      exact ⟨_, rfl, h⟩
theorem enum_beginsX {prog : Program} {w : World} {A : Around} {E : Value → Shared → Prop} {s : Shared} {v : Value} {o : Obj} {H : Heap → Prop} {Q : Value → Shared → Prop} (B : Begins v o H) (h1 : H s.heap)
    (h : ∀ h', IsEnum h' (s.heap.objs.size + 1) s.heap.objs.size 0 .none → h'.get? s.heap.objs.size = some o → h'.objs.size = s.heap.objs.size + 2 →
      (∀ b o, s.heap.get? b = some o → h'.get? b = some o) → Q (.ref (s.heap.objs.size + 1)) { s with heap := h' }) :
    wpAny (model prog w) A (call (.type "enumerate") [v]) Q E s := by
  refine callType_new F.called_enumerate (by decide) (F.typeCall_enumerate_1 _) (F.newCall_enumerate_1 _) (fun obj => F.args_object_init_2 obj _) F.entry_enumerate_new
    (meets_enumerate_newX B) ⟨h1, ?_⟩
  have hz : (s.heap.push o).objs.size = s.heap.objs.size + 1 := Heap.size_push ..
  show _ ∧ _
  rw [hz]
  have he : IsEnum ((s.heap.push o).push { cls := .type "enumerate", data := .fields #[.none, .bool false, .ref s.heap.objs.size, rawInt 0, .none, .none] }) (s.heap.objs.size + 1) s.heap.objs.size 0 .none := by
    have := Heap.get?_push_size (s.heap.push o) (o := { cls := .type "enumerate", data := .fields #[.none, .bool false, .ref s.heap.objs.size, rawInt 0, .none, .none] }) rfl
    rw [hz] at this; exact this
  refine ⟨⟨_, he, rfl⟩, h _ he (Heap.get?_push_of_some _ (Heap.get?_push_size _ B.free)) (by rw [Heap.size_push, hz]) fun b o x => Heap.get?_push_of_some _ (Heap.get?_push_of_some _ x)⟩
def Itn (K : PySem.W.Frag) (t : Bool) (a : Addr) : It :=
  ⟨fun i H => ∃ (xs : List V), Sq K t a H xs ∧ i < xs.length, fun i H v H' => ∃ T x, v = .ref T ∧ H T = none ∧ H' = upd H T (.tup [.int (i : Nat), x]) ∧ ∀ xs, Sq K t a H xs → xs[i]? = some x, fun i H => ∃ xs : List V, Sq K t a H xs ∧ i = xs.length⟩
theorem turn_enumX {P : Program} {w : World} {K : PySem.W.Frag} {elts : List Expr} {kk : Nat} {tpos : Pos} {t : Bool} {a e it : Addr} (hei : e ≠ it) (hea : e ≠ a) (ha : a ≠ it) :
    Turn P w K (.Tuple elts kk tpos) (Itn K t a) [e, it] e (fun i h => (∃ old, IsEnum h e it (0 + ((i : Nat) : Int)) old) ∧ HIt h t it a i) := by
  have hef : e ∉ [it, a] := by simp; exact ⟨hei, hea⟩
  refine turnN (by simp) (fun i h st c hc => ?_) (fun i h h' st k => ?_) (fun X hP hw hK hh i pins s σ H I hf st hg => ?_) (fun X hP hw hK hh i pins s σ H I hf st hg => ?_) fun A i s Q E h => let ⟨⟨_, he⟩, _⟩ := h; wpAny_pyIter_enum he
  · obtain ⟨⟨old, he⟩, h1⟩ := st
    have e' : c = e ∨ c = it := by simpa using hc
    rcases e' with q | q
    · rw [q]; exact ⟨_, he, fun v q => nomatch q⟩
    · rw [q]; exact h1.obj
  · obtain ⟨⟨old, he⟩, h1⟩ := st
    exact ⟨⟨old, k e (by simp) _ he⟩, h1.at fun o q => k it (by simp) o q⟩
  · subst hP hw hK
    obtain ⟨⟨old, he⟩, h1⟩ := st
    obtain ⟨xs, hqx, hx⟩ := hg
    obtain ⟨its, rv, p, la⟩ := sqOf I hqx
    have l1 := rv.length
    refine ⟨_, _, _, _, _, GoesN.enumFrom 0 (draws_sq (A := X.A.in1) hh t it a ha its.toArray) e hei hef (by simp), ⟨⟨old, he⟩, h1, p⟩, by simp; omega, by simp, fun v h' hy' st' hk => ?_⟩
    obtain ⟨T, tk, u, rfl, hT, hu, hTt⟩ := hy'
    obtain ⟨he', h1'⟩ := st'
    obtain ⟨u', e1, ru⟩ := rv.get (x := xs[i]) (List.getElem?_eq_getElem hx)
    have e3 : u' = u := Option.some.inj (e1.symm.trans (by simpa using hu))
    subst e3
    refine ⟨T, [.int (i : Nat), xs[i]], [.int (0 + (i : Int)) tk, u'], rfl, hT, by show 2 ≤ sizeLine; decide, .cons ⟨tk, by rw [Int.zero_add]⟩ (.cons ru .nil), hTt, ⟨he', h1'.1⟩, T, xs[i], rfl, I.hok.fresh hT, rfl, fun l hl => ?_⟩
    rw [sqInj I hl hqx]; exact List.getElem?_eq_getElem hx
  · subst hP hw hK
    obtain ⟨⟨old, he⟩, h1⟩ := st
    obtain ⟨xs, hqx, hi⟩ := hg
    obtain ⟨its, rv, p, la⟩ := sqOf I hqx
    have l1 := rv.length
    have en : its.toArray.size = i := by simp; omega
    have W := GoesN.enumFrom (prog := X.prog) (w := X.w) (A := X.A) (elts := elts) (x1 := kk) (pos := tpos) 0 (draws_sq (A := X.A.in1) hh t it a ha its.toArray) e hei hef (by simp)
    rw [en] at W
    exact ⟨_, _, _, _, W, ⟨⟨old, he⟩, h1, p⟩, by simp⟩
theorem walk_enumX {K : PySem.W.Frag} {t : Bool} {a : Addr} {xs : List V} : Walk (Itn K t a) xs.length (fun H => Sq K t a H xs) (YPair (fun i => some (.int (i : Nat))) (fun i => xs[i]?)) :=
  ⟨fun i H hi q => ⟨xs, q, hi⟩, fun H q => ⟨xs, q, rfl⟩, fun i H v H' hi q y => by
    obtain ⟨T, x, h1, h2, h3, h4⟩ := y
    exact ⟨T, _, x, h1, h2, h3, rfl, h4 xs q⟩⟩
def iEnumX (K : PySem.W.Frag) (ta : TA) : TI := fun σ H R => ta σ H fun vs H1 => ∃ t a xs, vs = [.ref a] ∧ Sq K t a H1 xs ∧ R (Itn K t a) H1
theorem pi_enumX {X : Cx} {e : Expr} {ta : TA} {p pos tpos : Pos} {elts : List Expr} {kk : Nat} (hg : Gl X "enumerate") (hm : X.mg "enumerate" = none) (ha : PA X [e] ta) (hs : starEach [e] X.env = [(false, eval e X.env)] := by rfl) :
    PI X (.Tuple elts kk tpos) (.Call (.Name "enumerate" p) [e] [] pos) (iEnumX X.K ta) := by
  refine ⟨fun pins s σ H R I h => ?_⟩
  refine Call_ (ld_blt I hg hm boot_enumerate (PyProof.Rows.callWith_type1 (thn (ha.run pos pins s σ H _ I h) fun us s1 ⟨vs, H1, I1, r1, q1⟩ => ?_) hs rfl))
  obtain ⟨t, a, xs, ex, hq, q⟩ := q1
  subst ex
  cases r1 with
  | cons r rr =>
    cases rr
    cases r
    obtain ⟨its, rv, p', la⟩ := sqOf I1 hq
    refine enum_beginsX (begins_sq t a its.toArray) p' fun h' he hit hsz hk => wpAny_pyIter_enum he ?_
    have I2 : Inv X pins σ H1 { s1 with heap := h' } := I1.kept (t' := s1.toks) hk
    refine ⟨s1.heap.objs.size + 1, [s1.heap.objs.size + 1, s1.heap.objs.size], _, _, H1, rfl, I2, turn_enumX (t := t) (a := a) (Nat.succ_ne_self _) (Nat.ne_of_gt (Nat.lt_succ_of_lt la)) (Nat.ne_of_lt la), ⟨⟨.none, he⟩, hit_new hit⟩, fun b hb => ?_, q⟩
    have e' : b = s1.heap.objs.size + 1 ∨ b = s1.heap.objs.size := by simpa using hb
    have hle : s1.heap.objs.size ≤ b := by
      rcases e' with z | z
      · rw [z]; exact Nat.le_add_right _ _
      · rw [z]; exact Nat.le_refl _
    exact I1.fpOk hle (I1.hok.fresh hle)
/-! ### a list or a tuple, as it is -/
def iSeqX (K : PySem.W.Frag) (tl : TE) : TI := fun σ H R => tl σ H fun x H1 => ∃ a, x = .ref a ∧ ((∃ xs, SqL K H1 a xs) ∧ R (Itl K a) H1 ∨ (∃ xs, SqT K H1 a xs) ∧ R (Itt K a) H1)
theorem pi_seqX {X : Cx} {tg l : Expr} {tl : TE} (hl : PE X l tl) : PI X tg l (iSeqX X.K tl) := by
  refine ⟨fun pins s σ H R I h => ?_⟩
  refine thn (hl.run pins s σ H _ I h) fun v s1 ⟨x, H1, I1, r1, q1⟩ => ?_
  obtain ⟨a, e, q⟩ := q1
  subst e
  cases r1
  rcases q with ⟨⟨xs, hq⟩, q⟩ | ⟨⟨xs, hq⟩, q⟩
  · obtain ⟨its, rv, p, hz⟩ := I1.list hq
    refine wpAny_pyIter_list p.isList ?_
    refine ⟨s1.heap.objs.size, [s1.heap.objs.size], _, _, H1, rfl, I1.kept (t' := s1.toks) fun b o e => Heap.get?_push_of_some _ e, turn_list a _, ⟨_, Heap.get?_push_size _ rfl, rfl, rfl⟩, fun b hb => ?_, q⟩
    have e : b = s1.heap.objs.size := by simpa using hb
    subst e
    exact I1.fpOk (Nat.le_refl _) (I1.hok.fresh (Nat.le_refl _))
  · obtain ⟨its, rv, p, hz⟩ := I1.tuple hq
    refine wpAny_pyIter_tuple (show s1.heap.IsTuple a its.toArray from p) ?_
    refine ⟨s1.heap.objs.size, [s1.heap.objs.size], _, _, H1, rfl, I1.kept (t' := s1.toks) fun b o e => Heap.get?_push_of_some _ e, turn_tuple a _, ⟨_, Heap.get?_push_size _ rfl, rfl, rfl⟩, fun b hb => ?_, q⟩
    have e : b = s1.heap.objs.size := by simpa using hb
    subst e
    exact I1.fpOk (Nat.le_refl _) (I1.hok.fresh (Nat.le_refl _))
end S67

/-! KH: the readings of sources and targets; comprehensions. -/
namespace S67
open PySem PySem.Spec PyProof.Rows L2
/-! ### the frame grows -/
def grow (G H : Hp) (ps : List Addr) : Hp := fun c => if c ∈ ps then H c else G c
theorem grow_old {G H H' : Hp} {ps : List Addr} (hp : ∀ c ∈ ps, H c = none) : ∀ c, H c ≠ none → grow G H' ps c = G c := fun c h => by
  unfold grow
  rw [if_neg fun hc => h (hp c hc)]
theorem RS.grow {K : PySem.W.Frag} {G : Hp} {O : Option Addr} {σ : L2.St} {H H' : Hp} {r : Rho} (s : RS K G O σ H r) (e : Ex H H') (ps : List Addr) (hp : ∀ c ∈ ps, H c = none) : Ex G (grow G H' ps) ∧ RS K (grow G H' ps) O σ H' r := by
  have hG : ∀ c ∈ ps, G c = none := fun c hc => by
    cases h1 : G c with
    | none => rfl
    | some u =>
      by_cases hO : O = some c
      · obtain ⟨_, xs, h2⟩ := s.gO c hO
        rw [hp c hc] at h2
        cases h2
      · have h2 := s.ext c u h1 hO
        rw [hp c hc] at h2
        cases h2
  have x1 : Ex G (S67.grow G H' ps) := fun c u h => by
    have : c ∉ ps := fun hc => by rw [hG c hc] at h; cases h
    unfold S67.grow
    rw [if_neg this]
    exact h
  refine ⟨x1, s.len, fun c u h hO => ?_, fun p hO => ?_, fun i a h => ?_, s.sep⟩
  · unfold S67.grow at h
    split at h
    · exact h
    · exact e _ _ (s.ext c u h hO)
  · obtain ⟨h1, xs, h2⟩ := s.gO p hO
    refine ⟨?_, xs, e _ _ h2⟩
    unfold S67.grow
    split
    · rw [e _ _ h2]
      exact fun z => nomatch z
    · exact h1
  · obtain ⟨v, h1, h2⟩ := s.slot i a h
    refine ⟨v, h1, ?_⟩
    have h2 := h2.ex e
    have hno : ∀ p u, H p = some u → p ∉ ps := fun p u q hc => by rw [hp p hc] at q; cases q
    unfold RB at h2 ⊢
    split at h2
    · exact h2
    · obtain ⟨p, xs, q1, q2, q3, q4⟩ := h2
      exact ⟨p, xs, q1, x1.seqL q2, q3, q4⟩
    · obtain ⟨v', h1', hh⟩ := s.slot i _ h
      obtain ⟨p, xs, q1, q2, q3, q4⟩ := h2
      obtain ⟨p', xs', q1', q2', q3', q4'⟩ := hh
      have ev : v = v' := by
        have := h1.symm.trans h1'
        exact Option.some.inj (Option.some.inj this)
      subst ev
      rw [q1] at q1'
      cases q1'
      refine ⟨p, xs, q1, ?_, q3, q4⟩
      unfold S67.grow
      rw [if_neg (hno p _ q3')]
      exact q2
    · obtain ⟨v', h1', hh⟩ := s.slot i _ h
      obtain ⟨p, q1, q2, q3⟩ := h2
      obtain ⟨p', q1', q2', q3'⟩ := hh
      have ev : v = v' := by
        have := h1.symm.trans h1'
        exact Option.some.inj (Option.some.inj this)
      subst ev
      rw [q1] at q1'
      cases q1'
      refine ⟨p, q1, ?_, q3⟩
      unfold S67.grow
      rw [if_neg (hno p _ q3')]
      exact q2
    · exact h2
    · obtain ⟨p, q1, q2, q3⟩ := h2
      exact ⟨p, q1, x1 _ _ q2, q3⟩
    · exact h2
/-! ### sources -/
/-- n items: while Gd holds of the heap it walks, and gives out ds -/
def IW (K : PySem.W.Frag) (J : It) (ds : List Dt) (H' : Hp) (Gd : Hp → Prop) : Prop := ∃ Y, Walk J ds.length Gd Y ∧ ∀ i H2 x H3 d, Tl H' H2 → Gd H2 → Y i H2 x H3 → ds[i]? = some d → Ex H2 H3 ∧ Rp K H3 x d
/-- what Gd needs -/
structure GdOk (K : PySem.W.Frag) (G : Hp) (O : Option Addr) (σ : L2.St) (H H' : Hp) (r : Rho) (Gd : Hp → Prop) (b : Bool) : Prop where
  now : Gd H'
  ex : ∀ H2 H3, Gd H2 → Ex H2 H3 → Gd H3
  fix : b = true → ∃ G', Ex G G' ∧ RS K G' O σ H' r ∧ (∀ c, H c ≠ none → G' c = G c) ∧ ∀ H2, Frm O G' H2 → Tl H' H2 → Gd H2
def tI (K : PySem.W.Frag) (f : SI) : TI := fun σ H R => ∃ G O r q, RS K G O σ H r ∧ f r = some q ∧ ∀ J H' Gd, Ex H H' → IW K J q.2 H' Gd → GdOk K G O σ H H' r Gd q.1 → R J H'
abbrev DI (X : Cx) (tg iter : Expr) (f : SI) : Prop := PI X tg iter (tI X.K f)
/-- a source among the values -/
structure SrcOk (K : PySem.W.Frag) (G : Hp) (O : Option Addr) (H H' : Hp) (v : V) (a : Av) (xs : List Dt) (t : Bool) (p : Addr) (vs : List V) (ps : List Addr) : Prop where
  eq : v = .ref p
  sq : Sq K t p H' vs
  rps : Rps K H' vs xs
  new : ∀ c ∈ ps, H c = none
  fix : notOw a = true → ∀ H2, Frm O (grow G H' ps) H2 → Tl H' H2 → Sq K t p H2 vs
theorem Sq.ex {K : PySem.W.Frag} {t : Bool} {p : Addr} {H H' : Hp} {vs : List V} (e : Ex H H') (h : Sq K t p H vs) : Sq K t p H' vs := by
  cases t with
  | true =>
    rcases (show SqT K H p vs from h) with (h | ⟨o, h⟩) | h
    · exact Or.inl (.inl (e _ _ h))
    · exact Or.inl (.inr ⟨o, e _ _ h⟩)
    · exact Or.inr h
  | false => exact e.seqL h
theorem Frm.mono {O : Option Addr} {G G' H : Hp} (x : Ex G G') (f : Frm O G' H) : Frm O G H := fun a u h1 h2 => f a u (x a u h1) h2
theorem srcOk {K : PySem.W.Frag} {G : Hp} {O : Option Addr} {σ : L2.St} {H H' : Hp} {r : Rho} {v : V} {a : Av} {xs : List Dt} (s : RS K G O σ H r) (e : Ex H H') (h : RR K G O H H' v a) (hx : vSeq a = some xs) : ∃ t p vs ps, SrcOk K G O H H' v a xs t p vs ps := by
  cases a with
  | d x =>
    cases x with
    | tup es =>
      have hx : es = xs := Option.some.inj hx
      subst hx
      have h : Rp K H' v (.tup es) := h
      cases h with
      | @tup p vs _ h1 h2 => exact ⟨true, p, vs, [], rfl, SqT.of h1, h2, fun c hc => (List.not_mem_nil hc).elim, fun _ H2 _ tl => SqT.of (tl _ _ h1)⟩
    | non => cases hx
    | bl _ => cases hx
    | int _ => cases hx
    | str _ => cases hx
  | l k es =>
    have hx : es = xs := Option.some.inj hx
    subst hx
    cases k with
    | fr =>
      obtain ⟨p, vs, q1, q2, q3, q4⟩ := h
      refine ⟨false, p, vs, [p], q1, SqL.of q3, q4, fun c hc => ?_, fun _ H2 fm _ => SqL.of (fm p _ ?_ fun hO => ?_)⟩
      · have : c = p := by simpa using hc
        rw [this]
        exact q2
      · unfold grow
        rw [if_pos (by simp)]
        exact q3
      · obtain ⟨_, xs, h2⟩ := s.gO p hO
        rw [q2] at h2
        cases h2
    | ro =>
      obtain ⟨p, vs, q1, q2, q3, q4⟩ := h
      refine ⟨false, p, vs, [], q1, (s.ext.ex e).seqL q2 q3, q4, fun c hc => (List.not_mem_nil hc).elim, fun _ H2 fm _ => ?_⟩
      have : grow G H' [] = G := by
        funext c
        unfold grow
        rw [if_neg (by simp)]
      rw [this] at fm
      exact fm.seqL q2 q3
    | ow =>
      obtain ⟨p, vs, q1, q2, q3, q4⟩ := h
      exact ⟨false, p, vs, [], q1, SqL.of q3, q4, fun c hc => (List.not_mem_nil hc).elim, fun z => nomatch z⟩
    | bx =>
      obtain ⟨p, vs, q1, q2, q3, q4⟩ := h
      exact ⟨false, p, vs, [], q1, SqL.of q3, q4, fun c hc => (List.not_mem_nil hc).elim, fun z => nomatch z⟩
  | m _ _ => cases hx
  | x _ => cases hx
/-- the frame over more new ones -/
theorem Frm.sub {O : Option Addr} {G H' H2 : Hp} {ps qs : List Addr} (hs : ∀ c ∈ ps, c ∈ qs) (hq : ∀ c ∈ qs, c ∉ ps → G c = none) (f : Frm O (grow G H' qs) H2) : Frm O (grow G H' ps) H2 := fun c u h1 h2 => by
  refine f c u ?_ h2
  unfold grow at h1 ⊢
  split at h1
  · rename_i hc
    rw [if_pos (hs c hc)]
    exact h1
  · rename_i hc
    by_cases hc2 : c ∈ qs
    · rw [hq c hc2 hc] at h1
      cases h1
    · rw [if_neg hc2]
      exact h1
theorem RS.gNone {K : PySem.W.Frag} {G : Hp} {O : Option Addr} {σ : L2.St} {H : Hp} {r : Rho} (s : RS K G O σ H r) {c : Addr} (h : H c = none) : G c = none := by
  cases h1 : G c with
  | none => rfl
  | some u =>
    by_cases hO : O = some c
    · obtain ⟨_, xs, h2⟩ := s.gO c hO
      rw [h] at h2
      cases h2
    · have h2 := s.ext c u h1 hO
      rw [h] at h2
      cases h2
theorem rps_get {K : PySem.W.Frag} {H : Hp} {vs : List V} {xs : List Dt} {i : Nat} {x : V} {d : Dt} (q : Rps K H vs xs) (h1 : vs[i]? = some x) (h2 : xs[i]? = some d) : Rp K H x d := by
  obtain ⟨d', e, h⟩ := q.getV h1
  rw [h2] at e
  cases e
  exact h
section
variable {X : Cx} {a b c e : Expr} {f g k : SE} {pos p p2 : Pos} {tg : Expr}
theorem di_seq (ha : DE X a f) : DI X tg a (iSeq f) := PIw (pi_seqX ha) fun σ H R ⟨G, O, r, q, s, e, k⟩ => by
  simp only [iSeq, Option.bind_eq_some_iff, Option.map_eq_some_iff] at e
  obtain ⟨u, e1, xs, e2, rfl⟩ := e
  refine ⟨G, O, r, u, s, e1, fun x H1 x1 r1 => ?_⟩
  obtain ⟨t, p, vs, ps, so⟩ := srcOk s x1 r1 e2
  refine ⟨p, so.eq, ?_⟩
  have gd : GdOk X.K G O σ H H1 r (Sq X.K t p · vs) (notOw u) := ⟨so.sq, fun _ _ h x => Sq.ex x h, fun hb => ⟨_, (s.grow x1 ps so.new).1, (s.grow x1 ps so.new).2, grow_old so.new, so.fix hb⟩⟩
  have iw : ∀ {J : It}, Walk J vs.length (Sq X.K t p · vs) (YAt vs) → IW X.K J xs H1 (Sq X.K t p · vs) := fun w => by
    rw [so.rps.length] at w
    exact ⟨_, w, fun i H2 x H3 d tl _ y hd => by
      obtain ⟨rfl, y⟩ := y
      exact ⟨Ex.refl _, (rps_get so.rps y hd).mono tl⟩⟩
  cases t with
  | true => exact .inr ⟨⟨vs, so.sq⟩, k _ H1 _ x1 (iw walk_tup) gd⟩
  | false => exact .inl ⟨⟨vs, so.sq⟩, k _ H1 _ x1 (iw walk_list) gd⟩
theorem gd_true {K : PySem.W.Frag} {G : Hp} {O : Option Addr} {σ : L2.St} {H H' : Hp} {r : Rho} (s : RS K G O σ H r) (e : Ex H H') : GdOk K G O σ H H' r (fun _ => True) true := ⟨trivial, fun _ _ _ _ => trivial, fun _ => ⟨G, Ex.refl G, s.ex e, fun _ _ => rfl, fun _ _ _ => trivial⟩⟩
theorem rangeD_len (lo : Int) (n : Nat) : (rangeD lo n).length = n := by simp [rangeD]
theorem iw_range {K : PySem.W.Frag} {H : Hp} (lo : Int) (n : Nat) : IW K (Itr lo n) (rangeD lo n) H (fun _ => True) := by
  refine ⟨YFn fun i => .int (lo + i), ?_, fun i H2 x H3 d tl _ y hd => ?_⟩
  · rw [rangeD_len]
    exact walk_range
  · obtain ⟨rfl, rfl⟩ := y
    have hi : i < n := by
      have := (List.getElem?_eq_some_iff.mp hd).1
      rw [rangeD_len] at this
      exact this
    have : d = .int (lo + i) := by
      unfold rangeD at hd
      rw [List.getElem?_map, List.getElem?_range hi] at hd
      exact (Option.some.inj hd).symm
    subst this
    exact ⟨Ex.refl _, .int _⟩
theorem di_range1 (hg : Gl X "range") (hm : X.mg "range" = none) (ha : DE X a f) (hs : starEach [a] X.env = [(false, eval a X.env)] := by rfl) : DI X tg (.Call (.Name "range" p) [a] [] pos) (iRange1 f) := PIw (pi_range1 hg hm (da_cons ha da_nil hs) hs) fun σ H R ⟨G, O, r, q, s, e, k⟩ => by
  simp only [iRange1, Option.bind_eq_some_iff] at e
  obtain ⟨j, ⟨u, e1, e2⟩, e3⟩ := e
  split at e3
  · rename_i hj
    have e3 := Option.some.inj e3
    subst e3
    refine ⟨G, O, r, [u], s, by simp [seqE, e1], fun vs H1 x1 r1 => ?_⟩
    cases r1 with
    | cons r1 rr =>
      cases rr
      exact ⟨j, by rw [r1.vint e2], hj.1, hj.2, k _ H1 _ x1 (iw_range 0 _) (gd_true s x1)⟩
  · cases e3
theorem di_range2 (hg : Gl X "range") (hm : X.mg "range" = none) (ha : DE X a f) (hb : DE X b g) (hs : starEach [a, b] X.env = [(false, eval a X.env), (false, eval b X.env)] := by rfl) (hs2 : starEach [b] X.env = [(false, eval b X.env)] := by rfl)
    (hs3 : starEach [a, b] X.env = (false, eval a X.env) :: starEach [b] X.env := by rfl) : DI X tg (.Call (.Name "range" p) [a, b] [] pos) (iRange2 f g) := PIw (pi_range2 hg hm (da_cons ha (da_cons hb da_nil hs2) hs3) hs hs2) fun σ H R ⟨G, O, r, q, s, e, k⟩ => by
  simp only [iRange2, Option.bind_eq_some_iff] at e
  obtain ⟨i, ⟨u, e1, e2⟩, j, ⟨v, e3, e4⟩, e5⟩ := e
  split at e5
  · rename_i hj
    have e5 := Option.some.inj e5
    subst e5
    refine ⟨G, O, r, [u, v], s, by simp [seqE, e1, e3], fun vs H1 x1 r1 => ?_⟩
    cases r1 with
    | cons r1 rr =>
      cases rr with
      | cons r2 rr =>
        cases rr
        exact ⟨i, j, by rw [r1.vint e2, r2.vint e4], ⟨hj.1.1, hj.1.2, hj.2.1, hj.2.2⟩, k _ H1 _ x1 (iw_range i _) (gd_true s x1)⟩
  · cases e5
theorem enumD_len (xs : List Dt) : (enumD xs).length = xs.length := by simp [enumD]
theorem enumD_get {xs : List Dt} {i : Nat} {d : Dt} (h : (enumD xs)[i]? = some d) : ∃ x, xs[i]? = some x ∧ d = .tup [.int (i : Nat), x] := by
  unfold enumD at h
  rw [List.getElem?_zipWith] at h
  cases hx : xs[i]? with
  | none => rw [hx] at h; cases h1 : (List.range xs.length)[i]? <;> rw [h1] at h <;> cases h
  | some x =>
    have hi : i < xs.length := (List.getElem?_eq_some_iff.mp hx).1
    rw [hx, List.getElem?_range hi] at h
    exact ⟨x, rfl, (Option.some.inj h).symm⟩
theorem di_enum {elts : List Expr} {kk : Nat} {tpos : Pos} (hg : Gl X "enumerate") (hm : X.mg "enumerate" = none) (ha : DE X a f) (hs : starEach [a] X.env = [(false, eval a X.env)] := by rfl) : DI X (.Tuple elts kk tpos) (.Call (.Name "enumerate" p) [a] [] pos) (iEnum f) := PIw (pi_enumX hg hm (da_cons ha da_nil hs) hs) fun σ H R ⟨G, O, r, q, s, e, k⟩ => by
  simp only [iEnum, Option.bind_eq_some_iff, Option.map_eq_some_iff] at e
  obtain ⟨u, e1, xs, e2, rfl⟩ := e
  refine ⟨G, O, r, [u], s, by simp [seqE, e1], fun ws H1 x1 r1 => ?_⟩
  cases r1 with
  | cons r1 rr =>
    cases rr
    obtain ⟨t, p, vs, ps, so⟩ := srcOk s x1 r1 e2
    refine ⟨t, p, vs, by rw [so.eq], so.sq, k _ H1 (Sq X.K t p · vs) x1 ⟨YPair (fun i => some (.int (i : Nat))) (fun i => vs[i]?), ?_, fun i H2 x H3 d tl _ y hd => ?_⟩ ⟨so.sq, fun _ _ h x => Sq.ex x h, fun hb => ⟨_, (s.grow x1 ps so.new).1, (s.grow x1 ps so.new).2, grow_old so.new, so.fix hb⟩⟩⟩
    · rw [enumD_len, ← so.rps.length]
      exact walk_enumX
    · obtain ⟨T, x, y, rfl, hT, rfl, h1, h2⟩ := y
      have h1 := Option.some.inj h1
      subst h1
      obtain ⟨z, hz, rfl⟩ := enumD_get hd
      exact ⟨Ex.new hT, .tup upd_same (.cons (.int _) (.cons ((rps_get so.rps h2 hz).mono (tl.trans (Ex.new hT).tl)) .nil))⟩
theorem zip2D_len (xs ys : List Dt) : (zip2D xs ys).length = min xs.length ys.length := by simp [zip2D]
theorem zip2D_get {xs ys : List Dt} {i : Nat} {d : Dt} (h : (zip2D xs ys)[i]? = some d) : ∃ x y, xs[i]? = some x ∧ ys[i]? = some y ∧ d = .tup [x, y] := by
  unfold zip2D at h
  rw [List.getElem?_zipWith] at h
  cases hx : xs[i]? with
  | none => rw [hx] at h; cases h
  | some x =>
    cases hy : ys[i]? with
    | none => rw [hx, hy] at h; cases h
    | some y =>
      rw [hx, hy] at h
      exact ⟨x, y, rfl, rfl, (Option.some.inj h).symm⟩
theorem di_zip2 {elts : List Expr} {kk : Nat} {tpos : Pos} (hg : Gl X "zip") (hm : X.mg "zip" = none) (ha : DE X a f) (hb : DE X b g) (hs : starEach [a, b] X.env = (false, eval a X.env) :: starEach [b] X.env := by rfl) (hs2 : starEach [b] X.env = (false, eval b X.env) :: starEach [] X.env := by rfl) (hpl : (backTo pos (starEach [b] X.env)).any (·.1) = false := by rfl) :
    DI X (.Tuple elts kk tpos) (.Call (.Name "zip" p) [a, b] [] pos) (iZip2 f g) := PIw (pi_zipX hg hm (da_cons ha (da_cons hb da_nil hs2) hs) hs hpl) fun σ H R ⟨G, O, r, q, s, e, k⟩ => by
  simp only [iZip2, Option.bind_eq_some_iff, Option.map_eq_some_iff] at e
  obtain ⟨u, e1, v, e2, xs, e3, ys, e4, rfl⟩ := e
  refine ⟨G, O, r, [u, v], s, by simp [seqE, e1, e2], fun ws H1 x1 r1 => ?_⟩
  cases r1 with
  | cons r1 rr =>
    cases rr with
    | cons r2 rr =>
      cases rr
      obtain ⟨t, p, vs, ps, so⟩ := srcOk s x1 r1 e3
      obtain ⟨t', p', vs', ps', so'⟩ := srcOk s x1 r2 e4
      have hn : ∀ c ∈ ps ++ ps', H c = none := fun c hc => (List.mem_append.mp hc).elim (so.new c) (so'.new c)
      refine ⟨t, t', p, p', vs, vs', by rw [so.eq, so'.eq], so.sq, so'.sq, k _ H1 (fun H => Sq X.K t p H vs ∧ Sq X.K t' p' H vs') x1 ⟨YPair (fun i => vs[i]?) (fun i => vs'[i]?), ?_, fun i H2 x H3 d tl _ y hd => ?_⟩ ⟨⟨so.sq, so'.sq⟩, fun _ _ h x => ⟨Sq.ex x h.1, Sq.ex x h.2⟩, fun hb => ⟨_, (s.grow x1 _ hn).1, (s.grow x1 _ hn).2, grow_old hn, fun H2 fm tl => ?_⟩⟩⟩
      · rw [zip2D_len, ← so.rps.length, ← so'.rps.length]
        exact walk_zip2
      · obtain ⟨T, x, y, rfl, hT, rfl, h1, h2⟩ := y
        obtain ⟨z1, z2, hz1, hz2, rfl⟩ := zip2D_get hd
        have tt := tl.trans (Ex.new (o := .tup [x, y]) hT).tl
        exact ⟨Ex.new hT, .tup upd_same (.cons ((rps_get so.rps h1 hz1).mono tt) (.cons ((rps_get so'.rps h2 hz2).mono tt) .nil))⟩
      · have hb := Bool.and_eq_true_iff.mp hb
        have key : ∀ qs : List Addr, (∀ c ∈ qs, c ∈ ps ++ ps') → Frm O (grow G H1 qs) H2 := fun qs hq => fm.sub hq fun c hc _ => s.gNone (hn c hc)
        exact ⟨so.fix hb.1 H2 (key _ fun c hc => List.mem_append_left _ hc) tl, so'.fix hb.2 H2 (key _ fun c hc => List.mem_append_right _ hc) tl⟩
theorem zip3D_len : ∀ xs ys zs : List Dt, (zip3D xs ys zs).length = min (min xs.length ys.length) zs.length
  | [], _, _ => by simp [zip3D]
  | _ :: _, [], _ => by simp [zip3D]
  | _ :: _, _ :: _, [] => by simp [zip3D]
  | x :: xs, y :: ys, z :: zs => by
    have := zip3D_len xs ys zs
    simp only [zip3D, List.length_cons]
    omega
theorem zip3D_get : ∀ {xs ys zs : List Dt} {i : Nat} {d : Dt}, (zip3D xs ys zs)[i]? = some d → ∃ x y z, xs[i]? = some x ∧ ys[i]? = some y ∧ zs[i]? = some z ∧ d = .tup [x, y, z]
  | [], _, _, _, _, h => by simp [zip3D] at h
  | _ :: _, [], _, _, _, h => by simp [zip3D] at h
  | _ :: _, _ :: _, [], _, _, h => by simp [zip3D] at h
  | x :: xs, y :: ys, z :: zs, 0, d, h => ⟨x, y, z, rfl, rfl, rfl, (Option.some.inj h).symm⟩
  | x :: xs, y :: ys, z :: zs, i + 1, d, h => zip3D_get (xs := xs) (ys := ys) (zs := zs) (by simpa [zip3D] using h)
theorem di_zip3 {elts : List Expr} {kk : Nat} {tpos : Pos} (hg : Gl X "zip") (hm : X.mg "zip" = none) (ha : DE X a f) (hb : DE X b g) (hc : DE X c k) (hs : starEach [a, b, c] X.env = (false, eval a X.env) :: starEach [b, c] X.env := by rfl) (hs2 : starEach [b, c] X.env = (false, eval b X.env) :: starEach [c] X.env := by rfl)
    (hs3 : starEach [c] X.env = (false, eval c X.env) :: starEach [] X.env := by rfl) (hpl : (backTo pos (starEach [b, c] X.env)).any (·.1) = false := by rfl) :
    DI X (.Tuple elts kk tpos) (.Call (.Name "zip" p) [a, b, c] [] pos) (iZip3 f g k) := PIw (pi_zip3X hg hm (da_cons ha (da_cons hb (da_cons hc da_nil hs3) hs2) hs) hs hpl) fun σ H R ⟨G, O, r, q, s, e, kk⟩ => by
  simp only [iZip3, Option.bind_eq_some_iff, Option.map_eq_some_iff] at e
  obtain ⟨u, e1, v, e2, w, e3, xs, e4, ys, e5, zs, e6, rfl⟩ := e
  refine ⟨G, O, r, [u, v, w], s, by simp [seqE, e1, e2, e3], fun ws H1 x1 r1 => ?_⟩
  cases r1 with
  | cons r1 rr =>
    cases rr with
    | cons r2 rr =>
      cases rr with
      | cons r3 rr =>
        cases rr
        obtain ⟨t, p, vs, ps, so⟩ := srcOk s x1 r1 e4
        obtain ⟨t', p', vs', ps', so'⟩ := srcOk s x1 r2 e5
        obtain ⟨t'', p'', vs'', ps'', so''⟩ := srcOk s x1 r3 e6
        have hn : ∀ c ∈ ps ++ ps' ++ ps'', H c = none := fun c hc => (List.mem_append.mp hc).elim (fun hc => (List.mem_append.mp hc).elim (so.new c) (so'.new c)) (so''.new c)
        refine ⟨t, t', t'', p, p', p'', vs, vs', vs'', by rw [so.eq, so'.eq, so''.eq], so.sq, so'.sq, so''.sq, kk _ H1 (fun H => Sq X.K t p H vs ∧ Sq X.K t' p' H vs' ∧ Sq X.K t'' p'' H vs'') x1 ⟨YTrip (fun i => vs[i]?) (fun i => vs'[i]?) (fun i => vs''[i]?), ?_, fun i H2 x H3 d tl _ y hd => ?_⟩ ⟨⟨so.sq, so'.sq, so''.sq⟩, fun _ _ h x => ⟨Sq.ex x h.1, Sq.ex x h.2.1, Sq.ex x h.2.2⟩, fun hb => ⟨_, (s.grow x1 _ hn).1, (s.grow x1 _ hn).2, grow_old hn, fun H2 fm tl => ?_⟩⟩⟩
        · rw [zip3D_len, ← so.rps.length, ← so'.rps.length, ← so''.rps.length]
          exact walk_zip3
        · obtain ⟨T, x, y, z, rfl, hT, rfl, h1, h2, h3⟩ := y
          obtain ⟨z1, z2, z3, hz1, hz2, hz3, rfl⟩ := zip3D_get hd
          have tt := tl.trans (Ex.new (o := .tup [x, y, z]) hT).tl
          exact ⟨Ex.new hT, .tup upd_same (.cons ((rps_get so.rps h1 hz1).mono tt) (.cons ((rps_get so'.rps h2 hz2).mono tt) (.cons ((rps_get so''.rps h3 hz3).mono tt) .nil)))⟩
        · have hb := Bool.and_eq_true_iff.mp hb
          have hb1 := Bool.and_eq_true_iff.mp hb.1
          have key : ∀ qs : List Addr, (∀ c ∈ qs, c ∈ ps ++ ps' ++ ps'') → Frm O (grow G H1 qs) H2 := fun qs hq => fm.sub hq fun c hc _ => s.gNone (hn c hc)
          exact ⟨so.fix hb1.1 H2 (key _ fun c hc => List.mem_append_left _ (List.mem_append_left _ hc)) tl, so'.fix hb1.2 H2 (key _ fun c hc => List.mem_append_left _ (List.mem_append_right _ hc)) tl, so''.fix hb.2 H2 (key _ fun c hc => List.mem_append_right _ hc) tl⟩
end
/-! ### targets -/
/-- wherever the slots were r's they are r2's -/
def Tr (K : PySem.W.Frag) (G : Hp) (O : Option Addr) (σ σ' : L2.St) (H : Hp) (r r' : Rho) : Prop := ∀ H', Tl H H' → RS K G O σ H' r → RS K G O σ' H' r'
def tG (K : PySem.W.Frag) (vs : List Nat) (g : SG) : TG := fun v σ H Q => ∃ G O r x r', RS K G O σ H r ∧ Rp K H v x ∧ g x r = some r' ∧ ∀ σ', Tr K G O σ σ' H r r' → wipe σ' vs = wipe σ vs → Q σ' H
def tGs (K : PySem.W.Frag) (vs : List Nat) (gs : List SG) : TGs := fun ws σ H Q => ∃ G O r xs r', RS K G O σ H r ∧ Rps K H ws xs ∧ gTps gs xs r = some r' ∧ ∀ σ', Tr K G O σ σ' H r r' → wipe σ' vs = wipe σ vs → Q σ' H
abbrev DG (X : Cx) (vs : List Nat) (e : Expr) (g : SG) : Prop := PG X e (tG X.K vs g)
abbrev DGs (X : Cx) (vs : List Nat) (es : List Expr) (gs : List SG) : Prop := PGs X es (tGs X.K vs gs)
theorem wipe_set {i : Nat} {x : Option V} : ∀ {vs : List Nat} {σ : L2.St}, i ∈ vs → wipe (σ.set i x) vs = wipe σ vs
  | [], _, h => (List.not_mem_nil h).elim
  | v :: vs, σ, h => by
    unfold wipe
    by_cases e : i ∈ vs
    · rw [wipe_set e]
    · have e2 : i = v := (List.mem_cons.mp h).resolve_right e
      subst e2
      have : ∀ (ws : List Nat) (σ : L2.St), i ∉ ws → wipe (σ.set i x) ws = (wipe σ ws).set i x := by
        intro ws
        induction ws with
        | nil => intro _ _; rfl
        | cons w ws ih =>
          intro σ hw
          unfold wipe
          rw [ih σ (fun z => hw (List.mem_cons_of_mem _ z)), List.set_comm]
          exact fun z => hw (by rw [z]; exact List.mem_cons_self)
      rw [this vs σ e, List.set_set]
theorem wipe_in {i : Nat} : ∀ {vs : List Nat} {σ : L2.St}, i ∈ vs → (wipe σ vs)[i]? = if i < σ.length then some none else none
  | [], _, h => (List.not_mem_nil h).elim
  | v :: vs, σ, h => by
    unfold wipe
    by_cases e : v = i
    · subst e
      by_cases hl : v < σ.length
      · rw [if_pos hl, List.getElem?_set_self (by rw [wipe_length]; exact hl)]
      · rw [if_neg hl, List.getElem?_eq_none (by rw [List.length_set, wipe_length]; omega)]
    · rw [List.getElem?_set_ne e]
      exact wipe_in ((List.mem_cons.mp h).resolve_left (Ne.symm e))
theorem wipe_wipe (σ : L2.St) (vs : List Nat) : wipe (wipe σ vs) vs = wipe σ vs := by
  apply List.ext_getElem?
  intro i
  by_cases h : i ∈ vs
  · rw [wipe_in h, wipe_in h, wipe_length]
  · rw [wipe_out h]
/-- a slot gets data -/
theorem RS.setD {K : PySem.W.Frag} {G : Hp} {O : Option Addr} {σ : L2.St} {H : Hp} {r : Rho} (s : RS K G O σ H r) (i : Nat) {v : V} {x : Dt} (h : Rp K H v x) : RS K G O (σ.set i (some v)) H (r.set i (some (.d x))) := by
  refine ⟨by rw [List.length_set, List.length_set, s.len], s.ext, s.gO, fun j a e => ?_, fun j k a b hjk e1 e2 o1 o2 => ?_⟩
  · by_cases hj : i = j
    · subst hj
      have hi : i < r.length := by
        have := (List.getElem?_eq_some_iff.mp e).1
        rwa [List.length_set] at this
      rw [List.getElem?_set_self hi] at e
      have e := Option.some.inj (Option.some.inj e)
      subst e
      exact ⟨v, List.getElem?_set_self (by rw [← s.len]; exact hi), h⟩
    · rw [List.getElem?_set_ne hj] at e
      obtain ⟨w, h1, h2⟩ := s.slot j a e
      exact ⟨w, by rw [List.getElem?_set_ne hj]; exact h1, h2⟩
  · have hno : ∀ l c, (r.set i (some (.d x)))[l]? = some (some c) → ownA c = true → i ≠ l := fun l c e o z => by
      subst z
      have hi : i < r.length := by
        have := (List.getElem?_eq_some_iff.mp e).1
        rwa [List.length_set] at this
      rw [List.getElem?_set_self hi] at e
      have e := Option.some.inj (Option.some.inj e)
      subst e
      cases o
    have h1 := hno j a e1 o1
    have h2 := hno k b e2 o2
    rw [List.getElem?_set_ne h1] at e1
    rw [List.getElem?_set_ne h2] at e2
    rw [List.getElem?_set_ne h1, List.getElem?_set_ne h2]
    exact s.sep j k a b hjk e1 e2 o1 o2
section
variable {X : Cx} {a b c e : Expr} {es : List Expr} {g : SG} {gs : List SG} {vs : List Nat} {pos p p2 : Pos}
theorem dg_name (i : Nat) {x : Str} (hN : X.N.Nodup) (hi : X.N[i]? = some x := by rfl) (hx : Loc X.env.scope x := by first | exact Or.inl rfl | exact Or.inr rfl) (hv : i ∈ vs := by decide) (hf : X.fn x = true ∨ X.env.scope.names.lookup x = some .local := by first | exact .inl rfl | exact .inr rfl) : DG X vs (.Name x pos) (gNm i) := PGw (pg_name hN hi hx hf) fun v σ H Q ⟨G, O, r, x, r', s, h, e, q⟩ => by
  have e := Option.some.inj e
  subst e
  exact q _ (fun H' tl s' => s'.setD i (h.mono tl)) (wipe_set hv)
theorem dgs_nil : DGs X vs [] [] := ⟨fun pins s σ H ws us Q I rv ⟨G, O, r, xs, r', S, h, e, q⟩ => pgs_nil.run pins s σ H ws us Q I rv (by
  cases h with
  | nil =>
    have e := Option.some.inj e
    subst e
    exact ⟨rfl, q σ (fun _ _ s => s) rfl⟩
  | cons _ _ => cases e)⟩
theorem dgs_cons (h1 : DG X vs e g) (h2 : DGs X vs es gs) (hs : (assignEach (e :: es) X.env).map (·.2) = assign e X.env :: (assignEach es X.env).map (·.2) := by rfl) : DGs X vs (e :: es) (g :: gs) := ⟨fun pins s σ H ws us Q I rv ⟨G, O, r, xs, r', S, h, e, q⟩ => (pgs_cons h1 h2 hs).run pins s σ H ws us Q I rv (by
  cases h with
  | nil => cases e
  | cons q1 q2 =>
    simp only [gTps, Option.bind_eq_some_iff] at e
    obtain ⟨r1, e1, e2⟩ := e
    exact ⟨_, _, rfl, G, O, r, _, r1, S, q1, e1, fun σ1 t1 w1 => ⟨G, O, r1, _, r', t1 H (Tl.refl H) S, q2, e2, fun σ2 t2 w2 => q σ2 (fun H' tl s' => t2 H' tl (t1 H' tl s')) (w2.trans w1)⟩⟩)⟩
theorem dg_tup {k : Nat} (hc : X.calm = true) (h : DGs X vs es gs) (hn : (assignEach es X.env).length = gs.length := by rfl) (hst : (assignEach es X.env).findIdx? (·.1) = none := by rfl) : DG X vs (.Tuple es k pos) (gTp gs) := PGw (pg_tup hc h hn hst) fun v σ H Q ⟨G, O, r, x, r', s, hr, e, q⟩ => by
  cases x with
  | tup ds =>
    cases hr with
    | tup h1 h2 =>
      refine ⟨_, _, rfl, SqT.of h1, ?_, G, O, r, ds, r', s, h2, e, q⟩
      rw [h2.length]
      have : ∀ (ts : List SG) (ds : List Dt) (r : Rho) (r' : Rho), gTps ts ds r = some r' → ds.length = ts.length := by
        intro ts
        induction ts with
        | nil =>
          intro ds r r' e
          cases ds with
          | nil => rfl
          | cons _ _ => cases e
        | cons t ts ih =>
          intro ds r r' e
          cases ds with
          | nil => cases e
          | cons d ds =>
            simp only [gTps, Option.bind_eq_some_iff] at e
            obtain ⟨r1, e1, e2⟩ := e
            rw [List.length_cons, List.length_cons, ih ds r1 r' e2]
      exact this gs ds r r' e
  | non => cases e
  | bl _ => cases e
  | int _ => cases e
  | str _ => cases e
end
/-! ### comprehensions -/
/-- slots are forgotten -/
theorem RS.forget {K : PySem.W.Frag} {G : Hp} {O : Option Addr} {σ : L2.St} {H : Hp} {r : Rho} (s : RS K G O σ H r) (i : Nat) (σ' : L2.St) (hl : σ'.length = σ.length) (h : ∀ j, j ≠ i → σ'[j]? = σ[j]?) : RS K G O σ' H (r.set i none) := by
  have hno : ∀ j c, (r.set i none)[j]? = some (some c) → i ≠ j := fun j c e z => by
    subst z
    have hi : i < r.length := by
      have := (List.getElem?_eq_some_iff.mp e).1
      rwa [List.length_set] at this
    rw [List.getElem?_set_self hi] at e
    cases Option.some.inj e
  refine ⟨by rw [List.length_set, s.len, hl], s.ext, s.gO, fun j a e => ?_, fun j k a b hjk e1 e2 o1 o2 => ?_⟩
  · have h1 := hno j a e
    rw [List.getElem?_set_ne h1] at e
    rw [h j (Ne.symm h1)]
    exact s.slot j a e
  · have h1 := hno j a e1
    have h2 := hno k b e2
    rw [List.getElem?_set_ne h1] at e1
    rw [List.getElem?_set_ne h2] at e2
    rw [h j (Ne.symm h1), h k (Ne.symm h2)]
    exact s.sep j k a b hjk e1 e2 o1 o2
theorem RS.wipe {K : PySem.W.Frag} {G : Hp} {O : Option Addr} {σ : L2.St} {H : Hp} {r : Rho} (s : RS K G O σ H r) : ∀ vs : List Nat, RS K G O (L2.wipe σ vs) H (wipeR r vs)
  | [] => s
  | v :: vs => by
    unfold L2.wipe wipeR
    exact (s.wipe vs).forget v _ (by rw [List.length_set]) fun j hj => List.getElem?_set_ne (Ne.symm hj)
abbrev DTs (X : Cx) (ifs : List Expr) (t : SB) : Prop := PTs X ifs (tT X.K t)
theorem dts_nil {X : Cx} : DTs X [] bYes := ⟨fun pins s σ H Q I ⟨G, O, r, b, S, e, q⟩ => pts_nil.run pins s σ H Q I (by
  have e := Option.some.inj e
  subst e
  exact q H (Ex.refl H))⟩
theorem dts_one {X : Cx} {c : Expr} {t : SB} (h : DT X c t) : DTs X [c] t := pts_one h
/-- the first i items' yield -/
theorem lcGo_take {g : SG} {t : SB} {e : SE} {r : Rho} : ∀ {ds : List Dt} {i : Nat} {out : List Dt}, lcGo g t e r ds = some out → ∃ o, lcGo g t e r (ds.take i) = some o
  | [], i, out, h => ⟨[], by simp [lcGo]⟩
  | x :: xs, 0, out, h => ⟨[], by simp [lcGo]⟩
  | x :: xs, i + 1, out, h => by
    simp only [lcGo, List.take_succ_cons, Option.bind_eq_some_iff] at h ⊢
    obtain ⟨r1, h1, c, h2, h3⟩ := h
    cases c with
    | true =>
      rw [if_pos rfl] at h3
      simp only [Option.bind_eq_some_iff, Option.map_eq_some_iff] at h3
      obtain ⟨y, ⟨v, h4, h5⟩, ys, h6, h7⟩ := h3
      obtain ⟨o, ho⟩ := lcGo_take (i := i) h6
      refine ⟨y :: o, r1, h1, true, h2, ?_⟩
      rw [if_pos rfl]
      simp only [Option.bind_eq_some_iff, Option.map_eq_some_iff]
      exact ⟨y, ⟨v, h4, h5⟩, o, ho, rfl⟩
    | false =>
      rw [if_neg (by decide)] at h3
      obtain ⟨o, ho⟩ := lcGo_take (i := i) h3
      refine ⟨o, r1, h1, false, h2, ?_⟩
      rw [if_neg (by decide)]
      exact ho
/-- one more -/
theorem lcGo_snoc {g : SG} {t : SB} {e : SE} {r : Rho} {x : Dt} : ∀ {xs o o2 : List Dt}, lcGo g t e r xs = some o → lcGo g t e r (xs ++ [x]) = some o2 →
    ∃ r1 c, g x r = some r1 ∧ t r1 = some c ∧ ((c = true ∧ ∃ v y, e r1 = some v ∧ vDat v = some y ∧ o2 = o ++ [y]) ∨ (c = false ∧ o2 = o))
  | [], o, o2, h, h2 => by
    have h := Option.some.inj h
    subst h
    simp only [lcGo, List.nil_append, Option.bind_eq_some_iff] at h2
    obtain ⟨r1, h1, c, h3, h4⟩ := h2
    refine ⟨r1, c, h1, h3, ?_⟩
    cases c with
    | true =>
      rw [if_pos rfl] at h4
      simp only [Option.bind_eq_some_iff, Option.map_eq_some_iff] at h4
      obtain ⟨y, ⟨v, h4, h5⟩, ys, h6, h7⟩ := h4
      have h6 := Option.some.inj h6
      subst h6
      exact .inl ⟨rfl, v, y, h4, h5, h7.symm⟩
    | false =>
      rw [if_neg (by decide)] at h4
      exact .inr ⟨rfl, (Option.some.inj h4).symm⟩
  | z :: xs, o, o2, h, h2 => by
    simp only [lcGo, List.cons_append, Option.bind_eq_some_iff] at h h2
    obtain ⟨r1, h1, c, h3, h4⟩ := h
    obtain ⟨r1', h1', c', h3', h4'⟩ := h2
    rw [h1] at h1'
    cases h1'
    rw [h3] at h3'
    cases h3'
    cases c with
    | true =>
      rw [if_pos rfl] at h4 h4'
      simp only [Option.bind_eq_some_iff, Option.map_eq_some_iff] at h4 h4'
      obtain ⟨y, ⟨v, h4, h5⟩, ys, h6, h7⟩ := h4
      obtain ⟨y', ⟨v', h4', h5'⟩, ys', h6', h7'⟩ := h4'
      rw [h4] at h4'
      cases h4'
      rw [h5] at h5'
      cases h5'
      obtain ⟨r2, c2, q1, q2, q3⟩ := lcGo_snoc h6 h6'
      refine ⟨r2, c2, q1, q2, ?_⟩
      rcases q3 with ⟨q, v2, y2, q4, q5, q6⟩ | ⟨q, q6⟩
      · exact .inl ⟨q, v2, y2, q4, q5, by rw [← h7', ← h7, q6]; rfl⟩
      · exact .inr ⟨q, by rw [← h7', ← h7, q6]⟩
    | false =>
      rw [if_neg (by decide)] at h4 h4'
      exact lcGo_snoc h4 h4'
theorem lcGo_len {g : SG} {t : SB} {e : SE} {r : Rho} : ∀ {ds out : List Dt}, lcGo g t e r ds = some out → out.length ≤ ds.length
  | [], out, h => by
    have h := Option.some.inj h
    subst h
    exact Nat.le_refl _
  | x :: xs, out, h => by
    simp only [lcGo, Option.bind_eq_some_iff] at h
    obtain ⟨r1, h1, c, h2, h3⟩ := h
    cases c with
    | true =>
      rw [if_pos rfl] at h3
      simp only [Option.bind_eq_some_iff, Option.map_eq_some_iff] at h3
      obtain ⟨y, ⟨v, h4, h5⟩, ys, h6, rfl⟩ := h3
      have := lcGo_len h6
      simp only [List.length_cons]
      omega
    | false =>
      rw [if_neg (by decide)] at h3
      have := lcGo_len h3
      simp only [List.length_cons]
      omega
/-- the invariant of a comprehension: the list at D holds what the first i items give -/
def LcP (K : PySem.W.Frag) (H1 : Hp) (g : SG) (t : SB) (e : SE) (r : Rho) (ds : List Dt) (pre : List Dt) (D : Addr) (i : Nat) (H : Hp) : Prop :=
  H1 D = none ∧ Ex H1 H ∧ ∃ acc o, H D = some (.lst acc) ∧ lcGo g t e r (ds.take i) = some o ∧ Rps K H acc (pre ++ o)
theorem lcGo_mid {g1 : SG} {t1 : SB} {e : SE} {r : Rho} {ds out : List Dt} {i : Nat} (h : lcGo g1 t1 e r ds = some out) : ∃ o, lcGo g1 t1 e r (ds.take i) = some o ∧ o.length ≤ out.length := by
  obtain ⟨o, ho⟩ := lcGo_take (i := i) h
  refine ⟨o, ho, ?_⟩
  have key : ∀ {xs zs o out : List Dt}, lcGo g1 t1 e r xs = some o → lcGo g1 t1 e r (xs ++ zs) = some out → o.length ≤ out.length := by
    intro xs
    induction xs with
    | nil =>
      intro zs o out h1 h2
      have h1 := Option.some.inj h1
      subst h1
      exact Nat.zero_le _
    | cons x xs ih =>
      intro zs o out h1 h2
      simp only [lcGo, List.cons_append, Option.bind_eq_some_iff] at h1 h2
      obtain ⟨r1, h3, c, h4, h5⟩ := h1
      obtain ⟨r1', h3', c', h4', h5'⟩ := h2
      rw [h3] at h3'
      cases h3'
      rw [h4] at h4'
      cases h4'
      cases c with
      | true =>
        rw [if_pos rfl] at h5 h5'
        simp only [Option.bind_eq_some_iff, Option.map_eq_some_iff] at h5 h5'
        obtain ⟨y, _, ys, h6, rfl⟩ := h5
        obtain ⟨y', _, ys', h6', rfl⟩ := h5'
        have := ih h6 h6'
        simp only [List.length_cons]
        omega
      | false =>
        rw [if_neg (by decide)] at h5 h5'
        exact ih h5 h5'
  exact key (zs := ds.drop i) ho (by rw [List.take_append_drop]; exact h)
/-- one turn -/
theorem lc_turn {K : PySem.W.Frag} {G : Hp} {O : Option Addr} {σ : L2.St} {H1 H2 : Hp} {r : Rho} {vs : List Nat} {g : SG} {t : SB} {e : SE} {ds pre : List Dt} {D : Addr} {i : Nat} {x : V} {d : Dt} {out : List Dt} {N : Hp → Prop}
    (s : RS K G O (L2.wipe σ vs) H2 r) (p : H1 D = none ∧ Ex H1 H2 ∧ ∃ acc o, H2 D = some (.lst acc) ∧ lcGo g t e r (ds.take i) = some o ∧ Rps K H2 acc (pre ++ o)) (hd : ds[i]? = some d) (hx : Rp K H2 x d) (hout : lcGo g t e r ds = some out) (hz : ∀ o : List Dt, o.length ≤ out.length → pre.length + o.length ≤ 1000000)
    (hN : ∀ H', LcP K H1 g t e r ds pre D (i + 1) H' → (∀ a u, a ≠ D → H2 a = some u → H' a = some u) → N H') :
    tG K vs g x (L2.wipe σ vs) H2 fun σ2 H3 => L2.wipe σ2 vs = L2.wipe σ vs ∧ tT K t σ2 H3 fun b H4 => if b = true then tD K e σ2 H4 fun y H5 => ∃ acc, H5 D = some (.lst acc) ∧ acc.length < sizeLine ∧ N (upd H5 D (.lst (acc ++ [y]))) else N H4 := by
  obtain ⟨p1, p2, acc, o, p3, p4, p5⟩ := p
  obtain ⟨o2, ho2, _⟩ := lcGo_mid (i := i + 1) hout
  obtain ⟨o3, ho3', hl3⟩ := lcGo_mid (i := i) hout
  rw [p4] at ho3'
  cases ho3'
  have ht : ds.take (i + 1) = ds.take i ++ [d] := by rw [List.take_add_one, hd]; rfl
  have ho3 := ho2
  rw [ht] at ho3
  obtain ⟨r1, c, h1, h2, h3⟩ := lcGo_snoc p4 ho3
  refine ⟨G, O, r, d, r1, s, hx, h1, fun σ2 tr w2 => ⟨w2.trans (wipe_wipe σ vs), G, O, r1, c, tr H2 (Tl.refl H2) s, h2, fun H4 x4 => ?_⟩⟩
  have s2 := tr H2 (Tl.refl H2) s
  rcases h3 with ⟨rfl, v, y, h4, h5, h6⟩ | ⟨rfl, h6⟩
  · show tD K e σ2 H4 _
    refine ⟨G, O, r1, v, s2.ex x4, h4, fun yv H5 x5 r5 => ⟨acc, x5 _ _ (x4 _ _ p3), ?_, hN _ ⟨p1, Ex.mut ((p2.trans x4).trans x5) p1, acc ++ [yv], o2, upd_same, ho2, ?_⟩ fun a u ha q => ?_⟩⟩
    · have l1 := p5.length
      have l2 := hz o hl3
      rw [List.length_append] at l1
      have : (1000000 : Nat) < sizeLine := by decide
      omega
    · rw [h6, ← List.append_assoc]
      have q := (p5.mono (x4.trans x5).tl).append (.cons (r5.vdat h5) .nil)
      exact q.mono (Tl.put (x5 _ _ (x4 _ _ p3)) fun xs z => nomatch z)
    · rw [upd_ne ha]
      exact x5 _ _ (x4 _ _ q)
  · show N H4
    refine hN _ ⟨p1, p2.trans x4, acc, o2, x4 _ _ p3, ho2, ?_⟩ fun a u _ q => x4 _ _ q
    rw [h6]
    exact p5.mono x4.tl
section
variable {X : Cx} {elt tg iter tg1 iter1 : Expr} {ifs ifs1 : List Expr} {scope : Scope} {own : List (Str × Nat)} {pos spos : Pos} {f f1 : SI} {g g1 : SG} {t t1 : SB} {e : SE}
theorem tLc_of {vs : List Nat} {σ : L2.St} {H : Hp} {Q : VK} (q : tD X.K (sLc vs f g t e) σ H Q) : tLc (tI X.K f) (tG X.K vs g) (tT X.K t) (tD X.K e) vs σ H Q := by
  obtain ⟨G, O, r, c, s, e1, q⟩ := q
  simp only [sLc, Option.bind_eq_some_iff] at e1
  obtain ⟨w, e2, e3⟩ := e1
  split at e3
  · rename_i hz
    simp only [Option.map_eq_some_iff] at e3
    obtain ⟨out, e4, rfl⟩ := e3
    refine ⟨G, O, r, w, s, e2, fun J H1 Gd x1 ⟨Y, wk, hY⟩ gd D hD => ?_⟩
    have s1 := (s.ex x1).wipe vs
    refine lc_it wk (LcP X.K H1 g t e (wipeR r vs) w.2 [] D) ?_ (fun i H2 _ p => gd.ex H1 H2 gd.now p.2.1) (fun i x H2 H3 hi p y => ?_) fun H2 p => ?_
    · exact ⟨hD, Ex.new hD, [], [], upd_same, by simp [lcGo], .nil⟩
    · have hd : w.2[i]? = some w.2[i] := List.getElem?_eq_getElem hi
      obtain ⟨x3, hx⟩ := hY i H2 x H3 _ p.2.1.tl (gd.ex H1 H2 gd.now p.2.1) y hd
      obtain ⟨p1, p2, acc, o, p3, p4, p5⟩ := p
      exact lc_turn (s1.ex (p2.trans x3)) ⟨p1, p2.trans x3, acc, o, x3 _ _ p3, p4, p5.mono x3.tl⟩ hd hx e4 (fun o ho => by have := lcGo_len e4; simp; omega) fun H' p _ => p
    · obtain ⟨p1, p2, acc, o, p3, p4, p5⟩ := p
      rw [List.take_length, e4] at p4
      cases p4
      exact q _ H2 (x1.trans p2) ⟨D, acc, rfl, x1.free p1, p3, p5⟩
  · cases e3
theorem de_lc (hc : X.calm = true) (hN : X.N.Nodup) (hi : DI X tg iter f) (ok : BlkOk X.N X.env.scope scope own)
    (hg : ∀ (s : Shared) (H : Hp) (C : Addr) (cl : List (Str × Addr)) (fp : List Addr), DG (X.blk s H scope (compEnvC scope cl C X.env) fp) (own.map (·.2)) tg g) (ht : ∀ (s : Shared) (H : Hp) (C : Addr) (cl : List (Str × Addr)) (fp : List Addr), DTs (X.blk s H scope (compEnvC scope cl C X.env) fp) ifs t)
    (he : ∀ (s : Shared) (H : Hp) (C : Addr) (cl : List (Str × Addr)) (fp : List Addr), DE (X.blk s H scope (compEnvC scope cl C X.env) fp) elt e) (hs : ∀ x, foldedSetIterable iter X.env x = pure x := by intro _; rfl) :
    DE X (.ListComp elt [⟨tg, iter, ifs, 0⟩] scope pos) (sLc (own.map (·.2)) f g t e) := PEw (pe_lc hc hN hi ok hg ht he hs) fun σ H Q => tLc_of
theorem lc2Go_take {vs1 : List Nat} {r : Rho} : ∀ {ds : List Dt} {i : Nat} {out : List Dt}, lc2Go g t f1 vs1 g1 t1 e r ds = some out → ∃ o, lc2Go g t f1 vs1 g1 t1 e r (ds.take i) = some o ∧ o.length ≤ out.length
  | [], i, out, h => ⟨[], by simp [lc2Go], Nat.zero_le _⟩
  | x :: xs, 0, out, h => ⟨[], by simp [lc2Go], Nat.zero_le _⟩
  | x :: xs, i + 1, out, h => by
    simp only [lc2Go, List.take_succ_cons, Option.bind_eq_some_iff] at h ⊢
    obtain ⟨r1, h1, c, h2, h3⟩ := h
    cases c with
    | true =>
      rw [if_pos rfl] at h3
      simp only [Option.bind_eq_some_iff, Option.map_eq_some_iff] at h3
      obtain ⟨q, h4, ys, h5, zs, h6, rfl⟩ := h3
      obtain ⟨o, ho, hl⟩ := lc2Go_take (i := i) h6
      refine ⟨ys ++ o, ⟨r1, h1, true, h2, ?_⟩, by rw [List.length_append, List.length_append]; omega⟩
      rw [if_pos rfl]
      simp only [Option.bind_eq_some_iff, Option.map_eq_some_iff]
      exact ⟨q, h4, ys, h5, o, ho, rfl⟩
    | false =>
      rw [if_neg (by decide)] at h3
      obtain ⟨o, ho, hl⟩ := lc2Go_take (i := i) h3
      refine ⟨o, ⟨r1, h1, false, h2, ?_⟩, hl⟩
      rw [if_neg (by decide)]
      exact ho
theorem lc2Go_snoc {vs1 : List Nat} {r : Rho} {x : Dt} : ∀ {xs o o2 : List Dt}, lc2Go g t f1 vs1 g1 t1 e r xs = some o → lc2Go g t f1 vs1 g1 t1 e r (xs ++ [x]) = some o2 →
    ∃ r1 c, g x r = some r1 ∧ t r1 = some c ∧ ((c = true ∧ ∃ q ys, f1 r1 = some q ∧ (if q.1 = true then lcGo g1 t1 e (wipeR r1 vs1) q.2 else none) = some ys ∧ o2 = o ++ ys) ∨ (c = false ∧ o2 = o))
  | [], o, o2, h, h2 => by
    have h := Option.some.inj h
    subst h
    simp only [lc2Go, List.nil_append, Option.bind_eq_some_iff] at h2
    obtain ⟨r1, h1, c, h3, h4⟩ := h2
    refine ⟨r1, c, h1, h3, ?_⟩
    cases c with
    | true =>
      rw [if_pos rfl] at h4
      simp only [Option.bind_eq_some_iff, Option.map_eq_some_iff] at h4
      obtain ⟨q, h4, ys, h5, zs, h6, h7⟩ := h4
      have h6 := Option.some.inj h6
      subst h6
      rw [List.append_nil] at h7
      exact .inl ⟨rfl, q, ys, h4, h5, by rw [List.nil_append]; exact h7.symm⟩
    | false =>
      rw [if_neg (by decide)] at h4
      exact .inr ⟨rfl, (Option.some.inj h4).symm⟩
  | z :: xs, o, o2, h, h2 => by
    simp only [lc2Go, List.cons_append, Option.bind_eq_some_iff] at h h2
    obtain ⟨r1, h1, c, h3, h4⟩ := h
    obtain ⟨r1', h1', c', h3', h4'⟩ := h2
    rw [h1] at h1'
    cases h1'
    rw [h3] at h3'
    cases h3'
    cases c with
    | true =>
      rw [if_pos rfl] at h4 h4'
      simp only [Option.bind_eq_some_iff, Option.map_eq_some_iff] at h4 h4'
      obtain ⟨q, h4, ys, h5, zs, h6, h7⟩ := h4
      obtain ⟨q', h4', ys', h5', zs', h6', h7'⟩ := h4'
      rw [h4] at h4'
      cases h4'
      rw [h5] at h5'
      cases h5'
      obtain ⟨r2, c2, q1, q2, q3⟩ := lc2Go_snoc h6 h6'
      refine ⟨r2, c2, q1, q2, ?_⟩
      rcases q3 with ⟨q, v2, y2, q4, q5, q6⟩ | ⟨q, q6⟩
      · exact .inl ⟨q, v2, y2, q4, q5, by rw [← h7', ← h7, q6, List.append_assoc]⟩
      · exact .inr ⟨q, by rw [← h7', ← h7, q6]⟩
    | false =>
      rw [if_neg (by decide)] at h4 h4'
      exact lc2Go_snoc h4 h4'
theorem tLc2_of {vs vs1 : List Nat} {σ : L2.St} {H : Hp} {Q : VK} (hv : ∀ i ∈ vs1, i ∈ vs) (q : tD X.K (sLc2 vs vs1 f g t f1 g1 t1 e) σ H Q) : tLc2 (tI X.K f) (tG X.K vs g) (tT X.K t) (tI X.K f1) (tG X.K vs1 g1) (tT X.K t1) (tD X.K e) vs vs1 σ H Q := by
  obtain ⟨G, O, r, c, s, e1, q⟩ := q
  simp only [sLc2, Option.bind_eq_some_iff] at e1
  obtain ⟨w, e2, out, e3, e4⟩ := e1
  split at e4
  · rename_i hz
    have e4 := Option.some.inj e4
    subst e4
    refine ⟨G, O, r, w, s, e2, fun J H1 Gd x1 ⟨Y, wk, hY⟩ gd D hD => ?_⟩
    have s1 := (s.ex x1).wipe vs
    -- the outer invariant
    let P : Nat → Hp → Prop := fun i H2 => H1 D = none ∧ Ex H1 H2 ∧ ∃ acc o, H2 D = some (.lst acc) ∧ lc2Go g t f1 vs1 g1 t1 e (wipeR r vs) (w.2.take i) = some o ∧ Rps X.K H2 acc o
    have n0 := w.2.length
    refine ⟨fun i m H2 => m = w.2.length - i ∧ i ≤ w.2.length ∧ P i H2, ⟨w.2.length, by simp, Nat.zero_le _, hD, Ex.new hD, [], [], upd_same, by simp [lc2Go], .nil⟩, ?_⟩
    rintro i m H2 ⟨rfl, hi, p⟩
    have gd2 := gd.ex H1 H2 gd.now p.2.1
    by_cases hlt : i < w.2.length
    · refine .inr ⟨wk.goes i H2 hlt gd2, P (i + 1), fun H' p' => ⟨w.2.length - (i + 1), by omega, rfl, hlt, p'⟩, fun x H3 y => ?_⟩
      have hd : w.2[i]? = some w.2[i] := List.getElem?_eq_getElem hlt
      obtain ⟨x3, hx⟩ := hY i H2 x H3 _ p.2.1.tl gd2 (wk.yields i H2 x H3 hlt gd2 y) hd
      obtain ⟨p1, p2, acc, o, p3, p4, p5⟩ := p
      obtain ⟨o2, ho2, hl2⟩ := lc2Go_take (i := i + 1) e3
      have ht : w.2.take (i + 1) = w.2.take i ++ [w.2[i]] := by rw [List.take_add_one, hd]; rfl
      have ho3 := ho2
      rw [ht] at ho3
      obtain ⟨r1, c, h1, h2, h3⟩ := lc2Go_snoc p4 ho3
      have p23 := p2.trans x3
      refine ⟨G, O, _, _, r1, s1.ex p23, hx, h1, fun σ2 tr w2 => ⟨w2.trans (wipe_wipe σ vs), G, O, r1, c, tr H3 (Tl.refl H3) (s1.ex p23), h2, fun H4 x4 => ?_⟩⟩
      have s2 := tr H3 (Tl.refl H3) (s1.ex p23)
      have p24 := p23.trans x4
      rcases h3 with ⟨rfl, q1, ys, h4, h5, h6⟩ | ⟨rfl, h6⟩
      · show tI X.K f1 σ2 H4 _
        split at h5
        · rename_i hfix
          refine ⟨G, O, r1, q1, s2.ex x4, h4, fun J1 H5 Gd1 x5 ⟨Y1, wk1, hY1⟩ gd1 => ?_⟩
          have p25 := p24.trans x5
          obtain ⟨G', xG, sG, hG', hGd⟩ := gd1.fix hfix
          have hD5 : H5 D = some (.lst acc) := x5 _ _ (x4 _ _ (x3 _ _ p3))
          have hGD : G' D = none := by
            rw [hG' D (by rw [x4 _ _ (x3 _ _ p3)]; exact fun z => nomatch z)]
            exact (s.ex x1).gNone hD
          have tl56 : ∀ H6, (∀ a u, a ≠ D → H5 a = some u → H6 a = some u) → Tl H5 H6 := fun H6 k a xs q => k a _ (fun z => by rw [z, hD5] at q; cases q) q
          have gdAt : ∀ H6, (∀ a u, a ≠ D → H5 a = some u → H6 a = some u) → Gd1 H6 := fun H6 k => hGd H6 (fun a u q1 q2 => k a u (fun z => by rw [z, hGD] at q1; cases q1) (sG.ext a u q1 q2)) (tl56 H6 k)
          let Pn : Nat → Hp → Prop := fun j H6 => LcP X.K H1 g1 t1 e (wipeR r1 vs1) q1.2 o D j H6 ∧ ∀ a u, a ≠ D → H5 a = some u → H6 a = some u
          refine ⟨fun j m H6 => m = q1.2.length - j ∧ j ≤ q1.2.length ∧ Pn j H6, ⟨q1.2.length, by simp, Nat.zero_le _, ⟨p1, p25, acc, [], hD5, by simp [lcGo], by rw [List.append_nil]; exact p5.mono ((x3.trans x4).trans x5).tl⟩, fun a u _ q => q⟩, ?_⟩
          rintro j m H6 ⟨rfl, hj, pL, pK⟩
          by_cases hlt1 : j < q1.2.length
          · refine .inr ⟨wk1.goes j H6 hlt1 (gdAt H6 pK), Pn (j + 1), fun H' p' => ⟨q1.2.length - (j + 1), by omega, rfl, hlt1, p'⟩, fun z H7 y1 => ?_⟩
            have hd1 : q1.2[j]? = some q1.2[j] := List.getElem?_eq_getElem hlt1
            obtain ⟨x7, hz7⟩ := hY1 j H6 z H7 _ (tl56 H6 pK) (gdAt H6 pK) (wk1.yields j H6 z H7 hlt1 (gdAt H6 pK) y1) hd1
            obtain ⟨l1, l2, acc1, o1, l3, l4, l5⟩ := pL
            have pK7 : ∀ a u, a ≠ D → H5 a = some u → H7 a = some u := fun a u ha q => x7 _ _ (pK a u ha q)
            have s7 : RS X.K G O (L2.wipe σ2 vs1) H7 (wipeR r1 vs1) := (tr H7 (((x4.trans x5).tl.trans (tl56 H6 pK)).trans x7.tl) (s1.ex (l2.trans x7))).wipe vs1
            exact lc_turn (N := Pn (j + 1)) s7 ⟨l1, l2.trans x7, acc1, o1, x7 _ _ l3, l4, l5.mono x7.tl⟩ hd1 hz7 h5 (fun oo hoo => by
              have e1 : o2.length = o.length + ys.length := by rw [h6, List.length_append]
              omega) fun H' pp kk => ⟨pp, fun a u ha q => kk a u ha (pK7 a u ha q)⟩
          · have ej : j = q1.2.length := by omega
            subst ej
            refine .inl ⟨wk1.stops H6 (gdAt H6 pK), ?_⟩
            obtain ⟨l1, l2, acc1, o1, l3, l4, l5⟩ := pL
            rw [List.take_length, h5] at l4
            cases l4
            refine ⟨l1, l2, acc1, o2, l3, ho2, ?_⟩
            rw [h6]
            exact l5
        · cases h5
      · show P (i + 1) H4
        refine ⟨p1, p24, acc, o2, x4 _ _ (x3 _ _ p3), ho2, ?_⟩
        rw [h6]
        exact p5.mono (x3.trans x4).tl
    · have ei : i = w.2.length := by omega
      subst ei
      refine .inl ⟨wk.stops H2 gd2, ?_⟩
      obtain ⟨p1, p2, acc, o, p3, p4, p5⟩ := p
      rw [List.take_length, e3] at p4
      cases p4
      exact q _ H2 (x1.trans p2) ⟨D, acc, rfl, x1.free p1, p3, p5⟩
  · cases e4
theorem de_lc2 {vs1 : List Nat} (hc : X.calm = true) (hN : X.N.Nodup) (hi : DI X tg iter f) (ok : BlkOk X.N X.env.scope scope own) (hv : ∀ i ∈ vs1, i ∈ own.map (·.2))
    (hg : ∀ (s : Shared) (H : Hp) (C : Addr) (cl : List (Str × Addr)) (fp : List Addr), DG (X.blk s H scope (compEnvC scope cl C X.env) fp) (own.map (·.2)) tg g) (ht : ∀ (s : Shared) (H : Hp) (C : Addr) (cl : List (Str × Addr)) (fp : List Addr), DTs (X.blk s H scope (compEnvC scope cl C X.env) fp) ifs t)
    (hi1 : ∀ (s : Shared) (H : Hp) (C : Addr) (cl : List (Str × Addr)) (fp : List Addr), DI (X.blk s H scope (compEnvC scope cl C X.env) fp) tg1 iter1 f1)
    (hg1 : ∀ (s : Shared) (H : Hp) (C : Addr) (cl : List (Str × Addr)) (fp : List Addr), DG (X.blk s H scope (compEnvC scope cl C X.env) fp) vs1 tg1 g1) (ht1 : ∀ (s : Shared) (H : Hp) (C : Addr) (cl : List (Str × Addr)) (fp : List Addr), DTs (X.blk s H scope (compEnvC scope cl C X.env) fp) ifs1 t1)
    (he : ∀ (s : Shared) (H : Hp) (C : Addr) (cl : List (Str × Addr)) (fp : List Addr), DE (X.blk s H scope (compEnvC scope cl C X.env) fp) elt e) (hs : ∀ x, foldedSetIterable iter X.env x = pure x := by intro _; rfl) (hs1 : ∀ env x, foldedSetIterable iter1 env x = pure x := by intro _ _; rfl) :
    DE X (.ListComp elt [⟨tg, iter, ifs, 0⟩, ⟨tg1, iter1, ifs1, 0⟩] scope pos) (sLc2 (own.map (·.2)) vs1 f g t f1 g1 t1 e) := PEw (pe_lc2 hc hN hi ok hv hg ht hi1 hg1 ht1 he hs hs1) fun σ H Q => tLc2_of hv
end
end S67

/-! KI: the text's own defs: what they promise, their calls; expressions that may turn the box; statements. -/
namespace S67
open PySem PySem.Spec PyProof.Rows L2
/-! ### what a def promises -/
/-- an argument as the callee has it -/
def RA (K : PySem.W.Frag) (H : Hp) (v : V) : Av → Prop
  | .d x => Rp K H v x
  | .l .ro ds => ∃ p xs, v = .ref p ∧ SqL K H p xs ∧ Rps K H xs ds
  | .m .ro kvs => ∃ p, v = .ref p ∧ H p = some (.dT (cvM kvs))
  | _ => False
/-- what is handed back: data, or a new container -/
def RF (K : PySem.W.Frag) (G : Hp) (H' : Hp) (v : V) : Av → Prop
  | .d x => Rp K H' v x
  | .l .fr ds => ∃ p xs, v = .ref p ∧ G p = none ∧ H' p = some (.lst xs) ∧ Rps K H' xs ds
  | .m .fr kvs => ∃ p, v = .ref p ∧ G p = none ∧ H' p = some (.dT (cvM kvs))
  | _ => False
def spP (K : PySem.W.Frag) (n : Nat) (F : FP) : Sp := fun vs H Q _ => ∃ as a, as.length = n ∧ F as = some a ∧ Paired (RA K H) vs as ∧ ∀ v H', Ex H H' → RF K H H' v a → Q v H'
/-- all but o stands -/
def Mo (o : Option Addr) (H H' : Hp) : Prop := ∀ c u, o ≠ some c → H c = some u → H' c = some u
def spB (K : PySem.W.Frag) (n : Nat) (F : FB) : Sp := fun vs H Q _ => ∃ o xs b ws as b' a, vs = .ref o :: ws ∧ as.length = n ∧ H o = some (.lst xs) ∧ Rps K H xs b ∧ V.ref o ∉ ws ∧ Paired (RA K H) ws as ∧ F b as = some (b', a) ∧
  ∀ v H' xs', Mo (some o) H H' → H' o = some (.lst xs') → Rps K H' xs' b' → RF K H H' v a → Q v H'
theorem RF.back {K : PySem.W.Frag} {G G' H' : Hp} {v : V} {a : Av} (e : Ex G G') (h : RF K G' H' v a) : RF K G H' v a := by
  unfold RF at h ⊢
  split at h
  · exact h
  · obtain ⟨p, xs, h1, h2, h3⟩ := h
    exact ⟨p, xs, h1, e.free h2, h3⟩
  · obtain ⟨p, h1, h2, h3⟩ := h
    exact ⟨p, h1, e.free h2, h3⟩
  · exact h.elim
theorem RF.rr {K : PySem.W.Frag} {G : Hp} {O : Option Addr} {H0 H H' : Hp} {v : V} {a : Av} (e : ∀ p, H p = none → H0 p = none) (h : RF K H H' v a) : RR K G O H0 H' v a := by
  unfold RF at h
  split at h
  · exact h
  · obtain ⟨p, xs, h1, h2, h3⟩ := h
    exact ⟨p, xs, h1, e p h2, h3⟩
  · obtain ⟨p, h1, h2, h3⟩ := h
    exact ⟨p, h1, e p h2, h3⟩
  · exact h.elim
theorem argsA_len : ∀ {as bs : List Av}, argsA as = some bs → bs.length = as.length
  | [], bs, e => by
    have e := Option.some.inj e
    subst e
    rfl
  | a :: r, bs, e => by
    simp only [argsA, Option.bind_eq_some_iff, Option.map_eq_some_iff] at e
    obtain ⟨b, e1, cs, e2, rfl⟩ := e
    show _ + 1 = _ + 1
    rw [argsA_len e2]
theorem RRs.args {K : PySem.W.Frag} {G : Hp} {O : Option Addr} {H0 H : Hp} (fm : Frm O G H) : ∀ {as bs : List Av} {vs : List V}, RRs K G O H0 H vs as → argsA as = some bs → Paired (RA K H) vs bs
  | [], bs, _, h, e => by
    cases h
    have e := Option.some.inj e
    subst e
    exact .nil
  | a :: r, bs, _, h, e => by
    cases h with
    | cons h1 h2 =>
      simp only [argsA, Option.bind_eq_some_iff, Option.map_eq_some_iff] at e
      obtain ⟨b, e1, cs, e2, rfl⟩ := e
      refine .cons ?_ (RRs.args fm h2 e2)
      cases a with
      | d x =>
        have e1 := Option.some.inj e1
        subst e1
        exact h1
      | l k ds =>
        cases k with
        | bx => cases e1
        | fr | ro | ow =>
          have e1 := Option.some.inj e1
          subst e1
          exact h1.list fm
      | m k ms =>
        cases k with
        | fr => cases e1
        | ro => cases e1
        | bx => cases e1
        | ow =>
          have e1 := Option.some.inj e1
          subst e1
          exact h1.dict fm
      | x _ => cases e1
/-! ### a def's body -/
/-- a statement's reading -/
def tS (K : PySem.W.Frag) (g : SS) : TS := fun D σ H => ∃ G O r o, RS K G O σ H r ∧ g r = some o ∧ (match o with
  | .nx r' => ∀ σ' H' G', Tl H H' → Ex G G' → RS K G' O σ' H' r' → D.nx σ' H'
  | .rt r' a => ∀ v σ' H' G', Tl H H' → Ex G G' → RS K G' O σ' H' r' → RF K G' H' v a → D.rt v H')
abbrev DS (X : Cx) (st : Stmt) (g : SS) : Prop := PS X st (tS X.K g)
abbrev DSs (X : Cx) (st : List Stmt) (g : SS) : Prop := PSs X st (tS X.K g)
theorem prGet {α β : Type} {F : α → β → Prop} : ∀ {l : List α} {m : List β} {i : Nat} {b : β}, Paired F l m → m[i]? = some b → ∃ a, l[i]? = some a ∧ F a b
  | _, _, _, _, .nil, e => by simp at e
  | _, _, 0, _, .cons h _, e => by
    have e := Option.some.inj e
    subst e
    exact ⟨_, rfl, h⟩
  | _ :: _, _ :: _, i + 1, _, .cons _ t, e => by
    obtain ⟨a, h1, h2⟩ := prGet (i := i) t (by simpa using e)
    exact ⟨a, by simpa using h1, h2⟩
theorem startR_get {n : Nat} {as : List Av} {i : Nat} {a : Av} (e : (startR n as)[i]? = some (some a)) : as[i]? = some a := by
  unfold startR at e
  by_cases hi : i < as.length
  · rw [List.getElem?_append_left (by simpa using hi), List.getElem?_map] at e
    cases h : as[i]? with
    | none => rw [h] at e; cases e
    | some b =>
      rw [h] at e
      exact Option.some.inj e
  · rw [List.getElem?_append_right (by simpa using hi)] at e
    rw [List.getElem?_replicate] at e
    split at e
    · cases Option.some.inj e
    · cases e
theorem start_get {N : List Str} {vs : List V} {i : Nat} {v : V} (e : vs[i]? = some v) : (L2.start N vs)[i]? = some (some v) := by
  unfold L2.start
  have hi : i < vs.length := (List.getElem?_eq_some_iff.mp e).1
  rw [List.getElem?_append_left (by simpa using hi), List.getElem?_map, e]
  rfl
theorem rs_startP {K : PySem.W.Frag} {H : Hp} {N : List Str} {vs : List V} {as : List Av} (h : Paired (RA K H) vs as) : RS K H none (L2.start N vs) H (startR N.length as) := by
  have hl := Paired.length h
  have hRA : ∀ {v : V} {a : Av}, RA K H v a → RB K H none H v a ∧ ownA a = false := fun {v a} q => by
    unfold RA at q
    split at q
    · exact ⟨q, rfl⟩
    · obtain ⟨p, xs, h1, h2, h3⟩ := q
      exact ⟨⟨p, xs, h1, h2, (fun z => nomatch z), h3⟩, rfl⟩
    · obtain ⟨p, h1, h2⟩ := q
      exact ⟨⟨p, h1, h2, (fun z => nomatch z)⟩, rfl⟩
    · exact q.elim
  refine ⟨by simp [startR, L2.start, hl], fun a u h1 _ => h1, fun p h1 => (nomatch h1), fun i a e => ?_, fun i j a b _ e1 _ o1 _ => ?_⟩
  · obtain ⟨v, h1, h2⟩ := prGet h (startR_get e)
    exact ⟨v, start_get h1, (hRA h2).1⟩
  · obtain ⟨v, h1, h2⟩ := prGet h (startR_get e1)
    rw [(hRA h2).2] at o1
    cases o1
theorem frm_none {G H : Hp} (f : Frm none G H) : Ex G H := fun a u h => f a u h (fun z => nomatch z)
section
variable {P : Program} {w : World} {K : PySem.W.Frag} {mg : Str → Option Value} {base : Heap}
/-- a def without a box -/
theorem fn_P {x qual : Str} {st : Stmt} {f : Addr} {fd : FuncData} {N ps : List Str} {k : Nat} {g : SS} (F : Fun K x qual st f fd) (S : FnScope N ps (defScope st))
    (hb : ∀ (cdv : Value) (A : Around) (outer : List Env) (s : Shared) (H : Hp) (E : XK), Room k (A.deeper (envOfC qual (defScope st) s.heap.objs.size f cdv)) → PSs (cxOf CX0 P w K mg base N qual (defScope st) f cdv A outer s H E).nox (defBody st) (tS K g)) :
    FnOk P w K mg base CX0 (k + 1) f fd ps (spP K ps.length (runP N.length g)) := by
  refine F.ok S (fun vs H Q E h => ?_) (fun cdv A outer s H vs Q E hr h => ?_)
  · obtain ⟨as, a, h1, _, h2, _⟩ := h
    rw [Paired.length h2, h1]
  · obtain ⟨as, a, h1, h2, h3, q⟩ := h
    simp only [runP, Option.map_eq_some_iff] at h2
    obtain ⟨o, e1, e2⟩ := h2
    refine ⟨_, hb cdv A outer s H E hr, H, none, _, o, rs_startP h3, e1, ?_⟩
    cases o with
    | nx r' =>
      subst e2
      exact fun σ' H' G' _ x S' => q _ H' (x.trans (frm_none S'.ext)) Rp.non
    | rt r' b =>
      subst e2
      exact fun v σ' H' G' _ x S' hv => q v H' (x.trans (frm_none S'.ext)) (hv.back x)
/-- a def whose first parameter is the box -/
theorem fn_B {x qual : Str} {st : Stmt} {f : Addr} {fd : FuncData} {N ps : List Str} {k n : Nat} {g : SS} (F : Fun K x qual st f fd) (S : FnScope N ps (defScope st)) (hn : ps.length = n + 1)
    (hb : ∀ (cdv : Value) (A : Around) (outer : List Env) (s : Shared) (H : Hp) (E : XK), Room k (A.deeper (envOfC qual (defScope st) s.heap.objs.size f cdv)) → PSs (cxOf CX0 P w K mg base N qual (defScope st) f cdv A outer s H E).nox (defBody st) (tS K g)) :
    FnOk P w K mg base CX0 (k + 1) f fd ps (spB K n (runB N.length g)) := by
  refine F.ok S (fun vs H Q E h => ?_) (fun cdv A outer s H vs Q E hr h => ?_)
  · obtain ⟨o, xs, b, ws, as, b', a, rfl, h1, _, _, _, h2, _⟩ := h
    rw [List.length_cons, Paired.length h2, h1, hn]
  · obtain ⟨o, xs, b, ws, as, b', a, rfl, h1, hH, hR, hno, h2, h3, q⟩ := h
    simp only [runB, Option.bind_eq_some_iff] at h3
    obtain ⟨out, e1, e2⟩ := h3
    have hl := Paired.length h2
    have hRA : ∀ {v : V} {a : Av}, v ∈ ws → RA K H v a → RB K H (some o) H v a ∧ ownA a = false := fun {v a} hm q => by
      unfold RA at q
      split at q
      · exact ⟨q, rfl⟩
      · obtain ⟨p, xs, h1, h2, h3⟩ := q
        refine ⟨⟨p, xs, h1, h2, fun z => ?_, h3⟩, rfl⟩
        cases z
        rw [h1] at hm
        exact hno hm
      · obtain ⟨p, h1, h2⟩ := q
        refine ⟨⟨p, h1, h2, fun z => ?_⟩, rfl⟩
        cases z
        rw [hH] at h2
        cases h2
      · exact q.elim
    have S0 : RS K H (some o) (L2.start N (.ref o :: ws)) H (startR N.length (.x b :: as)) := by
      refine ⟨by simp [startR, L2.start, hl], fun a u h1 _ => h1, fun p h1 => ?_, fun i a e => ?_, fun i j a d hij e1 e2 o1 o2 => ?_⟩
      · cases h1
        exact ⟨by rw [hH]; exact (fun z => nomatch z), xs, hH⟩
      · have e := startR_get e
        cases i with
        | zero =>
          have e := Option.some.inj e
          subst e
          exact ⟨.ref o, start_get rfl, o, xs, rfl, rfl, hH, hR⟩
        | succ i =>
          obtain ⟨v, h1, h2⟩ := prGet h2 (show as[i]? = some a from e)
          exact ⟨v, start_get h1, (hRA (List.mem_of_getElem? h1) h2).1⟩
      · have key : ∀ l c, (startR N.length (.x b :: as))[l]? = some (some c) → ownA c = true → l = 0 := fun l c e oc => by
          have e := startR_get e
          cases l with
          | zero => rfl
          | succ l =>
            obtain ⟨v, h1, h2⟩ := prGet h2 (show as[l]? = some c from e)
            rw [(hRA (List.mem_of_getElem? h1) h2).2] at oc
            cases oc
        exact absurd ((key i a e1 o1).trans (key j d e2 o2).symm) hij
    have fin : ∀ {r' : Rho} {σ' : L2.St} {H' G' : Hp} {v : V} {z : List Dt} {c : Av}, Ex H G' → RS K G' (some o) σ' H' r' → boxAt r' 0 = some z → RF K G' H' v c → (z, c) = (b', a) → Q v H' := fun {r' σ' H' G' v z c} x S' hz hv e => by
      cases e
      unfold boxAt at hz
      split at hz
      · rename_i ds hr0
        have hz := Option.some.inj hz
        subst hz
        obtain ⟨v0, h1, p, xs', h2, h3, h4, h5⟩ := S'.slot 0 _ hr0
        cases h3
        refine q v H' xs' (fun c u hc hu => S'.ext c u (x _ _ hu) hc) h4 h5 (hv.back x)
      · cases hz
    refine ⟨_, hb cdv A outer s H E hr, H, some o, _, out, S0, e1, ?_⟩
    cases out with
    | nx r' =>
      simp only [Option.map_eq_some_iff] at e2
      obtain ⟨z, e3, e4⟩ := e2
      exact fun σ' H' G' _ x S' => fin x S' e3 (show RF K G' H' .non (.d .non) from Rp.non) e4
    | rt r' c =>
      simp only [Option.map_eq_some_iff] at e2
      obtain ⟨z, e3, e4⟩ := e2
      exact fun v σ' H' G' _ x S' hv => fin x S' e3 hv e4
end
/-! ### calls -/
theorem vFree_eq {a b : Av} (e : vFree a = some b) : b = a := by
  unfold vFree at e
  split at e
  · exact (Option.some.inj e).symm
  · exact (Option.some.inj e).symm
  · exact (Option.some.inj e).symm
  · cases e
section
variable {X : Cx} {k : Nat} {f : Addr} {fd : FuncData} {ps : List Str} {x : Str} {p pos : Pos} {e : Expr} {es : List Expr} {n : Nat} {F : FP} {FBx : FB} {fs : List SE}
theorem de_call (Gk : FnOk X.prog X.w X.K X.mg X.base CX0 k f fd ps (spP X.K n F)) (hr : Room k X.A) (hg : Gl X x) (hm : X.mg x = some (.ref f)) (hk : PySem.W.keepIn X.K (.ref f) = true) (hb : Binds X.K fd ps []) (ha : DA X (e :: es) fs) (hn : fs.length = n := by rfl)
    (hdb : (x == ("__debug__" : Str)) = false := by decide) (he : starEach (e :: es) X.env = (false, eval e X.env) :: starEach es X.env := by rfl) (hpl : (backTo pos (starEach es X.env)).any (·.1) = false := by rfl) : DE X (.Call (.Name x p) (e :: es) [] pos) (sCall F fs) :=
  PEw (pe_call Gk hr hg hm hk hb .nil pass0 ha hdb he hpl) fun σ H Q ⟨G, O, r, c, s, e1, q⟩ => by
    simp only [sCall, Option.bind_eq_some_iff] at e1
    obtain ⟨bs, ⟨as, e2, e3⟩, e4⟩ := e1
    refine ⟨G, O, r, as, s, e2, fun vs H1 x1 r1 => ?_⟩
    show spP X.K n F (vs ++ []) H1 Q E0
    rw [List.append_nil]
    exact ⟨bs, c, by rw [argsA_len e3, seqE_len e2, hn], e4, r1.args (s.ext.ex x1) e3, fun v H2 x2 hv => q v H2 (x1.trans x2) (hv.rr fun p => x1.free)⟩
/-- a new list is handed over as the box and forgotten -/
theorem de_callNew {g : SE} (Gk : FnOk X.prog X.w X.K X.mg X.base CX0 k f fd ps (spB X.K 0 FBx)) (hr : Room k X.A) (hg : Gl X x) (hm : X.mg x = some (.ref f)) (hk : PySem.W.keepIn X.K (.ref f) = true) (hb : Binds X.K fd ps []) (ha : DE X e g)
    (hdb : (x == ("__debug__" : Str)) = false := by decide) (he : starEach [e] X.env = (false, eval e X.env) :: starEach [] X.env := by rfl) (hpl : (backTo pos (starEach ([] : List Expr) X.env)).any (·.1) = false := by rfl) : DE X (.Call (.Name x p) [e] [] pos) (sCallNew FBx g) :=
  PEw (pe_call Gk hr hg hm hk hb .nil pass0 (da_cons ha da_nil he) hdb he hpl) fun σ H Q ⟨G, O, r, c, s, e1, q⟩ => by
    simp only [sCallNew, Option.bind_eq_some_iff] at e1
    obtain ⟨a, e2, e3⟩ := e1
    split at e3
    · rename_i b
      simp only [Option.bind_eq_some_iff] at e3
      obtain ⟨z, e4, e5⟩ := e3
      refine ⟨G, O, r, [.l .fr b], s, by simp [seqE, e2], fun vs H1 x1 r1 => ?_⟩
      cases r1 with
      | cons r1 rr =>
        cases rr
        obtain ⟨o, xs, rfl, h1, h2, h3⟩ := r1
        refine ⟨o, xs, b, [], [], z.1, z.2, rfl, rfl, h2, h3, (fun z => nomatch z), .nil, e4, fun v H2 xs' m1 m2 m3 m4 => ?_⟩
        have x2 : Ex H H2 := fun c u hc => m1 c u (fun z => by cases z; rw [h1] at hc; cases hc) (x1 _ _ hc)
        rw [vFree_eq e5] at q
        exact q v H2 x2 (m4.rr fun p => x1.free)
    · cases e3
end
/-! ### expressions that may turn the box -/
/-- the same but for the box's content -/
def BxEq (r r' : Rho) : Prop := r'.length = r.length ∧ ∀ i : Nat, r'[i]? = r[i]? ∨ ∃ a b, r[i]? = some (some (.x a)) ∧ r'[i]? = some (some (.x b))
theorem BxEq.refl (r : Rho) : BxEq r r := ⟨rfl, fun _ => .inl rfl⟩
theorem BxEq.trans {r r1 r2 : Rho} (a : BxEq r r1) (b : BxEq r1 r2) : BxEq r r2 := ⟨b.1.trans a.1, fun i => by
  rcases a.2 i with h | ⟨x, y, h1, h2⟩
  · rcases b.2 i with k | ⟨x, y, k1, k2⟩
    · exact .inl (k.trans h)
    · exact .inr ⟨x, y, by rw [← h]; exact k1, k2⟩
  · rcases b.2 i with k | ⟨x', y', k1, k2⟩
    · exact .inr ⟨x, y, h1, by rw [k]; exact h2⟩
    · exact .inr ⟨x, y', h1, k2⟩⟩
/-- a value from H in H' that stays good: data, or a new container -/
abbrev RX (K : PySem.W.Frag) (H H' : Hp) (v : V) (a : Av) : Prop := RF K H H' v a
def tX (K : PySem.W.Frag) (f : SX) : TE := fun σ H Q => ∃ G O r q, RS K G O σ H r ∧ f r = some q ∧ ∀ v H', Mo O H H' → RS K G O σ H' q.2 → BxEq r q.2 → RX K H H' v q.1 → Q v H'
def tXB (K : PySem.W.Frag) (f : SXB) : TT := fun σ H Q => ∃ G O r q, RS K G O σ H r ∧ f r = some q ∧ ∀ H', Mo O H H' → RS K G O σ H' q.2 → BxEq r q.2 → Q q.1 H'
abbrev DX (X : Cx) (e : Expr) (f : SX) : Prop := PE X e (tX X.K f)
abbrev DXB (X : Cx) (e : Expr) (f : SXB) : Prop := PT X e (tXB X.K f)
theorem Ex.mo {O : Option Addr} {H H' : Hp} (e : Ex H H') : Mo O H H' := fun c u _ h => e c u h
theorem Mo.refl (O : Option Addr) (H : Hp) : Mo O H H := fun _ _ _ h => h
theorem Mo.trans {O : Option Addr} {H H1 H2 : Hp} (a : Mo O H H1) (b : Mo O H1 H2) : Mo O H H2 := fun c u hc h => b c u hc (a c u hc h)
theorem RS.tl {K : PySem.W.Frag} {G : Hp} {O : Option Addr} {σ : L2.St} {H H' : Hp} {r : Rho} (s : RS K G O σ H r) (m : Mo O H H') : Tl H H' := fun a xs h => m a _ (fun hO => by
  obtain ⟨_, ys, h2⟩ := s.gO a hO
  rw [h] at h2
  cases h2) h
theorem Mo.dm {K : PySem.W.Frag} {G : Hp} {O : Option Addr} {σ : L2.St} {H H' : Hp} {r' : Rho} (m : Mo O H H') (s' : RS K G O σ H' r') : ∀ p, H' p = none → H p = none := fun p h => by
  cases h1 : H p with
  | none => rfl
  | some u =>
    by_cases hO : O = some p
    · obtain ⟨_, ys, h2⟩ := s'.gO p hO
      rw [h] at h2
      cases h2
    · rw [m p u hO h1] at h
      cases h
theorem RF.mo {K : PySem.W.Frag} {G : Hp} {O : Option Addr} {σ : L2.St} {H H1 H2 : Hp} {r r1 : Rho} {v : V} {a : Av} (s : RS K G O σ H r) (s1 : RS K G O σ H1 r1) (m : Mo O H1 H2) (h : RF K H H1 v a) : RF K H H2 v a := by
  have hO : ∀ p, H p = none → O ≠ some p := fun p hp hO => by
    obtain ⟨_, ys, h2⟩ := s.gO p hO
    rw [hp] at h2
    cases h2
  unfold RF at h ⊢
  split at h
  · exact h.mono (s1.tl m)
  · obtain ⟨p, xs, h1, h2, h3, h4⟩ := h
    exact ⟨p, xs, h1, h2, m p _ (hO p h2) h3, h4.mono (s1.tl m)⟩
  · obtain ⟨p, h1, h2, h3⟩ := h
    exact ⟨p, h1, h2, m p _ (hO p h2) h3⟩
  · exact h.elim
theorem RF.from {K : PySem.W.Frag} {H H1 H2 : Hp} {v : V} {a : Av} (e : ∀ p, H1 p = none → H p = none) (h : RF K H1 H2 v a) : RF K H H2 v a := by
  unfold RF at h ⊢
  split at h
  · exact h
  · obtain ⟨p, xs, h1, h2, h3⟩ := h
    exact ⟨p, xs, h1, e p h2, h3⟩
  · obtain ⟨p, h1, h2, h3⟩ := h
    exact ⟨p, h1, e p h2, h3⟩
  · exact h.elim
theorem RF.int {K : PySem.W.Frag} {H H' : Hp} {v : V} {a : Av} {i : Int} (h : RF K H H' v a) (e : vInt a = some i) : v = .int i := by
  rw [vInt_eq e] at h
  have h : Rp K H' v (.int i) := h
  cases h
  rfl
theorem RF.bl {K : PySem.W.Frag} {H H' : Hp} {v : V} {a : Av} {i : Bool} (h : RF K H H' v a) (e : vBl a = some i) : v = .bl i := by
  rw [vBl_eq e] at h
  have h : Rp K H' v (.bl i) := h
  cases h
  rfl
theorem RF.dat {K : PySem.W.Frag} {H H' : Hp} {v : V} {a : Av} {x : Dt} (h : RF K H H' v a) (e : vDat a = some x) : Rp K H' v x := by
  rw [vDat_eq e] at h
  exact h
theorem vFree_rf {K : PySem.W.Frag} {G : Hp} {O : Option Addr} {H H' : Hp} {v : V} {a b : Av} (h : RR K G O H H' v a) (e : vFree a = some b) : RF K H H' v b := by
  unfold vFree at e
  split at e
  · have e := Option.some.inj e
    subst e
    exact h
  · have e := Option.some.inj e
    subst e
    exact h
  · have e := Option.some.inj e
    subst e
    exact h
  · cases e
section
variable {X : Cx} {a b c e : Expr} {es rest : List Expr} {f g : SE} {x y z : SX} {t : SB} {u w : SXB} {pos p p2 : Pos}
theorem dx_p (h : DE X e f) : DX X e (xP f) := PEw h fun σ H Q ⟨G, O, r, q, s, e1, k⟩ => by
  simp only [xP, Option.map_eq_some_iff, Option.bind_eq_some_iff] at e1
  obtain ⟨b, ⟨a, e2, e3⟩, rfl⟩ := e1
  exact ⟨G, O, r, a, s, e2, fun v H1 x1 r1 => k v H1 x1.mo (s.ex x1) (BxEq.refl r) (vFree_rf r1 e3)⟩
theorem dxb_p (h : DT X e t) : DXB X e (xBP t) := PTw h fun σ H Q ⟨G, O, r, q, s, e1, k⟩ => by
  simp only [xBP, Option.map_eq_some_iff] at e1
  obtain ⟨b, e2, rfl⟩ := e1
  exact ⟨G, O, r, b, s, e2, fun H1 x1 => k H1 x1.mo (s.ex x1) (BxEq.refl r)⟩
theorem tX_test {σ : L2.St} {H : Hp} {Q : Bool → Hp → Prop} (q : tXB X.K (xBOf x) σ H Q) : tX X.K x σ H fun v H' => ∃ k, v = .bl k ∧ Q k H' := by
  obtain ⟨G, O, r, c, s, e, q⟩ := q
  simp only [xBOf, Option.bind_eq_some_iff, Option.map_eq_some_iff] at e
  obtain ⟨u, e1, b, e3, rfl⟩ := e
  exact ⟨G, O, r, u, s, e1, fun v H1 m s1 be r1 => ⟨b, r1.bl e3, q H1 m s1 be⟩⟩
/-- a two-place rule over data -/
def X2ok (K : PySem.W.Frag) (r : R2) (h : Av → Av → Option Av) : Prop := ∀ H x y u v c Q, Rp K H x u → Rp K H y v → h (.d u) (.d v) = some (.d c) → (∀ z H', Ex H H' → Rp K H' z c → Q z H') → r x y H Q
theorem ok2x {K : PySem.W.Frag} {r : R2} {h : Av → Av → Option Av} (hr : R2ok K r h) : X2ok K r h := fun H x y u v c Q h1 h2 e k =>
  hr H none H H x y (.d u) (.d v) (.d c) Q (fun a w q _ => q) (fun _ q => q) h1 h2 e k
theorem tX_x2 {r : R2} {h : Av → Av → Option Av} (hr : X2ok X.K r h) {σ : L2.St} {H : Hp} {Q : VK} (q : tX X.K (x2 h x y) σ H Q) : tOp r (tX X.K x) (tX X.K y) σ H Q := by
  obtain ⟨G, O, ρ, c, s, e, q⟩ := q
  simp only [x2, Option.bind_eq_some_iff, Option.map_eq_some_iff] at e
  obtain ⟨q1, e1, d1, e2, q2, e3, d2, e4, z, e5, dz, e6, rfl⟩ := e
  rw [vDat_eq e6] at e5
  refine ⟨G, O, ρ, q1, s, e1, fun v H1 m1 s1 b1 r1 => ⟨G, O, q1.2, q2, s1, e3, fun w H2 m2 s2 b2 r2 => ?_⟩⟩
  exact hr H2 v w d1 d2 dz Q ((r1.dat e2).mono (s1.tl m2)) (r2.dat e4) e5 fun z' H3 x3 r3 => q z' H3 ((m1.trans m2).trans x3.mo) (s2.ex x3) (b1.trans b2) r3
theorem dx_op {op : Operator} {r : R2} {h : Av → Av → Option Av} (ho : OpR X (binaryOp op) r) (hr : X2ok X.K r h) (ha : DX X a x) (hb : DX X b y) : DX X (.BinOp a op b pos) (x2 h x y) := PEw (pe_op ho ha hb) fun _ _ _ => tX_x2 hr
theorem dxb_cmp {op : CmpOp} {r : R2} {h : Av → Av → Option Av} (ho : OpR X (compareOp op) r) (hr : X2ok X.K r h) (ha : DX X a x) (hb : DX X b y) (hm : behindInMarks op b = false) : DXB X (.Compare a [op] [b] pos) (xBOf (x2 h x y)) :=
  PTw (pt_cmpR ho ha hb hm) fun σ H Q q => tX_x2 hr (tX_test q)
theorem dxb_val (h : DX X e x) (he : ∀ whole, isTrue e X.env whole = (do let v ← whole; standAt e.pos; holding [v] (truthy v)) := by intro _; rfl) : DXB X e (xBOf x) := PTw (pt_val h he) fun σ H Q q => tX_test q
abbrev DXW (X : Cx) (e : Expr) (f : SXB) : Prop := PW X e (tXB X.K f)
theorem dxw_or1 (ha : DXB X a u) : DXW X (.BoolOp .Or [a] pos) u := pw_or1 ha
theorem dxw_or (ha : DXB X a u) (hb : DXW X (.BoolOp .Or (b :: rest) pos) w) : DXW X (.BoolOp .Or (a :: b :: rest) pos) (xBOr u w) := PWw (pw_or ha hb) fun σ H Q ⟨G, O, ρ, z, s, e, q⟩ => by
  simp only [xBOr, Option.bind_eq_some_iff] at e
  obtain ⟨c, e1, e2⟩ := e
  refine ⟨G, O, ρ, c, s, e1, fun H1 m1 s1 b1 => ?_⟩
  obtain ⟨c, r1⟩ := c
  cases c with
  | true =>
    have e2 := Option.some.inj e2
    subst e2
    show Q true H1
    exact q H1 m1 s1 b1
  | false =>
    show tXB X.K w σ H1 Q
    exact ⟨G, O, r1, z, s1, e2, fun H2 m2 s2 b2 => q H2 (m1.trans m2) s2 (b1.trans b2)⟩
theorem dxb_w (h : DXW X e u) : DXB X e u := h.pt
theorem dxb_not (ha : DXB X a u) : DXB X (.UnaryOp .Not a pos) (xBNot u) := PTw (pt_not ha) fun σ H Q ⟨G, O, ρ, z, s, e, q⟩ => by
  simp only [xBNot, Option.map_eq_some_iff] at e
  obtain ⟨c, e1, e2⟩ := e
  subst e2
  exact ⟨G, O, ρ, c, s, e1, fun H1 m1 s1 b1 => q H1 m1 s1 b1⟩
theorem dx_if (hc : DXB X c u) (ha : DX X a x) (hb : DX X b y) : DX X (.IfExp c a b pos) (xIf u x y) := PEw (pe_ifExp hc ha hb) fun σ H Q ⟨G, O, ρ, z, s, e, q⟩ => by
  simp only [xIf, Option.bind_eq_some_iff] at e
  obtain ⟨c, e1, e2⟩ := e
  refine ⟨G, O, ρ, c, s, e1, fun H1 m1 s1 b1 => ?_⟩
  obtain ⟨c, r1⟩ := c
  cases c with
  | true =>
    show tX X.K x σ H1 Q
    exact ⟨G, O, r1, z, s1, e2, fun v H2 m2 s2 b2 r2 => q v H2 (m1.trans m2) s2 (b1.trans b2) (r2.from (m1.dm s1))⟩
  | false =>
    show tX X.K y σ H1 Q
    exact ⟨G, O, r1, z, s1, e2, fun v H2 m2 s2 b2 r2 => q v H2 (m1.trans m2) s2 (b1.trans b2) (r2.from (m1.dm s1))⟩
/-! ### several -/
def tXA (K : PySem.W.Frag) (fs : List SX) : TA := fun σ H Q => ∃ G O r q, RS K G O σ H r ∧ seqX fs r = some q ∧ ∀ vs H', Mo O H H' → RS K G O σ H' q.2 → BxEq r q.2 → Rps K H' vs q.1 → Q vs H'
abbrev DXA (X : Cx) (es : List Expr) (fs : List SX) : Prop := PA X es (tXA X.K fs)
theorem dxa_nil : DXA X [] [] := PAw pa_nil fun σ H Q ⟨G, O, r, q, s, e, k⟩ => by
  have e := Option.some.inj e
  subst e
  exact k [] H (Mo.refl _ H) s (BxEq.refl r) .nil
theorem dxa_cons {fs : List SX} (ha : DX X e x) (hr : DXA X es fs) (hs : starEach (e :: es) X.env = (false, eval e X.env) :: starEach es X.env := by rfl) : DXA X (e :: es) (x :: fs) := PAw (pa_cons ha hr hs) fun σ H Q ⟨G, O, r, q, s, e, k⟩ => by
  simp only [seqX, Option.bind_eq_some_iff, Option.map_eq_some_iff] at e
  obtain ⟨q1, e1, d, e2, q2, e3, rfl⟩ := e
  exact ⟨G, O, r, q1, s, e1, fun v H1 m1 s1 b1 r1 => ⟨G, O, q1.2, q2, s1, e3, fun vs H2 m2 s2 b2 r2 => k _ H2 (m1.trans m2) s2 (b1.trans b2) (.cons ((r1.dat e2).mono (s1.tl m2)) r2)⟩⟩
theorem seqX_len : ∀ {fs : List SX} {r : Rho} {q : List Dt × Rho}, seqX fs r = some q → q.1.length = fs.length
  | [], _, q, e => by
    have e := Option.some.inj e
    subst e
    rfl
  | f :: fs, r, q, e => by
    simp only [seqX, Option.bind_eq_some_iff, Option.map_eq_some_iff] at e
    obtain ⟨q1, e1, d, e2, q2, e3, rfl⟩ := e
    show _ + 1 = _ + 1
    rw [seqX_len e3]
theorem dx_tup {x1} {fs : List SX} (h : DXA X es fs) (hl : fs.length ≤ 1000 := by decide) : DX X (.Tuple es x1 pos) (xTup fs) := PEw (pe_tup h) fun σ H Q ⟨G, O, r, q, s, e, k⟩ => by
  simp only [xTup, Option.map_eq_some_iff] at e
  obtain ⟨q1, e1, rfl⟩ := e
  refine ⟨G, O, r, q1, s, e1, fun vs H1 m1 s1 b1 r1 => ⟨?_, fun p hp => ?_⟩⟩
  · rw [r1.length, seqX_len e1]
    exact small_line (by omega)
  · exact k _ _ (m1.trans (Ex.new hp).mo) (s1.ex (Ex.new hp)) b1 (Rp.tup upd_same (r1.mono (Ex.new hp).tl))
theorem rps_ra {K : PySem.W.Frag} {H : Hp} : ∀ {ds : List Dt} {vs : List V}, Rps K H vs ds → Paired (RA K H) vs (ds.map .d)
  | [], _, h => by cases h; exact .nil
  | _ :: _, _, h => by
    cases h with
    | cons h1 h2 => exact .cons h1 (rps_ra h2)
section
variable {k n : Nat} {f : Addr} {fd : FuncData} {ps : List Str} {nm : Str} {F : FP} {FBx : FB} {fs : List SX} {gs : List SE}
theorem dx_call (Gk : FnOk X.prog X.w X.K X.mg X.base CX0 k f fd ps (spP X.K n F)) (hr : Room k X.A) (hg : Gl X nm) (hm : X.mg nm = some (.ref f)) (hk : PySem.W.keepIn X.K (.ref f) = true) (hb : Binds X.K fd ps []) (ha : DXA X (e :: es) fs) (hn : fs.length = n := by rfl)
    (hdb : (nm == ("__debug__" : Str)) = false := by decide) (he : starEach (e :: es) X.env = (false, eval e X.env) :: starEach es X.env := by rfl) (hpl : (backTo pos (starEach es X.env)).any (·.1) = false := by rfl) : DX X (.Call (.Name nm p) (e :: es) [] pos) (xCall F fs) :=
  PEw (pe_call Gk hr hg hm hk hb .nil pass0 ha hdb he hpl) fun σ H Q ⟨G, O, r, c, s, e1, q⟩ => by
    simp only [xCall, Option.bind_eq_some_iff, Option.map_eq_some_iff] at e1
    obtain ⟨q1, e2, b, ⟨a, e3, e4⟩, rfl⟩ := e1
    refine ⟨G, O, r, q1, s, e2, fun vs H1 m1 s1 b1 r1 => ?_⟩
    show spP X.K n F (vs ++ []) H1 Q E0
    rw [List.append_nil]
    refine ⟨_, a, by rw [List.length_map, seqX_len e2, hn], e3, rps_ra r1, fun v H2 x2 hv => q v H2 (m1.trans x2.mo) (s1.ex x2) b1 ?_⟩
    exact vFree_rf (hv.rr (G := G) (O := O) (m1.dm s1)) e4
theorem box_at {K : PySem.W.Frag} {G : Hp} {O : Option Addr} {σ : L2.St} {H : Hp} {r : Rho} {i : Nat} {b : List Dt} (s : RS K G O σ H r) (e : boxAt r i = some b) : ∃ o xs, σ[i]? = some (some (.ref o)) ∧ O = some o ∧ H o = some (.lst xs) ∧ Rps K H xs b ∧ r[i]? = some (some (.x b)) := by
  unfold boxAt at e
  split at e
  · rename_i ds hr
    have e := Option.some.inj e
    subst e
    obtain ⟨v, h1, p, xs, rfl, h2, h3, h4⟩ := s.slot i _ hr
    exact ⟨p, xs, h1, h2, h3, h4, hr⟩
  · cases e
/-- the box has new content -/
theorem RS.box {K : PySem.W.Frag} {G : Hp} {O : Option Addr} {σ : L2.St} {H H' : Hp} {r : Rho} {i : Nat} {b b' : List Dt} {o : Addr} {xs' : List V} (s : RS K G O σ H r) (hi : r[i]? = some (some (.x b))) (hO : O = some o) (m : Mo O H H') (h1 : H' o = some (.lst xs')) (h2 : Rps K H' xs' b') : RS K G O σ H' (r.set i (some (.x b'))) := by
  have hil : i < r.length := (List.getElem?_eq_some_iff.mp hi).1
  have tl := s.tl m
  refine ⟨by rw [List.length_set]; exact s.len, fun a u q1 q2 => m a u q2 (s.ext a u q1 q2), fun p q => ⟨(s.gO p q).1, xs', ?_⟩, fun j a e => ?_, fun j k a c hjk e1 e2 o1 o2 => ?_⟩
  · rw [hO] at q
    cases q
    exact h1
  · by_cases hj : i = j
    · subst hj
      rw [List.getElem?_set_self hil] at e
      have e := Option.some.inj (Option.some.inj e)
      subst e
      obtain ⟨v, q1, p, xs, q2, q3, q4, q5⟩ := s.slot i _ hi
      rw [hO] at q3
      cases q3
      exact ⟨v, q1, _, xs', q2, hO, h1, h2⟩
    · rw [List.getElem?_set_ne hj] at e
      obtain ⟨v, q1, q2⟩ := s.slot j a e
      refine ⟨v, q1, ?_⟩
      unfold RB at q2 ⊢
      split at q2
      · exact q2.mono tl
      · obtain ⟨p, xs, w1, w2, w3, w4⟩ := q2
        exact ⟨p, xs, w1, w2, w3, w4.mono tl⟩
      · obtain ⟨p, xs, w1, w2, w3, w4⟩ := q2
        refine ⟨p, xs, w1, w2, m p _ (fun z => (s.gO p z).1 w2) w3, w4.mono tl⟩
      · obtain ⟨p, w1, w2, w3⟩ := q2
        exact ⟨p, w1, w2, m p _ (fun z => (s.gO p z).1 w2) w3⟩
      · rename_i ds
        exfalso
        obtain ⟨p, xs, w1, w2, w3, w4⟩ := q2
        obtain ⟨v', q1', p', xs'', w1', w2', _⟩ := s.slot i _ hi
        rw [w2] at w2'
        cases w2'
        exact s.sep i j _ _ hj hi e rfl rfl (by rw [q1, q1', w1, w1'])
      · exact q2
      · exact q2
  · have key : ∀ l d, (r.set i (some (.x b')))[l]? = some (some d) → ownA d = true → ∃ d', r[l]? = some (some d') ∧ ownA d' = true := fun l d e od => by
      by_cases hl : i = l
      · subst hl
        exact ⟨_, hi, rfl⟩
      · rw [List.getElem?_set_ne hl] at e
        exact ⟨d, e, od⟩
    obtain ⟨a', e1', o1'⟩ := key j a e1 o1
    obtain ⟨c', e2', o2'⟩ := key k c e2 o2
    exact s.sep j k a' c' hjk e1' e2' o1' o2'
theorem BxEq.set {r : Rho} {i : Nat} {b b' : List Dt} (hi : r[i]? = some (some (.x b))) : BxEq r (r.set i (some (.x b'))) := ⟨List.length_set, fun j => by
  by_cases hj : i = j
  · subst hj
    exact .inr ⟨b, b', hi, List.getElem?_set_self (List.getElem?_eq_some_iff.mp hi).1⟩
  · exact .inl (List.getElem?_set_ne hj)⟩
/-- a def that gets the box in the i-th name, its further arguments may turn it -/
theorem dx_callB (i : Nat) {bx : Str} (Gk : FnOk X.prog X.w X.K X.mg X.base CX0 k f fd ps (spB X.K n FBx)) (hr : Room k X.A) (hg : Gl X nm) (hm : X.mg nm = some (.ref f)) (hk : PySem.W.keepIn X.K (.ref f) = true) (hb : Binds X.K fd ps []) (ha : DXA X es fs) (hn : fs.length = n := by rfl)
    (hN : X.N[i]? = some bx := by rfl) (hv : Vis X.env.scope bx := by first | exact Or.inl rfl | exact Or.inr (Or.inl rfl) | exact Or.inr (Or.inr rfl)) (hd : (bx == ("__debug__" : Str)) = false := by decide) (hcd : (bx == ("__classdict__" : Str)) = false := by decide)
    (hdb : (nm == ("__debug__" : Str)) = false := by decide) (he : starEach (.Name bx p2 :: es) X.env = (false, eval (.Name bx p2) X.env) :: starEach es X.env := by rfl) (hpl : (backTo pos (starEach es X.env)).any (·.1) = false := by rfl) : DX X (.Call (.Name nm p) (.Name bx p2 :: es) [] pos) (xCallB i FBx fs) :=
  PEw (pe_call Gk hr hg hm hk hb .nil pass0 (pa_cons (pe_var hN hv hd hcd) ha he) hdb he hpl) fun σ H Q ⟨G, O, r, c, s, e1, q⟩ => by
    simp only [xCallB, Option.bind_eq_some_iff, Option.map_eq_some_iff] at e1
    obtain ⟨b0, e0, q1, e2, b, e3, z, e4, a, e5, rfl⟩ := e1
    obtain ⟨o, xs, h1, h2, h3, h4, h5⟩ := box_at s e0
    refine ⟨.ref o, h1, G, O, r, q1, s, e2, fun vs H1 m1 s1 b1 r1 => ?_⟩
    obtain ⟨o', xs', h1', h2', h3', h4', h5'⟩ := box_at s1 e3
    rw [h2] at h2'
    cases h2'
    have hno : V.ref o ∉ vs := fun hm => by
      obtain ⟨j, hj⟩ := List.mem_iff_getElem?.mp hm
      obtain ⟨d, _, hd⟩ := r1.getV hj
      cases hd with
      | tup q1 _ => rw [h3'] at q1; cases q1
    refine ⟨o, xs', b, vs ++ [], _, z.1, z.2, rfl, by rw [List.length_map, seqX_len e2, hn], h3', h4', by rw [List.append_nil]; exact hno, by rw [List.append_nil]; exact rps_ra r1, e4, fun v H2 ys k1 k2 k3 k4 => ?_⟩
    rw [h2] at m1 q
    have m2 : Mo (some o) H1 H2 := k1
    have s2 := s1.box h5' h2 (by rw [h2]; exact m2) k2 k3
    rw [h2] at s2
    refine q v H2 (m1.trans m2) s2 (b1.trans (BxEq.set h5')) ?_
    rw [h2] at s1
    exact vFree_rf (G := G) (O := none) (k4.rr (m1.dm s1)) e5
/-- .. its further arguments do not turn it -/
theorem dx_callBP (i : Nat) {bx : Str} (Gk : FnOk X.prog X.w X.K X.mg X.base CX0 k f fd ps (spB X.K n FBx)) (hr : Room k X.A) (hg : Gl X nm) (hm : X.mg nm = some (.ref f)) (hk : PySem.W.keepIn X.K (.ref f) = true) (hb : Binds X.K fd ps []) (ha : DA X es gs) (hn : gs.length = n := by rfl)
    (hN : X.N[i]? = some bx := by rfl) (hv : Vis X.env.scope bx := by first | exact Or.inl rfl | exact Or.inr (Or.inl rfl) | exact Or.inr (Or.inr rfl)) (hd : (bx == ("__debug__" : Str)) = false := by decide) (hcd : (bx == ("__classdict__" : Str)) = false := by decide)
    (hdb : (nm == ("__debug__" : Str)) = false := by decide) (he : starEach (.Name bx p2 :: es) X.env = (false, eval (.Name bx p2) X.env) :: starEach es X.env := by rfl) (hpl : (backTo pos (starEach es X.env)).any (·.1) = false := by rfl) : DX X (.Call (.Name nm p) (.Name bx p2 :: es) [] pos) (xCallBP i FBx gs) :=
  PEw (pe_call Gk hr hg hm hk hb .nil pass0 (pa_cons (pe_var hN hv hd hcd) ha he) hdb he hpl) fun σ H Q ⟨G, O, r, c, s, e1, q⟩ => by
    simp only [xCallBP, Option.bind_eq_some_iff, Option.map_eq_some_iff] at e1
    obtain ⟨bs, ⟨as, e2, e2'⟩, b, e3, z, e4, a, e5, rfl⟩ := e1
    obtain ⟨o, xs, h1, h2, h3, h4, h5⟩ := box_at s e3
    refine ⟨.ref o, h1, G, O, r, as, s, e2, fun vs H1 x1 r1 => ?_⟩
    have s1 := s.ex x1
    have hno : ∀ {as bs : List Av} {vs : List V}, RRs X.K G O H H1 vs as → argsA as = some bs → V.ref o ∉ vs := by
      intro as
      induction as with
      | nil =>
        intro bs vs h _
        cases h
        exact fun z => nomatch z
      | cons a as ih =>
        intro bs vs h e
        cases h with
        | cons q1 q2 =>
          simp only [argsA, Option.bind_eq_some_iff, Option.map_eq_some_iff] at e
          obtain ⟨b, e1, cs, e2, rfl⟩ := e
          refine fun hm => (List.mem_cons.mp hm).elim (fun z => ?_) (ih q2 e2)
          subst z
          have hlst := x1 _ _ h3
          cases a with
          | d x =>
            have q1 : Rp X.K H1 (.ref o) x := q1
            cases q1 with
            | tup w1 _ => rw [hlst] at w1; cases w1
          | l k ds =>
            cases k with
            | fr =>
              obtain ⟨p, ys, w1, w2, w3, w4⟩ := q1
              cases w1
              rw [h3] at w2
              cases w2
            | ro =>
              obtain ⟨p, ys, w1, w2, w3, w4⟩ := q1
              cases w1
              exact w3 h2
            | ow =>
              obtain ⟨p, ys, w1, w2, w3, w4⟩ := q1
              cases w1
              exact (s.gO o h2).1 w2
            | bx => cases e1
          | m k m =>
            cases k with
            | fr => cases e1
            | ro => cases e1
            | ow =>
              obtain ⟨p, w1, w2, w3⟩ := q1
              cases w1
              rw [hlst] at w3
              cases w3
            | bx => cases e1
          | x _ => cases e1
    refine ⟨o, xs, b, vs ++ [], bs, z.1, z.2, rfl, by rw [argsA_len e2', seqE_len e2, hn], x1 _ _ h3, h4.mono x1.tl, by rw [List.append_nil]; exact hno r1 e2', by rw [List.append_nil]; exact r1.args s1.ext e2', e4, fun v H2 ys k1 k2 k3 k4 => ?_⟩
    have m2 : Mo O H1 H2 := by rw [h2]; exact k1
    refine q v H2 (x1.mo.trans m2) (s1.box h5 h2 m2 k2 k3) (BxEq.set h5) ?_
    exact vFree_rf (G := G) (O := none) (k4.rr fun p => x1.free) e5
end
/-- name[e], e may turn the box -/
theorem dx_ix (i : Nat) {nm : Str} (hb : DX X b x) (hN : X.N[i]? = some nm := by rfl) (hv : Vis X.env.scope nm := by first | exact Or.inl rfl | exact Or.inr (Or.inl rfl) | exact Or.inr (Or.inr rfl)) (hd : (nm == ("__debug__" : Str)) = false := by decide) (hcd : (nm == ("__classdict__" : Str)) = false := by decide)
    (hs : PlainIx b := by exact fun _ _ => rfl) : DX X (.Subscript (.Name nm p) b pos) (xIx i x) := PEw (pe_ix ix_X (pe_var hN hv hd hcd) hb hs) fun σ H Q ⟨G, O, r, c, s, e1, q⟩ => by
  simp only [xIx, Option.bind_eq_some_iff, Option.map_eq_some_iff] at e1
  obtain ⟨a0, e0, q1, e1, k, e2, a, e3, z, ⟨zz, e4, e5⟩, rfl⟩ := e1
  rw [vDat_eq e5] at e4
  obtain ⟨a0', h0, e0'⟩ : ∃ a0', r[i]? = some (some a0') ∧ True := by
    unfold sVar at e0
    split at e0
    · exact ⟨_, by assumption, trivial⟩
    · exact ⟨_, by assumption, trivial⟩
    · cases e0
  obtain ⟨v0, h1, _⟩ := s.slot i a0' h0
  refine ⟨v0, h1, G, O, r, q1, s, e1, fun w H1 m1 s1 b1 r1 => ?_⟩
  -- the name's value as it stands behind the index
  have hv : RR X.K G O H1 H1 v0 a := by
    unfold sVar at e3
    split at e3
    · rename_i ds hr
      have e3 := Option.some.inj e3
      subst e3
      obtain ⟨v, q1, q2⟩ := s1.slot i _ hr
      rw [h1] at q1
      cases q1
      exact q2
    · rename_i a' hn hr
      have e3 := Option.some.inj e3
      subst e3
      obtain ⟨v, q1, q2⟩ := s1.slot i _ hr
      rw [h1] at q1
      cases q1
      unfold RB at q2
      split at q2
      · exact q2
      · exact q2
      · exact q2
      · exact q2
      · first | exact (hn _ hr).elim | exact (hn _ rfl).elim
      · exact q2
      · exact q2.elim
    · cases e3
  exact ok_ix G O H1 H1 v0 w a (.d k) (.d z) Q s1.ext (fun _ h => h) hv (r1.dat e2) e4 fun zv H2 x2 r2 => q zv H2 (m1.trans x2.mo) (s1.ex x2) b1 r2
end
end S67

/-! KJ: statements. -/
namespace S67
open PySem PySem.Spec PyProof.Rows L2
section
variable {K : PySem.W.Frag} {G : Hp} {O : Option Addr} {σ : L2.St} {H H' : Hp} {r : Rho}
/-- a slot gets a value of any standing -/
theorem RS.setC (s : RS K G O σ H r) (i : Nat) {v : V} {b : Av} (hb : RB K G O H v b) (hne : ownA b = true → ∀ (l : Nat) c, l ≠ i → r[l]? = some (some c) → ownA c = true → σ[l]? ≠ some (some v)) : RS K G O (σ.set i (some v)) H (r.set i (some b)) := by
  refine ⟨by rw [List.length_set, List.length_set, s.len], s.ext, s.gO, fun j a e => ?_, fun j k a c hjk e1 e2 o1 o2 => ?_⟩
  · by_cases hj : i = j
    · subst hj
      have hi : i < r.length := by
        have := (List.getElem?_eq_some_iff.mp e).1
        rwa [List.length_set] at this
      rw [List.getElem?_set_self hi] at e
      have e := Option.some.inj (Option.some.inj e)
      subst e
      exact ⟨v, List.getElem?_set_self (by rw [← s.len]; exact hi), hb⟩
    · rw [List.getElem?_set_ne hj] at e
      obtain ⟨w, h1, h2⟩ := s.slot j a e
      exact ⟨w, by rw [List.getElem?_set_ne hj]; exact h1, h2⟩
  · have at_i : ∀ c, (r.set i (some b))[i]? = some (some c) → c = b ∧ (σ.set i (some v))[i]? = some (some v) := fun c e => by
      have hi : i < r.length := by
        have := (List.getElem?_eq_some_iff.mp e).1
        rwa [List.length_set] at this
      rw [List.getElem?_set_self hi] at e
      exact ⟨(Option.some.inj (Option.some.inj e)).symm, List.getElem?_set_self (by rw [← s.len]; exact hi)⟩
    by_cases hj : i = j
    · subst hj
      obtain ⟨rfl, q⟩ := at_i a e1
      rw [q]
      rw [List.getElem?_set_ne hjk] at e2 ⊢
      exact Ne.symm (hne o1 k c (Ne.symm hjk) e2 o2)
    · by_cases hk : i = k
      · subst hk
        obtain ⟨rfl, q⟩ := at_i c e2
        rw [q]
        rw [List.getElem?_set_ne hj] at e1 ⊢
        exact hne o2 j a (Ne.symm hj) e1 o1
      · rw [List.getElem?_set_ne hj] at e1 ⊢
        rw [List.getElem?_set_ne hk] at e2 ⊢
        exact s.sep j k a c hjk e1 e2 o1 o2
/-- the addresses that names own are known -/
theorem RS.own (s : RS K G O σ H r) {l : Nat} {c : Av} (e : r[l]? = some (some c)) (o : ownA c = true) : ∃ p u, σ[l]? = some (some (.ref p)) ∧ H p = some u ∧ ∀ xs, u ≠ .tup xs := by
  obtain ⟨v, h1, h2⟩ := s.slot l c e
  unfold RB at h2
  split at h2
  · cases o
  · cases o
  · obtain ⟨p, xs, rfl, _, h3, _⟩ := h2
    exact ⟨p, _, h1, h3, fun xs z => nomatch z⟩
  · obtain ⟨p, rfl, _, h3⟩ := h2
    exact ⟨p, _, h1, h3, fun xs z => nomatch z⟩
  · obtain ⟨p, xs, rfl, _, h3, _⟩ := h2
    exact ⟨p, _, h1, h3, fun xs z => nomatch z⟩
  · cases o
  · exact h2.elim
theorem BxEq.own {r r' : Rho} (b : BxEq r r') {l : Nat} {c : Av} (e : r'[l]? = some (some c)) (o : ownA c = true) : ∃ c', r[l]? = some (some c') ∧ ownA c' = true := by
  rcases b.2 l with h | ⟨x, y, h1, h2⟩
  · exact ⟨c, by rw [← h]; exact e, o⟩
  · exact ⟨_, h1, rfl⟩
/-- what toSlot makes of a value -/
theorem toSlot_rb {v : V} {a b : Av} (hG : ∀ p, H p = none → G p = none) (h : RF K H H' v a) (e : toSlot a = some b) : RB K G O H' v b ∧ (ownA b = true → ∃ p, v = .ref p ∧ H p = none ∧ H' p ≠ none) := by
  unfold toSlot at e
  split at e
  · have e := Option.some.inj e
    subst e
    exact ⟨h, fun z => nomatch z⟩
  · have e := Option.some.inj e
    subst e
    obtain ⟨p, xs, h1, h2, h3, h4⟩ := h
    exact ⟨⟨p, xs, h1, hG p h2, h3, h4⟩, fun _ => ⟨p, h1, h2, by rw [h3]; exact (fun z => nomatch z)⟩⟩
  · have e := Option.some.inj e
    subst e
    obtain ⟨p, h1, h2, h3⟩ := h
    exact ⟨⟨p, h1, hG p h2, h3⟩, fun _ => ⟨p, h1, h2, by rw [h3]; exact (fun z => nomatch z)⟩⟩
  · cases e
/-- a new value is stored -/
theorem RS.setF {r1 : Rho} (s : RS K G O σ H r) (s1 : RS K G O σ H' r1) (be : BxEq r r1) (i : Nat) {v : V} {a b : Av} (h : RF K H H' v a) (e : toSlot a = some b) : RS K G O (σ.set i (some v)) H' (r1.set i (some b)) := by
  obtain ⟨h1, h2⟩ := toSlot_rb (G := G) (O := O) (fun p hp => s.gNone hp) h e
  refine s1.setC i h1 fun ob l c _ el oc z => ?_
  obtain ⟨p, rfl, hp, _⟩ := h2 ob
  obtain ⟨c', ec, oc'⟩ := be.own el oc
  obtain ⟨q, u, hq, hu, _⟩ := s.own ec oc'
  rw [hq] at z
  cases z
  rw [hp] at hu
  cases hu
/-- a thing that a name owns is changed -/
theorem RS.put (s : RS K G O σ H r) {i : Nat} {a a' : Av} {p : Addr} {o : HO} (hi : r[i]? = some (some a)) (ho : ownA a = true) (hσ : σ[i]? = some (some (.ref p))) (hO : O = some p → ∃ xs, o = .lst xs) (hG : O ≠ some p → G p = none) (hb : RB K G O (upd H p o) (.ref p) a') (ho' : ownA a' = true) : RS K G O σ (upd H p o) (r.set i (some a')) ∧ Tl H (upd H p o) := by
  have hil : i < r.length := (List.getElem?_eq_some_iff.mp hi).1
  obtain ⟨p', u, h1, h2, h3⟩ := s.own hi ho
  rw [hσ] at h1
  cases h1
  have tl : Tl H (upd H p o) := Tl.put h2 h3
  refine ⟨⟨by rw [List.length_set]; exact s.len, fun c w q1 q2 => ?_, fun q hq => ⟨(s.gO q hq).1, ?_⟩, fun j c e => ?_, fun j k c d hjk e1 e2 o1 o2 => ?_⟩, tl⟩
  · have hc : c ≠ p := fun z => by
      subst z
      rw [hG q2] at q1
      cases q1
    rw [upd_ne hc]
    exact s.ext c w q1 q2
  · by_cases hq2 : q = p
    · subst hq2
      obtain ⟨xs, rfl⟩ := hO hq
      exact ⟨xs, upd_same⟩
    · rw [upd_ne hq2]
      exact (s.gO q hq).2
  · by_cases hj : i = j
    · subst hj
      rw [List.getElem?_set_self hil] at e
      have e := Option.some.inj (Option.some.inj e)
      subst e
      exact ⟨_, hσ, hb⟩
    · rw [List.getElem?_set_ne hj] at e
      obtain ⟨v, q1, q2⟩ := s.slot j c e
      refine ⟨v, q1, ?_⟩
      have hne : ownA c = true → ∀ p', v = .ref p' → p' ≠ p := fun oc p' hv z => by
        subst z
        subst hv
        exact s.sep j i c a (Ne.symm hj) e hi oc ho (by rw [q1, hσ])
      unfold RB at q2 ⊢
      split at q2
      · exact q2.mono tl
      · obtain ⟨p, xs, w1, w2, w3, w4⟩ := q2
        exact ⟨p, xs, w1, w2, w3, w4.mono tl⟩
      · obtain ⟨p', xs, w1, w2, w3, w4⟩ := q2
        exact ⟨p', xs, w1, w2, by rw [upd_ne (hne rfl p' w1)]; exact w3, w4.mono tl⟩
      · obtain ⟨p', w1, w2, w3⟩ := q2
        exact ⟨p', w1, w2, by rw [upd_ne (hne rfl p' w1)]; exact w3⟩
      · obtain ⟨p', xs, w1, w2, w3, w4⟩ := q2
        exact ⟨p', xs, w1, w2, by rw [upd_ne (hne rfl p' w1)]; exact w3, w4.mono tl⟩
      · exact q2
      · exact q2
  · have key : ∀ l d, (r.set i (some a'))[l]? = some (some d) → ownA d = true → ∃ d', r[l]? = some (some d') ∧ ownA d' = true := fun l d e od => by
      by_cases hl : i = l
      · subst hl
        exact ⟨_, hi, ho⟩
      · rw [List.getElem?_set_ne hl] at e
        exact ⟨d, e, od⟩
    obtain ⟨c', e1', o1'⟩ := key j c e1 o1
    obtain ⟨d', e2', o2'⟩ := key k d e2 o2
    exact s.sep j k c' d' hjk e1' e2' o1' o2'
end
/-! ### blocks -/
section
variable {X : Cx} {st : Stmt} {rest sts : List Stmt} {g g1 g2 : SS} {e a b c : Expr} {f f1 f2 : SX} {pos p p2 p3 : Pos}
theorem dss_nil : DSs X [] kNil := PSsw pss_nil fun D σ H ⟨G, O, r, o, s, e, q⟩ => by
  have e := Option.some.inj e
  subst e
  exact q σ H G (Tl.refl H) (Ex.refl G) s
theorem dss_one (h : DS X st g) : DSs X [st] g := pss_one h
theorem dss_cons (h1 : DS X st g1) (h2 : DSs X rest g2) : DSs X (st :: rest) (kSeq g1 g2) := PSsw (pss_cons h1 h2) fun D σ H ⟨G, O, r, o, s, e, q⟩ => by
  simp only [kSeq, Option.bind_eq_some_iff] at e
  obtain ⟨o1, e1, e2⟩ := e
  refine ⟨G, O, r, o1, s, e1, ?_⟩
  cases o1 with
  | nx r1 =>
    refine fun σ1 H1 G1 t1 x1 s1 => ⟨G1, O, r1, o, s1, e2, ?_⟩
    cases o with
    | nx r2 => exact fun σ2 H2 G2 t2 x2 s2 => q σ2 H2 G2 (t1.trans t2) (x1.trans x2) s2
    | rt r2 v => exact fun v2 σ2 H2 G2 t2 x2 s2 h2 => q v2 σ2 H2 G2 (t1.trans t2) (x1.trans x2) s2 h2
  | rt r1 v =>
    have e2 := Option.some.inj e2
    subst e2
    exact q
theorem dss_never : DSs X sts kNever := PSsw pss_never fun D σ H ⟨G, O, r, o, s, e, q⟩ => nomatch e
/-! ### names -/
theorem tS_set (i : Nat) {D : Ends} {σ : L2.St} {H : Hp} (q : tS X.K (kSet i f) D σ H) : tAsg (tX X.K f) (gName i) D σ H := by
  obtain ⟨G, O, r, o, s, e, q⟩ := q
  simp only [kSet, Option.bind_eq_some_iff, Option.map_eq_some_iff] at e
  obtain ⟨q1, e1, b, e2, rfl⟩ := e
  exact ⟨G, O, r, q1, s, e1, fun v H1 m1 s1 b1 r1 => q _ H1 G (s.tl m1) (Ex.refl G) (s.setF s1 b1 i r1 e2)⟩
theorem ds_set (i : Nat) {x : Str} (hN : X.N.Nodup) (he : DX X e f) (hi : X.N[i]? = some x := by rfl) (hx : Loc X.env.scope x := by first | exact Or.inl rfl | exact Or.inr rfl) (hs : swapsWith e (some (.Name x p)) pos.line X.env = pure false := by rfl)
    (hf : X.fn x = true ∨ X.env.scope.names.lookup x = some .local := by first | exact .inl rfl | exact .inr rfl) : DS X (.Assign [.Name x p] e pos) (kSet i f) := PSw (ps_set hN hi hx he hs hf) fun D σ H => tS_set i
/-- what of a pure expression's value can be stored -/
theorem tX_xP {fe : SE} {σ : L2.St} {H : Hp} {Q : VK} (q : tX X.K (xP fe) σ H Q) : tD X.K fe σ H Q := by
  obtain ⟨G, O, r, q1, s, e1, k⟩ := q
  simp only [xP, Option.map_eq_some_iff, Option.bind_eq_some_iff] at e1
  obtain ⟨b, ⟨a, e2, e3⟩, rfl⟩ := e1
  exact ⟨G, O, r, a, s, e2, fun v H1 x1 r1 => k v H1 x1.mo (s.ex x1) (BxEq.refl r) (vFree_rf r1 e3)⟩
/-- name = [..] on one line -/
theorem ds_setLc (i : Nat) {y : Str} {elt tg iter : Expr} {ifs : List Expr} {scope : Scope} {own : List (Str × Nat)} {py spos : Pos} {fi : SI} {gg : SG} {t : SB} {ee : SE} (hc : X.calm = true) (hN : X.N.Nodup) (hsw : swapsWith (.ListComp elt [⟨tg, iter, ifs, 0⟩] scope pos) (some (.Name y py)) spos.line X.env = pure true) (hi : DI X tg iter fi) (ok : BlkOk X.N X.env.scope scope own)
    (hg : ∀ (s : Shared) (H : Hp) (C : Addr) (cl : List (Str × Addr)) (fp : List Addr), DG (X.blk s H scope (compEnvC scope cl C X.env) fp) (own.map (·.2)) tg gg) (ht : ∀ (s : Shared) (H : Hp) (C : Addr) (cl : List (Str × Addr)) (fp : List Addr), DTs (X.blk s H scope (compEnvC scope cl C X.env) fp) ifs t)
    (he : ∀ (s : Shared) (H : Hp) (C : Addr) (cl : List (Str × Addr)) (fp : List Addr), DE (X.blk s H scope (compEnvC scope cl C X.env) fp) elt ee) (hy : X.N[i]? = some y := by rfl) (hyl : X.env.scope.names.lookup y = some .local := by rfl) (hs : ∀ x, foldedSetIterable iter X.env x = pure x := by intro _; rfl) :
    DS X (.Assign [.Name y py] (.ListComp elt [⟨tg, iter, ifs, 0⟩] scope pos) spos) (kSet i (xP (sLc (own.map (·.2)) fi gg t ee))) := PSw (ps_setLc hc hN hy hyl hsw hi ok hg ht he hs) fun D σ H q => by
  have q := tS_set (X := X) i q
  exact tLc_of (tX_xP q)
theorem ds_setLc2 (i : Nat) {y : Str} {elt tg iter tg1 iter1 : Expr} {ifs ifs1 : List Expr} {scope : Scope} {own : List (Str × Nat)} {vs1 : List Nat} {py spos : Pos} {fi fi1 : SI} {gg gg1 : SG} {t t1 : SB} {ee : SE} (hc : X.calm = true) (hN : X.N.Nodup) (hsw : swapsWith (.ListComp elt [⟨tg, iter, ifs, 0⟩, ⟨tg1, iter1, ifs1, 0⟩] scope pos) (some (.Name y py)) spos.line X.env = pure true) (hi : DI X tg iter fi) (ok : BlkOk X.N X.env.scope scope own) (hv : ∀ i ∈ vs1, i ∈ own.map (·.2))
    (hg : ∀ (s : Shared) (H : Hp) (C : Addr) (cl : List (Str × Addr)) (fp : List Addr), DG (X.blk s H scope (compEnvC scope cl C X.env) fp) (own.map (·.2)) tg gg) (ht : ∀ (s : Shared) (H : Hp) (C : Addr) (cl : List (Str × Addr)) (fp : List Addr), DTs (X.blk s H scope (compEnvC scope cl C X.env) fp) ifs t)
    (hi1 : ∀ (s : Shared) (H : Hp) (C : Addr) (cl : List (Str × Addr)) (fp : List Addr), DI (X.blk s H scope (compEnvC scope cl C X.env) fp) tg1 iter1 fi1)
    (hg1 : ∀ (s : Shared) (H : Hp) (C : Addr) (cl : List (Str × Addr)) (fp : List Addr), DG (X.blk s H scope (compEnvC scope cl C X.env) fp) vs1 tg1 gg1) (ht1 : ∀ (s : Shared) (H : Hp) (C : Addr) (cl : List (Str × Addr)) (fp : List Addr), DTs (X.blk s H scope (compEnvC scope cl C X.env) fp) ifs1 t1)
    (he : ∀ (s : Shared) (H : Hp) (C : Addr) (cl : List (Str × Addr)) (fp : List Addr), DE (X.blk s H scope (compEnvC scope cl C X.env) fp) elt ee) (hy : X.N[i]? = some y := by rfl) (hyl : X.env.scope.names.lookup y = some .local := by rfl) (hs : ∀ x, foldedSetIterable iter X.env x = pure x := by intro _; rfl) (hs1 : ∀ env x, foldedSetIterable iter1 env x = pure x := by intro _ _; rfl) :
    DS X (.Assign [.Name y py] (.ListComp elt [⟨tg, iter, ifs, 0⟩, ⟨tg1, iter1, ifs1, 0⟩] scope pos) spos) (kSet i (xP (sLc2 (own.map (·.2)) vs1 fi gg t fi1 gg1 t1 ee))) := PSw (ps_setLc2 hc hN hy hyl hsw hi ok hv hg ht hi1 hg1 ht1 he hs hs1) fun D σ H q => by
  have q := tS_set (X := X) i q
  exact tLc2_of hv (tX_xP q)
/-- two values are there: both names get them -/
theorem par_rs {K : PySem.W.Frag} {G : Hp} {O : Option Addr} {σ : L2.St} {H H1 H2 : Hp} {r r1 r2 : Rho} {i j : Nat} {v w : V} {a b a' b' : Av} (hij : i ≠ j) (s : RS K G O σ H r) (s1 : RS K G O σ H1 r1) (s2 : RS K G O σ H2 r2) (m1 : Mo O H H1) (m2 : Mo O H1 H2) (b1 : BxEq r r1) (b2 : BxEq r1 r2)
    (h1 : RF K H H1 v a) (h2 : RF K H1 H2 w b) (e1 : toSlot a = some a') (e2 : toSlot b = some b') : RS K G O ((σ.set i (some v)).set j (some w)) H2 ((r2.set i (some a')).set j (some b')) := by
  have h1' := h1.mo s s1 m2
  have t1 := s.setF s2 (b1.trans b2) i h1' e1
  obtain ⟨q1, q2⟩ := toSlot_rb (G := G) (O := O) (fun p hp => s1.gNone hp) h2 e2
  refine t1.setC j q1 fun ob l c hl el oc z => ?_
  obtain ⟨p, rfl, hp, _⟩ := q2 ob
  by_cases hil : i = l
  · subst hil
    have hlt : i < r2.length := by
      have := (List.getElem?_eq_some_iff.mp el).1
      rwa [List.length_set] at this
    rw [List.getElem?_set_self hlt] at el
    have el := Option.some.inj (Option.some.inj el)
    subst el
    rw [List.getElem?_set_self (by rw [← s2.len]; exact hlt)] at z
    have z := Option.some.inj (Option.some.inj z)
    subst z
    obtain ⟨_, q3⟩ := toSlot_rb (G := G) (O := O) (fun p hp => s.gNone hp) h1 e1
    obtain ⟨p', hp', _, hp2⟩ := q3 oc
    cases hp'
    exact hp2 hp
  · rw [List.getElem?_set_ne hil] at el z
    obtain ⟨c', ec, oc'⟩ := b2.own el oc
    obtain ⟨q, u, hq, hu, _⟩ := s1.own ec oc'
    rw [hq] at z
    cases z
    rw [hp] at hu
    cases hu
theorem ds_par (i j : Nat) {x y : Str} {px py pt : Pos} {kt k2 pt2} (hc : X.calm = true) (hN : X.N.Nodup) (ha : DX X a f1) (hb : DX X b f2) (hij : i ≠ j := by decide) (hi : X.N[i]? = some x := by rfl) (hj : X.N[j]? = some y := by rfl) (hx : X.env.scope.names.lookup x = some .local := by rfl) (hy : X.env.scope.names.lookup y = some .local := by rfl)
    (hs1 : starEach [a, b] X.env = (false, eval a X.env) :: starEach [b] X.env := by rfl) (hs2 : starEach [b] X.env = (false, eval b X.env) :: starEach [] X.env := by rfl)
    (hw : swappedStores [.Tuple [.Name x px, .Name y py] kt pt] (.Tuple [a, b] k2 pt2) X.env = pure (some [x, y]) := by rfl)
    (hs : swapsWithSole [.Tuple [.Name x px, .Name y py] kt pt] (.Tuple [a, b] k2 pt2) pos.line X.env = pure false := by rfl) :
    DS X (.Assign [.Tuple [.Name x px, .Name y py] kt pt] (.Tuple [a, b] k2 pt2) pos) (kPar i j f1 f2) := PSw (ps_par hc hN hi hj hij hx hy (pa_cons ha (pa_cons hb pa_nil hs2) hs1) hw hs) fun D σ H ⟨G, O, r, o, s, e, q⟩ => by
  simp only [kPar, Option.bind_eq_some_iff, Option.map_eq_some_iff] at e
  obtain ⟨q1, e1, a', e2, q2, e3, b', e4, rfl⟩ := e
  exact ⟨G, O, r, q1, s, e1, fun v H1 m1 s1 b1 r1 => ⟨G, O, q1.2, q2, s1, e3, fun w H2 m2 s2 b2 r2 => ⟨v, w, rfl, q _ H2 G (s.tl (m1.trans m2)) (Ex.refl G) (par_rs hij s s1 s2 m1 m2 b1 b2 r1 r2 e2 e4)⟩⟩⟩
/-- .. where the names are cells: by way of the pair -/
theorem ds_parU (i j : Nat) {x y : Str} {px py pt : Pos} {kt k2 pt2} (hc : X.calm = true) (hN : X.N.Nodup) (ha : DX X a f1) (hb : DX X b f2) (hij : i ≠ j := by decide) (hi : X.N[i]? = some x := by rfl) (hj : X.N[j]? = some y := by rfl) (hx : Loc X.env.scope x := by first | exact Or.inl rfl | exact Or.inr rfl) (hy : Loc X.env.scope y := by first | exact Or.inl rfl | exact Or.inr rfl)
    (hfx : X.fn x = true ∨ X.env.scope.names.lookup x = some .local := by first | exact .inl rfl | exact .inr rfl) (hfy : X.fn y = true ∨ X.env.scope.names.lookup y = some .local := by first | exact .inl rfl | exact .inr rfl)
    (hs1 : starEach [a, b] X.env = (false, eval a X.env) :: starEach [b] X.env := by rfl) (hs2 : starEach [b] X.env = (false, eval b X.env) :: starEach [] X.env := by rfl)
    (hs : swapsWithSole [.Tuple [.Name x px, .Name y py] kt pt] (.Tuple [a, b] k2 pt2) pos.line X.env = pure false := by rfl) (hw : swappedStores [.Tuple [.Name x px, .Name y py] kt pt] (.Tuple [a, b] k2 pt2) X.env = pure none := by rfl)
    (h1 : (assignEach [.Tuple [.Name x px, .Name y py] kt pt] X.env).map (·.2) = [assign (.Tuple [.Name x px, .Name y py] kt pt) X.env] := by rfl) (h2 : (assignEach [Expr.Name x px, Expr.Name y py] X.env).map (·.2) = assign (.Name x px) X.env :: (assignEach [Expr.Name y py] X.env).map (·.2) := by rfl)
    (h3 : (assignEach [Expr.Name y py] X.env).map (·.2) = assign (.Name y py) X.env :: (assignEach [] X.env).map (·.2) := by rfl) (h4 : (assignEach [Expr.Name x px, Expr.Name y py] X.env).length = 2 := by rfl) (h5 : (assignEach [Expr.Name x px, Expr.Name y py] X.env).findIdx? (·.1) = none := by rfl) :
    DS X (.Assign [.Tuple [.Name x px, .Name y py] kt pt] (.Tuple [a, b] k2 pt2) pos) (kPar i j f1 f2) := PSw (ps_asg (pe_tup (pa_cons ha (pa_cons hb pa_nil hs2) hs1)) (pg_tup hc (pgs_cons (pg_name hN hi hx hfx) (pgs_cons (pg_name hN hj hy hfy) pgs_nil h3) h2) h4 h5) hs hw h1) fun D σ H ⟨G, O, r, o, s, e, q⟩ => by
  simp only [kPar, Option.bind_eq_some_iff, Option.map_eq_some_iff] at e
  obtain ⟨q1, e1, a', e2, q2, e3, b', e4, rfl⟩ := e
  refine ⟨G, O, r, q1, s, e1, fun v H1 m1 s1 b1 r1 => ⟨G, O, q1.2, q2, s1, e3, fun w H2 m2 s2 b2 r2 => ⟨by show 2 ≤ sizeLine; decide, fun p hp => ?_⟩⟩⟩
  have x3 : Ex H2 (upd H2 p (.tup [v, w])) := Ex.new hp
  refine ⟨p, [v, w], rfl, SqT.of upd_same, rfl, v, [w], rfl, w, [], rfl, rfl, ?_⟩
  exact q _ _ G (s.tl ((m1.trans m2).trans x3.mo)) (Ex.refl G) (par_rs hij s s1 (s2.ex x3) m1 (m2.trans x3.mo) b1 b2 r1 (r2.mo s1 s2 x3.mo) e2 e4)
/-! ### stores into what a name holds -/
theorem slotAt_eq {r : Rho} {i : Nat} {c : Av} (e : slotAt r i = some c) : r[i]? = some (some c) := by
  unfold slotAt at e
  split at e
  · rename_i a h
    have e := Option.some.inj e
    subst e
    exact h
  · cases e
theorem putL_own {c c' : Av} {k : Int} {v : Dt} (e : putL c k v = some c') : ownA c = true ∧ ownA c' = true ∧ ∃ xs j, ixA xs.length k = some j ∧ ((c = .l .ow xs ∧ c' = .l .ow (xs.set j v)) ∨ (c = .x xs ∧ c' = .x (xs.set j v))) := by
  unfold putL at e
  split at e
  · simp only [Option.map_eq_some_iff] at e
    obtain ⟨j, e1, rfl⟩ := e
    exact ⟨rfl, rfl, _, j, e1, .inl ⟨rfl, rfl⟩⟩
  · simp only [Option.map_eq_some_iff] at e
    obtain ⟨j, e1, rfl⟩ := e
    exact ⟨rfl, rfl, _, j, e1, .inr ⟨rfl, rfl⟩⟩
  · cases e
/-- the list that a name holds gets another content -/
theorem RS.putList {K : PySem.W.Frag} {G : Hp} {O : Option Addr} {σ : L2.St} {H : Hp} {r : Rho} (s : RS K G O σ H r) {i : Nat} {xs ys : List Dt} {b : Bool} (hi : r[i]? = some (some (if b then .x xs else .l .ow xs))) : ∃ p vs, σ[i]? = some (some (.ref p)) ∧ H p = some (.lst vs) ∧ Rps K H vs xs ∧
    ∀ ws, (∀ o, Tl H (upd H p o) → Rps K (upd H p o) ws ys) → RS K G O σ (upd H p (.lst ws)) (r.set i (some (if b then .x ys else .l .ow ys))) ∧ Tl H (upd H p (.lst ws)) := by
  obtain ⟨v, h1, h2⟩ := s.slot i _ hi
  cases b with
  | true =>
    obtain ⟨p, vs, rfl, h3, h4, h5⟩ := h2
    refine ⟨p, vs, h1, h4, h5, fun ws hw => s.put hi rfl h1 (fun _ => ⟨ws, rfl⟩) (fun n => absurd h3 n) ?_ rfl⟩
    exact ⟨p, ws, rfl, h3, upd_same, hw _ (Tl.put h4 fun xs z => nomatch z)⟩
  | false =>
    obtain ⟨p, vs, rfl, h3, h4, h5⟩ := h2
    refine ⟨p, vs, h1, h4, h5, fun ws hw => s.put hi rfl h1 (fun z => absurd h3 (s.gO p z).1) (fun _ => h3) ?_ rfl⟩
    exact ⟨p, ws, rfl, h3, upd_same, hw _ (Tl.put h4 fun xs z => nomatch z)⟩
theorem ds_putL (i : Nat) {nm : Str} {ix : SE} (he : DX X e f) (hb : DE X b ix) (hN : X.N[i]? = some nm := by rfl) (hv : Vis X.env.scope nm := by first | exact Or.inl rfl | exact Or.inr (Or.inl rfl) | exact Or.inr (Or.inr rfl)) (hd : (nm == ("__debug__" : Str)) = false := by decide) (hcd : (nm == ("__classdict__" : Str)) = false := by decide)
    (hss : swapsWithSole [.Subscript (.Name nm p) b p2] e pos.line X.env = pure false := by rfl) (hw : swappedStores [.Subscript (.Name nm p) b p2] e X.env = pure none := by rfl)
    (h1 : (assignEach [.Subscript (.Name nm p) b p2] X.env).map (·.2) = [assign (.Subscript (.Name nm p) b p2) X.env] := by rfl)
    (ha : ∀ v, assign (.Subscript (.Name nm p) b p2) X.env v = (do
      let ov ← holding [v] (eval (.Name nm p) X.env)
      let iv ← holding [v, ov] (eval b X.env)
      standAt p2
      holding [v, ov, iv] (setItem ov iv v)
      release [v, ov, iv] []) := by intro _; rfl) : DS X (.Assign [.Subscript (.Name nm p) b p2] e pos) (kPutL i ix f) := PSw (ps_asg he (pg_sub (pe_var hN hv hd hcd) hb set_list ha) hss hw h1) fun D σ H ⟨G, O, r, o, s, e, q⟩ => by
  simp only [kPutL, Option.bind_eq_some_iff, Option.map_eq_some_iff] at e
  obtain ⟨q1, e1, d, e2, k, ⟨ka, e3, e3'⟩, c, e4, c', e5, rfl⟩ := e
  refine ⟨G, O, r, q1, s, e1, fun v H1 m1 s1 b1 r1 => ?_⟩
  have e4 := slotAt_eq e4
  obtain ⟨o1, o2, xs, j, hj, hc⟩ := putL_own e5
  have go : ∀ b : Bool, c = (if b then .x xs else .l .ow xs) → c' = (if b then .x (xs.set j d) else .l .ow (xs.set j d)) → gSub (tVar i) (tD X.K ix) rSetL v σ H1 D.nx := by
    rintro b rfl rfl
    obtain ⟨p, vs, w1, w2, w3, w4⟩ := s1.putList (ys := xs.set j d) e4
    refine ⟨.ref p, w1, G, O, q1.2, ka, s1, e3, fun kv H2 x2 r2 => ?_⟩
    obtain ⟨p', vs', w1', w2', w3', w4'⟩ := (s1.ex x2).putList (ys := xs.set j d) e4
    rw [w1] at w1'
    cases w1'
    refine ⟨p, vs', k, j, rfl, r2.vint e3', w2', by rw [w3'.length]; exact hj, ?_⟩
    obtain ⟨t1, t2⟩ := w4' (vs'.set j v) fun o tl => Rps.set (((r1.dat e2).mono x2.tl).mono tl) j (w3'.mono tl)
    exact q σ _ G (((s.tl m1).trans x2.tl).trans t2) (Ex.refl G) t1
  rcases hc with ⟨h1, h2⟩ | ⟨h1, h2⟩
  · exact go false h1 h2
  · exact go true h1 h2
theorem ds_putM (i : Nat) {nm : Str} {ix : SE} (hu : X.A.units + 1 < cLine) (he : DX X e f) (hb : DE X b ix) (hN : X.N[i]? = some nm := by rfl) (hv : Vis X.env.scope nm := by first | exact Or.inl rfl | exact Or.inr (Or.inl rfl) | exact Or.inr (Or.inr rfl)) (hd : (nm == ("__debug__" : Str)) = false := by decide) (hcd : (nm == ("__classdict__" : Str)) = false := by decide)
    (hs : swapsWith e (some (.Subscript (.Name nm p) b p2)) pos.line X.env = pure false := by rfl) : DS X (.Assign [.Subscript (.Name nm p) b p2] e pos) (kPutM i ix f) := PSw (ps_dput hu (pe_var hN hv hd hcd) hb he hs) fun D σ H ⟨G, O, r, o, s, e, q⟩ => by
  simp only [kPutM, Option.bind_eq_some_iff] at e
  obtain ⟨q1, e1, n, e2, k, ⟨ka, e3, e3'⟩, e4⟩ := e
  split at e4
  · rename_i i1 j1 kvs hr
    split at e4
    · rename_i hz
      have e4 := Option.some.inj e4
      subst e4
      refine ⟨G, O, r, q1, s, e1, fun v H1 m1 s1 b1 r1 => ?_⟩
      obtain ⟨w, h1, p, rfl, h3, h4⟩ := s1.slot i _ hr
      refine ⟨.ref p, h1, G, O, q1.2, ka, s1, e3, fun kv H2 x2 r2 => ?_⟩
      obtain ⟨b', rfl, hb'⟩ := keyAt (r2.vdat e3')
      have h4' := x2 _ _ h4
      have hp := DPut.t (v := v) h4' hb' (by rw [cvM_length]; exact small_lt hz)
      rw [r1.int e2, mPut_put (i1, j1)] at hp
      refine ⟨p, _, rfl, by rw [r1.int e2]; exact hp, ?_⟩
      obtain ⟨t1, t2⟩ := (s1.ex x2).put (a' := .m .ow (mPut kvs (i1, j1) n)) (o := .dT (cvM (mPut kvs (i1, j1) n))) hr rfl h1 (fun z => absurd h3 (s1.gO p z).1) (fun _ => h3) ⟨p, rfl, h3, upd_same⟩ rfl
      exact q σ _ G (((s.tl m1).trans x2.tl).trans t2) (Ex.refl G) t1
    · cases e4
  · cases e4
/-- a list's item, by values -/
def tGetL : V → V → Hp → VK → Prop := fun o i H Q => ∃ p xs k j x, o = .ref p ∧ i = .int k ∧ H p = some (.lst xs) ∧ ixN xs.length k = some j ∧ xs[j]? = some x ∧ Q x H
theorem get_list : PGet X tGetL := by
  intro pins s σ H o i ov iv Q I ro ri h
  obtain ⟨p, xs, k, j, x, rfl, rfl, hp, hj, hx, q⟩ := h
  cases ro
  obtain ⟨t, rfl⟩ := ri
  obtain ⟨its, r, pl, hz⟩ := I.list (SqL.of hp)
  obtain ⟨h1, h2, h3, h4⟩ := ixN_seq hj
  obtain ⟨w, ew, rw'⟩ := r.get hx
  have hl := r.length
  have hn := line63
  by_cases h0 : 0 ≤ k
  · have hk : k.toNat = j := by
      rw [seqIndex_of h0 h4] at h1
      exact Option.some.inj h1
    exact wpAny_getItem_list pl.isList h0 (by omega) (by rw [hk]; simpa using ew) ⟨x, H, I, rw', q⟩
  · have hk : (k + (its.toArray.size : Int)).toNat = j := by
      rw [seqIndex_neg (by omega) h3] at h1
      rw [List.size_toArray, ← hl]
      exact Option.some.inj h1
    exact wpAny_getItem_list_neg pl.isList (by omega) (by rw [List.size_toArray] <;> omega) (by omega) (by rw [hk]; simpa using ew) ⟨x, H, I, rw', q⟩
theorem ds_aug (i : Nat) {nm : Str} {ix ee : SE} (hb : DE X b ix) (he : DE X e ee) (hN : X.N[i]? = some nm := by rfl) (hv : Vis X.env.scope nm := by first | exact Or.inl rfl | exact Or.inr (Or.inl rfl) | exact Or.inr (Or.inr rfl)) (hd : (nm == ("__debug__" : Str)) = false := by decide) (hcd : (nm == ("__classdict__" : Str)) = false := by decide)
    (ha : ∀ ov iv new, augStore b ov iv new = (do holding [new, ov, iv] (setItem ov iv new); release [new, ov, iv] []; pure .next) := by intros; rfl) : DS X (.AugAssign (.Subscript (.Name nm p) b p2) .Add e pos) (kAug i ix ee) := PSw (ps_augS (pe_var hN hv hd hcd) hb get_list he ip_add set_list ha) fun D σ H ⟨G, O, r, o, s, e, q⟩ => by
  simp only [kAug, Option.bind_eq_some_iff] at e
  obtain ⟨k, ⟨ka, e1, e1'⟩, e2⟩ := e
  split at e2
  · rename_i xs hr
    simp only [Option.bind_eq_some_iff] at e2
    obtain ⟨j, e3, old, e4, e5⟩ := e2
    split at e5
    · rename_i n
      simp only [Option.bind_eq_some_iff] at e5
      obtain ⟨d, ⟨da, e6, e6'⟩, e7⟩ := e5
      have e7 := Option.some.inj e7
      subst e7
      obtain ⟨p, vs, w1, w2, w3, w4⟩ := s.putList (b := false) (ys := xs.set j (.int (n + d))) hr
      refine ⟨.ref p, w1, G, O, r, ka, s, e1, fun kv H1 x1 r1 => ?_⟩
      obtain ⟨x, hx, hxr⟩ := (w3.mono x1.tl).get e4
      cases hxr
      refine ⟨p, vs, k, j, .int n, rfl, r1.vint e1', x1 _ _ w2, by rw [w3.length]; exact e3, hx, G, O, r, da, s.ex x1, e6, fun dv H2 x2 r2 => ?_⟩
      refine ⟨n, d, rfl, r2.vint e6', p, vs, k, j, rfl, r1.vint e1', x2 _ _ (x1 _ _ w2), by rw [w3.length]; exact e3, ?_⟩
      obtain ⟨p', vs', w1', w2', w3', w4'⟩ := ((s.ex x1).ex x2).putList (b := false) (ys := xs.set j (.int (n + d))) hr
      rw [w1] at w1'
      cases w1'
      have ev : vs' = vs := by
        have := (x2 _ _ (x1 _ _ w2)).symm.trans w2'
        cases this
        rfl
      subst ev
      obtain ⟨t1, t2⟩ := w4' (vs'.set j (.int (n + d))) fun o tl => Rps.set (.int _) j (w3'.mono tl)
      exact q σ _ G ((x1.trans x2).tl.trans t2) (Ex.refl G) t1
    · cases e5
  · cases e2
theorem owAt_eq {r : Rho} {i : Nat} {xs : List Dt} (e : owAt r i = some xs) : r[i]? = some (some (.l .ow xs)) := by
  unfold owAt at e
  split at e
  · rename_i a h
    have e := Option.some.inj e
    subst e
    exact h
  · cases e
theorem ds_app (i : Nat) {nm : Str} {apos : Pos} (he : DX X e f) (hN : X.N[i]? = some nm := by rfl) (hv : Vis X.env.scope nm := by first | exact Or.inl rfl | exact Or.inr (Or.inl rfl) | exact Or.inr (Or.inr rfl)) (hd : (nm == ("__debug__" : Str)) = false := by decide) (hcd : (nm == ("__classdict__" : Str)) = false := by decide)
    (hs1 : starEach [e] X.env = (false, eval e X.env) :: starEach [] X.env := by rfl) (hbase : attributeBase (.Name nm p) "append" X.env (eval (.Name nm p) X.env) = eval (.Name nm p) X.env := by rfl)
    (hfew : ((backTo p2 (starEach [e] X.env)).all (fun x => !x.1) && (backToKw p2 (keywordEach [] X.env)).all (fun x => x.1.isSome) && decide (([e] : List Expr).length + ([] : List Keyword).length + (if ([] : List Keyword).isEmpty then 0 else 1) < 30)) = true := by rfl)
    (hline : (apos.endLine == p2.line) = true := by rfl) (hplain : (backTo p2 (starEach ([] : List Expr) X.env)).any (·.1) = false := by rfl)
    (hs : swapsWith (.Call (.Attribute (.Name nm p) "append" apos) [e] [] p2) none pos.line X.env = pure false := by rfl) : DS X (.Expr (.Call (.Attribute (.Name nm p) "append" apos) [e] [] p2) pos) (kApp i f) :=
  PSw (ps_expr (pe_bm PySem.F.plainAttrs_list PySem.F.slot_list_append PySem.F.type_list_append mt_append (pe_var hN hv hd hcd) (pa_cons he pa_nil hs1) hbase hfew hline hs1 hplain) hs) fun D σ H ⟨G, O, r, o, s, e, q⟩ => by
    simp only [kApp, Option.bind_eq_some_iff] at e
    obtain ⟨xs0, h0, q1, e1, d, e2, xs, h1, e3⟩ := e
    have h0 := owAt_eq h0
    have h1 := owAt_eq h1
    split at e3
    · rename_i hz
      have e3 := Option.some.inj e3
      subst e3
      obtain ⟨p, vs, w1, w2, w3, _⟩ := s.putList (b := false) (ys := xs0) h0
      refine ⟨.ref p, w1, .inl ⟨rfl, vs, SqL.of w2⟩, G, O, r, q1, s, e1, fun v H1 m1 s1 b1 r1 => ?_⟩
      obtain ⟨p', vs', w1', w2', w3', w4'⟩ := s1.putList (b := false) (ys := xs ++ [d]) h1
      rw [w1] at w1'
      cases w1'
      refine ⟨p, vs', v, rfl, rfl, w2', by rw [w3'.length]; exact small_lt hz, ?_⟩
      obtain ⟨t1, t2⟩ := w4' (vs' ++ [v]) fun o tl => (w3'.mono tl).append (.cons ((r1.dat e2).mono tl) .nil)
      exact q σ _ G ((s.tl m1).trans t2) (Ex.refl G) t1
    · cases e3
theorem ds_expr {fe : SE} (he : DE X e fe) (hs : swapsWith e none pos.line X.env = pure false := by rfl) : DS X (.Expr e pos) (kExpr fe) := PSw (ps_expr he hs) fun D σ H ⟨G, O, r, o, s, e, q⟩ => by
  simp only [kExpr, Option.map_eq_some_iff] at e
  obtain ⟨a, e1, rfl⟩ := e
  exact ⟨G, O, r, a, s, e1, fun v H1 x1 r1 => q σ H1 G x1.tl (Ex.refl G) (s.ex x1)⟩
theorem ds_if {t : SXB} {sa sb : List Stmt} (hc : DXB X c t) (ha : DSs X sa g1) (hb : DSs X sb g2) : DS X (.If c sa sb pos) (kIf t g1 g2) := PSw (ps_if hc ha hb) fun D σ H ⟨G, O, r, o, s, e, q⟩ => by
  simp only [kIf, Option.bind_eq_some_iff] at e
  obtain ⟨q1, e1, e2⟩ := e
  refine ⟨G, O, r, q1, s, e1, fun H1 m1 s1 b1 => ?_⟩
  obtain ⟨bb, r1⟩ := q1
  have fin : ∀ {gg : SS}, gg r1 = some o → tS X.K gg D σ H1 := fun {gg} e => by
    refine ⟨G, O, r1, o, s1, e, ?_⟩
    cases o with
    | nx r2 => exact fun σ2 H2 G2 t2 x2 s2 => q σ2 H2 G2 ((s.tl m1).trans t2) x2 s2
    | rt r2 v => exact fun v2 σ2 H2 G2 t2 x2 s2 h2 => q v2 σ2 H2 G2 ((s.tl m1).trans t2) x2 s2 h2
  cases bb with
  | true => exact fin e2
  | false => exact fin e2
theorem toRet_rf {K : PySem.W.Frag} {G : Hp} {O : Option Addr} {H H' : Hp} {v : V} {a b : Av} (hG : ∀ p, H p = none → G p = none) (h : RR K G O H H' v a) (e : toRet a = some b) : RF K G H' v b := by
  unfold toRet at e
  split at e
  · have e := Option.some.inj e
    subst e
    exact h
  · have e := Option.some.inj e
    subst e
    obtain ⟨p, xs, h1, h2, h3⟩ := h
    exact ⟨p, xs, h1, hG p h2, h3⟩
  · have e := Option.some.inj e
    subst e
    exact h
  · have e := Option.some.inj e
    subst e
    obtain ⟨p, h1, h2, h3⟩ := h
    exact ⟨p, h1, hG p h2, h3⟩
  · have e := Option.some.inj e
    subst e
    exact h
  · cases e
theorem ds_ret {fe : SE} (he : DE X e fe) : DS X (.Return (some e) pos) (kRet fe) := PSw (ps_ret he) fun D σ H ⟨G, O, r, o, s, e, q⟩ => by
  simp only [kRet, Option.map_eq_some_iff, Option.bind_eq_some_iff] at e
  obtain ⟨b, ⟨a, e1, e2⟩, rfl⟩ := e
  exact ⟨G, O, r, a, s, e1, fun v H1 x1 r1 => q v σ H1 G x1.tl (Ex.refl G) (s.ex x1) (toRet_rf (fun p hp => s.gNone hp) r1 e2)⟩
theorem ds_retX (he : DX X e f) : DS X (.Return (some e) pos) (kRetX f) := PSw (ps_ret he) fun D σ H ⟨G, O, r, o, s, e, q⟩ => by
  simp only [kRetX, Option.map_eq_some_iff] at e
  obtain ⟨q1, e1, rfl⟩ := e
  refine ⟨G, O, r, q1, s, e1, fun v H1 m1 s1 b1 r1 => q v σ H1 G (s.tl m1) (Ex.refl G) s1 ?_⟩
  exact RF.from (fun p hp => s.gNone hp) r1
/-! ### for -/
/-- lists that names own become read only -/
theorem RS.frz {K : PySem.W.Frag} {O : Option Addr} {σ : L2.St} {H : Hp} : ∀ (is : List Nat) {G : Hp} {r : Rho}, RS K G O σ H r → ∃ G', Ex G G' ∧ RS K G' O σ H (S67.frz r is)
  | [], G, r, s => ⟨G, Ex.refl G, s⟩
  | i :: is, G, r, s => by
    unfold S67.frz
    split
    · rename_i ds hr
      obtain ⟨v, h1, p, xs, rfl, h2, h3, h4⟩ := s.slot i _ hr
      have hO : O ≠ some p := fun z => (s.gO p z).1 h2
      have x1 : Ex G (upd G p (.lst xs)) := Ex.new h2
      have hil : i < r.length := (List.getElem?_eq_some_iff.mp hr).1
      have s1 : RS K (upd G p (.lst xs)) O σ H (r.set i (some (.l .ro ds))) := by
        refine ⟨by rw [List.length_set]; exact s.len, fun c u q1 q2 => ?_, fun q hq => ⟨?_, (s.gO q hq).2⟩, fun j a e => ?_, fun j k a c hjk e1 e2 o1 o2 => ?_⟩
        · by_cases hc : c = p
          · subst hc
            rw [upd_same] at q1
            cases q1
            exact h3
          · rw [upd_ne hc] at q1
            exact s.ext c u q1 q2
        · by_cases hc : q = p
          · subst hc
            exact absurd hq hO
          · rw [upd_ne hc]
            exact (s.gO q hq).1
        · by_cases hj : i = j
          · subst hj
            rw [List.getElem?_set_self hil] at e
            have e := Option.some.inj (Option.some.inj e)
            subst e
            exact ⟨_, h1, p, xs, rfl, SqL.of upd_same, hO, h4⟩
          · rw [List.getElem?_set_ne hj] at e
            obtain ⟨v, q1, q2⟩ := s.slot j a e
            refine ⟨v, q1, ?_⟩
            have hne : ownA a = true → ∀ p', v = .ref p' → p' ≠ p := fun oa p' hv z => by
              subst z
              subst hv
              exact s.sep j i a _ (Ne.symm hj) e hr oa rfl (by rw [q1, h1])
            unfold RB at q2 ⊢
            split at q2
            · exact q2
            · obtain ⟨p', ys, w1, w2, w3, w4⟩ := q2
              exact ⟨p', ys, w1, x1.seqL w2, w3, w4⟩
            · obtain ⟨p', ys, w1, w2, w3, w4⟩ := q2
              exact ⟨p', ys, w1, by rw [upd_ne (hne rfl p' w1)]; exact w2, w3, w4⟩
            · obtain ⟨p', w1, w2, w3⟩ := q2
              exact ⟨p', w1, by rw [upd_ne (hne rfl p' w1)]; exact w2, w3⟩
            · exact q2
            · obtain ⟨p', w1, w2, w3⟩ := q2
              exact ⟨p', w1, x1 _ _ w2, w3⟩
            · exact q2
        · have key : ∀ l d, (r.set i (some (.l .ro ds)))[l]? = some (some d) → ownA d = true → r[l]? = some (some d) := fun l d e od => by
            by_cases hl : i = l
            · subst hl
              rw [List.getElem?_set_self hil] at e
              have e := Option.some.inj (Option.some.inj e)
              subst e
              cases od
            · rw [List.getElem?_set_ne hl] at e
              exact e
          exact s.sep j k a c hjk (key j a e1 o1) (key k c e2 o2) o1 o2
      obtain ⟨G', x2, s2⟩ := s1.frz is
      exact ⟨G', x1.trans x2, s2⟩
    · exact s.frz is
theorem ds_for (fz : List Nat) {tg iter : Expr} {body : List Stmt} {vs : List Nat} {fi : SI} {gg : SG} (hp : PassesOwn (model X.prog X.w) X.A X.env X.xe) (hc : X.calm = true) (hi : DI X tg iter fi) (hg : DG X vs tg gg) (hb : DSs X body g)
    (hs : ∀ x, foldedSetIterable iter X.env x = pure x := by intro _; rfl) : DS X (.For tg iter body [] pos) (kFor fz fi gg g) := PSw (ps_for hp hc hi hg hb hs) fun D σ H ⟨G, O, r, o, s, e, q⟩ => by
  simp only [kFor, Option.bind_eq_some_iff] at e
  obtain ⟨q1, e1, e2⟩ := e
  split at e2
  · rename_i hfix
    obtain ⟨G0, x0, s0⟩ := s.frz fz
    refine ⟨G0, O, _, q1, s0, e1, fun J H1 Gd x1 ⟨Y, wk, hY⟩ gd => ?_⟩
    obtain ⟨G1, xG, sG, _, hGd⟩ := gd.fix hfix
    have xx : Ex G G1 := x0.trans xG
    refine for_it wk (fun i σ2 H2 => ∃ G2 r2, Ex G1 G2 ∧ RS X.K G2 O σ2 H2 r2 ∧ Tl H1 H2 ∧ forGo gg g (q1.2.drop i) r2 = some o) ?_ (fun i σ2 H2 hi P => ?_) (fun i x σ2 H2 H3 hi P y => ?_) fun σ2 H2 P => ?_
    · exact ⟨G1, _, Ex.refl G1, sG, Tl.refl H1, by rw [List.drop_zero]; exact e2⟩
    · obtain ⟨G2, r2, x2, s2, t2, _⟩ := P
      exact hGd H2 (s2.ext.mono x2) t2
    · obtain ⟨G2, r2, x2, s2, t2, f2⟩ := P
      have hd : q1.2[i]? = some q1.2[i] := List.getElem?_eq_getElem hi
      have gd2 := hGd H2 (s2.ext.mono x2) t2
      obtain ⟨x3, hx⟩ := hY i H2 x H3 _ t2 gd2 y hd
      rw [List.drop_eq_getElem_cons hi] at f2
      simp only [forGo, Option.bind_eq_some_iff] at f2
      obtain ⟨r3, e3, o3, e4, e5⟩ := f2
      refine ⟨G2, O, r2, _, r3, s2.ex x3, hx, e3, fun σ3 tr _ => ?_⟩
      refine ⟨G2, O, r3, o3, tr H3 (Tl.refl H3) (s2.ex x3), e4, ?_⟩
      cases o3 with
      | nx r4 => exact fun σ4 H4 G4 t4 x4 s4 => ⟨G4, r4, x2.trans x4, s4, (t2.trans x3.tl).trans t4, e5⟩
      | rt r4 v =>
        have e5 := Option.some.inj e5
        subst e5
        exact fun v4 σ4 H4 G4 t4 x4 s4 h4 => q v4 σ4 H4 G4 (((x1.tl.trans t2).trans x3.tl).trans t4) ((xx.trans x2).trans x4) s4 h4
    · obtain ⟨G2, r2, x2, s2, t2, f2⟩ := P
      rw [List.drop_length] at f2
      have f2 := Option.some.inj f2
      subst f2
      exact q σ2 H2 G2 (x1.tl.trans t2) (xx.trans x2) s2
  · cases e2
end
end S67

/-! KK: zip whose pairs are kept: dict(zip(..)), list(zip(..)); dict(pairs). -/
namespace S67
open PySem PySem.Spec PyProof.Rows L2
open PySem.Sem (wp)
section
variable {prog : Program} {w : World} {A : Around} {E : Value → Shared → Prop} {s : Shared} {z TI TO T i1 i2 : Addr} {fp1 fp2 : List Addr} {n1 n2 i : Nat} {P1 P2 : Nat → Value → Prop} {St1 St2 : Nat → Heap → Prop} {a1 a2 : Value} {f : Bool} {oT : Obj}
theorem zipD2_next_item_held {Q : Value → Shared → Prop} (S : ZipSep2 z TI TO i1 i2 fp1 fp2) (D1 : Draws prog w A i1 fp1 n1 P1 St1) (D2 : Draws prog w A i2 fp2 n2 P2 St2)
    (hz : IsZipHeld s.heap z TI TO T f) (hT : s.heap.get? T = some oT) (hTI : IsTupOf2 s.heap TI (.ref i1) (.ref i2)) (st1 : St1 i s.heap) (st2 : St2 i s.heap) (hlt1 : i < n1) (hlt2 : i < n2)
    (hQ : ∀ x1 x2 h' tk, P1 i x1 → P2 i x2 → IsZipHeld h' z TI TO T true → St1 (i + 1) h' → St2 (i + 1) h' → IsTupOf2 h' s.heap.objs.size x1 x2 → h'.objs.size = s.heap.objs.size + 1 →
      (∀ c o, c ≠ z → c ≠ i1 → c ≠ i2 → s.heap.get? c = some o → h'.get? c = some o) → Q (.ref s.heap.objs.size) { s with heap := h', toks := tk }) :
    wpAny (model prog w) A (Builtin.«zip.__next__» ⟨[.ref z], []⟩) (fun fin s' => ∃ v, fin = .done (.ret v) ∧ Q v s') E s := by
  show wpAny _ _ (field (.ref z) 2 >>= _) _ _ _
  refine wpAny_bind (wpAny_field hz rfl (x := .bool false) rfl ?_)
  show wpAny _ _ (field (.ref z) 3 >>= _) _ _ _
  refine wpAny_bind (wpAny_field hz rfl (x := .ref TI) rfl ?_)
  refine wpAny_bind (wpAny_seqItems hTI rfl ?_)
  show wpAny _ _ (Builtin.SmallTypes.ownedTupleIsFree (.ref z) >>= _) _ _ _
  refine wpAny_bind (wpAny_tupleHeld_zip hz hT fun h₁ hz₁ hs₁ => ?_)
  simp only [Bool.false_eq_true, if_false]
  refine wpAny_bind ?_
  rw [← Array.forIn_toList]
  simp only [List.forIn_cons, List.forIn_nil]
  refine wpAny_bind (wpAny_bind (wpAny_holding ?_))
  show wpAny _ _ (Builtin.SmallTypes.nextOf (.ref i1) >>= _) _ _ _
  refine wpAny_bind (D1.item i { s with heap := h₁ } _ _ hlt1 (D1.over st1 hs₁ S.zf1) fun x1 h₂ tk2 p1 st1₂ hs₂ => wpAny_pure ?_)
  refine wpAny_pure ?_
  refine wpAny_bind (wpAny_bind (wpAny_holding ?_))
  show wpAny _ _ (Builtin.SmallTypes.nextOf (.ref i2) >>= _) _ _ _
  refine wpAny_bind (D2.item i { s with heap := h₂, toks := tk2 } _ _ hlt2 (D2.over (D2.over st2 hs₁ S.zf2) hs₂ S.sep1_2) fun x2 h₃ tk3 p2 st2₃ hs₃ => wpAny_pure ?_)
  refine wpAny_pure (wpAny_pure ?_)
  show wpAny _ _ (newTuple [x1, x2] >>= _) _ _ _
  refine wpAny_bind (wpAny_newTuple ?_)
  have hsz : h₃.objs.size = s.heap.objs.size := by rw [hs₃.1, hs₂.1, hs₁.1]
  have hz₃ : IsZipHeld h₃ z TI TO T true := hs₃.extBut _ _ S.zi2 (hs₂.extBut _ _ S.zi1 hz₁)
  have hk : ∀ c o, c ≠ z → c ≠ i1 → c ≠ i2 → s.heap.get? c = some o → h₃.get? c = some o := fun c o c1 c2 c3 e => hs₃.extBut _ _ c3 (hs₂.extBut _ _ c2 (hs₁.extBut _ _ c1 e))
  have st1₃ : St1 (i + 1) h₃ := D1.over st1₂ hs₃ S.sep2_1
  refine wpAny_pure ⟨_, rfl, ?_⟩
  show Q (.ref h₃.objs.size) _
  have hp : IsTupOf2 (h₃.push { cls := .type "tuple", data := .seq #[x1, x2] }) h₃.objs.size x1 x2 := Heap.get?_push_size _ rfl
  have hz4 : (h₃.push { cls := .type "tuple", data := .seq #[x1, x2] }).objs.size = h₃.objs.size + 1 := Heap.size_push ..
  rw [hsz] at hp hz4 ⊢
  exact hQ _ _ _ _ p1 p2 (Heap.get?_push_of_some _ hz₃) (D1.frame _ _ _ st1₃ fun b _ o e => Heap.get?_push_of_some _ e) (D2.frame _ _ _ st2₃ fun b _ o e => Heap.get?_push_of_some _ e) hp hz4 fun c o c1 c2 c3 e => Heap.get?_push_of_some _ (hk c o c1 c2 c3 e)
theorem zipD2_next_end_held {Q : Fin → Shared → Prop} (S : ZipSep2 z TI TO i1 i2 fp1 fp2) (D1 : Draws prog w A i1 fp1 n1 P1 St1) (D2 : Draws prog w A i2 fp2 n2 P2 St2)
    (hz : IsZipHeld s.heap z TI TO T f) (hT : s.heap.get? T = some oT) (hTI : IsTupOf2 s.heap TI (.ref i1) (.ref i2)) (st1 : St1 i s.heap) (st2 : St2 i s.heap) (hle1 : i ≤ n1) (hle2 : i ≤ n2) (hend : i = n1 ∨ i = n2)
    (hE : ∀ h' tk e, (∀ c o, c ≠ z → c ≠ i1 → c ≠ i2 → s.heap.get? c = some o → h'.get? c = some o) → (∃ o, h'.get? e = some o ∧ o.cls = .type "StopIteration") → E (.ref e) { s with heap := h', toks := tk }) :
    wpAny (model prog w) A (Builtin.«zip.__next__» ⟨[.ref z], []⟩) Q E s := by
  show wpAny _ _ (field (.ref z) 2 >>= _) _ _ _
  refine wpAny_bind (wpAny_field hz rfl (x := .bool false) rfl ?_)
  show wpAny _ _ (field (.ref z) 3 >>= _) _ _ _
  refine wpAny_bind (wpAny_field hz rfl (x := .ref TI) rfl ?_)
  refine wpAny_bind (wpAny_seqItems hTI rfl ?_)
  show wpAny _ _ (Builtin.SmallTypes.ownedTupleIsFree (.ref z) >>= _) _ _ _
  refine wpAny_bind (wpAny_tupleHeld_zip hz hT fun h₁ hz₁ hs₁ => ?_)
  simp only [Bool.false_eq_true, if_false]
  refine wpAny_bind ?_
  rw [← Array.forIn_toList]
  simp only [List.forIn_cons, List.forIn_nil]
  refine wpAny_bind (wpAny_bind (wpAny_holding ?_))
  show wpAny _ _ (Builtin.SmallTypes.nextOf (.ref i1) >>= _) _ _ _
  by_cases h1 : i = n1
  · subst h1
    refine wpAny_bind (D1.done { s with heap := h₁ } _ _ (D1.over st1 hs₁ S.zf1) fun h₂ e hs₂ he => ?_)
    exact hE h₂ _ e (fun c o c1 c2 _ x => hs₂ _ _ c2 (hs₁.extBut _ _ c1 x)) he
  · have h2 : i = n2 := hend.resolve_left h1
    refine wpAny_bind (D1.item i { s with heap := h₁ } _ _ (by omega) (D1.over st1 hs₁ S.zf1) fun x1 h₂ tk2 p1 st1₂ hs₂ => wpAny_pure ?_)
    refine wpAny_pure ?_
    refine wpAny_bind (wpAny_bind (wpAny_holding ?_))
    show wpAny _ _ (Builtin.SmallTypes.nextOf (.ref i2) >>= _) _ _ _
    have st2' := D2.over (D2.over st2 hs₁ S.zf2) hs₂ S.sep1_2
    rw [h2] at st2'
    refine wpAny_bind (D2.done { s with heap := h₂, toks := tk2 } _ _ st2' fun h₃ e hs₃ he => ?_)
    exact hE h₃ _ e (fun c o c1 c2 c3 x => hs₃ _ _ c3 (hs₂.extBut _ _ c2 (hs₁.extBut _ _ c1 x))) he
/-- a zip's state, its pair out or not; d stands apart -/
def ZSt (z TI TO i1 i2 d : Addr) (St1 St2 : Nat → Heap → Prop) (i : Nat) (h : Heap) : Prop := IsTupOf2 h TI (.ref i1) (.ref i2) ∧ St1 i h ∧ St2 i h ∧ (∃ o, h.get? TO = some o) ∧
  ((IsZip h z TI TO .none ∧ ∃ a b, IsTupOf2 h TO a b) ∨ ∃ T f oT, IsZipHeld h z TI TO T f ∧ h.get? T = some oT ∧ T ≠ z ∧ T ≠ TO ∧ T ≠ i1 ∧ T ≠ i2 ∧ T ≠ d)
theorem zst_item {d : Addr} {Q : Option Value → Shared → Prop} (S : ZipSep2 z TI TO i1 i2 fp1 fp2) (D1 : Draws prog w A.in1 i1 fp1 n1 P1 St1) (D2 : Draws prog w A.in1 i2 fp2 n2 P2 St2) (st : ZSt z TI TO i1 i2 d St1 St2 i s.heap) (hd : d < s.heap.objs.size) (hlt1 : i < n1) (hlt2 : i < n2)
    (hQ : ∀ x1 x2 h' tk, P1 i x1 → P2 i x2 → ZSt z TI TO i1 i2 d St1 St2 (i + 1) h' → IsTupOf2 h' s.heap.objs.size x1 x2 → h'.objs.size = s.heap.objs.size + 1 →
      (∀ c o, c ≠ z → c ≠ TO → c ≠ i1 → c ≠ i2 → s.heap.get? c = some o → h'.get? c = some o) → Q (some (.ref s.heap.objs.size)) { s with heap := h', toks := tk }) : wpAny (model prog w) A (pyNext (.ref z)) Q E s := by
  obtain ⟨hTI, st1, st2, ⟨oO, hO⟩, hz⟩ := st
  have lt : ∀ {c o}, s.heap.get? c = some o → s.heap.objs.size ≠ c := fun e => Nat.ne_of_gt (Heap.lt_size e)
  have l1 : s.heap.objs.size ≠ i1 := by obtain ⟨_, e⟩ := D1.live _ _ st1; exact lt e
  have l2 : s.heap.objs.size ≠ i2 := by obtain ⟨_, e⟩ := D2.live _ _ st2; exact lt e
  rcases hz with ⟨hz, a, b, hTO⟩ | ⟨T, f, oT, hz, hT, r1, r2, r3, r4, r5⟩
  · refine wpAny_pyNext_zipD2_item S D1 D2 hz hTI hTO st1 st2 hlt1 hlt2 fun x1 x2 h' tk y1 y2 b1 b2 d1 d2 b5 b6 hk => ?_
    exact hQ x1 x2 h' tk y1 y2 ⟨hk _ _ S.TIz S.TITO S.TIi1 S.TIi2 hTI, d1, d2, ⟨_, b2⟩, .inr ⟨s.heap.objs.size, false, _, b1, b5, lt hz, lt hO, l1, l2, Nat.ne_of_gt hd⟩⟩ b5 b6 hk
  · have hty : s.TypeIs (.ref z) "zip" := ⟨_, hz, rfl⟩
    unfold pyNext
    refine wpAny_bind (wpAny_attempt (wpAny_callSpecial?_slot (name := Str.ofString "__next__") hty F.slot_zip_next
      (wpAny_call_entry F.slot_zip_next hty F.entry_zip_next
        (zipD2_next_item_held S D1 D2 hz hT hTI st1 st2 hlt1 hlt2 fun x1 x2 h' tk y1 y2 b1 d1 d2 b5 b6 hk => wpAny_pure ?_) (F.args_zip_next_1 _))))
    exact hQ x1 x2 h' tk y1 y2 ⟨hk _ _ S.TIz S.TIi1 S.TIi2 hTI, d1, d2, ⟨_, hk _ _ S.TOz S.Ti1 S.Ti2 hO⟩, .inr ⟨T, true, oT, b1, hk _ _ r1 r3 r4 hT, r1, r2, r3, r4, r5⟩⟩ b5 b6 fun c o c1 _ c3 c4 e => hk c o c1 c3 c4 e
theorem zst_end {d : Addr} {Q : Option Value → Shared → Prop} (S : ZipSep2 z TI TO i1 i2 fp1 fp2) (D1 : Draws prog w A.in1 i1 fp1 n1 P1 St1) (D2 : Draws prog w A.in1 i2 fp2 n2 P2 St2) (st : ZSt z TI TO i1 i2 d St1 St2 i s.heap) (hle1 : i ≤ n1) (hle2 : i ≤ n2) (hend : i = n1 ∨ i = n2)
    (hQ : ∀ h' tk, (∀ c o, c ≠ z → c ≠ TO → c ≠ i1 → c ≠ i2 → s.heap.get? c = some o → h'.get? c = some o) → Q none { s with heap := h', toks := tk }) : wpAny (model prog w) A (pyNext (.ref z)) Q E s := by
  obtain ⟨hTI, st1, st2, ⟨oO, hO⟩, hz⟩ := st
  rcases hz with ⟨hz, a, b, hTO⟩ | ⟨T, f, oT, hz, hT, r1, r2, r3, r4, r5⟩
  · exact wpAny_pyNext_zipD2_end S D1 D2 hz hTI hTO st1 st2 hle1 hle2 hend hQ
  · have hty : s.TypeIs (.ref z) "zip" := ⟨_, hz, rfl⟩
    unfold pyNext
    refine wpAny_bind (wpAny_attempt (wpAny_callSpecial?_slot (name := Str.ofString "__next__") hty F.slot_zip_next
      (wpAny_call_entry F.slot_zip_next hty F.entry_zip_next (zipD2_next_end_held S D1 D2 hz hT hTI st1 st2 hle1 hle2 hend fun h' tk e hk he => ?_) (F.args_zip_next_1 _))))
    obtain ⟨o, ho, hc⟩ := he
    refine wpAny_bind (wpAny_isInstance (T := "StopIteration") (b := true) ⟨o, ho, hc⟩ isSubtype_stop ?_)
    exact wpAny_pure (hQ _ _ fun c o c1 _ c3 c4 e => hk c o c1 c3 c4 e)
theorem ZSt.frame {d : Addr} (S : ZipSep2 z TI TO i1 i2 fp1 fp2) (D1 : Draws prog w A i1 fp1 n1 P1 St1) (D2 : Draws prog w A i2 fp2 n2 P2 St2) (hdz : d ≠ z) (hdTI : d ≠ TI) (hdTO : d ≠ TO) (hd1 : d ∉ fp1) (hd2 : d ∉ fp2) {h h' : Heap} (st : ZSt z TI TO i1 i2 d St1 St2 i h) (k : ∀ b o, b ≠ d → h.get? b = some o → h'.get? b = some o) : ZSt z TI TO i1 i2 d St1 St2 i h' := by
  obtain ⟨hTI, st1, st2, ⟨oO, hO⟩, hz⟩ := st
  refine ⟨k _ _ (Ne.symm hdTI) hTI, D1.frame _ _ _ st1 fun b hb o e => k b o (fun q => hd1 (q ▸ hb)) e, D2.frame _ _ _ st2 fun b hb o e => k b o (fun q => hd2 (q ▸ hb)) e, ⟨_, k _ _ (Ne.symm hdTO) hO⟩, ?_⟩
  rcases hz with ⟨hz, a, b, hTO⟩ | ⟨T, f, oT, hz, hT, r1, r2, r3, r4, r5⟩
  · exact .inl ⟨k _ _ (Ne.symm hdz) hz, a, b, k _ _ (Ne.symm hdTO) hTO⟩
  · exact .inr ⟨T, f, oT, k _ _ (Ne.symm hdz) hz, k _ _ r5 hT, r1, r2, r3, r4, r5⟩
end
end S67

/-! KL: list(zip(..)), dict(zip(..)). -/
namespace S67
open PySem PySem.Spec PyProof.Rows L2 PySem.W
open PySem.Sem (wp)
theorem zip_no_len : typeLookup (.type "zip") "__len__" = pure none := am_miss_of_fast (by decide +kernel)
theorem zip_no_hint : typeLookup (.type "zip") (Str.ofString "__length_hint__") = pure none := am_miss_of_fast (by decide +kernel)
/-- the pairs so far: new tuples above lo -/
structure ZlG (P1 P2 : Nat → Value → Prop) (lo : Addr) (h : Heap) (as : List Addr) : Prop where
  above : ∀ a ∈ as, lo < a
  rise : as.Pairwise (· < ·)
  pairs : ∀ (j : Nat) (a : Addr), as[j]? = some a → ∃ x1 x2, P1 j x1 ∧ P2 j x2 ∧ h.get? a = some { cls := .type "tuple", data := .seq #[x1, x2] }
section
variable {prog : Program} {w : World} {A : Around} {E : Value → Shared → Prop} {s : Shared} {R : Result → Shared → Prop} {z TI TO i1 i2 S : Addr} {fp1 fp2 : List Addr} {n1 n2 : Nat} {P1 P2 : Nat → Value → Prop} {St1 St2 : Nat → Heap → Prop}
theorem ZlG.there {lo : Addr} {h : Heap} {as : List Addr} (g : ZlG P1 P2 lo h as) {a : Addr} (ha : a ∈ as) : a < h.objs.size := by
  obtain ⟨j, hj⟩ := List.mem_iff_getElem?.mp ha
  obtain ⟨_, _, _, _, e⟩ := g.pairs j a hj
  exact Heap.lt_size e
theorem zl_loop (hh : A.handled = none) (Z : ZipSep2 z TI TO i1 i2 fp1 fp2) (D1 : Draws prog w A.in1.in1 i1 fp1 n1 P1 St1) (D2 : Draws prog w A.in1.in1 i2 fp2 n2 P2 St2) (hz : z < S) (hTI : TI < S) (hTO : TO < S) (h1 : i1 < S) (h2 : i2 < S) (hf1 : S ∉ fp1) (hf2 : S ∉ fp2) (hn : min n1 n2 ≤ sizeLine) (res : Value) {h₁ : Heap}
    (hR : ∀ h' tk acc c as, (∀ b o, b ≠ S → b ≠ z → b ≠ TO → b ≠ i1 → b ≠ i2 → h₁.get? b = some o → h'.get? b = some o) → h'.get? S = some { cls := .type "list", dict := none, data := .seq acc c, slots := #[] } → as.length = min n1 n2 → ZlG P1 P2 S h' as →
      acc.toList = as.map Value.ref → R (.ok (.ret res)) { s with heap := h', toks := tk }) :
    ∀ (k i : Nat) (h : Heap) (tk c : Nat) (acc : Array Value) (as : List Addr), min n1 n2 - i = k → i ≤ min n1 n2 → ZSt z TI TO i1 i2 S St1 St2 i h → (∀ b o, b ≠ S → b ≠ z → b ≠ TO → b ≠ i1 → b ≠ i2 → h₁.get? b = some o → h.get? b = some o) →
      h.get? S = some { cls := .type "list", dict := none, data := .seq acc c, slots := #[] } → acc.toList = as.map Value.ref → as.length = i → ZlG P1 P2 S h as →
      codeAny (model prog w) A (.builtin "list.extend.loop" ⟨[.ref S, .ref z, res], []⟩) R { s with heap := h, toks := tk } := by
  intro k
  induction k with
  | zero =>
    intro i h tk c acc as hk hi hst hkeep hS hacc hal hG
    have hin : i = min n1 n2 := by omega
    refine codeAny_builtin PySem.F.entry_extend_loop ?_
    rw [Around.under_plainId PySem.F.plain_extend_loop _]
    show wpAny _ A.in1 (pyNext (.ref z) >>= _) _ _ _
    refine wpAny_bind (zst_end (s := { s with heap := h, toks := tk }) (A := A.in1) Z D1 D2 hst (by omega) (by omega) (by omega) fun h' tk' he => ?_)
    have ne : ∀ {c x : Addr}, x < S → S < c → c ≠ x := fun h1 h2 => Nat.ne_of_gt (Nat.lt_trans h1 h2)
    refine wpAny_pure (hR h' tk' acc c as (fun b o b1 b2 b3 b4 b5 e => he b o b2 b3 b4 b5 (hkeep b o b1 b2 b3 b4 b5 e)) (he S _ (Nat.ne_of_gt hz) (Nat.ne_of_gt hTO) (Nat.ne_of_gt h1) (Nat.ne_of_gt h2) hS) (by omega) ⟨hG.above, hG.rise, fun j a hj => ?_⟩ hacc)
    obtain ⟨x1, x2, y1, y2, e3⟩ := hG.pairs j a hj
    have ha := hG.above a (List.mem_of_getElem? hj)
    exact ⟨x1, x2, y1, y2, he a _ (ne hz ha) (ne hTO ha) (ne h1 ha) (ne h2 ha) e3⟩
  | succ k ih =>
    intro i h tk c acc as hk hi hst hkeep hS hacc hal hG
    have hlt : i < min n1 n2 := by omega
    have hsz : acc.size = i := by rw [← Array.length_toList, hacc, List.length_map, hal]
    refine codeAny_builtin PySem.F.entry_extend_loop ?_
    rw [Around.under_plainId PySem.F.plain_extend_loop _]
    show wpAny _ A.in1 (pyNext (.ref z) >>= _) _ _ _
    have hSl : S < h.objs.size := Heap.lt_size hS
    refine wpAny_bind (zst_item (s := { s with heap := h, toks := tk }) Z D1 D2 hst hSl (by omega) (by omega) fun x1 x2 h' tk' y1 y2 hst' ht hz' hkp => ?_)
    dsimp only at ht hz' hkp ⊢
    have ne : ∀ {c x : Addr}, x < S → S < c → c ≠ x := fun h1 h2 => Nat.ne_of_gt (Nat.lt_trans h1 h2)
    have hS' := hkp S _ (Nat.ne_of_gt hz) (Nat.ne_of_gt hTO) (Nat.ne_of_gt h1) (Nat.ne_of_gt h2) hS
    have up : ∀ b o, b ≠ S → h'.get? b = some o → (h'.update S (Obj.mapSeq (·.push (Value.ref h.objs.size)))).get? b = some o := fun b o hb e => (Heap.get?_update_other _ _ (Ne.symm hb)).trans e
    show wpAny _ A.in1 (updateSeq S (·.push (Value.ref h.objs.size)) >>= _) _ _ _
    refine wpAny_bind ?_
    refine wpAny_updateSeq hS' rfl (wpAny_pure ⟨plainId_quiet PySem.F.plain_extend_loop _, ih (i + 1) _ tk' _ (acc.push (Value.ref h.objs.size)) (as ++ [h.objs.size]) (by omega) hlt (hst'.frame Z D1 D2 (Nat.ne_of_gt hz) (Nat.ne_of_gt hTI) (Nat.ne_of_gt hTO) hf1 hf2 up)
      (fun b o b1 b2 b3 b4 b5 e => up b o b1 (hkp b o b2 b3 b4 b5 (hkeep b o b1 b2 b3 b4 b5 e))) (Heap.get?_update_self _ hS' rfl) (by rw [Array.toList_push, hacc, List.map_append]; rfl) (by rw [List.length_append, hal]; rfl) ⟨?_, ?_, ?_⟩⟩) (by rw [hsz]; omega) (by show (acc.push (Value.ref h.objs.size)).size ≤ sizeLine + 1; rw [Array.size_push, hsz]; omega)
    · intro a ha
      rcases List.mem_append.mp ha with ha | ha
      · exact hG.above a ha
      · rw [List.mem_singleton.mp ha]; exact hSl
    · refine List.pairwise_append.mpr ⟨hG.rise, List.pairwise_singleton _ _, fun a ha b hb => ?_⟩
      rw [List.mem_singleton.mp hb]
      exact hG.there ha
    · intro j b hj
      rcases Nat.lt_trichotomy j as.length with q1 | q1 | q1
      · rw [List.getElem?_append_left q1] at hj
        obtain ⟨u1, u2, w1, w2, e3⟩ := hG.pairs j b hj
        have hb := hG.above b (List.mem_of_getElem? hj)
        exact ⟨u1, u2, w1, w2, up b _ (Nat.ne_of_gt hb) (hkp b _ (ne hz hb) (ne hTO hb) (ne h1 hb) (ne h2 hb) e3)⟩
      · subst q1
        have hb : h.objs.size = b := by simpa using hj
        subst hb
        exact ⟨x1, x2, by rw [hal]; exact y1, by rw [hal]; exact y2, up _ _ (Nat.ne_of_gt hSl) ht⟩
      · have hnone : (as ++ [h.objs.size])[j]? = none := List.getElem?_eq_none (by rw [List.length_append, List.length_singleton]; omega)
        rw [hnone] at hj; cases hj
/-- list(z) of a new zip -/
theorem zl_call {Q : Value → Shared → Prop} (hh : A.handled = none) (Z : ZipSep2 z TI TO i1 i2 fp1 fp2) (D1 : ∀ A' : Around, A'.handled = none → Draws prog w A' i1 fp1 n1 P1 St1) (D2 : ∀ A' : Around, A'.handled = none → Draws prog w A' i2 fp2 n2 P2 St2) (hz0 : IsZip s.heap z TI TO .none) (hTI0 : IsTupOf2 s.heap TI (.ref i1) (.ref i2)) (hTO0 : ∃ a b, IsTupOf2 s.heap TO a b) (st1 : St1 0 s.heap) (st2 : St2 0 s.heap)
    (hlf1 : ∀ b ∈ fp1, b < s.heap.objs.size) (hlf2 : ∀ b ∈ fp2, b < s.heap.objs.size) (hn : min n1 n2 ≤ sizeLine)
    (hQ : ∀ h' tk acc c as, (∀ b o, b ≠ z → b ≠ TO → b ≠ i1 → b ≠ i2 → s.heap.get? b = some o → h'.get? b = some o) → h'.get? s.heap.objs.size = some { cls := .type "list", dict := none, data := .seq acc c, slots := #[] } → as.length = min n1 n2 → ZlG P1 P2 s.heap.objs.size h' as →
      acc.toList = as.map Value.ref → Q (.ref s.heap.objs.size) { s with heap := h', toks := tk }) : wpAny (model prog w) A (call (.type "list") [.ref z]) Q E s := by
  refine callType_codes (Q₁ := fun obj s₁ => obj = .ref s.heap.objs.size ∧ s₁ = { s with heap := s.heap.push { cls := .type "list", data := .seq #[] } }) PySem.F.called_list (PySem.F.typeCall_list_1 _) PySem.F.entry_list_init
    (code_list_new _ ⟨rfl, rfl⟩) fun obj s₁ h₁ => ?_
  obtain ⟨rfl, rfl⟩ := h₁
  have lz : z < s.heap.objs.size := Heap.lt_size hz0
  have lTI : TI < s.heap.objs.size := Heap.lt_size hTI0
  have lTO : TO < s.heap.objs.size := let ⟨_, _, e⟩ := hTO0; Heap.lt_size e
  have l1 := hlf1 _ Z.mem1
  have l2 := hlf2 _ Z.mem2
  have hS : (s.heap.push { cls := .type "list", data := .seq #[] }).get? s.heap.objs.size = some { cls := .type "list", data := .seq #[] } := Heap.get?_push_size _ rfl
  have k1 : ∀ b o, s.heap.get? b = some o → (s.heap.push { cls := .type "list", data := .seq #[] }).get? b = some o := fun b o e => Heap.get?_push_of_some _ e
  have up : ∀ {h : Heap} (g : Obj → Obj), (∀ b o, s.heap.get? b = some o → h.get? b = some o) → ∀ b o, s.heap.get? b = some o → (h.update s.heap.objs.size g).get? b = some o := fun g q b o e => (Heap.get?_update_other _ _ (Ne.symm (Nat.ne_of_lt (Heap.lt_size e)))).trans (q b o e)
  have zty : ∀ {h : Heap} {tk : Nat}, (∀ b o, s.heap.get? b = some o → h.get? b = some o) → ({ s with heap := h, toks := tk } : Shared).TypeIs (.ref z) "zip" := fun q => ⟨_, q _ _ hz0, rfl⟩
  refine ⟨⟨_, hS, rfl⟩, PySem.F.args_list_init_2 _ _, ?_⟩
  show wpAny _ _ (do let old ← Builtin.List.listItems (.ref s.heap.objs.size); Builtin.List.listUpdate (.ref s.heap.objs.size) (fun _ => #[]); letGo old.toList.reverse; Builtin.List.listExtendWith (.ref s.heap.objs.size) (.ref z) .none) _ _ _
  refine wpAny_bind ?_
  unfold Builtin.List.listItems
  refine wpAny_bind (wpAny_seqItems hS rfl (wpAny_pure ?_))
  show wpAny _ _ (updateSeq s.heap.objs.size (fun _ => #[]) >>= fun _ => letGo (#[] : Array Value).toList.reverse >>= fun _ => Builtin.List.listExtendWith (.ref s.heap.objs.size) (.ref z) .none) _ _ _
  refine wpAny_bind (wpAny_updateSeq hS rfl ?_)
  have hS₂ := Heap.get?_update_self (Obj.mapSeq (fun _ => (#[] : Array Value))) hS rfl
  have k2 := up (Obj.mapSeq (fun _ => (#[] : Array Value))) k1
  refine wpAny_bind (wpAny_letGo ?_)
  unfold Builtin.List.listExtendWith
  refine wpAny_bind (wpAny_typeOf (zty k2) ?_)
  have e1 : Builtin.List.listSameRef (.ref s.heap.objs.size) (.ref z) = false := by simp [Builtin.List.listSameRef, Nat.ne_of_gt lz]
  have e2 : (Value.type "zip" == Value.type "list") = false := by decide
  have e3 : (Value.type "zip" == Value.type "tuple") = false := by decide
  simp only [e1, e2, e3, Bool.or_false, Bool.false_eq_true, if_false]
  refine wpAny_bind (wpAny_pyIter_zip (s := { s with heap := _ }) (k2 _ _ hz0) ?_)
  refine wpAny_bind (wpAny_holding ?_)
  unfold Builtin.List.listLengthHint
  refine wpAny_bind (wpAny_specialOf (zty k2) zip_no_len ?_)
  show wpAny _ _ (specialOf (Value.ref z) (Str.ofString "__length_hint__") >>= _) _ _ _
  refine wpAny_bind (wpAny_specialOf (zty k2) zip_no_hint ?_)
  refine wpAny_pure ?_
  show wpAny _ _ (rule "list.extend.makes-room" >>= fun _ => Builtin.List.listTouch (.ref s.heap.objs.size) >>= fun _ =>
    again (.builtin "list.extend.loop" ⟨[.ref s.heap.objs.size, .ref z, .none], []⟩)) _ _ _
  refine wpAny_bind (wpAny_rule ?_)
  refine wpAny_bind ?_
  show wpAny _ _ (updateSeq s.heap.objs.size (·.push .none) >>= fun _ => updateSeq s.heap.objs.size (·.pop)) _ _ _
  refine wpAny_bind (wpAny_updateSeq hS₂ rfl ?_)
  have hS₃ := Heap.get?_update_self (Obj.mapSeq (·.push Value.none)) hS₂ rfl
  refine wpAny_updateSeq (hz := by seq_fits) hS₃ rfl ?_
  have hS₄ := Heap.get?_update_self (Obj.mapSeq (·.pop)) hS₃ rfl
  have k4 := up (Obj.mapSeq (·.pop)) (up (Obj.mapSeq (·.push Value.none)) k2)
  refine wpAny_pure ⟨plainId_quiet PySem.F.plain_extend_loop _, ?_⟩
  have hTO4 := hTO0
  obtain ⟨a, b, hTO4⟩ := hTO4
  refine zl_loop (s := s) (h₁ := s.heap) (A := A.in1) hh Z (D1 _ hh) (D2 _ hh) lz lTI lTO l1 l2 (fun hm => Nat.lt_irrefl _ (hlf1 _ hm)) (fun hm => Nat.lt_irrefl _ (hlf2 _ hm)) hn .none (fun h' tk acc c as hk hS' hl hG hacc => ⟨rfl, ?_⟩) (min n1 n2) 0 _ s.toks _ #[] [] (Nat.sub_zero _) (Nat.zero_le _)
    ⟨k4 _ _ hTI0, (D1 A hh).frame _ _ _ st1 fun b _ o e => k4 b o e, (D2 A hh).frame _ _ _ st2 fun b _ o e => k4 b o e, ⟨_, k4 _ _ hTO4⟩, .inl ⟨k4 _ _ hz0, a, b, k4 _ _ hTO4⟩⟩ (fun b o _ _ _ _ _ e => k4 b o e) hS₄ rfl rfl ⟨(fun _ ha => nomatch ha), List.Pairwise.nil, fun j a hj => by simp at hj⟩
  exact hQ h' tk acc c as (fun b o b2 b3 b4 b5 e => hk b o (Nat.ne_of_lt (Heap.lt_size e)) b2 b3 b4 b5 e) hS' hl hG hacc
/-- dict(z) of a new zip -/
theorem PairArg.zipD (Z : ZipSep2 z TI TO i1 i2 fp1 fp2) (D1 : ∀ A' : Around, A'.handled = none → Draws prog w A' i1 fp1 n1 P1 St1) (D2 : ∀ A' : Around, A'.handled = none → Draws prog w A' i2 fp2 n2 P2 St2) (hl1 : ∀ h, St1 0 h → ∀ b ∈ fp1, ∃ o, h.get? b = some o) (hl2 : ∀ h, St2 0 h → ∀ b ∈ fp2, ∃ o, h.get? b = some o) :
    PairArg prog w "zip" z (z :: TI :: TO :: (fp1 ++ fp2)) [z, TO, i1, i2] (min n1 n2) (fun i k v => P1 i k ∧ P2 i v)
      (fun h => IsZip h z TI TO .none ∧ IsTupOf2 h TI (.ref i1) (.ref i2) ∧ (∃ a b, IsTupOf2 h TO a b) ∧ St1 0 h ∧ St2 0 h) where
  type := fun s ok => ⟨_, ok.1, rfl⟩
  notDict := by decide
  keep := fun h h' ok hk => by
    obtain ⟨hz, hTI, ⟨a, b, hTO⟩, h1, h2⟩ := ok
    exact ⟨hk _ _ hz, hk _ _ hTI, ⟨a, b, hk _ _ hTO⟩, (D1 { handled := none } rfl).frame _ _ _ h1 fun b _ o e => hk b o e, (D2 { handled := none } rfl).frame _ _ _ h2 fun b _ o e => hk b o e⟩
  there := fun h ok b hb => by
    obtain ⟨hz, hTI, ⟨a, c, hTO⟩, h1, h2⟩ := ok
    rcases List.mem_cons.mp hb with rfl | hb
    · exact ⟨_, hz⟩
    rcases List.mem_cons.mp hb with rfl | hb
    · exact ⟨_, hTI⟩
    rcases List.mem_cons.mp hb with rfl | hb
    · exact ⟨_, hTO⟩
    rcases List.mem_append.mp hb with hb | hb
    · exact hl1 h h1 b hb
    · exact hl2 h h2 b hb
  sub := fun b hb => by
    simp only [List.mem_cons, List.not_mem_nil, or_false] at hb
    rcases hb with rfl | rfl | rfl | rfl
    · simp
    · simp
    · exact List.mem_cons_of_mem _ (List.mem_cons_of_mem _ (List.mem_cons_of_mem _ (List.mem_append_left _ Z.mem1)))
    · exact List.mem_cons_of_mem _ (List.mem_cons_of_mem _ (List.mem_cons_of_mem _ (List.mem_append_right _ Z.mem2)))
  noKeys := fun A s Q E hA ok h => getAttrOr_miss_zip ok.1 rfl rfl rfl zip_no_keys (by decide +kernel) hA h
  iter := fun A s d Q E hA ok hd hdf h => by
    obtain ⟨hz, hTI, ⟨a, b, hTO⟩, h1, h2⟩ := ok
    simp only [List.mem_cons, List.mem_append, not_or] at hdf
    obtain ⟨dz, dTI, dTO, d1, d2⟩ := hdf
    refine wpAny_pyIter_zip hz (h z [z, TO, i1, i2] (ZSt z TI TO i1 i2 d St1 St2) s.heap s.toks ?_ ⟨hTI, h1, h2, ⟨_, hTO⟩, .inl ⟨hz, a, b, hTO⟩⟩ (fun _ _ e => e) fun b hb => .inl hb)
    exact {
      off := fun hm => by
        simp only [List.mem_cons, List.not_mem_nil, or_false] at hm
        rcases hm with e | e | e | e
        · exact dz e
        · exact dTO e
        · exact d1 (e ▸ Z.mem1)
        · exact d2 (e ▸ Z.mem2)
      frame := fun i h₁ h₂ st hk => st.frame Z (D1 A hA) (D2 A hA) dz dTI dTO d1 d2 hk
      item := fun i s₁ Q₁ E₁ hi st hds hQ => by
        refine zst_item Z (D1 _ hA) (D2 _ hA) st hds (by omega) (by omega) fun x1 x2 h' tk y1 y2 st' ht hz' hkp => ?_
        exact hQ s₁.heap.objs.size x1 x2 h' tk ⟨y1, y2⟩ (.inl ⟨_, ht, rfl, _, rfl⟩) st' fun c o hc e => hkp c o (fun x => hc (by simp [x])) (fun x => hc (by simp [x])) (fun x => hc (by simp [x])) (fun x => hc (by simp [x])) e
      done := fun s₁ Q₁ E₁ st hQ => zst_end Z (D1 _ hA) (D2 _ hA) st (by omega) (by omega) (by omega) fun h' tk hk => hQ h' tk fun c o hc e => hk c o (fun x => hc (by simp [x])) (fun x => hc (by simp [x])) (fun x => hc (by simp [x])) (fun x => hc (by simp [x])) e }
end
end S67

/-! KM: the rules of list(zip(a, b)), dict(zip(a, b)), dict(pairs), {}. -/
namespace S67
open PySem PySem.Spec PyProof.Rows L2
theorem mPut_len (kvs : List ((Int × Int) × Int)) (k : Int × Int) (v : Int) : (mPut kvs k v).length ≤ kvs.length + 1 := by
  unfold mPut
  split
  · rw [List.length_map]; omega
  · rw [List.length_append]; exact Nat.le_refl _
theorem mPuts_len : ∀ {zs : List Dt} {acc m : List ((Int × Int) × Int)}, mPuts zs acc = some m → m.length ≤ acc.length + zs.length
  | [], acc, m, e => by
    have e := Option.some.inj e
    subst e
    exact Nat.le_refl _
  | z :: zs, acc, m, e => by
    simp only [mPuts, Option.bind_eq_some_iff] at e
    obtain ⟨p, _, e2⟩ := e
    have h := mPuts_len e2
    have h2 := mPut_len acc p.1 p.2
    rw [List.length_cons]
    omega
theorem pairOf_eq {z : Dt} {e : (Int × Int) × Int} (h : pairOf z = some e) : z = .tup [.tup [.int e.1.1, .int e.1.2], .int e.2] := by
  unfold pairOf at h
  split at h
  · have h := Option.some.inj h
    subst h
    rfl
  · cases h
theorem mPuts_all : ∀ {zs : List Dt} {acc m : List ((Int × Int) × Int)}, mPuts zs acc = some m → ∀ z ∈ zs, ∃ e, pairOf z = some e
  | [], _, _, _, z, hz => nomatch hz
  | y :: zs, acc, m, e, z, hz => by
    simp only [mPuts, Option.bind_eq_some_iff] at e
    obtain ⟨p, e1, e2⟩ := e
    rcases List.mem_cons.mp hz with rfl | hz
    · exact ⟨p, e1⟩
    · exact mPuts_all e2 z hz
/-- a pair as an entry -/
def PK (H : Hp) (z : Dt) (p : List Key × Addr × Value) : Prop := ∃ e : (Int × Int) × Int, pairOf z = some e ∧ p.1 = [Sum.inl e.1.1, Sum.inl e.1.2] ∧ H p.2.1 = some (.tup (p.1.map kV)) ∧ RelV (.int e.2) p.2.2
theorem pk_kt {H : Hp} : ∀ {zs : List Dt} {ps : List (List Key × Addr × Value)} {acc m : List ((Int × Int) × Int)} {xs0 : List (List Key × Addr × Value)}, Paired (PK H) zs ps → KT H (cvM acc) xs0 → mPuts zs acc = some m → KT H (cvM m) (storedAllH xs0 ps)
  | _, _, acc, m, xs0, .nil, k, e => by
    have e := Option.some.inj e
    subst e
    exact k
  | _, _, acc, m, xs0, .cons (a := z) (b := p) h t, k, e => by
    obtain ⟨q, h1, h2, h3, h4⟩ := h
    simp only [mPuts, Option.bind_eq_some_iff] at e
    obtain ⟨q', e1, e2⟩ := e
    rw [h1] at e1
    cases e1
    refine pk_kt (xs0 := storedH xs0 p.1 p.2.1 p.2.2) t ?_ e2
    rw [← mPut_put, ← h2]
    exact KT.put k p.1 h3 h4
theorem pairedR {α β : Type} {F : α → β → Prop} : ∀ {xs : List α} {ys : List β} {i : Nat} {y : β}, Paired F xs ys → ys[i]? = some y → ∃ x, xs[i]? = some x ∧ F x y
  | _, _, _, _, .nil, e => by simp at e
  | _, _, 0, y, .cons h t, e => by
    have e := Option.some.inj e
    subst e
    exact ⟨_, rfl, h⟩
  | _, _, i + 1, y, .cons h t, e => by
    obtain ⟨x, h1, h2⟩ := pairedR t (i := i) (by simpa using e)
    exact ⟨x, by simpa using h1, h2⟩
theorem vals_cons {v : V} {vs : List V} {us : List Value} (h : Vals (v :: vs) us) : ∃ u us', us = u :: us' ∧ RelV v u ∧ Vals vs us' := by
  cases h with
  | cons a b => exact ⟨_, _, rfl, a, b⟩
theorem zip_ps {K : PySem.W.Frag} {H : Hp} : ∀ {xs ys : List Dt} {vs ws : List V} {its its2 : List Value}, Rps K H vs xs → Rps K H ws ys → Vals vs its → Vals ws its2 → (∀ z ∈ zip2D xs ys, ∃ e, pairOf z = some e) →
    ∃ ps : List (List Key × Addr × Value), Paired (PK H) (zip2D xs ys) ps ∧ ps.length = min its.length its2.length ∧ ∀ (i : Nat) (key v : Value), its[i]? = some key → its2[i]? = some v → ∃ (k : List Key) (b : Addr), ps[i]? = some (k, b, v) ∧ key = .ref b
  | [], ys, _, _, its, its2, r1, r2, v1, v2, h => by
    cases r1
    cases v1
    exact ⟨[], .nil, by simp, fun i key v e => by simp at e⟩
  | x :: xs, [], _, _, its, its2, r1, r2, v1, v2, h => by
    cases r2
    cases v2
    exact ⟨[], .nil, by simp, fun i key v _ e => by simp at e⟩
  | x :: xs, y :: ys, _, _, its, its2, r1, r2, v1, v2, h => by
    cases r1 with
    | cons a1 a2 =>
      cases r2 with
      | cons b1 b2 =>
        obtain ⟨u, us, rfl, c1, c2⟩ := vals_cons v1
        obtain ⟨u', us', rfl, d1, d2⟩ := vals_cons v2
        obtain ⟨ps, p1, p2, p3⟩ := zip_ps a2 b2 c2 d2 fun z hz => h z (List.mem_cons_of_mem _ hz)
        obtain ⟨e, he⟩ := h (.tup [x, y]) (List.mem_cons_self ..)
        have q := pairOf_eq he
        simp only [Dt.tup.injEq, List.cons.injEq, and_true] at q
        obtain ⟨rfl, rfl⟩ := q
        obtain ⟨b, rfl, hb⟩ := keyAt a1
        cases c1
        cases b1
        refine ⟨([Sum.inl e.1.1, Sum.inl e.1.2], b, u') :: ps, .cons ⟨e, he, rfl, hb, d1⟩ p1, by simp [p2], fun i key v f1 f2 => ?_⟩
        cases i with
        | zero =>
          have f1 : Value.ref b = key := Option.some.inj f1
          have f2 : u' = v := Option.some.inj f2
          subst f1 f2
          exact ⟨_, _, rfl, rfl⟩
        | succ i => exact p3 i key v (by simpa using f1) (by simpa using f2)
theorem list_ps {X : Cx} {pins : List (Addr × Obj)} {σ : L2.St} {H : Hp} {s : Shared} (I : Inv X pins σ H s) : ∀ {zs : List Dt} {vs : List V} {its : List Value}, Rps X.K H vs zs → Vals vs its → (∀ z ∈ zs, ∃ e, pairOf z = some e) →
    ∃ (ts : List Addr) (ps : List (List Key × Addr × Value)), its = ts.map Value.ref ∧ ts.length = ps.length ∧ Paired (PK H) zs ps ∧ ∀ (j : Nat) (k : List Key) (b : Addr) (v : Value), ps[j]? = some (k, b, v) → ∃ T : Addr, ts[j]? = some T ∧ IsTup s.heap T #[.ref b, v]
  | [], _, its, r, v, h => by
    cases r
    cases v
    exact ⟨[], [], rfl, rfl, .nil, fun j k b v e => by simp at e⟩
  | z :: zs, _, its, r, v, h => by
    cases r with
    | cons a1 a2 =>
      obtain ⟨u, us, rfl, c1, c2⟩ := vals_cons v
      obtain ⟨ts, ps, p1, p2, p3, p4⟩ := list_ps I a2 c2 fun z hz => h z (List.mem_cons_of_mem _ hz)
      obtain ⟨e, he⟩ := h z (List.mem_cons_self ..)
      have q := pairOf_eq he
      subst q
      cases a1 with
      | @tup T xs _ h1 h2 =>
        cases c1
        cases h2 with
        | cons k1 k2 =>
          cases k2 with
          | cons k3 k4 =>
            cases k4
            cases k3
            obtain ⟨b, rfl, hb⟩ := keyAt k1
            obtain ⟨ws, rv, ht, _⟩ := I.tuple (SqT.of (K := X.K) h1)
            obtain ⟨w1, ws1, rfl, g1, g2⟩ := vals_cons rv
            obtain ⟨w2, ws2, rfl, g3, g4⟩ := vals_cons g2
            cases g4
            cases g1
            refine ⟨T :: ts, ([Sum.inl e.1.1, Sum.inl e.1.2], b, w2) :: ps, by rw [p1]; rfl, by simp [p2], .cons ⟨e, he, rfl, hb, g3⟩ p3, fun j k b' v f => ?_⟩
            cases j with
            | zero =>
              have f := Option.some.inj f
              cases f
              exact ⟨T, rfl, ht⟩
            | succ j => exact p4 j k b' v (by simpa using f)
section
variable {X : Cx}
theorem big_ne {pins : List (Addr × Obj)} {σ : L2.St} {H : Hp} {s : Shared} (I : Inv X pins σ H s) : (s.heap.objs.size == sysModules) = false := beq_eq_false_iff_ne.mpr (Nat.ne_of_gt I.big)
theorem dT_laid {pins : List (Addr × Obj)} {σ : L2.St} {H : Hp} {s : Shared} {h' : Heap} {tk : Nat} {d : Addr} {m : List ((Int × Int) × Int)} {xs : List (List Key × Addr × Value)} (I : Inv X pins σ H s) (k : ∀ b u, s.heap.get? b = some u → h'.get? b = some u) (hd : s.heap.objs.size ≤ d) (hs : (d == sysModules) = false) (hz : m.length ≤ sizeLine) (kt : KT H (cvM m) xs)
    (hdd : h'.DictOfH (tupleKind (mixKind X.prog X.w)) d xs) : Inv X pins σ (upd H d (.dT (cvM m))) { s with heap := h', toks := tk } := by
  obtain ⟨o, es, ep, q1, q2, q3, q4, _, q5⟩ := hdd
  refine I.laid (t' := tk) k hd ⟨by rw [cvM_length]; exact hz, hs, xs, ?_, o, es, ep, q1, q2, q3, q4, q5⟩
  have hn := I.hok.fresh hd
  exact kt.keeps fun b ys e => by rw [upd_ne (ne_of_none e hn)]; exact e
/-- dict(xs) of a list of pairs -/
def rDictL (K : PySem.W.Frag) : List V → Hp → VK → Prop := fun xs H Q => ∃ a vs zs m, xs = [.ref a] ∧ SqL K H a vs ∧ Rps K H vs zs ∧ zs.length ≤ 1000000 ∧ mPuts zs [] = some m ∧ ∀ p, H p = none → Q (.ref p) (upd H p (.dT (cvM m)))
theorem call_dictL (hc : X.calm = true) (hu : X.A.units + 64 < cLine) : CallR X (.type "dict") (rDictL X.K) := by
  intro pins s σ H xs us Q I r q
  obtain ⟨a, vs, zs, m, rfl, hq, hr, hz, hm, q⟩ := q
  obtain ⟨u, us', rfl, rx, ru⟩ := vals_cons r
  cases ru
  cases rx
  obtain ⟨its, rv, pl, hl⟩ := I.list hq
  obtain ⟨ts, ps, p1, p2, p3, p4⟩ := list_ps I hr rv (mPuts_all hm)
  obtain ⟨o, n, ho, hoc, hd, hdat⟩ := pl
  have lz : zs.length = ps.length := Paired.length p3
  have hsz : ps.length ≤ sizeLine := by rw [← lz]; exact small_line hz
  have kt := pk_kt p3 (acc := []) (m := m) (xs0 := []) .nil hm
  have hml : m.length ≤ sizeLine := by
    have := mPuts_len hm
    simp only [List.length_nil] at this
    exact small_line (by omega)
  refine call_dict_pairsH (knd := tupleKind (mixKind X.prog X.w)) (ps := ps) (PairArg.list a its.toArray (fun j => ts.getD j 0) (ps.map fun p => (Value.ref p.2.1, p.2.2))) (I.ok.hd hc) (by show X.A.units + 1 + 1 < cLine; omega) ⟨⟨o, n, ho, hoc, hd, hdat⟩, ?_, fun j k v hj => ?_⟩ ⟨by rw [List.length_map], fun i key v hk => ?_⟩ ?_ (by rw [List.length_map]; exact hsz) fun h' tk hd' hk => ?_
  · rw [p1]; simp [p2]
  · rw [List.getElem?_map] at hj
    cases hp : ps[j]? with
    | none => rw [hp] at hj; cases hj
    | some p =>
      rw [hp] at hj
      have hj := Option.some.inj hj
      obtain ⟨k0, b0, v0⟩ := p
      cases hj
      obtain ⟨T, t1, t2⟩ := p4 j k0 b0 v0 hp
      refine ⟨?_, .inl ?_⟩
      · rw [p1]
        simp [t1]
      · have : ts.getD j 0 = T := by simp [t1]
        show IsTup s.heap (ts.getD j 0) _
        rw [this]
        exact t2
  · unfold PairRel at hk
    rw [List.getElem?_map] at hk
    cases hp : ps[i]? with
    | none => rw [hp] at hk; cases hk
    | some p =>
      rw [hp] at hk
      have hk := Option.some.inj hk
      obtain ⟨k0, b0, v0⟩ := p
      cases hk
      exact ⟨k0, b0, rfl, rfl⟩
  · intro h' hk x hx
    have hx' : (tupleKind (mixKind X.prog X.w)).is s.heap x.1 x.2.1 := by
      obtain ⟨j, hj⟩ := List.mem_iff_getElem?.mp hx
      obtain ⟨z, _, e, _, e1, e2, _⟩ := pairedR p3 hj
      exact key_of I.hok e2
    exact tupleKind_stays.stays (fun b o _ _ e _ => hk b o (Nat.ne_of_lt (Heap.lt_size e)) (fun q => nomatch q) e) hx'
  · exact ⟨.ref s.heap.objs.size, _, dT_laid I (fun b o e => hk b o (fun q => nomatch q) e) (Nat.le_refl _) (big_ne I) hml kt hd', rfl, q _ (I.hok.fresh (Nat.le_refl _))⟩
end
end S67

/-! KN: {}, dict(..), dict(zip(..)), list(zip(..)) as expressions. -/
namespace S67
open PySem PySem.Spec PyProof.Rows L2
theorem RR.newD {K : PySem.W.Frag} {G : Hp} {O : Option Addr} {H H1 : Hp} {p : Addr} {m : List ((Int × Int) × Int)} (hp : H p = none) (e : H1 p = some (.dT (cvM m))) : RR K G O H H1 (.ref p) (.m .fr m) := ⟨p, rfl, hp, e⟩
section
variable {X : Cx} {a b : Expr} {f g : SE} {pos p p2 pos2 : Pos}
theorem de_dictE : DE X (.Dict [] [] pos) sDictE := PEw pe_dnewT fun σ H Q ⟨G, O, r, c, s, e, q⟩ => by
  have e := Option.some.inj e
  subst e
  exact fun p hp => q _ _ (Ex.new hp) (RR.newD (m := []) hp upd_same)
theorem ok_dict {K : PySem.W.Frag} : C1ok K (rDictL K) cDict := by
  intro G O H0 H x u c Q fm db r1 e k
  unfold cDict at e
  split at e
  · split at e
    · rename_i hz
      simp only [Option.map_eq_some_iff] at e
      obtain ⟨m, e1, rfl⟩ := e
      obtain ⟨p, vs, rfl, h, q⟩ := r1.list fm
      exact ⟨p, vs, _, m, rfl, h, q, hz, e1, fun l hl => k _ _ (Ex.new hl) ⟨l, rfl, db _ hl, upd_same⟩⟩
    · cases e
  · cases e
theorem ps_keys {X : Cx} {pins : List (Addr × Obj)} {σ : L2.St} {H : Hp} {s : Shared} {zs : List Dt} {ps : List (List Key × Addr × Value)} (I : Inv X pins σ H s) (p3 : Paired (PK H) zs ps) : ∀ x ∈ ps, (tupleKind (mixKind X.prog X.w)).is s.heap x.1 x.2.1 := fun x hx => by
  obtain ⟨j, hj⟩ := List.mem_iff_getElem?.mp hx
  obtain ⟨z, _, e, _, e1, e2, _⟩ := pairedR p3 hj
  exact key_of I.hok e2
theorem hseq_keeps {h h' : Heap} {t : Bool} {p : Addr} {its : Array Value} (k : ∀ b o, h.get? b = some o → h'.get? b = some o) (x : HSeq h t p its) : HSeq h' t p its := by
  cases t with
  | true => exact Heap.IsTuple.at (show h.IsTuple p its from x) fun o e => k _ o e
  | false => exact Heap.IsList.at (show h.IsList p its from x) fun o e => k _ o e
theorem hseq_there {h : Heap} {t : Bool} {p : Addr} {its : Array Value} (x : HSeq h t p its) : ∃ o, h.get? p = some o := by
  cases t with
  | true =>
    obtain ⟨o, e, _⟩ := (show h.IsTuple p its from x)
    exact ⟨o, e⟩
  | false =>
    obtain ⟨o, e, _⟩ := (show h.IsList p its from x)
    exact ⟨o, e⟩
theorem zip_alive {h : Heap} {t : Bool} {it p : Addr} {its : Array Value} (st : HIt h t it p 0 ∧ HSeq h t p its) : ∀ b ∈ [it, p], ∃ o, h.get? b = some o := fun b hb => by
  have e : b = it ∨ b = p := by simpa using hb
  rcases e with rfl | rfl
  · obtain ⟨o, e, _⟩ := st.1.obj
    exact ⟨o, e⟩
  · exact hseq_there st.2
set_option maxHeartbeats 1000000 in
theorem de_dictZip (hc : X.calm = true) (hu : X.A.units + 64 < cLine) (hg : Gl X "dict") (hm : X.mg "dict" = none) (hgz : Gl X "zip") (hmz : X.mg "zip" = none) (ha : DE X a f) (hb : DE X b g)
    (hsz : starEach [a, b] X.env = (false, eval a X.env) :: starEach [b] X.env := by rfl) (hsz2 : starEach [b] X.env = (false, eval b X.env) :: starEach [] X.env := by rfl) (hpl : (backTo pos2 (starEach [b] X.env)).any (·.1) = false := by rfl)
    (hs : starEach [.Call (.Name "zip" p2) [a, b] [] pos2] X.env = (false, eval (.Call (.Name "zip" p2) [a, b] [] pos2) X.env) :: starEach [] X.env := by rfl) :
    DE X (.Call (.Name "dict" p) [.Call (.Name "zip" p2) [a, b] [] pos2] [] pos) (sDictZip f g) := by
  refine ⟨fun pins s σ H Q I hq => ?_⟩
  obtain ⟨G, O, r, c, S, e, q⟩ := hq
  simp only [sDictZip, iZip2, Option.map_eq_some_iff, Option.bind_eq_some_iff] at e
  obtain ⟨m, ⟨zz, ⟨u, e1, v, e2, xs, e3, ys, e4, rfl⟩, e5⟩, rfl⟩ := e
  have hz : (zip2D xs ys).length ≤ 1000000 ∧ mPuts (zip2D xs ys) [] = some m := by
    split at e5
    · rename_i h
      exact ⟨h, e5⟩
    · cases e5
  obtain ⟨hz, hmm⟩ := hz
  refine wpAny_Call_Name_kw (ld_blt I hg hm PyProof.Rows.boot_dict ?_)
  refine PyProof.Rows.callWith_type1 ?_ hs rfl
  rw [hs]
  show wpAny _ _ (spliced ((false, eval (.Call (.Name "zip" p2) [a, b] [] pos2) X.env) :: backTo pos (starEach [] X.env))) _ _ s
  refine Calls.spliced_cons ?_
  have hA : DA X [a, b] [f, g] := da_cons ha (da_cons hb da_nil hsz2) hsz
  refine Call_ (ld_blt I hgz hmz PyProof.Rows.boot_zip (PyProof.Rows.callWith_type1 (thn (hA.run pos2 pins s σ H (fun vs H1 => Ex H H1 ∧ RRs X.K G O H H1 vs [u, v]) I ⟨G, O, r, [u, v], S, by simp [seqE, e1, e2], fun vs H1 x1 r1 => ⟨x1, r1⟩⟩) fun us s1 ⟨vs, H1, I1, r1, x1, q1⟩ => ?_) hsz hpl))
  cases q1 with
  | cons q1 qq =>
    cases qq with
    | cons q2 qq =>
      cases qq
      obtain ⟨t1, a1, ws1, ps1, so1⟩ := srcOk S x1 q1 e3
      obtain ⟨t2, a2, ws2, ps2, so2⟩ := srcOk S x1 q2 e4
      rw [so1.eq, so2.eq] at r1
      obtain ⟨v1, us1, rfl, g1, rr⟩ := vals_cons r1
      obtain ⟨v2, us2, rfl, g2, rr⟩ := vals_cons rr
      cases rr
      obtain rfl : v1 = Value.ref a1 := g1
      obtain rfl : v2 = Value.ref a2 := g2
      obtain ⟨its, rv, p1, la⟩ := sqOf I1 so1.sq
      obtain ⟨its2, rv2, p2, lb⟩ := sqOf I1 so2.sq
      obtain ⟨ps, k1, k2, k3⟩ := zip_ps so1.rps so2.rps rv rv2 (mPuts_all hmm)
      have hh : X.A.handled = none := I.ok.hd hc
      refine zip_begins2 (begins_sq t1 a1 its.toArray) (begins_sq t2 a2 its2.toArray) p1 p2 fun h' hz0 hTI hTO h1 h2 hsz hk => ?_
      have D : ZipSep2 (s1.heap.objs.size + 4) (s1.heap.objs.size + 2) (s1.heap.objs.size + 3) s1.heap.objs.size (s1.heap.objs.size + 1) [s1.heap.objs.size, a1] [s1.heap.objs.size + 1, a2] := zip_sep2 (fp1 := [a1]) (fp2 := [a2]) (by simp; exact la) (by simp; exact lb)
      refine Calls.spliced_nil ?_
      have lz : (zip2D xs ys).length = ps.length := Paired.length k1
      have keys := ps_keys I1 k1
      have kt := pk_kt k1 (acc := []) (m := m) (xs0 := []) .nil hmm
      have hml : m.length ≤ sizeLine := by
        have := mPuts_len hmm
        simp only [List.length_nil] at this
        exact small_line (by omega)
      refine call_dict_pairsH (knd := tupleKind (mixKind X.prog X.w)) (ps := ps)
        (PairArg.zipD (P1 := fun i v => its.toArray[i]? = some v) (P2 := fun i v => its2.toArray[i]? = some v) D (fun A' hA' => draws_sq hA' t1 _ a1 (Nat.ne_of_lt la) its.toArray) (fun A' hA' => draws_sq hA' t2 _ a2 (Nat.ne_of_lt (Nat.lt_succ_of_lt lb)) its2.toArray)
          (fun h st => zip_alive st) (fun h st => zip_alive st)) hh (by show X.A.units + 1 + 1 < cLine; omega) ⟨hz0, hTI, ⟨_, _, hTO⟩, ⟨hit_new h1, hseq_keeps hk p1⟩, hit_new h2, hseq_keeps hk p2⟩ ⟨by rw [k2]; simp, fun i key v hk => k3 i key v (by simpa using hk.1) (by simpa using hk.2)⟩ ?_ (by rw [List.size_toArray, List.size_toArray, ← k2, ← lz]; exact small_line hz) fun h'' tk hd' hk' => ?_
      · intro h3 hk3 x hx
        refine tupleKind_stays.stays (fun b o _ _ e _ => ?_) (keys x hx)
        have hb := Heap.lt_size e
        refine hk3 b o (Nat.ne_of_lt (Nat.lt_of_lt_of_le hb ?_)) (fun hw => ?_) (hk _ _ e)
        · show s1.heap.objs.size ≤ h'.objs.size
          omega
        · have e' : b = s1.heap.objs.size + 4 ∨ b = s1.heap.objs.size + 3 ∨ b = s1.heap.objs.size ∨ b = s1.heap.objs.size + 1 := by simpa using hw
          exact absurd hb (Nat.not_lt.mpr (by rcases e' with z | z | z | z <;> rw [z] <;> first | exact Nat.le_refl _ | exact Nat.le_add_right _ _))
      · have hle : s1.heap.objs.size ≤ h'.objs.size := by omega
        have kk : ∀ b o, s1.heap.get? b = some o → h''.get? b = some o := fun b o e => by
          have hb := Heap.lt_size e
          refine hk' b o (fun hw => ?_) (hk _ _ e)
          have e' : b = s1.heap.objs.size + 4 ∨ b = s1.heap.objs.size + 3 ∨ b = s1.heap.objs.size ∨ b = s1.heap.objs.size + 1 := by simpa using hw
          exact absurd hb (Nat.not_lt.mpr (by rcases e' with z | z | z | z <;> rw [z] <;> first | exact Nat.le_refl _ | exact Nat.le_add_right _ _))
        have hbig : (h'.objs.size == sysModules) = false := beq_eq_false_iff_ne.mpr (Nat.ne_of_gt (Nat.lt_of_lt_of_le I1.big hle))
        have hnew := I1.hok.fresh hle
        exact ⟨.ref h'.objs.size, _, dT_laid (s := s1) I1 kk hle hbig hml kt hd', rfl, q _ _ (x1.trans (Ex.new hnew)) (RR.newD (x1.free hnew) upd_same)⟩
end
end S67

/-! KO: list(zip(..)) as an expression. -/
namespace S67
open PySem PySem.Spec PyProof.Rows L2
theorem rps_of {K : PySem.W.Frag} {H : Hp} : ∀ {vs : List V} {ds : List Dt}, vs.length = ds.length → (∀ (i : Nat) v d, vs[i]? = some v → ds[i]? = some d → Rp K H v d) → Rps K H vs ds
  | [], [], _, _ => .nil
  | v :: vs, d :: ds, hl, h => .cons (h 0 v d rfl rfl) (rps_of (by simpa using hl) fun i v d e1 e2 => h (i + 1) v d (by simpa using e1) (by simpa using e2))
  | [], _ :: _, hl, _ => by simp at hl
  | _ :: _, [], hl, _ => by simp at hl
theorem valsRefs : ∀ bs : List Addr, Vals (bs.map V.ref) (bs.map Value.ref)
  | [] => .nil
  | _ :: r => .cons rfl (valsRefs r)
theorem sq_len {X : Cx} {pins : List (Addr × Obj)} {σ : L2.St} {H : Hp} {s : Shared} {t : Bool} {p : Addr} {xs : List V} (I : Inv X pins σ H s) (q : Sq X.K t p H xs) : xs.length ≤ sizeLine := by
  cases t with
  | true =>
    obtain ⟨its, r, h, z⟩ := I.tuple (show SqT X.K H p xs from q)
    exact z
  | false =>
    obtain ⟨its, r, h, z⟩ := I.list (show SqL X.K H p xs from q)
    exact z
section
variable {X : Cx} {a b : Expr} {f g : SE} {pos p p2 pos2 : Pos}
set_option maxHeartbeats 1000000 in
theorem de_listZip (hc : X.calm = true) (hg : Gl X "list") (hm : X.mg "list" = none) (hgz : Gl X "zip") (hmz : X.mg "zip" = none) (ha : DE X a f) (hb : DE X b g)
    (hsz : starEach [a, b] X.env = (false, eval a X.env) :: starEach [b] X.env := by rfl) (hsz2 : starEach [b] X.env = (false, eval b X.env) :: starEach [] X.env := by rfl) (hpl : (backTo pos2 (starEach [b] X.env)).any (·.1) = false := by rfl)
    (hs : starEach [.Call (.Name "zip" p2) [a, b] [] pos2] X.env = (false, eval (.Call (.Name "zip" p2) [a, b] [] pos2) X.env) :: starEach [] X.env := by rfl) :
    DE X (.Call (.Name "list" p) [.Call (.Name "zip" p2) [a, b] [] pos2] [] pos) (sListZip f g) := by
  refine ⟨fun pins s σ H Q I hq => ?_⟩
  obtain ⟨G, O, r, c, S, e, q⟩ := hq
  simp only [sListZip, iZip2, Option.map_eq_some_iff, Option.bind_eq_some_iff] at e
  obtain ⟨zz, ⟨u, e1, v, e2, xs, e3, ys, e4, rfl⟩, rfl⟩ := e
  refine wpAny_Call_Name_kw (ld_blt I hg hm PyProof.Rows.boot_list ?_)
  refine PyProof.Rows.callWith_type1 ?_ hs rfl
  rw [hs]
  show wpAny _ _ (spliced ((false, eval (.Call (.Name "zip" p2) [a, b] [] pos2) X.env) :: backTo pos (starEach [] X.env))) _ _ s
  refine Calls.spliced_cons ?_
  have hA : DA X [a, b] [f, g] := da_cons ha (da_cons hb da_nil hsz2) hsz
  refine Call_ (ld_blt I hgz hmz PyProof.Rows.boot_zip (PyProof.Rows.callWith_type1 (thn (hA.run pos2 pins s σ H (fun vs H1 => Ex H H1 ∧ RRs X.K G O H H1 vs [u, v]) I ⟨G, O, r, [u, v], S, by simp [seqE, e1, e2], fun vs H1 x1 r1 => ⟨x1, r1⟩⟩) fun us s1 ⟨vs, H1, I1, r1, x1, q1⟩ => ?_) hsz hpl))
  cases q1 with
  | cons q1 qq =>
    cases qq with
    | cons q2 qq =>
      cases qq
      obtain ⟨t1, a1, ws1, ps1, so1⟩ := srcOk S x1 q1 e3
      obtain ⟨t2, a2, ws2, ps2, so2⟩ := srcOk S x1 q2 e4
      rw [so1.eq, so2.eq] at r1
      obtain ⟨v1, us1, rfl, g1, rr⟩ := vals_cons r1
      obtain ⟨v2, us2, rfl, g2, rr⟩ := vals_cons rr
      cases rr
      obtain rfl : v1 = Value.ref a1 := g1
      obtain rfl : v2 = Value.ref a2 := g2
      obtain ⟨its, rv, p1, la⟩ := sqOf I1 so1.sq
      obtain ⟨its2, rv2, p2, lb⟩ := sqOf I1 so2.sq
      have hh : X.A.handled = none := I.ok.hd hc
      refine zip_begins2 (begins_sq t1 a1 its.toArray) (begins_sq t2 a2 its2.toArray) p1 p2 fun h' hz0 hTI hTO h1 h2 hsz hk => ?_
      have D : ZipSep2 (s1.heap.objs.size + 4) (s1.heap.objs.size + 2) (s1.heap.objs.size + 3) s1.heap.objs.size (s1.heap.objs.size + 1) [s1.heap.objs.size, a1] [s1.heap.objs.size + 1, a2] := zip_sep2 (fp1 := [a1]) (fp2 := [a2]) (by simp; exact la) (by simp; exact lb)
      refine Calls.spliced_nil ?_
      have l1 : ws1.length = its.length := rv.length
      have l2 : ws2.length = its2.length := rv2.length
      refine zl_call (P1 := fun i v => its.toArray[i]? = some v) (P2 := fun i v => its2.toArray[i]? = some v) hh D (fun A' hA' => draws_sq hA' t1 _ a1 (Nat.ne_of_lt la) its.toArray) (fun A' hA' => draws_sq hA' t2 _ a2 (Nat.ne_of_lt (Nat.lt_succ_of_lt lb)) its2.toArray) hz0 hTI ⟨_, _, hTO⟩ ⟨hit_new h1, hseq_keeps hk p1⟩ ⟨hit_new h2, hseq_keeps hk p2⟩ (fun b hb => ?_) (fun b hb => ?_) ?_ fun h'' tk acc c as hk' hS hl hG hacc => ?_
      · obtain ⟨o, e⟩ := zip_alive ⟨hit_new h1, hseq_keeps hk p1⟩ b hb
        exact Heap.lt_size e
      · obtain ⟨o, e⟩ := zip_alive ⟨hit_new h2, hseq_keeps hk p2⟩ b hb
        exact Heap.lt_size e
      · rw [List.size_toArray, List.size_toArray, ← l1, ← l2]
        have : ws1.length ≤ sizeLine := sq_len I1 so1.sq
        omega
      · have hle : s1.heap.objs.size ≤ h'.objs.size := by omega
        have kk : ∀ b o, s1.heap.get? b = some o → h''.get? b = some o := fun b o e => by
          have hb := Heap.lt_size e
          have nb : ∀ k, b ≠ s1.heap.objs.size + k := fun k z => absurd hb (Nat.not_lt.mpr (by rw [z]; exact Nat.le_add_right _ _))
          exact hk' b o (nb 4) (nb 3) (nb 0) (nb 1) (hk _ _ e)
        have hlen : as.length = min ws1.length ws2.length := by rw [hl, List.size_toArray, List.size_toArray, l1, l2]
        have nd : as.Nodup := List.Pairwise.imp (fun {a b} (h : a < b) => Nat.ne_of_lt h) hG.rise
        have hzs : as.length ≤ sizeLine := by rw [hlen]; have : ws1.length ≤ sizeLine := sq_len I1 so1.sq; omega
        have hln : H1 h'.objs.size = none := I1.hok.fresh hle
        have I2 : Inv X pins σ (upd H1 h'.objs.size (.lst (as.map V.ref))) { s1 with heap := h'', toks := tk } := I1.laid (t' := tk) kk hle ⟨by rw [List.length_map]; exact hzs, acc.toList, c, by rw [hacc]; exact valsRefs as, by rw [Array.toArray_toList]; exact hS⟩
        obtain ⟨H2, I3, g1, g2⟩ := L2.DX.takeT (P := fun a vs => ∃ (j : Nat) (x y : V), as[j]? = some a ∧ ws1[j]? = some x ∧ ws2[j]? = some y ∧ vs = [x, y]) I1 as _ I2 nd fun a ha => by
          have hab := hG.above a ha
          refine ⟨Nat.le_trans hle (Nat.le_of_lt hab), by rw [upd_ne (Nat.ne_of_gt hab)]; exact I1.hok.fresh (Nat.le_trans hle (Nat.le_of_lt hab)), ?_⟩
          obtain ⟨j, hj⟩ := List.mem_iff_getElem?.mp ha
          have hjl : j < as.length := (List.getElem?_eq_some_iff.mp hj).1
          obtain ⟨x1', x2', y1, y2, hp⟩ := hG.pairs j a hj
          have q1 : ws1[j]? = some ws1[j] := List.getElem?_eq_getElem (by omega)
          have q2 : ws2[j]? = some ws2[j] := List.getElem?_eq_getElem (by omega)
          obtain ⟨u1, f1, r1⟩ := rv.get q1
          obtain ⟨u2, f2, r2⟩ := rv2.get q2
          have e1 : u1 = x1' := Option.some.inj (f1.symm.trans (by simpa using y1))
          have e2 : u2 = x2' := Option.some.inj (f2.symm.trans (by simpa using y2))
          subst e1 e2
          exact ⟨_, ⟨j, _, _, hj, q1, q2, rfl⟩, fun H2 => ⟨by show 2 ≤ sizeLine; decide, [u1, u2], .cons r1 (.cons r2 .nil), ⟨_, hp, rfl, _, rfl⟩⟩⟩
        have x2 : Ex H1 (upd H1 h'.objs.size (.lst (as.map V.ref))) := Ex.new hln
        have x3 : Ex (upd H1 h'.objs.size (.lst (as.map V.ref))) H2 := g1
        refine ⟨.ref h'.objs.size, _, I3, rfl, q _ _ ((x1.trans x2).trans x3) ⟨_, _, rfl, x1.free hln, x3 _ _ upd_same, ?_⟩⟩
        refine rps_of ?_ fun i v d hv hd => ?_
        · rw [List.length_map, hlen, zip2D_len, so1.rps.length, so2.rps.length]
        · rw [List.getElem?_map] at hv
          cases ha : as[i]? with
          | none => rw [ha] at hv; cases hv
          | some a =>
            rw [ha] at hv
            have hv := Option.some.inj hv
            subst hv
            obtain ⟨vs', ⟨j, x, y, f1, f2, f3, rfl⟩, hH⟩ := g2 a (List.mem_of_getElem? ha)
            have hij : j = i := by
              have hil : i < as.length := (List.getElem?_eq_some_iff.mp ha).1
              have hjl : j < as.length := (List.getElem?_eq_some_iff.mp f1).1
              exact (List.getElem?_inj hjl nd).mp (by rw [f1, ha])
            subst hij
            obtain ⟨d1, d2, w1, w2, rfl⟩ := zip2D_get hd
            have tl := (x2.trans x3).tl
            exact Rp.tup hH (.cons ((rps_get so1.rps f2 w1).mono tl) (.cons ((rps_get so2.rps f3 w2).mono tl) .nil))
end
end S67

/-! KP: sorted of a list, of a dict. -/
namespace S67
open PySem PySem.Spec PyProof.Rows L2
theorem flat2_eq {d : Dt} (h : (flat2 d).isSome = true) : ∃ i j, d = .tup [.int i, .int j] := by
  unfold flat2 at h
  split at h
  · exact ⟨_, _, rfl⟩
  · cases h
theorem flat3_eq {d : Dt} (h : (flat3 d).isSome = true) : ∃ i j k, d = .tup [.tup [.int i, .int j], .int k] := by
  unfold flat3 at h
  split at h
  · exact ⟨_, _, _, rfl⟩
  · cases h
theorem dataLt_int (x y : Int) : PySem.W.dataLt (.int x) (.int y) = decide (x < y) := by
  have h := congrFun (congrFun (PySem.W.dataLe_int (fun b : Int => b)) y) x
  simp only [PySem.W.dataLe_eq, cond_false] at h
  have e : PySem.W.dataLt (.int x) (.int y) = !decide (y ≤ x) := by rw [← h, Bool.not_not]
  rw [e]
  by_cases q : x < y
  · simp [q]
  · simp [q]; omega
theorem le2 (i j i' j' : Int) : PySem.W.dataLe false Dt.py (.tup [.int i, .int j]) (.tup [.int i', .int j']) = leF flat2 (.tup [.int i, .int j]) (.tup [.int i', .int j']) := by
  simp only [PySem.W.dataLe_eq, cond_false, Dt.py, pys, PySem.W.dataLt_ii, leF, flat2, lexLe]
  rw [Bool.eq_iff_iff]
  by_cases h1 : i = i'
  · subst h1
    by_cases h2 : j = j'
    · subst h2; simp
    · simp [h2]
      omega
  · simp [h1]
    omega
theorem le3 (i j k i' j' k' : Int) : PySem.W.dataLe false Dt.py (.tup [.tup [.int i, .int j], .int k]) (.tup [.tup [.int i', .int j'], .int k']) = leF flat3 (.tup [.tup [.int i, .int j], .int k]) (.tup [.tup [.int i', .int j'], .int k']) := by
  simp only [PySem.W.dataLe_eq, cond_false, Dt.py, pys]
  rw [PySem.W.dataLt_pair (by simp [PySem.W.alike, PySem.W.alikeAll]) (by simp [PySem.W.alike])]
  simp only [PySem.W.dataLt_ii, dataLt_int, leF, flat3, lexLe, PyData.eqv, PyData.eqvAll, Bool.and_true]
  rw [Bool.eq_iff_iff]
  by_cases h1 : i = i'
  · subst h1
    by_cases h2 : j = j'
    · subst h2
      by_cases h3 : k = k'
      · subst h3; simp
      · have h4 : ¬ k' = k := fun z => h3 z.symm
        simp [h3, h4]
        omega
    · have h4 : ¬ j' = j := fun z => h2 z.symm
      simp [h2, h4]
      omega
  · have h4 : ¬ i' = i := fun z => h1 z.symm
    simp [h1, h4]
    omega
/-- what the sorting asks of the data -/
structure SortsAs (ds es : List Dt) (le : Dt → Dt → Bool) : Prop where
  eq : es = ds.mergeSort le
  le : ∀ a ∈ ds, ∀ b ∈ ds, PySem.W.dataLe false Dt.py a b = le a b
  alike : ∀ a ∈ ds, ∀ b ∈ ds, PySem.W.alike a.py b.py = true
  tup : ∀ a ∈ ds, ∃ x r, a.py = .tuple (x :: r)
  depth : ∀ a ∈ ds, a.py.depth ≤ 2
theorem sortsAs {ds es : List Dt} (h : sortD ds = some es) : ∃ le, SortsAs ds es le := by
  unfold sortD at h
  split at h
  · rename_i q
    have h := Option.some.inj h
    rw [List.all_eq_true] at q
    refine ⟨leF flat2, h.symm, fun a ha b hb => ?_, fun a ha b hb => ?_, fun a ha => ?_, fun a ha => ?_⟩
    · obtain ⟨i, j, rfl⟩ := flat2_eq (q a ha)
      obtain ⟨i', j', rfl⟩ := flat2_eq (q b hb)
      exact le2 i j i' j'
    · obtain ⟨i, j, rfl⟩ := flat2_eq (q a ha)
      obtain ⟨i', j', rfl⟩ := flat2_eq (q b hb)
      simp [Dt.py, pys, PySem.W.alike, PySem.W.alikeAll]
    · obtain ⟨i, j, rfl⟩ := flat2_eq (q a ha)
      exact ⟨_, _, rfl⟩
    · obtain ⟨i, j, rfl⟩ := flat2_eq (q a ha)
      simp [py_depth, dpt, dpts]
  · split at h
    · rename_i q
      have h := Option.some.inj h
      rw [List.all_eq_true] at q
      refine ⟨leF flat3, h.symm, fun a ha b hb => ?_, fun a ha b hb => ?_, fun a ha => ?_, fun a ha => ?_⟩
      · obtain ⟨i, j, k, rfl⟩ := flat3_eq (q a ha)
        obtain ⟨i', j', k', rfl⟩ := flat3_eq (q b hb)
        exact le3 i j k i' j' k'
      · obtain ⟨i, j, k, rfl⟩ := flat3_eq (q a ha)
        obtain ⟨i', j', k', rfl⟩ := flat3_eq (q b hb)
        simp [Dt.py, pys, PySem.W.alike, PySem.W.alikeAll]
      · obtain ⟨i, j, k, rfl⟩ := flat3_eq (q a ha)
        exact ⟨_, _, rfl⟩
      · obtain ⟨i, j, k, rfl⟩ := flat3_eq (q a ha)
        simp [py_depth, dpt, dpts]
    · cases h
mutual
theorem reads_nil {h : Heap} : ∀ (d : Dt) (v : Value) (as : List Addr), Reads h v d.py as → as = []
  | .non, _, _, r => by simp only [Dt.py] at r; cases r; rfl
  | .bl _, _, _, r => by simp only [Dt.py] at r; cases r; rfl
  | .int _, _, _, r => by simp only [Dt.py] at r; cases r; rfl
  | .str _, _, _, r => by simp only [Dt.py] at r; cases r; rfl
  | .tup ds, _, _, r => by
    simp only [Dt.py] at r
    cases r with
    | tuple _ _ _ h4 => exact readsAll_nil ds _ _ h4
theorem readsAll_nil {h : Heap} : ∀ (ds : List Dt) (vs : List Value) (as : List Addr), ReadsAll h vs (pys ds) as → as = []
  | [], _, _, r => by simp only [pys] at r; cases r; rfl
  | d :: ds, _, _, r => by
    simp only [pys] at r
    cases r with
    | cons h1 h2 => rw [reads_nil d _ _ h1, readsAll_nil ds _ _ h2]; rfl
end
section
variable {X : Cx} {pins : List (Addr × Obj)} {σ : L2.St} {H : Hp} {s : Shared}
open PySem.W (EachIs)
theorem each_of : ∀ {vs : List V} {ds : List Dt} {its : List Value}, vs.length = ds.length → Vals vs its → EachIs (fun v (b : V × Dt) => RelV b.1 v) its (vs.zip ds)
  | [], [], its, _, v => by cases v; exact .nil
  | v :: vs, d :: ds, its, hl, r => by
    cases r with
    | cons a b => exact .cons a (each_of (by simpa using hl) b)
  | [], _ :: _, _, hl, _ => by simp at hl
  | _ :: _, [], _, hl, _ => by simp at hl
theorem each_vals : ∀ {out : List Value} {bs : List (V × Dt)}, EachIs (fun v (b : V × Dt) => RelV b.1 v) out bs → Vals (bs.map (·.1)) out
  | _, _, .nil => .nil
  | _, _, .cons h t => .cons h (each_vals t)
theorem each_reads {h' : Heap} (I : Inv X pins σ H s) (k : ∀ b o, s.heap.get? b = some o → h'.get? b = some o) : ∀ {vs : List V} {ds : List Dt} {its : List Value}, Rps X.K H vs ds → Vals vs its → EachIs (fun v (b : V × Dt) => ∃ as, Reads h' v b.2.py as) its (vs.zip ds)
  | _, [], its, q, v => by cases q; cases v; exact .nil
  | _, d :: ds, its, q, r => by
    cases q with
    | cons q1 q2 =>
      cases r with
      | cons a b =>
        obtain ⟨as, h⟩ := Dp.reads I d.py _ _ q1.dp a
        exact .cons ⟨as, PyProof.Rows.Reads.keeps k h⟩ (each_reads I k q2 b)
theorem zip_rps {K : PySem.W.Frag} : ∀ {vs : List V} {ds : List Dt}, Rps K H vs ds → ∀ b ∈ vs.zip ds, Rp K H b.1 b.2
  | _, [], q, b, hb => by cases q; exact nomatch hb
  | _, d :: ds, q, b, hb => by
    cases q with
    | cons q1 q2 =>
      rcases List.mem_cons.mp hb with rfl | hb
      · exact q1
      · exact zip_rps q2 b hb
theorem rps_unzip {K : PySem.W.Frag} : ∀ {bs : List (V × Dt)}, (∀ b ∈ bs, Rp K H b.1 b.2) → Rps K H (bs.map (·.1)) (bs.map (·.2))
  | [], _ => .nil
  | b :: bs, h => .cons (h b (List.mem_cons_self ..)) (rps_unzip fun c hc => h c (List.mem_cons_of_mem _ hc))
theorem sorted_rps {K : PySem.W.Frag} {vs : List V} {ds es : List Dt} {le : Dt → Dt → Bool} (S : SortsAs ds es le) (q : Rps K H vs ds) : Rps K H (((vs.zip ds).mergeSort (PySem.W.dataLe false fun b => b.2.py)).map (·.1)) es := by
  have hm : ∀ b ∈ vs.zip ds, b.2 ∈ ds := fun b hb => (List.of_mem_zip hb).2
  have e : ((vs.zip ds).mergeSort (PySem.W.dataLe false fun b => b.2.py)).map (·.2) = es := by
    have h := PySem.W.sort_maps (r := PySem.W.dataLe false fun b : V × Dt => b.2.py) (s := le) (fun b : V × Dt => b.2) (fun a ha b hb => S.le a.2 (hm a ha) b.2 (hm b hb))
    refine h.trans ?_
    have h2 : (vs.zip ds).map (fun b : V × Dt => b.2) = ds := List.map_snd_zip (by rw [q.length]; exact Nat.le_refl _)
    rw [h2, S.eq]
  rw [← e]
  exact rps_unzip fun b hb => zip_rps q b ((List.mergeSort_perm _ _).mem_iff.mp hb)
def rSortL (K : PySem.W.Frag) : List V → Hp → VK → Prop := fun xs H Q => ∃ a vs ds es, xs = [.ref a] ∧ SqL K H a vs ∧ Rps K H vs ds ∧ ds.length ≤ 1000000 ∧ sortD ds = some es ∧ ∀ p ws, H p = none → Rps K H ws es → Q (.ref p) (upd H p (.lst ws))
theorem call_sortedL (hu : X.A.units + 64 < cLine) : CallR X (.builtin "sorted") (rSortL X.K) := by
  intro pins s σ H xs us Q I r q
  obtain ⟨a, vs, ds, es, rfl, hq, hr, hz, hs, q⟩ := q
  obtain ⟨u, us', rfl, rx, ru⟩ := vals_cons r
  cases ru
  obtain rfl : u = Value.ref a := rx
  obtain ⟨its, rv, pl, hl⟩ := I.list hq
  obtain ⟨le, S⟩ := sortsAs hs
  have hm : ∀ b ∈ vs.zip ds, b.2 ∈ ds := fun b hb => (List.of_mem_zip hb).2
  have hlen : (vs.zip ds).length = ds.length := by rw [List.length_zip, hr.length, Nat.min_self]
  refine PySem.W.sorted_data (bs := vs.zip ds) (enc := fun b => b.2.py) (R := fun v b => RelV b.1 v) pl.isList (each_of hr.length rv) (each_reads I (fun _ _ e => e) hr rv) ?_ (.inl fun d hd => ?_) (by rw [hlen]; exact small_line hz) (fun b hb => ?_) fun out ho eo => ?_
  · intro d hd d' hd'
    obtain ⟨b, hb, rfl⟩ := List.mem_map.mp hd
    obtain ⟨b', hb', rfl⟩ := List.mem_map.mp hd'
    exact S.alike _ (hm b hb) _ (hm b' hb')
  · obtain ⟨b, hb, rfl⟩ := List.mem_map.mp hd
    exact S.tup _ (hm b hb)
  · have := S.depth _ (hm b hb)
    omega
  · obtain ⟨e, he⟩ := PyProof.Rows.sortedAll_at s.heap its out.toArray
    have rps := sorted_rps S hr
    refine ⟨.ref (s.heap.objs.size + 1), _, I.laid (t' := s.toks) (fun _ _ e => PyProof.Rows.sortedAll_old e) (Nat.le_succ _) (show ObjOk X.prog X.w _ _ _ (.lst _) from ⟨?_, out, e, each_vals eo, he⟩), rfl, q _ _ (I.hok.fresh (Nat.le_succ _)) rps⟩
    rw [rps.length, S.eq, List.length_mergeSort]
    exact small_line hz
/-- sorted(d) of a dict with pairs as keys -/
def rSortD (K : PySem.W.Frag) : List V → Hp → VK → Prop := fun xs H Q => ∃ a m es, xs = [.ref a] ∧ H a = some (.dT (cvM m)) ∧ m.length ≤ 1000000 ∧ sortD (m.map fun e => Dt.p e.1.1 e.1.2) = some es ∧ ∀ p ws, H p = none → Rps K H ws es → Q (.ref p) (upd H p (.lst ws))
theorem keys_rps {K : PySem.W.Frag} {H : Hp} : ∀ {m : List ((Int × Int) × Int)} {ks : List (List Key × Addr × Value)}, KT H (cvM m) ks → Rps K H ((ks.map fun x => x.2.1).map V.ref) (m.map fun e => Dt.p e.1.1 e.1.2)
  | [], _, h => by cases h; exact .nil
  | e :: m, _, h => by
    cases h with
    | cons a b =>
      refine .cons ?_ (keys_rps b)
      exact Rp.tup a.2.1 (.cons (.int _) (.cons (.int _) .nil))
theorem call_sortedD (hc : X.calm = true) (hu : X.A.units + 64 < cLine) : CallR X (.builtin "sorted") (rSortD X.K) := by
  intro pins s σ H xs us Q I r q
  obtain ⟨a, m, es, rfl, hd, hz, hs, q⟩ := q
  obtain ⟨u, us', rfl, rx, ru⟩ := vals_cons r
  cases ru
  obtain rfl : u = Value.ref a := rx
  obtain ⟨z, hsm, ks, pr, o, ents, ep, ho, hx, hdt, he, hn⟩ := (show ObjOk X.prog X.w H s.heap a (.dT (cvM m)) from I.hok a _ hd)
  have l1 : ents.size = ks.length := size_of_entries he
  have l2 : (cvM m).length = ks.length := Paired.length pr
  rw [cvM_length] at l2
  obtain ⟨le, S⟩ := sortsAs hs
  refine Calls.call_function_entry PyProof.Rows.kind_sorted PyProof.Rows.plain_sorted PyProof.Rows.entry_sorted (PyProof.Rows.args_sorted1 _) ?_
  unfold Builtin.«sorted»
  refine wpAny_bind (m := checkCount "sorted" 1 1 _) (wpAny_pure ?_)
  refine wpAny_bind (PySem.W.kdu_collect (A := X.A.in1) (kdl_raw hsm hx hdt) (I.ok.hd hc) ho (by rw [l1, ← l2]; exact small_line hz) fun h' tk acc' kp it => ?_)
  have ea : acc'.toList = ks.map fun x => Value.ref x.2.1 := by
    have hl : acc'.toList.length = ks.length := by rw [Array.length_toList, it.1]; exact l1
    apply List.ext_getElem?
    intro j
    rw [List.getElem?_map]
    cases hj : acc'.toList[j]? with
    | none =>
      have h1 := List.getElem?_eq_none_iff.mp hj
      rw [List.getElem?_eq_none (by omega)]
      all_goals rfl
    | some v =>
      obtain ⟨en, hen, hv⟩ := it.2 j v (by rw [← Array.getElem?_toList]; exact hj)
      have qe := entry_at he j
      rw [hen] at qe
      cases hb : ks[j]? with
      | none =>
        rw [hb] at qe
        exact nomatch (show some en = none from qe)
      | some b =>
        rw [hb] at qe
        have e2 : en = entryOfKey (tupleKind (mixKind X.prog X.w)) b := Option.some.inj qe
        rw [hv, e2]
        all_goals rfl
  have eb : acc'.toList = (ks.map fun x => x.2.1).map Value.ref := by rw [ea, List.map_map]; all_goals rfl
  have hr : Rps X.K H ((ks.map fun x => x.2.1).map V.ref) (m.map fun e => Dt.p e.1.1 e.1.2) := keys_rps pr
  have rv : Vals ((ks.map fun x => x.2.1).map V.ref) acc'.toList := by rw [eb]; exact valsRefs _
  have hal : acc'.toList.length = m.length := by rw [ea, List.length_map, l2]
  have I1 : Inv X pins σ H { s with heap := h', toks := tk } := I.kept (t' := tk) kp
  refine wpAny_bind (wpAny_newList ?_ (by rw [hal]; exact small_line hz))
  have hoL : (h'.push (seqObj "list" acc'.toList.toArray 0)).get? h'.objs.size = some (seqObj "list" acc'.toList.toArray 0) := Heap.get?_push_size _ rfl
  show wpAny _ _ _ _ _ { s with heap := h'.push (seqObj "list" acc'.toList.toArray 0), toks := tk }
  generalize hvs : (ks.map fun x => x.2.1).map V.ref = vs at hr rv
  generalize hds : (m.map fun e => Dt.p e.1.1 e.1.2) = ds at hr hs S
  have hdl : ds.length = m.length := by rw [← hds, List.length_map]
  have hm : ∀ b ∈ vs.zip ds, b.2 ∈ ds := fun b hb => (List.of_mem_zip hb).2
  have hlen : (vs.zip ds).length = ds.length := by rw [List.length_zip, hr.length, Nat.min_self]
  have k2 : ∀ b o, s.heap.get? b = some o → (h'.push (seqObj "list" acc'.toList.toArray 0)).get? b = some o := fun b o e => Heap.get?_push_of_some _ (kp b o e)
  refine wpAny_bind (wpAny_holding (PySem.W.list_sort_data (s := { s with heap := h'.push (seqObj "list" acc'.toList.toArray 0), toks := tk }) (bs := vs.zip ds) (enc := fun b => b.2.py) (R := fun v b => RelV b.1 v) hoL (each_of hr.length rv)
    ((each_reads I k2 hr rv).mono fun v b ⟨as, ra⟩ => ⟨as, ra, by rw [reads_nil _ _ _ ra]; exact List.not_mem_nil⟩) ?_ (.inl fun d hd => ?_) (by rw [hlen, hdl]; exact small_line hz) (fun b hb => ?_) fun out ho' eo => ?_))
  · intro d hd d' hd'
    obtain ⟨b, hb, rfl⟩ := List.mem_map.mp hd
    obtain ⟨b', hb', rfl⟩ := List.mem_map.mp hd'
    exact S.alike _ (hm b hb) _ (hm b' hb')
  · obtain ⟨b, hb, rfl⟩ := List.mem_map.mp hd
    exact S.tup _ (hm b hb)
  · have := S.depth _ (hm b hb)
    show X.A.units + 1 + 1 + _ < cLine
    omega
  · obtain ⟨e', he'⟩ := PyProof.Rows.sortedHeap_at (vs := acc'.toList) (out := out.toArray) hoL
    have rps := sorted_rps S hr
    refine wpAny_pure ⟨_, rfl, .ref h'.objs.size, _, I1.laid (t' := tk) (fun b u e => ?_) (Nat.le_refl _) (show ObjOk X.prog X.w _ _ _ (.lst _) from ⟨?_, out, e', each_vals eo, he'⟩), rfl, q _ _ (I1.hok.fresh (Nat.le_refl _)) rps⟩
    · have hb : b < h'.objs.size := Heap.lt_size e
      rw [PyProof.Rows.sortedHeap_old (Nat.ne_of_lt hb) (by rw [size_push']; exact Nat.lt_succ_of_lt hb)]
      exact Heap.get?_push_of_some _ e
    · rw [rps.length, S.eq, List.length_mergeSort, hdl]
      exact small_line hz
theorem ok_sortL {K : PySem.W.Frag} : C1ok K (rSortL K) cSortL := by
  intro G O H0 H x u c Q fm db r1 e k
  unfold cSortL at e
  split at e
  · split at e
    · rename_i hz
      simp only [Option.map_eq_some_iff] at e
      obtain ⟨es, e1, rfl⟩ := e
      obtain ⟨p, vs, rfl, h, q⟩ := r1.list fm
      exact ⟨p, vs, _, es, rfl, h, q, hz, e1, fun l ws hl hr => k _ _ (Ex.new hl) ⟨l, ws, rfl, db _ hl, upd_same, hr.mono (Ex.new hl).tl⟩⟩
    · cases e
  · cases e
theorem ok_sortD {K : PySem.W.Frag} : C1ok K (rSortD K) cSortM := by
  intro G O H0 H x u c Q fm db r1 e k
  unfold cSortM at e
  split at e
  · split at e
    · rename_i hz
      simp only [Option.map_eq_some_iff] at e
      obtain ⟨es, e1, rfl⟩ := e
      obtain ⟨p, rfl, h⟩ := r1.dict fm
      exact ⟨p, _, es, rfl, h, hz, e1, fun l ws hl hr => k _ _ (Ex.new hl) ⟨l, ws, rfl, db _ hl, upd_same, hr.mono (Ex.new hl).tl⟩⟩
    · cases e
  · cases e
end
end S67

/-! KQ: t[::-1] of a tuple; three names at once; comprehensions over a dict's items. -/
namespace S67
open PySem PySem.Spec PyProof.Rows L2 HT
section
variable {prog : Program} {w : World} {A : Around} {E : Value → Shared → Prop} {s : Shared}
theorem adjust_rev (n : Nat) : Builtin.Slice.sliceAdjust none none (-1) (n : Int) = ((n : Int) - 1, -1) := by
  unfold Builtin.Slice.sliceAdjust
  first
  | rfl
  | simp
theorem places_rev (n : Nat) : Builtin.Slice.slicePlaces ((n : Int) - 1) (-1) (-1) = n := by
  unfold Builtin.Slice.slicePlaces
  have h1 : ¬ ((-1 : Int) > 0) := by decide
  simp only [h1, if_false]
  split
  · have e : ((n : Int) - 1 - -1 - 1) / (- -1) + 1 = (n : Int) := by
      rw [show (- -1 : Int) = 1 by decide, Int.ediv_one]
      omega
    first
    | (rw [e]; exact Int.toNat_natCast n)
    | (simp; omega)
    | omega
  · omega
theorem sliceApplied_rev {sl : Addr} {vl vu vs : Value} {n : Nat} {Q : Int × Int × Nat → Shared → Prop} (hs : s.heap.IsSliceOf sl vl vu vs) (pl : IsPart vl none) (pu : IsPart vu none) (ps : IsPart vs (some (-1)))
    (h : Q ((n : Int) - 1, -1, n) s) : wpAny (model prog w) A (Builtin.Slice.sliceApplied (.ref sl) (pure (n : Int))) Q E s := by
  obtain ⟨os, hos, hcs, hds⟩ := id hs
  unfold Builtin.Slice.sliceApplied Builtin.Slice.sliceFields
  refine wpAny_bind (wpAny_bind (wpAny_field hos hds (x := vl) rfl (wpAny_bind (wpAny_field hos hds (x := vu) rfl (wpAny_bind (wpAny_field hos hds (x := vs) rfl (wpAny_pure ?_)))))))
  refine wpAny_bind (slicePart_ ps ?_)
  show wpAny _ _ (if ((-1 : Int) == 0) = true then _ else _) _ _ s
  rw [if_neg (by decide)]
  refine wpAny_bind (slicePart_ pl (wpAny_bind (slicePart_ pu (wpAny_bind (wpAny_pure ?_)))))
  show wpAny _ _ (match Builtin.Slice.sliceAdjust none none (-1) (n : Int) with | (lo, hi) => pure (lo, (-1 : Int), Builtin.Slice.slicePlaces lo hi (-1))) _ _ s
  rw [adjust_rev n]
  show wpAny _ _ (pure ((n : Int) - 1, (-1 : Int), Builtin.Slice.slicePlaces ((n : Int) - 1) (-1) (-1))) _ _ s
  rw [places_rev]
  exact wpAny_pure h
theorem pick_rev (xs : Array Value) : ((List.range xs.size).filterMap fun (m : Nat) => xs[(((xs.size : Nat) : Int) - 1 + (m : Int) * (-1)).toNat]?).toArray = xs.toList.reverse.toArray := by
  have e : (fun (m : Nat) => xs[(((xs.size : Nat) : Int) - 1 + (m : Int) * (-1)).toNat]?) = fun m => xs[xs.size - 1 - m]? := by
    funext m
    have : (((xs.size : Nat) : Int) - 1 + (m : Int) * (-1)).toNat = xs.size - 1 - m := by omega
    rw [this]
  rw [e]
  have h := PySem.W.krv_all xs
  have h2 : (List.range xs.size).filterMap (fun m => xs[xs.size - 1 - m]?) = ((List.range xs.size).map fun k => xs.size - 1 - k).filterMap (fun m => xs[m]?) := by
    rw [List.filterMap_map]
    rfl
  rw [h2, PySem.W.krv_range, List.filterMap_reverse, h]
theorem getItem_tuple_rev {t sl : Addr} {items : Array Value} {vl vu vs : Value} {Q : Value → Shared → Prop} (ht : IsTup s.heap t items) (hs : s.heap.IsSliceOf sl vl vu vs) (pl : IsPart vl none) (pu : IsPart vu none) (ps : IsPart vs (some (-1)))
    (h : Q (.ref s.heap.objs.size) { s with heap := s.heap.push { cls := .type "tuple", data := .seq items.toList.reverse.toArray } })
    (hsz : items.size ≤ sizeLine) : wpAny (model prog w) A (getItem (.ref t) (.ref sl)) Q E s := by
  have htake : sizeOk (.seq items.toList.reverse.toArray) := by
    show items.toList.reverse.toArray.size ≤ sizeLine
    rw [List.size_toArray, List.length_reverse, Array.length_toList]
    exact hsz
  obtain ⟨os, hos, hcs, hds⟩ := id hs
  have hTs : s.TypeIs (.ref sl) "slice" := ⟨os, hos, hcs⟩
  unfold getItem
  try with_reducible refine wpAny_holding ?_
  first | refine wpAny_bind (wpAny_pure ?_) | skip
  refine wpAny_bind (wpAny_sequenceKey ht.typeIs (by decide) ?_)
  refine wpAny_bind (wpAny_callSpecial?_slot (name := Str.ofString "__getitem__") ht.typeIs PyProof.Rows.slot_tuple_getitem
    (wpAny_call_entry PyProof.Rows.slot_tuple_getitem ht.typeIs entry_tuple_getitem ?_ (args_tuple_getitem _ _)))
  show wpAny _ _ (Builtin.Tuple.tupleItemsOf (.ref t) >>= _) _ _ s
  refine wpAny_bind (tupleItemsOf_ ht ?_)
  refine wpAny_bind (wpAny_typeOf hTs ?_)
  rw [if_pos (by decide)]
  refine wpAny_bind (sliceApplied_rev hs pl pu ps ?_)
  have hno : ¬ ((((items.size : Nat) : Int) - 1 == 0 && (-1 : Int) == 1 && items.size == items.size) = true) := by simp
  show wpAny _ _ (if (((items.size : Nat) : Int) - 1 == 0 && (-1 : Int) == 1 && items.size == items.size) = true then _ else _) _ _ s
  rw [if_neg hno, pick_rev]
  first
    | exact wpAny_bind (m := Builtin.Tuple.tupleExact _) (wpAny_newObj_type (wpAny_pure ⟨_, rfl, wpAny_pure h⟩) htake)
    | exact wpAny_bind (m := Builtin.Tuple.tupleExact _) (wpAny_newObj_type (wpAny_bind (wpAny_pure (wpAny_pure ⟨_, rfl, wpAny_pure h⟩))) htake)
    | exact wpAny_bind (wpAny_bind (m := Builtin.Tuple.tupleExact _) (wpAny_newObj_type (wpAny_pure (wpAny_pure ⟨_, rfl, wpAny_pure h⟩)) htake))
    | exact wpAny_bind (wpAny_bind (m := Builtin.Tuple.tupleExact _) (wpAny_newObj_type (wpAny_pure ⟨_, rfl, wpAny_pure h⟩) htake))
end
section
variable {X : Cx} {a : Expr} {f : SE}
theorem de_rev {k : Nat} {p1 p2 p3 pos : Pos} (ha : DE X a f) : DE X (.Subscript a (.Slice none none (some (.UnaryOp .USub (.Constant (.int 1) k p1) p2)) p3) pos) (s1 oRev f) := by
  refine ⟨fun pins s σ H Q I h => ?_⟩
  obtain ⟨G, O, ρ, c, S, e, q⟩ := h
  simp only [s1, Option.bind_eq_some_iff] at e
  obtain ⟨u, e1, e2⟩ := e
  refine Subscript_ (thn (ha.run pins s σ H (fun x H1 => Ex H H1 ∧ RR X.K G O H H1 x u) I ⟨G, O, ρ, u, S, e1, fun x H1 x1 r1 => ⟨x1, r1⟩⟩) fun v s1 ⟨x, H1, I1, r1, x1, q1⟩ => ?_)
  unfold oRev at e2
  split at e2
  · rename_i ds _
    have e2 := Option.some.inj e2
    subst e2
    have q1 : Rp X.K H1 x (.tup ds) := q1
    cases q1 with
    | @tup t xs _ hx hr =>
      obtain rfl : v = Value.ref t := r1
      have hst : PO X (some (.UnaryOp .USub (.Constant (.int 1) k p1) p2)) (tPart (tUn (rU fun i => .int (-i)) (tC (.int 1)))) := po_some (pe_un un_neg pe_int)
      refine wpAny_Slice (thn (po_none.run pins s1 σ H1 (fun o H2 => o = none ∧ H2 = H1) I1 ⟨rfl, rfl⟩) fun vl s2 ⟨l, H2, I2, pl, el, e2⟩ => ?_)
      subst el e2
      refine thn (po_none.run pins s2 σ H2 (fun o H3 => o = none ∧ H3 = H2) I2 ⟨rfl, rfl⟩) fun vu s3 ⟨u, H3, I3, pu, eu, e3⟩ => ?_
      subst eu e3
      refine thn (hst.run pins s3 σ H3 (fun o H4 => o = some (-1) ∧ H4 = H3) I3 ⟨1, rfl, -1, rfl, rfl, rfl⟩) fun vs s4 ⟨o, H4, I4, ps, eo, e4⟩ => ?_
      subst eo e4
      have I5 : Inv X pins σ H4 { s4 with heap := s4.heap.push { cls := .type "slice", data := .fields #[vl, vu, vs] } } := I4.kept (t' := s4.toks) fun b ob q => Heap.get?_push_of_some _ q
      obtain ⟨its, r, ht, hz⟩ := I5.tuple (SqT.of (K := X.K) hx)
      have hlen := r.length
      show wpAny (model X.prog X.w) X.A (subscriptTail a (.Slice none none (some (.UnaryOp .USub (.Constant (.int 1) k p1) p2)) p3) (.ref t) (.ref s4.heap.objs.size)) (EP X pins σ Q) X.xe { s4 with heap := s4.heap.push { cls := .type "slice", data := .fields #[vl, vu, vs] } }
      refine tail_any (ops := [.ref t, .ref s4.heap.objs.size]) ht.typeIs (PyProof.Rows.slot_tuple_getitem.lookup) ?_ (by with_unfolding_all rfl)
      refine getItem_tuple_rev ht (Heap.IsSliceOf.new _ vl vu vs) pl pu ps ?_ (by rw [List.size_toArray]; omega)
      have hn := I5.hok.fresh (Nat.le_refl _)
      have x2 : Ex H4 (upd H4 _ (.tup xs.reverse)) := Ex.new hn
      refine ⟨.ref _, _, I5.laid (t' := s4.toks) (o := .tup xs.reverse) (fun b ob q => Heap.get?_push_of_some _ q) (Nat.le_refl _) ?_, rfl, q _ _ (x1.trans x2) (Rp.tup upd_same (hr.reverse.mono x2.tl))⟩
      exact ⟨by rw [List.length_reverse]; exact hz, _, r.reverse, ⟨_, Heap.get?_push_size _ rfl, rfl, _, rfl⟩⟩
  · cases e2
end
end S67

/-! KR: comprehensions over the items of a dict that a name owns; three names at once. -/
namespace S67
open PySem PySem.Spec PyProof.Rows L2
theorem pairedL {α β : Type} {F : α → β → Prop} : ∀ {xs : List α} {ys : List β} {i : Nat} {x : α}, Paired F xs ys → xs[i]? = some x → ∃ y, ys[i]? = some y ∧ F x y
  | _, _, _, _, .nil, e => by simp at e
  | _, _, 0, y, .cons h t, e => by
    have e := Option.some.inj e
    subst e
    exact ⟨_, rfl, h⟩
  | _, _, i + 1, y, .cons h t, e => by
    obtain ⟨x, h1, h2⟩ := pairedL t (i := i) (by simpa using e)
    exact ⟨x, by simpa using h1, h2⟩
theorem frzTv {X : Cx} {pins : List (Addr × Obj)} {σ : L2.St} {H : Hp} {s : Shared} {d : Addr} {o : Obj} {kvs : List (List Key × V)} (I : Inv X pins σ H s) (h : H d = some (.frz o (.dT kvs))) :
    (d == sysModules) = false ∧ s.heap.get? d = some o ∧ o.ExactDict ∧ ∃ (es : Array DictEntry) (ep : Nat), o.data = .dict es ep ∧ es.size = kvs.length ∧
      ∀ (i : Nat) (k : List Key) (v : V), kvs[i]? = some (k, v) → ∃ (en : DictEntry) (q : Addr), es[i]? = some en ∧ en.key = .ref q ∧ H q = some (.tup (k.map kV)) ∧ RelV v en.val := by
  obtain ⟨hd, z, hs, xs, pr, o', es, ep, ho, hx, hdt, he, _⟩ := I.hok d _ h
  rw [hd] at ho
  cases ho
  refine ⟨hs, hd, hx, es, ep, hdt, ?_, fun i k v e => ?_⟩
  · have l1 : es.size = xs.length := size_of_entries he
    have l2 : kvs.length = xs.length := Paired.length pr
    omega
  · obtain ⟨b, hb, e1, e2, e3⟩ := pairedL pr e
    have q := entry_at he i
    rw [hb] at q
    exact ⟨_, b.2.1, q, rfl, e2, e3⟩
/-- the items of the locked dict at d, each a new pair -/
def Itit (d : Addr) (o : Obj) (kvs : List (List Key × V)) : It :=
  ⟨fun i H => H d = some (.frz o (.dT kvs)) ∧ i < kvs.length, fun i H x H' => ∃ T k v q, kvs[i]? = some (k, v) ∧ x = .ref T ∧ H T = none ∧ H q = some (.tup (k.map kV)) ∧ H' = upd H T (.tup [.ref q, v]), fun i H => H d = some (.frz o (.dT kvs)) ∧ i = kvs.length⟩
theorem turn_itemsT {P : Program} {w : World} {K : PySem.W.Frag} {elts : List Expr} {kk : Nat} {tpos : Pos} {d it : Addr} {o : Obj} {es : Array DictEntry} {ep : Nat} {kvs : List (List Key × V)} (hdi : d ≠ it) (hod : o.data = .dict es ep) :
    Turn P w K (.Tuple elts kk tpos) (Itit d o kvs) [it] it (fun i h => ∃ ok ov, IsItemIter h it d i es.size ep ok ov) := by
  refine turnN (by simp) (fun i h st c hc => ?_) (fun i h h' st k => ?_) (fun X hP hw hK hh i pins s σ H I hf st hg => ?_) (fun X hP hw hK hh i pins s σ H I hf st hg => ?_) fun A i s Q E h => let ⟨_, _, e⟩ := h; PySem.W.kcp_self e
  · obtain ⟨ok, ov, e⟩ := st
    have e' : c = it := by simpa using hc
    rw [e']
    exact ⟨_, e, fun v z => nomatch z⟩
  · obtain ⟨ok, ov, e⟩ := st
    exact ⟨ok, ov, k it (by simp) _ e⟩
  · subst hP hw hK
    obtain ⟨ok, ov, he⟩ := st
    obtain ⟨hd, hi⟩ := hg
    obtain ⟨hs, hgd, hx, es', ep', hdt, hsz, ent⟩ := frzTv I hd
    obtain ⟨rfl, rfl⟩ := dict_ep hod hdt
    have raw : s.heap.DictRaw d es' ep' := ⟨o, hgd, hx, hdt⟩
    refine ⟨_, _, _, _, _, GoesN.rawItems hh it d hdi es' ep', ⟨⟨ok, ov, he⟩, raw⟩, by omega, by simp, fun v h' hy' st' hk => ?_⟩
    obtain ⟨T, hie, rfl, hT, hTt⟩ := hy'
    obtain ⟨⟨k, x⟩, hkv⟩ : ∃ p, kvs[i]? = some p := ⟨kvs[i], List.getElem?_eq_getElem hi⟩
    obtain ⟨en, q, hen, hkey, hq, hv⟩ := ent i k x hkv
    have e1 : es'[i] = en := by
      rw [Array.getElem?_eq_getElem hie] at hen
      exact Option.some.inj hen
    rw [e1] at hTt
    exact ⟨T, [.ref q, x], [en.key, en.val], rfl, hT, by show 2 ≤ sizeLine; decide, .cons hkey (.cons hv .nil), hTt, st'.1, T, k, x, q, hkv, rfl, I.hok.fresh hT, hq, rfl⟩
  · subst hP hw hK
    obtain ⟨ok, ov, he⟩ := st
    obtain ⟨hd, hi⟩ := hg
    obtain ⟨hs, hgd, hx, es', ep', hdt, hsz, ent⟩ := frzTv I hd
    obtain ⟨rfl, rfl⟩ := dict_ep hod hdt
    have raw : s.heap.DictRaw d es' ep' := ⟨o, hgd, hx, hdt⟩
    have W := GoesN.rawItems (prog := X.prog) (w := X.w) (A := X.A) (elts := elts) (x1 := kk) (pos := tpos) hh it d hdi es' ep'
    have en : es'.size = i := by omega
    have W' : ∃ (fp wr : List Addr) (Y : Nat → Heap → Value → Heap → Prop) (St : Nat → Heap → Prop), GoesN X.prog X.w X.A (.Tuple elts kk tpos) it fp wr es'.size Y St ∧ St es'.size s.heap ∧ ∀ b ∈ wr, b ∈ [it] := ⟨_, _, _, _, W, ⟨⟨ok, ov, by rw [en]; rw [en] at he; exact he⟩, raw⟩, by simp⟩
    rw [en] at W'
    exact W'
theorem walk_itemsT {d : Addr} {o : Obj} {kvs : List (List Key × V)} : Walk (Itit d o kvs) kvs.length (fun H => H d = some (.frz o (.dT kvs))) (fun i H x H' => ∃ T k v q, kvs[i]? = some (k, v) ∧ x = .ref T ∧ H T = none ∧ H q = some (.tup (k.map kV)) ∧ H' = upd H T (.tup [.ref q, v])) :=
  ⟨fun i H hi q => ⟨q, hi⟩, fun H q => ⟨q, rfl⟩, fun i H v H' hi q y => y⟩
def iItemsT (td : TE) : TI := fun σ H R => td σ H fun x H1 => ∃ d o kvs, x = .ref d ∧ H1 d = some (.frz o (.dT kvs)) ∧ R (Itit d o kvs) H1
section
variable {X : Cx} {elt e tg a : Expr} {td : TE} {apos cpos tpos pos p : Pos} {elts : List Expr} {kk : Nat}
theorem pi_itemsT (he : PE X a td) (hbase : attributeBase a "items" X.env (eval a X.env) = eval a X.env := by rfl) (hline : (apos.endLine == cpos.line) = true := by rfl) :
    PI X (.Tuple elts kk tpos) (.Call (.Attribute a "items" apos) [] [] cpos) (iItemsT td) := by
  refine ⟨fun pins s σ H R I h => ?_⟩
  refine wpAny_Call_method (T := "dict") (id := "dict.items") hbase rfl hline F.plainAttrs_dict F.slot_dict_items F.type_dict_items (thn (he.run pins s σ H _ I h) fun u s1 ⟨x, H1, I1, rx, d, o, kvs, ex, hd, q⟩ => ?_)
  subst ex
  obtain rfl : u = Value.ref d := rx
  obtain ⟨hs, hgd, hx, es, ep, hdt, hsz, ent⟩ := frzTv I1 hd
  refine ⟨⟨o, hgd, hx.1⟩, fun a e2 => ?_, ?_⟩
  · cases e2
    exact ⟨o, hgd, hx.2.1⟩
  have I2 : Inv X pins σ H1 { s1 with heap := s1.heap.push { cls := .type "dict_items", data := .fields #[.ref d] } } := I1.kept (t' := s1.toks) fun b ob q => Heap.get?_push_of_some _ q
  have hdlt : d < s1.heap.objs.size := Heap.lt_size hgd
  have fin : wpAny (model X.prog X.w) X.A (pyIter (.ref s1.heap.objs.size)) (PIE X pins σ (.Tuple elts kk tpos) R) X.xe { s1 with heap := s1.heap.push { cls := .type "dict_items", data := .fields #[.ref d] } } := by
    refine DT.iterI (d := d) (es := es) (ep := ep) ⟨_, Heap.get?_push_size _ rfl, rfl, rfl⟩ ⟨o, Heap.get?_push_of_some _ hgd, hx, hdt⟩ (pi_one (tk := s1.toks) I2 _ (turn_itemsT (Nat.ne_of_lt ?_) hdt) ⟨.none, .none, ?_⟩ q)
    · show d < (s1.heap.push _).objs.size
      rw [Heap.size_push]
      exact Nat.lt_succ_of_lt hdlt
    · exact Heap.get?_push_size _ rfl
  show wpAny _ _ (callWith cpos (.builtin "dict.items") [.ref d] [] []) _ X.xe s1
  exact Calls.callWith_builtin rfl (PySem.evalArgs_none (DT.callItems hs ⟨o, hgd, hx, hdt⟩ fin))
theorem RS.lock {K : PySem.W.Frag} {G : Hp} {O : Option Addr} {σ : L2.St} {H : Hp} {r : Rho} (s : RS K G O σ H r) {i : Nat} {kvs : List ((Int × Int) × Int)} (hi : r[i]? = some (some (.m .ow kvs))) : ∃ d, σ[i]? = some (some (.ref d)) ∧ G d = none ∧ H d = some (.dT (cvM kvs)) ∧ ∀ u, RS K G O σ (upd H d u) (r.set i none) := by
  obtain ⟨v, h1, d, rfl, h2, h3⟩ := s.slot i _ hi
  refine ⟨d, h1, h2, h3, fun u => ?_⟩
  have hO : O ≠ some d := fun z => (s.gO d z).1 h2
  have tl : Tl H (upd H d u) := Tl.put h3 fun xs z => nomatch z
  have key : ∀ l a, (r.set i none)[l]? = some (some a) → l ≠ i ∧ r[l]? = some (some a) := fun l a e => by
    by_cases hl : i = l
    · subst hl
      have hil : i < r.length := (List.getElem?_eq_some_iff.mp hi).1
      rw [List.getElem?_set_self hil] at e
      cases e
    · rw [List.getElem?_set_ne hl] at e
      exact ⟨Ne.symm hl, e⟩
  refine ⟨by rw [List.length_set]; exact s.len, fun c w q1 q2 => ?_, fun q hq => ⟨(s.gO q hq).1, ?_⟩, fun j c e => ?_, fun j k c f hjk e1 e2 o1 o2 => s.sep j k c f hjk (key j c e1).2 (key k f e2).2 o1 o2⟩
  · rw [upd_ne (fun z => by rw [z, h2] at q1; cases q1)]
    exact s.ext c w q1 q2
  · rw [upd_ne (fun z => hO (by rw [← z]; exact hq))]
    exact (s.gO q hq).2
  · obtain ⟨hj, e⟩ := key j c e
    obtain ⟨w, q1, q2⟩ := s.slot j c e
    refine ⟨w, q1, ?_⟩
    have hne : ownA c = true → ∀ p', w = .ref p' → p' ≠ d := fun oc p' hv z => by
      subst z
      subst hv
      exact s.sep j i c _ hj e hi oc rfl (by rw [q1, h1])
    unfold RB at q2 ⊢
    split at q2
    · exact q2.mono tl
    · obtain ⟨p, xs, w1, w2, w3, w4⟩ := q2
      exact ⟨p, xs, w1, w2, w3, w4.mono tl⟩
    · obtain ⟨p', xs, w1, w2, w3, w4⟩ := q2
      exact ⟨p', xs, w1, w2, by rw [upd_ne (hne rfl p' w1)]; exact w3, w4.mono tl⟩
    · obtain ⟨p', w1, w2, w3⟩ := q2
      exact ⟨p', w1, w2, by rw [upd_ne (hne rfl p' w1)]; exact w3⟩
    · obtain ⟨p', xs, w1, w2, w3, w4⟩ := q2
      exact ⟨p', xs, w1, w2, by rw [upd_ne (hne rfl p' w1)]; exact w3, w4.mono tl⟩
    · exact q2
    · exact q2
theorem item_rp {K : PySem.W.Frag} {H H' : Hp} {T q : Addr} {e : (Int × Int) × Int} (hT : H T = none) (hq : H q = some (.tup (([Sum.inl e.1.1, Sum.inl e.1.2] : List Key).map kV))) (h : H' = upd H T (.tup [.ref q, .int e.2])) : Ex H H' ∧ Rp K H' (.ref T) (itemD e) := by
  subst h
  have x := Ex.new (o := .tup [.ref q, .int e.2]) hT
  exact ⟨x, Rp.tup upd_same (.cons (Rp.tup (x _ _ hq) (.cons (.int _) (.cons (.int _) .nil))) (.cons (.int _) .nil))⟩
variable {scope : Scope} {own : List (Str × Nat)} {ifs : List Expr} {g : SG} {t : SB} {ee : SE}
theorem tLcItems_of {i : Nat} {vs : List Nat} {σ : L2.St} {H : Hp} {Q : VK} (q : tD X.K (sLcItems i vs g t ee) σ H Q) : tLockE (tLc (iItemsT (tVar i)) (tG X.K vs g) (tT X.K t) (tD X.K ee) vs) σ H Q := by
  obtain ⟨G, O, r, c, s, e1, q⟩ := q
  unfold sLcItems at e1
  split at e1
  · rename_i kvs hr
    split at e1
    · rename_i hz
      simp only [Option.map_eq_some_iff] at e1
      obtain ⟨out, e4, rfl⟩ := e1
      obtain ⟨d, h1, h2, h3, h4⟩ := s.lock hr
      refine ⟨d, _, h3, trivial, fun od => ⟨.ref d, h1, d, od, cvM kvs, rfl, upd_same, fun D hD => ?_⟩⟩
      have s0 := h4 (.frz od (.dT (cvM kvs)))
      generalize hH1 : upd H d (.frz od (.dT (cvM kvs))) = H1 at s0 hD
      have hd1 : H1 d = some (.frz od (.dT (cvM kvs))) := by rw [← hH1]; exact upd_same
      have s1 := s0.wipe vs
      have hlen : (kvs.map itemD).length = (cvM kvs).length := by rw [List.length_map, cvM_length]
      refine lc_it walk_itemsT (LcP X.K H1 g t ee (wipeR (r.set i none) vs) (kvs.map itemD) [] D) ?_ (fun i H2 _ p => p.2.1 _ _ hd1) (fun i x H2 H3 hi p y => ?_) fun H2 p => ?_
      · exact ⟨hD, Ex.new hD, [], [], upd_same, by simp [lcGo], .nil⟩
      · have hil : i < (kvs.map itemD).length := by omega
        have hd : (kvs.map itemD)[i]? = some (kvs.map itemD)[i] := List.getElem?_eq_getElem hil
        obtain ⟨T, k, v, qq, f1, rfl, f3, f4, f5⟩ := y
        have hx : Ex H2 H3 ∧ Rp X.K H3 (.ref T) (kvs.map itemD)[i] := by
          unfold cvM at f1
          rw [List.getElem?_map] at f1 hd
          cases hk : kvs[i]? with
          | none => rw [hk] at f1; cases f1
          | some e =>
            rw [hk] at f1 hd
            have f1 := Option.some.inj f1
            have hd := Option.some.inj hd
            cases f1
            rw [← hd]
            exact item_rp f3 f4 f5
        obtain ⟨x3, hx⟩ := hx
        obtain ⟨p1, p2, acc, o, p3, p4, p5⟩ := p
        exact lc_turn (s1.ex (p2.trans x3)) ⟨p1, p2.trans x3, acc, o, x3 _ _ p3, p4, p5.mono x3.tl⟩ hd hx e4 (fun o ho => by have := lcGo_len e4; simp at this ⊢; omega) fun H' p _ => p
      · obtain ⟨p1, p2, acc, o, p3, p4, p5⟩ := p
        rw [← hlen, List.take_length, e4] at p4
        cases p4
        have hd2 : H2 d = some (.frz od (.dT (cvM kvs))) := p2 _ _ hd1
        have hDd : D ≠ d := fun z => by rw [z, hd1] at p1; cases p1
        refine ⟨hd2, q _ _ (fun a u ha => ?_) ⟨D, acc, rfl, ?_, by rw [upd_ne hDd]; exact p3, p5.mono (Tl.put hd2 fun xs z => nomatch z)⟩⟩
        · by_cases had : a = d
          · subst had
            rw [upd_same, ← h3, ha]
          · rw [upd_ne had]
            refine p2 a u ?_
            rw [← hH1, upd_ne had]
            exact ha
        · have hD := p1
          rw [← hH1, upd_ne hDd] at hD
          exact hD
    · cases e1
  · cases e1
theorem de_lcItems (i : Nat) {x : Str} (hc : X.calm = true) (hN : X.N.Nodup) (ok : BlkOk X.N X.env.scope scope own)
    (hg : ∀ (s : Shared) (H : Hp) (C : Addr) (cl : List (Str × Addr)) (fp : List Addr), DG (X.blk s H scope (compEnvC scope cl C X.env) fp) (own.map (·.2)) (.Tuple elts kk tpos) g) (ht : ∀ (s : Shared) (H : Hp) (C : Addr) (cl : List (Str × Addr)) (fp : List Addr), DTs (X.blk s H scope (compEnvC scope cl C X.env) fp) ifs t)
    (he : ∀ (s : Shared) (H : Hp) (C : Addr) (cl : List (Str × Addr)) (fp : List Addr), DE (X.blk s H scope (compEnvC scope cl C X.env) fp) elt ee)
    (hi : X.N[i]? = some x := by rfl) (hv : Vis X.env.scope x := by first | exact Or.inl rfl | exact Or.inr (Or.inl rfl) | exact Or.inr (Or.inr rfl)) (hd : (x == ("__debug__" : Str)) = false := by decide)
    (hcd : (x == ("__classdict__" : Str)) = false := by decide) (hbase : attributeBase (.Name x p) "items" X.env (eval (.Name x p) X.env) = eval (.Name x p) X.env := by rfl) (hline : (apos.endLine == cpos.line) = true := by rfl)
    (hs : ∀ y, foldedSetIterable (.Call (.Attribute (.Name x p) "items" apos) [] [] cpos) X.env y = pure y := by intro _; rfl) :
    DE X (.ListComp elt [⟨.Tuple elts kk tpos, .Call (.Attribute (.Name x p) "items" apos) [] [] cpos, ifs, 0⟩] scope pos) (sLcItems i (own.map (·.2)) g t ee) :=
  PEw (pe_lock (pe_lc hc hN (pi_itemsT (pe_var hi hv hd hcd) hbase hline) ok hg ht he hs)) fun σ H Q => tLcItems_of
/-! ### three names at once, data -/
variable {b c : Expr} {f1 f2 f3 : SE}
theorem ds_par3 (i j l : Nat) {x y z : Str} {px py pz pt : Pos} {kt k2 pt2} (hc : X.calm = true) (hN : X.N.Nodup) (ha : DE X a f1) (hb : DE X b f2) (hcc : DE X c f3) (hij : i ≠ j := by decide) (hil : i ≠ l := by decide) (hjl : j ≠ l := by decide) (hi : X.N[i]? = some x := by rfl) (hj : X.N[j]? = some y := by rfl) (hl : X.N[l]? = some z := by rfl)
    (hx : X.env.scope.names.lookup x = some .local := by rfl) (hy : X.env.scope.names.lookup y = some .local := by rfl) (hz : X.env.scope.names.lookup z = some .local := by rfl)
    (hs1 : starEach [a, b, c] X.env = (false, eval a X.env) :: starEach [b, c] X.env := by rfl) (hs2 : starEach [b, c] X.env = (false, eval b X.env) :: starEach [c] X.env := by rfl) (hs3 : starEach [c] X.env = (false, eval c X.env) :: starEach [] X.env := by rfl)
    (hw : swappedStores [.Tuple [.Name x px, .Name y py, .Name z pz] kt pt] (.Tuple [a, b, c] k2 pt2) X.env = pure (some [x, y, z]) := by rfl)
    (hs : swapsWithSole [.Tuple [.Name x px, .Name y py, .Name z pz] kt pt] (.Tuple [a, b, c] k2 pt2) pos.line X.env = pure false := by rfl) :
    DS X (.Assign [.Tuple [.Name x px, .Name y py, .Name z pz] kt pt] (.Tuple [a, b, c] k2 pt2) pos) (kPar3 i j l f1 f2 f3) := PSw (ps_par3 hc hN hi hj hl hij hil hjl hx hy hz (da_cons ha (da_cons hb (da_cons hcc da_nil hs3) hs2) hs1) hw hs) fun D σ H ⟨G, O, r, o, s, e, q⟩ => by
  simp only [kPar3, Option.bind_eq_some_iff, Option.map_eq_some_iff] at e
  obtain ⟨x1, ⟨u1, e1, g1⟩, x2, ⟨u2, e2, g2⟩, x3, ⟨u3, e3, g3⟩, rfl⟩ := e
  refine ⟨G, O, r, [u1, u2, u3], s, by simp [seqE, e1, e2, e3], fun vs H1 xx r1 => ?_⟩
  cases r1 with
  | cons r1 rr =>
    cases rr with
    | cons r2 rr =>
      cases rr with
      | cons r3 rr =>
        cases rr
        refine ⟨_, _, _, rfl, q _ H1 G xx.tl (Ex.refl G) ((((s.ex xx).setD i (r1.vdat g1)).setD j (r2.vdat g2)).setD l (r3.vdat g3))⟩
end
end S67

/-! KS: built-ins of two arguments that may turn the box. -/
namespace S67
open PySem PySem.Spec PyProof.Rows L2
section
variable {X : Cx} {a b : Expr} {x y : SX} {pos p : Pos}
theorem dx_call2 {nm : Str} {id : String} {r : List V → Hp → VK → Prop} {h : Av → Av → Option Av} (hc : CallR X (.builtin id) r) (hr : C2ok X.K r h) (hg : Gl X nm) (hm : X.mg nm = none) (hv : bootBuiltins nm = some (.builtin id)) (ha : DX X a x) (hb : DX X b y)
    (hs : starEach [a, b] X.env = (false, eval a X.env) :: starEach [b] X.env := by rfl) (hs2 : starEach [b] X.env = (false, eval b X.env) :: starEach [] X.env := by rfl)
    (hn : nm ≠ "__name__" := by decide) (hdb : (nm == ("__debug__" : Str)) = false := by decide) (hp : (backTo pos (starEach [b] X.env)).any (·.1) = false := by rfl) : DX X (.Call (.Name nm p) [a, b] [] pos) (x2 h x y) :=
  PEw (pe_callB hc hg hm hv (dxa_cons ha (dxa_cons hb dxa_nil hs2) hs) hn hdb hs hp) fun σ H Q q => by
    obtain ⟨G, O, ρ, c, s, e, q⟩ := q
    simp only [x2, Option.bind_eq_some_iff, Option.map_eq_some_iff] at e
    obtain ⟨q1, e1, d1, e2, q2, e3, d2, e4, z, e5, dz, e6, rfl⟩ := e
    rw [vDat_eq e6] at e5
    refine ⟨G, O, ρ, ([d1, d2], q2.2), s, by simp [seqX, e1, e2, e3, e4], fun vs H1 m1 s1 b1 r1 => ?_⟩
    cases r1 with
    | cons r1 rr =>
      cases rr with
      | cons r2 rr =>
        cases rr
        exact hr G O H1 H1 _ _ (.d d1) (.d d2) (.d dz) Q s1.ext (fun _ h => h) r1 r2 e5 fun zv H2 x2 r2 => q zv H2 (m1.trans x2.mo) (s1.ex x2) b1 r2
end
end S67

/-! KT: calls without arguments; isinstance by its classes. -/
namespace S67
open PySem PySem.Spec PyProof.Rows L2
section
variable {X : Cx} {a : Expr} {f : SE} {pos p q p2 p3 p4 : Pos} {kk : Nat}
theorem de_call0 {k : Nat} {fa : Addr} {fd : FuncData} {ps : List Str} {x : Str} {F : FP} (Gk : FnOk X.prog X.w X.K X.mg X.base CX0 k fa fd ps (spP X.K 0 F)) (hr : Room k X.A) (hg : Gl X x) (hm : X.mg x = some (.ref fa)) (hk : PySem.W.keepIn X.K (.ref fa) = true) (hb : Binds X.K fd ps [])
    (hdb : (x == ("__debug__" : Str)) = false := by decide) : DE X (.Call (.Name x p) [] [] pos) (sCall0 F) :=
  PEw (pe_call0 Gk hr hg hm hk hb .nil pass0 hdb) fun σ H Q ⟨G, O, r, c, s, e1, q⟩ =>
    ⟨[], c, rfl, e1, .nil, fun v H2 x2 hv => q v H2 x2 (hv.rr fun p h => h)⟩
theorem de_isInt (hg : Gl X "isinstance") (hmi : X.mg "isinstance" = none) (hgy : Gl X "int") (hmy : X.mg "int" = none) (ha : DE X a f)
    (hs : starEach [a, .Name "int" q] X.env = (false, eval a X.env) :: starEach [.Name "int" q] X.env := by rfl) (hs2 : starEach [Expr.Name "int" q] X.env = (false, eval (.Name "int" q) X.env) :: starEach [] X.env := by rfl) (hp : (backTo pos (starEach [Expr.Name "int" q] X.env)).any (·.1) = false := by rfl) :
    DE X (.Call (.Name "isinstance" p) [a, .Name "int" q] [] pos) (s1 isInt f) :=
  de_isi (T := "int") (fun d c e => by cases d <;> (have e := Option.some.inj e; subst e; exact ⟨_, rfl, by first | decide +kernel | (simp only [tyD]; decide +kernel)⟩)) (fun k ds c e => by have e := Option.some.inj e; subst e; exact ⟨_, rfl, by first | decide +kernel | (simp only [tyD]; decide +kernel)⟩) (fun _ _ => rfl) (fun _ => rfl) hg hmi hgy hmy (by decide +kernel) (by decide) (by decide) ha hs hs2 hp
theorem de_isTup (hg : Gl X "isinstance") (hmi : X.mg "isinstance" = none) (hgy : Gl X "tuple") (hmy : X.mg "tuple" = none) (ha : DE X a f)
    (hs : starEach [a, .Name "tuple" q] X.env = (false, eval a X.env) :: starEach [.Name "tuple" q] X.env := by rfl) (hs2 : starEach [Expr.Name "tuple" q] X.env = (false, eval (.Name "tuple" q) X.env) :: starEach [] X.env := by rfl) (hp : (backTo pos (starEach [Expr.Name "tuple" q] X.env)).any (·.1) = false := by rfl) :
    DE X (.Call (.Name "isinstance" p) [a, .Name "tuple" q] [] pos) (s1 isTup f) :=
  de_isi (T := "tuple") (fun d c e => by cases d <;> (have e := Option.some.inj e; subst e; exact ⟨_, rfl, by first | decide +kernel | (simp only [tyD]; decide +kernel)⟩)) (fun k ds c e => by have e := Option.some.inj e; subst e; exact ⟨_, rfl, by first | decide +kernel | (simp only [tyD]; decide +kernel)⟩) (fun _ _ => rfl) (fun _ => rfl) hg hmi hgy hmy (by decide +kernel) (by decide) (by decide) ha hs hs2 hp
theorem de_isLst (hg : Gl X "isinstance") (hmi : X.mg "isinstance" = none) (hgy : Gl X "list") (hmy : X.mg "list" = none) (ha : DE X a f)
    (hs : starEach [a, .Name "list" q] X.env = (false, eval a X.env) :: starEach [.Name "list" q] X.env := by rfl) (hs2 : starEach [Expr.Name "list" q] X.env = (false, eval (.Name "list" q) X.env) :: starEach [] X.env := by rfl) (hp : (backTo pos (starEach [Expr.Name "list" q] X.env)).any (·.1) = false := by rfl) :
    DE X (.Call (.Name "isinstance" p) [a, .Name "list" q] [] pos) (s1 isLst f) :=
  de_isi (T := "list") (fun d c e => by cases d <;> (have e := Option.some.inj e; subst e; exact ⟨_, rfl, by first | decide +kernel | (simp only [tyD]; decide +kernel)⟩)) (fun k ds c e => by have e := Option.some.inj e; subst e; exact ⟨_, rfl, by first | decide +kernel | (simp only [tyD]; decide +kernel)⟩) (fun _ _ => rfl) (fun _ => rfl) hg hmi hgy hmy (by decide +kernel) (by decide) (by decide) ha hs hs2 hp
theorem de_isBl (hg : Gl X "isinstance") (hmi : X.mg "isinstance" = none) (hgy : Gl X "bool") (hmy : X.mg "bool" = none) (ha : DE X a f)
    (hs : starEach [a, .Name "bool" q] X.env = (false, eval a X.env) :: starEach [.Name "bool" q] X.env := by rfl) (hs2 : starEach [Expr.Name "bool" q] X.env = (false, eval (.Name "bool" q) X.env) :: starEach [] X.env := by rfl) (hp : (backTo pos (starEach [Expr.Name "bool" q] X.env)).any (·.1) = false := by rfl) :
    DE X (.Call (.Name "isinstance" p) [a, .Name "bool" q] [] pos) (s1 isBl f) :=
  de_isi (T := "bool") (fun d c e => by cases d <;> (have e := Option.some.inj e; subst e; exact ⟨_, rfl, by first | decide +kernel | (simp only [tyD]; decide +kernel)⟩)) (fun k ds c e => by have e := Option.some.inj e; subst e; exact ⟨_, rfl, by first | decide +kernel | (simp only [tyD]; decide +kernel)⟩) (fun _ _ => rfl) (fun _ => rfl) hg hmi hgy hmy (by decide +kernel) (by decide) (by decide) ha hs hs2 hp
theorem de_isLT (hg : Gl X "isinstance") (hmi : X.mg "isinstance" = none) (hgy : Gl X "list") (hmy : X.mg "list" = none) (hgy' : Gl X "tuple") (hmy' : X.mg "tuple" = none) (ha : DE X a f)
    (hs : starEach [a, .Tuple [.Name "list" q, .Name "tuple" p3] kk p4] X.env = (false, eval a X.env) :: starEach [.Tuple [.Name "list" q, .Name "tuple" p3] kk p4] X.env := by rfl) (hs2 : starEach [Expr.Tuple [.Name "list" q, .Name "tuple" p3] kk p4] X.env = (false, eval (.Tuple [.Name "list" q, .Name "tuple" p3] kk p4) X.env) :: starEach [] X.env := by rfl)
    (hp : (backTo pos (starEach [Expr.Tuple [.Name "list" q, .Name "tuple" p3] kk p4] X.env)).any (·.1) = false := by rfl) (hs3 : starEach [Expr.Name "list" q, Expr.Name "tuple" p3] X.env = (false, eval (.Name "list" q) X.env) :: starEach [.Name "tuple" p3] X.env := by rfl) (hs4 : starEach [Expr.Name "tuple" p3] X.env = (false, eval (.Name "tuple" p3) X.env) :: starEach [] X.env := by rfl) :
    DE X (.Call (.Name "isinstance" p) [a, .Tuple [.Name "list" q, .Name "tuple" p3] kk p4] [] pos) (s1 isLT f) :=
  de_isi2 (T := "list") (T' := "tuple") (fun d c e => by cases d <;> (have e := Option.some.inj e; subst e; first | exact ⟨false, false, rfl, by first | decide +kernel | (simp only [tyD]; decide +kernel), by first | decide +kernel | (simp only [tyD]; decide +kernel)⟩ | exact ⟨false, true, rfl, by first | decide +kernel | (simp only [tyD]; decide +kernel), by first | decide +kernel | (simp only [tyD]; decide +kernel)⟩ | exact ⟨true, false, rfl, by first | decide +kernel | (simp only [tyD]; decide +kernel), by first | decide +kernel | (simp only [tyD]; decide +kernel)⟩)) (fun k ds c e => by have e := Option.some.inj e; subst e; exact ⟨true, false, rfl, by first | decide +kernel | (simp only [tyD]; decide +kernel), by first | decide +kernel | (simp only [tyD]; decide +kernel)⟩) (fun _ _ => rfl) (fun _ => rfl) hg hmi hgy hmy (by decide +kernel) (by decide) (by decide) hgy' hmy' (by decide +kernel) (by decide) (by decide) ha hs hs2 hp hs3 hs4
theorem de_isBS (hg : Gl X "isinstance") (hmi : X.mg "isinstance" = none) (hgy : Gl X "bool") (hmy : X.mg "bool" = none) (hgy' : Gl X "str") (hmy' : X.mg "str" = none) (ha : DE X a f)
    (hs : starEach [a, .Tuple [.Name "bool" q, .Name "str" p3] kk p4] X.env = (false, eval a X.env) :: starEach [.Tuple [.Name "bool" q, .Name "str" p3] kk p4] X.env := by rfl) (hs2 : starEach [Expr.Tuple [.Name "bool" q, .Name "str" p3] kk p4] X.env = (false, eval (.Tuple [.Name "bool" q, .Name "str" p3] kk p4) X.env) :: starEach [] X.env := by rfl)
    (hp : (backTo pos (starEach [Expr.Tuple [.Name "bool" q, .Name "str" p3] kk p4] X.env)).any (·.1) = false := by rfl) (hs3 : starEach [Expr.Name "bool" q, Expr.Name "str" p3] X.env = (false, eval (.Name "bool" q) X.env) :: starEach [.Name "str" p3] X.env := by rfl) (hs4 : starEach [Expr.Name "str" p3] X.env = (false, eval (.Name "str" p3) X.env) :: starEach [] X.env := by rfl) :
    DE X (.Call (.Name "isinstance" p) [a, .Tuple [.Name "bool" q, .Name "str" p3] kk p4] [] pos) (s1 isBS f) :=
  de_isi2 (T := "bool") (T' := "str") (fun d c e => by cases d <;> (have e := Option.some.inj e; subst e; first | exact ⟨false, false, rfl, by first | decide +kernel | (simp only [tyD]; decide +kernel), by first | decide +kernel | (simp only [tyD]; decide +kernel)⟩ | exact ⟨false, true, rfl, by first | decide +kernel | (simp only [tyD]; decide +kernel), by first | decide +kernel | (simp only [tyD]; decide +kernel)⟩ | exact ⟨true, false, rfl, by first | decide +kernel | (simp only [tyD]; decide +kernel), by first | decide +kernel | (simp only [tyD]; decide +kernel)⟩)) (fun k ds c e => by have e := Option.some.inj e; subst e; exact ⟨false, false, rfl, by first | decide +kernel | (simp only [tyD]; decide +kernel), by first | decide +kernel | (simp only [tyD]; decide +kernel)⟩) (fun _ _ => rfl) (fun _ => rfl) hg hmi hgy hmy (by decide +kernel) (by decide) (by decide) hgy' hmy' (by decide +kernel) (by decide) (by decide) ha hs hs2 hp hs3 hs4
theorem lexLtI_eq : ∀ xs ys : List Int, HT.lexLt xs ys = lexLtI xs ys
  | [], [] => rfl
  | [], _ :: _ => rfl
  | _ :: _, [] => rfl
  | x :: xs, y :: ys => by
    rw [HT.lexLt, lexLtI, lexLtI_eq xs ys]
def rLtX (K : PySem.W.Frag) : R2 := fun x y H Q => (∃ i j, x = .int i ∧ y = .int j ∧ Q (.bl (decide (i < j))) H) ∨ rLtT K x y H Q
theorem op_ltX (hu : X.A.units + 64 < cLine) : OpR X (compareOp .Lt) (rLtX X.K) := (op_lt : OpR X (compareOp .Lt) _).or (op_ltT (by omega))
theorem ok_ltX {K : PySem.W.Frag} : R2ok K (rLtX K) oLtX := by
  intro G O H0 H x y u v c Q _ _ r1 r2 e k
  unfold oLtX at e
  split at e
  · have e := Option.some.inj e
    subst e
    exact .inl ⟨_, _, r1.int, r2.int, k _ H (Ex.refl H) (Rp.bl _)⟩
  · simp only [Option.bind_eq_some_iff, Option.map_eq_some_iff] at e
    obtain ⟨ns, e1, ms, e2, rfl⟩ := e
    have r1 : Rp K H x (.tup _) := r1
    have r2 : Rp K H y (.tup _) := r2
    cases r1 with
    | tup a1 a2 =>
      cases r2 with
      | tup b1 b2 =>
        rw [a2.ints e1] at a1
        rw [b2.ints e2] at b1
        refine .inr ⟨_, _, ns, ms, rfl, rfl, SqT.of a1, SqT.of b1, ?_⟩
        rw [lexLtI_eq]
        exact k _ H (Ex.refl H) (Rp.bl _)
  · cases e
theorem ok_pow {K : PySem.W.Frag} : R2ok K (rI CPow fun i j => .int (i ^ j.toNat)) oPow := ok_oI (C := fun i j => 0 ≤ j ∧ j ≤ 1000000 ∧ i.natAbs < 2 ^ 64)
variable {b c : Expr} {f1 f2 f3 : SE}
/-- three names at once, by way of the tuple -/
theorem ds_par3U (i j l : Nat) {x y z : Str} {px py pz pt : Pos} {kt k2 pt2} (hc : X.calm = true) (hN : X.N.Nodup) (ha : DE X a f1) (hb : DE X b f2) (hcc : DE X c f3) (hi : X.N[i]? = some x := by rfl) (hj : X.N[j]? = some y := by rfl) (hl : X.N[l]? = some z := by rfl)
    (hx : Loc X.env.scope x := by first | exact Or.inl rfl | exact Or.inr rfl) (hy : Loc X.env.scope y := by first | exact Or.inl rfl | exact Or.inr rfl) (hz : Loc X.env.scope z := by first | exact Or.inl rfl | exact Or.inr rfl)
    (hfx : X.fn x = true ∨ X.env.scope.names.lookup x = some .local := by first | exact .inl rfl | exact .inr rfl) (hfy : X.fn y = true ∨ X.env.scope.names.lookup y = some .local := by first | exact .inl rfl | exact .inr rfl) (hfz : X.fn z = true ∨ X.env.scope.names.lookup z = some .local := by first | exact .inl rfl | exact .inr rfl)
    (hs1 : starEach [a, b, c] X.env = (false, eval a X.env) :: starEach [b, c] X.env := by rfl) (hs2 : starEach [b, c] X.env = (false, eval b X.env) :: starEach [c] X.env := by rfl) (hs3 : starEach [c] X.env = (false, eval c X.env) :: starEach [] X.env := by rfl)
    (hs : swapsWithSole [.Tuple [.Name x px, .Name y py, .Name z pz] kt pt] (.Tuple [a, b, c] k2 pt2) pos.line X.env = pure false := by rfl) (hw : swappedStores [.Tuple [.Name x px, .Name y py, .Name z pz] kt pt] (.Tuple [a, b, c] k2 pt2) X.env = pure none := by rfl)
    (h1 : (assignEach [.Tuple [.Name x px, .Name y py, .Name z pz] kt pt] X.env).map (·.2) = [assign (.Tuple [.Name x px, .Name y py, .Name z pz] kt pt) X.env] := by rfl) (h2 : (assignEach [Expr.Name x px, Expr.Name y py, Expr.Name z pz] X.env).map (·.2) = assign (.Name x px) X.env :: (assignEach [Expr.Name y py, Expr.Name z pz] X.env).map (·.2) := by rfl)
    (h3 : (assignEach [Expr.Name y py, Expr.Name z pz] X.env).map (·.2) = assign (.Name y py) X.env :: (assignEach [Expr.Name z pz] X.env).map (·.2) := by rfl) (h4 : (assignEach [Expr.Name z pz] X.env).map (·.2) = assign (.Name z pz) X.env :: (assignEach [] X.env).map (·.2) := by rfl)
    (h5 : (assignEach [Expr.Name x px, Expr.Name y py, Expr.Name z pz] X.env).length = 3 := by rfl) (h6 : (assignEach [Expr.Name x px, Expr.Name y py, Expr.Name z pz] X.env).findIdx? (·.1) = none := by rfl) :
    DS X (.Assign [.Tuple [.Name x px, .Name y py, .Name z pz] kt pt] (.Tuple [a, b, c] k2 pt2) pos) (kPar3 i j l f1 f2 f3) := PSw (ps_asg (pe_tup (da_cons ha (da_cons hb (da_cons hcc da_nil hs3) hs2) hs1)) (pg_tup hc (pgs_cons (pg_name hN hi hx hfx) (pgs_cons (pg_name hN hj hy hfy) (pgs_cons (pg_name hN hl hz hfz) pgs_nil h4) h3) h2) h5 h6) hs hw h1) fun D σ H ⟨G, O, r, o, s, e, q⟩ => by
  simp only [kPar3, Option.bind_eq_some_iff, Option.map_eq_some_iff] at e
  obtain ⟨x1, ⟨u1, e1, g1⟩, x2, ⟨u2, e2, g2⟩, x3, ⟨u3, e3, g3⟩, rfl⟩ := e
  refine ⟨G, O, r, [u1, u2, u3], s, by simp [seqE, e1, e2, e3], fun vs H1 xx r1 => ⟨?_, fun p hp => ?_⟩⟩
  · rw [Paired.length r1]
    show 3 ≤ sizeLine
    decide
  · cases r1 with
    | @cons v1 _ _ _ r1 rr =>
      cases rr with
      | @cons v2 _ _ _ r2 rr =>
        cases rr with
        | @cons v3 _ _ _ r3 rr =>
          cases rr
          have x4 : Ex H1 (upd H1 p (.tup [v1, v2, v3])) := Ex.new hp
          refine ⟨p, _, rfl, SqT.of upd_same, rfl, _, _, rfl, _, _, rfl, _, [], rfl, rfl, ?_⟩
          have t := (xx.trans x4).tl
          exact q _ _ G t (Ex.refl G) ((((s.ex (xx.trans x4)).setD i ((r1.vdat g1).mono x4.tl)).setD j ((r2.vdat g2).mono x4.tl)).setD l ((r3.vdat g3).mono x4.tl))
end
end S67

/-! the meaning of each def, printed by gen.py -/
namespace S67
/-- all_work: names 0:lot 1:window 2:work -/
def g_all_work : SS := (kRet (s1 cSum (sLc [1, 2] (iSeq (s2 oIxS (sVar 0) (sK (.i 1)))) (gTp [(gNm 1), (gNm 2)]) bYes (sVar 2))))
def F_all_work : FP := runP 3 g_all_work
/-- fewest_rows: names 0:hours -/
def g_fewest_rows : SS := (kRet (sIf (bOf (s2 oEq (sVar 0) (sK (.i 1)))) (sK (.i 1)) (s2 oFdiv (s2 oAdd (sVar 0) (sK (.i 3))) (sK (.i 2)))))
def F_fewest_rows : FP := runP 1 g_fewest_rows
/-- all_stretches: names 0:hours 1:first 2:last -/
def g_all_stretches : SS := (kRet (sLc2 [1, 2] [2] (iRange1 (sVar 0)) (gNm 1) bYes (iRange2 (sVar 1) (sVar 0)) (gNm 2) bYes (sTup [(sVar 1), (sVar 2)])))
def F_all_stretches : FP := runP 3 g_all_stretches
/-- spans_in_row: names 0:hours 1:row 2:corners 3:found 4:first 5:last 6:side -/
def g_spans_in_row : SS := (kSeq (kPar 2 3 (xP (s2 oAdd (sVar 0) (sK (.i 2)))) (xP (sLst [])))
  (kSeq (kFor [] (iSeq (sCall F_all_stretches [(sVar 0)])) (gTp [(gNm 4), (gNm 5)]) (kSeq (kSet 6 (xP (s2 oMod (s2 oAdd (s2 oAdd (sVar 4) (sVar 5)) (sK (.i 2))) (sVar 2))))
  (kIf (xBP (bOr (bOf (s2 oEq (sTup [(sVar 4), (sVar 5)]) (sTup [(sK (.i 0)), (s2 oSub (sVar 0) (sK (.i 1)))]))) (bOf (s2 oIn (sVar 6) (sTup [(s2 oMod (s2 oMul (sK (.i 2)) (sVar 1)) (sVar 2)), (s2 oMod (s2 oAdd (s2 oMul (sK (.i 2)) (sVar 1)) (sK (.i 1))) (sVar 2))]))))) (kApp 3 (xP (sTup [(sVar 4), (sVar 5)]))) kNil)))
  (kRet (sVar 3))))
def F_spans_in_row : FP := runP 7 g_spans_in_row
/-- powers: names 0:base 1:many 2:found 3:turn -/
def g_powers : SS := (kSeq (kSet 2 (xP (sLst [(sK (.i 1))])))
  (kSeq (kFor [] (iRange1 (s2 oSub (sVar 1) (sK (.i 1)))) (gNm 3) (kApp 2 (xP (s2 oMul (s2 oIxS (sVar 2) (s1 oNeg (sK (.i 1)))) (sVar 0)))))
  (kRet (sVar 2))))
def F_powers : FP := runP 4 g_powers
/-- beside: names 0:prices 1:hour -/
def g_beside : SS := (kRet (sIf (bOf (sCh2 oLe oLt (sK (.i 0)) (sVar 1) (s1 cLen (sVar 0)))) (s2 oIxS (sVar 0) (sVar 1)) (sK (.i 0))))
def F_beside : FP := runP 2 g_beside
/-- weight_of: names 0:prices 1:first 2:last -/
def g_weight_of : SS := (kRet (s2 oSub (s1 cMin (sCut (sVar 0) (pYes (sVar 1)) (pYes (s2 oAdd (sVar 2) (sK (.i 1)))))) (s2 cMax2 (sCall F_beside [(sVar 0), (s2 oSub (sVar 1) (sK (.i 1)))]) (sCall F_beside [(sVar 0), (s2 oAdd (sVar 2) (sK (.i 1)))]))))
def F_weight_of : FP := runP 3 g_weight_of
/-- weights_of: names 0:prices 1:spans 2:span 3:weight -/
def g_weights_of : SS := (kSeq (kSet 1 (xP (sLc [2] (iSeq (sCall F_all_stretches [(s1 cLen (sVar 0))])) (gNm 2) bYes (sTup [(sVar 2), (sCall F_weight_of [(sVar 0), (s2 oIxS (sVar 2) (sK (.i 0))), (s2 oIxS (sVar 2) (sK (.i 1)))])]))))
  (kRet (s1 cTuple (sLc [2, 3] (iSeq (sVar 1)) (gTp [(gNm 2), (gNm 3)]) (bOf (s2 oGt (sVar 3) (sK (.i 0)))) (sTup [(sVar 2), (sVar 3)])))))
def F_weights_of : FP := runP 4 g_weights_of
/-- prices_of: names 0:hours 1:weights 2:found 3:told 4:weight 5:hour 6:first 7:last -/
def g_prices_of : SS := (kSeq (kSet 2 (xP (s2 oMul (sLst [(sK (.i 0))]) (sVar 0))))
  (kSeq (kFor [] (iSeq (sVar 1)) (gTp [(gTp [(gNm 6), (gNm 7)]), (gNm 4)]) (kFor [] (iRange2 (sVar 6) (s2 oAdd (sVar 7) (sK (.i 1)))) (gNm 5) (kAug 2 (sVar 5) (sVar 4))))
  (kSeq (kSet 3 (xP (s1 cSortL (sLc [4, 6, 7] (iSeq (sVar 1)) (gTp [(gTp [(gNm 6), (gNm 7)]), (gNm 4)]) bYes (sTup [(sTup [(sVar 6), (sVar 7)]), (sVar 4)])))))
  (kRet (sIf (bOf (s2 oEq (s1 cList (sCall F_weights_of [(sVar 2)])) (sVar 3))) (s1 cTuple (sVar 2)) (sK (.d .non)))))))
def F_prices_of : FP := runP 8 g_prices_of
/-- telling_rows: names 0:hours 1:most 2:found 3:row 4:spans -/
def g_telling_rows : SS := (kSeq (kSet 2 (xP (sLst [])))
  (kSeq (kFor [] (iRange1 (sCall F_fewest_rows [(sVar 0)])) (gNm 3) (kSeq (kSet 4 (xP (sCall F_spans_in_row [(sVar 0), (sVar 3)])))
  (kApp 2 (xP (sCall F_prices_of [(sVar 0), (sListZip (sVar 4) (sCall F_powers [(s2 oAdd (sVar 1) (sK (.i 1))), (s1 cLen (sVar 4))]))])))))
  (kRet (s1 cTuple (sVar 2)))))
def F_telling_rows : FP := runP 5 g_telling_rows
/-- check_fit: names 0:lot 1:numbers -/
def g_check_fit : SS := (kIf (xBP (bOf (s2 oNe (s1 cLen (sVar 1)) (s2 oIxS (sVar 0) (sK (.i 0)))))) kNever kNil)
def F_check_fit : FP := runP 2 g_check_fit
/-- cheapest: names 0:lot 1:prices 2:work 3:first 4:last -/
def g_cheapest : SS := (kSeq (kExpr (sCall F_check_fit [(sVar 0), (sVar 1)]))
  (kRet (s1 cSum (sLc [2, 3, 4] (iSeq (s2 oIxS (sVar 0) (sK (.i 1)))) (gTp [(gTp [(gNm 3), (gNm 4)]), (gNm 2)]) bYes (s2 oMul (sVar 2) (s1 cMin (sCut (sVar 1) (pYes (sVar 3)) (pYes (s2 oAdd (sVar 4) (sK (.i 1)))))))))))
def F_cheapest : FP := runP 5 g_cheapest
/-- bills_of: names 0:lot 1:rows 2:prices -/
def g_bills_of : SS := (kRet (s1 cTuple (sLc [2] (iSeq (sVar 1)) (gNm 2) bYes (sCall F_cheapest [(sVar 0), (sVar 2)]))))
def F_bills_of : FP := runP 3 g_bills_of
/-- figures_of: names 0:number 1:base 2:many 3:found 4:turn -/
def g_figures_of : SS := (kSeq (kSet 3 (xP (sLst [])))
  (kSeq (kFor [] (iRange1 (sVar 2)) (gNm 4) (kSeq (kApp 3 (xP (s2 oMod (sVar 0) (sVar 1))))
  (kSet 0 (xP (s2 oFdiv (sVar 0) (sVar 1))))))
  (kRet (sIf (bOf (s2 oEq (sVar 0) (sK (.i 0)))) (sVar 3) (sK (.d .non))))))
def F_figures_of : FP := runP 5 g_figures_of
/-- singles: names 0:hours 1:table 2:spots 3:known 4:found 5:first 6:last 7:less -/
def g_singles : SS := (kSeq (kSet 2 (xP (sCall F_all_stretches [(sVar 0)])))
  (kSeq (kPar 3 4 (xP (sDictZip (sVar 2) (sVar 1))) (xP (sLst [])))
  (kSeq (kFor [2] (iSeq (sVar 2)) (gTp [(gNm 5), (gNm 6)]) (kSeq (kSet 7 (xP (s2 oAdd (s3 oGet (sVar 3) (sTup [(s2 oAdd (sVar 5) (sK (.i 1))), (sVar 6)]) (sK (.i 0))) (s3 oGet (sVar 3) (sTup [(sVar 5), (s2 oSub (sVar 6) (sK (.i 1)))]) (sK (.i 0))))))
  (kApp 4 (xP (s2 oAdd (s2 oSub (s2 oIxM (sVar 3) (sTup [(sVar 5), (sVar 6)])) (sVar 7)) (s3 oGet (sVar 3) (sTup [(s2 oAdd (sVar 5) (sK (.i 1))), (s2 oSub (sVar 6) (sK (.i 1)))]) (sK (.i 0))))))))
  (kRet (s1 cTuple (sVar 4))))))
def F_singles : FP := runP 8 g_singles
/-- lot_of: names 0:hours 1:table 2:alone 3:spot 4:work -/
def g_lot_of : SS := (kSeq (kSet 2 (xP (sCall F_singles [(sVar 0), (sVar 1)])))
  (kSeq (kIf (xBP (bOf (s2 oLt (s1 cMin (sVar 2)) (sK (.i 0))))) (kRet (sK (.d .non))) kNil)
  (kRet (sTup [(sVar 0), (s1 cTuple (sLc [3, 4] (iZip2 (sCall F_all_stretches [(sVar 0)]) (sVar 2)) (gTp [(gNm 3), (gNm 4)]) (bOf (s2 oGt (sVar 4) (sK (.i 0)))) (sTup [(sVar 3), (sVar 4)])))]))))
def F_lot_of : FP := runP 5 g_lot_of
/-- lot_by_bills: names 0:hours 1:most 2:bills 3:known 4:row 5:bill 6:spans 7:figures 8:span 9:figure -/
def g_lot_by_bills : SS := (kSeq (kSet 3 (xP sDictE))
  (kSeq (kFor [] (iEnum (sVar 2)) (gTp [(gNm 4), (gNm 5)]) (kSeq (kSet 6 (xP (sCall F_spans_in_row [(sVar 0), (sVar 4)])))
  (kSeq (kSet 7 (xP (sCall F_figures_of [(sVar 5), (s2 oAdd (sVar 1) (sK (.i 1))), (s1 cLen (sVar 6))])))
  (kSeq (kIf (xBP (bOf (s2 oIs (sVar 7) (sK (.d .non))))) (kRet (sK (.d .non))) kNil)
  (kFor [6, 7] (iZip2 (sVar 6) (sVar 7)) (gTp [(gNm 8), (gNm 9)]) (kSeq (kIf (xBP (bOf (s2 oNe (s3 oGet (sVar 3) (sVar 8) (sVar 9)) (sVar 9)))) (kRet (sK (.d .non))) kNil)
  (kPutM 3 (sVar 8) (xP (sVar 9)))))))))
  (kRet (sCall F_lot_of [(sVar 0), (sLc [8] (iSeq (sCall F_all_stretches [(sVar 0)])) (gNm 8) bYes (s2 oIxM (sVar 3) (sVar 8)))]))))
def F_lot_by_bills : FP := runP 10 g_lot_by_bills
/-- _law_same: names 0:_law_got 1:_law_due_so 2:_law_mine 3:_law_its -/
def g_law_same (F : FP) : SS := (kSeq (kIf (xBP (bOf (s1 isLT (sVar 1)))) (kSeq (kIf (xBP (bOr (bOf (s2 oNe (s1 isLst (sVar 0)) (s1 isLst (sVar 1)))) (bOf (s2 oNe (s1 isTup (sVar 0)) (s1 isTup (sVar 1)))))) (kRet (sK (.b false))) kNil)
  (kRet (sAnd (s2 oEq (s1 cLen (sVar 0)) (s1 cLen (sVar 1))) (s1 cAll (sLc [2, 3] (iZip2 (sVar 0) (sVar 1)) (gTp [(gNm 2), (gNm 3)]) bYes (sCall F [(sVar 2), (sVar 3)])))))) kNil)
  (kSeq (kIf (xBP (bOr (bOf (s2 oIs (sVar 1) (sK (.d .non)))) (bOf (s1 isBS (sVar 1))))) (kRet (sAnd (s2 oEq (sVar 0) (sVar 1)) (sAnd (s2 oEq (s1 isBl (sVar 0)) (s1 isBl (sVar 1))) (s2 oEq (s2 oIs (sVar 0) (sK (.d .non))) (s2 oIs (sVar 1) (sK (.d .non))))))) kNil)
  (kRet (sAnd (s1 isInt (sVar 0)) (sAnd (sNot (s1 isBl (sVar 0))) (s2 oEq (sVar 0) (sVar 1)))))))
def F_law_same : Nat → FP
  | 0 => runP 4 kNever
  | n + 1 => runP 4 (g_law_same (F_law_same n))
/-- check_stretch: names 0:hours 1:first 2:last -/
def g_check_stretch : SS := (kIf (xBP (bNot (bOf (sCh3 oLe oLe oLt (sK (.i 0)) (sVar 1) (sVar 2) (sVar 0))))) kNever kNil)
def F_check_stretch : FP := runP 3 g_check_stretch
/-- lies_within: names 0:one 1:other -/
def g_lies_within : SS := (kRet (sAnd (s2 oLe (s2 oIxS (sVar 1) (sK (.i 0))) (s2 oIxS (sVar 0) (sK (.i 0)))) (s2 oLe (s2 oIxS (sVar 0) (sK (.i 1))) (s2 oIxS (sVar 1) (sK (.i 1))))))
def F_lies_within : FP := runP 2 g_lies_within
/-- asked: names 0:lot 1:first 2:last 3:window 4:work -/
def g_asked : SS := (kSeq (kExpr (sCall F_check_stretch [(s2 oIxS (sVar 0) (sK (.i 0))), (sVar 1), (sVar 2)]))
  (kRet (s1 cSum (sLc [3, 4] (iSeq (s2 oIxS (sVar 0) (sK (.i 1)))) (gTp [(gNm 3), (gNm 4)]) (bOf (sCall F_lies_within [(sVar 3), (sTup [(sVar 1), (sVar 2)])])) (sVar 4)))))
def F_asked : FP := runP 5 g_asked
/-- table_of: names 0:lot 1:first 2:last -/
def g_table_of : SS := (kRet (s1 cTuple (sLc [1, 2] (iSeq (sCall F_all_stretches [(s2 oIxS (sVar 0) (sK (.i 0)))])) (gTp [(gNm 1), (gNm 2)]) bYes (sCall F_asked [(sVar 0), (sVar 1), (sVar 2)]))))
def F_table_of : FP := runP 3 g_table_of
/-- check_rows: names 0:hours 1:rows 2:prices -/
def g_check_rows : SS := (kFor [] (iSeq (sVar 1)) (gNm 2) (kIf (xBP (bOf (s2 oNe (s1 cLen (sVar 2)) (sVar 0)))) kNever kNil))
def F_check_rows : FP := runP 3 g_check_rows
/-- seen: names 0:prices 1:span 2:weight -/
def g_seen : SS := (kRet (s1 cTuple (sLc [1, 2] (iSeq (sCall F_weights_of [(sVar 0)])) (gTp [(gNm 1), (gNm 2)]) bYes (sVar 1))))
def F_seen : FP := runP 3 g_seen
/-- unseen: names 0:hours 1:rows 2:told 3:prices 4:span -/
def g_unseen : SS := (kSeq (kExpr (sCall F_check_rows [(sVar 0), (sVar 1)]))
  (kSeq (kSet 2 (xP (sLc2 [3, 4] [4] (iSeq (sVar 1)) (gNm 3) bYes (iSeq (sCall F_seen [(sVar 3)])) (gNm 4) bYes (sVar 4))))
  (kRet (s1 cTuple (sLc [4] (iSeq (sCall F_all_stretches [(sVar 0)])) (gNm 4) (bOf (s2 oNotIn (sVar 4) (sVar 2))) (sVar 4))))))
def F_unseen : FP := runP 5 g_unseen
/-- made_lot: names 0:hours 1:errands 2:found 3:work 4:first 5:last 6:window -/
def g_made_lot : SS := (kSeq (kSet 2 (xP sDictE))
  (kSeq (kFor [] (iSeq (sVar 1)) (gTp [(gTp [(gNm 4), (gNm 5)]), (gNm 3)]) (kSeq (kExpr (sCall F_check_stretch [(sVar 0), (sVar 4), (sVar 5)]))
  (kPutM 2 (sTup [(sVar 4), (sVar 5)]) (xP (s2 oAdd (s3 oGet (sVar 2) (sTup [(sVar 4), (sVar 5)]) (sK (.i 0))) (sVar 3))))))
  (kRet (sTup [(sVar 0), (s1 cTuple (s1 cSortL (sLcItems 2 [6, 3] (gTp [(gNm 6), (gNm 3)]) (bOf (s2 oGt (sVar 3) (sK (.i 0)))) (sTup [(sVar 6), (sVar 3)]))))]))))
def F_made_lot : FP := runP 7 g_made_lot
/-- pair_at: names 0:hours 1:first 2:last 3:mine 4:its 5:left 6:right -/
def g_pair_at : SS := (kSeq (kPar 5 6 (xP (s2 oGt (sVar 1) (sK (.i 0)))) (xP (s2 oLt (sVar 2) (s2 oSub (sVar 0) (sK (.i 1))))))
  (kSeq (kSet 3 (xP (s2 oAdd (s2 oMul (sLst [(sTup [(sTup [(s2 oSub (sVar 1) (sK (.i 1))), (sVar 2)]), (sK (.i 1))])]) (s1 cInt (sVar 5))) (s2 oMul (sLst [(sTup [(sTup [(sVar 1), (s2 oAdd (sVar 2) (sK (.i 1)))]), (sK (.i 1))])]) (s1 cInt (sVar 6))))))
  (kSeq (kSet 4 (xP (s2 oAdd (sLst [(sTup [(sTup [(sVar 1), (sVar 2)]), (sK (.i 1))])]) (s2 oMul (sLst [(sTup [(sTup [(s2 oSub (sVar 1) (sK (.i 1))), (s2 oAdd (sVar 2) (sK (.i 1)))]), (sK (.i 1))])]) (s1 cInt (sAnd (sVar 5) (sVar 6)))))))
  (kRet (sTup [(sCall F_made_lot [(sVar 0), (sVar 3)]), (sCall F_made_lot [(sVar 0), (sVar 4)])])))))
def F_pair_at : FP := runP 7 g_pair_at
/-- blind_pair: names 0:hours 1:rows 2:found -/
def g_blind_pair : SS := (kSeq (kSet 2 (xP (sCall F_unseen [(sVar 0), (sVar 1)])))
  (kRet (sIf (bOf (s2 oGt (s1 cLen (sVar 2)) (sK (.i 0)))) (sCall F_pair_at [(sVar 0), (s2 oIxS (s2 oIxS (sVar 2) (sK (.i 0))) (sK (.i 0))), (s2 oIxS (s2 oIxS (sVar 2) (sK (.i 0))) (sK (.i 1)))]) (sK (.d .non)))))
def F_blind_pair : FP := runP 3 g_blind_pair
/-- is_number: names 0:thing -/
def g_is_number : SS := (kRet (sAnd (s1 isInt (sVar 0)) (sNot (s1 isBl (sVar 0)))))
def F_is_number : FP := runP 1 g_is_number
/-- are_numbers: names 0:thing 1:size 2:least 3:own -/
def g_are_numbers : SS := (kRet (sAnd (s1 isTup (sVar 0)) (sAnd (s2 oEq (s1 cLen (sVar 0)) (sVar 1)) (s1 cAll (sLc [3] (iSeq (sVar 0)) (gNm 3) bYes (sAnd (sCall F_is_number [(sVar 3)]) (s2 oGe (sVar 3) (sVar 2))))))))
def F_are_numbers : FP := runP 4 g_are_numbers
/-- is_errand: names 0:hours 1:thing 2:window -/
def g_is_errand : SS := (kSeq (kIf (xBP (bOr (bNot (bOf (s1 isTup (sVar 1)))) (bOr (bOf (s2 oNe (s1 cLen (sVar 1)) (sK (.i 2)))) (bOr (bNot (bOf (sCall F_is_number [(s2 oIxS (sVar 1) (sK (.i 1)))]))) (bOf (s2 oLt (s2 oIxS (sVar 1) (sK (.i 1))) (sK (.i 1)))))))) (kRet (sK (.b false))) kNil)
  (kSeq (kSet 2 (xP (s2 oIxS (sVar 1) (sK (.i 0)))))
  (kRet (sAnd (sCall F_are_numbers [(sVar 2), (sK (.i 2)), (sK (.i 0))]) (sCh2 oLe oLt (s2 oIxS (sVar 2) (sK (.i 0))) (s2 oIxS (sVar 2) (sK (.i 1))) (sVar 0))))))
def F_is_errand : FP := runP 3 g_is_errand
/-- rises: names 0:things 1:one 2:other -/
def g_rises : SS := (kRet (s1 cAll (sLc [1, 2] (iZip2 (sVar 0) (sCut (sVar 0) (pYes (sK (.i 1))) pNo)) (gTp [(gNm 1), (gNm 2)]) bYes (s2 oLtX (sVar 1) (sVar 2)))))
def F_rises : FP := runP 3 g_rises
/-- is_lot: names 0:thing 1:window 2:work 3:own -/
def g_is_lot : SS := (kSeq (kIf (xBP (bOr (bNot (bOf (s1 isTup (sVar 0)))) (bOr (bOf (s2 oNe (s1 cLen (sVar 0)) (sK (.i 2)))) (bOr (bNot (bOf (sCall F_is_number [(s2 oIxS (sVar 0) (sK (.i 0)))]))) (bOf (s2 oLt (s2 oIxS (sVar 0) (sK (.i 0))) (sK (.i 1)))))))) (kRet (sK (.b false))) kNil)
  (kSeq (kIf (xBP (bOr (bNot (bOf (s1 isTup (s2 oIxS (sVar 0) (sK (.i 1)))))) (bNot (bOf (s1 cAll (sLc [3] (iSeq (s2 oIxS (sVar 0) (sK (.i 1)))) (gNm 3) bYes (sCall F_is_errand [(s2 oIxS (sVar 0) (sK (.i 0))), (sVar 3)]))))))) (kRet (sK (.b false))) kNil)
  (kRet (sCall F_rises [(sLc [1, 2] (iSeq (s2 oIxS (sVar 0) (sK (.i 1)))) (gTp [(gNm 1), (gNm 2)]) bYes (sVar 1))]))))
def F_is_lot : FP := runP 4 g_is_lot
/-- is_blind_pair: names 0:hours 1:rows 2:thing 3:own -/
def g_is_blind_pair : SS := (kSeq (kExpr (sCall F_check_rows [(sVar 0), (sVar 1)]))
  (kSeq (kIf (xBP (bOr (bNot (bOf (s1 isTup (sVar 2)))) (bOr (bOf (s2 oNe (s1 cLen (sVar 2)) (sK (.i 2)))) (bNot (bOf (s1 cAll (sLc [3] (iSeq (sVar 2)) (gNm 3) bYes (sCall F_is_lot [(sVar 3)])))))))) (kRet (sK (.b false))) kNil)
  (kSeq (kIf (xBP (bOr (bOf (s2 oEq (s2 oIxS (sVar 2) (sK (.i 0))) (s2 oIxS (sVar 2) (sK (.i 1))))) (bOf (s2 oNe (sTup [(s2 oIxS (s2 oIxS (sVar 2) (sK (.i 0))) (sK (.i 0))), (s2 oIxS (s2 oIxS (sVar 2) (sK (.i 1))) (sK (.i 0)))]) (sTup [(sVar 0), (sVar 0)]))))) (kRet (sK (.b false))) kNil)
  (kRet (s2 oEq (sCall F_bills_of [(s2 oIxS (sVar 2) (sK (.i 0))), (sVar 1)]) (sCall F_bills_of [(s2 oIxS (sVar 2) (sK (.i 1))), (sVar 1)]))))))
def F_is_blind_pair : FP := runP 4 g_is_blind_pair
/-- check_same: names 0:one 1:other -/
def g_check_same : SS := (kIf (xBP (bOf (s2 oNe (s2 oIxS (sVar 0) (sK (.i 0))) (s2 oIxS (sVar 1) (sK (.i 0)))))) kNever kNil)
def F_check_same : FP := runP 2 g_check_same
/-- differences: names 0:one 1:other 2:found 3:mine 4:its 5:first 6:last -/
def g_differences : SS := (kSeq (kExpr (sCall F_check_same [(sVar 0), (sVar 1)]))
  (kSeq (kSet 2 (xP (sLst [])))
  (kSeq (kFor [] (iZip3 (sCall F_all_stretches [(s2 oIxS (sVar 0) (sK (.i 0)))]) (sCall F_table_of [(sVar 0)]) (sCall F_table_of [(sVar 1)])) (gTp [(gTp [(gNm 5), (gNm 6)]), (gNm 3), (gNm 4)]) (kApp 2 (xP (sTup [(sVar 5), (sVar 6), (s2 oSub (sVar 3) (sVar 4))]))))
  (kRet (sVar 2)))))
def F_differences : FP := runP 7 g_differences
/-- compare: names 0:one 1:other 2:found 3:first 4:last 5:more -/
def g_compare : SS := (kSeq (kSet 2 (xP (sLc [3, 4, 5] (iSeq (sCall F_differences [(sVar 0), (sVar 1)])) (gTp [(gNm 3), (gNm 4), (gNm 5)]) bYes (sVar 5))))
  (kSeq (kIf (xBP (bOf (s1 cAll (sLc [5] (iSeq (sVar 2)) (gNm 5) bYes (s2 oEq (sVar 5) (sK (.i 0))))))) (kRet (sK (.d (.str "alike")))) kNil)
  (kSeq (kIf (xBP (bOf (s1 cAll (sLc [5] (iSeq (sVar 2)) (gNm 5) bYes (s2 oLe (sVar 5) (sK (.i 0))))))) (kRet (sK (.d (.str "lighter")))) kNil)
  (kRet (sIf (bOf (s1 cAll (sLc [5] (iSeq (sVar 2)) (gNm 5) bYes (s2 oGe (sVar 5) (sK (.i 0)))))) (sK (.d (.str "heavier"))) (sK (.d (.str "neither"))))))))
def F_compare : FP := runP 6 g_compare
/-- over: names 0:one 1:other 2:first 3:last 4:more -/
def g_over : SS := (kRet (sLc [2, 3, 4] (iSeq (sCall F_differences [(sVar 0), (sVar 1)])) (gTp [(gNm 2), (gNm 3), (gNm 4)]) (bOf (s2 oGt (sVar 4) (sK (.i 0)))) (sTup [(sVar 2), (sVar 3), (sVar 4)])))
def F_over : FP := runP 5 g_over
/-- _law_pair_right: names 0:_law_mine_so 1:_law_its_so 2:_law_rows_so 3:_law_bills_so 4:_law_got 5:_law_told 6:_law_size_so 7:_law_most_so 8:_law_own 9:_law_one_so 10:_law_two_so -/
def g_law_pair_right : SS := (kSeq (kPar 6 7 (xP (s2 oIxS (sVar 0) (sK (.i 0)))) (xP (s3 cMax3 (sK (.i 2)) (sCall F_all_work [(sVar 0)]) (sCall F_all_work [(sVar 1)]))))
  (kSeq (kSet 2 (xP (sCall F_telling_rows [(sVar 6), (sVar 7)])))
  (kSeq (kSet 3 (xP (sLc [8] (iSeq (sTup [(sVar 0), (sVar 1)])) (gNm 8) bYes (sCall F_bills_of [(sVar 8), (sVar 2)]))))
  (kSeq (kSet 4 (xP (sLc [8] (iSeq (sVar 3)) (gNm 8) bYes (sCall F_lot_by_bills [(sVar 6), (sVar 7), (sVar 8)]))))
  (kSeq (kIf (xBP (bOr (bNot (bOf (sCall (F_law_same 8) [(sVar 4), (sLst [(sVar 0), (sVar 1)])]))) (bOf (s2 oNe (s2 oEq (s2 oIxS (sVar 3) (sK (.i 0))) (s2 oIxS (sVar 3) (sK (.i 1)))) (s2 oEq (sVar 0) (sVar 1)))))) (kRet (sK (.b false))) kNil)
  (kSeq (kIf (xBP (bNot (bOf (sCall (F_law_same 8) [(sLst [(sCall F_table_of [(s2 oIxS (sVar 4) (sK (.i 0)))]), (sCall F_lot_of [(sVar 6), (sCall F_table_of [(s2 oIxS (sVar 4) (sK (.i 1)))])])]), (sLst [(sCall F_table_of [(sVar 0)]), (sVar 1)])])))) (kRet (sK (.b false))) kNil)
  (kSeq (kSet 4 (xP (sLst [(s1 cLen (sVar 2)), (sCall F_unseen [(sVar 6), (sVar 2)]), (sCall F_blind_pair [(sVar 6), (sVar 2)]), (sCall F_is_blind_pair [(sVar 6), (sVar 2), (sTup [(sVar 0), (sVar 1)])])])))
  (kSeq (kIf (xBP (bNot (bOf (sCall (F_law_same 8) [(sVar 4), (sLst [(sCall F_fewest_rows [(sVar 6)]), (sTup []), (sK (.d .non)), (sK (.b false))])])))) (kRet (sK (.b false))) kNil)
  (kSeq (kIf (xBP (bAnd (bOf (s2 oEq (sCall F_compare [(sVar 0), (sVar 1)]) (sK (.d (.str "lighter"))))) (bNot (bOf (s1 cAll (sLc [9, 10] (iZip2 (s2 oIxS (sVar 3) (sK (.i 0))) (s2 oIxS (sVar 3) (sK (.i 1)))) (gTp [(gNm 9), (gNm 10)]) bYes (s2 oLe (sVar 9) (sVar 10)))))))) (kRet (sK (.b false))) kNil)
  (kSeq (kSet 5 (xP (sCall F_blind_pair [(sVar 6), (sCut (sVar 2) (pYes (sK (.i 1))) pNo)])))
  (kSeq (kIf (xBP (bOr (bOf (s2 oIs (sVar 5) (sK (.d .non)))) (bNot (bOf (sCall F_is_blind_pair [(sVar 6), (sCut (sVar 2) (pYes (sK (.i 1))) pNo), (sVar 5)]))))) (kRet (sK (.b false))) kNil)
  (kRet (s2 oEq (s2 oAdd (s1 cLen (sCall F_over [(s2 oIxS (sVar 5) (sK (.i 0))), (s2 oIxS (sVar 5) (sK (.i 1)))])) (s1 cLen (sCall F_over [(s2 oIxS (sVar 5) (sK (.i 1))), (s2 oIxS (sVar 5) (sK (.i 0)))]))) (sK (.i 1)))))))))))))))
def F_law_pair_right : FP := runP 11 g_law_pair_right
/-- behind: names 0:lot 1:last 2:work 3:early 4:late -/
def g_behind : SS := (kSeq (kSet 1 (xP (s2 oSub (s2 oIxS (sVar 0) (sK (.i 0))) (sK (.i 1)))))
  (kRet (sCall F_made_lot [(s2 oIxS (sVar 0) (sK (.i 0))), (sLc [2, 3, 4] (iSeq (s2 oIxS (sVar 0) (sK (.i 1)))) (gTp [(gTp [(gNm 3), (gNm 4)]), (gNm 2)]) bYes (sTup [(sTup [(s2 oSub (sVar 1) (sVar 4)), (s2 oSub (sVar 1) (sVar 3))]), (sVar 2)]))])))
def F_behind : FP := runP 5 g_behind
/-- _law_fees_right: names 0:_law_lot_so 1:_law_fees_so 2:_law_paid_so 3:_law_got 4:_law_due_so 5:_law_mirror_so 6:_law_dark_so 7:_law_pairs_so 8:_law_last_so 9:_law_own 10:_law_much_so -/
def g_law_fees_right : SS := (kSeq (kPar 7 8 (xP (sCall F_weights_of [(sVar 1)])) (xP (s2 oSub (s2 oIxS (sVar 0) (sK (.i 0))) (sK (.i 1)))))
  (kSeq (kSet 2 (xP (s1 cSum (sLc [9, 10] (iSeq (sVar 7)) (gTp [(gNm 9), (gNm 10)]) bYes (s2 oMul (sVar 10) (sCall F_asked [(sVar 0), (s2 oIxS (sVar 9) (sK (.i 0))), (s2 oIxS (sVar 9) (sK (.i 1)))]))))))
  (kSeq (kSet 3 (xP (sLst [(sVar 2), (sCall F_prices_of [(s2 oIxS (sVar 0) (sK (.i 0))), (sVar 7)]), (sCall F_seen [(sVar 1)]), (sCall F_bills_of [(sVar 0), (sTup [(sVar 1)])])])))
  (kSeq (kSet 4 (xP (sLst [(sCall F_cheapest [(sVar 0), (sVar 1)]), (s1 cTuple (sVar 1)), (s1 cTuple (sLc [9, 10] (iSeq (sVar 7)) (gTp [(gNm 9), (gNm 10)]) bYes (sVar 9))), (sTup [(sVar 2)])])))
  (kSeq (kSet 5 (xP (sLc [9, 10] (iSeq (sVar 7)) (gTp [(gNm 9), (gNm 10)]) bYes (sTup [(sTup [(s2 oSub (sVar 8) (s2 oIxS (sVar 9) (sK (.i 1)))), (s2 oSub (sVar 8) (s2 oIxS (sVar 9) (sK (.i 0))))]), (sVar 10)]))))
  (kSeq (kSet 3 (xP (s2 oAdd (sVar 3) (sLst [(sCall F_weights_of [(s1 oRev (sVar 1))]), (sCall F_bills_of [(sCall F_behind [(sVar 0)]), (sTup [(s1 oRev (sVar 1)), (sVar 1)])])]))))
  (kSeq (kSet 4 (xP (s2 oAdd (sVar 4) (sLst [(s1 cTuple (s1 cSortL (sVar 5))), (sTup [(sVar 2), (sCall F_cheapest [(sVar 0), (s1 oRev (sVar 1))])])]))))
  (kSeq (kSet 6 (xP (sLc [9] (iSeq (sCall F_all_stretches [(s2 oIxS (sVar 0) (sK (.i 0)))])) (gNm 9) (bOf (s2 oNotIn (sVar 9) (sCall F_seen [(sVar 1)]))) (sVar 9))))
  (kRet (sCall (F_law_same 8) [(s2 oAdd (sVar 3) (sLst [(sCall F_unseen [(s2 oIxS (sVar 0) (sK (.i 0))), (sTup [(sVar 1)])])])), (s2 oAdd (sVar 4) (sLst [(s1 cTuple (sVar 6))]))]))))))))))
def F_law_fees_right : FP := runP 11 g_law_fees_right
/-- _law_spans: names 0:_law_size_so 1:_law_found 2:_law_near_so 3:_law_far_so -/
def g_law_spans : SS := (kSeq (kSet 1 (xP (sLst [])))
  (kSeq (kFor [] (iRange1 (sVar 0)) (gNm 2) (kSet 1 (xP (s2 oAdd (sVar 1) (sLc [3] (iRange2 (sVar 2) (sVar 0)) (gNm 3) bYes (sTup [(sVar 2), (sVar 3)]))))))
  (kRet (sVar 1))))
def F_law_spans : FP := runP 4 g_law_spans
/-- _law_by_hand_right: names 0:_law_one_so 1:_law_lots_so 2:_law_near_so 3:_law_nest_so 4:_law_wide_so 5:_law_two_so 6:_law_own 7:_law_span_so 8:_law_hour_so -/
def g_law_by_hand_right : SS := (kSeq (kPar3 2 3 4 (sTup [(sK (.i 3)), (sTup [(sTup [(sTup [(sK (.i 0)), (sK (.i 1))]), (sK (.i 1))]), (sTup [(sTup [(sK (.i 1)), (sK (.i 2))]), (sK (.i 1))])])]) (sTup [(sK (.i 3)), (sTup [(sTup [(sTup [(sK (.i 0)), (sK (.i 2))]), (sK (.i 1))]), (sTup [(sTup [(sK (.i 1)), (sK (.i 1))]), (sK (.i 1))])])]) (sTup [(sK (.i 3)), (sTup [(sTup [(sTup [(sK (.i 0)), (sK (.i 2))]), (sK (.i 2))])])]))
  (kSeq (kFor [] (iSeq (sTup [(sVar 2), (sVar 3), (sVar 4), (sTup [(sK (.i 3)), (sTup [])])])) (gNm 0) (kFor [] (iSeq (sTup [(sVar 2), (sVar 3), (sTup [(sK (.i 3)), (sTup [(sTup [(sTup [(sK (.i 2)), (sK (.i 2))]), (sK (.i 7))])])])])) (gNm 5) (kIf (xBP (bOr (bNot (bOf (sCall F_law_pair_right [(sVar 0), (sVar 5)]))) (bOr (bNot (bOf (sCall F_law_fees_right [(sVar 0), (sTup [(sK (.i 2)), (sK (.i 5)), (sK (.i 1))])]))) (bNot (bOf (sCall F_law_fees_right [(sVar 5), (sTup [(sK (.i 0)), (sK (.i 3)), (sK (.i 3))])])))))) (kRet (sK (.b false))) kNil)))
  (kSeq (kSet 1 (xP (sLc [6] (iRange2 (sK (.i 1)) (sK (.i 9))) (gNm 6) bYes (sTup [(sVar 6), (s1 cTuple (sLc [7] (iSeq (sCall F_law_spans [(sVar 6)])) (gNm 7) bYes (sTup [(sVar 7), (sK (.i 1))])))]))))
  (kSeq (kIf (xBP (bNot (bOf (s1 cAll (sLc [6] (iSeq (sVar 1)) (gNm 6) bYes (sCall F_law_pair_right [(sVar 6), (sTup [(s2 oIxS (sVar 6) (sK (.i 0))), (sTup [])])])))))) (kRet (sK (.b false))) kNil)
  (kRet (s1 cAll (sLc [6] (iSeq (sVar 1)) (gNm 6) bYes (sCall F_law_fees_right [(sVar 6), (s1 cTuple (sLc [8] (iRange1 (s2 oIxS (sVar 6) (sK (.i 0)))) (gNm 8) bYes (s2 oMod (s2 oAdd (s2 oMul (sK (.i 7)) (sVar 8)) (sK (.i 3))) (sK (.i 11)))))]))))))))
def F_law_by_hand_right : FP := runP 9 g_law_by_hand_right
/-- _law_cells: names 0:_law_script 1:_law_most_so 2:_law_cells_here 3:_law_k 4:_law_cell 5:_law_at_so -/
def g_law_cells : SS := (kSeq (kSet 2 (xP (sOrL (s1 cList (sCut (sVar 0) pNo (pYes (sVar 1)))) (sLst [(sK (.i 0))]))))
  (kSeq (kFor [] (iEnum (sCut (sVar 0) (pYes (sVar 1)) (pYes (sK (.i 63))))) (gTp [(gNm 3), (gNm 4)]) (kSeq (kSet 5 (xP (s2 oMod (s1 cInt (sVar 3)) (sVar 1))))
  (kPutL 2 (sVar 5) (xP (s2 oAdd (s2 oIxS (sVar 2) (sVar 5)) (s2 oMul (sVar 4) (s2 oAdd (sVar 3) (sK (.i 2)))))))))
  (kRet (sVar 2))))
def F_law_cells : FP := runP 6 g_law_cells
/-- _law_box: names 0:_law_script 1:_law_k 2:_law_cell -/
def g_law_box : SS := (kSeq (kSet 2 (xP (sIf (bOf (s2 oLt (sVar 1) (s1 cLen (sVar 0)))) (s2 oIxS (sVar 0) (sVar 1)) (sK (.i 0)))))
  (kRet (sLst [(s2 oMul (s1 cAbs (sVar 2)) (s1 cInt (s2 oGe (s1 cAbs (sVar 2)) (s2 oPow (sK (.i 10)) (sK (.i 18)))))), (s2 oAdd (s2 oAdd (s2 oMod (s1 cInt (sVar 2)) (sK (.i 2305843009213693951))) (s2 oMul (sK (.i 39373)) (sVar 1))) (sK (.i 69671))), (sK (.i 0))])))
def F_law_box : FP := runP 3 g_law_box
/-- _law_take: names 0:_law_box_here 1:_law_below_so 2:_law_once 3:_law_far_so 4:_law_twice_so 5:_law_drawn_so -/
def g_law_take : SS := (kSeq (kIf (xBP (bOf (s2 oGt (s2 oIxS (sVar 0) (sK (.i 0))) (sK (.i 0))))) (kSeq (kSet 5 (xP (s2 oMod (s1 cInt (s2 oIxS (sVar 0) (sK (.i 0)))) (sVar 1))))
  (kSeq (kPutL 0 (sK (.i 0)) (xP (s2 oFdiv (s2 oIxS (sVar 0) (sK (.i 0))) (sVar 1))))
  (kRet (sVar 5)))) kNil)
  (kSeq (kPutL 0 (sK (.i 2)) (xP (s2 oAdd (s2 oIxS (sVar 0) (sK (.i 2))) (sK (.i 1)))))
  (kSeq (kSet 2 (xP (s2 oMod (s1 cInt (s2 oMul (s2 oAdd (s2 oIxS (sVar 0) (sK (.i 1))) (s2 oMul (sK (.i 48271)) (s2 oIxS (sVar 0) (sK (.i 2))))) (s2 oAdd (sK (.i 39373)) (s2 oIxS (sVar 0) (sK (.i 2)))))) (sK (.i 2147483647)))))
  (kSeq (kSet 3 (xP (s2 oAdd (s2 oMod (s1 cInt (sVar 2)) (sK (.i 40009))) (sK (.i 7)))))
  (kSeq (kSet 4 (xP (s2 oMod (s1 cInt (s2 oMul (s2 oAdd (s2 oAdd (sVar 2) (s2 oIxS (sVar 0) (sK (.i 2)))) (s2 oFdiv (s2 oIxS (sVar 0) (sK (.i 1))) (sK (.i 1000003)))) (sVar 3))) (sK (.i 2147483629)))))
  (kRet (s2 oMod (s1 cInt (s2 oFdiv (s2 oMod (s1 cInt (s2 oAdd (s2 oMul (sVar 4) (sK (.i 48271))) (sVar 2))) (sK (.i 2147483587))) (sK (.i 64)))) (sVar 1))))))))
def F_law_take : FB := runB 6 g_law_take
/-- _law_of: names 0:_law_box_here 1:_law_pool_so -/
def g_law_of : SS := (kRetX (xIx 1 (xCallBP 0 F_law_take [(s1 cLen (sVar 1))])))
def F_law_of : FB := runB 2 g_law_of
/-- _law_great: names 0:_law_box_here 1:_law_size_so 2:_law_found 3:_law_span_so 4:_law_many_so -/
def g_law_great : SS := (kSeq (kSet 2 (xP (sLst [])))
  (kSeq (kFor [] (iSeq (sCall F_law_spans [(sVar 1)])) (gNm 3) (kSeq (kSet 4 (xCallB 0 F_law_take [(xCallBP 0 F_law_of [(sLst [(sK (.i 1)), (sK (.i 2)), (sK (.i 10)), (s2 oPow (sK (.i 10)) (sK (.i 6))), (s2 oPow (sK (.i 10)) (sK (.i 38)))])])]))
  (kIf (xBP (bOf (s2 oGt (sVar 4) (sK (.i 0))))) (kApp 2 (xP (sTup [(sVar 3), (sVar 4)]))) kNil)))
  (kRet (sTup [(sVar 1), (s1 cTuple (sVar 2))]))))
def F_law_great : FB := runB 5 g_law_great
/-- _law_lot: names 0:_law_box_here 1:_law_size_so 2:_law_top_so 3:_law_span_so 4:_law_sort_so 5:_law_found 6:_law_many_so -/
def g_law_lot : SS := (kSeq (kPar 4 5 (xCallBP 0 F_law_take [(sK (.i 4))]) (xP (sLst [])))
  (kSeq (kFor [] (iSeq (sCall F_law_spans [(sVar 1)])) (gNm 3) (kSeq (kSet 6 (xIf (xBOr (xBP (bOf (s2 oLt (sVar 4) (sK (.i 1))))) (xBOf (x2 oEq (xCallBP 0 F_law_take [(s2 oAdd (sK (.i 1)) (sVar 4))]) (xP (sK (.i 0)))))) (xCallBP 0 F_law_take [(s2 oAdd (sVar 2) (sK (.i 1)))]) (xP (sK (.i 0)))))
  (kIf (xBP (bOf (s2 oGt (sVar 6) (sK (.i 0))))) (kApp 5 (xP (sTup [(sVar 3), (sVar 6)]))) kNil)))
  (kRet (sTup [(sVar 1), (s1 cTuple (sVar 5))]))))
def F_law_lot : FB := runB 7 g_law_lot
/-- _law_table: names 0:_law_lot_so 1:_law_found 2:_law_span_so 3:_law_many_so -/
def g_law_table : SS := (kSeq (kSet 1 (xP (s1 cDict (sLc [2] (iSeq (sCall F_law_spans [(s2 oIxS (sVar 0) (sK (.i 0)))])) (gNm 2) bYes (sTup [(sVar 2), (sK (.i 0))])))))
  (kSeq (kFor [] (iSeq (s2 oIxS (sVar 0) (sK (.i 1)))) (gTp [(gNm 2), (gNm 3)]) (kPutM 1 (sVar 2) (xP (sVar 3))))
  (kRet (sVar 1))))
def F_law_table : FP := runP 4 g_law_table
/-- _law_made: names 0:_law_size_so 1:_law_table_so 2:_law_own -/
def g_law_made : SS := (kRet (sTup [(sVar 0), (s1 cTuple (sLc [2] (iSeq (s1 cSortM (sVar 1))) (gNm 2) (bOf (s2 oGt (s2 oIxM (sVar 1) (sVar 2)) (sK (.i 0)))) (sTup [(sVar 2), (s2 oIxM (sVar 1) (sVar 2))])))]))
def F_law_made : FP := runP 3 g_law_made
/-- _law_moved: names 0:_law_box_here 1:_law_lot_so 2:_law_laps_so 3:_law_turn 4:_law_table_so 5:_law_last_so 6:_law_some 7:_law_sort_so 8:_law_own 9:_law_far_so 10:_law_one_so 11:_law_two_so 12:_law_near_so 13:_law_sign_so -/
def g_law_moved : SS := (kSeq (kPar 4 5 (xP (sCall F_law_table [(sVar 1)])) (xP (s2 oSub (s2 oIxS (sVar 1) (sK (.i 0))) (sK (.i 1)))))
  (kSeq (kFor [] (iRange1 (sVar 2)) (gNm 3) (kSeq (kSet 6 (xP (sLc [8] (iSeq (s1 cSortM (sVar 4))) (gNm 8) (bOf (s2 oGt (s2 oIxM (sVar 4) (sVar 8)) (sK (.i 0)))) (sVar 8))))
  (kSeq (kSet 7 (xCallBP 0 F_law_take [(sK (.i 5))]))
  (kIf (xBP (bOr (bOf (s2 oEq (sVar 6) (sLst []))) (bOf (s2 oEq (sVar 7) (sK (.i 0)))))) (kSeq (kSet 8 (xCallBP 0 F_law_of [(sCall F_law_spans [(s2 oIxS (sVar 1) (sK (.i 0)))])]))
  (kPutM 4 (sVar 8) (x2 oAdd (xP (s2 oAdd (s2 oIxM (sVar 4) (sVar 8)) (sK (.i 1)))) (xCallBP 0 F_law_take [(sK (.i 2))])))) (kIf (xBP (bOf (s2 oEq (sVar 7) (sK (.i 1))))) (kSeq (kSet 8 (xCallBP 0 F_law_of [(sVar 6)]))
  (kPutM 4 (sVar 8) (xP (s2 oSub (s2 oIxM (sVar 4) (sVar 8)) (sK (.i 1)))))) (kIf (xBP (bOf (s2 oEq (sVar 7) (sK (.i 2))))) (kSeq (kSet 8 (xCallBP 0 F_law_of [(sVar 6)]))
  (kSeq (kSet 9 (xTup [(x2 cMax2 (xP (sK (.i 0))) (x2 oSub (xP (s2 oIxS (sVar 8) (sK (.i 0)))) (xCallBP 0 F_law_take [(sK (.i 2))]))), (x2 cMin2 (xP (sVar 5)) (x2 oAdd (xP (s2 oIxS (sVar 8) (sK (.i 1)))) (xCallBP 0 F_law_take [(sK (.i 2))])))]))
  (kSeq (kPutM 4 (sVar 8) (xP (s2 oSub (s2 oIxM (sVar 4) (sVar 8)) (sK (.i 1)))))
  (kPutM 4 (sVar 9) (xP (s2 oAdd (s2 oIxM (sVar 4) (sVar 9)) (sK (.i 1)))))))) (kSeq (kPar 10 11 (xCallBP 0 F_law_of [(sVar 6)]) (xCallBP 0 F_law_of [(sVar 6)]))
  (kIf (xBP (bAnd (bOf (s2 oNe (sVar 10) (sVar 11))) (bAnd (bOf (s2 oLe (s2 oIxS (sVar 10) (sK (.i 0))) (s2 oIxS (sVar 11) (sK (.i 1))))) (bOf (s2 oLe (s2 oIxS (sVar 11) (sK (.i 0))) (s2 oIxS (sVar 10) (sK (.i 1)))))))) (kSeq (kPar 12 9 (xP (sTup [(s2 oIxS (sVar 10) (sK (.i 0))), (s2 oIxS (sVar 11) (sK (.i 1)))])) (xP (sTup [(s2 oIxS (sVar 11) (sK (.i 0))), (s2 oIxS (sVar 10) (sK (.i 1)))])))
  (kFor [] (iSeq (sTup [(sTup [(sVar 10), (s1 oNeg (sK (.i 1)))]), (sTup [(sVar 11), (s1 oNeg (sK (.i 1)))]), (sTup [(sVar 12), (sK (.i 1))]), (sTup [(sVar 9), (sK (.i 1))])])) (gTp [(gNm 8), (gNm 13)]) (kPutM 4 (sVar 8) (xP (s2 oAdd (s2 oIxM (sVar 4) (sVar 8)) (sVar 13)))))) kNil))))))))
  (kRet (sCall F_law_made [(s2 oIxS (sVar 1) (sK (.i 0))), (sVar 4)]))))
def F_law_moved : FB := runB 14 g_law_moved
/-- _law_hands: names 0:_law_box_here 1:_law_size_so 2:_law_top_so 3:_law_found 4:_law_turn -/
def g_law_hands : SS := (kSeq (kSet 3 (xP (sLst [])))
  (kSeq (kFor [] (iRange1 (sVar 1)) (gNm 4) (kApp 3 (xIf (xBOf (x2 oGt (xCallBP 0 F_law_take [(sK (.i 4))]) (xP (sK (.i 0))))) (xCallBP 0 F_law_take [(s2 oAdd (sVar 2) (sK (.i 1)))]) (xP (sK (.i 0))))))
  (kRet (s1 cTuple (sVar 3)))))
def F_law_hands : FB := runB 5 g_law_hands
/-- _law_right: names 0:_law_box_here 1:_law_turn 2:_law_size_so 3:_law_lot_so -/
def g_law_right : SS := (kSeq (kFor [] (iRange1 (sK (.i 5))) (gNm 1) (kSeq (kSet 2 (x2 oAdd (xP (sK (.i 1))) (xCallBP 0 F_law_take [(sK (.i 8))])))
  (kSeq (kSet 3 (xIf (xBP (bOf (s2 oEq (sVar 1) (sK (.i 4))))) (xCallBP 0 F_law_great [(sVar 2)]) (xCallBP 0 F_law_lot [(sVar 2), (sK (.i 4))])))
  (kSeq (kIf (xBNot (xBOf (xCall F_law_pair_right [(xP (sVar 3)), (xCallB 0 F_law_moved [(xP (sVar 3)), (xCallBP 0 F_law_take [(sK (.i 3))])])]))) (kRet (sK (.b false))) kNil)
  (kIf (xBNot (xBOf (xCall F_law_fees_right [(xP (sVar 3)), (xCallB 0 F_law_hands [(xP (sVar 2)), (xCallBP 0 F_law_of [(sLst [(sK (.i 1)), (sK (.i 4)), (s2 oPow (sK (.i 10)) (sK (.i 20)))])])])]))) (kRet (sK (.b false))) kNil)))))
  (kRet (sK (.b true))))
def F_law_right : FB := runB 4 g_law_right
/-- law: names 0:_law_script 1:_law_cells_here 2:_law_k -/
def g_law : SS := (kSeq (kIf (xBP (bNot (bOf (sCall0 F_law_by_hand_right)))) (kRet (sK (.b false))) kNil)
  (kSeq (kSet 1 (xP (sCall F_law_cells [(sVar 0), (sK (.i 3))])))
  (kRet (s1 cAll (sLc [2] (iRange1 (s1 cLen (sVar 1))) (gNm 2) bYes (sCallNew F_law_right (sCall F_law_box [(sVar 1), (sVar 2)])))))))
def F_law : FP := runP 3 g_law
end S67

/-! the walk of each def, printed by gen.py -/
namespace S67
open PySem PySem.Spec PyProof.Rows L2
def topS (i : Nat) : Stmt := PySem.Challenge.pw_anyhands_k67_whole_bills_beside_tables.main.body.getD i (.Pass ⟨0, 0, 0, 0⟩)
structure Tops (mg : Str → Option Value) : Prop where
  len : mg "len" = none
  sum : mg "sum" = none
  all : mg "all" = none
  min : mg "min" = none
  max : mg "max" = none
  abs : mg "abs" = none
  int : mg "int" = none
  tuple : mg "tuple" = none
  list : mg "list" = none
  sorted : mg "sorted" = none
  dict : mg "dict" = none
  zip : mg "zip" = none
  range : mg "range" = none
  enumerate : mg "enumerate" = none
  isinstance : mg "isinstance" = none
  bool : mg "bool" = none
  str : mg "str" = none
  PAIR : ∃ t, mg "PAIR" = some (.int 2 t)
/-- a def of the text, as its callers see it -/
def Has (P : Program) (w : World) (K : PySem.W.Frag) (mg : Str → Option Value) (base : Heap) (k : Nat) (x : Str) (ps : List Str) (sp : Sp) : Prop := ∃ f fd, FnOk P w K mg base CX0 k f fd ps sp ∧ mg x = some (.ref f) ∧ PySem.W.keepIn K (.ref f) = true ∧ Binds K fd ps []
theorem u1 {k : Nat} {A : Around} (hr : Room k A) : A.units + 1 < cLine := by
  have := hr.units
  omega
abbrev s_all_work : Stmt := topS 13
theorem sc_all_work : FnScope ["lot", "window", "work"] ["lot"] (defScope s_all_work) := ⟨rfl, rfl, rfl, by decide +kernel, rfl, by decide +kernel, by decide +kernel⟩
set_option maxHeartbeats 4000000 in
theorem ok_all_work {P : Program} {w : World} {K : PySem.W.Frag} {mg : Str → Option Value} {base : Heap} (tp : Tops mg)  {f : Addr} {fd : FuncData} (F : Fun K "all_work" "all_work" s_all_work f fd) : FnOk P w K mg base CX0 1 f fd ["lot"] (spP K 1 F_all_work) := by
  have nd := sc_all_work.nd
  exact fn_P F sc_all_work fun cdv A outer s H E hr =>
  (dss_one (ds_ret (de_call1 (cr_sum rfl) ok_sum (by rfl) tp.sum (by decide +kernel) (de_lc (own := [("window", 1), ("work", 2)]) rfl nd (di_seq (de_ix (de_var 0) de_int)) (blkOk_by (by rfl)) (fun _ _ _ _ _ => (dg_tup rfl (dgs_cons (dg_name 1 nd) (dgs_cons (dg_name 2 nd) dgs_nil)))) (fun _ _ _ _ _ => dts_nil) (fun _ _ _ _ _ => (de_var 2))))))
abbrev s_fewest_rows : Stmt := topS 33
theorem sc_fewest_rows : FnScope ["hours"] ["hours"] (defScope s_fewest_rows) := ⟨rfl, rfl, rfl, by decide +kernel, rfl, by decide +kernel, by decide +kernel⟩
set_option maxHeartbeats 4000000 in
theorem ok_fewest_rows {P : Program} {w : World} {K : PySem.W.Frag} {mg : Str → Option Value} {base : Heap} (tp : Tops mg)  {f : Addr} {fd : FuncData} (F : Fun K "fewest_rows" "fewest_rows" s_fewest_rows f fd) : FnOk P w K mg base CX0 1 f fd ["hours"] (spP K 1 F_fewest_rows) := by
  have nd := sc_fewest_rows.nd
  exact fn_P F sc_fewest_rows fun cdv A outer s H E hr =>
  (dss_one (ds_ret (de_if (dt_cmp (op_eqX hr.units) ok_eq (de_var 0) de_int (by rfl)) de_int (de_op op_fdivW ok_fdiv (de_op op_addX ok_add (de_var 0) de_int) de_int))))
abbrev s_all_stretches : Stmt := topS 17
theorem sc_all_stretches : FnScope ["hours", "first", "last"] ["hours"] (defScope s_all_stretches) := ⟨rfl, rfl, rfl, by decide +kernel, rfl, by decide +kernel, by decide +kernel⟩
set_option maxHeartbeats 4000000 in
theorem ok_all_stretches {P : Program} {w : World} {K : PySem.W.Frag} {mg : Str → Option Value} {base : Heap} (tp : Tops mg)  {f : Addr} {fd : FuncData} (F : Fun K "all_stretches" "all_stretches" s_all_stretches f fd) : FnOk P w K mg base CX0 1 f fd ["hours"] (spP K 1 F_all_stretches) := by
  have nd := sc_all_stretches.nd
  exact fn_P F sc_all_stretches fun cdv A outer s H E hr =>
  (dss_one (ds_ret (de_lc2 (own := [("first", 1), ("last", 2)]) (vs1 := [2]) rfl nd (di_range1 (by rfl) tp.range (de_var 0)) (blkOk_by (by rfl)) (by decide) (fun _ _ _ _ _ => (dg_name 1 nd)) (fun _ _ _ _ _ => dts_nil) (fun _ _ _ _ _ => (di_range2 (by rfl) tp.range (de_var 1) (de_var 0))) (fun _ _ _ _ _ => (dg_name 2 nd)) (fun _ _ _ _ _ => dts_nil) (fun _ _ _ _ _ => (de_tup (da_cons (de_var 1) (da_cons (de_var 2) da_nil)))))))
abbrev s_spans_in_row : Stmt := topS 34
theorem sc_spans_in_row : FnScope ["hours", "row", "corners", "found", "first", "last", "side"] ["hours", "row"] (defScope s_spans_in_row) := ⟨rfl, rfl, rfl, by decide +kernel, rfl, by decide +kernel, by decide +kernel⟩
set_option maxHeartbeats 4000000 in
theorem ok_spans_in_row {P : Program} {w : World} {K : PySem.W.Frag} {mg : Str → Option Value} {base : Heap} (tp : Tops mg) (h_all_stretches : Has P w K mg base 1 "all_stretches" ["hours"] (spP K 1 F_all_stretches)) {f : Addr} {fd : FuncData} (F : Fun K "spans_in_row" "spans_in_row" s_spans_in_row f fd) : FnOk P w K mg base CX0 2 f fd ["hours", "row"] (spP K 2 F_spans_in_row) := by
  have nd := sc_spans_in_row.nd
  obtain ⟨f_all_stretches, fd_all_stretches, G_all_stretches, m_all_stretches, kp_all_stretches, b_all_stretches⟩ := h_all_stretches
  exact fn_P F sc_spans_in_row fun cdv A outer s H E hr =>
  (dss_cons (ds_par 2 3 rfl nd (dx_p (de_op op_addX ok_add (de_var 0) de_int)) (dx_p (de_lst da_nil)))
  (dss_cons (ds_for (vs := [4, 5]) [] PassesOwn.never rfl (di_seq (de_call (G_all_stretches.mono (by decide)) hr (by rfl) m_all_stretches kp_all_stretches b_all_stretches (da_cons (de_var 0) da_nil))) (dg_tup rfl (dgs_cons (dg_name 4 nd) (dgs_cons (dg_name 5 nd) dgs_nil))) (dss_cons (ds_set 6 nd (dx_p (de_op op_mod ok_oI (de_op op_addX ok_add (de_op op_addX ok_add (de_var 4) (de_var 5)) de_int) (de_var 2))))
  (dss_one (ds_if (dxb_p (dt_w (dw_or (dt_cmp (op_eqX hr.units) ok_eq (de_tup (da_cons (de_var 4) (da_cons (de_var 5) da_nil))) (de_tup (da_cons de_int (da_cons (de_op op_sub ok_sub (de_var 0) de_int) da_nil))) (by rfl)) (dw_or1 (dt_cmp (op_inX hr.units) ok_in (de_var 6) (de_tup (da_cons (de_op op_mod ok_oI (de_op op_mulX ok_mul de_int (de_var 1)) (de_var 2)) (da_cons (de_op op_mod ok_oI (de_op op_addX ok_add (de_op op_mulX ok_mul de_int (de_var 1)) de_int) (de_var 2)) da_nil))) (by rfl)))))) (dss_one (ds_app 3 (dx_p (de_tup (da_cons (de_var 4) (da_cons (de_var 5) da_nil)))))) dss_nil))))
  (dss_one (ds_ret (de_var 3)))))
end S67

/-! the walk of each def, printed by gen.py -/
namespace S67
open PySem PySem.Spec PyProof.Rows L2
abbrev s_powers : Stmt := topS 35
theorem sc_powers : FnScope ["base", "many", "found", "turn"] ["base", "many"] (defScope s_powers) := ⟨rfl, rfl, rfl, by decide +kernel, rfl, by decide +kernel, by decide +kernel⟩
set_option maxHeartbeats 4000000 in
theorem ok_powers {P : Program} {w : World} {K : PySem.W.Frag} {mg : Str → Option Value} {base : Heap} (tp : Tops mg)  {f : Addr} {fd : FuncData} (F : Fun K "powers" "powers" s_powers f fd) : FnOk P w K mg base CX0 1 f fd ["base", "many"] (spP K 2 F_powers) := by
  have nd := sc_powers.nd
  exact fn_P F sc_powers fun cdv A outer s H E hr =>
  (dss_cons (ds_set 2 nd (dx_p (de_lst (da_cons de_int da_nil))))
  (dss_cons (ds_for (vs := [3]) [] PassesOwn.never rfl (di_range1 (by rfl) tp.range (de_op op_sub ok_sub (de_var 1) de_int)) (dg_name 3 nd) (dss_one (ds_app 2 (dx_p (de_op op_mulX ok_mul (de_ix (de_var 2) (de_un un_neg ok_neg de_int)) (de_var 0))))))
  (dss_one (ds_ret (de_var 2)))))
abbrev s_beside : Stmt := topS 28
theorem sc_beside : FnScope ["prices", "hour"] ["prices", "hour"] (defScope s_beside) := ⟨rfl, rfl, rfl, by decide +kernel, rfl, by decide +kernel, by decide +kernel⟩
set_option maxHeartbeats 4000000 in
theorem ok_beside {P : Program} {w : World} {K : PySem.W.Frag} {mg : Str → Option Value} {base : Heap} (tp : Tops mg)  {f : Addr} {fd : FuncData} (F : Fun K "beside" "beside" s_beside f fd) : FnOk P w K mg base CX0 1 f fd ["prices", "hour"] (spP K 2 F_beside) := by
  have nd := sc_beside.nd
  exact fn_P F sc_beside fun cdv A outer s H E hr =>
  (dss_one (ds_ret (de_if (dt_ch2 op_le ok_oB op_lt ok_oB de_int (de_var 1) (de_call1 call_len_seq ok_len (by rfl) tp.len (by decide +kernel) (de_var 0))) (de_ix (de_var 0) (de_var 1)) de_int)))
abbrev s_weight_of : Stmt := topS 29
theorem sc_weight_of : FnScope ["prices", "first", "last"] ["prices", "first", "last"] (defScope s_weight_of) := ⟨rfl, rfl, rfl, by decide +kernel, rfl, by decide +kernel, by decide +kernel⟩
set_option maxHeartbeats 4000000 in
theorem ok_weight_of {P : Program} {w : World} {K : PySem.W.Frag} {mg : Str → Option Value} {base : Heap} (tp : Tops mg) (h_beside : Has P w K mg base 1 "beside" ["prices", "hour"] (spP K 2 F_beside)) {f : Addr} {fd : FuncData} (F : Fun K "weight_of" "weight_of" s_weight_of f fd) : FnOk P w K mg base CX0 2 f fd ["prices", "first", "last"] (spP K 3 F_weight_of) := by
  have nd := sc_weight_of.nd
  obtain ⟨f_beside, fd_beside, G_beside, m_beside, kp_beside, b_beside⟩ := h_beside
  exact fn_P F sc_weight_of fun cdv A outer s H E hr =>
  (dss_one (ds_ret (de_op op_sub ok_sub (de_call1 (call_minX rfl hr.units) ok_minX (by rfl) tp.min (by decide +kernel) (de_cut (de_var 0) (do_yes (de_var 1)) (do_yes (de_op op_addX ok_add (de_var 2) de_int)))) (de_call2 (call_max2 rfl) ok_max2 (by rfl) tp.max (by decide +kernel) (de_call (G_beside.mono (by decide)) hr (by rfl) m_beside kp_beside b_beside (da_cons (de_var 0) (da_cons (de_op op_sub ok_sub (de_var 1) de_int) da_nil))) (de_call (G_beside.mono (by decide)) hr (by rfl) m_beside kp_beside b_beside (da_cons (de_var 0) (da_cons (de_op op_addX ok_add (de_var 2) de_int) da_nil)))))))
abbrev s_weights_of : Stmt := topS 30
theorem sc_weights_of : FnScope ["prices", "spans", "span", "weight"] ["prices"] (defScope s_weights_of) := ⟨rfl, rfl, rfl, by decide +kernel, rfl, by decide +kernel, by decide +kernel⟩
set_option maxHeartbeats 4000000 in
theorem ok_weights_of {P : Program} {w : World} {K : PySem.W.Frag} {mg : Str → Option Value} {base : Heap} (tp : Tops mg) (h_all_stretches : Has P w K mg base 1 "all_stretches" ["hours"] (spP K 1 F_all_stretches)) (h_weight_of : Has P w K mg base 2 "weight_of" ["prices", "first", "last"] (spP K 3 F_weight_of)) {f : Addr} {fd : FuncData} (F : Fun K "weights_of" "weights_of" s_weights_of f fd) : FnOk P w K mg base CX0 3 f fd ["prices"] (spP K 1 F_weights_of) := by
  have nd := sc_weights_of.nd
  obtain ⟨f_all_stretches, fd_all_stretches, G_all_stretches, m_all_stretches, kp_all_stretches, b_all_stretches⟩ := h_all_stretches
  obtain ⟨f_weight_of, fd_weight_of, G_weight_of, m_weight_of, kp_weight_of, b_weight_of⟩ := h_weight_of
  exact fn_P F sc_weights_of fun cdv A outer s H E hr =>
  (dss_cons (ds_setLc (own := [("span", 2)]) 1 rfl nd (sw_true rfl rfl rfl rfl) (di_seq (de_call (G_all_stretches.mono (by decide)) hr (by rfl) m_all_stretches kp_all_stretches b_all_stretches (da_cons (de_call1 call_len_seq ok_len (by rfl) tp.len (by decide +kernel) (de_var 0)) da_nil))) (blkOk_by (by rfl)) (fun _ _ _ _ _ => (dg_name 2 nd)) (fun _ _ _ _ _ => dts_nil) (fun _ _ _ _ _ => (de_tup (da_cons (de_var 2) (da_cons (de_call (G_weight_of.mono (by decide)) hr (by rfl) m_weight_of kp_weight_of b_weight_of (da_cons (de_var 0) (da_cons (de_ix (de_var 2) de_int) (da_cons (de_ix (de_var 2) de_int) da_nil)))) da_nil)))))
  (dss_one (ds_ret (de_callT1 call_tuple_of ok_tuple (by rfl) tp.tuple (by decide +kernel) (de_lc (own := [("span", 2), ("weight", 3)]) rfl nd (di_seq (de_var 1)) (blkOk_by (by rfl)) (fun _ _ _ _ _ => (dg_tup rfl (dgs_cons (dg_name 2 nd) (dgs_cons (dg_name 3 nd) dgs_nil)))) (fun _ _ _ _ _ => (dts_one (dt_cmp op_gt ok_oB (de_var 3) de_int (by rfl)))) (fun _ _ _ _ _ => (de_tup (da_cons (de_var 2) (da_cons (de_var 3) da_nil)))))))))
abbrev s_prices_of : Stmt := topS 32
theorem sc_prices_of : FnScope ["hours", "weights", "found", "told", "weight", "hour", "first", "last"] ["hours", "weights"] (defScope s_prices_of) := ⟨rfl, rfl, rfl, by decide +kernel, rfl, by decide +kernel, by decide +kernel⟩
set_option maxHeartbeats 4000000 in
theorem ok_prices_of {P : Program} {w : World} {K : PySem.W.Frag} {mg : Str → Option Value} {base : Heap} (tp : Tops mg) (h_weights_of : Has P w K mg base 3 "weights_of" ["prices"] (spP K 1 F_weights_of)) {f : Addr} {fd : FuncData} (F : Fun K "prices_of" "prices_of" s_prices_of f fd) : FnOk P w K mg base CX0 4 f fd ["hours", "weights"] (spP K 2 F_prices_of) := by
  have nd := sc_prices_of.nd
  obtain ⟨f_weights_of, fd_weights_of, G_weights_of, m_weights_of, kp_weights_of, b_weights_of⟩ := h_weights_of
  exact fn_P F sc_prices_of fun cdv A outer s H E hr =>
  (dss_cons (ds_set 2 nd (dx_p (de_op op_mulX ok_mul (de_lst (da_cons de_int da_nil)) (de_var 0))))
  (dss_cons (ds_for (vs := [4, 6, 7]) [] PassesOwn.never rfl (di_seq (de_var 1)) (dg_tup rfl (dgs_cons (dg_tup rfl (dgs_cons (dg_name 6 nd) (dgs_cons (dg_name 7 nd) dgs_nil))) (dgs_cons (dg_name 4 nd) dgs_nil))) (dss_one (ds_for (vs := [5]) [] PassesOwn.never rfl (di_range2 (by rfl) tp.range (de_var 6) (de_op op_addX ok_add (de_var 7) de_int)) (dg_name 5 nd) (dss_one (ds_aug 2 (de_var 5) (de_var 4))))))
  (dss_cons (ds_set 3 nd (dx_p (de_call1 (call_sortedL hr.units) ok_sortL (by rfl) tp.sorted (by decide +kernel) (de_lc (own := [("weight", 4), ("first", 6), ("last", 7)]) rfl nd (di_seq (de_var 1)) (blkOk_by (by rfl)) (fun _ _ _ _ _ => (dg_tup rfl (dgs_cons (dg_tup rfl (dgs_cons (dg_name 6 nd) (dgs_cons (dg_name 7 nd) dgs_nil))) (dgs_cons (dg_name 4 nd) dgs_nil)))) (fun _ _ _ _ _ => dts_nil) (fun _ _ _ _ _ => (de_tup (da_cons (de_tup (da_cons (de_var 6) (da_cons (de_var 7) da_nil))) (da_cons (de_var 4) da_nil))))))))
  (dss_one (ds_ret (de_if (dt_cmp (op_eqX hr.units) ok_eq (de_callT1 call_list_of ok_list (by rfl) tp.list (by decide +kernel) (de_call (G_weights_of.mono (by decide)) hr (by rfl) m_weights_of kp_weights_of b_weights_of (da_cons (de_var 2) da_nil))) (de_var 3) (by rfl)) (de_callT1 call_tuple_of ok_tuple (by rfl) tp.tuple (by decide +kernel) (de_var 2)) de_non))))))
abbrev s_telling_rows : Stmt := topS 36
theorem sc_telling_rows : FnScope ["hours", "most", "found", "row", "spans"] ["hours", "most"] (defScope s_telling_rows) := ⟨rfl, rfl, rfl, by decide +kernel, rfl, by decide +kernel, by decide +kernel⟩
set_option maxHeartbeats 4000000 in
theorem ok_telling_rows {P : Program} {w : World} {K : PySem.W.Frag} {mg : Str → Option Value} {base : Heap} (tp : Tops mg) (h_fewest_rows : Has P w K mg base 1 "fewest_rows" ["hours"] (spP K 1 F_fewest_rows)) (h_spans_in_row : Has P w K mg base 2 "spans_in_row" ["hours", "row"] (spP K 2 F_spans_in_row)) (h_powers : Has P w K mg base 1 "powers" ["base", "many"] (spP K 2 F_powers)) (h_prices_of : Has P w K mg base 4 "prices_of" ["hours", "weights"] (spP K 2 F_prices_of)) {f : Addr} {fd : FuncData} (F : Fun K "telling_rows" "telling_rows" s_telling_rows f fd) : FnOk P w K mg base CX0 5 f fd ["hours", "most"] (spP K 2 F_telling_rows) := by
  have nd := sc_telling_rows.nd
  obtain ⟨f_fewest_rows, fd_fewest_rows, G_fewest_rows, m_fewest_rows, kp_fewest_rows, b_fewest_rows⟩ := h_fewest_rows
  obtain ⟨f_spans_in_row, fd_spans_in_row, G_spans_in_row, m_spans_in_row, kp_spans_in_row, b_spans_in_row⟩ := h_spans_in_row
  obtain ⟨f_powers, fd_powers, G_powers, m_powers, kp_powers, b_powers⟩ := h_powers
  obtain ⟨f_prices_of, fd_prices_of, G_prices_of, m_prices_of, kp_prices_of, b_prices_of⟩ := h_prices_of
  exact fn_P F sc_telling_rows fun cdv A outer s H E hr =>
  (dss_cons (ds_set 2 nd (dx_p (de_lst da_nil)))
  (dss_cons (ds_for (vs := [3]) [] PassesOwn.never rfl (di_range1 (by rfl) tp.range (de_call (G_fewest_rows.mono (by decide)) hr (by rfl) m_fewest_rows kp_fewest_rows b_fewest_rows (da_cons (de_var 0) da_nil))) (dg_name 3 nd) (dss_cons (ds_set 4 nd (dx_p (de_call (G_spans_in_row.mono (by decide)) hr (by rfl) m_spans_in_row kp_spans_in_row b_spans_in_row (da_cons (de_var 0) (da_cons (de_var 3) da_nil)))))
  (dss_one (ds_app 2 (dx_p (de_call (G_prices_of.mono (by decide)) hr (by rfl) m_prices_of kp_prices_of b_prices_of (da_cons (de_var 0) (da_cons (de_listZip rfl (by rfl) tp.list (by rfl) tp.zip (de_var 4) (de_call (G_powers.mono (by decide)) hr (by rfl) m_powers kp_powers b_powers (da_cons (de_op op_addX ok_add (de_var 1) de_int) (da_cons (de_call1 call_len_seq ok_len (by rfl) tp.len (by decide +kernel) (de_var 4)) da_nil)))) da_nil))))))))
  (dss_one (ds_ret (de_callT1 call_tuple_of ok_tuple (by rfl) tp.tuple (by decide +kernel) (de_var 2))))))
abbrev s_check_fit : Stmt := topS 24
theorem sc_check_fit : FnScope ["lot", "numbers"] ["lot", "numbers"] (defScope s_check_fit) := ⟨rfl, rfl, rfl, by decide +kernel, rfl, by decide +kernel, by decide +kernel⟩
set_option maxHeartbeats 4000000 in
theorem ok_check_fit {P : Program} {w : World} {K : PySem.W.Frag} {mg : Str → Option Value} {base : Heap} (tp : Tops mg)  {f : Addr} {fd : FuncData} (F : Fun K "check_fit" "check_fit" s_check_fit f fd) : FnOk P w K mg base CX0 1 f fd ["lot", "numbers"] (spP K 2 F_check_fit) := by
  have nd := sc_check_fit.nd
  exact fn_P F sc_check_fit fun cdv A outer s H E hr =>
  (dss_one (ds_if (dxb_p (dt_cmp (op_neX hr.units) ok_ne (de_call1 call_len_seq ok_len (by rfl) tp.len (by decide +kernel) (de_var 1)) (de_ix (de_var 0) de_int) (by rfl))) dss_never dss_nil))
end S67

/-! the walk of each def, printed by gen.py -/
namespace S67
open PySem PySem.Spec PyProof.Rows L2
abbrev s_cheapest : Stmt := topS 25
theorem sc_cheapest : FnScope ["lot", "prices", "work", "first", "last"] ["lot", "prices"] (defScope s_cheapest) := ⟨rfl, rfl, rfl, by decide +kernel, rfl, by decide +kernel, by decide +kernel⟩
set_option maxHeartbeats 4000000 in
theorem ok_cheapest {P : Program} {w : World} {K : PySem.W.Frag} {mg : Str → Option Value} {base : Heap} (tp : Tops mg) (h_check_fit : Has P w K mg base 1 "check_fit" ["lot", "numbers"] (spP K 2 F_check_fit)) {f : Addr} {fd : FuncData} (F : Fun K "cheapest" "cheapest" s_cheapest f fd) : FnOk P w K mg base CX0 2 f fd ["lot", "prices"] (spP K 2 F_cheapest) := by
  have nd := sc_cheapest.nd
  obtain ⟨f_check_fit, fd_check_fit, G_check_fit, m_check_fit, kp_check_fit, b_check_fit⟩ := h_check_fit
  exact fn_P F sc_cheapest fun cdv A outer s H E hr =>
  (dss_cons (ds_expr (de_call (G_check_fit.mono (by decide)) hr (by rfl) m_check_fit kp_check_fit b_check_fit (da_cons (de_var 0) (da_cons (de_var 1) da_nil))))
  (dss_one (ds_ret (de_call1 (cr_sum rfl) ok_sum (by rfl) tp.sum (by decide +kernel) (de_lc (own := [("work", 2), ("first", 3), ("last", 4)]) rfl nd (di_seq (de_ix (de_var 0) de_int)) (blkOk_by (by rfl)) (fun _ _ _ _ _ => (dg_tup rfl (dgs_cons (dg_tup rfl (dgs_cons (dg_name 3 nd) (dgs_cons (dg_name 4 nd) dgs_nil))) (dgs_cons (dg_name 2 nd) dgs_nil)))) (fun _ _ _ _ _ => dts_nil) (fun _ _ _ _ _ => (de_op op_mulX ok_mul (de_var 2) (de_call1 (call_minX rfl hr.units) ok_minX (by rfl) tp.min (by decide +kernel) (de_cut (de_var 1) (do_yes (de_var 3)) (do_yes (de_op op_addX ok_add (de_var 4) de_int)))))))))))
abbrev s_bills_of : Stmt := topS 37
theorem sc_bills_of : FnScope ["lot", "rows", "prices"] ["lot", "rows"] (defScope s_bills_of) := ⟨rfl, rfl, rfl, by decide +kernel, rfl, by decide +kernel, by decide +kernel⟩
set_option maxHeartbeats 4000000 in
theorem ok_bills_of {P : Program} {w : World} {K : PySem.W.Frag} {mg : Str → Option Value} {base : Heap} (tp : Tops mg) (h_cheapest : Has P w K mg base 2 "cheapest" ["lot", "prices"] (spP K 2 F_cheapest)) {f : Addr} {fd : FuncData} (F : Fun K "bills_of" "bills_of" s_bills_of f fd) : FnOk P w K mg base CX0 3 f fd ["lot", "rows"] (spP K 2 F_bills_of) := by
  have nd := sc_bills_of.nd
  obtain ⟨f_cheapest, fd_cheapest, G_cheapest, m_cheapest, kp_cheapest, b_cheapest⟩ := h_cheapest
  exact fn_P F sc_bills_of fun cdv A outer s H E hr =>
  (dss_one (ds_ret (de_callT1 call_tuple_of ok_tuple (by rfl) tp.tuple (by decide +kernel) (de_lc (own := [("prices", 2)]) rfl nd (di_seq (de_var 1)) (blkOk_by (by rfl)) (fun _ _ _ _ _ => (dg_name 2 nd)) (fun _ _ _ _ _ => dts_nil) (fun _ _ _ _ _ => (de_call (G_cheapest.mono (by decide)) hr (by rfl) m_cheapest kp_cheapest b_cheapest (da_cons (de_var 0) (da_cons (de_var 2) da_nil))))))))
abbrev s_figures_of : Stmt := topS 38
theorem sc_figures_of : FnScope ["number", "base", "many", "found", "turn"] ["number", "base", "many"] (defScope s_figures_of) := ⟨rfl, rfl, rfl, by decide +kernel, rfl, by decide +kernel, by decide +kernel⟩
set_option maxHeartbeats 4000000 in
theorem ok_figures_of {P : Program} {w : World} {K : PySem.W.Frag} {mg : Str → Option Value} {base : Heap} (tp : Tops mg)  {f : Addr} {fd : FuncData} (F : Fun K "figures_of" "figures_of" s_figures_of f fd) : FnOk P w K mg base CX0 1 f fd ["number", "base", "many"] (spP K 3 F_figures_of) := by
  have nd := sc_figures_of.nd
  exact fn_P F sc_figures_of fun cdv A outer s H E hr =>
  (dss_cons (ds_set 3 nd (dx_p (de_lst da_nil)))
  (dss_cons (ds_for (vs := [4]) [] PassesOwn.never rfl (di_range1 (by rfl) tp.range (de_var 2)) (dg_name 4 nd) (dss_cons (ds_app 3 (dx_p (de_op op_mod ok_oI (de_var 0) (de_var 1))))
  (dss_one (ds_set 0 nd (dx_p (de_op op_fdivW ok_fdiv (de_var 0) (de_var 1)))))))
  (dss_one (ds_ret (de_if (dt_cmp (op_eqX hr.units) ok_eq (de_var 0) de_int (by rfl)) (de_var 3) de_non)))))
abbrev s_singles : Stmt := topS 21
theorem sc_singles : FnScope ["hours", "table", "spots", "known", "found", "first", "last", "less"] ["hours", "table"] (defScope s_singles) := ⟨rfl, rfl, rfl, by decide +kernel, rfl, by decide +kernel, by decide +kernel⟩
set_option maxHeartbeats 4000000 in
theorem ok_singles {P : Program} {w : World} {K : PySem.W.Frag} {mg : Str → Option Value} {base : Heap} (tp : Tops mg) (h_all_stretches : Has P w K mg base 1 "all_stretches" ["hours"] (spP K 1 F_all_stretches)) {f : Addr} {fd : FuncData} (F : Fun K "singles" "singles" s_singles f fd) : FnOk P w K mg base CX0 2 f fd ["hours", "table"] (spP K 2 F_singles) := by
  have nd := sc_singles.nd
  obtain ⟨f_all_stretches, fd_all_stretches, G_all_stretches, m_all_stretches, kp_all_stretches, b_all_stretches⟩ := h_all_stretches
  exact fn_P F sc_singles fun cdv A outer s H E hr =>
  (dss_cons (ds_set 2 nd (dx_p (de_call (G_all_stretches.mono (by decide)) hr (by rfl) m_all_stretches kp_all_stretches b_all_stretches (da_cons (de_var 0) da_nil))))
  (dss_cons (ds_par 3 4 rfl nd (dx_p (de_dictZip rfl hr.units (by rfl) tp.dict (by rfl) tp.zip (de_var 2) (de_var 1))) (dx_p (de_lst da_nil)))
  (dss_cons (ds_for (vs := [5, 6]) [2] PassesOwn.never rfl (di_seq (de_var 2)) (dg_tup rfl (dgs_cons (dg_name 5 nd) (dgs_cons (dg_name 6 nd) dgs_nil))) (dss_cons (ds_set 7 nd (dx_p (de_op op_addX ok_add (de_get (u1 hr) (de_var 3) (de_tup (da_cons (de_op op_addX ok_add (de_var 5) de_int) (da_cons (de_var 6) da_nil))) de_int ⟨by rfl, by rfl, by rfl, by rfl⟩) (de_get (u1 hr) (de_var 3) (de_tup (da_cons (de_var 5) (da_cons (de_op op_sub ok_sub (de_var 6) de_int) da_nil))) de_int ⟨by rfl, by rfl, by rfl, by rfl⟩))))
  (dss_one (ds_app 4 (dx_p (de_op op_addX ok_add (de_op op_sub ok_sub (de_ixM (u1 hr) (de_var 3) (de_tup (da_cons (de_var 5) (da_cons (de_var 6) da_nil)))) (de_var 7)) (de_get (u1 hr) (de_var 3) (de_tup (da_cons (de_op op_addX ok_add (de_var 5) de_int) (da_cons (de_op op_sub ok_sub (de_var 6) de_int) da_nil))) de_int ⟨by rfl, by rfl, by rfl, by rfl⟩)))))))
  (dss_one (ds_ret (de_callT1 call_tuple_of ok_tuple (by rfl) tp.tuple (by decide +kernel) (de_var 4)))))))
abbrev s_lot_of : Stmt := topS 22
theorem sc_lot_of : FnScope ["hours", "table", "alone", "spot", "work"] ["hours", "table"] (defScope s_lot_of) := ⟨rfl, rfl, rfl, by decide +kernel, rfl, by decide +kernel, by decide +kernel⟩
set_option maxHeartbeats 4000000 in
theorem ok_lot_of {P : Program} {w : World} {K : PySem.W.Frag} {mg : Str → Option Value} {base : Heap} (tp : Tops mg) (h_singles : Has P w K mg base 2 "singles" ["hours", "table"] (spP K 2 F_singles)) (h_all_stretches : Has P w K mg base 1 "all_stretches" ["hours"] (spP K 1 F_all_stretches)) {f : Addr} {fd : FuncData} (F : Fun K "lot_of" "lot_of" s_lot_of f fd) : FnOk P w K mg base CX0 3 f fd ["hours", "table"] (spP K 2 F_lot_of) := by
  have nd := sc_lot_of.nd
  obtain ⟨f_singles, fd_singles, G_singles, m_singles, kp_singles, b_singles⟩ := h_singles
  obtain ⟨f_all_stretches, fd_all_stretches, G_all_stretches, m_all_stretches, kp_all_stretches, b_all_stretches⟩ := h_all_stretches
  exact fn_P F sc_lot_of fun cdv A outer s H E hr =>
  (dss_cons (ds_set 2 nd (dx_p (de_call (G_singles.mono (by decide)) hr (by rfl) m_singles kp_singles b_singles (da_cons (de_var 0) (da_cons (de_var 1) da_nil)))))
  (dss_cons (ds_if (dxb_p (dt_cmp op_lt ok_oB (de_call1 (call_minX rfl hr.units) ok_minX (by rfl) tp.min (by decide +kernel) (de_var 2)) de_int (by rfl))) (dss_one (ds_ret de_non)) dss_nil)
  (dss_one (ds_ret (de_tup (da_cons (de_var 0) (da_cons (de_callT1 call_tuple_of ok_tuple (by rfl) tp.tuple (by decide +kernel) (de_lc (own := [("spot", 3), ("work", 4)]) rfl nd (di_zip2 (by rfl) tp.zip (de_call (G_all_stretches.mono (by decide)) hr (by rfl) m_all_stretches kp_all_stretches b_all_stretches (da_cons (de_var 0) da_nil)) (de_var 2)) (blkOk_by (by rfl)) (fun _ _ _ _ _ => (dg_tup rfl (dgs_cons (dg_name 3 nd) (dgs_cons (dg_name 4 nd) dgs_nil)))) (fun _ _ _ _ _ => (dts_one (dt_cmp op_gt ok_oB (de_var 4) de_int (by rfl)))) (fun _ _ _ _ _ => (de_tup (da_cons (de_var 3) (da_cons (de_var 4) da_nil)))))) da_nil)))))))
abbrev s_lot_by_bills : Stmt := topS 39
theorem sc_lot_by_bills : FnScope ["hours", "most", "bills", "known", "row", "bill", "spans", "figures", "span", "figure"] ["hours", "most", "bills"] (defScope s_lot_by_bills) := ⟨rfl, rfl, rfl, by decide +kernel, rfl, by decide +kernel, by decide +kernel⟩
set_option maxHeartbeats 4000000 in
theorem ok_lot_by_bills {P : Program} {w : World} {K : PySem.W.Frag} {mg : Str → Option Value} {base : Heap} (tp : Tops mg) (h_spans_in_row : Has P w K mg base 2 "spans_in_row" ["hours", "row"] (spP K 2 F_spans_in_row)) (h_figures_of : Has P w K mg base 1 "figures_of" ["number", "base", "many"] (spP K 3 F_figures_of)) (h_all_stretches : Has P w K mg base 1 "all_stretches" ["hours"] (spP K 1 F_all_stretches)) (h_lot_of : Has P w K mg base 3 "lot_of" ["hours", "table"] (spP K 2 F_lot_of)) {f : Addr} {fd : FuncData} (F : Fun K "lot_by_bills" "lot_by_bills" s_lot_by_bills f fd) : FnOk P w K mg base CX0 4 f fd ["hours", "most", "bills"] (spP K 3 F_lot_by_bills) := by
  have nd := sc_lot_by_bills.nd
  obtain ⟨f_spans_in_row, fd_spans_in_row, G_spans_in_row, m_spans_in_row, kp_spans_in_row, b_spans_in_row⟩ := h_spans_in_row
  obtain ⟨f_figures_of, fd_figures_of, G_figures_of, m_figures_of, kp_figures_of, b_figures_of⟩ := h_figures_of
  obtain ⟨f_all_stretches, fd_all_stretches, G_all_stretches, m_all_stretches, kp_all_stretches, b_all_stretches⟩ := h_all_stretches
  obtain ⟨f_lot_of, fd_lot_of, G_lot_of, m_lot_of, kp_lot_of, b_lot_of⟩ := h_lot_of
  exact fn_P F sc_lot_by_bills fun cdv A outer s H E hr =>
  (dss_cons (ds_set 3 nd (dx_p de_dictE))
  (dss_cons (ds_for (vs := [4, 5]) [] PassesOwn.never rfl (di_enum (by rfl) tp.enumerate (de_var 2)) (dg_tup rfl (dgs_cons (dg_name 4 nd) (dgs_cons (dg_name 5 nd) dgs_nil))) (dss_cons (ds_set 6 nd (dx_p (de_call (G_spans_in_row.mono (by decide)) hr (by rfl) m_spans_in_row kp_spans_in_row b_spans_in_row (da_cons (de_var 0) (da_cons (de_var 4) da_nil)))))
  (dss_cons (ds_set 7 nd (dx_p (de_call (G_figures_of.mono (by decide)) hr (by rfl) m_figures_of kp_figures_of b_figures_of (da_cons (de_var 5) (da_cons (de_op op_addX ok_add (de_var 1) de_int) (da_cons (de_call1 call_len_seq ok_len (by rfl) tp.len (by decide +kernel) (de_var 6)) da_nil))))))
  (dss_cons (ds_if (dxb_p (dt_cmp op_isN ok_isN (de_var 7) de_non (by rfl))) (dss_one (ds_ret de_non)) dss_nil)
  (dss_one (ds_for (vs := [8, 9]) [6, 7] PassesOwn.never rfl (di_zip2 (by rfl) tp.zip (de_var 6) (de_var 7)) (dg_tup rfl (dgs_cons (dg_name 8 nd) (dgs_cons (dg_name 9 nd) dgs_nil))) (dss_cons (ds_if (dxb_p (dt_cmp (op_neX hr.units) ok_ne (de_get (u1 hr) (de_var 3) (de_var 8) (de_var 9) ⟨by rfl, by rfl, by rfl, by rfl⟩) (de_var 9) (by rfl))) (dss_one (ds_ret de_non)) dss_nil)
  (dss_one (ds_putM 3 (u1 hr) (dx_p (de_var 9)) (de_var 8))))))))))
  (dss_one (ds_ret (de_call (G_lot_of.mono (by decide)) hr (by rfl) m_lot_of kp_lot_of b_lot_of (da_cons (de_var 0) (da_cons (de_lc (own := [("span", 8)]) rfl nd (di_seq (de_call (G_all_stretches.mono (by decide)) hr (by rfl) m_all_stretches kp_all_stretches b_all_stretches (da_cons (de_var 0) da_nil))) (blkOk_by (by rfl)) (fun _ _ _ _ _ => (dg_name 8 nd)) (fun _ _ _ _ _ => dts_nil) (fun _ _ _ _ _ => (de_ixM (u1 hr) (de_var 3) (de_var 8)))) da_nil)))))))
abbrev s_law_same : Stmt := topS 54
theorem sc_law_same : FnScope ["_law_got", "_law_due_so", "_law_mine", "_law_its"] ["_law_got", "_law_due_so"] (defScope s_law_same) := ⟨rfl, rfl, rfl, by decide +kernel, rfl, by decide +kernel, by decide +kernel⟩
set_option maxHeartbeats 4000000 in
theorem ok_law_same {P : Program} {w : World} {K : PySem.W.Frag} {mg : Str → Option Value} {base : Heap} (tp : Tops mg) {f : Addr} {fd : FuncData} (F : Fun K "_law_same" "_law_same" s_law_same f fd) (m_law_same : mg "_law_same" = some (.ref f)) (b_law_same : Binds K fd ["_law_got", "_law_due_so"] []) : ∀ n : Nat, FnOk P w K mg base CX0 (n + 1) f fd ["_law_got", "_law_due_so"] (spP K 2 (F_law_same n))
  | 0 => fn_P F sc_law_same fun cdv A outer s H E hr => dss_never
  | n + 1 => by
    have nd := sc_law_same.nd
    have kp_law_same := F.kp
    have G_law_same : FnOk P w K mg base CX0 (n + 1) f fd ["_law_got", "_law_due_so"] (spP K 2 (F_law_same n)) := ok_law_same tp F m_law_same b_law_same n
    exact fn_P F sc_law_same fun cdv A outer s H E hr =>
  (dss_cons (ds_if (dxb_p (dt_val (de_isLT (by rfl) tp.isinstance (by rfl) tp.list (by rfl) tp.tuple (de_var 1)))) (dss_cons (ds_if (dxb_p (dt_w (dw_or (dt_cmp (op_neX hr.units) ok_ne (de_isLst (by rfl) tp.isinstance (by rfl) tp.list (de_var 0)) (de_isLst (by rfl) tp.isinstance (by rfl) tp.list (de_var 1)) (by rfl)) (dw_or1 (dt_cmp (op_neX hr.units) ok_ne (de_isTup (by rfl) tp.isinstance (by rfl) tp.tuple (de_var 0)) (de_isTup (by rfl) tp.isinstance (by rfl) tp.tuple (de_var 1)) (by rfl)))))) (dss_one (ds_ret de_bl)) dss_nil)
  (dss_one (ds_ret (de_and (de_cmp (op_eqX hr.units) ok_eq (de_call1 call_len_seq ok_len (by rfl) tp.len (by decide +kernel) (de_var 0)) (de_call1 call_len_seq ok_len (by rfl) tp.len (by decide +kernel) (de_var 1)) (by rfl)) (de_one (de_call1 (cr_all rfl) ok_all (by rfl) tp.all (by decide +kernel) (de_lc (own := [("_law_mine", 2), ("_law_its", 3)]) rfl nd (di_zip2 (by rfl) tp.zip (de_var 0) (de_var 1)) (blkOk_by (by rfl)) (fun _ _ _ _ _ => (dg_tup rfl (dgs_cons (dg_name 2 nd) (dgs_cons (dg_name 3 nd) dgs_nil)))) (fun _ _ _ _ _ => dts_nil) (fun _ _ _ _ _ => (de_call G_law_same hr (by rfl) m_law_same kp_law_same b_law_same (da_cons (de_var 2) (da_cons (de_var 3) da_nil))))))))))) dss_nil)
  (dss_cons (ds_if (dxb_p (dt_w (dw_or (dt_cmp op_isN ok_isN (de_var 1) de_non (by rfl)) (dw_or1 (dt_val (de_isBS (by rfl) tp.isinstance (by rfl) tp.bool (by rfl) tp.str (de_var 1))))))) (dss_one (ds_ret (de_and (de_cmp (op_eqX hr.units) ok_eq (de_var 0) (de_var 1) (by rfl)) (de_and (de_cmp (op_eqX hr.units) ok_eq (de_isBl (by rfl) tp.isinstance (by rfl) tp.bool (de_var 0)) (de_isBl (by rfl) tp.isinstance (by rfl) tp.bool (de_var 1)) (by rfl)) (de_one (de_cmp (op_eqX hr.units) ok_eq (de_cmp op_isN ok_isN (de_var 0) de_non (by rfl)) (de_cmp op_isN ok_isN (de_var 1) de_non (by rfl)) (by rfl))))))) dss_nil)
  (dss_one (ds_ret (de_and (de_isInt (by rfl) tp.isinstance (by rfl) tp.int (de_var 0)) (de_and (de_not (de_isBl (by rfl) tp.isinstance (by rfl) tp.bool (de_var 0))) (de_one (de_cmp (op_eqX hr.units) ok_eq (de_var 0) (de_var 1) (by rfl)))))))))
end S67

/-! the walk of each def, printed by gen.py -/
namespace S67
open PySem PySem.Spec PyProof.Rows L2
abbrev s_check_stretch : Stmt := topS 11
theorem sc_check_stretch : FnScope ["hours", "first", "last"] ["hours", "first", "last"] (defScope s_check_stretch) := ⟨rfl, rfl, rfl, by decide +kernel, rfl, by decide +kernel, by decide +kernel⟩
set_option maxHeartbeats 4000000 in
theorem ok_check_stretch {P : Program} {w : World} {K : PySem.W.Frag} {mg : Str → Option Value} {base : Heap} (tp : Tops mg)  {f : Addr} {fd : FuncData} (F : Fun K "check_stretch" "check_stretch" s_check_stretch f fd) : FnOk P w K mg base CX0 1 f fd ["hours", "first", "last"] (spP K 3 F_check_stretch) := by
  have nd := sc_check_stretch.nd
  exact fn_P F sc_check_stretch fun cdv A outer s H E hr =>
  (dss_one (ds_if (dxb_p (dt_not (dt_ch3 op_le ok_oB op_le ok_oB op_lt ok_oB de_int (de_var 1) (de_var 2) (de_var 0)))) dss_never dss_nil))
abbrev s_lies_within : Stmt := topS 18
theorem sc_lies_within : FnScope ["one", "other"] ["one", "other"] (defScope s_lies_within) := ⟨rfl, rfl, rfl, by decide +kernel, rfl, by decide +kernel, by decide +kernel⟩
set_option maxHeartbeats 4000000 in
theorem ok_lies_within {P : Program} {w : World} {K : PySem.W.Frag} {mg : Str → Option Value} {base : Heap} (tp : Tops mg)  {f : Addr} {fd : FuncData} (F : Fun K "lies_within" "lies_within" s_lies_within f fd) : FnOk P w K mg base CX0 1 f fd ["one", "other"] (spP K 2 F_lies_within) := by
  have nd := sc_lies_within.nd
  exact fn_P F sc_lies_within fun cdv A outer s H E hr =>
  (dss_one (ds_ret (de_and (de_cmp op_le ok_oB (de_ix (de_var 1) de_int) (de_ix (de_var 0) de_int) (by rfl)) (de_one (de_cmp op_le ok_oB (de_ix (de_var 0) de_int) (de_ix (de_var 1) de_int) (by rfl))))))
abbrev s_asked : Stmt := topS 19
theorem sc_asked : FnScope ["lot", "first", "last", "window", "work"] ["lot", "first", "last"] (defScope s_asked) := ⟨rfl, rfl, rfl, by decide +kernel, rfl, by decide +kernel, by decide +kernel⟩
set_option maxHeartbeats 4000000 in
theorem ok_asked {P : Program} {w : World} {K : PySem.W.Frag} {mg : Str → Option Value} {base : Heap} (tp : Tops mg) (h_check_stretch : Has P w K mg base 1 "check_stretch" ["hours", "first", "last"] (spP K 3 F_check_stretch)) (h_lies_within : Has P w K mg base 1 "lies_within" ["one", "other"] (spP K 2 F_lies_within)) {f : Addr} {fd : FuncData} (F : Fun K "asked" "asked" s_asked f fd) : FnOk P w K mg base CX0 2 f fd ["lot", "first", "last"] (spP K 3 F_asked) := by
  have nd := sc_asked.nd
  obtain ⟨f_check_stretch, fd_check_stretch, G_check_stretch, m_check_stretch, kp_check_stretch, b_check_stretch⟩ := h_check_stretch
  obtain ⟨f_lies_within, fd_lies_within, G_lies_within, m_lies_within, kp_lies_within, b_lies_within⟩ := h_lies_within
  exact fn_P F sc_asked fun cdv A outer s H E hr =>
  (dss_cons (ds_expr (de_call (G_check_stretch.mono (by decide)) hr (by rfl) m_check_stretch kp_check_stretch b_check_stretch (da_cons (de_ix (de_var 0) de_int) (da_cons (de_var 1) (da_cons (de_var 2) da_nil)))))
  (dss_one (ds_ret (de_call1 (cr_sum rfl) ok_sum (by rfl) tp.sum (by decide +kernel) (de_lc (own := [("window", 3), ("work", 4)]) rfl nd (di_seq (de_ix (de_var 0) de_int)) (blkOk_by (by rfl)) (fun _ _ _ _ _ => (dg_tup rfl (dgs_cons (dg_name 3 nd) (dgs_cons (dg_name 4 nd) dgs_nil)))) (fun _ _ _ _ _ => (dts_one (dt_val (de_call (G_lies_within.mono (by decide)) hr (by rfl) m_lies_within kp_lies_within b_lies_within (da_cons (de_var 3) (da_cons (de_tup (da_cons (de_var 1) (da_cons (de_var 2) da_nil))) da_nil)))))) (fun _ _ _ _ _ => (de_var 4)))))))
abbrev s_table_of : Stmt := topS 20
theorem sc_table_of : FnScope ["lot", "first", "last"] ["lot"] (defScope s_table_of) := ⟨rfl, rfl, rfl, by decide +kernel, rfl, by decide +kernel, by decide +kernel⟩
set_option maxHeartbeats 4000000 in
theorem ok_table_of {P : Program} {w : World} {K : PySem.W.Frag} {mg : Str → Option Value} {base : Heap} (tp : Tops mg) (h_all_stretches : Has P w K mg base 1 "all_stretches" ["hours"] (spP K 1 F_all_stretches)) (h_asked : Has P w K mg base 2 "asked" ["lot", "first", "last"] (spP K 3 F_asked)) {f : Addr} {fd : FuncData} (F : Fun K "table_of" "table_of" s_table_of f fd) : FnOk P w K mg base CX0 3 f fd ["lot"] (spP K 1 F_table_of) := by
  have nd := sc_table_of.nd
  obtain ⟨f_all_stretches, fd_all_stretches, G_all_stretches, m_all_stretches, kp_all_stretches, b_all_stretches⟩ := h_all_stretches
  obtain ⟨f_asked, fd_asked, G_asked, m_asked, kp_asked, b_asked⟩ := h_asked
  exact fn_P F sc_table_of fun cdv A outer s H E hr =>
  (dss_one (ds_ret (de_callT1 call_tuple_of ok_tuple (by rfl) tp.tuple (by decide +kernel) (de_lc (own := [("first", 1), ("last", 2)]) rfl nd (di_seq (de_call (G_all_stretches.mono (by decide)) hr (by rfl) m_all_stretches kp_all_stretches b_all_stretches (da_cons (de_ix (de_var 0) de_int) da_nil))) (blkOk_by (by rfl)) (fun _ _ _ _ _ => (dg_tup rfl (dgs_cons (dg_name 1 nd) (dgs_cons (dg_name 2 nd) dgs_nil)))) (fun _ _ _ _ _ => dts_nil) (fun _ _ _ _ _ => (de_call (G_asked.mono (by decide)) hr (by rfl) m_asked kp_asked b_asked (da_cons (de_var 0) (da_cons (de_var 1) (da_cons (de_var 2) da_nil)))))))))
abbrev s_check_rows : Stmt := topS 40
theorem sc_check_rows : FnScope ["hours", "rows", "prices"] ["hours", "rows"] (defScope s_check_rows) := ⟨rfl, rfl, rfl, by decide +kernel, rfl, by decide +kernel, by decide +kernel⟩
set_option maxHeartbeats 4000000 in
theorem ok_check_rows {P : Program} {w : World} {K : PySem.W.Frag} {mg : Str → Option Value} {base : Heap} (tp : Tops mg)  {f : Addr} {fd : FuncData} (F : Fun K "check_rows" "check_rows" s_check_rows f fd) : FnOk P w K mg base CX0 1 f fd ["hours", "rows"] (spP K 2 F_check_rows) := by
  have nd := sc_check_rows.nd
  exact fn_P F sc_check_rows fun cdv A outer s H E hr =>
  (dss_one (ds_for (vs := [2]) [] PassesOwn.never rfl (di_seq (de_var 1)) (dg_name 2 nd) (dss_one (ds_if (dxb_p (dt_cmp (op_neX hr.units) ok_ne (de_call1 call_len_seq ok_len (by rfl) tp.len (by decide +kernel) (de_var 2)) (de_var 0) (by rfl))) dss_never dss_nil))))
abbrev s_seen : Stmt := topS 31
theorem sc_seen : FnScope ["prices", "span", "weight"] ["prices"] (defScope s_seen) := ⟨rfl, rfl, rfl, by decide +kernel, rfl, by decide +kernel, by decide +kernel⟩
set_option maxHeartbeats 4000000 in
theorem ok_seen {P : Program} {w : World} {K : PySem.W.Frag} {mg : Str → Option Value} {base : Heap} (tp : Tops mg) (h_weights_of : Has P w K mg base 3 "weights_of" ["prices"] (spP K 1 F_weights_of)) {f : Addr} {fd : FuncData} (F : Fun K "seen" "seen" s_seen f fd) : FnOk P w K mg base CX0 4 f fd ["prices"] (spP K 1 F_seen) := by
  have nd := sc_seen.nd
  obtain ⟨f_weights_of, fd_weights_of, G_weights_of, m_weights_of, kp_weights_of, b_weights_of⟩ := h_weights_of
  exact fn_P F sc_seen fun cdv A outer s H E hr =>
  (dss_one (ds_ret (de_callT1 call_tuple_of ok_tuple (by rfl) tp.tuple (by decide +kernel) (de_lc (own := [("span", 1), ("weight", 2)]) rfl nd (di_seq (de_call (G_weights_of.mono (by decide)) hr (by rfl) m_weights_of kp_weights_of b_weights_of (da_cons (de_var 0) da_nil))) (blkOk_by (by rfl)) (fun _ _ _ _ _ => (dg_tup rfl (dgs_cons (dg_name 1 nd) (dgs_cons (dg_name 2 nd) dgs_nil)))) (fun _ _ _ _ _ => dts_nil) (fun _ _ _ _ _ => (de_var 1))))))
abbrev s_unseen : Stmt := topS 41
theorem sc_unseen : FnScope ["hours", "rows", "told", "prices", "span"] ["hours", "rows"] (defScope s_unseen) := ⟨rfl, rfl, rfl, by decide +kernel, rfl, by decide +kernel, by decide +kernel⟩
set_option maxHeartbeats 4000000 in
theorem ok_unseen {P : Program} {w : World} {K : PySem.W.Frag} {mg : Str → Option Value} {base : Heap} (tp : Tops mg) (h_check_rows : Has P w K mg base 1 "check_rows" ["hours", "rows"] (spP K 2 F_check_rows)) (h_seen : Has P w K mg base 4 "seen" ["prices"] (spP K 1 F_seen)) (h_all_stretches : Has P w K mg base 1 "all_stretches" ["hours"] (spP K 1 F_all_stretches)) {f : Addr} {fd : FuncData} (F : Fun K "unseen" "unseen" s_unseen f fd) : FnOk P w K mg base CX0 5 f fd ["hours", "rows"] (spP K 2 F_unseen) := by
  have nd := sc_unseen.nd
  obtain ⟨f_check_rows, fd_check_rows, G_check_rows, m_check_rows, kp_check_rows, b_check_rows⟩ := h_check_rows
  obtain ⟨f_seen, fd_seen, G_seen, m_seen, kp_seen, b_seen⟩ := h_seen
  obtain ⟨f_all_stretches, fd_all_stretches, G_all_stretches, m_all_stretches, kp_all_stretches, b_all_stretches⟩ := h_all_stretches
  exact fn_P F sc_unseen fun cdv A outer s H E hr =>
  (dss_cons (ds_expr (de_call (G_check_rows.mono (by decide)) hr (by rfl) m_check_rows kp_check_rows b_check_rows (da_cons (de_var 0) (da_cons (de_var 1) da_nil))))
  (dss_cons (ds_set 2 nd (dx_p (de_lc2 (own := [("prices", 3), ("span", 4)]) (vs1 := [4]) rfl nd (di_seq (de_var 1)) (blkOk_by (by rfl)) (by decide) (fun _ _ _ _ _ => (dg_name 3 nd)) (fun _ _ _ _ _ => dts_nil) (fun _ _ _ _ _ => (di_seq (de_call (G_seen.mono (by decide)) hr (by rfl) m_seen kp_seen b_seen (da_cons (de_var 3) da_nil)))) (fun _ _ _ _ _ => (dg_name 4 nd)) (fun _ _ _ _ _ => dts_nil) (fun _ _ _ _ _ => (de_var 4)))))
  (dss_one (ds_ret (de_callT1 call_tuple_of ok_tuple (by rfl) tp.tuple (by decide +kernel) (de_lc (own := [("span", 4)]) rfl nd (di_seq (de_call (G_all_stretches.mono (by decide)) hr (by rfl) m_all_stretches kp_all_stretches b_all_stretches (da_cons (de_var 0) da_nil))) (blkOk_by (by rfl)) (fun _ _ _ _ _ => (dg_name 4 nd)) (fun _ _ _ _ _ => (dts_one (dt_cmp (op_notInX hr.units) ok_notIn (de_var 4) (de_var 2) (by rfl)))) (fun _ _ _ _ _ => (de_var 4))))))))
end S67

/-! the walk of each def, printed by gen.py -/
namespace S67
open PySem PySem.Spec PyProof.Rows L2
abbrev s_made_lot : Stmt := topS 12
theorem sc_made_lot : FnScope ["hours", "errands", "found", "work", "first", "last", "window"] ["hours", "errands"] (defScope s_made_lot) := ⟨rfl, rfl, rfl, by decide +kernel, rfl, by decide +kernel, by decide +kernel⟩
set_option maxHeartbeats 4000000 in
theorem ok_made_lot {P : Program} {w : World} {K : PySem.W.Frag} {mg : Str → Option Value} {base : Heap} (tp : Tops mg) (h_check_stretch : Has P w K mg base 1 "check_stretch" ["hours", "first", "last"] (spP K 3 F_check_stretch)) {f : Addr} {fd : FuncData} (F : Fun K "made_lot" "made_lot" s_made_lot f fd) : FnOk P w K mg base CX0 2 f fd ["hours", "errands"] (spP K 2 F_made_lot) := by
  have nd := sc_made_lot.nd
  obtain ⟨f_check_stretch, fd_check_stretch, G_check_stretch, m_check_stretch, kp_check_stretch, b_check_stretch⟩ := h_check_stretch
  exact fn_P F sc_made_lot fun cdv A outer s H E hr =>
  (dss_cons (ds_set 2 nd (dx_p de_dictE))
  (dss_cons (ds_for (vs := [3, 4, 5]) [] PassesOwn.never rfl (di_seq (de_var 1)) (dg_tup rfl (dgs_cons (dg_tup rfl (dgs_cons (dg_name 4 nd) (dgs_cons (dg_name 5 nd) dgs_nil))) (dgs_cons (dg_name 3 nd) dgs_nil))) (dss_cons (ds_expr (de_call (G_check_stretch.mono (by decide)) hr (by rfl) m_check_stretch kp_check_stretch b_check_stretch (da_cons (de_var 0) (da_cons (de_var 4) (da_cons (de_var 5) da_nil)))))
  (dss_one (ds_putM 2 (u1 hr) (dx_p (de_op op_addX ok_add (de_get (u1 hr) (de_var 2) (de_tup (da_cons (de_var 4) (da_cons (de_var 5) da_nil))) de_int ⟨by rfl, by rfl, by rfl, by rfl⟩) (de_var 3))) (de_tup (da_cons (de_var 4) (da_cons (de_var 5) da_nil)))))))
  (dss_one (ds_ret (de_tup (da_cons (de_var 0) (da_cons (de_callT1 call_tuple_of ok_tuple (by rfl) tp.tuple (by decide +kernel) (de_call1 (call_sortedL hr.units) ok_sortL (by rfl) tp.sorted (by decide +kernel) (de_lcItems (own := [("window", 6), ("work", 3)]) 2 rfl nd (blkOk_by (by rfl)) (fun _ _ _ _ _ => (dg_tup rfl (dgs_cons (dg_name 6 nd) (dgs_cons (dg_name 3 nd) dgs_nil)))) (fun _ _ _ _ _ => (dts_one (dt_cmp op_gt ok_oB (de_var 3) de_int (by rfl)))) (fun _ _ _ _ _ => (de_tup (da_cons (de_var 6) (da_cons (de_var 3) da_nil))))))) da_nil)))))))
abbrev s_pair_at : Stmt := topS 42
theorem sc_pair_at : FnScope ["hours", "first", "last", "mine", "its", "left", "right"] ["hours", "first", "last"] (defScope s_pair_at) := ⟨rfl, rfl, rfl, by decide +kernel, rfl, by decide +kernel, by decide +kernel⟩
set_option maxHeartbeats 4000000 in
theorem ok_pair_at {P : Program} {w : World} {K : PySem.W.Frag} {mg : Str → Option Value} {base : Heap} (tp : Tops mg) (h_made_lot : Has P w K mg base 2 "made_lot" ["hours", "errands"] (spP K 2 F_made_lot)) {f : Addr} {fd : FuncData} (F : Fun K "pair_at" "pair_at" s_pair_at f fd) : FnOk P w K mg base CX0 3 f fd ["hours", "first", "last"] (spP K 3 F_pair_at) := by
  have nd := sc_pair_at.nd
  obtain ⟨f_made_lot, fd_made_lot, G_made_lot, m_made_lot, kp_made_lot, b_made_lot⟩ := h_made_lot
  exact fn_P F sc_pair_at fun cdv A outer s H E hr =>
  (dss_cons (ds_par 5 6 rfl nd (dx_p (de_cmp op_gt ok_oB (de_var 1) de_int (by rfl))) (dx_p (de_cmp op_lt ok_oB (de_var 2) (de_op op_sub ok_sub (de_var 0) de_int) (by rfl))))
  (dss_cons (ds_set 3 nd (dx_p (de_op op_addX ok_add (de_op op_mulX ok_mul (de_lst (da_cons (de_tup (da_cons (de_tup (da_cons (de_op op_sub ok_sub (de_var 1) de_int) (da_cons (de_var 2) da_nil))) (da_cons de_int da_nil))) da_nil)) (de_callT1 call_int1 ok_int (by rfl) tp.int (by decide +kernel) (de_var 5))) (de_op op_mulX ok_mul (de_lst (da_cons (de_tup (da_cons (de_tup (da_cons (de_var 1) (da_cons (de_op op_addX ok_add (de_var 2) de_int) da_nil))) (da_cons de_int da_nil))) da_nil)) (de_callT1 call_int1 ok_int (by rfl) tp.int (by decide +kernel) (de_var 6))))))
  (dss_cons (ds_set 4 nd (dx_p (de_op op_addX ok_add (de_lst (da_cons (de_tup (da_cons (de_tup (da_cons (de_var 1) (da_cons (de_var 2) da_nil))) (da_cons de_int da_nil))) da_nil)) (de_op op_mulX ok_mul (de_lst (da_cons (de_tup (da_cons (de_tup (da_cons (de_op op_sub ok_sub (de_var 1) de_int) (da_cons (de_op op_addX ok_add (de_var 2) de_int) da_nil))) (da_cons de_int da_nil))) da_nil)) (de_callT1 call_int1 ok_int (by rfl) tp.int (by decide +kernel) (de_and (de_var 5) (de_one (de_var 6))))))))
  (dss_one (ds_ret (de_tup (da_cons (de_call (G_made_lot.mono (by decide)) hr (by rfl) m_made_lot kp_made_lot b_made_lot (da_cons (de_var 0) (da_cons (de_var 3) da_nil))) (da_cons (de_call (G_made_lot.mono (by decide)) hr (by rfl) m_made_lot kp_made_lot b_made_lot (da_cons (de_var 0) (da_cons (de_var 4) da_nil))) da_nil))))))))
abbrev s_blind_pair : Stmt := topS 43
theorem sc_blind_pair : FnScope ["hours", "rows", "found"] ["hours", "rows"] (defScope s_blind_pair) := ⟨rfl, rfl, rfl, by decide +kernel, rfl, by decide +kernel, by decide +kernel⟩
set_option maxHeartbeats 4000000 in
theorem ok_blind_pair {P : Program} {w : World} {K : PySem.W.Frag} {mg : Str → Option Value} {base : Heap} (tp : Tops mg) (h_unseen : Has P w K mg base 5 "unseen" ["hours", "rows"] (spP K 2 F_unseen)) (h_pair_at : Has P w K mg base 3 "pair_at" ["hours", "first", "last"] (spP K 3 F_pair_at)) {f : Addr} {fd : FuncData} (F : Fun K "blind_pair" "blind_pair" s_blind_pair f fd) : FnOk P w K mg base CX0 6 f fd ["hours", "rows"] (spP K 2 F_blind_pair) := by
  have nd := sc_blind_pair.nd
  obtain ⟨f_unseen, fd_unseen, G_unseen, m_unseen, kp_unseen, b_unseen⟩ := h_unseen
  obtain ⟨f_pair_at, fd_pair_at, G_pair_at, m_pair_at, kp_pair_at, b_pair_at⟩ := h_pair_at
  exact fn_P F sc_blind_pair fun cdv A outer s H E hr =>
  (dss_cons (ds_set 2 nd (dx_p (de_call (G_unseen.mono (by decide)) hr (by rfl) m_unseen kp_unseen b_unseen (da_cons (de_var 0) (da_cons (de_var 1) da_nil)))))
  (dss_one (ds_ret (de_if (dt_cmp op_gt ok_oB (de_call1 call_len_seq ok_len (by rfl) tp.len (by decide +kernel) (de_var 2)) de_int (by rfl)) (de_call (G_pair_at.mono (by decide)) hr (by rfl) m_pair_at kp_pair_at b_pair_at (da_cons (de_var 0) (da_cons (de_ix (de_ix (de_var 2) de_int) de_int) (da_cons (de_ix (de_ix (de_var 2) de_int) de_int) da_nil)))) de_non))))
abbrev s_is_number : Stmt := topS 5
theorem sc_is_number : FnScope ["thing"] ["thing"] (defScope s_is_number) := ⟨rfl, rfl, rfl, by decide +kernel, rfl, by decide +kernel, by decide +kernel⟩
set_option maxHeartbeats 4000000 in
theorem ok_is_number {P : Program} {w : World} {K : PySem.W.Frag} {mg : Str → Option Value} {base : Heap} (tp : Tops mg)  {f : Addr} {fd : FuncData} (F : Fun K "is_number" "is_number" s_is_number f fd) : FnOk P w K mg base CX0 1 f fd ["thing"] (spP K 1 F_is_number) := by
  have nd := sc_is_number.nd
  exact fn_P F sc_is_number fun cdv A outer s H E hr =>
  (dss_one (ds_ret (de_and (de_isInt (by rfl) tp.isinstance (by rfl) tp.int (de_var 0)) (de_one (de_not (de_isBl (by rfl) tp.isinstance (by rfl) tp.bool (de_var 0)))))))
abbrev s_are_numbers : Stmt := topS 6
theorem sc_are_numbers : FnScope ["thing", "size", "least", "own"] ["thing", "size", "least"] (defScope s_are_numbers) := ⟨rfl, rfl, rfl, by decide +kernel, rfl, by decide +kernel, by decide +kernel⟩
set_option maxHeartbeats 4000000 in
theorem ok_are_numbers {P : Program} {w : World} {K : PySem.W.Frag} {mg : Str → Option Value} {base : Heap} (tp : Tops mg) (h_is_number : Has P w K mg base 1 "is_number" ["thing"] (spP K 1 F_is_number)) {f : Addr} {fd : FuncData} (F : Fun K "are_numbers" "are_numbers" s_are_numbers f fd) : FnOk P w K mg base CX0 2 f fd ["thing", "size", "least"] (spP K 3 F_are_numbers) := by
  have nd := sc_are_numbers.nd
  obtain ⟨f_is_number, fd_is_number, G_is_number, m_is_number, kp_is_number, b_is_number⟩ := h_is_number
  exact fn_P F sc_are_numbers fun cdv A outer s H E hr =>
  (dss_one (ds_ret (de_and (de_isTup (by rfl) tp.isinstance (by rfl) tp.tuple (de_var 0)) (de_and (de_cmp (op_eqX hr.units) ok_eq (de_call1 call_len_seq ok_len (by rfl) tp.len (by decide +kernel) (de_var 0)) (de_var 1) (by rfl)) (de_one (de_call1 (cr_all rfl) ok_all (by rfl) tp.all (by decide +kernel) (de_lc (own := [("own", 3)]) rfl nd (di_seq (de_var 0)) (blkOk_by (by rfl)) (fun _ _ _ _ _ => (dg_name 3 nd)) (fun _ _ _ _ _ => dts_nil) (fun _ _ _ _ _ => (de_and (de_call (G_is_number.mono (by decide)) hr (by rfl) m_is_number kp_is_number b_is_number (da_cons (de_var 3) da_nil)) (de_one (de_cmp op_ge ok_oB (de_var 3) (de_var 2) (by rfl))))))))))))
abbrev s_is_errand : Stmt := topS 9
theorem sc_is_errand : FnScope ["hours", "thing", "window"] ["hours", "thing"] (defScope s_is_errand) := ⟨rfl, rfl, rfl, by decide +kernel, rfl, by decide +kernel, by decide +kernel⟩
set_option maxHeartbeats 4000000 in
theorem ok_is_errand {P : Program} {w : World} {K : PySem.W.Frag} {mg : Str → Option Value} {base : Heap} (tp : Tops mg) (h_is_number : Has P w K mg base 1 "is_number" ["thing"] (spP K 1 F_is_number)) (h_are_numbers : Has P w K mg base 2 "are_numbers" ["thing", "size", "least"] (spP K 3 F_are_numbers)) {f : Addr} {fd : FuncData} (F : Fun K "is_errand" "is_errand" s_is_errand f fd) : FnOk P w K mg base CX0 3 f fd ["hours", "thing"] (spP K 2 F_is_errand) := by
  have nd := sc_is_errand.nd
  obtain ⟨f_is_number, fd_is_number, G_is_number, m_is_number, kp_is_number, b_is_number⟩ := h_is_number
  obtain ⟨f_are_numbers, fd_are_numbers, G_are_numbers, m_are_numbers, kp_are_numbers, b_are_numbers⟩ := h_are_numbers
  exact fn_P F sc_is_errand fun cdv A outer s H E hr =>
  (dss_cons (ds_if (dxb_p (dt_w (dw_or (dt_not (dt_val (de_isTup (by rfl) tp.isinstance (by rfl) tp.tuple (de_var 1)))) (dw_or (dt_cmp (op_neX hr.units) ok_ne (de_call1 call_len_seq ok_len (by rfl) tp.len (by decide +kernel) (de_var 1)) de_int (by rfl)) (dw_or (dt_not (dt_val (de_call (G_is_number.mono (by decide)) hr (by rfl) m_is_number kp_is_number b_is_number (da_cons (de_ix (de_var 1) de_int) da_nil)))) (dw_or1 (dt_cmp op_lt ok_oB (de_ix (de_var 1) de_int) de_int (by rfl)))))))) (dss_one (ds_ret de_bl)) dss_nil)
  (dss_cons (ds_set 2 nd (dx_p (de_ix (de_var 1) de_int)))
  (dss_one (ds_ret (de_and (de_call (G_are_numbers.mono (by decide)) hr (by rfl) m_are_numbers kp_are_numbers b_are_numbers (da_cons (de_var 2) (da_cons de_int (da_cons de_int da_nil)))) (de_one (de_ch2 op_le ok_oB op_lt ok_oB (de_ix (de_var 2) de_int) (de_ix (de_var 2) de_int) (de_var 0))))))))
abbrev s_rises : Stmt := topS 7
theorem sc_rises : FnScope ["things", "one", "other"] ["things"] (defScope s_rises) := ⟨rfl, rfl, rfl, by decide +kernel, rfl, by decide +kernel, by decide +kernel⟩
set_option maxHeartbeats 4000000 in
theorem ok_rises {P : Program} {w : World} {K : PySem.W.Frag} {mg : Str → Option Value} {base : Heap} (tp : Tops mg)  {f : Addr} {fd : FuncData} (F : Fun K "rises" "rises" s_rises f fd) : FnOk P w K mg base CX0 1 f fd ["things"] (spP K 1 F_rises) := by
  have nd := sc_rises.nd
  exact fn_P F sc_rises fun cdv A outer s H E hr =>
  (dss_one (ds_ret (de_call1 (cr_all rfl) ok_all (by rfl) tp.all (by decide +kernel) (de_lc (own := [("one", 1), ("other", 2)]) rfl nd (di_zip2 (by rfl) tp.zip (de_var 0) (de_cut (de_var 0) (do_yes de_int) do_no)) (blkOk_by (by rfl)) (fun _ _ _ _ _ => (dg_tup rfl (dgs_cons (dg_name 1 nd) (dgs_cons (dg_name 2 nd) dgs_nil)))) (fun _ _ _ _ _ => dts_nil) (fun _ _ _ _ _ => (de_cmp (op_ltX hr.units) ok_ltX (de_var 1) (de_var 2) (by rfl)))))))
end S67

/-! the walk of each def, printed by gen.py -/
namespace S67
open PySem PySem.Spec PyProof.Rows L2
abbrev s_is_lot : Stmt := topS 10
theorem sc_is_lot : FnScope ["thing", "window", "work", "own"] ["thing"] (defScope s_is_lot) := ⟨rfl, rfl, rfl, by decide +kernel, rfl, by decide +kernel, by decide +kernel⟩
set_option maxHeartbeats 4000000 in
theorem ok_is_lot {P : Program} {w : World} {K : PySem.W.Frag} {mg : Str → Option Value} {base : Heap} (tp : Tops mg) (h_is_number : Has P w K mg base 1 "is_number" ["thing"] (spP K 1 F_is_number)) (h_is_errand : Has P w K mg base 3 "is_errand" ["hours", "thing"] (spP K 2 F_is_errand)) (h_rises : Has P w K mg base 1 "rises" ["things"] (spP K 1 F_rises)) {f : Addr} {fd : FuncData} (F : Fun K "is_lot" "is_lot" s_is_lot f fd) : FnOk P w K mg base CX0 4 f fd ["thing"] (spP K 1 F_is_lot) := by
  have nd := sc_is_lot.nd
  obtain ⟨f_is_number, fd_is_number, G_is_number, m_is_number, kp_is_number, b_is_number⟩ := h_is_number
  obtain ⟨f_is_errand, fd_is_errand, G_is_errand, m_is_errand, kp_is_errand, b_is_errand⟩ := h_is_errand
  obtain ⟨f_rises, fd_rises, G_rises, m_rises, kp_rises, b_rises⟩ := h_rises
  exact fn_P F sc_is_lot fun cdv A outer s H E hr =>
  (dss_cons (ds_if (dxb_p (dt_w (dw_or (dt_not (dt_val (de_isTup (by rfl) tp.isinstance (by rfl) tp.tuple (de_var 0)))) (dw_or (dt_cmp (op_neX hr.units) ok_ne (de_call1 call_len_seq ok_len (by rfl) tp.len (by decide +kernel) (de_var 0)) de_int (by rfl)) (dw_or (dt_not (dt_val (de_call (G_is_number.mono (by decide)) hr (by rfl) m_is_number kp_is_number b_is_number (da_cons (de_ix (de_var 0) de_int) da_nil)))) (dw_or1 (dt_cmp op_lt ok_oB (de_ix (de_var 0) de_int) de_int (by rfl)))))))) (dss_one (ds_ret de_bl)) dss_nil)
  (dss_cons (ds_if (dxb_p (dt_w (dw_or (dt_not (dt_val (de_isTup (by rfl) tp.isinstance (by rfl) tp.tuple (de_ix (de_var 0) de_int)))) (dw_or1 (dt_not (dt_val (de_call1 (cr_all rfl) ok_all (by rfl) tp.all (by decide +kernel) (de_lc (own := [("own", 3)]) rfl nd (di_seq (de_ix (de_var 0) de_int)) (blkOk_by (by rfl)) (fun _ _ _ _ _ => (dg_name 3 nd)) (fun _ _ _ _ _ => dts_nil) (fun _ _ _ _ _ => (de_call (G_is_errand.mono (by decide)) hr (by rfl) m_is_errand kp_is_errand b_is_errand (da_cons (de_ix (de_var 0) de_int) (da_cons (de_var 3) da_nil)))))))))))) (dss_one (ds_ret de_bl)) dss_nil)
  (dss_one (ds_ret (de_call (G_rises.mono (by decide)) hr (by rfl) m_rises kp_rises b_rises (da_cons (de_lc (own := [("window", 1), ("work", 2)]) rfl nd (di_seq (de_ix (de_var 0) de_int)) (blkOk_by (by rfl)) (fun _ _ _ _ _ => (dg_tup rfl (dgs_cons (dg_name 1 nd) (dgs_cons (dg_name 2 nd) dgs_nil)))) (fun _ _ _ _ _ => dts_nil) (fun _ _ _ _ _ => (de_var 1))) da_nil))))))
abbrev s_is_blind_pair : Stmt := topS 44
theorem sc_is_blind_pair : FnScope ["hours", "rows", "thing", "own"] ["hours", "rows", "thing"] (defScope s_is_blind_pair) := ⟨rfl, rfl, rfl, by decide +kernel, rfl, by decide +kernel, by decide +kernel⟩
set_option maxHeartbeats 4000000 in
theorem ok_is_blind_pair {P : Program} {w : World} {K : PySem.W.Frag} {mg : Str → Option Value} {base : Heap} (tp : Tops mg) (h_check_rows : Has P w K mg base 1 "check_rows" ["hours", "rows"] (spP K 2 F_check_rows)) (h_is_lot : Has P w K mg base 4 "is_lot" ["thing"] (spP K 1 F_is_lot)) (h_bills_of : Has P w K mg base 3 "bills_of" ["lot", "rows"] (spP K 2 F_bills_of)) {f : Addr} {fd : FuncData} (F : Fun K "is_blind_pair" "is_blind_pair" s_is_blind_pair f fd) : FnOk P w K mg base CX0 5 f fd ["hours", "rows", "thing"] (spP K 3 F_is_blind_pair) := by
  have nd := sc_is_blind_pair.nd
  obtain ⟨f_check_rows, fd_check_rows, G_check_rows, m_check_rows, kp_check_rows, b_check_rows⟩ := h_check_rows
  obtain ⟨f_is_lot, fd_is_lot, G_is_lot, m_is_lot, kp_is_lot, b_is_lot⟩ := h_is_lot
  obtain ⟨f_bills_of, fd_bills_of, G_bills_of, m_bills_of, kp_bills_of, b_bills_of⟩ := h_bills_of
  obtain ⟨_, m_PAIR⟩ := tp.PAIR
  exact fn_P F sc_is_blind_pair fun cdv A outer s H E hr =>
  (dss_cons (ds_expr (de_call (G_check_rows.mono (by decide)) hr (by rfl) m_check_rows kp_check_rows b_check_rows (da_cons (de_var 0) (da_cons (de_var 1) da_nil))))
  (dss_cons (ds_if (dxb_p (dt_w (dw_or (dt_not (dt_val (de_isTup (by rfl) tp.isinstance (by rfl) tp.tuple (de_var 2)))) (dw_or (dt_cmp (op_neX hr.units) ok_ne (de_call1 call_len_seq ok_len (by rfl) tp.len (by decide +kernel) (de_var 2)) (de_glob (by rfl) m_PAIR ⟨_, rfl⟩) (by rfl)) (dw_or1 (dt_not (dt_val (de_call1 (cr_all rfl) ok_all (by rfl) tp.all (by decide +kernel) (de_lc (own := [("own", 3)]) rfl nd (di_seq (de_var 2)) (blkOk_by (by rfl)) (fun _ _ _ _ _ => (dg_name 3 nd)) (fun _ _ _ _ _ => dts_nil) (fun _ _ _ _ _ => (de_call (G_is_lot.mono (by decide)) hr (by rfl) m_is_lot kp_is_lot b_is_lot (da_cons (de_var 3) da_nil)))))))))))) (dss_one (ds_ret de_bl)) dss_nil)
  (dss_cons (ds_if (dxb_p (dt_w (dw_or (dt_cmp (op_eqX hr.units) ok_eq (de_ix (de_var 2) de_int) (de_ix (de_var 2) de_int) (by rfl)) (dw_or1 (dt_cmp (op_neX hr.units) ok_ne (de_tup (da_cons (de_ix (de_ix (de_var 2) de_int) de_int) (da_cons (de_ix (de_ix (de_var 2) de_int) de_int) da_nil))) (de_tup (da_cons (de_var 0) (da_cons (de_var 0) da_nil))) (by rfl)))))) (dss_one (ds_ret de_bl)) dss_nil)
  (dss_one (ds_ret (de_cmp (op_eqX hr.units) ok_eq (de_call (G_bills_of.mono (by decide)) hr (by rfl) m_bills_of kp_bills_of b_bills_of (da_cons (de_ix (de_var 2) de_int) (da_cons (de_var 1) da_nil))) (de_call (G_bills_of.mono (by decide)) hr (by rfl) m_bills_of kp_bills_of b_bills_of (da_cons (de_ix (de_var 2) de_int) (da_cons (de_var 1) da_nil))) (by rfl)))))))
abbrev s_check_same : Stmt := topS 14
theorem sc_check_same : FnScope ["one", "other"] ["one", "other"] (defScope s_check_same) := ⟨rfl, rfl, rfl, by decide +kernel, rfl, by decide +kernel, by decide +kernel⟩
set_option maxHeartbeats 4000000 in
theorem ok_check_same {P : Program} {w : World} {K : PySem.W.Frag} {mg : Str → Option Value} {base : Heap} (tp : Tops mg)  {f : Addr} {fd : FuncData} (F : Fun K "check_same" "check_same" s_check_same f fd) : FnOk P w K mg base CX0 1 f fd ["one", "other"] (spP K 2 F_check_same) := by
  have nd := sc_check_same.nd
  exact fn_P F sc_check_same fun cdv A outer s H E hr =>
  (dss_one (ds_if (dxb_p (dt_cmp (op_neX hr.units) ok_ne (de_ix (de_var 0) de_int) (de_ix (de_var 1) de_int) (by rfl))) dss_never dss_nil))
abbrev s_differences : Stmt := topS 46
theorem sc_differences : FnScope ["one", "other", "found", "mine", "its", "first", "last"] ["one", "other"] (defScope s_differences) := ⟨rfl, rfl, rfl, by decide +kernel, rfl, by decide +kernel, by decide +kernel⟩
set_option maxHeartbeats 4000000 in
theorem ok_differences {P : Program} {w : World} {K : PySem.W.Frag} {mg : Str → Option Value} {base : Heap} (tp : Tops mg) (h_check_same : Has P w K mg base 1 "check_same" ["one", "other"] (spP K 2 F_check_same)) (h_all_stretches : Has P w K mg base 1 "all_stretches" ["hours"] (spP K 1 F_all_stretches)) (h_table_of : Has P w K mg base 3 "table_of" ["lot"] (spP K 1 F_table_of)) {f : Addr} {fd : FuncData} (F : Fun K "differences" "differences" s_differences f fd) : FnOk P w K mg base CX0 4 f fd ["one", "other"] (spP K 2 F_differences) := by
  have nd := sc_differences.nd
  obtain ⟨f_check_same, fd_check_same, G_check_same, m_check_same, kp_check_same, b_check_same⟩ := h_check_same
  obtain ⟨f_all_stretches, fd_all_stretches, G_all_stretches, m_all_stretches, kp_all_stretches, b_all_stretches⟩ := h_all_stretches
  obtain ⟨f_table_of, fd_table_of, G_table_of, m_table_of, kp_table_of, b_table_of⟩ := h_table_of
  exact fn_P F sc_differences fun cdv A outer s H E hr =>
  (dss_cons (ds_expr (de_call (G_check_same.mono (by decide)) hr (by rfl) m_check_same kp_check_same b_check_same (da_cons (de_var 0) (da_cons (de_var 1) da_nil))))
  (dss_cons (ds_set 2 nd (dx_p (de_lst da_nil)))
  (dss_cons (ds_for (vs := [3, 4, 5, 6]) [] PassesOwn.never rfl (di_zip3 (by rfl) tp.zip (de_call (G_all_stretches.mono (by decide)) hr (by rfl) m_all_stretches kp_all_stretches b_all_stretches (da_cons (de_ix (de_var 0) de_int) da_nil)) (de_call (G_table_of.mono (by decide)) hr (by rfl) m_table_of kp_table_of b_table_of (da_cons (de_var 0) da_nil)) (de_call (G_table_of.mono (by decide)) hr (by rfl) m_table_of kp_table_of b_table_of (da_cons (de_var 1) da_nil))) (dg_tup rfl (dgs_cons (dg_tup rfl (dgs_cons (dg_name 5 nd) (dgs_cons (dg_name 6 nd) dgs_nil))) (dgs_cons (dg_name 3 nd) (dgs_cons (dg_name 4 nd) dgs_nil)))) (dss_one (ds_app 2 (dx_p (de_tup (da_cons (de_var 5) (da_cons (de_var 6) (da_cons (de_op op_sub ok_sub (de_var 3) (de_var 4)) da_nil))))))))
  (dss_one (ds_ret (de_var 2))))))
abbrev s_compare : Stmt := topS 47
theorem sc_compare : FnScope ["one", "other", "found", "first", "last", "more"] ["one", "other"] (defScope s_compare) := ⟨rfl, rfl, rfl, by decide +kernel, rfl, by decide +kernel, by decide +kernel⟩
set_option maxHeartbeats 4000000 in
theorem ok_compare {P : Program} {w : World} {K : PySem.W.Frag} {mg : Str → Option Value} {base : Heap} (tp : Tops mg) (h_differences : Has P w K mg base 4 "differences" ["one", "other"] (spP K 2 F_differences)) {f : Addr} {fd : FuncData} (F : Fun K "compare" "compare" s_compare f fd) : FnOk P w K mg base CX0 5 f fd ["one", "other"] (spP K 2 F_compare) := by
  have nd := sc_compare.nd
  obtain ⟨f_differences, fd_differences, G_differences, m_differences, kp_differences, b_differences⟩ := h_differences
  exact fn_P F sc_compare fun cdv A outer s H E hr =>
  (dss_cons (ds_setLc (own := [("first", 3), ("last", 4), ("more", 5)]) 2 rfl nd (sw_true rfl rfl rfl rfl) (di_seq (de_call (G_differences.mono (by decide)) hr (by rfl) m_differences kp_differences b_differences (da_cons (de_var 0) (da_cons (de_var 1) da_nil)))) (blkOk_by (by rfl)) (fun _ _ _ _ _ => (dg_tup rfl (dgs_cons (dg_name 3 nd) (dgs_cons (dg_name 4 nd) (dgs_cons (dg_name 5 nd) dgs_nil))))) (fun _ _ _ _ _ => dts_nil) (fun _ _ _ _ _ => (de_var 5)))
  (dss_cons (ds_if (dxb_p (dt_val (de_call1 (cr_all rfl) ok_all (by rfl) tp.all (by decide +kernel) (de_lc (own := [("more", 5)]) rfl nd (di_seq (de_var 2)) (blkOk_by (by rfl)) (fun _ _ _ _ _ => (dg_name 5 nd)) (fun _ _ _ _ _ => dts_nil) (fun _ _ _ _ _ => (de_cmp (op_eqX hr.units) ok_eq (de_var 5) de_int (by rfl))))))) (dss_one (ds_ret de_str)) dss_nil)
  (dss_cons (ds_if (dxb_p (dt_val (de_call1 (cr_all rfl) ok_all (by rfl) tp.all (by decide +kernel) (de_lc (own := [("more", 5)]) rfl nd (di_seq (de_var 2)) (blkOk_by (by rfl)) (fun _ _ _ _ _ => (dg_name 5 nd)) (fun _ _ _ _ _ => dts_nil) (fun _ _ _ _ _ => (de_cmp op_le ok_oB (de_var 5) de_int (by rfl))))))) (dss_one (ds_ret de_str)) dss_nil)
  (dss_one (ds_ret (de_if (dt_val (de_call1 (cr_all rfl) ok_all (by rfl) tp.all (by decide +kernel) (de_lc (own := [("more", 5)]) rfl nd (di_seq (de_var 2)) (blkOk_by (by rfl)) (fun _ _ _ _ _ => (dg_name 5 nd)) (fun _ _ _ _ _ => dts_nil) (fun _ _ _ _ _ => (de_cmp op_ge ok_oB (de_var 5) de_int (by rfl)))))) de_str de_str))))))
abbrev s_over : Stmt := topS 48
theorem sc_over : FnScope ["one", "other", "first", "last", "more"] ["one", "other"] (defScope s_over) := ⟨rfl, rfl, rfl, by decide +kernel, rfl, by decide +kernel, by decide +kernel⟩
set_option maxHeartbeats 4000000 in
theorem ok_over {P : Program} {w : World} {K : PySem.W.Frag} {mg : Str → Option Value} {base : Heap} (tp : Tops mg) (h_differences : Has P w K mg base 4 "differences" ["one", "other"] (spP K 2 F_differences)) {f : Addr} {fd : FuncData} (F : Fun K "over" "over" s_over f fd) : FnOk P w K mg base CX0 5 f fd ["one", "other"] (spP K 2 F_over) := by
  have nd := sc_over.nd
  obtain ⟨f_differences, fd_differences, G_differences, m_differences, kp_differences, b_differences⟩ := h_differences
  exact fn_P F sc_over fun cdv A outer s H E hr =>
  (dss_one (ds_ret (de_lc (own := [("first", 2), ("last", 3), ("more", 4)]) rfl nd (di_seq (de_call (G_differences.mono (by decide)) hr (by rfl) m_differences kp_differences b_differences (da_cons (de_var 0) (da_cons (de_var 1) da_nil)))) (blkOk_by (by rfl)) (fun _ _ _ _ _ => (dg_tup rfl (dgs_cons (dg_name 2 nd) (dgs_cons (dg_name 3 nd) (dgs_cons (dg_name 4 nd) dgs_nil))))) (fun _ _ _ _ _ => (dts_one (dt_cmp op_gt ok_oB (de_var 4) de_int (by rfl)))) (fun _ _ _ _ _ => (de_tup (da_cons (de_var 2) (da_cons (de_var 3) (da_cons (de_var 4) da_nil))))))))
abbrev s_law_pair_right : Stmt := topS 63
theorem sc_law_pair_right : FnScope ["_law_mine_so", "_law_its_so", "_law_rows_so", "_law_bills_so", "_law_got", "_law_told", "_law_size_so", "_law_most_so", "_law_own", "_law_one_so", "_law_two_so"] ["_law_mine_so", "_law_its_so"] (defScope s_law_pair_right) := ⟨rfl, rfl, rfl, by decide +kernel, rfl, by decide +kernel, by decide +kernel⟩
set_option maxHeartbeats 4000000 in
theorem ok_law_pair_right {P : Program} {w : World} {K : PySem.W.Frag} {mg : Str → Option Value} {base : Heap} (tp : Tops mg) (h_all_work : Has P w K mg base 1 "all_work" ["lot"] (spP K 1 F_all_work)) (h_telling_rows : Has P w K mg base 5 "telling_rows" ["hours", "most"] (spP K 2 F_telling_rows)) (h_bills_of : Has P w K mg base 3 "bills_of" ["lot", "rows"] (spP K 2 F_bills_of)) (h_lot_by_bills : Has P w K mg base 4 "lot_by_bills" ["hours", "most", "bills"] (spP K 3 F_lot_by_bills)) (h_law_same : Has P w K mg base 9 "_law_same" ["_law_got", "_law_due_so"] (spP K 2 (F_law_same 8))) (h_table_of : Has P w K mg base 3 "table_of" ["lot"] (spP K 1 F_table_of)) (h_lot_of : Has P w K mg base 3 "lot_of" ["hours", "table"] (spP K 2 F_lot_of)) (h_unseen : Has P w K mg base 5 "unseen" ["hours", "rows"] (spP K 2 F_unseen)) (h_blind_pair : Has P w K mg base 6 "blind_pair" ["hours", "rows"] (spP K 2 F_blind_pair)) (h_is_blind_pair : Has P w K mg base 5 "is_blind_pair" ["hours", "rows", "thing"] (spP K 3 F_is_blind_pair)) (h_fewest_rows : Has P w K mg base 1 "fewest_rows" ["hours"] (spP K 1 F_fewest_rows)) (h_compare : Has P w K mg base 5 "compare" ["one", "other"] (spP K 2 F_compare)) (h_over : Has P w K mg base 5 "over" ["one", "other"] (spP K 2 F_over)) {f : Addr} {fd : FuncData} (F : Fun K "_law_pair_right" "_law_pair_right" s_law_pair_right f fd) : FnOk P w K mg base CX0 10 f fd ["_law_mine_so", "_law_its_so"] (spP K 2 F_law_pair_right) := by
  have nd := sc_law_pair_right.nd
  obtain ⟨f_all_work, fd_all_work, G_all_work, m_all_work, kp_all_work, b_all_work⟩ := h_all_work
  obtain ⟨f_telling_rows, fd_telling_rows, G_telling_rows, m_telling_rows, kp_telling_rows, b_telling_rows⟩ := h_telling_rows
  obtain ⟨f_bills_of, fd_bills_of, G_bills_of, m_bills_of, kp_bills_of, b_bills_of⟩ := h_bills_of
  obtain ⟨f_lot_by_bills, fd_lot_by_bills, G_lot_by_bills, m_lot_by_bills, kp_lot_by_bills, b_lot_by_bills⟩ := h_lot_by_bills
  obtain ⟨f_law_same, fd_law_same, G_law_same, m_law_same, kp_law_same, b_law_same⟩ := h_law_same
  obtain ⟨f_table_of, fd_table_of, G_table_of, m_table_of, kp_table_of, b_table_of⟩ := h_table_of
  obtain ⟨f_lot_of, fd_lot_of, G_lot_of, m_lot_of, kp_lot_of, b_lot_of⟩ := h_lot_of
  obtain ⟨f_unseen, fd_unseen, G_unseen, m_unseen, kp_unseen, b_unseen⟩ := h_unseen
  obtain ⟨f_blind_pair, fd_blind_pair, G_blind_pair, m_blind_pair, kp_blind_pair, b_blind_pair⟩ := h_blind_pair
  obtain ⟨f_is_blind_pair, fd_is_blind_pair, G_is_blind_pair, m_is_blind_pair, kp_is_blind_pair, b_is_blind_pair⟩ := h_is_blind_pair
  obtain ⟨f_fewest_rows, fd_fewest_rows, G_fewest_rows, m_fewest_rows, kp_fewest_rows, b_fewest_rows⟩ := h_fewest_rows
  obtain ⟨f_compare, fd_compare, G_compare, m_compare, kp_compare, b_compare⟩ := h_compare
  obtain ⟨f_over, fd_over, G_over, m_over, kp_over, b_over⟩ := h_over
  exact fn_P F sc_law_pair_right fun cdv A outer s H E hr =>
  (dss_cons (ds_parU 6 7 rfl nd (dx_p (de_ix (de_var 0) de_int)) (dx_p (de_call3 (call_max3 rfl) ok_max3 (by rfl) tp.max (by decide +kernel) de_int (de_call (G_all_work.mono (by decide)) hr (by rfl) m_all_work kp_all_work b_all_work (da_cons (de_var 0) da_nil)) (de_call (G_all_work.mono (by decide)) hr (by rfl) m_all_work kp_all_work b_all_work (da_cons (de_var 1) da_nil)))))
  (dss_cons (ds_set 2 nd (dx_p (de_call (G_telling_rows.mono (by decide)) hr (by rfl) m_telling_rows kp_telling_rows b_telling_rows (da_cons (de_var 6) (da_cons (de_var 7) da_nil)))))
  (dss_cons (ds_setLc (own := [("_law_own", 8)]) 3 rfl nd (sw_true rfl rfl rfl rfl) (di_seq (de_tup (da_cons (de_var 0) (da_cons (de_var 1) da_nil)))) (blkOk_by (by rfl)) (fun _ _ _ _ _ => (dg_name 8 nd)) (fun _ _ _ _ _ => dts_nil) (fun _ _ _ _ _ => (de_call (G_bills_of.mono (by decide)) hr (by rfl) m_bills_of kp_bills_of b_bills_of (da_cons (de_var 8) (da_cons (de_var 2) da_nil)))))
  (dss_cons (ds_setLc (own := [("_law_own", 8)]) 4 rfl nd (sw_true rfl rfl rfl rfl) (di_seq (de_var 3)) (blkOk_by (by rfl)) (fun _ _ _ _ _ => (dg_name 8 nd)) (fun _ _ _ _ _ => dts_nil) (fun _ _ _ _ _ => (de_call (G_lot_by_bills.mono (by decide)) hr (by rfl) m_lot_by_bills kp_lot_by_bills b_lot_by_bills (da_cons (de_var 6) (da_cons (de_var 7) (da_cons (de_var 8) da_nil))))))
  (dss_cons (ds_if (dxb_p (dt_w (dw_or (dt_not (dt_val (de_call (G_law_same.mono (by decide)) hr (by rfl) m_law_same kp_law_same b_law_same (da_cons (de_var 4) (da_cons (de_lst (da_cons (de_var 0) (da_cons (de_var 1) da_nil))) da_nil))))) (dw_or1 (dt_cmp (op_neX hr.units) ok_ne (de_cmp (op_eqX hr.units) ok_eq (de_ix (de_var 3) de_int) (de_ix (de_var 3) de_int) (by rfl)) (de_cmp (op_eqX hr.units) ok_eq (de_var 0) (de_var 1) (by rfl)) (by rfl)))))) (dss_one (ds_ret de_bl)) dss_nil)
  (dss_cons (ds_if (dxb_p (dt_not (dt_val (de_call (G_law_same.mono (by decide)) hr (by rfl) m_law_same kp_law_same b_law_same (da_cons (de_lst (da_cons (de_call (G_table_of.mono (by decide)) hr (by rfl) m_table_of kp_table_of b_table_of (da_cons (de_ix (de_var 4) de_int) da_nil)) (da_cons (de_call (G_lot_of.mono (by decide)) hr (by rfl) m_lot_of kp_lot_of b_lot_of (da_cons (de_var 6) (da_cons (de_call (G_table_of.mono (by decide)) hr (by rfl) m_table_of kp_table_of b_table_of (da_cons (de_ix (de_var 4) de_int) da_nil)) da_nil))) da_nil))) (da_cons (de_lst (da_cons (de_call (G_table_of.mono (by decide)) hr (by rfl) m_table_of kp_table_of b_table_of (da_cons (de_var 0) da_nil)) (da_cons (de_var 1) da_nil))) da_nil)))))) (dss_one (ds_ret de_bl)) dss_nil)
  (dss_cons (ds_set 4 nd (dx_p (de_lst (da_cons (de_call1 call_len_seq ok_len (by rfl) tp.len (by decide +kernel) (de_var 2)) (da_cons (de_call (G_unseen.mono (by decide)) hr (by rfl) m_unseen kp_unseen b_unseen (da_cons (de_var 6) (da_cons (de_var 2) da_nil))) (da_cons (de_call (G_blind_pair.mono (by decide)) hr (by rfl) m_blind_pair kp_blind_pair b_blind_pair (da_cons (de_var 6) (da_cons (de_var 2) da_nil))) (da_cons (de_call (G_is_blind_pair.mono (by decide)) hr (by rfl) m_is_blind_pair kp_is_blind_pair b_is_blind_pair (da_cons (de_var 6) (da_cons (de_var 2) (da_cons (de_tup (da_cons (de_var 0) (da_cons (de_var 1) da_nil))) da_nil)))) da_nil)))))))
  (dss_cons (ds_if (dxb_p (dt_not (dt_val (de_call (G_law_same.mono (by decide)) hr (by rfl) m_law_same kp_law_same b_law_same (da_cons (de_var 4) (da_cons (de_lst (da_cons (de_call (G_fewest_rows.mono (by decide)) hr (by rfl) m_fewest_rows kp_fewest_rows b_fewest_rows (da_cons (de_var 6) da_nil)) (da_cons (de_tup da_nil) (da_cons de_non (da_cons de_bl da_nil))))) da_nil)))))) (dss_one (ds_ret de_bl)) dss_nil)
  (dss_cons (ds_if (dxb_p (dt_w (dw_and (dt_cmp (op_eqX hr.units) ok_eq (de_call (G_compare.mono (by decide)) hr (by rfl) m_compare kp_compare b_compare (da_cons (de_var 0) (da_cons (de_var 1) da_nil))) de_str (by rfl)) (dw_and1 (dt_not (dt_val (de_call1 (cr_all rfl) ok_all (by rfl) tp.all (by decide +kernel) (de_lc (own := [("_law_one_so", 9), ("_law_two_so", 10)]) rfl nd (di_zip2 (by rfl) tp.zip (de_ix (de_var 3) de_int) (de_ix (de_var 3) de_int)) (blkOk_by (by rfl)) (fun _ _ _ _ _ => (dg_tup rfl (dgs_cons (dg_name 9 nd) (dgs_cons (dg_name 10 nd) dgs_nil)))) (fun _ _ _ _ _ => dts_nil) (fun _ _ _ _ _ => (de_cmp op_le ok_oB (de_var 9) (de_var 10) (by rfl))))))))))) (dss_one (ds_ret de_bl)) dss_nil)
  (dss_cons (ds_set 5 nd (dx_p (de_call (G_blind_pair.mono (by decide)) hr (by rfl) m_blind_pair kp_blind_pair b_blind_pair (da_cons (de_var 6) (da_cons (de_cut (de_var 2) (do_yes de_int) do_no) da_nil)))))
  (dss_cons (ds_if (dxb_p (dt_w (dw_or (dt_cmp op_isN ok_isN (de_var 5) de_non (by rfl)) (dw_or1 (dt_not (dt_val (de_call (G_is_blind_pair.mono (by decide)) hr (by rfl) m_is_blind_pair kp_is_blind_pair b_is_blind_pair (da_cons (de_var 6) (da_cons (de_cut (de_var 2) (do_yes de_int) do_no) (da_cons (de_var 5) da_nil)))))))))) (dss_one (ds_ret de_bl)) dss_nil)
  (dss_one (ds_ret (de_cmp (op_eqX hr.units) ok_eq (de_op op_addX ok_add (de_call1 call_len_seq ok_len (by rfl) tp.len (by decide +kernel) (de_call (G_over.mono (by decide)) hr (by rfl) m_over kp_over b_over (da_cons (de_ix (de_var 5) de_int) (da_cons (de_ix (de_var 5) de_int) da_nil)))) (de_call1 call_len_seq ok_len (by rfl) tp.len (by decide +kernel) (de_call (G_over.mono (by decide)) hr (by rfl) m_over kp_over b_over (da_cons (de_ix (de_var 5) de_int) (da_cons (de_ix (de_var 5) de_int) da_nil))))) de_int (by rfl)))))))))))))))
end S67

/-! the walk of each def, printed by gen.py -/
namespace S67
open PySem PySem.Spec PyProof.Rows L2
abbrev s_behind : Stmt := topS 15
theorem sc_behind : FnScope ["lot", "last", "work", "early", "late"] ["lot"] (defScope s_behind) := ⟨rfl, rfl, rfl, by decide +kernel, rfl, by decide +kernel, by decide +kernel⟩
set_option maxHeartbeats 4000000 in
theorem ok_behind {P : Program} {w : World} {K : PySem.W.Frag} {mg : Str → Option Value} {base : Heap} (tp : Tops mg) (h_made_lot : Has P w K mg base 2 "made_lot" ["hours", "errands"] (spP K 2 F_made_lot)) {f : Addr} {fd : FuncData} (F : Fun K "behind" "behind" s_behind f fd) : FnOk P w K mg base CX0 3 f fd ["lot"] (spP K 1 F_behind) := by
  have nd := sc_behind.nd
  obtain ⟨f_made_lot, fd_made_lot, G_made_lot, m_made_lot, kp_made_lot, b_made_lot⟩ := h_made_lot
  exact fn_P F sc_behind fun cdv A outer s H E hr =>
  (dss_cons (ds_set 1 nd (dx_p (de_op op_sub ok_sub (de_ix (de_var 0) de_int) de_int)))
  (dss_one (ds_ret (de_call (G_made_lot.mono (by decide)) hr (by rfl) m_made_lot kp_made_lot b_made_lot (da_cons (de_ix (de_var 0) de_int) (da_cons (de_lc (own := [("work", 2), ("early", 3), ("late", 4)]) rfl nd (di_seq (de_ix (de_var 0) de_int)) (blkOk_by (by rfl)) (fun _ _ _ _ _ => (dg_tup rfl (dgs_cons (dg_tup rfl (dgs_cons (dg_name 3 nd) (dgs_cons (dg_name 4 nd) dgs_nil))) (dgs_cons (dg_name 2 nd) dgs_nil)))) (fun _ _ _ _ _ => dts_nil) (fun _ _ _ _ _ => (de_tup (da_cons (de_tup (da_cons (de_op op_sub ok_sub (de_var 1) (de_var 4)) (da_cons (de_op op_sub ok_sub (de_var 1) (de_var 3)) da_nil))) (da_cons (de_var 2) da_nil))))) da_nil))))))
abbrev s_law_fees_right : Stmt := topS 62
theorem sc_law_fees_right : FnScope ["_law_lot_so", "_law_fees_so", "_law_paid_so", "_law_got", "_law_due_so", "_law_mirror_so", "_law_dark_so", "_law_pairs_so", "_law_last_so", "_law_own", "_law_much_so"] ["_law_lot_so", "_law_fees_so"] (defScope s_law_fees_right) := ⟨rfl, rfl, rfl, by decide +kernel, rfl, by decide +kernel, by decide +kernel⟩
set_option maxHeartbeats 4000000 in
theorem ok_law_fees_right {P : Program} {w : World} {K : PySem.W.Frag} {mg : Str → Option Value} {base : Heap} (tp : Tops mg) (h_weights_of : Has P w K mg base 3 "weights_of" ["prices"] (spP K 1 F_weights_of)) (h_asked : Has P w K mg base 2 "asked" ["lot", "first", "last"] (spP K 3 F_asked)) (h_prices_of : Has P w K mg base 4 "prices_of" ["hours", "weights"] (spP K 2 F_prices_of)) (h_seen : Has P w K mg base 4 "seen" ["prices"] (spP K 1 F_seen)) (h_bills_of : Has P w K mg base 3 "bills_of" ["lot", "rows"] (spP K 2 F_bills_of)) (h_cheapest : Has P w K mg base 2 "cheapest" ["lot", "prices"] (spP K 2 F_cheapest)) (h_behind : Has P w K mg base 3 "behind" ["lot"] (spP K 1 F_behind)) (h_all_stretches : Has P w K mg base 1 "all_stretches" ["hours"] (spP K 1 F_all_stretches)) (h_unseen : Has P w K mg base 5 "unseen" ["hours", "rows"] (spP K 2 F_unseen)) (h_law_same : Has P w K mg base 9 "_law_same" ["_law_got", "_law_due_so"] (spP K 2 (F_law_same 8))) {f : Addr} {fd : FuncData} (F : Fun K "_law_fees_right" "_law_fees_right" s_law_fees_right f fd) : FnOk P w K mg base CX0 10 f fd ["_law_lot_so", "_law_fees_so"] (spP K 2 F_law_fees_right) := by
  have nd := sc_law_fees_right.nd
  obtain ⟨f_weights_of, fd_weights_of, G_weights_of, m_weights_of, kp_weights_of, b_weights_of⟩ := h_weights_of
  obtain ⟨f_asked, fd_asked, G_asked, m_asked, kp_asked, b_asked⟩ := h_asked
  obtain ⟨f_prices_of, fd_prices_of, G_prices_of, m_prices_of, kp_prices_of, b_prices_of⟩ := h_prices_of
  obtain ⟨f_seen, fd_seen, G_seen, m_seen, kp_seen, b_seen⟩ := h_seen
  obtain ⟨f_bills_of, fd_bills_of, G_bills_of, m_bills_of, kp_bills_of, b_bills_of⟩ := h_bills_of
  obtain ⟨f_cheapest, fd_cheapest, G_cheapest, m_cheapest, kp_cheapest, b_cheapest⟩ := h_cheapest
  obtain ⟨f_behind, fd_behind, G_behind, m_behind, kp_behind, b_behind⟩ := h_behind
  obtain ⟨f_all_stretches, fd_all_stretches, G_all_stretches, m_all_stretches, kp_all_stretches, b_all_stretches⟩ := h_all_stretches
  obtain ⟨f_unseen, fd_unseen, G_unseen, m_unseen, kp_unseen, b_unseen⟩ := h_unseen
  obtain ⟨f_law_same, fd_law_same, G_law_same, m_law_same, kp_law_same, b_law_same⟩ := h_law_same
  exact fn_P F sc_law_fees_right fun cdv A outer s H E hr =>
  (dss_cons (ds_parU 7 8 rfl nd (dx_p (de_call (G_weights_of.mono (by decide)) hr (by rfl) m_weights_of kp_weights_of b_weights_of (da_cons (de_var 1) da_nil))) (dx_p (de_op op_sub ok_sub (de_ix (de_var 0) de_int) de_int)))
  (dss_cons (ds_set 2 nd (dx_p (de_call1 (cr_sum rfl) ok_sum (by rfl) tp.sum (by decide +kernel) (de_lc (own := [("_law_own", 9), ("_law_much_so", 10)]) rfl nd (di_seq (de_var 7)) (blkOk_by (by rfl)) (fun _ _ _ _ _ => (dg_tup rfl (dgs_cons (dg_name 9 nd) (dgs_cons (dg_name 10 nd) dgs_nil)))) (fun _ _ _ _ _ => dts_nil) (fun _ _ _ _ _ => (de_op op_mulX ok_mul (de_var 10) (de_call (G_asked.mono (by decide)) hr (by rfl) m_asked kp_asked b_asked (da_cons (de_var 0) (da_cons (de_ix (de_var 9) de_int) (da_cons (de_ix (de_var 9) de_int) da_nil))))))))))
  (dss_cons (ds_set 3 nd (dx_p (de_lst (da_cons (de_var 2) (da_cons (de_call (G_prices_of.mono (by decide)) hr (by rfl) m_prices_of kp_prices_of b_prices_of (da_cons (de_ix (de_var 0) de_int) (da_cons (de_var 7) da_nil))) (da_cons (de_call (G_seen.mono (by decide)) hr (by rfl) m_seen kp_seen b_seen (da_cons (de_var 1) da_nil)) (da_cons (de_call (G_bills_of.mono (by decide)) hr (by rfl) m_bills_of kp_bills_of b_bills_of (da_cons (de_var 0) (da_cons (de_tup (da_cons (de_var 1) da_nil)) da_nil))) da_nil)))))))
  (dss_cons (ds_set 4 nd (dx_p (de_lst (da_cons (de_call (G_cheapest.mono (by decide)) hr (by rfl) m_cheapest kp_cheapest b_cheapest (da_cons (de_var 0) (da_cons (de_var 1) da_nil))) (da_cons (de_callT1 call_tuple_of ok_tuple (by rfl) tp.tuple (by decide +kernel) (de_var 1)) (da_cons (de_callT1 call_tuple_of ok_tuple (by rfl) tp.tuple (by decide +kernel) (de_lc (own := [("_law_own", 9), ("_law_much_so", 10)]) rfl nd (di_seq (de_var 7)) (blkOk_by (by rfl)) (fun _ _ _ _ _ => (dg_tup rfl (dgs_cons (dg_name 9 nd) (dgs_cons (dg_name 10 nd) dgs_nil)))) (fun _ _ _ _ _ => dts_nil) (fun _ _ _ _ _ => (de_var 9)))) (da_cons (de_tup (da_cons (de_var 2) da_nil)) da_nil)))))))
  (dss_cons (ds_setLc (own := [("_law_own", 9), ("_law_much_so", 10)]) 5 rfl nd (sw_true rfl rfl rfl rfl) (di_seq (de_var 7)) (blkOk_by (by rfl)) (fun _ _ _ _ _ => (dg_tup rfl (dgs_cons (dg_name 9 nd) (dgs_cons (dg_name 10 nd) dgs_nil)))) (fun _ _ _ _ _ => dts_nil) (fun _ _ _ _ _ => (de_tup (da_cons (de_tup (da_cons (de_op op_sub ok_sub (de_var 8) (de_ix (de_var 9) de_int)) (da_cons (de_op op_sub ok_sub (de_var 8) (de_ix (de_var 9) de_int)) da_nil))) (da_cons (de_var 10) da_nil)))))
  (dss_cons (ds_set 3 nd (dx_p (de_op op_addX ok_add (de_var 3) (de_lst (da_cons (de_call (G_weights_of.mono (by decide)) hr (by rfl) m_weights_of kp_weights_of b_weights_of (da_cons (de_rev (de_var 1)) da_nil)) (da_cons (de_call (G_bills_of.mono (by decide)) hr (by rfl) m_bills_of kp_bills_of b_bills_of (da_cons (de_call (G_behind.mono (by decide)) hr (by rfl) m_behind kp_behind b_behind (da_cons (de_var 0) da_nil)) (da_cons (de_tup (da_cons (de_rev (de_var 1)) (da_cons (de_var 1) da_nil))) da_nil))) da_nil))))))
  (dss_cons (ds_set 4 nd (dx_p (de_op op_addX ok_add (de_var 4) (de_lst (da_cons (de_callT1 call_tuple_of ok_tuple (by rfl) tp.tuple (by decide +kernel) (de_call1 (call_sortedL hr.units) ok_sortL (by rfl) tp.sorted (by decide +kernel) (de_var 5))) (da_cons (de_tup (da_cons (de_var 2) (da_cons (de_call (G_cheapest.mono (by decide)) hr (by rfl) m_cheapest kp_cheapest b_cheapest (da_cons (de_var 0) (da_cons (de_rev (de_var 1)) da_nil))) da_nil))) da_nil))))))
  (dss_cons (ds_setLc (own := [("_law_own", 9)]) 6 rfl nd (sw_true rfl rfl rfl rfl) (di_seq (de_call (G_all_stretches.mono (by decide)) hr (by rfl) m_all_stretches kp_all_stretches b_all_stretches (da_cons (de_ix (de_var 0) de_int) da_nil))) (blkOk_by (by rfl)) (fun _ _ _ _ _ => (dg_name 9 nd)) (fun _ _ _ _ _ => (dts_one (dt_cmp (op_notInX hr.units) ok_notIn (de_var 9) (de_call (G_seen.mono (by decide)) hr (by rfl) m_seen kp_seen b_seen (da_cons (de_var 1) da_nil)) (by rfl)))) (fun _ _ _ _ _ => (de_var 9)))
  (dss_one (ds_ret (de_call (G_law_same.mono (by decide)) hr (by rfl) m_law_same kp_law_same b_law_same (da_cons (de_op op_addX ok_add (de_var 3) (de_lst (da_cons (de_call (G_unseen.mono (by decide)) hr (by rfl) m_unseen kp_unseen b_unseen (da_cons (de_ix (de_var 0) de_int) (da_cons (de_tup (da_cons (de_var 1) da_nil)) da_nil))) da_nil))) (da_cons (de_op op_addX ok_add (de_var 4) (de_lst (da_cons (de_callT1 call_tuple_of ok_tuple (by rfl) tp.tuple (by decide +kernel) (de_var 6)) da_nil))) da_nil)))))))))))))
abbrev s_law_spans : Stmt := topS 55
theorem sc_law_spans : FnScope ["_law_size_so", "_law_found", "_law_near_so", "_law_far_so"] ["_law_size_so"] (defScope s_law_spans) := ⟨rfl, rfl, rfl, by decide +kernel, rfl, by decide +kernel, by decide +kernel⟩
set_option maxHeartbeats 4000000 in
theorem ok_law_spans {P : Program} {w : World} {K : PySem.W.Frag} {mg : Str → Option Value} {base : Heap} (tp : Tops mg)  {f : Addr} {fd : FuncData} (F : Fun K "_law_spans" "_law_spans" s_law_spans f fd) : FnOk P w K mg base CX0 1 f fd ["_law_size_so"] (spP K 1 F_law_spans) := by
  have nd := sc_law_spans.nd
  exact fn_P F sc_law_spans fun cdv A outer s H E hr =>
  (dss_cons (ds_set 1 nd (dx_p (de_lst da_nil)))
  (dss_cons (ds_for (vs := [2]) [] PassesOwn.never rfl (di_range1 (by rfl) tp.range (de_var 0)) (dg_name 2 nd) (dss_one (ds_set 1 nd (dx_p (de_op op_addX ok_add (de_var 1) (de_lc (own := [("_law_far_so", 3)]) rfl nd (di_range2 (by rfl) tp.range (de_var 2) (de_var 0)) (blkOk_by (by rfl)) (fun _ _ _ _ _ => (dg_name 3 nd)) (fun _ _ _ _ _ => dts_nil) (fun _ _ _ _ _ => (de_tup (da_cons (de_var 2) (da_cons (de_var 3) da_nil))))))))))
  (dss_one (ds_ret (de_var 1)))))
abbrev s_law_by_hand_right : Stmt := topS 64
theorem sc_law_by_hand_right : FnScope ["_law_one_so", "_law_lots_so", "_law_near_so", "_law_nest_so", "_law_wide_so", "_law_two_so", "_law_own", "_law_span_so", "_law_hour_so"] [] (defScope s_law_by_hand_right) := ⟨rfl, rfl, rfl, by decide +kernel, rfl, by decide +kernel, by decide +kernel⟩
set_option maxHeartbeats 4000000 in
theorem ok_law_by_hand_right {P : Program} {w : World} {K : PySem.W.Frag} {mg : Str → Option Value} {base : Heap} (tp : Tops mg) (h_law_pair_right : Has P w K mg base 10 "_law_pair_right" ["_law_mine_so", "_law_its_so"] (spP K 2 F_law_pair_right)) (h_law_fees_right : Has P w K mg base 10 "_law_fees_right" ["_law_lot_so", "_law_fees_so"] (spP K 2 F_law_fees_right)) (h_law_spans : Has P w K mg base 1 "_law_spans" ["_law_size_so"] (spP K 1 F_law_spans)) {f : Addr} {fd : FuncData} (F : Fun K "_law_by_hand_right" "_law_by_hand_right" s_law_by_hand_right f fd) : FnOk P w K mg base CX0 11 f fd [] (spP K 0 F_law_by_hand_right) := by
  have nd := sc_law_by_hand_right.nd
  obtain ⟨f_law_pair_right, fd_law_pair_right, G_law_pair_right, m_law_pair_right, kp_law_pair_right, b_law_pair_right⟩ := h_law_pair_right
  obtain ⟨f_law_fees_right, fd_law_fees_right, G_law_fees_right, m_law_fees_right, kp_law_fees_right, b_law_fees_right⟩ := h_law_fees_right
  obtain ⟨f_law_spans, fd_law_spans, G_law_spans, m_law_spans, kp_law_spans, b_law_spans⟩ := h_law_spans
  exact fn_P F sc_law_by_hand_right fun cdv A outer s H E hr =>
  (dss_cons (ds_par3U 2 3 4 rfl nd (de_tup (da_cons de_int (da_cons (de_tup (da_cons (de_tup (da_cons (de_tup (da_cons de_int (da_cons de_int da_nil))) (da_cons de_int da_nil))) (da_cons (de_tup (da_cons (de_tup (da_cons de_int (da_cons de_int da_nil))) (da_cons de_int da_nil))) da_nil))) da_nil))) (de_tup (da_cons de_int (da_cons (de_tup (da_cons (de_tup (da_cons (de_tup (da_cons de_int (da_cons de_int da_nil))) (da_cons de_int da_nil))) (da_cons (de_tup (da_cons (de_tup (da_cons de_int (da_cons de_int da_nil))) (da_cons de_int da_nil))) da_nil))) da_nil))) (de_tup (da_cons de_int (da_cons (de_tup (da_cons (de_tup (da_cons (de_tup (da_cons de_int (da_cons de_int da_nil))) (da_cons de_int da_nil))) da_nil)) da_nil))))
  (dss_cons (ds_for (vs := [0]) [] PassesOwn.never rfl (di_seq (de_tup (da_cons (de_var 2) (da_cons (de_var 3) (da_cons (de_var 4) (da_cons (de_tup (da_cons de_int (da_cons (de_tup da_nil) da_nil))) da_nil)))))) (dg_name 0 nd) (dss_one (ds_for (vs := [5]) [] PassesOwn.never rfl (di_seq (de_tup (da_cons (de_var 2) (da_cons (de_var 3) (da_cons (de_tup (da_cons de_int (da_cons (de_tup (da_cons (de_tup (da_cons (de_tup (da_cons de_int (da_cons de_int da_nil))) (da_cons de_int da_nil))) da_nil)) da_nil))) da_nil))))) (dg_name 5 nd) (dss_one (ds_if (dxb_p (dt_w (dw_or (dt_not (dt_val (de_call (G_law_pair_right.mono (by decide)) hr (by rfl) m_law_pair_right kp_law_pair_right b_law_pair_right (da_cons (de_var 0) (da_cons (de_var 5) da_nil))))) (dw_or (dt_not (dt_val (de_call (G_law_fees_right.mono (by decide)) hr (by rfl) m_law_fees_right kp_law_fees_right b_law_fees_right (da_cons (de_var 0) (da_cons (de_tup (da_cons de_int (da_cons de_int (da_cons de_int da_nil)))) da_nil))))) (dw_or1 (dt_not (dt_val (de_call (G_law_fees_right.mono (by decide)) hr (by rfl) m_law_fees_right kp_law_fees_right b_law_fees_right (da_cons (de_var 5) (da_cons (de_tup (da_cons de_int (da_cons de_int (da_cons de_int da_nil)))) da_nil)))))))))) (dss_one (ds_ret de_bl)) dss_nil)))))
  (dss_cons (ds_setLc (own := [("_law_own", 6)]) 1 rfl nd (sw_true rfl rfl rfl rfl) (di_range2 (by rfl) tp.range de_int de_int) (blkOk_by (by rfl)) (fun _ _ _ _ _ => (dg_name 6 nd)) (fun _ _ _ _ _ => dts_nil) (fun _ _ _ _ _ => (de_tup (da_cons (de_var 6) (da_cons (de_callT1 call_tuple_of ok_tuple (by rfl) tp.tuple (by decide +kernel) (de_lc (own := [("_law_span_so", 7)]) rfl nd (di_seq (de_call (G_law_spans.mono (by decide)) hr (by rfl) m_law_spans kp_law_spans b_law_spans (da_cons (de_var 6) da_nil))) (blkOk_by (by rfl)) (fun _ _ _ _ _ => (dg_name 7 nd)) (fun _ _ _ _ _ => dts_nil) (fun _ _ _ _ _ => (de_tup (da_cons (de_var 7) (da_cons de_int da_nil)))))) da_nil)))))
  (dss_cons (ds_if (dxb_p (dt_not (dt_val (de_call1 (cr_all rfl) ok_all (by rfl) tp.all (by decide +kernel) (de_lc (own := [("_law_own", 6)]) rfl nd (di_seq (de_var 1)) (blkOk_by (by rfl)) (fun _ _ _ _ _ => (dg_name 6 nd)) (fun _ _ _ _ _ => dts_nil) (fun _ _ _ _ _ => (de_call (G_law_pair_right.mono (by decide)) hr (by rfl) m_law_pair_right kp_law_pair_right b_law_pair_right (da_cons (de_var 6) (da_cons (de_tup (da_cons (de_ix (de_var 6) de_int) (da_cons (de_tup da_nil) da_nil))) da_nil))))))))) (dss_one (ds_ret de_bl)) dss_nil)
  (dss_one (ds_ret (de_call1 (cr_all rfl) ok_all (by rfl) tp.all (by decide +kernel) (de_lc (own := [("_law_own", 6)]) rfl nd (di_seq (de_var 1)) (blkOk_by (by rfl)) (fun _ _ _ _ _ => (dg_name 6 nd)) (fun _ _ _ _ _ => dts_nil) (fun _ _ _ _ _ => (de_call (G_law_fees_right.mono (by decide)) hr (by rfl) m_law_fees_right kp_law_fees_right b_law_fees_right (da_cons (de_var 6) (da_cons (de_callT1 call_tuple_of ok_tuple (by rfl) tp.tuple (by decide +kernel) (de_lc (own := [("_law_hour_so", 8)]) rfl nd (di_range1 (by rfl) tp.range (de_ix (de_var 6) de_int)) (blkOk_by (by rfl)) (fun _ _ _ _ _ => (dg_name 8 nd)) (fun _ _ _ _ _ => dts_nil) (fun _ _ _ _ _ => (de_op op_mod ok_oI (de_op op_addX ok_add (de_op op_mulX ok_mul de_int (de_var 8)) de_int) de_int)))) da_nil))))))))))))
abbrev s_law_cells : Stmt := topS 52
theorem sc_law_cells : FnScope ["_law_script", "_law_most_so", "_law_cells_here", "_law_k", "_law_cell", "_law_at_so"] ["_law_script", "_law_most_so"] (defScope s_law_cells) := ⟨rfl, rfl, rfl, by decide +kernel, rfl, by decide +kernel, by decide +kernel⟩
set_option maxHeartbeats 4000000 in
theorem ok_law_cells {P : Program} {w : World} {K : PySem.W.Frag} {mg : Str → Option Value} {base : Heap} (tp : Tops mg)  {f : Addr} {fd : FuncData} (F : Fun K "_law_cells" "_law_cells" s_law_cells f fd) : FnOk P w K mg base CX0 1 f fd ["_law_script", "_law_most_so"] (spP K 2 F_law_cells) := by
  have nd := sc_law_cells.nd
  exact fn_P F sc_law_cells fun cdv A outer s H E hr =>
  (dss_cons (ds_set 2 nd (dx_p (de_orL (de_callT1 call_list_of ok_list (by rfl) tp.list (by decide +kernel) (de_cut (de_var 0) do_no (do_yes (de_var 1)))) (de_one (de_lst (da_cons de_int da_nil))))))
  (dss_cons (ds_for (vs := [3, 4]) [] PassesOwn.never rfl (di_enum (by rfl) tp.enumerate (de_cut (de_var 0) (do_yes (de_var 1)) (do_yes de_int))) (dg_tup rfl (dgs_cons (dg_name 3 nd) (dgs_cons (dg_name 4 nd) dgs_nil))) (dss_cons (ds_set 5 nd (dx_p (de_op op_mod ok_oI (de_callT1 call_int1 ok_int (by rfl) tp.int (by decide +kernel) (de_var 3)) (de_var 1))))
  (dss_one (ds_putL 2 (dx_p (de_op op_addX ok_add (de_ix (de_var 2) (de_var 5)) (de_op op_mulX ok_mul (de_var 4) (de_op op_addX ok_add (de_var 3) de_int)))) (de_var 5)))))
  (dss_one (ds_ret (de_var 2)))))
abbrev s_law_box : Stmt := topS 50
theorem sc_law_box : FnScope ["_law_script", "_law_k", "_law_cell"] ["_law_script", "_law_k"] (defScope s_law_box) := ⟨rfl, rfl, rfl, by decide +kernel, rfl, by decide +kernel, by decide +kernel⟩
set_option maxHeartbeats 4000000 in
theorem ok_law_box {P : Program} {w : World} {K : PySem.W.Frag} {mg : Str → Option Value} {base : Heap} (tp : Tops mg)  {f : Addr} {fd : FuncData} (F : Fun K "_law_box" "_law_box" s_law_box f fd) : FnOk P w K mg base CX0 1 f fd ["_law_script", "_law_k"] (spP K 2 F_law_box) := by
  have nd := sc_law_box.nd
  exact fn_P F sc_law_box fun cdv A outer s H E hr =>
  (dss_cons (ds_set 2 nd (dx_p (de_if (dt_cmp op_lt ok_oB (de_var 1) (de_call1 call_len_seq ok_len (by rfl) tp.len (by decide +kernel) (de_var 0)) (by rfl)) (de_ix (de_var 0) (de_var 1)) de_int)))
  (dss_one (ds_ret (de_lst (da_cons (de_op op_mulX ok_mul (de_call1 call_abs ok_abs (by rfl) tp.abs (by decide +kernel) (de_var 2)) (de_callT1 call_int1 ok_int (by rfl) tp.int (by decide +kernel) (de_cmp op_ge ok_oB (de_call1 call_abs ok_abs (by rfl) tp.abs (by decide +kernel) (de_var 2)) (de_op op_pow ok_pow de_int de_int) (by rfl)))) (da_cons (de_op op_addX ok_add (de_op op_addX ok_add (de_op op_mod ok_oI (de_callT1 call_int1 ok_int (by rfl) tp.int (by decide +kernel) (de_var 2)) de_int) (de_op op_mulX ok_mul de_int (de_var 1))) de_int) (da_cons de_int da_nil)))))))
abbrev s_law_take : Stmt := topS 51
theorem sc_law_take : FnScope ["_law_box_here", "_law_below_so", "_law_once", "_law_far_so", "_law_twice_so", "_law_drawn_so"] ["_law_box_here", "_law_below_so"] (defScope s_law_take) := ⟨rfl, rfl, rfl, by decide +kernel, rfl, by decide +kernel, by decide +kernel⟩
set_option maxHeartbeats 4000000 in
theorem ok_law_take {P : Program} {w : World} {K : PySem.W.Frag} {mg : Str → Option Value} {base : Heap} (tp : Tops mg)  {f : Addr} {fd : FuncData} (F : Fun K "_law_take" "_law_take" s_law_take f fd) : FnOk P w K mg base CX0 1 f fd ["_law_box_here", "_law_below_so"] (spB K 1 F_law_take) := by
  have nd := sc_law_take.nd
  exact fn_B F sc_law_take rfl fun cdv A outer s H E hr =>
  (dss_cons (ds_if (dxb_p (dt_cmp op_gt ok_oB (de_ix (de_var 0) de_int) de_int (by rfl))) (dss_cons (ds_set 5 nd (dx_p (de_op op_mod ok_oI (de_callT1 call_int1 ok_int (by rfl) tp.int (by decide +kernel) (de_ix (de_var 0) de_int)) (de_var 1))))
  (dss_cons (ds_putL 0 (dx_p (de_op op_fdivW ok_fdiv (de_ix (de_var 0) de_int) (de_var 1))) de_int)
  (dss_one (ds_ret (de_var 5))))) dss_nil)
  (dss_cons (ds_putL 0 (dx_p (de_op op_addX ok_add (de_ix (de_var 0) de_int) de_int)) de_int)
  (dss_cons (ds_set 2 nd (dx_p (de_op op_mod ok_oI (de_callT1 call_int1 ok_int (by rfl) tp.int (by decide +kernel) (de_op op_mulX ok_mul (de_op op_addX ok_add (de_ix (de_var 0) de_int) (de_op op_mulX ok_mul de_int (de_ix (de_var 0) de_int))) (de_op op_addX ok_add de_int (de_ix (de_var 0) de_int)))) de_int)))
  (dss_cons (ds_set 3 nd (dx_p (de_op op_addX ok_add (de_op op_mod ok_oI (de_callT1 call_int1 ok_int (by rfl) tp.int (by decide +kernel) (de_var 2)) de_int) de_int)))
  (dss_cons (ds_set 4 nd (dx_p (de_op op_mod ok_oI (de_callT1 call_int1 ok_int (by rfl) tp.int (by decide +kernel) (de_op op_mulX ok_mul (de_op op_addX ok_add (de_op op_addX ok_add (de_var 2) (de_ix (de_var 0) de_int)) (de_op op_fdivW ok_fdiv (de_ix (de_var 0) de_int) de_int)) (de_var 3))) de_int)))
  (dss_one (ds_ret (de_op op_mod ok_oI (de_callT1 call_int1 ok_int (by rfl) tp.int (by decide +kernel) (de_op op_fdivW ok_fdiv (de_op op_mod ok_oI (de_callT1 call_int1 ok_int (by rfl) tp.int (by decide +kernel) (de_op op_addX ok_add (de_op op_mulX ok_mul (de_var 4) de_int) (de_var 2))) de_int) de_int)) (de_var 1)))))))))
end S67

/-! the walk of each def, printed by gen.py -/
namespace S67
open PySem PySem.Spec PyProof.Rows L2
abbrev s_law_of : Stmt := topS 53
theorem sc_law_of : FnScope ["_law_box_here", "_law_pool_so"] ["_law_box_here", "_law_pool_so"] (defScope s_law_of) := ⟨rfl, rfl, rfl, by decide +kernel, rfl, by decide +kernel, by decide +kernel⟩
set_option maxHeartbeats 4000000 in
theorem ok_law_of {P : Program} {w : World} {K : PySem.W.Frag} {mg : Str → Option Value} {base : Heap} (tp : Tops mg) (h_law_take : Has P w K mg base 1 "_law_take" ["_law_box_here", "_law_below_so"] (spB K 1 F_law_take)) {f : Addr} {fd : FuncData} (F : Fun K "_law_of" "_law_of" s_law_of f fd) : FnOk P w K mg base CX0 2 f fd ["_law_box_here", "_law_pool_so"] (spB K 1 F_law_of) := by
  have nd := sc_law_of.nd
  obtain ⟨f_law_take, fd_law_take, G_law_take, m_law_take, kp_law_take, b_law_take⟩ := h_law_take
  exact fn_B F sc_law_of rfl fun cdv A outer s H E hr =>
  (dss_one (ds_retX (dx_ix 1 (dx_callBP 0 (G_law_take.mono (by decide)) hr (by rfl) m_law_take kp_law_take b_law_take (da_cons (de_call1 call_len_seq ok_len (by rfl) tp.len (by decide +kernel) (de_var 1)) da_nil)))))
abbrev s_law_great : Stmt := topS 57
theorem sc_law_great : FnScope ["_law_box_here", "_law_size_so", "_law_found", "_law_span_so", "_law_many_so"] ["_law_box_here", "_law_size_so"] (defScope s_law_great) := ⟨rfl, rfl, rfl, by decide +kernel, rfl, by decide +kernel, by decide +kernel⟩
set_option maxHeartbeats 4000000 in
theorem ok_law_great {P : Program} {w : World} {K : PySem.W.Frag} {mg : Str → Option Value} {base : Heap} (tp : Tops mg) (h_law_spans : Has P w K mg base 1 "_law_spans" ["_law_size_so"] (spP K 1 F_law_spans)) (h_law_of : Has P w K mg base 2 "_law_of" ["_law_box_here", "_law_pool_so"] (spB K 1 F_law_of)) (h_law_take : Has P w K mg base 1 "_law_take" ["_law_box_here", "_law_below_so"] (spB K 1 F_law_take)) {f : Addr} {fd : FuncData} (F : Fun K "_law_great" "_law_great" s_law_great f fd) : FnOk P w K mg base CX0 3 f fd ["_law_box_here", "_law_size_so"] (spB K 1 F_law_great) := by
  have nd := sc_law_great.nd
  obtain ⟨f_law_spans, fd_law_spans, G_law_spans, m_law_spans, kp_law_spans, b_law_spans⟩ := h_law_spans
  obtain ⟨f_law_of, fd_law_of, G_law_of, m_law_of, kp_law_of, b_law_of⟩ := h_law_of
  obtain ⟨f_law_take, fd_law_take, G_law_take, m_law_take, kp_law_take, b_law_take⟩ := h_law_take
  exact fn_B F sc_law_great rfl fun cdv A outer s H E hr =>
  (dss_cons (ds_set 2 nd (dx_p (de_lst da_nil)))
  (dss_cons (ds_for (vs := [3]) [] PassesOwn.never rfl (di_seq (de_call (G_law_spans.mono (by decide)) hr (by rfl) m_law_spans kp_law_spans b_law_spans (da_cons (de_var 1) da_nil))) (dg_name 3 nd) (dss_cons (ds_set 4 nd (dx_callB 0 (G_law_take.mono (by decide)) hr (by rfl) m_law_take kp_law_take b_law_take (dxa_cons (dx_callBP 0 (G_law_of.mono (by decide)) hr (by rfl) m_law_of kp_law_of b_law_of (da_cons (de_lst (da_cons de_int (da_cons de_int (da_cons de_int (da_cons (de_op op_pow ok_pow de_int de_int) (da_cons (de_op op_pow ok_pow de_int de_int) da_nil)))))) da_nil)) dxa_nil)))
  (dss_one (ds_if (dxb_p (dt_cmp op_gt ok_oB (de_var 4) de_int (by rfl))) (dss_one (ds_app 2 (dx_p (de_tup (da_cons (de_var 3) (da_cons (de_var 4) da_nil)))))) dss_nil))))
  (dss_one (ds_ret (de_tup (da_cons (de_var 1) (da_cons (de_callT1 call_tuple_of ok_tuple (by rfl) tp.tuple (by decide +kernel) (de_var 2)) da_nil)))))))
abbrev s_law_lot : Stmt := topS 56
theorem sc_law_lot : FnScope ["_law_box_here", "_law_size_so", "_law_top_so", "_law_span_so", "_law_sort_so", "_law_found", "_law_many_so"] ["_law_box_here", "_law_size_so", "_law_top_so"] (defScope s_law_lot) := ⟨rfl, rfl, rfl, by decide +kernel, rfl, by decide +kernel, by decide +kernel⟩
set_option maxHeartbeats 4000000 in
theorem ok_law_lot {P : Program} {w : World} {K : PySem.W.Frag} {mg : Str → Option Value} {base : Heap} (tp : Tops mg) (h_law_take : Has P w K mg base 1 "_law_take" ["_law_box_here", "_law_below_so"] (spB K 1 F_law_take)) (h_law_spans : Has P w K mg base 1 "_law_spans" ["_law_size_so"] (spP K 1 F_law_spans)) {f : Addr} {fd : FuncData} (F : Fun K "_law_lot" "_law_lot" s_law_lot f fd) : FnOk P w K mg base CX0 2 f fd ["_law_box_here", "_law_size_so", "_law_top_so"] (spB K 2 F_law_lot) := by
  have nd := sc_law_lot.nd
  obtain ⟨f_law_take, fd_law_take, G_law_take, m_law_take, kp_law_take, b_law_take⟩ := h_law_take
  obtain ⟨f_law_spans, fd_law_spans, G_law_spans, m_law_spans, kp_law_spans, b_law_spans⟩ := h_law_spans
  exact fn_B F sc_law_lot rfl fun cdv A outer s H E hr =>
  (dss_cons (ds_par 4 5 rfl nd (dx_callBP 0 (G_law_take.mono (by decide)) hr (by rfl) m_law_take kp_law_take b_law_take (da_cons de_int da_nil)) (dx_p (de_lst da_nil)))
  (dss_cons (ds_for (vs := [3]) [] PassesOwn.never rfl (di_seq (de_call (G_law_spans.mono (by decide)) hr (by rfl) m_law_spans kp_law_spans b_law_spans (da_cons (de_var 1) da_nil))) (dg_name 3 nd) (dss_cons (ds_set 6 nd (dx_if (dxb_w (dxw_or (dxb_p (dt_cmp op_lt ok_oB (de_var 4) de_int (by rfl))) (dxw_or1 (dxb_cmp (op_eqX hr.units) (ok2x ok_eq) (dx_callBP 0 (G_law_take.mono (by decide)) hr (by rfl) m_law_take kp_law_take b_law_take (da_cons (de_op op_addX ok_add de_int (de_var 4)) da_nil)) (dx_p de_int) (by rfl))))) (dx_callBP 0 (G_law_take.mono (by decide)) hr (by rfl) m_law_take kp_law_take b_law_take (da_cons (de_op op_addX ok_add (de_var 2) de_int) da_nil)) (dx_p de_int)))
  (dss_one (ds_if (dxb_p (dt_cmp op_gt ok_oB (de_var 6) de_int (by rfl))) (dss_one (ds_app 5 (dx_p (de_tup (da_cons (de_var 3) (da_cons (de_var 6) da_nil)))))) dss_nil))))
  (dss_one (ds_ret (de_tup (da_cons (de_var 1) (da_cons (de_callT1 call_tuple_of ok_tuple (by rfl) tp.tuple (by decide +kernel) (de_var 5)) da_nil)))))))
abbrev s_law_table : Stmt := topS 58
theorem sc_law_table : FnScope ["_law_lot_so", "_law_found", "_law_span_so", "_law_many_so"] ["_law_lot_so"] (defScope s_law_table) := ⟨rfl, rfl, rfl, by decide +kernel, rfl, by decide +kernel, by decide +kernel⟩
set_option maxHeartbeats 4000000 in
theorem ok_law_table {P : Program} {w : World} {K : PySem.W.Frag} {mg : Str → Option Value} {base : Heap} (tp : Tops mg) (h_law_spans : Has P w K mg base 1 "_law_spans" ["_law_size_so"] (spP K 1 F_law_spans)) {f : Addr} {fd : FuncData} (F : Fun K "_law_table" "_law_table" s_law_table f fd) : FnOk P w K mg base CX0 2 f fd ["_law_lot_so"] (spP K 1 F_law_table) := by
  have nd := sc_law_table.nd
  obtain ⟨f_law_spans, fd_law_spans, G_law_spans, m_law_spans, kp_law_spans, b_law_spans⟩ := h_law_spans
  exact fn_P F sc_law_table fun cdv A outer s H E hr =>
  (dss_cons (ds_set 1 nd (dx_p (de_callT1 (call_dictL rfl hr.units) ok_dict (by rfl) tp.dict (by decide +kernel) (de_lc (own := [("_law_span_so", 2)]) rfl nd (di_seq (de_call (G_law_spans.mono (by decide)) hr (by rfl) m_law_spans kp_law_spans b_law_spans (da_cons (de_ix (de_var 0) de_int) da_nil))) (blkOk_by (by rfl)) (fun _ _ _ _ _ => (dg_name 2 nd)) (fun _ _ _ _ _ => dts_nil) (fun _ _ _ _ _ => (de_tup (da_cons (de_var 2) (da_cons de_int da_nil))))))))
  (dss_cons (ds_for (vs := [2, 3]) [] PassesOwn.never rfl (di_seq (de_ix (de_var 0) de_int)) (dg_tup rfl (dgs_cons (dg_name 2 nd) (dgs_cons (dg_name 3 nd) dgs_nil))) (dss_one (ds_putM 1 (u1 hr) (dx_p (de_var 3)) (de_var 2))))
  (dss_one (ds_ret (de_var 1)))))
abbrev s_law_made : Stmt := topS 59
theorem sc_law_made : FnScope ["_law_size_so", "_law_table_so", "_law_own"] ["_law_size_so", "_law_table_so"] (defScope s_law_made) := ⟨rfl, rfl, rfl, by decide +kernel, rfl, by decide +kernel, by decide +kernel⟩
set_option maxHeartbeats 4000000 in
theorem ok_law_made {P : Program} {w : World} {K : PySem.W.Frag} {mg : Str → Option Value} {base : Heap} (tp : Tops mg)  {f : Addr} {fd : FuncData} (F : Fun K "_law_made" "_law_made" s_law_made f fd) : FnOk P w K mg base CX0 1 f fd ["_law_size_so", "_law_table_so"] (spP K 2 F_law_made) := by
  have nd := sc_law_made.nd
  exact fn_P F sc_law_made fun cdv A outer s H E hr =>
  (dss_one (ds_ret (de_tup (da_cons (de_var 0) (da_cons (de_callT1 call_tuple_of ok_tuple (by rfl) tp.tuple (by decide +kernel) (de_lc (own := [("_law_own", 2)]) rfl nd (di_seq (de_call1 (call_sortedD rfl hr.units) ok_sortD (by rfl) tp.sorted (by decide +kernel) (de_var 1))) (blkOk_by (by rfl)) (fun _ _ _ _ _ => (dg_name 2 nd)) (fun _ _ _ _ _ => (dts_one (dt_cmp op_gt ok_oB (de_ixM (u1 hr) (de_var 1) (de_var 2)) de_int (by rfl)))) (fun _ _ _ _ _ => (de_tup (da_cons (de_var 2) (da_cons (de_ixM (u1 hr) (de_var 1) (de_var 2)) da_nil)))))) da_nil)))))
abbrev s_law_moved : Stmt := topS 60
theorem sc_law_moved : FnScope ["_law_box_here", "_law_lot_so", "_law_laps_so", "_law_turn", "_law_table_so", "_law_last_so", "_law_some", "_law_sort_so", "_law_own", "_law_far_so", "_law_one_so", "_law_two_so", "_law_near_so", "_law_sign_so"] ["_law_box_here", "_law_lot_so", "_law_laps_so"] (defScope s_law_moved) := ⟨rfl, rfl, rfl, by decide +kernel, rfl, by decide +kernel, by decide +kernel⟩
set_option maxHeartbeats 4000000 in
theorem ok_law_moved {P : Program} {w : World} {K : PySem.W.Frag} {mg : Str → Option Value} {base : Heap} (tp : Tops mg) (h_law_table : Has P w K mg base 2 "_law_table" ["_law_lot_so"] (spP K 1 F_law_table)) (h_law_take : Has P w K mg base 1 "_law_take" ["_law_box_here", "_law_below_so"] (spB K 1 F_law_take)) (h_law_spans : Has P w K mg base 1 "_law_spans" ["_law_size_so"] (spP K 1 F_law_spans)) (h_law_of : Has P w K mg base 2 "_law_of" ["_law_box_here", "_law_pool_so"] (spB K 1 F_law_of)) (h_law_made : Has P w K mg base 1 "_law_made" ["_law_size_so", "_law_table_so"] (spP K 2 F_law_made)) {f : Addr} {fd : FuncData} (F : Fun K "_law_moved" "_law_moved" s_law_moved f fd) : FnOk P w K mg base CX0 3 f fd ["_law_box_here", "_law_lot_so", "_law_laps_so"] (spB K 2 F_law_moved) := by
  have nd := sc_law_moved.nd
  obtain ⟨f_law_table, fd_law_table, G_law_table, m_law_table, kp_law_table, b_law_table⟩ := h_law_table
  obtain ⟨f_law_take, fd_law_take, G_law_take, m_law_take, kp_law_take, b_law_take⟩ := h_law_take
  obtain ⟨f_law_spans, fd_law_spans, G_law_spans, m_law_spans, kp_law_spans, b_law_spans⟩ := h_law_spans
  obtain ⟨f_law_of, fd_law_of, G_law_of, m_law_of, kp_law_of, b_law_of⟩ := h_law_of
  obtain ⟨f_law_made, fd_law_made, G_law_made, m_law_made, kp_law_made, b_law_made⟩ := h_law_made
  exact fn_B F sc_law_moved rfl fun cdv A outer s H E hr =>
  (dss_cons (ds_parU 4 5 rfl nd (dx_p (de_call (G_law_table.mono (by decide)) hr (by rfl) m_law_table kp_law_table b_law_table (da_cons (de_var 1) da_nil))) (dx_p (de_op op_sub ok_sub (de_ix (de_var 1) de_int) de_int)))
  (dss_cons (ds_for (vs := [3]) [] PassesOwn.never rfl (di_range1 (by rfl) tp.range (de_var 2)) (dg_name 3 nd) (dss_cons (ds_setLc (own := [("_law_own", 8)]) 6 rfl nd (sw_true rfl rfl rfl rfl) (di_seq (de_call1 (call_sortedD rfl hr.units) ok_sortD (by rfl) tp.sorted (by decide +kernel) (de_var 4))) (blkOk_by (by rfl)) (fun _ _ _ _ _ => (dg_name 8 nd)) (fun _ _ _ _ _ => (dts_one (dt_cmp op_gt ok_oB (de_ixM (u1 hr) (de_var 4) (de_var 8)) de_int (by rfl)))) (fun _ _ _ _ _ => (de_var 8)))
  (dss_cons (ds_set 7 nd (dx_callBP 0 (G_law_take.mono (by decide)) hr (by rfl) m_law_take kp_law_take b_law_take (da_cons de_int da_nil)))
  (dss_one (ds_if (dxb_p (dt_w (dw_or (dt_cmp (op_eqX hr.units) ok_eq (de_var 6) (de_lst da_nil) (by rfl)) (dw_or1 (dt_cmp (op_eqX hr.units) ok_eq (de_var 7) de_int (by rfl)))))) (dss_cons (ds_set 8 nd (dx_callBP 0 (G_law_of.mono (by decide)) hr (by rfl) m_law_of kp_law_of b_law_of (da_cons (de_call (G_law_spans.mono (by decide)) hr (by rfl) m_law_spans kp_law_spans b_law_spans (da_cons (de_ix (de_var 1) de_int) da_nil)) da_nil)))
  (dss_one (ds_putM 4 (u1 hr) (dx_op op_addX (ok2x ok_add) (dx_p (de_op op_addX ok_add (de_ixM (u1 hr) (de_var 4) (de_var 8)) de_int)) (dx_callBP 0 (G_law_take.mono (by decide)) hr (by rfl) m_law_take kp_law_take b_law_take (da_cons de_int da_nil))) (de_var 8)))) (dss_one (ds_if (dxb_p (dt_cmp (op_eqX hr.units) ok_eq (de_var 7) de_int (by rfl))) (dss_cons (ds_set 8 nd (dx_callBP 0 (G_law_of.mono (by decide)) hr (by rfl) m_law_of kp_law_of b_law_of (da_cons (de_var 6) da_nil)))
  (dss_one (ds_putM 4 (u1 hr) (dx_p (de_op op_sub ok_sub (de_ixM (u1 hr) (de_var 4) (de_var 8)) de_int)) (de_var 8)))) (dss_one (ds_if (dxb_p (dt_cmp (op_eqX hr.units) ok_eq (de_var 7) de_int (by rfl))) (dss_cons (ds_set 8 nd (dx_callBP 0 (G_law_of.mono (by decide)) hr (by rfl) m_law_of kp_law_of b_law_of (da_cons (de_var 6) da_nil)))
  (dss_cons (ds_set 9 nd (dx_tup (dxa_cons (dx_call2 (call_max2 rfl) ok_max2 (by rfl) tp.max (by decide +kernel) (dx_p de_int) (dx_op op_sub (ok2x ok_sub) (dx_p (de_ix (de_var 8) de_int)) (dx_callBP 0 (G_law_take.mono (by decide)) hr (by rfl) m_law_take kp_law_take b_law_take (da_cons de_int da_nil)))) (dxa_cons (dx_call2 (call_min2 rfl) ok_min2 (by rfl) tp.min (by decide +kernel) (dx_p (de_var 5)) (dx_op op_addX (ok2x ok_add) (dx_p (de_ix (de_var 8) de_int)) (dx_callBP 0 (G_law_take.mono (by decide)) hr (by rfl) m_law_take kp_law_take b_law_take (da_cons de_int da_nil)))) dxa_nil))))
  (dss_cons (ds_putM 4 (u1 hr) (dx_p (de_op op_sub ok_sub (de_ixM (u1 hr) (de_var 4) (de_var 8)) de_int)) (de_var 8))
  (dss_one (ds_putM 4 (u1 hr) (dx_p (de_op op_addX ok_add (de_ixM (u1 hr) (de_var 4) (de_var 9)) de_int)) (de_var 9)))))) (dss_cons (ds_par 10 11 rfl nd (dx_callBP 0 (G_law_of.mono (by decide)) hr (by rfl) m_law_of kp_law_of b_law_of (da_cons (de_var 6) da_nil)) (dx_callBP 0 (G_law_of.mono (by decide)) hr (by rfl) m_law_of kp_law_of b_law_of (da_cons (de_var 6) da_nil)))
  (dss_one (ds_if (dxb_p (dt_w (dw_and (dt_cmp (op_neX hr.units) ok_ne (de_var 10) (de_var 11) (by rfl)) (dw_and (dt_cmp op_le ok_oB (de_ix (de_var 10) de_int) (de_ix (de_var 11) de_int) (by rfl)) (dw_and1 (dt_cmp op_le ok_oB (de_ix (de_var 11) de_int) (de_ix (de_var 10) de_int) (by rfl))))))) (dss_cons (ds_par 12 9 rfl nd (dx_p (de_tup (da_cons (de_ix (de_var 10) de_int) (da_cons (de_ix (de_var 11) de_int) da_nil)))) (dx_p (de_tup (da_cons (de_ix (de_var 11) de_int) (da_cons (de_ix (de_var 10) de_int) da_nil)))))
  (dss_one (ds_for (vs := [8, 13]) [] PassesOwn.never rfl (di_seq (de_tup (da_cons (de_tup (da_cons (de_var 10) (da_cons (de_un un_neg ok_neg de_int) da_nil))) (da_cons (de_tup (da_cons (de_var 11) (da_cons (de_un un_neg ok_neg de_int) da_nil))) (da_cons (de_tup (da_cons (de_var 12) (da_cons de_int da_nil))) (da_cons (de_tup (da_cons (de_var 9) (da_cons de_int da_nil))) da_nil)))))) (dg_tup rfl (dgs_cons (dg_name 8 nd) (dgs_cons (dg_name 13 nd) dgs_nil))) (dss_one (ds_putM 4 (u1 hr) (dx_p (de_op op_addX ok_add (de_ixM (u1 hr) (de_var 4) (de_var 8)) (de_var 13))) (de_var 8)))))) dss_nil))))))))))))
  (dss_one (ds_ret (de_call (G_law_made.mono (by decide)) hr (by rfl) m_law_made kp_law_made b_law_made (da_cons (de_ix (de_var 1) de_int) (da_cons (de_var 4) da_nil)))))))
abbrev s_law_hands : Stmt := topS 61
theorem sc_law_hands : FnScope ["_law_box_here", "_law_size_so", "_law_top_so", "_law_found", "_law_turn"] ["_law_box_here", "_law_size_so", "_law_top_so"] (defScope s_law_hands) := ⟨rfl, rfl, rfl, by decide +kernel, rfl, by decide +kernel, by decide +kernel⟩
set_option maxHeartbeats 4000000 in
theorem ok_law_hands {P : Program} {w : World} {K : PySem.W.Frag} {mg : Str → Option Value} {base : Heap} (tp : Tops mg) (h_law_take : Has P w K mg base 1 "_law_take" ["_law_box_here", "_law_below_so"] (spB K 1 F_law_take)) {f : Addr} {fd : FuncData} (F : Fun K "_law_hands" "_law_hands" s_law_hands f fd) : FnOk P w K mg base CX0 2 f fd ["_law_box_here", "_law_size_so", "_law_top_so"] (spB K 2 F_law_hands) := by
  have nd := sc_law_hands.nd
  obtain ⟨f_law_take, fd_law_take, G_law_take, m_law_take, kp_law_take, b_law_take⟩ := h_law_take
  exact fn_B F sc_law_hands rfl fun cdv A outer s H E hr =>
  (dss_cons (ds_set 3 nd (dx_p (de_lst da_nil)))
  (dss_cons (ds_for (vs := [4]) [] PassesOwn.never rfl (di_range1 (by rfl) tp.range (de_var 1)) (dg_name 4 nd) (dss_one (ds_app 3 (dx_if (dxb_cmp op_gt (ok2x ok_oB) (dx_callBP 0 (G_law_take.mono (by decide)) hr (by rfl) m_law_take kp_law_take b_law_take (da_cons de_int da_nil)) (dx_p de_int) (by rfl)) (dx_callBP 0 (G_law_take.mono (by decide)) hr (by rfl) m_law_take kp_law_take b_law_take (da_cons (de_op op_addX ok_add (de_var 2) de_int) da_nil)) (dx_p de_int)))))
  (dss_one (ds_ret (de_callT1 call_tuple_of ok_tuple (by rfl) tp.tuple (by decide +kernel) (de_var 3))))))
end S67

/-! the walk of each def, printed by gen.py -/
namespace S67
open PySem PySem.Spec PyProof.Rows L2
abbrev s_law_right : Stmt := topS 65
theorem sc_law_right : FnScope ["_law_box_here", "_law_turn", "_law_size_so", "_law_lot_so"] ["_law_box_here"] (defScope s_law_right) := ⟨rfl, rfl, rfl, by decide +kernel, rfl, by decide +kernel, by decide +kernel⟩
set_option maxHeartbeats 4000000 in
theorem ok_law_right {P : Program} {w : World} {K : PySem.W.Frag} {mg : Str → Option Value} {base : Heap} (tp : Tops mg) (h_law_take : Has P w K mg base 1 "_law_take" ["_law_box_here", "_law_below_so"] (spB K 1 F_law_take)) (h_law_great : Has P w K mg base 3 "_law_great" ["_law_box_here", "_law_size_so"] (spB K 1 F_law_great)) (h_law_lot : Has P w K mg base 2 "_law_lot" ["_law_box_here", "_law_size_so", "_law_top_so"] (spB K 2 F_law_lot)) (h_law_moved : Has P w K mg base 3 "_law_moved" ["_law_box_here", "_law_lot_so", "_law_laps_so"] (spB K 2 F_law_moved)) (h_law_pair_right : Has P w K mg base 10 "_law_pair_right" ["_law_mine_so", "_law_its_so"] (spP K 2 F_law_pair_right)) (h_law_of : Has P w K mg base 2 "_law_of" ["_law_box_here", "_law_pool_so"] (spB K 1 F_law_of)) (h_law_hands : Has P w K mg base 2 "_law_hands" ["_law_box_here", "_law_size_so", "_law_top_so"] (spB K 2 F_law_hands)) (h_law_fees_right : Has P w K mg base 10 "_law_fees_right" ["_law_lot_so", "_law_fees_so"] (spP K 2 F_law_fees_right)) {f : Addr} {fd : FuncData} (F : Fun K "_law_right" "_law_right" s_law_right f fd) : FnOk P w K mg base CX0 11 f fd ["_law_box_here"] (spB K 0 F_law_right) := by
  have nd := sc_law_right.nd
  obtain ⟨f_law_take, fd_law_take, G_law_take, m_law_take, kp_law_take, b_law_take⟩ := h_law_take
  obtain ⟨f_law_great, fd_law_great, G_law_great, m_law_great, kp_law_great, b_law_great⟩ := h_law_great
  obtain ⟨f_law_lot, fd_law_lot, G_law_lot, m_law_lot, kp_law_lot, b_law_lot⟩ := h_law_lot
  obtain ⟨f_law_moved, fd_law_moved, G_law_moved, m_law_moved, kp_law_moved, b_law_moved⟩ := h_law_moved
  obtain ⟨f_law_pair_right, fd_law_pair_right, G_law_pair_right, m_law_pair_right, kp_law_pair_right, b_law_pair_right⟩ := h_law_pair_right
  obtain ⟨f_law_of, fd_law_of, G_law_of, m_law_of, kp_law_of, b_law_of⟩ := h_law_of
  obtain ⟨f_law_hands, fd_law_hands, G_law_hands, m_law_hands, kp_law_hands, b_law_hands⟩ := h_law_hands
  obtain ⟨f_law_fees_right, fd_law_fees_right, G_law_fees_right, m_law_fees_right, kp_law_fees_right, b_law_fees_right⟩ := h_law_fees_right
  exact fn_B F sc_law_right rfl fun cdv A outer s H E hr =>
  (dss_cons (ds_for (vs := [1]) [] PassesOwn.never rfl (di_range1 (by rfl) tp.range de_int) (dg_name 1 nd) (dss_cons (ds_set 2 nd (dx_op op_addX (ok2x ok_add) (dx_p de_int) (dx_callBP 0 (G_law_take.mono (by decide)) hr (by rfl) m_law_take kp_law_take b_law_take (da_cons de_int da_nil))))
  (dss_cons (ds_set 3 nd (dx_if (dxb_p (dt_cmp (op_eqX hr.units) ok_eq (de_var 1) de_int (by rfl))) (dx_callBP 0 (G_law_great.mono (by decide)) hr (by rfl) m_law_great kp_law_great b_law_great (da_cons (de_var 2) da_nil)) (dx_callBP 0 (G_law_lot.mono (by decide)) hr (by rfl) m_law_lot kp_law_lot b_law_lot (da_cons (de_var 2) (da_cons de_int da_nil)))))
  (dss_cons (ds_if (dxb_not (dxb_val (dx_call (G_law_pair_right.mono (by decide)) hr (by rfl) m_law_pair_right kp_law_pair_right b_law_pair_right (dxa_cons (dx_p (de_var 3)) (dxa_cons (dx_callB 0 (G_law_moved.mono (by decide)) hr (by rfl) m_law_moved kp_law_moved b_law_moved (dxa_cons (dx_p (de_var 3)) (dxa_cons (dx_callBP 0 (G_law_take.mono (by decide)) hr (by rfl) m_law_take kp_law_take b_law_take (da_cons de_int da_nil)) dxa_nil))) dxa_nil))))) (dss_one (ds_ret de_bl)) dss_nil)
  (dss_one (ds_if (dxb_not (dxb_val (dx_call (G_law_fees_right.mono (by decide)) hr (by rfl) m_law_fees_right kp_law_fees_right b_law_fees_right (dxa_cons (dx_p (de_var 3)) (dxa_cons (dx_callB 0 (G_law_hands.mono (by decide)) hr (by rfl) m_law_hands kp_law_hands b_law_hands (dxa_cons (dx_p (de_var 2)) (dxa_cons (dx_callBP 0 (G_law_of.mono (by decide)) hr (by rfl) m_law_of kp_law_of b_law_of (da_cons (de_lst (da_cons de_int (da_cons de_int (da_cons (de_op op_pow ok_pow de_int de_int) da_nil)))) da_nil)) dxa_nil))) dxa_nil))))) (dss_one (ds_ret de_bl)) dss_nil))))))
  (dss_one (ds_ret de_bl)))
abbrev s_law : Stmt := topS 66
theorem sc_law : FnScope ["_law_script", "_law_cells_here", "_law_k"] ["_law_script"] (defScope s_law) := ⟨rfl, rfl, rfl, by decide +kernel, rfl, by decide +kernel, by decide +kernel⟩
set_option maxHeartbeats 4000000 in
theorem ok_law {P : Program} {w : World} {K : PySem.W.Frag} {mg : Str → Option Value} {base : Heap} (tp : Tops mg) (h_law_by_hand_right : Has P w K mg base 11 "_law_by_hand_right" [] (spP K 0 F_law_by_hand_right)) (h_law_cells : Has P w K mg base 1 "_law_cells" ["_law_script", "_law_most_so"] (spP K 2 F_law_cells)) (h_law_box : Has P w K mg base 1 "_law_box" ["_law_script", "_law_k"] (spP K 2 F_law_box)) (h_law_right : Has P w K mg base 11 "_law_right" ["_law_box_here"] (spB K 0 F_law_right)) {f : Addr} {fd : FuncData} (F : Fun K "law" "law" s_law f fd) : FnOk P w K mg base CX0 12 f fd ["_law_script"] (spP K 1 F_law) := by
  have nd := sc_law.nd
  obtain ⟨f_law_by_hand_right, fd_law_by_hand_right, G_law_by_hand_right, m_law_by_hand_right, kp_law_by_hand_right, b_law_by_hand_right⟩ := h_law_by_hand_right
  obtain ⟨f_law_cells, fd_law_cells, G_law_cells, m_law_cells, kp_law_cells, b_law_cells⟩ := h_law_cells
  obtain ⟨f_law_box, fd_law_box, G_law_box, m_law_box, kp_law_box, b_law_box⟩ := h_law_box
  obtain ⟨f_law_right, fd_law_right, G_law_right, m_law_right, kp_law_right, b_law_right⟩ := h_law_right
  exact fn_P F sc_law fun cdv A outer s H E hr =>
  (dss_cons (ds_if (dxb_p (dt_not (dt_val (de_call0 (G_law_by_hand_right.mono (by decide)) hr (by rfl) m_law_by_hand_right kp_law_by_hand_right b_law_by_hand_right)))) (dss_one (ds_ret de_bl)) dss_nil)
  (dss_cons (ds_set 1 nd (dx_p (de_call (G_law_cells.mono (by decide)) hr (by rfl) m_law_cells kp_law_cells b_law_cells (da_cons (de_var 0) (da_cons de_int da_nil)))))
  (dss_one (ds_ret (de_call1 (cr_all rfl) ok_all (by rfl) tp.all (by decide +kernel) (de_lc (own := [("_law_k", 2)]) rfl nd (di_range1 (by rfl) tp.range (de_call1 call_len_seq ok_len (by rfl) tp.len (by decide +kernel) (de_var 1))) (blkOk_by (by rfl)) (fun _ _ _ _ _ => (dg_name 2 nd)) (fun _ _ _ _ _ => dts_nil) (fun _ _ _ _ _ => (de_callNew (G_law_right.mono (by decide)) hr (by rfl) m_law_right kp_law_right b_law_right (de_call (G_law_box.mono (by decide)) hr (by rfl) m_law_box kp_law_box b_law_box (da_cons (de_var 1) (da_cons (de_var 2) da_nil)))))))))))
end S67

/-! MA: how the meanings compute. -/
namespace S67
theorem ap_sVar (i : Nat) (r : Rho) : sVar i r = (match r[i]? with
  | some (some (.x ds)) => some (.l .bx ds)
  | some (some a) => some a
  | _ => none) := rfl
theorem ap_sK (a : Av) (r0 : Rho) : sK a r0 = (some a) := rfl
theorem ap_s1 (h : Av → Option Av) (f : SE) (r : Rho) : s1 h f r = ((f r).bind h) := rfl
theorem ap_s2 (h : Av → Av → Option Av) (f g : SE) (r : Rho) : s2 h f g r = ((f r).bind fun a => (g r).bind fun b => h a b) := rfl
theorem ap_s3 (h : Av → Av → Av → Option Av) (f g e : SE) (r : Rho) : s3 h f g e r = ((f r).bind fun a => (g r).bind fun b => (e r).bind fun c => h a b c) := rfl
theorem ap_pNo (r0 : Rho) : pNo r0 = (some none) := rfl
theorem ap_pYes (f : SE) (r : Rho) : pYes f r = (((f r).bind vInt).map some) := rfl
theorem ap_sCut (f : SE) (lo hi : SP1) (r : Rho) : sCut f lo hi r = ((f r).bind fun a => (lo r).bind fun i => (hi r).bind fun j => oCut a i j) := rfl
theorem ap_sTup (fs : List SE) (r : Rho) : sTup fs r = (((seqE fs r).bind vDats).map fun ds => .d (.tup ds)) := rfl
theorem ap_sLst (fs : List SE) (r : Rho) : sLst fs r = (((seqE fs r).bind vDats).map fun ds => .l .fr ds) := rfl
theorem ap_bOf (f : SE) (r : Rho) : bOf f r = ((f r).bind vBl) := rfl
theorem ap_bAnd (t u : SB) (r : Rho) : bAnd t u r = ((t r).bind fun c => if c = true then u r else some false) := rfl
theorem ap_bOr (t u : SB) (r : Rho) : bOr t u r = ((t r).bind fun c => if c = true then some true else u r) := rfl
theorem ap_bNot (t : SB) (r : Rho) : bNot t r = ((t r).map (!·)) := rfl
theorem ap_sAnd (f g : SE) (r : Rho) : sAnd f g r = (((f r).bind vBl).bind fun c => if c = true then g r else some (.b false)) := rfl
theorem ap_sOr (f g : SE) (r : Rho) : sOr f g r = (((f r).bind vBl).bind fun c => if c = true then some (.b true) else g r) := rfl
theorem ap_sNot (f : SE) (r : Rho) : sNot f r = (((f r).bind vBl).map fun c => .b (!c)) := rfl
theorem ap_sOrL (f g : SE) (r : Rho) : sOrL f g r = ((f r).bind fun a => match a with
  | .l .fr [] => g r
  | .l .fr (x :: xs) => some (.l .fr (x :: xs))
  | _ => none) := rfl
theorem ap_sIf (t : SB) (f g : SE) (r : Rho) : sIf t f g r = ((t r).bind fun c => if c = true then f r else g r) := rfl
theorem ap_sCh2 (h h2 : Av → Av → Option Av) (f g k : SE) (r : Rho) : sCh2 h h2 f g k r = ((f r).bind fun a => (g r).bind fun b => ((h a b).bind vBl).bind fun c => if c = true then (k r).bind fun d => h2 b d else some (.b false)) := rfl
theorem ap_sCh3 (h h2 h3 : Av → Av → Option Av) (f g k e : SE) (r : Rho) : sCh3 h h2 h3 f g k e r = ((f r).bind fun a => (g r).bind fun b => ((h a b).bind vBl).bind fun c => if c = true then (k r).bind fun d => ((h2 b d).bind vBl).bind fun c2 => if c2 = true then (e r).bind fun x => h3 d x else some (.b false) else some (.b false)) := rfl
theorem ap_iSeq (f : SE) (r : Rho) : iSeq f r = ((f r).bind fun a => (vSeq a).map fun xs => (notOw a, xs)) := rfl
theorem ap_iRange1 (f : SE) (r : Rho) : iRange1 f r = (((f r).bind vInt).bind fun j => if small62 j then some (true, rangeD 0 j.toNat) else none) := rfl
theorem ap_iRange2 (f g : SE) (r : Rho) : iRange2 f g r = (((f r).bind vInt).bind fun i => ((g r).bind vInt).bind fun j => if small62 i ∧ small62 j then some (true, rangeD i (j - i).toNat) else none) := rfl
theorem ap_iEnum (f : SE) (r : Rho) : iEnum f r = ((f r).bind fun a => (vSeq a).map fun xs => (notOw a, enumD xs)) := rfl
theorem ap_iZip2 (f g : SE) (r : Rho) : iZip2 f g r = ((f r).bind fun a => (g r).bind fun b => (vSeq a).bind fun xs => (vSeq b).map fun ys => (notOw a && notOw b, zip2D xs ys)) := rfl
theorem ap_iZip3 (f g e : SE) (r : Rho) : iZip3 f g e r = ((f r).bind fun a => (g r).bind fun b => (e r).bind fun c => (vSeq a).bind fun xs => (vSeq b).bind fun ys => (vSeq c).map fun zs => (notOw a && notOw b && notOw c, zip3D xs ys zs)) := rfl
theorem ap_sListZip (f g : SE) (r : Rho) : sListZip f g r = ((iZip2 f g r).map fun e => .l .fr e.2) := rfl
theorem ap_sDictE (r0 : Rho) : sDictE r0 = (some (.m .fr [])) := rfl
theorem ap_sDictZip (f g : SE) (r : Rho) : sDictZip f g r = (((iZip2 f g r).bind fun e => if e.2.length ≤ 1000000 then mPuts e.2 [] else none).map (.m .fr)) := rfl
theorem ap_gNm (i : Nat) (x : Dt) (r : Rho) : gNm i x r = (some (r.set i (some (.d x)))) := rfl
theorem ap_gTp (ts : List SG) (x : Dt) (r : Rho) : gTp ts x r = (match x with
  | .tup ds => gTps ts ds r
  | _ => none) := rfl
theorem ap_bYes (r0 : Rho) : bYes r0 = (some true) := rfl
theorem ap_sLc (vs : List Nat) (it : SI) (g : SG) (t : SB) (e : SE) (r : Rho) : sLc vs it g t e r = ((it r).bind fun q => if q.2.length ≤ 1000000 then (lcGo g t e (wipeR r vs) q.2).map (.l .fr) else none) := rfl
theorem ap_sLc2 (vs vs1 : List Nat) (it : SI) (g : SG) (t : SB) (it1 : SI) (g1 : SG) (t1 : SB) (e : SE) (r : Rho) : sLc2 vs vs1 it g t it1 g1 t1 e r = ((it r).bind fun q => (lc2Go g t it1 vs1 g1 t1 e (wipeR r vs) q.2).bind fun ys => if ys.length ≤ 1000000 then some (.l .fr ys) else none) := rfl
theorem ap_sLcItems (i : Nat) (vs : List Nat) (g : SG) (t : SB) (e : SE) (r : Rho) : sLcItems i vs g t e r = (match r[i]? with
  | some (some (.m .ow kvs)) => if kvs.length ≤ 1000000 then (lcGo g t e (wipeR (r.set i none) vs) (kvs.map itemD)).map (.l .fr) else none
  | _ => none) := rfl
theorem ap_sCall (F : FP) (fs : List SE) (r : Rho) : sCall F fs r = (((seqE fs r).bind argsA).bind F) := rfl
theorem ap_sCall0 (F : FP) (r0 : Rho) : sCall0 F r0 = (F []) := rfl
theorem ap_xP (f : SE) (r : Rho) : xP f r = (((f r).bind vFree).map fun a => (a, r)) := rfl
theorem ap_xBP (t : SB) (r : Rho) : xBP t r = ((t r).map fun c => (c, r)) := rfl
theorem ap_xBOf (f : SX) (r : Rho) : xBOf f r = ((f r).bind fun q => (vBl q.1).map fun c => (c, q.2)) := rfl
theorem ap_xBOr (t u : SXB) (r : Rho) : xBOr t u r = ((t r).bind fun q => if q.1 = true then some (true, q.2) else u q.2) := rfl
theorem ap_xBNot (t : SXB) (r : Rho) : xBNot t r = ((t r).map fun q => (!q.1, q.2)) := rfl
theorem ap_xIf (t : SXB) (f g : SX) (r : Rho) : xIf t f g r = ((t r).bind fun q => if q.1 = true then f q.2 else g q.2) := rfl
theorem ap_x2 (h : Av → Av → Option Av) (f g : SX) (r : Rho) : x2 h f g r = ((f r).bind fun p => (vDat p.1).bind fun x => (g p.2).bind fun q => (vDat q.1).bind fun y => (h (.d x) (.d y)).bind fun z => (vDat z).map fun w => (.d w, q.2)) := rfl
theorem ap_xTup (fs : List SX) (r : Rho) : xTup fs r = ((seqX fs r).map fun q => (.d (.tup q.1), q.2)) := rfl
theorem ap_xCall (F : FP) (fs : List SX) (r : Rho) : xCall F fs r = ((seqX fs r).bind fun q => ((F (q.1.map .d)).bind vFree).map fun a => (a, q.2)) := rfl
theorem ap_xCallB (i : Nat) (F : FB) (fs : List SX) (r : Rho) : xCallB i F fs r = ((boxAt r i).bind fun _ => (seqX fs r).bind fun q => (boxAt q.2 i).bind fun b => (F b (q.1.map .d)).bind fun z => (vFree z.2).map fun a => (a, q.2.set i (some (.x z.1)))) := rfl
theorem ap_xCallBP (i : Nat) (F : FB) (fs : List SE) (r : Rho) : xCallBP i F fs r = (((seqE fs r).bind argsA).bind fun as => (boxAt r i).bind fun b => (F b as).bind fun z => (vFree z.2).map fun a => (a, r.set i (some (.x z.1)))) := rfl
theorem ap_xIx (i : Nat) (f : SX) (r : Rho) : xIx i f r = ((sVar i r).bind fun _ => (f r).bind fun q => (vDat q.1).bind fun x => (sVar i q.2).bind fun a => ((oIxS a (.d x)).bind vDat).map fun z => (.d z, q.2)) := rfl
theorem ap_sCallNew (F : FB) (f : SE) (r : Rho) : sCallNew F f r = ((f r).bind fun a => match a with
  | .l .fr b => (F b []).bind fun z => vFree z.2
  | _ => none) := rfl
theorem ap_kNil (r : Rho) : kNil  r = (some (.nx r)) := rfl
theorem ap_kSeq (s t : SS) (r : Rho) : kSeq s t r = ((s r).bind fun o => match o with
  | .nx r1 => t r1
  | .rt r1 a => some (.rt r1 a)) := rfl
theorem ap_kSet (i : Nat) (f : SX) (r : Rho) : kSet i f r = ((f r).bind fun q => (toSlot q.1).map fun a => .nx (q.2.set i (some a))) := rfl
theorem ap_kPar (i j : Nat) (f g : SX) (r : Rho) : kPar i j f g r = ((f r).bind fun p => (toSlot p.1).bind fun a => (g p.2).bind fun q => (toSlot q.1).map fun b => .nx ((q.2.set i (some a)).set j (some b))) := rfl
theorem ap_kPar3 (i j k : Nat) (f g h : SE) (r : Rho) : kPar3 i j k f g h r = (((f r).bind vDat).bind fun x => ((g r).bind vDat).bind fun y => ((h r).bind vDat).map fun z => .nx (((r.set i (some (.d x))).set j (some (.d y))).set k (some (.d z)))) := rfl
theorem ap_kUnp (g : SG) (f : SX) (r : Rho) : kUnp g f r = ((f r).bind fun q => (vDat q.1).bind fun x => (g x q.2).map .nx) := rfl
theorem ap_kPutL (i : Nat) (idx : SE) (f : SX) (r : Rho) : kPutL i idx f r = ((f r).bind fun q => (vDat q.1).bind fun v => ((idx q.2).bind vInt).bind fun k => (slotAt q.2 i).bind fun c => (putL c k v).map fun c' => .nx (q.2.set i (some c'))) := rfl
theorem ap_kPutM (i : Nat) (idx : SE) (f : SX) (r : Rho) : kPutM i idx f r = ((f r).bind fun q => (vInt q.1).bind fun v => ((idx q.2).bind vDat).bind fun k => match k, q.2[i]? with
  | .tup [.int a, .int b], some (some (.m .ow kvs)) => if kvs.length < 1000000 then some (.nx (q.2.set i (some (.m .ow (mPut kvs (a, b) v))))) else none
  | _, _ => none) := rfl
theorem ap_kAug (i : Nat) (idx e : SE) (r : Rho) : kAug i idx e r = (((idx r).bind vInt).bind fun k => match r[i]? with
  | some (some (.l .ow xs)) => (ixA xs.length k).bind fun j => (xs[j]?).bind fun old => match old with
    | .int n => ((e r).bind vInt).bind fun d => some (.nx (r.set i (some (.l .ow (xs.set j (.int (n + d)))))))
    | _ => none
  | _ => none) := rfl
theorem ap_kApp (i : Nat) (f : SX) (r : Rho) : kApp i f r = ((owAt r i).bind fun _ => (f r).bind fun q => (vDat q.1).bind fun v => (owAt q.2 i).bind fun xs => if xs.length < 1000000 then some (.nx (q.2.set i (some (.l .ow (xs ++ [v]))))) else none) := rfl
theorem ap_kExpr (f : SE) (r : Rho) : kExpr f r = ((f r).map fun _ => .nx r) := rfl
theorem ap_kIf (t : SXB) (a b : SS) (r : Rho) : kIf t a b r = ((t r).bind fun q => if q.1 = true then a q.2 else b q.2) := rfl
theorem ap_kNever (r0 : Rho) : kNever r0 = (none) := rfl
theorem ap_kRet (f : SE) (r : Rho) : kRet f r = (((f r).bind toRet).map fun a => .rt r a) := rfl
theorem ap_kRetX (f : SX) (r : Rho) : kRetX f r = ((f r).map fun q => .rt q.2 q.1) := rfl
theorem ap_kFor (fz : List Nat) (it : SI) (g : SG) (b : SS) (r : Rho) : kFor fz it g b r = ((it (frz r fz)).bind fun q => if q.1 = true then forGo g b q.2 (frz r fz) else none) := rfl
theorem ap_runP (n : Nat) (b : SS) (as : List Av) : runP n b as = ((b (startR n as)).map fun o => match o with
  | .nx _ => .d .non
  | .rt _ a => a) := rfl
theorem ap_runB (n : Nat) (b : SS) (box : List Dt) (as : List Av) : runB n b box as = ((b (startR n (.x box :: as))).bind fun o => match o with
  | .nx r => (boxAt r 0).map fun z => (z, .d .non)
  | .rt r a => (boxAt r 0).map fun z => (z, a)) := rfl
theorem ap_sLc_ev {α : Type} {vs : List Nat} {it : SI} {g : SG} {t : SB} {e : SE} {r : Rho} {fl : Bool} (enc : α → Dt) (c : α → Bool) (y : α → Dt) {zs : List α} (hi : it r = some (fl, zs.map enc)) (hl : zs.length ≤ 1000000) (h : ∀ z ∈ zs, ∃ r1, g (enc z) (wipeR r vs) = some r1 ∧ t r1 = some (c z) ∧ (c z = true → (e r1).bind vDat = some (y z))) :
    sLc vs it g t e r = some (.l .fr ((zs.filter c).map y)) := by
  have go : ∀ (zs : List α), (∀ z ∈ zs, ∃ r1, g (enc z) (wipeR r vs) = some r1 ∧ t r1 = some (c z) ∧ (c z = true → (e r1).bind vDat = some (y z))) → lcGo g t e (wipeR r vs) (zs.map enc) = some ((zs.filter c).map y) := by
    intro zs
    induction zs with
    | nil => exact fun _ => rfl
    | cons z zs ih =>
      intro h
      obtain ⟨r1, h1, h2, h3⟩ := h z (List.mem_cons_self ..)
      have ih := ih fun z hz => h z (List.mem_cons_of_mem _ hz)
      rw [List.map_cons, lcGo, h1, Option.bind_some, h2, Option.bind_some]
      cases hc : c z with
      | true => rw [if_pos rfl, h3 hc, Option.bind_some, ih, List.filter_cons_of_pos hc]; rfl
      | false => rw [if_neg (by decide), ih, List.filter_cons_of_neg (by rw [hc]; decide)]
  rw [ap_sLc, hi, Option.bind_some, if_pos (by rw [List.length_map]; exact hl), go zs h]
  rfl
theorem sLc_map {α : Type} {vs : List Nat} {it : SI} {g : SG} {e : SE} {r : Rho} {fl : Bool} (enc : α → Dt) (y : α → Dt) {zs : List α} (hi : it r = some (fl, zs.map enc)) (hl : zs.length ≤ 1000000) (h : ∀ z ∈ zs, ∃ r1, g (enc z) (wipeR r vs) = some r1 ∧ (e r1).bind vDat = some (y z)) :
    sLc vs it g bYes e r = some (.l .fr (zs.map y)) := by
  rw [ap_sLc_ev enc (fun _ => true) y hi hl fun z hz => by
    obtain ⟨r1, h1, h2⟩ := h z hz
    exact ⟨r1, h1, rfl, fun _ => h2⟩, List.filter_eq_self.mpr (fun _ _ => rfl)]
theorem sLc2_map {α β : Type} {vs vs1 : List Nat} {it it1 : SI} {g g1 : SG} {t1 : SB} {e : SE} {r : Rho} {fl : Bool} (enc : α → Dt) (enc1 : β → Dt) (ys : α → List β) (c : α → β → Bool) (y : α → β → Dt) {zs : List α} (hi : it r = some (fl, zs.map enc))
    (h : ∀ z ∈ zs, ∃ r1, g (enc z) (wipeR r vs) = some r1 ∧ it1 r1 = some (true, (ys z).map enc1) ∧ ∀ x ∈ ys z, ∃ r2, g1 (enc1 x) (wipeR r1 vs1) = some r2 ∧ t1 r2 = some (c z x) ∧ (c z x = true → (e r2).bind vDat = some (y z x)))
    (hl : (zs.flatMap fun z => ((ys z).filter (c z)).map (y z)).length ≤ 1000000) : sLc2 vs vs1 it g bYes it1 g1 t1 e r = some (.l .fr (zs.flatMap fun z => ((ys z).filter (c z)).map (y z))) := by
  have in1 : ∀ (z : α) (r1 : Rho) (xs : List β), (∀ x ∈ xs, ∃ r2, g1 (enc1 x) (wipeR r1 vs1) = some r2 ∧ t1 r2 = some (c z x) ∧ (c z x = true → (e r2).bind vDat = some (y z x))) → lcGo g1 t1 e (wipeR r1 vs1) (xs.map enc1) = some ((xs.filter (c z)).map (y z)) := by
    intro z r1 xs
    induction xs with
    | nil => exact fun _ => rfl
    | cons x xs ih =>
      intro h
      obtain ⟨r2, h1, h2, h3⟩ := h x (List.mem_cons_self ..)
      have ih := ih fun z hz => h z (List.mem_cons_of_mem _ hz)
      rw [List.map_cons, lcGo, h1, Option.bind_some, h2, Option.bind_some]
      cases hc : c z x with
      | true => rw [if_pos rfl, h3 hc, Option.bind_some, ih, List.filter_cons_of_pos hc]; rfl
      | false => rw [if_neg (by decide), ih, List.filter_cons_of_neg (by rw [hc]; decide)]
  have go : ∀ (zs : List α), (∀ z ∈ zs, ∃ r1, g (enc z) (wipeR r vs) = some r1 ∧ it1 r1 = some (true, (ys z).map enc1) ∧ ∀ x ∈ ys z, ∃ r2, g1 (enc1 x) (wipeR r1 vs1) = some r2 ∧ t1 r2 = some (c z x) ∧ (c z x = true → (e r2).bind vDat = some (y z x))) →
      lc2Go g bYes it1 vs1 g1 t1 e (wipeR r vs) (zs.map enc) = some (zs.flatMap fun z => ((ys z).filter (c z)).map (y z)) := by
    intro zs
    induction zs with
    | nil => exact fun _ => rfl
    | cons z zs ih =>
      intro h
      obtain ⟨r1, h1, h2, h3⟩ := h z (List.mem_cons_self ..)
      have ih := ih fun z hz => h z (List.mem_cons_of_mem _ hz)
      rw [List.map_cons, lc2Go, h1, Option.bind_some]
      simp only [bYes, Option.bind_some, if_true, h2, in1 z r1 (ys z) h3, ih, List.flatMap_cons, Option.map_some]
  rw [ap_sLc2, hi, Option.bind_some, go zs h, Option.bind_some, if_pos hl]
theorem kFor_ev {fz : List Nat} {it : SI} {g : SG} {b : SS} {r : Rho} {xs : List Dt} (hi : it (frz r fz) = some (true, xs)) : kFor fz it g b r = forGo g b xs (frz r fz) := by
  rw [ap_kFor, hi, Option.bind_some, if_pos rfl]
/-- a loop that goes through, its state typed -/
theorem forGo_fold {α σ : Type} {g : SG} {b : SS} (enc : α → Dt) (ρ : σ → Rho) (step : σ → α → σ) : ∀ {zs : List α} {s : σ} (P : σ → Prop), P s → (∀ s, P s → ∀ z ∈ zs, P (step s z) ∧ ((g (enc z) (ρ s)).bind b) = some (.nx (ρ (step s z)))) → forGo g b (zs.map enc) (ρ s) = some (.nx (ρ (zs.foldl step s))) ∧ P (zs.foldl step s)
  | [], s, P, hp, _ => ⟨rfl, hp⟩
  | z :: zs, s, P, hp, h => by
    obtain ⟨h1, h2⟩ := h s hp z (List.mem_cons_self ..)
    have ih := forGo_fold (zs := zs) enc ρ step P h1 fun s hs z hz => h s hs z (List.mem_cons_of_mem _ hz)
    refine ⟨?_, ih.2⟩
    rw [List.map_cons, forGo]
    cases hg : g (enc z) (ρ s) with
    | none => rw [hg] at h2; cases h2
    | some r1 =>
      rw [hg, Option.bind_some] at h2
      rw [Option.bind_some, h2, Option.bind_some]
      exact ih.1
/-! ### data -/
abbrev Lt := List ((Int × Int) × Int)
def pD (s : Int × Int) : Dt := Dt.p s.1 s.2
def lotD (n : Int) (es : Lt) : Dt := .tup [.int n, .tup (es.map itemD)]
theorem vInts_map : ∀ ns : List Int, vInts (ns.map .int) = some ns
  | [] => rfl
  | n :: ns => by rw [List.map_cons, vInts, vInts_map ns]; rfl
theorem vInts_f {α : Type} (f : α → Int) (xs : List α) : vInts (xs.map fun x => Dt.int (f x)) = some (xs.map f) := by
  have := vInts_map (xs.map f)
  rw [List.map_map] at this
  exact this
theorem vBls_f {α : Type} (f : α → Bool) : ∀ (xs : List α), vBls (xs.map fun x => Dt.bl (f x)) = some (xs.map f)
  | [] => rfl
  | x :: xs => by rw [List.map_cons, vBls, vBls_f f xs]; rfl
theorem all_work_eq (n : Int) (es : Lt) (h : es.length ≤ 1000000) : F_all_work [.d (lotD n es)] = some (.i (es.map (·.2)).sum) := by
  have h1 : ∀ r : Rho, r = [some (.d (lotD n es)), none, none] → sLc [1, 2] (iSeq (s2 oIxS (sVar 0) (sK (.i 1)))) (gTp [gNm 1, gNm 2]) bYes (sVar 2) r = some (.l .fr (es.map fun e => .int e.2)) := fun r hr => by
    subst hr
    exact sLc_map itemD _ (by rfl) h fun e _ => ⟨_, rfl, rfl⟩
  simp [F_all_work, ap_runP, g_all_work, ap_sVar, ap_sK, ap_s1, ap_s2, ap_s3, ap_pNo, ap_pYes, ap_sCut, ap_sTup, ap_sLst, ap_bOf, ap_bAnd, ap_bOr, ap_bNot, ap_sAnd, ap_sOr, ap_sNot, ap_sOrL, ap_sIf, ap_sCh2, ap_sCh3, ap_iSeq, ap_iEnum, ap_iZip2, ap_iZip3, ap_sListZip, ap_sDictE, ap_sDictZip, ap_gNm, ap_gTp, ap_bYes, ap_sCall, ap_sCall0, ap_xP, ap_xBP, ap_xBOf, ap_xBOr, ap_xBNot, ap_xIf, ap_x2, ap_xTup, ap_xCall, ap_xCallB, ap_xCallBP, ap_xIx, ap_sCallNew, ap_kNil, ap_kSeq, ap_kSet, ap_kPar, ap_kPar3, ap_kUnp, ap_kPutL, ap_kPutM, ap_kAug, ap_kApp, ap_kExpr, ap_kIf, ap_kNever, ap_kRet, ap_kRetX, vInt, vBl, vDat, vSeq, vDats, oAdd, oSub, oMul, oMod, oFdiv, oPow, oNeg, oLt, oLe, oGt, oGe, oEq, oNe, oIn, oNotIn, oIsN, oIs, oIxS, oIxM, oGet, oI, oB, seqE, seqX, argA, argsA, vFree, toSlot, toRet, owAt, slotAt, putL, cLen, cSum, cAll, cMin, cMin2, cMax2, cMax3, cAbs, cInt, cTuple, cList, cSortL, cSortM, isTup, isLst, isLT, isBl, isInt, isBS, notOw, gTps, boxAt, frz, oCut, oRev, wipeR, startR, h1, vInts_f]
def stz (n : Nat) : List (Int × Int) := (List.range n).flatMap fun (f : Nat) => (List.range (n - f)).map fun (j : Nat) => ((f : Int), (f : Int) + (j : Int))
theorem filt_true {α : Type} (xs : List α) : xs.filter (fun _ => true) = xs := List.filter_eq_self.mpr fun _ _ => rfl
/-- the hours one by one -/
theorem hours8 {n : Nat} (h : n ≤ 8) : n = 0 ∨ n = 1 ∨ n = 2 ∨ n = 3 ∨ n = 4 ∨ n = 5 ∨ n = 6 ∨ n = 7 ∨ n = 8 := by omega
theorem small_of {i : Int} (h1 : -1000000 ≤ i) (h2 : i ≤ 1000000) : small62 i := ⟨by omega, by omega⟩
theorem rangeD_map (lo : Int) (n : Nat) : rangeD lo n = (List.range n).map fun (i : Nat) => Dt.int (lo + (i : Int)) := rfl
theorem iRange1_ev {f : SE} {r : Rho} {n : Nat} (hf : (f r).bind vInt = some (n : Int)) (h : n ≤ 1000000) : iRange1 f r = some (true, (List.range n).map fun (i : Nat) => Dt.int (i : Int)) := by
  have h62 : small62 (n : Int) := small_of (by omega) (by omega)
  rw [ap_iRange1, hf, Option.bind_some, if_pos h62]
  simp [rangeD_map]
theorem iRange2_ev {f g : SE} {r : Rho} {i j : Int} {k : Nat} (hf : (f r).bind vInt = some i) (hg : (g r).bind vInt = some j) (hi : -1000000 ≤ i ∧ i ≤ 1000000) (hj : -1000000 ≤ j ∧ j ≤ 1000000) (hk : (j - i).toNat = k) : iRange2 f g r = some (true, (List.range k).map fun (m : Nat) => Dt.int (i + (m : Int))) := by
  rw [ap_iRange2, hf, Option.bind_some, hg, Option.bind_some, if_pos ⟨small_of hi.1 hi.2, small_of hj.1 hj.2⟩, hk, rangeD_map]
theorem all_stretches_eq (n : Nat) (h : n ≤ 8) : F_all_stretches [.i n] = some (.l .fr ((stz n).map pD)) := by
  have h1 : sLc2 [1, 2] [2] (iRange1 (sVar 0)) (gNm 1) bYes (iRange2 (sVar 1) (sVar 0)) (gNm 2) bYes (sTup [(sVar 1), (sVar 2)]) [some (.d (.int n)), none, none] = some (.l .fr ((stz n).map pD)) := by
    have := sLc2_map (vs := [1, 2]) (vs1 := [2]) (it := iRange1 (sVar 0)) (it1 := iRange2 (sVar 1) (sVar 0)) (g := gNm 1) (g1 := gNm 2) (t1 := bYes) (e := sTup [sVar 1, sVar 2]) (r := [some (.d (.int n)), none, none]) (fl := true) (fun (i : Nat) => Dt.int (i : Int)) (fun (i : Int) => Dt.int i)
      (fun (f : Nat) => (List.range (n - f)).map fun (j : Nat) => (f : Int) + (j : Int)) (fun _ _ => true) (fun f l => Dt.p f l) (zs := List.range n) (iRange1_ev rfl (by omega)) ?_ ?_
    · rw [this]
      simp [stz, List.map_flatMap, List.map_map, pD, Function.comp_def, filt_true]
    · intro f hf
      have hf := List.mem_range.mp hf
      refine ⟨_, rfl, ?_, fun x _ => ⟨_, rfl, rfl, fun _ => rfl⟩⟩
      rw [iRange2_ev (i := (f : Int)) (j := (n : Int)) (k := n - f) rfl rfl (by omega) (by omega) (by omega), List.map_map]
      rfl
    · rcases hours8 h with rfl | rfl | rfl | rfl | rfl | rfl | rfl | rfl | rfl <;> decide
  simp [F_all_stretches, ap_runP, g_all_stretches, ap_sVar, ap_sK, ap_s1, ap_s2, ap_s3, ap_pNo, ap_pYes, ap_sCut, ap_sTup, ap_sLst, ap_bOf, ap_bAnd, ap_bOr, ap_bNot, ap_sAnd, ap_sOr, ap_sNot, ap_sOrL, ap_sIf, ap_sCh2, ap_sCh3, ap_iSeq, ap_iEnum, ap_iZip2, ap_iZip3, ap_sListZip, ap_sDictE, ap_sDictZip, ap_gNm, ap_gTp, ap_bYes, ap_sCall, ap_sCall0, ap_xP, ap_xBP, ap_xBOf, ap_xBOr, ap_xBNot, ap_xIf, ap_x2, ap_xTup, ap_xCall, ap_xCallB, ap_xCallBP, ap_xIx, ap_sCallNew, ap_kNil, ap_kSeq, ap_kSet, ap_kPar, ap_kPar3, ap_kUnp, ap_kPutL, ap_kPutM, ap_kAug, ap_kApp, ap_kExpr, ap_kIf, ap_kNever, ap_kRet, ap_kRetX, vInt, vBl, vDat, vSeq, vDats, oAdd, oSub, oMul, oMod, oFdiv, oPow, oNeg, oLt, oLe, oGt, oGe, oEq, oNe, oIn, oNotIn, oIsN, oIs, oIxS, oIxM, oGet, oI, oB, seqE, seqX, argA, argsA, vFree, toSlot, toRet, owAt, slotAt, putL, cLen, cSum, cAll, cMin, cMin2, cMax2, cMax3, cAbs, cInt, cTuple, cList, cSortL, cSortM, isTup, isLst, isLT, isBl, isInt, isBS, notOw, gTps, boxAt, frz, oCut, oRev, wipeR, startR, h1]
end S67

/-! MB: the small defs. -/
namespace S67
def rowsN (n : Nat) : Nat := if n = 1 then 1 else (n + 3) / 2
theorem fewest_rows_eq (n : Nat) (h : n ≤ 8) : F_fewest_rows [.i n] = some (.i (rowsN n : Nat)) := by
  rcases hours8 h with rfl | rfl | rfl | rfl | rfl | rfl | rfl | rfl | rfl <;> rfl
/-- a row of prices, as a tuple or as a list -/
def pA (b : Bool) (ds : List Dt) : Av := if b = true then .d (.tup ds) else .l .ro ds
theorem vSeq_pA (b : Bool) (ds : List Dt) : vSeq (pA b ds) = some ds := by cases b <;> rfl
theorem argA_pA (b : Bool) (ds : List Dt) : argA (pA b ds) = some (pA b ds) := by cases b <;> rfl
theorem argsA2 {x y a b : Av} (h1 : argA x = some a) (h2 : argA y = some b) : argsA [x, y] = some [a, b] := by simp [argsA, h1, h2]
theorem argsA3 {x y z a b c : Av} (h1 : argA x = some a) (h2 : argA y = some b) (h3 : argA z = some c) : argsA [x, y, z] = some [a, b, c] := by simp [argsA, h1, h2, h3]
theorem call2_ev {F : FP} {f g : SE} {r : Rho} {x y a b : Av} {o : Option Av} (h1 : f r = some x) (h2 : g r = some y) (h3 : argA x = some a) (h4 : argA y = some b) (h : F [a, b] = o) : sCall F [f, g] r = o := by
  rw [ap_sCall]
  simp only [seqE, h1, h2, Option.bind_some, Option.map_some, argsA2 h3 h4, h]
theorem call1_ev {F : FP} {f : SE} {r : Rho} {x a : Av} {o : Option Av} (h1 : f r = some x) (h3 : argA x = some a) (h : F [a] = o) : sCall F [f] r = o := by
  rw [ap_sCall]
  simp only [seqE, h1, Option.bind_some, Option.map_some, argsA, h3, h]
theorem call3_ev {F : FP} {f g k : SE} {r : Rho} {x y z a b c : Av} {o : Option Av} (h1 : f r = some x) (h2 : g r = some y) (h2' : k r = some z) (h3 : argA x = some a) (h4 : argA y = some b) (h5 : argA z = some c) (h : F [a, b, c] = o) : sCall F [f, g, k] r = o := by
  rw [ap_sCall]
  simp only [seqE, h1, h2, h2', Option.bind_some, Option.map_some, argsA3 h3 h4 h5, h]
theorem sVar_pA (b : Bool) (ds : List Dt) (rest : Rho) : sVar 0 (some (pA b ds) :: rest) = some (pA b ds) := by cases b <;> rfl
theorem oCut_pA (b : Bool) (ds : List Dt) (lo hi : Option Int) : ∃ k : Av, oCut (pA b ds) lo hi = some k ∧ vSeq k = some (cutD ds lo hi) := by cases b <;> exact ⟨_, rfl, rfl⟩
theorem oIx_pA (b : Bool) (ds : List Dt) (i : Int) : oIxS (pA b ds) (.i i) = ((ixA ds.length i).bind fun j => ds[j]?).map .d := by cases b <;> rfl
theorem ixA_pos {n : Nat} {i : Int} (h0 : 0 ≤ i) (h1 : i < n) : ixA n i = some i.toNat := by rw [ixA, if_pos h0, if_pos h1]
/-- the price beside -/
def bes (p : List Int) (h : Int) : Int := if 0 ≤ h then p.getD h.toNat 0 else 0
theorem beside_eq (b : Bool) (p : List Int) (h : Int) : F_beside [pA b (p.map .int), .i h] = some (.i (bes p h)) := by
  have e : sIf (bOf (sCh2 oLe oLt (sK (.i 0)) (sVar 1) (s1 cLen (sVar 0)))) (s2 oIxS (sVar 0) (sVar 1)) (sK (.i 0)) [some (pA b (p.map .int)), some (.i h)] = some (.i (bes p h)) := by
    have e1 : s1 cLen (sVar 0) [some (pA b (p.map .int)), some (.i h)] = some (.i p.length) := by
      rw [ap_s1, sVar_pA, Option.bind_some, cLen, vSeq_pA]
      simp
    by_cases h0 : 0 ≤ h
    · by_cases h1 : h < p.length
      · have hh : h.toNat < p.length := by omega
        have e2 : s2 oIxS (sVar 0) (sVar 1) [some (pA b (p.map .int)), some (.i h)] = some (.i (bes p h)) := by
          rw [ap_s2, sVar_pA, Option.bind_some]
          show oIxS _ (.i h) = _
          rw [oIx_pA, ixA_pos h0 (by rw [List.length_map]; exact h1)]
          simp [bes, h0, List.getElem?_eq_getElem hh]
        rw [ap_sIf, ap_bOf, ap_sCh2]
        simp [ap_sK, oLe, oLt, oB, vInt, vBl, e1, e2, h0, h1, show sVar 1 [some (pA b (p.map .int)), some (.i h)] = some (.i h) from rfl]
      · rw [ap_sIf, ap_bOf, ap_sCh2]
        have : bes p h = 0 := by
          rw [bes, if_pos h0, List.getD_eq_getElem?_getD, List.getElem?_eq_none (by omega)]
          rfl
        simp [ap_sK, oLe, oLt, oB, vInt, vBl, e1, h0, h1, this, show sVar 1 [some (pA b (p.map .int)), some (.i h)] = some (.i h) from rfl]
    · rw [ap_sIf, ap_bOf, ap_sCh2]
      have : bes p h = 0 := by rw [bes, if_neg h0]
      simp [ap_sK, oLe, oLt, oB, vInt, vBl, e1, h0, this, show sVar 1 [some (pA b (p.map .int)), some (.i h)] = some (.i h) from rfl]
  simp only [F_beside, ap_runP, g_beside, ap_kRet, startR, List.map_cons, List.map_nil, List.length_cons, List.length_nil, List.replicate, List.append_nil, Nat.sub_self, Nat.reduceAdd, e, Option.bind_some, toRet, Option.map_some]
/-- the least price from f to l -/
def mn (p : List Int) (f l : Nat) : Int := match (p.drop f).take (l + 1 - f) with
  | [] => 0
  | x :: r => r.foldl min x
theorem cut_ints (p : List Int) (f l : Nat) (hfl : f ≤ l) (h : l < p.length) : cutD (p.map .int) (some (f : Int)) (some ((l : Int) + 1)) = (((p.drop f).take (l + 1 - f)).map .int) := by
  unfold cutD cutIx
  have e1 : ¬ ((f : Int) < 0) := by omega
  have e2 : ¬ ((l : Int) + 1 < 0) := by omega
  have e3 : ((l : Int) + 1).toNat = l + 1 := by omega
  simp only [e1, e2, if_false, e3, Int.toNat_natCast, List.length_map]
  rw [Nat.min_eq_left (by omega : f ≤ p.length), Nat.min_eq_left (by omega), ← List.map_drop, ← List.map_take]
theorem min_cut (b : Bool) (p : List Int) (f l : Nat) (hf : f ≤ l) (h : l < p.length) {r : Rho} {g1 g2 : SE} (h0 : sVar 0 r = some (pA b (p.map .int))) (h1 : g1 r = some (.i f)) (h2 : g2 r = some (.i ((l : Int) + 1))) : s1 cMin (sCut (sVar 0) (pYes g1) (pYes g2)) r = some (.i (mn p f l)) := by
  obtain ⟨k, e1, e2⟩ := oCut_pA b (p.map .int) (some (f : Int)) (some ((l : Int) + 1))
  rw [ap_s1, ap_sCut, h0, Option.bind_some, ap_pYes, h1, ap_pYes, h2]
  simp only [Option.bind_some, vInt, Option.map_some, e1, cMin, e2, cut_ints p f l hf h, vInts_map]
  unfold mn
  have hne : (p.drop f).take (l + 1 - f) ≠ [] := fun z => by
    have := congrArg List.length z
    rw [List.length_take, List.length_drop] at this
    simp only [List.length_nil] at this
    omega
  cases hq : (p.drop f).take (l + 1 - f) with
  | nil => exact absurd hq hne
  | cons x r => rfl
def wtOf (p : List Int) (s : Int × Int) : Int := mn p s.1.toNat s.2.toNat - max (bes p (s.1 - 1)) (bes p (s.2 + 1))
theorem weight_of_eq (b : Bool) (p : List Int) (f l : Nat) (hf : f ≤ l) (h : l < p.length) : F_weight_of [pA b (p.map .int), .i f, .i l] = some (.i (wtOf p (f, l))) := by
  have h0 : ∀ rest : Rho, sVar 0 (some (pA b (p.map .int)) :: rest) = some (pA b (p.map .int)) := sVar_pA b _
  have e1 := min_cut b p f l hf h (r := [some (pA b (p.map .int)), some (.i f), some (.i l)]) (g1 := sVar 1) (g2 := s2 oAdd (sVar 2) (sK (.i 1))) (h0 _) rfl rfl
  have e2 : sCall F_beside [(sVar 0), (s2 oSub (sVar 1) (sK (.i 1)))] [some (pA b (p.map .int)), some (.i f), some (.i l)] = some (.i (bes p (f - 1))) := call2_ev (h0 _) rfl (argA_pA _ _) rfl (beside_eq b p _)
  have e3 : sCall F_beside [(sVar 0), (s2 oAdd (sVar 2) (sK (.i 1)))] [some (pA b (p.map .int)), some (.i f), some (.i l)] = some (.i (bes p (l + 1))) := call2_ev (h0 _) rfl (argA_pA _ _) rfl (beside_eq b p _)
  simp [F_weight_of, ap_runP, g_weight_of, ap_kRet, startR, ap_s2, e1, e2, e3, cMax2, oI, vInt, oSub, toRet, wtOf]
theorem check_fit_eq (n : Int) (es : Lt) (b : Bool) (p : List Int) (h : (p.length : Int) = n) : F_check_fit [.d (lotD n es), pA b (p.map .int)] = some (.d .non) := by
  cases b <;> simp [F_check_fit, ap_runP, g_check_fit, ap_sVar, ap_sK, ap_s1, ap_s2, ap_s3, ap_pNo, ap_pYes, ap_sCut, ap_sTup, ap_sLst, ap_bOf, ap_bAnd, ap_bOr, ap_bNot, ap_sAnd, ap_sOr, ap_sNot, ap_sOrL, ap_sIf, ap_sCh2, ap_sCh3, ap_iSeq, ap_iEnum, ap_iZip2, ap_iZip3, ap_sListZip, ap_sDictE, ap_sDictZip, ap_gNm, ap_gTp, ap_bYes, ap_sCall, ap_sCall0, ap_xP, ap_xBP, ap_xBOf, ap_xBOr, ap_xBNot, ap_xIf, ap_x2, ap_xTup, ap_xCall, ap_xCallB, ap_xCallBP, ap_xIx, ap_sCallNew, ap_kNil, ap_kSeq, ap_kSet, ap_kPar, ap_kPar3, ap_kUnp, ap_kPutL, ap_kPutM, ap_kAug, ap_kApp, ap_kExpr, ap_kIf, ap_kNever, ap_kRet, ap_kRetX, vInt, vBl, vDat, vSeq, vDats, oAdd, oSub, oMul, oMod, oFdiv, oPow, oNeg, oLt, oLe, oGt, oGe, oEq, oNe, oIn, oNotIn, oIsN, oIs, oIxS, oIxM, oGet, oI, oB, seqE, seqX, argA, argsA, vFree, toSlot, toRet, owAt, slotAt, putL, cLen, cSum, cAll, cMin, cMin2, cMax2, cMax3, cAbs, cInt, cTuple, cList, cSortL, cSortM, isTup, isLst, isLT, isBl, isInt, isBS, notOw, gTps, boxAt, frz, oCut, oRev, wipeR, startR, pA, lotD, eqA, dpt, eqD, ixA, h]
end S67

/-! MC: weights, bills, asked. -/
namespace S67
theorem mem_stz {n : Nat} {s : Int × Int} : s ∈ stz n ↔ 0 ≤ s.1 ∧ s.1 ≤ s.2 ∧ s.2 < n := by
  unfold stz
  simp only [List.mem_flatMap, List.mem_range, List.mem_map]
  constructor
  · rintro ⟨f, hf, j, hj, rfl⟩
    simp only
    omega
  · rintro ⟨h1, h2, h3⟩
    refine ⟨s.1.toNat, by omega, (s.2 - s.1).toNat, by omega, ?_⟩
    apply Prod.ext <;> simp only <;> omega
theorem stz_len {n : Nat} (h : n ≤ 8) : (stz n).length ≤ 36 := by
  rcases hours8 h with rfl | rfl | rfl | rfl | rfl | rfl | rfl | rfl | rfl <;> decide
def wts (p : List Int) : Lt := ((stz p.length).filter (fun s => decide (0 < wtOf p s))).map fun s => (s, wtOf p s)
theorem src_all {n : Nat} (h : n ≤ 8) {f : SE} {r : Rho} (hf : f r = some (.i n)) : iSeq (sCall F_all_stretches [f]) r = some (true, (stz n).map pD) := by
  rw [ap_iSeq, call1_ev hf rfl (all_stretches_eq n h)]
  rfl
theorem cLen_pA (b : Bool) (p : List Int) (rest : Rho) : s1 cLen (sVar 0) (some (pA b (p.map .int)) :: rest) = some (.i p.length) := by
  rw [ap_s1, sVar_pA, Option.bind_some, cLen, vSeq_pA]
  simp
theorem weights_of_eq (b : Bool) (p : List Int) (h : p.length ≤ 8) : F_weights_of [pA b (p.map .int)] = some (.d (.tup ((wts p).map itemD))) := by
  have e1 : sLc [2] (iSeq (sCall F_all_stretches [(s1 cLen (sVar 0))])) (gNm 2) bYes (sTup [(sVar 2), (sCall F_weight_of [(sVar 0), (s2 oIxS (sVar 2) (sK (.i 0))), (s2 oIxS (sVar 2) (sK (.i 1)))])]) [some (pA b (p.map .int)), none, none, none]
      = some (.l .fr ((stz p.length).map fun s => itemD (s, wtOf p s))) := by
    refine sLc_map pD _ (src_all h (cLen_pA b p _)) (Nat.le_trans (stz_len h) (by decide)) fun s hs => ⟨_, rfl, ?_⟩
    obtain ⟨h1, h2, h3⟩ := mem_stz.mp hs
    have w := weight_of_eq b p s.1.toNat s.2.toNat (by omega) (by omega)
    have a1 : ((s.1.toNat : Nat) : Int) = s.1 := by omega
    have a2 : ((s.2.toNat : Nat) : Int) = s.2 := by omega
    rw [a1, a2] at w
    have e : sCall F_weight_of [(sVar 0), (s2 oIxS (sVar 2) (sK (.i 0))), (s2 oIxS (sVar 2) (sK (.i 1)))] [some (pA b (p.map .int)), none, some (.d (pD s)), none] = some (.i (wtOf p s)) := call3_ev (sVar_pA _ _ _) rfl rfl (argA_pA _ _) rfl rfl w
    rw [ap_sTup]
    simp only [wipeR, List.set_cons_succ, List.set_cons_zero, seqE, e, show sVar 2 [some (pA b (p.map .int)), none, some (.d (pD s)), none] = some (.d (pD s)) from rfl, Option.bind_some, Option.map_some, vDats, vDat]
    rfl
  have e2 : sLc [2, 3] (iSeq (sVar 1)) (gTp [(gNm 2), (gNm 3)]) (bOf (s2 oGt (sVar 3) (sK (.i 0)))) (sTup [(sVar 2), (sVar 3)]) [some (pA b (p.map .int)), some (.l .ow ((stz p.length).map fun s => itemD (s, wtOf p s))), none, none] = some (.l .fr ((wts p).map itemD)) := by
    rw [ap_sLc_ev (fl := false) (fun s => itemD (s, wtOf p s)) (fun s => decide (0 < wtOf p s)) (fun s => itemD (s, wtOf p s)) (by rfl) (Nat.le_trans (stz_len h) (by decide)) fun s hs => ⟨_, rfl, rfl, fun _ => rfl⟩]
    rw [wts, List.map_map]
    rfl
  have e3 : kSet 1 (xP (sLc [2] (iSeq (sCall F_all_stretches [(s1 cLen (sVar 0))])) (gNm 2) bYes (sTup [(sVar 2), (sCall F_weight_of [(sVar 0), (s2 oIxS (sVar 2) (sK (.i 0))), (s2 oIxS (sVar 2) (sK (.i 1)))])]))) [some (pA b (p.map .int)), none, none, none]
      = some (.nx [some (pA b (p.map .int)), some (.l .ow ((stz p.length).map fun s => itemD (s, wtOf p s))), none, none]) := by
    rw [ap_kSet, ap_xP, e1]
    rfl
  rw [F_weights_of, ap_runP, g_weights_of, ap_kSeq]
  show Option.map _ ((kSet 1 _ [some (pA b (p.map .int)), none, none, none]).bind _) = _
  rw [e3, Option.bind_some]
  simp only [ap_kRet, ap_s1, e2, Option.bind_some, cTuple, toRet, Option.map_some]
theorem lies_eq (a b c d : Int) : F_lies_within [.d (Dt.p a b), .d (Dt.p c d)] = some (.b (decide (c ≤ a) && decide (b ≤ d))) := by
  by_cases h : c ≤ a <;> simp [F_lies_within, ap_runP, g_lies_within, ap_sVar, ap_sK, ap_s1, ap_s2, ap_s3, ap_pNo, ap_pYes, ap_sCut, ap_sTup, ap_sLst, ap_bOf, ap_bAnd, ap_bOr, ap_bNot, ap_sAnd, ap_sOr, ap_sNot, ap_sOrL, ap_sIf, ap_sCh2, ap_sCh3, ap_iSeq, ap_iEnum, ap_iZip2, ap_iZip3, ap_sListZip, ap_sDictE, ap_sDictZip, ap_gNm, ap_gTp, ap_bYes, ap_sCall, ap_sCall0, ap_xP, ap_xBP, ap_xBOf, ap_xBOr, ap_xBNot, ap_xIf, ap_x2, ap_xTup, ap_xCall, ap_xCallB, ap_xCallBP, ap_xIx, ap_sCallNew, ap_kNil, ap_kSeq, ap_kSet, ap_kPar, ap_kPar3, ap_kUnp, ap_kPutL, ap_kPutM, ap_kAug, ap_kApp, ap_kExpr, ap_kIf, ap_kNever, ap_kRet, ap_kRetX, vInt, vBl, vDat, vSeq, vDats, oAdd, oSub, oMul, oMod, oFdiv, oPow, oNeg, oLt, oLe, oGt, oGe, oEq, oNe, oIn, oNotIn, oIsN, oIs, oIxS, oIxM, oGet, oI, oB, seqE, seqX, argA, argsA, vFree, toSlot, toRet, owAt, slotAt, putL, cLen, cSum, cAll, cMin, cMin2, cMax2, cMax3, cAbs, cInt, cTuple, cList, cSortL, cSortM, isTup, isLst, isLT, isBl, isInt, isBS, notOw, gTps, boxAt, frz, oCut, oRev, wipeR, startR, ixA, h]
theorem check_stretch_eq (n f l : Int) (h1 : 0 ≤ f) (h2 : f ≤ l) (h3 : l < n) : F_check_stretch [.i n, .i f, .i l] = some (.d .non) := by
  simp [F_check_stretch, ap_runP, g_check_stretch, ap_sVar, ap_sK, ap_s1, ap_s2, ap_s3, ap_pNo, ap_pYes, ap_sCut, ap_sTup, ap_sLst, ap_bOf, ap_bAnd, ap_bOr, ap_bNot, ap_sAnd, ap_sOr, ap_sNot, ap_sOrL, ap_sIf, ap_sCh2, ap_sCh3, ap_iSeq, ap_iEnum, ap_iZip2, ap_iZip3, ap_sListZip, ap_sDictE, ap_sDictZip, ap_gNm, ap_gTp, ap_bYes, ap_sCall, ap_sCall0, ap_xP, ap_xBP, ap_xBOf, ap_xBOr, ap_xBNot, ap_xIf, ap_x2, ap_xTup, ap_xCall, ap_xCallB, ap_xCallBP, ap_xIx, ap_sCallNew, ap_kNil, ap_kSeq, ap_kSet, ap_kPar, ap_kPar3, ap_kUnp, ap_kPutL, ap_kPutM, ap_kAug, ap_kApp, ap_kExpr, ap_kIf, ap_kNever, ap_kRet, ap_kRetX, vInt, vBl, vDat, vSeq, vDats, oAdd, oSub, oMul, oMod, oFdiv, oPow, oNeg, oLt, oLe, oGt, oGe, oEq, oNe, oIn, oNotIn, oIsN, oIs, oIxS, oIxM, oGet, oI, oB, seqE, seqX, argA, argsA, vFree, toSlot, toRet, owAt, slotAt, putL, cLen, cSum, cAll, cMin, cMin2, cMax2, cMax3, cAbs, cInt, cTuple, cList, cSortL, cSortM, isTup, isLst, isLT, isBl, isInt, isBS, notOw, gTps, boxAt, frz, oCut, oRev, wipeR, startR, h1, h2, h3]
def askE (es : Lt) (f l : Int) : Int := ((es.filter fun e => decide (f ≤ e.1.1) && decide (e.1.2 ≤ l)).map (·.2)).sum
theorem asked_eq (n : Int) (es : Lt) (f l : Int) (hl : es.length ≤ 1000000) (h1 : 0 ≤ f) (h2 : f ≤ l) (h3 : l < n) : F_asked [.d (lotD n es), .i f, .i l] = some (.i (askE es f l)) := by
  have e0 : sCall F_check_stretch [(s2 oIxS (sVar 0) (sK (.i 0))), (sVar 1), (sVar 2)] [some (.d (lotD n es)), some (.i f), some (.i l), none, none] = some (.d .non) := call3_ev rfl rfl rfl rfl rfl rfl (check_stretch_eq n f l h1 h2 h3)
  have e1 : sLc [3, 4] (iSeq (s2 oIxS (sVar 0) (sK (.i 1)))) (gTp [(gNm 3), (gNm 4)]) (bOf (sCall F_lies_within [(sVar 3), (sTup [(sVar 1), (sVar 2)])])) (sVar 4) [some (.d (lotD n es)), some (.i f), some (.i l), none, none]
      = some (.l .fr ((es.filter fun e => decide (f ≤ e.1.1) && decide (e.1.2 ≤ l)).map fun e => .int e.2)) := by
    refine ap_sLc_ev (fl := true) itemD _ _ rfl hl fun e he => ⟨_, rfl, ?_, fun _ => rfl⟩
    rw [ap_bOf, call2_ev (F := F_lies_within) rfl rfl rfl rfl (lies_eq e.1.1 e.1.2 f l)]
    rfl
  rw [F_asked, ap_runP, g_asked, ap_kSeq, ap_kExpr]
  show Option.map _ (((sCall F_check_stretch _ [some (.d (lotD n es)), some (.i f), some (.i l), none, none]).map _).bind _) = _
  rw [e0]
  simp only [Option.map_some, Option.bind_some, ap_kRet, ap_s1]
  show Option.map _ (((((sLc _ _ _ _ _ [some (.d (lotD n es)), some (.i f), some (.i l), none, none])).bind cSum).bind toRet).map _) = _
  rw [e1, Option.bind_some, cSum, vInts_f]
  rfl
theorem table_of_eq (n : Nat) (es : Lt) (h : n ≤ 8) (hl : es.length ≤ 1000000) : F_table_of [.d (lotD n es)] = some (.d (.tup ((stz n).map fun s => .int (askE es s.1 s.2)))) := by
  have e1 : sLc [1, 2] (iSeq (sCall F_all_stretches [(s2 oIxS (sVar 0) (sK (.i 0)))])) (gTp [(gNm 1), (gNm 2)]) bYes (sCall F_asked [(sVar 0), (sVar 1), (sVar 2)]) [some (.d (lotD n es)), none, none] = some (.l .fr ((stz n).map fun s => .int (askE es s.1 s.2))) := by
    refine sLc_map pD _ (src_all h rfl) (Nat.le_trans (stz_len h) (by decide)) fun s hs => ⟨_, rfl, ?_⟩
    obtain ⟨h1, h2, h3⟩ := mem_stz.mp hs
    rw [call3_ev (F := F_asked) rfl rfl rfl rfl rfl rfl (asked_eq n es s.1 s.2 hl h1 h2 h3)]
    rfl
  rw [F_table_of, ap_runP, g_table_of, ap_kRet, ap_s1]
  show Option.map _ ((((sLc _ _ _ _ _ [some (.d (lotD n es)), none, none]).bind cTuple).bind toRet).map _) = _
  rw [e1]
  rfl
theorem seen_eq (b : Bool) (p : List Int) (h : p.length ≤ 8) : F_seen [pA b (p.map .int)] = some (.d (.tup ((wts p).map fun e => pD e.1))) := by
  have hw : (wts p).length ≤ 1000000 := by
    rw [wts, List.length_map]
    exact Nat.le_trans (List.length_filter_le _ _) (Nat.le_trans (stz_len h) (by decide))
  have e1 : sLc [1, 2] (iSeq (sCall F_weights_of [(sVar 0)])) (gTp [(gNm 1), (gNm 2)]) bYes (sVar 1) [some (pA b (p.map .int)), none, none] = some (.l .fr ((wts p).map fun e => pD e.1)) := by
    refine sLc_map (fl := true) itemD _ ?_ hw fun e he => ⟨_, rfl, rfl⟩
    rw [ap_iSeq, call1_ev (sVar_pA b _ _) (argA_pA _ _) (weights_of_eq b p h)]
    rfl
  rw [F_seen, ap_runP, g_seen, ap_kRet, ap_s1]
  show Option.map _ ((((sLc _ _ _ _ _ [some (pA b (p.map .int)), none, none]).bind cTuple).bind toRet).map _) = _
  rw [e1]
  rfl
end S67

/-! MD: bills, what is seen. -/
namespace S67
theorem runP_rt {n : Nat} {b : SS} {as : List Av} {r : Rho} {a : Av} (h : b (startR n as) = some (.rt r a)) : runP n b as = some a := by rw [ap_runP, h]; rfl
theorem runP_nx {n : Nat} {b : SS} {as : List Av} {r : Rho} (h : b (startR n as) = some (.nx r)) : runP n b as = some (.d .non) := by rw [ap_runP, h]; rfl
theorem kSeq_nx {s t : SS} {r r1 : Rho} {o : Option Out} (h : s r = some (.nx r1)) (h2 : t r1 = o) : kSeq s t r = o := by rw [ap_kSeq, h]; exact h2
theorem kSeq_rt {s t : SS} {r r1 : Rho} {a : Av} (h : s r = some (.rt r1 a)) : kSeq s t r = some (.rt r1 a) := by rw [ap_kSeq, h]; rfl
theorem kSet_p {i : Nat} {f : SE} {r : Rho} {a b : Av} (h : f r = some a) (h2 : (vFree a).bind toSlot = some b) : kSet i (xP f) r = some (.nx (r.set i (some b))) := by
  rw [ap_kSet, ap_xP, h]
  cases hv : vFree a with
  | none => rw [hv] at h2; cases h2
  | some c =>
    rw [hv] at h2
    simp only [Option.bind_some, hv, Option.map_some] at h2 ⊢
    rw [h2]
    rfl
theorem kRet_ev {f : SE} {r : Rho} {a b : Av} (h : f r = some a) (h2 : toRet a = some b) : kRet f r = some (.rt r b) := by rw [ap_kRet, h, Option.bind_some, h2]; rfl
theorem kExpr_ev {f : SE} {r : Rho} {a : Av} (h : f r = some a) : kExpr f r = some (.nx r) := by rw [ap_kExpr, h]; rfl
theorem s1_ev {g : Av → Option Av} {f : SE} {r : Rho} {a : Av} {o : Option Av} (h : f r = some a) (h2 : g a = o) : s1 g f r = o := by rw [ap_s1, h]; exact h2
theorem s2_ev {g : Av → Av → Option Av} {f k : SE} {r : Rho} {a b : Av} {o : Option Av} (h : f r = some a) (h1 : k r = some b) (h2 : g a b = o) : s2 g f k r = o := by rw [ap_s2, h, Option.bind_some, h1]; exact h2
theorem kIf_p {t : SB} {a b : SS} {r : Rho} {c : Bool} {o : Option Out} (h : t r = some c) (h2 : (if c = true then a r else b r) = o) : kIf (xBP t) a b r = o := by rw [ap_kIf, ap_xBP, h]; exact h2
theorem sIf_ev {t : SB} {f g : SE} {r : Rho} {c : Bool} {o : Option Av} (h : t r = some c) (h2 : (if c = true then f r else g r) = o) : sIf t f g r = o := by rw [ap_sIf, h]; exact h2
theorem bOf_ev {f : SE} {r : Rho} {c : Bool} (h : f r = some (.b c)) : bOf f r = some c := by rw [ap_bOf, h]; rfl
theorem log2_le {x k : Nat} (h : x < 2 ^ k) : x.log2 ≤ k := by
  by_cases h0 : x = 0
  · subst h0; simp
  · exact Nat.le_of_lt ((Nat.log2_lt h0).mpr h)
theorem mulOk_bits {i j : Int} (a b : Nat) (h1 : i.natAbs < 2 ^ a) (h2 : j.natAbs < 2 ^ b) (h : a + b < 1000000) : mulOk i j := by
  have e1 := log2_le h1
  have e2 := log2_le h2
  exact .inr (.inr (by omega))
def tupI (p : List Int) : Dt := .tup (p.map .int)
/-- the cost of a lot at prices -/
def chp (es : Lt) (p : List Int) : Int := (es.map fun e => e.2 * mn p e.1.1.toNat e.1.2.toNat).sum
/-- the windows stand within the day -/
def InDay (n : Nat) (es : Lt) : Prop := ∀ e ∈ es, 0 ≤ e.1.1 ∧ e.1.1 ≤ e.1.2 ∧ e.1.2 < n
def MulOks (es : Lt) (p : List Int) : Prop := ∀ e ∈ es, mulOk e.2 (mn p e.1.1.toNat e.1.2.toNat)
theorem min_cut1 (b : Bool) (p : List Int) (f l : Nat) (hf : f ≤ l) (h : l < p.length) {r : Rho} {g0 g1 g2 : SE} (h0 : g0 r = some (pA b (p.map .int))) (h1 : g1 r = some (.i f)) (h2 : g2 r = some (.i ((l : Int) + 1))) : s1 cMin (sCut g0 (pYes g1) (pYes g2)) r = some (.i (mn p f l)) := by
  have := min_cut b p f l hf h (r := [some (pA b (p.map .int)), some (.i f), some (.i ((l : Int) + 1))]) (g1 := sVar 1) (g2 := sVar 2) (sVar_pA _ _ _) rfl rfl
  rw [ap_s1, ap_sCut, h0, ap_pYes, h1, ap_pYes, h2]
  rw [ap_s1, ap_sCut, sVar_pA] at this
  exact this
theorem sVar1_pA (b : Bool) (ds : List Dt) (x : Option Av) (rest : Rho) : sVar 1 (x :: some (pA b ds) :: rest) = some (pA b ds) := by cases b <;> rfl
theorem cheapest_eq (n : Nat) (es : Lt) (b : Bool) (p : List Int) (hl : es.length ≤ 1000000) (hp : p.length = n) (hd : InDay n es) (hm : MulOks es p) : F_cheapest [.d (lotD n es), pA b (p.map .int)] = some (.i (chp es p)) := by
  have e0 : sCall F_check_fit [(sVar 0), (sVar 1)] [some (.d (lotD n es)), some (pA b (p.map .int)), none, none, none] = some (.d .non) := call2_ev rfl (sVar1_pA _ _ _ _) rfl (argA_pA _ _) (check_fit_eq n es b p (by rw [hp]))
  have e1 : sLc [2, 3, 4] (iSeq (s2 oIxS (sVar 0) (sK (.i 1)))) (gTp [(gTp [(gNm 3), (gNm 4)]), (gNm 2)]) bYes (s2 oMul (sVar 2) (s1 cMin (sCut (sVar 1) (pYes (sVar 3)) (pYes (s2 oAdd (sVar 4) (sK (.i 1))))))) [some (.d (lotD n es)), some (pA b (p.map .int)), none, none, none]
      = some (.l .fr (es.map fun e => .int (e.2 * mn p e.1.1.toNat e.1.2.toNat))) := by
    refine sLc_map (fl := true) itemD _ rfl hl fun e he => ⟨_, rfl, ?_⟩
    obtain ⟨h1, h2, h3⟩ := hd e he
    have a1 : ((e.1.1.toNat : Nat) : Int) = e.1.1 := by omega
    have a2 : ((e.1.2.toNat : Nat) : Int) = e.1.2 := by omega
    have w := min_cut1 b p e.1.1.toNat e.1.2.toNat (by omega) (by omega) (r := [some (.d (lotD n es)), some (pA b (p.map .int)), some (.i e.2), some (.i e.1.1), some (.i e.1.2)]) (g0 := sVar 1) (g1 := sVar 3) (g2 := s2 oAdd (sVar 4) (sK (.i 1))) (sVar1_pA _ _ _ _) (by rw [a1]; rfl) (by rw [a2]; rfl)
    show ((s2 oMul (sVar 2) (s1 cMin (sCut (sVar 1) (pYes (sVar 3)) (pYes (s2 oAdd (sVar 4) (sK (.i 1)))))) [some (.d (lotD n es)), some (pA b (p.map .int)), some (.i e.2), some (.i e.1.1), some (.i e.1.2)]).bind vDat) = _
    rw [ap_s2, w]
    show ((oMul (.i e.2) (.i _)).bind vDat) = _
    rw [oMul, if_pos (hm e he)]
    rfl
  rw [F_cheapest, ap_runP, g_cheapest, ap_kSeq, ap_kExpr]
  show Option.map _ (((sCall F_check_fit _ [some (.d (lotD n es)), some (pA b (p.map .int)), none, none, none]).map _).bind _) = _
  rw [e0]
  simp only [Option.map_some, Option.bind_some, ap_kRet, ap_s1]
  show Option.map _ (((((sLc _ _ _ _ _ [some (.d (lotD n es)), some (pA b (p.map .int)), none, none, none])).bind cSum).bind toRet).map _) = _
  rw [e1, Option.bind_some, cSum, vInts_f]
  rfl
theorem bills_of_eq (n : Nat) (es : Lt) (ps : List (List Int)) (hn : ps.length ≤ 1000000) (hl : es.length ≤ 1000000) (hp : ∀ p ∈ ps, p.length = n) (hd : InDay n es) (hm : ∀ p ∈ ps, MulOks es p) : F_bills_of [.d (lotD n es), .d (.tup (ps.map tupI))] = some (.d (.tup (ps.map fun p => .int (chp es p)))) := by
  have e1 : sLc [2] (iSeq (sVar 1)) (gNm 2) bYes (sCall F_cheapest [(sVar 0), (sVar 2)]) [some (.d (lotD n es)), some (.d (.tup (ps.map tupI))), none] = some (.l .fr (ps.map fun p => .int (chp es p))) := by
    refine sLc_map (fl := true) tupI _ rfl hn fun p hp' => ⟨_, rfl, ?_⟩
    rw [call2_ev (F := F_cheapest) rfl rfl rfl rfl (cheapest_eq n es true p hl (hp p hp') hd (hm p hp'))]
    rfl
  rw [F_bills_of, ap_runP, g_bills_of, ap_kRet, ap_s1]
  show Option.map _ ((((sLc _ _ _ _ _ [some (.d (lotD n es)), some (.d (.tup (ps.map tupI))), none]).bind cTuple).bind toRet).map _) = _
  rw [e1]
  rfl
/-! ### what is seen -/
mutual
/-- ints in tuples: equal as Python has it is equal -/
def plainD : Dt → Bool
  | .int _ => true
  | .tup ds => plainDs ds
  | _ => false
def plainDs : List Dt → Bool
  | [] => true
  | d :: ds => plainD d && plainDs ds
end
mutual
theorem eqD_iff : ∀ (a b : Dt), plainD a = true → plainD b = true → (eqD a b = true ↔ a = b)
  | .int i, .int j, _, _ => by simp [eqD]
  | .int i, .tup ds, _, _ => by simp [eqD]
  | .tup ds, .int i, _, _ => by simp [eqD]
  | .tup xs, .tup ys, h1, h2 => by
    rw [eqD, eqDs_iff xs ys (by simpa [plainD] using h1) (by simpa [plainD] using h2)]
    simp
  | .non, _, h, _ => by simp [plainD] at h
  | .bl _, _, h, _ => by simp [plainD] at h
  | .str _, _, h, _ => by simp [plainD] at h
  | .int _, .non, _, h => by simp [plainD] at h
  | .int _, .bl _, _, h => by simp [plainD] at h
  | .int _, .str _, _, h => by simp [plainD] at h
  | .tup _, .non, _, h => by simp [plainD] at h
  | .tup _, .bl _, _, h => by simp [plainD] at h
  | .tup _, .str _, _, h => by simp [plainD] at h
theorem eqDs_iff : ∀ (a b : List Dt), plainDs a = true → plainDs b = true → (eqDs a b = true ↔ a = b)
  | [], [], _, _ => by simp [eqDs]
  | [], _ :: _, _, _ => by simp [eqDs]
  | _ :: _, [], _, _ => by simp [eqDs]
  | x :: xs, y :: ys, h1, h2 => by
    simp only [plainDs, Bool.and_eq_true] at h1 h2
    rw [eqDs, Bool.and_eq_true, eqD_iff x y h1.1 h2.1, eqDs_iff xs ys h1.2 h2.2, List.cons.injEq]
end
theorem plain_pD (s : Int × Int) : plainD (pD s) = true := rfl
theorem pD_inj {a b : Int × Int} (h : pD a = pD b) : a = b := by
  simp only [pD, Dt.p, Dt.tup.injEq, List.cons.injEq, Dt.int.injEq, and_true] at h
  exact Prod.ext h.1 h.2
theorem eqD_pD (a b : Int × Int) : eqD (pD a) (pD b) = decide (a = b) := by
  rw [Bool.eq_iff_iff, eqD_iff _ _ (plain_pD a) (plain_pD b), decide_eq_true_iff]
  exact ⟨pD_inj, fun h => by rw [h]⟩
theorem check_rows_eq (n : Nat) (ps : List (List Int)) (hp : ∀ p ∈ ps, p.length = n) : F_check_rows [.i n, .d (.tup (ps.map tupI))] = some (.d .non) := by
  have go : ∀ (qs : List (List Int)) (s : Option Av), (∀ p ∈ qs, p.length = n) → ∃ s', forGo (gNm 2) (kIf (xBP (bOf (s2 oNe (s1 cLen (sVar 2)) (sVar 0)))) kNever kNil) (qs.map tupI) [some (.i n), some (.d (.tup (ps.map tupI))), s] = some (.nx [some (.i n), some (.d (.tup (ps.map tupI))), s']) := by
    intro qs
    induction qs with
    | nil => exact fun s _ => ⟨s, rfl⟩
    | cons q qs ih =>
      intro s h
      obtain ⟨s', hs⟩ := ih (some (.d (tupI q))) fun p hp => h p (List.mem_cons_of_mem _ hp)
      refine ⟨s', ?_⟩
      have hq := h q (List.mem_cons_self ..)
      rw [List.map_cons, forGo]
      show Option.bind (some ([some (.i n), some (.d (.tup (ps.map tupI))), some (.d (tupI q))] : Rho)) _ = _
      rw [Option.bind_some]
      have e : kIf (xBP (bOf (s2 oNe (s1 cLen (sVar 2)) (sVar 0)))) kNever kNil [some (.i n), some (.d (.tup (ps.map tupI))), some (.d (tupI q))] = some (.nx [some (.i n), some (.d (.tup (ps.map tupI))), some (.d (tupI q))]) := by
        simp [ap_sVar, ap_sK, ap_s1, ap_s2, ap_s3, ap_pNo, ap_pYes, ap_sCut, ap_sTup, ap_sLst, ap_bOf, ap_bAnd, ap_bOr, ap_bNot, ap_sAnd, ap_sOr, ap_sNot, ap_sOrL, ap_sIf, ap_sCh2, ap_sCh3, ap_iSeq, ap_iEnum, ap_iZip2, ap_iZip3, ap_sListZip, ap_sDictE, ap_sDictZip, ap_gNm, ap_gTp, ap_bYes, ap_sCall, ap_sCall0, ap_xP, ap_xBP, ap_xBOf, ap_xBOr, ap_xBNot, ap_xIf, ap_x2, ap_xTup, ap_xCall, ap_xCallB, ap_xCallBP, ap_xIx, ap_sCallNew, ap_kNil, ap_kSeq, ap_kSet, ap_kPar, ap_kPar3, ap_kUnp, ap_kPutL, ap_kPutM, ap_kAug, ap_kApp, ap_kExpr, ap_kIf, ap_kNever, ap_kRet, ap_kRetX, vInt, vBl, vDat, vSeq, vDats, oAdd, oSub, oMul, oMod, oFdiv, oPow, oNeg, oLt, oLe, oGt, oGe, oEq, oNe, oIn, oNotIn, oIsN, oIs, oIxS, oIxM, oGet, oI, oB, seqE, seqX, argA, argsA, vFree, toSlot, toRet, owAt, slotAt, putL, cLen, cSum, cAll, cMin, cMin2, cMax2, cMax3, cAbs, cInt, cTuple, cList, cSortL, cSortM, isTup, isLst, isLT, isBl, isInt, isBS, notOw, gTps, boxAt, frz, oCut, oRev, wipeR, startR, tupI, eqA, dpt, eqD, hq]
      rw [e, Option.bind_some]
      exact hs
  obtain ⟨s', hs⟩ := go ps none hp
  rw [F_check_rows, ap_runP, g_check_rows, kFor_ev (xs := ps.map tupI) rfl]
  show Option.map _ (forGo _ _ (ps.map tupI) [some (.i n), some (.d (.tup (ps.map tupI))), none]) = _
  rw [hs]
  rfl
def toldS (ps : List (List Int)) : List (Int × Int) := ps.flatMap fun p => (wts p).map (·.1)
theorem wts_len (p : List Int) (h : p.length ≤ 8) : (wts p).length ≤ 36 := by
  rw [wts, List.length_map]
  exact Nat.le_trans (List.length_filter_le _ _) (stz_len h)
theorem flat_len {α β : Type} {f : α → List β} {k : Nat} : ∀ {xs : List α}, (∀ x ∈ xs, (f x).length ≤ k) → (xs.flatMap f).length ≤ xs.length * k
  | [], _ => by simp
  | x :: xs, h => by
    have ih := flat_len (xs := xs) fun y hy => h y (List.mem_cons_of_mem _ hy)
    have hx := h x (List.mem_cons_self ..)
    rw [List.flatMap_cons, List.length_append, List.length_cons, Nat.succ_mul]
    omega
theorem unseen_eq (n : Nat) (ps : List (List Int)) (hn : n ≤ 8) (hl : ps.length ≤ 20) (hp : ∀ p ∈ ps, p.length = n) : F_unseen [.i n, .d (.tup (ps.map tupI))] = some (.d (.tup (((stz n).filter fun s => !decide (s ∈ toldS ps)).map pD))) := by
  have e0 : sCall F_check_rows [(sVar 0), (sVar 1)] [some (.i n), some (.d (.tup (ps.map tupI))), none, none, none] = some (.d .non) := call2_ev rfl rfl rfl rfl (check_rows_eq n ps hp)
  have e1 : sLc2 [3, 4] [4] (iSeq (sVar 1)) (gNm 3) bYes (iSeq (sCall F_seen [(sVar 3)])) (gNm 4) bYes (sVar 4) [some (.i n), some (.d (.tup (ps.map tupI))), none, none, none] = some (.l .fr ((toldS ps).map pD)) := by
    have := sLc2_map (vs := [3, 4]) (vs1 := [4]) (it := iSeq (sVar 1)) (g := gNm 3) (it1 := iSeq (sCall F_seen [(sVar 3)])) (g1 := gNm 4) (t1 := bYes) (e := sVar 4) (r := [some (.i n), some (.d (.tup (ps.map tupI))), none, none, none]) (fl := true) tupI (fun e : (Int × Int) × Int => pD e.1) (fun p => wts p) (fun _ _ => true) (fun _ e => pD e.1) (zs := ps) rfl (fun p hp' => ⟨_, rfl, ?_, fun x _ => ⟨_, rfl, rfl, fun _ => rfl⟩⟩) ?_
    · rw [this]
      simp [toldS, List.map_flatMap, filt_true, Function.comp_def]
    · rw [ap_iSeq, call1_ev (F := F_seen) rfl rfl (seen_eq true p (by rw [hp p hp']; exact hn))]
      rfl
    · refine Nat.le_trans (flat_len (k := 36) fun p hp' => ?_) (by omega)
      rw [List.length_map, filt_true]
      exact wts_len p (by rw [hp p hp']; exact hn)
  have e2 : sLc [4] (iSeq (sCall F_all_stretches [(sVar 0)])) (gNm 4) (bOf (s2 oNotIn (sVar 4) (sVar 2))) (sVar 4) [some (.i n), some (.d (.tup (ps.map tupI))), some (.l .ow ((toldS ps).map pD)), none, none] = some (.l .fr (((stz n).filter fun s => !decide (s ∈ toldS ps)).map pD)) := by
    refine ap_sLc_ev pD _ _ (src_all hn rfl) (Nat.le_trans (stz_len hn) (by decide)) fun s hs => ⟨_, rfl, ?_, fun _ => rfl⟩
    have e : (((toldS ps).map pD).any fun y => eqD y (pD s)) = decide (s ∈ toldS ps) := by
      rw [Bool.eq_iff_iff, List.any_eq_true, decide_eq_true_iff]
      constructor
      · rintro ⟨y, hy, h⟩
        obtain ⟨z, hz, rfl⟩ := List.mem_map.mp hy
        rw [eqD_pD, decide_eq_true_iff] at h
        exact h ▸ hz
      · intro h
        exact ⟨pD s, List.mem_map.mpr ⟨s, h, rfl⟩, by rw [eqD_pD]; simp⟩
    show ((oNotIn (.d (pD s)) (.l .ow ((toldS ps).map pD))).bind vBl) = _
    have hd : dpt (pD s) ≤ 32 := by simp [pD, Dt.p, dpt, dpts]
    simp only [oNotIn, vDat, vSeq, Option.bind_some, if_pos hd, e, vBl]
  exact runP_rt (kSeq_nx (kExpr_ev e0) (kSeq_nx (kSet_p e1 rfl) (kRet_ev (s1_ev e2 rfl) rfl)))
end S67

/-! ME: sums over stretches. -/
namespace S67
def sm {α : Type} (xs : List α) (f : α → Int) : Int := (xs.map f).sum
theorem sm_nil {α : Type} (f : α → Int) : sm [] f = 0 := rfl
theorem sm_cons {α : Type} (x : α) (xs : List α) (f : α → Int) : sm (x :: xs) f = f x + sm xs f := by simp [sm]
theorem sm_congr {α : Type} {xs : List α} {f g : α → Int} (h : ∀ x ∈ xs, f x = g x) : sm xs f = sm xs g := by
  unfold sm
  rw [List.map_congr_left h]
theorem sm_add {α : Type} (xs : List α) (f g : α → Int) : sm xs (fun x => f x + g x) = sm xs f + sm xs g := by
  induction xs with
  | nil => simp [sm]
  | cons x xs ih => rw [sm_cons, sm_cons, sm_cons, ih]; omega
theorem sm_sub {α : Type} (xs : List α) (f g : α → Int) : sm xs (fun x => f x - g x) = sm xs f - sm xs g := by
  induction xs with
  | nil => simp [sm]
  | cons x xs ih => rw [sm_cons, sm_cons, sm_cons, ih]; omega
theorem sm_mul {α : Type} (xs : List α) (c : Int) (f : α → Int) : sm xs (fun x => c * f x) = c * sm xs f := by
  induction xs with
  | nil => simp [sm]
  | cons x xs ih => rw [sm_cons, sm_cons, ih, Int.mul_add]
theorem sm_mulr {α : Type} (xs : List α) (c : Int) (f : α → Int) : sm xs (fun x => f x * c) = sm xs f * c := by
  induction xs with
  | nil => simp [sm]
  | cons x xs ih => rw [sm_cons, sm_cons, ih, Int.add_mul]
theorem sm_zero {α : Type} {xs : List α} {f : α → Int} (h : ∀ x ∈ xs, f x = 0) : sm xs f = 0 := by
  rw [sm_congr h]
  induction xs with
  | nil => rfl
  | cons x xs ih => rw [sm_cons, ih fun y hy => h y (List.mem_cons_of_mem _ hy)]; rfl
theorem sm_swap {α β : Type} (xs : List α) (ys : List β) (f : α → β → Int) : sm xs (fun x => sm ys (f x)) = sm ys fun y => sm xs fun x => f x y := by
  induction xs with
  | nil => rw [sm_nil, sm_zero]; intro y _; rfl
  | cons x xs ih =>
    rw [sm_cons, ih, ← sm_add]
    exact sm_congr fun y _ => by rw [sm_cons]
theorem sm_filter {α : Type} (xs : List α) (c : α → Bool) (f : α → Int) : sm (xs.filter c) f = sm xs fun x => if c x = true then f x else 0 := by
  induction xs with
  | nil => rfl
  | cons x xs ih =>
    cases h : c x with
    | true => rw [List.filter_cons_of_pos h, sm_cons, sm_cons, ih, if_pos h]
    | false => rw [List.filter_cons_of_neg (by rw [h]; decide), sm_cons, ih, h]; simp
theorem sm_map {α β : Type} (xs : List α) (g : α → β) (f : β → Int) : sm (xs.map g) f = sm xs fun x => f (g x) := by
  unfold sm
  rw [List.map_map]
  rfl
theorem sm_nonneg {α : Type} {xs : List α} {f : α → Int} (h : ∀ x ∈ xs, 0 ≤ f x) : 0 ≤ sm xs f := by
  induction xs with
  | nil => exact Int.le_refl 0
  | cons x xs ih =>
    rw [sm_cons]
    have h1 := h x (List.mem_cons_self ..)
    have h2 := ih fun y hy => h y (List.mem_cons_of_mem _ hy)
    omega
theorem sm_le {α : Type} {xs : List α} {f g : α → Int} (h : ∀ x ∈ xs, f x ≤ g x) : sm xs f ≤ sm xs g := by
  induction xs with
  | nil => exact Int.le_refl 0
  | cons x xs ih =>
    rw [sm_cons, sm_cons]
    have h1 := h x (List.mem_cons_self ..)
    have h2 := ih fun y hy => h y (List.mem_cons_of_mem _ hy)
    omega
theorem sm_le_len {α : Type} {xs : List α} {f : α → Int} {B : Int} (hB : 0 ≤ B) (h : ∀ x ∈ xs, f x ≤ B) : sm xs f ≤ xs.length * B := by
  induction xs with
  | nil => simp [sm]
  | cons x xs ih =>
    rw [sm_cons, List.length_cons]
    have h1 := h x (List.mem_cons_self ..)
    have h2 := ih fun y hy => h y (List.mem_cons_of_mem _ hy)
    have e : ((xs.length + 1 : Nat) : Int) * B = xs.length * B + B := by
      rw [Int.natCast_add, Int.add_mul]
      simp
    rw [e]
    omega
theorem sm_one {α : Type} [DecidableEq α] {xs : List α} (hn : xs.Nodup) {t : α} (ht : t ∈ xs) (f : α → Int) : sm xs (fun x => if x = t then f x else 0) = f t := by
  induction xs with
  | nil => exact nomatch ht
  | cons x xs ih =>
    rw [List.nodup_cons] at hn
    rw [sm_cons]
    by_cases h : x = t
    · subst h
      rw [if_pos rfl, sm_zero fun y hy => if_neg fun (z : y = x) => hn.1 (z ▸ hy)]
      omega
    · rw [if_neg h, ih hn.2 ((List.mem_cons.mp ht).resolve_left (fun z => h z.symm))]
      omega
theorem stz_nodup {n : Nat} (h : n ≤ 8) : (stz n).Nodup := by
  rcases hours8 h with rfl | rfl | rfl | rfl | rfl | rfl | rfl | rfl | rfl <;> decide
/-! ### above and below a stretch -/
def up (n : Nat) (h : Int × Int → Int) (f l : Int) : Int := sm (stz n) fun s => if s.1 ≤ f ∧ l ≤ s.2 then h s else 0
def dn (n : Nat) (h : Int × Int → Int) (f l : Int) : Int := sm (stz n) fun s => if f ≤ s.1 ∧ s.2 ≤ l then h s else 0
theorem up_out (n : Nat) (h : Int × Int → Int) {f l : Int} (ho : f < 0 ∨ (n : Int) ≤ l) : up n h f l = 0 := sm_zero fun s hs => if_neg (by
  have := mem_stz.mp hs
  omega)
theorem dn_out (n : Nat) (h : Int × Int → Int) {f l : Int} (ho : l < f) : dn n h f l = 0 := sm_zero fun s hs => if_neg (by
  have := mem_stz.mp hs
  omega)
theorem up_point {n : Nat} (hn : n ≤ 8) (h : Int × Int → Int) {f l : Int} (ht : (f, l) ∈ stz n) : up n h f l - up n h (f - 1) l - up n h f (l + 1) + up n h (f - 1) (l + 1) = h (f, l) := by
  rw [← sm_one (stz_nodup hn) ht h]
  unfold up
  rw [← sm_sub, ← sm_sub, ← sm_add]
  refine sm_congr fun s _ => ?_
  by_cases e : s = (f, l)
  · subst e
    simp
    omega
  · rw [if_neg e]
    have e2 : s.1 ≠ f ∨ s.2 ≠ l := by
      by_cases q : s.1 = f
      · exact .inr fun z => e (Prod.ext q z)
      · exact .inl q
    repeat' split
    all_goals omega
theorem dn_point {n : Nat} (hn : n ≤ 8) (h : Int × Int → Int) {f l : Int} (ht : (f, l) ∈ stz n) : dn n h f l - (dn n h (f + 1) l + dn n h f (l - 1)) + dn n h (f + 1) (l - 1) = h (f, l) := by
  rw [← sm_one (stz_nodup hn) ht h]
  unfold dn
  rw [← sm_add, ← sm_sub, ← sm_add]
  refine sm_congr fun s _ => ?_
  by_cases e : s = (f, l)
  · subst e
    simp
    omega
  · rw [if_neg e]
    have e2 : s.1 ≠ f ∨ s.2 ≠ l := by
      by_cases q : s.1 = f
      · exact .inr fun z => e (Prod.ext q z)
      · exact .inl q
    repeat' split
    all_goals omega
/-! ### the least price -/
theorem mn_one {p : List Int} {f : Nat} (h : f < p.length) : mn p f f = p[f] := by
  unfold mn
  have e : (p.drop f).take (f + 1 - f) = [p[f]] := by
    rw [List.drop_eq_getElem_cons h, show f + 1 - f = 0 + 1 by omega, List.take_succ_cons, List.take_zero]
  rw [e]
  rfl
theorem foldl_min (a : Int) : ∀ (xs : List Int) (b : Int), xs.foldl min (min a b) = min a (xs.foldl min b)
  | [], b => rfl
  | x :: xs, b => by
    rw [List.foldl_cons, List.foldl_cons, Int.min_assoc, foldl_min a xs]
theorem mn_left {p : List Int} {f l : Nat} (hf : f < l) (h : l < p.length) : mn p f l = min p[f] (mn p (f + 1) l) := by
  unfold mn
  have e : (p.drop f).take (l + 1 - f) = p[f] :: (p.drop (f + 1)).take (l + 1 - (f + 1)) := by
    rw [List.drop_eq_getElem_cons (by omega), show l + 1 - f = (l + 1 - (f + 1)) + 1 by omega, List.take_succ_cons]
  rw [e]
  cases hq : (p.drop (f + 1)).take (l + 1 - (f + 1)) with
  | nil =>
    have := congrArg List.length hq
    rw [List.length_take, List.length_drop, List.length_nil] at this
    omega
  | cons x r =>
    simp only [List.foldl_cons]
    rw [foldl_min]
theorem mn_right {p : List Int} {f l : Nat} (hf : f ≤ l) (h : l + 1 < p.length) : mn p f (l + 1) = min (mn p f l) p[l + 1] := by
  unfold mn
  have e : (p.drop f).take (l + 1 + 1 - f) = (p.drop f).take (l + 1 - f) ++ [p[l + 1]] := by
    rw [show l + 1 + 1 - f = (l + 1 - f) + 1 by omega, List.take_add_one, List.getElem?_drop, show f + (l + 1 - f) = l + 1 by omega, List.getElem?_eq_getElem h]
    rfl
  rw [e]
  cases hq : (p.drop f).take (l + 1 - f) with
  | nil =>
    have := congrArg List.length hq
    rw [List.length_take, List.length_drop, List.length_nil] at this
    omega
  | cons x r => simp only [List.cons_append, List.foldl_append, List.foldl_cons, List.foldl_nil]
/-- .. 0 out of the day -/
def gg (p : List Int) (f l : Int) : Int := if 0 ≤ f ∧ l < p.length then mn p f.toNat l.toNat else 0
theorem bes_in {p : List Int} {h : Nat} (hh : h < p.length) : bes p h = p[h] := by
  rw [bes, if_pos (by omega)]
  simp [hh]
theorem bes_out {p : List Int} {h : Int} (hh : h < 0 ∨ (p.length : Int) ≤ h) : bes p h = 0 := by
  rw [bes]
  split
  · rw [List.getD_eq_getElem?_getD, List.getElem?_eq_none (by omega)]
    rfl
  · rfl
theorem mn_nonneg {p : List Int} (hp : ∀ x ∈ p, 0 ≤ x) (f l : Nat) : 0 ≤ mn p f l := by
  unfold mn
  have h : ∀ x ∈ (p.drop f).take (l + 1 - f), 0 ≤ x := fun x hx => hp x (List.mem_of_mem_drop (List.mem_of_mem_take hx))
  cases hq : (p.drop f).take (l + 1 - f) with
  | nil => exact Int.le_refl 0
  | cons x r =>
    rw [hq] at h
    have go : ∀ (r : List Int) (x : Int), 0 ≤ x → (∀ y ∈ r, 0 ≤ y) → 0 ≤ r.foldl min x := by
      intro r
      induction r with
      | nil => exact fun x hx _ => hx
      | cons y r ih => exact fun x hx hr => ih _ (by have := hr y (List.mem_cons_self ..); omega) fun z hz => hr z (List.mem_cons_of_mem _ hz)
    exact go r x (h x (List.mem_cons_self ..)) fun y hy => h y (List.mem_cons_of_mem _ hy)
theorem gg_left {p : List Int} (hp : ∀ x ∈ p, 0 ≤ x) {f l : Nat} (hf : f ≤ l) (h : l < p.length) : gg p ((f : Int) - 1) l = min (bes p ((f : Int) - 1)) (mn p f l) := by
  cases f with
  | zero =>
    rw [gg, if_neg (by omega), bes_out (by omega)]
    have := mn_nonneg hp 0 l
    omega
  | succ f =>
    have e : (((f + 1 : Nat) : Int) - 1) = (f : Int) := by omega
    rw [e, gg, if_pos (by omega), bes_in (by omega)]
    exact mn_left (by omega) h
theorem gg_right {p : List Int} (hp : ∀ x ∈ p, 0 ≤ x) {f l : Nat} (hf : f ≤ l) (h : l < p.length) : gg p f ((l : Int) + 1) = min (mn p f l) (bes p ((l : Int) + 1)) := by
  by_cases h1 : l + 1 < p.length
  · rw [gg, if_pos (by omega), show ((l : Int) + 1) = ((l + 1 : Nat) : Int) by omega, bes_in h1]
    exact mn_right hf h1
  · rw [gg, if_neg (by omega), bes_out (by omega)]
    have := mn_nonneg hp f l
    omega
theorem gg_both {p : List Int} (hp : ∀ x ∈ p, 0 ≤ x) {f l : Nat} (hf : f ≤ l) (h : l < p.length) : gg p ((f : Int) - 1) ((l : Int) + 1) = min (bes p ((f : Int) - 1)) (min (mn p f l) (bes p ((l : Int) + 1))) := by
  have hm := mn_nonneg hp f l
  by_cases h1 : l + 1 < p.length
  · rw [show ((l : Int) + 1) = ((l + 1 : Nat) : Int) by omega, gg_left hp (by omega) h1, mn_right hf h1, bes_in h1]
  · rw [gg, if_neg (by omega), bes_out (h := (l : Int) + 1) (by omega)]
    cases f with
    | zero => rw [bes_out (by omega)]; omega
    | succ f =>
      have e : (((f + 1 : Nat) : Int) - 1) = (f : Int) := by omega
      rw [e, bes_in (by omega)]
      have := hp p[f] (List.getElem_mem _)
      omega
/-- a weight that is told: the second difference of the least prices -/
def wp (p : List Int) (s : Int × Int) : Int := max 0 (wtOf p s)
theorem wp_diff {p : List Int} (hp : ∀ x ∈ p, 0 ≤ x) {f l : Nat} (hf : f ≤ l) (h : l < p.length) : wp p (f, l) = gg p f l - gg p ((f : Int) - 1) l - gg p f ((l : Int) + 1) + gg p ((f : Int) - 1) ((l : Int) + 1) := by
  rw [gg_left hp hf h, gg_right hp hf h, gg_both hp hf h]
  have e : gg p f l = mn p f l := by rw [gg, if_pos (by omega)]; simp
  rw [e, wp, wtOf]
  simp only [Int.toNat_natCast]
  omega
/-- what has the same second differences is the same -/
theorem gg_up {p : List Int} (hn : p.length ≤ 8) {u : Int × Int → Int} (hu : ∀ f l : Nat, f ≤ l → l < p.length → u (f, l) = gg p f l - gg p ((f : Int) - 1) l - gg p f ((l : Int) + 1) + gg p ((f : Int) - 1) ((l : Int) + 1)) :
    ∀ (k f l : Nat), f + (p.length - l) ≤ k → f ≤ l → l < p.length → up p.length u f l = gg p f l := by
  intro k
  induction k with
  | zero => intro f l h1 h2 h3; omega
  | succ k ih =>
    intro f l h1 h2 h3
    have pt := up_point hn u (f := (f : Int)) (l := (l : Int)) (mem_stz.mpr (by simp only; omega))
    rw [hu f l h2 h3] at pt
    have a1 : up p.length u ((f : Int) - 1) l = gg p ((f : Int) - 1) l := by
      cases f with
      | zero => rw [up_out _ _ (by omega), gg, if_neg (by omega)]
      | succ f => rw [show (((f + 1 : Nat) : Int) - 1) = (f : Int) by omega]; exact ih f l (by omega) (by omega) h3
    have a2 : up p.length u f ((l : Int) + 1) = gg p f ((l : Int) + 1) := by
      by_cases h4 : l + 1 < p.length
      · rw [show ((l : Int) + 1) = ((l + 1 : Nat) : Int) by omega]; exact ih f (l + 1) (by omega) (by omega) h4
      · rw [up_out _ _ (by omega), gg, if_neg (by omega)]
    have a3 : up p.length u ((f : Int) - 1) ((l : Int) + 1) = gg p ((f : Int) - 1) ((l : Int) + 1) := by
      by_cases h4 : l + 1 < p.length
      · cases f with
        | zero => rw [up_out _ _ (by omega), gg, if_neg (by omega)]
        | succ f => rw [show (((f + 1 : Nat) : Int) - 1) = (f : Int) by omega, show ((l : Int) + 1) = ((l + 1 : Nat) : Int) by omega]; exact ih f (l + 1) (by omega) (by omega) h4
      · rw [up_out _ _ (by omega), gg, if_neg (by omega)]
    omega
/-- the least price is the sum of the weights above -/
theorem mn_up {p : List Int} (hn : p.length ≤ 8) (hp : ∀ x ∈ p, 0 ≤ x) {f l : Nat} (hf : f ≤ l) (h : l < p.length) : mn p f l = up p.length (wp p) f l := by
  rw [gg_up hn (fun f l h1 h2 => wp_diff hp h1 h2) _ f l (Nat.le_refl _) hf h, gg, if_pos (by omega)]
  simp
end S67

/-! MF: costs by weights; rows that tell. -/
namespace S67
theorem le_mn {p : List Int} {c : Int} : ∀ (k f l : Nat), l - f = k → f ≤ l → l < p.length → (∀ (h : Nat) (hh : h < p.length), f ≤ h → h ≤ l → c ≤ p[h]) → c ≤ mn p f l
  | 0, f, l, hk, hf, h, hc => by
    have e : f = l := by omega
    subst e
    rw [mn_one h]
    exact hc f h (Nat.le_refl _) (Nat.le_refl _)
  | k + 1, f, l, hk, hf, h, hc => by
    rw [mn_left (by omega) h]
    have h1 := hc f (by omega) (Nat.le_refl _) hf
    have h2 := le_mn k (f + 1) l (by omega) (by omega) h fun h' hh a b => hc h' hh (by omega) b
    omega
theorem mn_le {p : List Int} : ∀ (k f l : Nat), l - f = k → f ≤ l → l < p.length → ∀ (h : Nat) (hh : h < p.length), f ≤ h → h ≤ l → mn p f l ≤ p[h]
  | 0, f, l, hk, hf, hl, h, hh, a, b => by
    have e : f = l := by omega
    subst e
    have e2 : h = f := by omega
    subst e2
    rw [mn_one hl]
    exact Int.le_refl _
  | k + 1, f, l, hk, hf, hl, h, hh, a, b => by
    rw [mn_left (by omega) hl]
    by_cases e : h = f
    · subst e; omega
    · have := mn_le k (f + 1) l (by omega) (by omega) hl h hh (by omega) b
      omega
/-- prices out of weights -/
def found (n : Nat) (S : List (Int × Int)) (ω : Int × Int → Int) : List Int := (List.range n).map fun (h : Nat) => sm S fun s => if s.1 ≤ (h : Int) ∧ (h : Int) ≤ s.2 then ω s else 0
theorem found_len (n : Nat) (S : List (Int × Int)) (ω : Int × Int → Int) : (found n S ω).length = n := by simp [found]
theorem found_get {n : Nat} {S : List (Int × Int)} {ω : Int × Int → Int} {h : Nat} (hh : h < (found n S ω).length) : (found n S ω)[h] = sm S fun s => if s.1 ≤ (h : Int) ∧ (h : Int) ≤ s.2 then ω s else 0 := by simp [found]
theorem found_nonneg {n : Nat} {S : List (Int × Int)} {ω : Int × Int → Int} (hω : ∀ s ∈ S, 0 ≤ ω s) : ∀ x ∈ found n S ω, 0 ≤ x := by
  intro x hx
  obtain ⟨h, _, rfl⟩ := List.mem_map.mp hx
  refine sm_nonneg fun s hs => ?_
  split
  · exact hω s hs
  · exact Int.le_refl 0
/-- every stretch has an hour that tells it -/
def Tells (n : Nat) (S : List (Int × Int)) : Prop := ∀ T ∈ stz n, ∃ h ∈ List.range n, T.1 ≤ (h : Int) ∧ (h : Int) ≤ T.2 ∧ ∀ s ∈ S, s.1 ≤ (h : Int) → (h : Int) ≤ s.2 → s.1 ≤ T.1 ∧ T.2 ≤ s.2
instance (n : Nat) (S : List (Int × Int)) : Decidable (Tells n S) := inferInstanceAs (Decidable (∀ T ∈ stz n, _))
theorem mn_found {n : Nat} {S : List (Int × Int)} {ω : Int × Int → Int} (hω : ∀ s ∈ S, 0 ≤ ω s) (key : Tells n S) {f l : Nat} (hf : f ≤ l) (hl : l < n) : mn (found n S ω) f l = sm S fun s => if s.1 ≤ (f : Int) ∧ (l : Int) ≤ s.2 then ω s else 0 := by
  have hlen := found_len n S ω
  refine Int.le_antisymm ?_ ?_
  · obtain ⟨h, _, h1, h2, h3⟩ := key ((f : Int), (l : Int)) (mem_stz.mpr (by simp only; omega))
    simp only at h1 h2 h3
    refine Int.le_trans (mn_le _ f l rfl hf (by omega) h (by omega) (by omega) (by omega)) ?_
    rw [found_get]
    refine sm_le fun s hs => ?_
    have h4 := h3 s hs
    have h5 := hω s hs
    repeat' split
    all_goals first | omega | (exfalso; omega)
  · refine le_mn _ f l rfl hf (by omega) fun h hh a b => ?_
    rw [found_get]
    refine sm_le fun s hs => ?_
    have h5 := hω s hs
    repeat' split
    all_goals first | omega | (exfalso; omega)
theorem wtOf_pos (p : List Int) (s : Int × Int) : decide (0 < wtOf p s) = decide (0 < wp p s) := by
  unfold wp
  congr 1
  apply propext
  omega
theorem wp_found {n : Nat} (hn : n ≤ 8) {S : List (Int × Int)} {c : Int × Int → Bool} (hS : S = (stz n).filter c) {ω : Int × Int → Int} (hω : ∀ s ∈ S, 0 ≤ ω s) (key : Tells n S) {s : Int × Int} (hs : s ∈ stz n) : wp (found n S ω) s = if c s = true then ω s else 0 := by
  have hlen := found_len n S ω
  have hup : ∀ f l : Nat, f ≤ l → l < n → mn (found n S ω) f l = up n (fun s => if c s = true then ω s else 0) f l := fun f l hf hl => by
    rw [mn_found hω key hf hl, hS, sm_filter]
    unfold up
    refine sm_congr fun s _ => ?_
    show _ = (if s.1 ≤ (f : Int) ∧ (l : Int) ≤ s.2 then (if c s = true then ω s else 0) else 0)
    by_cases hc : c s = true
    · rw [if_pos hc, if_pos hc]
    · rw [if_neg hc, if_neg hc]
      split <;> rfl
  have hgg : ∀ f l : Int, f ≤ l + 2 → gg (found n S ω) f l = up n (fun s => if c s = true then ω s else 0) f l ∨ ¬ (f ≤ l) := fun f l _ => by
    by_cases hfl : f ≤ l
    · left
      rw [gg]
      split
      · rename_i h
        rw [hlen] at h
        have := hup f.toNat l.toNat (by omega) (by omega)
        rw [this, show ((f.toNat : Nat) : Int) = f by omega, show ((l.toNat : Nat) : Int) = l by omega]
      · rename_i h
        rw [hlen] at h
        rw [up_out _ _ (by omega)]
    · exact .inr hfl
  obtain ⟨h1, h2, h3⟩ := mem_stz.mp hs
  have d := wp_diff (p := found n S ω) (found_nonneg hω) (f := s.1.toNat) (l := s.2.toNat) (by omega) (by omega)
  rw [show ((s.1.toNat : Nat) : Int) = s.1 by omega, show ((s.2.toNat : Nat) : Int) = s.2 by omega] at d
  have pt := up_point hn (fun s => if c s = true then ω s else 0) (f := s.1) (l := s.2) hs
  have g1 := (hgg s.1 s.2 (by omega)).resolve_right (by omega)
  have g2 := (hgg (s.1 - 1) s.2 (by omega)).resolve_right (by omega)
  have g3 := (hgg s.1 (s.2 + 1) (by omega)).resolve_right (by omega)
  have g4 := (hgg (s.1 - 1) (s.2 + 1) (by omega)).resolve_right (by omega)
  rw [g1, g2, g3, g4] at d
  rw [d]
  exact pt
theorem filter_mem {α : Type} {xs : List α} {c d : α → Bool} (h : ∀ x ∈ xs, c x = d x) : xs.filter c = xs.filter d := List.filter_congr h
theorem wts_found {n : Nat} (hn : n ≤ 8) {S : List (Int × Int)} {c : Int × Int → Bool} (hS : S = (stz n).filter c) {ω : Int × Int → Int} (hω : ∀ s ∈ S, 0 < ω s) (key : Tells n S) : wts (found n S ω) = S.map fun s => (s, ω s) := by
  have h0 : ∀ s ∈ S, 0 ≤ ω s := fun s hs => Int.le_of_lt (hω s hs)
  unfold wts
  rw [found_len]
  have e : (stz n).filter (fun s => decide (0 < wtOf (found n S ω) s)) = S := by
    rw [hS]
    refine filter_mem fun s hs => ?_
    rw [wtOf_pos, ← hS, wp_found hn hS h0 key hs]
    cases hc : c s with
    | true =>
      have := hω s (by rw [hS]; exact List.mem_filter.mpr ⟨hs, hc⟩)
      simp [this]
    | false => simp
  rw [e]
  refine List.map_congr_left fun s hs => ?_
  have hs2 : s ∈ stz n ∧ c s = true := by rw [hS] at hs; exact List.mem_filter.mp hs
  have w := wp_found hn hS h0 key hs2.1
  rw [if_pos hs2.2] at w
  have := hω s hs
  have e2 : wtOf (found n S ω) s = ω s := by
    unfold wp at w
    omega
  rw [e2]
/-! ### costs -/
def paid (es : Lt) (ws : Lt) : Int := sm ws fun e => e.2 * askE es e.1.1 e.1.2
theorem askE_sm (es : Lt) (f l : Int) : askE es f l = sm es fun e => if f ≤ e.1.1 ∧ e.1.2 ≤ l then e.2 else 0 := by
  unfold askE
  have := sm_filter es (fun e => decide (f ≤ e.1.1) && decide (e.1.2 ≤ l)) (·.2)
  unfold sm at this ⊢
  rw [this]
  congr 1
  refine List.map_congr_left fun e _ => ?_
  by_cases h1 : f ≤ e.1.1 <;> by_cases h2 : e.1.2 ≤ l <;> simp [h1, h2]
theorem chp_paid {p : List Int} (hn : p.length ≤ 8) (hp : ∀ x ∈ p, 0 ≤ x) {es : Lt} (hd : InDay p.length es) : chp es p = paid es (wts p) := by
  have e1 : chp es p = sm es fun e => sm (stz p.length) fun s => e.2 * (if s.1 ≤ e.1.1 ∧ e.1.2 ≤ s.2 then wp p s else 0) := by
    unfold chp
    show sm es _ = _
    refine sm_congr fun e he => ?_
    obtain ⟨h1, h2, h3⟩ := hd e he
    rw [mn_up hn hp (by omega) (by omega), sm_mul]
    unfold up
    rw [show ((e.1.1.toNat : Nat) : Int) = e.1.1 by omega, show ((e.1.2.toNat : Nat) : Int) = e.1.2 by omega]
  rw [e1, sm_swap]
  unfold paid wts
  rw [sm_map, sm_filter]
  refine sm_congr fun s hs => ?_
  rw [askE_sm, ← sm_mul]
  have hw : wp p s = max 0 (wtOf p s) := rfl
  by_cases hpos : 0 < wtOf p s
  · rw [if_pos (by simpa using hpos)]
    refine sm_congr fun e _ => ?_
    have e3 : wp p s = wtOf p s := by omega
    by_cases hc : s.1 ≤ e.1.1 ∧ e.1.2 ≤ s.2
    · rw [if_pos hc, if_pos hc, e3, Int.mul_comm]
    · rw [if_neg hc, if_neg hc, Int.mul_zero, Int.mul_zero]
  · rw [if_neg (by simpa using hpos)]
    refine sm_zero fun e _ => ?_
    have e3 : wp p s = 0 := by omega
    rw [e3]
    split <;> simp
/-- prices out of their own weights -/
theorem found_wts {p : List Int} (hn : p.length ≤ 8) (hp : ∀ x ∈ p, 0 ≤ x) {h : Nat} (hh : h < p.length) : (sm (wts p) fun e => if e.1.1 ≤ (h : Int) ∧ (h : Int) ≤ e.1.2 then e.2 else 0) = p[h] := by
  rw [← mn_one hh, mn_up hn hp (Nat.le_refl _) hh]
  unfold wts up
  rw [sm_map, sm_filter]
  refine sm_congr fun s hs => ?_
  have hw : wp p s = max 0 (wtOf p s) := rfl
  by_cases hpos : 0 < wtOf p s
  · rw [if_pos (by simpa using hpos), hw]
    have : max 0 (wtOf p s) = wtOf p s := by omega
    rw [this]
  · rw [if_neg (by simpa using hpos), hw]
    have : max 0 (wtOf p s) = 0 := by omega
    rw [this]
    split <;> rfl
end S67

/-! MG: prices out of weights, as the program makes them. -/
namespace S67
def ltS (a b : Int × Int) : Prop := a.1 < b.1 ∨ (a.1 = b.1 ∧ a.2 < b.2)
instance (a b : Int × Int) : Decidable (ltS a b) := inferInstanceAs (Decidable (_ ∨ _))
theorem stz_sorted {n : Nat} (h : n ≤ 8) : (stz n).Pairwise ltS := by
  rcases hours8 h with rfl | rfl | rfl | rfl | rfl | rfl | rfl | rfl | rfl <;> decide
theorem le_item {a b : (Int × Int) × Int} (h : ltS a.1 b.1) : leF flat3 (itemD a) (itemD b) = true := by
  show lexLe [a.1.1, a.1.2, a.2] [b.1.1, b.1.2, b.2] = true
  rcases h with h | ⟨h1, h2⟩
  · have : ¬ a.1.1 = b.1.1 := by omega
    simp [lexLe, this, h]
  · have : ¬ a.1.2 = b.1.2 := by omega
    simp [lexLe, h1, this, h2]
theorem sortD_items {ws : Lt} (h : (ws.map (·.1)).Pairwise ltS) : sortD (ws.map itemD) = some (ws.map itemD) := by
  have hp : (ws.map itemD).Pairwise (fun a b => leF flat3 a b = true) := by
    rw [List.pairwise_map] at h ⊢
    exact h.imp fun h => le_item h
  unfold sortD
  cases ws with
  | nil => simp
  | cons w ws =>
    have e1 : ¬ ((((w :: ws).map itemD).all fun x => (flat2 x).isSome) = true) := by simp [itemD, flat2]
    have e2 : (((w :: ws).map itemD).all fun x => (flat3 x).isSome) = true := by
      rw [List.all_eq_true]
      intro x hx
      obtain ⟨e, _, rfl⟩ := List.mem_map.mp hx
      rfl
    rw [if_neg e1, if_pos e2, List.mergeSort_of_pairwise hp]
theorem wts_sorted (p : List Int) (h : p.length ≤ 8) : ((wts p).map (·.1)).Pairwise ltS := by
  unfold wts
  rw [List.map_map]
  have : ((fun x : (Int × Int) × Int => x.1) ∘ fun s : Int × Int => (s, wtOf p s)) = id := rfl
  rw [this, List.map_id]
  exact (stz_sorted h).sublist List.filter_sublist
theorem plain_item (e : (Int × Int) × Int) : plainD (itemD e) = true := rfl
theorem plain_map {α : Type} (f : α → Dt) (h : ∀ a, plainD (f a) = true) : ∀ xs : List α, plainDs (xs.map f) = true
  | [] => rfl
  | x :: xs => by rw [List.map_cons, plainDs, h x, plain_map f h xs]; rfl
theorem dpts_le {k : Nat} : ∀ {ds : List Dt}, (∀ d ∈ ds, dpt d ≤ k) → dpts ds ≤ k
  | [], _ => Nat.zero_le _
  | d :: ds, h => by
    rw [dpts]
    exact Nat.max_le.mpr ⟨h d (List.mem_cons_self ..), dpts_le fun x hx => h x (List.mem_cons_of_mem _ hx)⟩
theorem dpts_map {α : Type} {k : Nat} (f : α → Dt) (h : ∀ a, dpt (f a) ≤ k) (xs : List α) : dpts (xs.map f) ≤ k := dpts_le fun d hd => by
  obtain ⟨a, _, rfl⟩ := List.mem_map.mp hd
  exact h a
theorem dpt_item (e : (Int × Int) × Int) : dpt (itemD e) ≤ 2 := by simp [itemD, Dt.p, dpt, dpts]
theorem dpt_pD (e : Int × Int) : dpt (pD e) ≤ 1 := by simp [pD, Dt.p, dpt, dpts]
/-! ### the list that is filled -/
theorem set_range {n : Nat} (φ : Nat → Dt) (i : Nat) (v : Dt) : ((List.range n).map φ).set i v = (List.range n).map fun h => if h = i then v else φ h := by
  apply List.ext_getElem
  · simp
  · intro j h1 h2
    rw [List.getElem_set]
    simp only [List.getElem_map, List.getElem_range]
    by_cases e : i = j
    · rw [if_pos e, if_pos e.symm]
    · rw [if_neg e, if_neg fun z => e z.symm]
theorem kAug_ev {i : Nat} {idx e : SE} {r : Rho} {xs : List Dt} {k : Int} {j : Nat} {v d : Int} (h1 : idx r = some (.i k)) (h2 : r[i]? = some (some (.l .ow xs))) (h3 : ixA xs.length k = some j) (h4 : xs[j]? = some (.int v)) (h5 : e r = some (.i d)) :
    kAug i idx e r = some (.nx (r.set i (some (.l .ow (xs.set j (.int (v + d))))))) := by
  rw [ap_kAug]
  simp only [h1, vInt, Option.bind_some, h2, h3, h4, h5]
/-- the state of the filling -/
def ρP (n : Nat) (wa : Av) (s : (Nat → Int) × Option Av × Option Av × Option Av × Option Av) : Rho := [some (.i n), some wa, some (.l .ow ((List.range n).map fun h => .int (s.1 h))), none, s.2.1, s.2.2.1, s.2.2.2.1, s.2.2.2.2]
theorem fold_add (f w : Int) (g : (Nat → Int) × Option Av × Option Av × Option Av × Option Av) : ∀ k : Nat, 0 ≤ f → ((List.range k).foldl (fun (s : (Nat → Int) × Option Av × Option Av × Option Av × Option Av) (m : Nat) => ((fun h => if h = (f + (m : Int)).toNat then s.1 h + w else s.1 h), s.2.1, some (.i (f + (m : Int))), s.2.2.2.1, s.2.2.2.2)) g).1 = (fun (h : Nat) => if f ≤ (h : Int) ∧ (h : Int) < f + k then g.1 h + w else g.1 h)
    ∧ ∀ x, ((List.range k).foldl (fun (s : (Nat → Int) × Option Av × Option Av × Option Av × Option Av) (m : Nat) => ((fun h => if h = (f + (m : Int)).toNat then s.1 h + w else s.1 h), s.2.1, some (.i (f + (m : Int))), s.2.2.2.1, s.2.2.2.2)) g).2.1 = x ↔ g.2.1 = x
  | 0, _ => ⟨by funext h; simp; intro a b; omega, fun x => Iff.rfl⟩
  | k + 1, h0 => by
    obtain ⟨ih, ih2⟩ := fold_add f w g k h0
    rw [List.range_succ, List.foldl_append]
    refine ⟨?_, fun x => by simpa using ih2 x⟩
    funext h
    simp only [List.foldl_cons, List.foldl_nil, ih]
    have e : (h = (f + (k : Int)).toNat) ↔ (h : Int) = f + k := by omega
    simp only [e]
    by_cases c1 : (h : Int) = f + k
    · rw [if_pos c1, if_neg (by omega), if_pos (by omega)]
    · rw [if_neg c1]
      by_cases c2 : f ≤ (h : Int) ∧ (h : Int) < f + k
      · rw [if_pos c2, if_pos (by omega)]
      · rw [if_neg c2, if_neg (by omega)]
/-- one weight laid -/
theorem lay_one (n : Nat) (hn : n ≤ 8) (wa : Av) (s : (Nat → Int) × Option Av × Option Av × Option Av × Option Av) (e : (Int × Int) × Int) (h1 : 0 ≤ e.1.1) (h2 : e.1.1 ≤ e.1.2) (h3 : e.1.2 < n) :
    ∃ s', ((gTp [(gTp [(gNm 6), (gNm 7)]), (gNm 4)] (itemD e) (ρP n wa s)).bind (kFor [] (iRange2 (sVar 6) (s2 oAdd (sVar 7) (sK (.i 1)))) (gNm 5) (kAug 2 (sVar 5) (sVar 4)))) = some (.nx (ρP n wa s')) ∧ s'.1 = fun (h : Nat) => if e.1.1 ≤ (h : Int) ∧ (h : Int) ≤ e.1.2 then s.1 h + e.2 else s.1 h := by
  have hk : (e.1.2 + 1 - e.1.1).toNat = (e.1.2 - e.1.1).toNat + 1 := by omega
  let s0 : (Nat → Int) × Option Av × Option Av × Option Av × Option Av := (s.1, some (.i e.2), s.2.2.1, some (.i e.1.1), some (.i e.1.2))
  have hg : gTp [(gTp [(gNm 6), (gNm 7)]), (gNm 4)] (itemD e) (ρP n wa s) = some (ρP n wa s0) := rfl
  have hi : iRange2 (sVar 6) (s2 oAdd (sVar 7) (sK (.i 1))) (frz (ρP n wa s0) []) = some (true, (List.range ((e.1.2 - e.1.1).toNat + 1)).map fun (m : Nat) => Dt.int (e.1.1 + (m : Int))) := iRange2_ev (i := e.1.1) (j := e.1.2 + 1) rfl rfl (by omega) (by omega) hk
  have fo := forGo_fold (g := gNm 5) (b := kAug 2 (sVar 5) (sVar 4)) (fun (m : Nat) => Dt.int (e.1.1 + (m : Int))) (ρP n wa)
    (fun (s : (Nat → Int) × Option Av × Option Av × Option Av × Option Av) (m : Nat) => ((fun h => if h = (e.1.1 + (m : Int)).toNat then s.1 h + e.2 else s.1 h), s.2.1, some (.i (e.1.1 + (m : Int))), s.2.2.2.1, s.2.2.2.2)) (zs := List.range ((e.1.2 - e.1.1).toNat + 1)) (s := s0) (fun t => t.2.1 = some (.i e.2)) rfl (fun t ht m hm => ⟨ht, ?_⟩)
  · obtain ⟨f1, f2⟩ := fold_add e.1.1 e.2 s0 ((e.1.2 - e.1.1).toNat + 1) h1
    have fo1 := fo.1
    generalize (List.range ((e.1.2 - e.1.1).toNat + 1)).foldl _ s0 = S' at fo1 f1
    refine ⟨S', ?_, ?_⟩
    · rw [hg, Option.bind_some, kFor_ev hi]
      exact fo1
    · rw [f1]
      funext h
      have : (e.1.1 ≤ (h : Int) ∧ (h : Int) < e.1.1 + ((e.1.2 - e.1.1).toNat + 1 : Nat)) ↔ (e.1.1 ≤ (h : Int) ∧ (h : Int) ≤ e.1.2) := by omega
      simp only [this]
      rfl
  · have hm := List.mem_range.mp hm
    show ((some ((ρP n wa t).set 5 (some (.i (e.1.1 + (m : Int)))))).bind _) = _
    rw [Option.bind_some]
    have hj : (e.1.1 + (m : Int)).toNat < n := by omega
    have ht' : (ρP n wa t).set 5 (some (.i (e.1.1 + (m : Int)))) = ρP n wa (t.1, t.2.1, some (.i (e.1.1 + (m : Int))), t.2.2.2.1, t.2.2.2.2) := rfl
    rw [ht']
    rw [kAug_ev (k := e.1.1 + (m : Int)) (j := (e.1.1 + (m : Int)).toNat) (v := t.1 (e.1.1 + (m : Int)).toNat) (d := e.2) rfl rfl (by rw [List.length_map, List.length_range]; exact ixA_pos (by omega) (by omega)) (by rw [List.getElem?_map, List.getElem?_range hj]; rfl) (by rw [ρP, ht]; rfl), set_range]
    have : ∀ h : Nat, (if h = (e.1.1 + (m : Int)).toNat then Dt.int (t.1 (e.1.1 + (m : Int)).toNat + e.2) else .int (t.1 h)) = .int (if h = (e.1.1 + (m : Int)).toNat then t.1 h + e.2 else t.1 h) := fun h => by
      by_cases c : h = (e.1.1 + (m : Int)).toNat
      · rw [if_pos c, if_pos c, c]
      · rw [if_neg c, if_neg c]
    simp only [this]
    rfl
/-- prices out of weights, the list of them -/
def layL (n : Nat) (ws : Lt) : List Int := (List.range n).map fun (h : Nat) => sm ws fun e => if e.1.1 ≤ (h : Int) ∧ (h : Int) ≤ e.1.2 then e.2 else 0
theorem lay_all (n : Nat) (hn : n ≤ 8) (wa : Av) : ∀ (ws : Lt) (s : (Nat → Int) × Option Av × Option Av × Option Av × Option Av), InDay n ws →
    ∃ s', forGo (gTp [(gTp [(gNm 6), (gNm 7)]), (gNm 4)]) (kFor [] (iRange2 (sVar 6) (s2 oAdd (sVar 7) (sK (.i 1)))) (gNm 5) (kAug 2 (sVar 5) (sVar 4))) (ws.map itemD) (ρP n wa s) = some (.nx (ρP n wa s')) ∧ s'.1 = fun (h : Nat) => s.1 h + sm ws fun e => if e.1.1 ≤ (h : Int) ∧ (h : Int) ≤ e.1.2 then e.2 else 0
  | [], s, _ => ⟨s, rfl, by funext h; simp [sm]⟩
  | e :: ws, s, hd => by
    obtain ⟨h1, h2, h3⟩ := hd e (List.mem_cons_self ..)
    obtain ⟨s1, f1, f2⟩ := lay_one n hn wa s e h1 h2 h3
    obtain ⟨s2, f3, f4⟩ := lay_all n hn wa ws s1 fun x hx => hd x (List.mem_cons_of_mem _ hx)
    refine ⟨s2, ?_, ?_⟩
    · rw [List.map_cons, forGo]
      cases hg : gTp [(gTp [(gNm 6), (gNm 7)]), (gNm 4)] (itemD e) (ρP n wa s) with
      | none => rw [hg] at f1; cases f1
      | some r1 =>
        rw [hg, Option.bind_some] at f1
        rw [Option.bind_some, f1, Option.bind_some]
        exact f3
    · rw [f4, f2]
      funext h
      rw [sm_cons]
      show (if e.1.1 ≤ (h : Int) ∧ (h : Int) ≤ e.1.2 then s.1 h + e.2 else s.1 h) + _ = _
      split <;> omega
end S67

/-! MH: prices_of. -/
namespace S67
theorem layL_len (n : Nat) (ws : Lt) : (layL n ws).length = n := by simp [layL]
theorem rep0 (n : Nat) : (List.replicate n [Dt.int 0]).flatten = (List.range n).map fun _ => Dt.int 0 := by
  induction n with
  | zero => rfl
  | succ n ih =>
    rw [List.replicate_succ', List.flatten_append, ih, List.range_succ, List.map_append]
    rfl
theorem notOw_pA (b : Bool) (ds : List Dt) : notOw (pA b ds) = true := by cases b <;> rfl
theorem iSeq1_pA (b : Bool) (ds : List Dt) (x : Option Av) (rest : Rho) : iSeq (sVar 1) (x :: some (pA b ds) :: rest) = some (true, ds) := by
  rw [ap_iSeq, sVar1_pA, Option.bind_some, vSeq_pA, Option.map_some, notOw_pA]
theorem oEq_items (k q : Fl) (ws : Lt) : oEq (.l k (ws.map itemD)) (.l q (ws.map itemD)) = some (.b true) := by
  have h : min (dpts (ws.map itemD)) (dpts (ws.map itemD)) ≤ 32 := by
    rw [Nat.min_self]
    exact Nat.le_trans (dpts_map itemD dpt_item ws) (by decide)
  rw [oEq, eqA, if_pos h, (eqDs_iff _ _ (plain_map itemD plain_item ws) (plain_map itemD plain_item ws)).mpr rfl]
  rfl
theorem prices_of_eq (n : Nat) (hn : n ≤ 8) (b : Bool) (ws : Lt) (hd : InDay n ws) (hs : (ws.map (·.1)).Pairwise ltS) (hl : ws.length ≤ 36) (hw : wts (layL n ws) = ws) : F_prices_of [.i n, pA b (ws.map itemD)] = some (.d (tupI (layL n ws))) := by
  obtain ⟨s', f1, f2⟩ := lay_all n hn (pA b (ws.map itemD)) ws ((fun _ => 0), none, none, none, none) hd
  have hφ : (List.range n).map (fun h => Dt.int (s'.1 h)) = (layL n ws).map .int := by
    rw [f2, layL, List.map_map]
    refine List.map_congr_left fun h _ => ?_
    simp
  have e1 : kSet 2 (xP (s2 oMul (sLst [(sK (.i 0))]) (sVar 0))) (startR 8 [.i n, pA b (ws.map itemD)]) = some (.nx (ρP n (pA b (ws.map itemD)) ((fun _ => 0), none, none, none, none))) := by
    refine (kSet_p (a := .l .fr ((List.range n).map fun _ => Dt.int 0)) (b := .l .ow ((List.range n).map fun _ => Dt.int 0)) (s2_ev (a := .l .fr [.int 0]) (b := .i n) rfl rfl ?_) rfl).trans rfl
    rw [oMul, if_pos ⟨by decide, by omega, by omega, by simp; omega⟩, Int.toNat_natCast, rep0]
  have e2 : kFor [] (iSeq (sVar 1)) (gTp [(gTp [(gNm 6), (gNm 7)]), (gNm 4)]) (kFor [] (iRange2 (sVar 6) (s2 oAdd (sVar 7) (sK (.i 1)))) (gNm 5) (kAug 2 (sVar 5) (sVar 4))) (ρP n (pA b (ws.map itemD)) ((fun _ => 0), none, none, none, none)) = some (.nx (ρP n (pA b (ws.map itemD)) s')) := by
    rw [kFor_ev (xs := ws.map itemD) (iSeq1_pA _ _ _ _)]
    exact f1
  have e3 : sLc [4, 6, 7] (iSeq (sVar 1)) (gTp [(gTp [(gNm 6), (gNm 7)]), (gNm 4)]) bYes (sTup [(sTup [(sVar 6), (sVar 7)]), (sVar 4)]) (ρP n (pA b (ws.map itemD)) s') = some (.l .fr (ws.map itemD)) :=
    sLc_map itemD _ (iSeq1_pA _ _ _ _) (by omega) fun e _ => ⟨_, rfl, rfl⟩
  have e4 : kSet 3 (xP (s1 cSortL (sLc [4, 6, 7] (iSeq (sVar 1)) (gTp [(gTp [(gNm 6), (gNm 7)]), (gNm 4)]) bYes (sTup [(sTup [(sVar 6), (sVar 7)]), (sVar 4)])))) (ρP n (pA b (ws.map itemD)) s') = some (.nx ((ρP n (pA b (ws.map itemD)) s').set 3 (some (.l .ow (ws.map itemD))))) := by
    refine kSet_p (a := .l .fr (ws.map itemD)) (s1_ev e3 ?_) rfl
    rw [cSortL, if_pos (by rw [List.length_map]; omega), sortD_items hs]
    rfl
  have e5 : sCall F_weights_of [(sVar 2)] ((ρP n (pA b (ws.map itemD)) s').set 3 (some (.l .ow (ws.map itemD)))) = some (.d (.tup (ws.map itemD))) := by
    refine call1_ev (x := .l .ow ((List.range n).map fun h => .int (s'.1 h))) (a := pA false ((layL n ws).map .int)) rfl ?_ ?_
    · rw [hφ]; rfl
    · have := weights_of_eq false (layL n ws) (by rw [layL_len]; exact hn)
      rw [hw] at this
      exact this
  have e6 : sIf (bOf (s2 oEq (s1 cList (sCall F_weights_of [(sVar 2)])) (sVar 3))) (s1 cTuple (sVar 2)) (sK (.d .non)) ((ρP n (pA b (ws.map itemD)) s').set 3 (some (.l .ow (ws.map itemD)))) = some (.d (tupI (layL n ws))) := by
    refine sIf_ev (c := true) (bOf_ev (s2_ev (a := .l .fr (ws.map itemD)) (b := .l .ow (ws.map itemD)) (s1_ev e5 rfl) rfl (oEq_items _ _ _))) ?_
    rw [if_pos rfl]
    refine s1_ev (a := .l .ow ((List.range n).map fun h => .int (s'.1 h))) rfl ?_
    rw [hφ]
    rfl
  exact runP_rt (kSeq_nx e1 (kSeq_nx e2 (kSeq_nx e4 (kRet_ev e6 rfl))))
end S67

/-! MI: the rows that tell. -/
namespace S67
theorem forGo_foldI {α σ : Type} {g : SG} {b : SS} (enc : α → Dt) (ρ : σ → Rho) (step : σ → α → σ) (P : Nat → σ → Prop) (N : Nat) : ∀ {zs : List α} {s : σ} {i : Nat}, i + zs.length ≤ N → P i s → (∀ j s, P j s → j < N → ∀ z ∈ zs, P (j + 1) (step s z) ∧ ((g (enc z) (ρ s)).bind b) = some (.nx (ρ (step s z)))) → forGo g b (zs.map enc) (ρ s) = some (.nx (ρ (zs.foldl step s))) ∧ P (i + zs.length) (zs.foldl step s)
  | [], s, i, _, hp, _ => ⟨rfl, hp⟩
  | z :: zs, s, i, hN, hp, h => by
    rw [List.length_cons] at hN
    obtain ⟨h1, h2⟩ := h i s hp (by omega) z (List.mem_cons_self ..)
    have ih := forGo_foldI (zs := zs) enc ρ step P N (by omega) h1 fun j s hs hj z hz => h j s hs hj z (List.mem_cons_of_mem _ hz)
    refine ⟨?_, by rw [List.length_cons, show i + (zs.length + 1) = i + 1 + zs.length by omega]; exact ih.2⟩
    rw [List.map_cons, forGo]
    cases hg : g (enc z) (ρ s) with
    | none => rw [hg] at h2; cases h2
    | some r1 =>
      rw [hg, Option.bind_some] at h2
      rw [Option.bind_some, h2, Option.bind_some]
      exact ih.1
theorem kApp_ev {i : Nat} {f : SE} {r : Rho} {xs : List Dt} {v : Dt} (h : owAt r i = some xs) (h1 : f r = some (.d v)) (hl : xs.length < 1000000) : kApp i (xP f) r = some (.nx (r.set i (some (.l .ow (xs ++ [v]))))) := by
  rw [ap_kApp, ap_xP]
  simp only [h, h1, Option.bind_some, vFree, Option.map_some, vDat, if_pos hl]
/-! ### powers -/
theorem natAbs_lt_pow {b : Int} {a : Nat} (h : b.natAbs < 2 ^ a) (k : Nat) : (b ^ k).natAbs < 2 ^ (a * k + 1) := by
  rw [Int.natAbs_pow]
  have h1 : b.natAbs ^ k ≤ (2 ^ a) ^ k := Nat.pow_le_pow_left (Nat.le_of_lt h) k
  rw [← Nat.pow_mul] at h1
  have h2 : 2 ^ (a * k) < 2 ^ (a * k + 1) := Nat.pow_lt_pow_right (by decide) (by omega)
  omega
theorem last_pow (b : Int) (k : Nat) (q : Fl) : oIxS (.l q ((List.range (k + 1)).map fun i => Dt.int (b ^ i))) (.i (-1)) = some (.i (b ^ k)) := by
  have e : ixA ((List.range (k + 1)).map fun i => Dt.int (b ^ i)).length (-1) = some k := by
    rw [List.length_map, List.length_range, ixA, if_neg (by decide), if_pos (by omega)]
    congr 1
    omega
  show ((ixA _ (-1)).bind _).map Av.d = _
  rw [e, Option.bind_some, List.getElem?_map, List.getElem?_range (by omega)]
  rfl
theorem powers_eq (b : Int) (m : Nat) (h1 : 1 ≤ m) (h2 : m ≤ 40) (hb : b.natAbs < 2 ^ 200) : F_powers [.i b, .i m] = some (.l .fr ((List.range m).map fun i => .int (b ^ i))) := by
  let ρ : Nat × Option Av → Rho := fun s => [some (.i b), some (.i m), some (.l .ow ((List.range (s.1 + 1)).map fun i => Dt.int (b ^ i))), s.2]
  have lp := forGo_foldI (g := gNm 3) (b := kApp 2 (xP (s2 oMul (s2 oIxS (sVar 2) (s1 oNeg (sK (.i 1)))) (sVar 0)))) (fun (i : Nat) => Dt.int (i : Int)) ρ (fun (s : Nat × Option Av) (i : Nat) => (s.1 + 1, some (.i (i : Int)))) (fun j s => s.1 = j) 40 (zs := List.range (m - 1)) (s := (0, none)) (i := 0) (by rw [List.length_range]; omega) rfl (fun j s hs hj i hi => ⟨by show s.1 + 1 = j + 1; rw [hs], ?_⟩)
  · obtain ⟨f1, f2⟩ := lp
    rw [List.length_range, Nat.zero_add] at f2
    have e1 : kFor [] (iRange1 (s2 oSub (sVar 1) (sK (.i 1)))) (gNm 3) (kApp 2 (xP (s2 oMul (s2 oIxS (sVar 2) (s1 oNeg (sK (.i 1)))) (sVar 0)))) (ρ (0, none)) = some (.nx (ρ ((List.range (m - 1)).foldl (fun (s : Nat × Option Av) (i : Nat) => (s.1 + 1, some (.i (i : Int)))) (0, none)))) := by
      rw [kFor_ev (iRange1_ev (n := m - 1) (by show some ((m : Int) - 1) = _; congr 1; omega) (by omega))]
      exact f1
    have e2 : kSet 2 (xP (sLst [(sK (.i 1))])) (startR 4 [.i b, .i m]) = some (.nx (ρ (0, none))) := by
      show _ = some (Out.nx [some (.i b), some (.i m), some (.l .ow ((List.range 1).map fun i => Dt.int (b ^ i))), none])
      rw [show (List.range 1).map (fun i => Dt.int (b ^ i)) = [.int 1] by simp [List.range_succ]]
      rfl
    refine runP_rt (kSeq_nx e2 (kSeq_nx e1 (kRet_ev (a := .l .ow ((List.range m).map fun i => .int (b ^ i))) ?_ rfl)))
    show some (Av.l .ow _) = _
    rw [f2, show m - 1 + 1 = m by omega]
  · show kApp 2 _ [some (.i b), some (.i m), some (.l .ow ((List.range (s.1 + 1)).map fun i => Dt.int (b ^ i))), some (.i i)] = _
    rw [kApp_ev (xs := (List.range (s.1 + 1)).map fun i => Dt.int (b ^ i)) (v := .int (b ^ s.1 * b)) rfl (s2_ev (s2_ev (a := .l .ow ((List.range (s.1 + 1)).map fun i => Dt.int (b ^ i))) (b := .i (-1)) rfl rfl (last_pow b s.1 .ow)) rfl ?_) (by rw [List.length_map, List.length_range]; omega)]
    · have : (List.range (s.1 + 1 + 1)).map (fun i => Dt.int (b ^ i)) = ((List.range (s.1 + 1)).map fun i => Dt.int (b ^ i)) ++ [.int (b ^ s.1 * b)] := by
        rw [List.range_succ, List.map_append]
        simp [Int.pow_succ]
      show _ = some (Out.nx [_, _, some (.l .ow ((List.range (s.1 + 1 + 1)).map fun i => Dt.int (b ^ i))), _])
      rw [this]
      rfl
    · rw [oMul, if_pos (mulOk_bits _ _ (natAbs_lt_pow hb s.1) hb (by omega))]
/-! ### rows -/
def inRow (n row : Nat) (s : Int × Int) : Bool := decide (s = (0, (n : Int) - 1)) || decide ((s.1 + s.2 + 2) % ((n : Int) + 2) = (2 * (row : Int)) % ((n : Int) + 2)) || decide ((s.1 + s.2 + 2) % ((n : Int) + 2) = (2 * (row : Int) + 1) % ((n : Int) + 2))
def srow (n row : Nat) : List (Int × Int) := (stz n).filter (inRow n row)
/-- the cases of hour and row -/
def rowsAll : List (Nat × Nat) := [(1, 0), (2, 0), (2, 1), (3, 0), (3, 1), (3, 2), (4, 0), (4, 1), (4, 2), (5, 0), (5, 1), (5, 2), (5, 3), (6, 0), (6, 1), (6, 2), (6, 3), (7, 0), (7, 1), (7, 2), (7, 3), (7, 4), (8, 0), (8, 1), (8, 2), (8, 3), (8, 4)]
theorem rows_mem : ∀ n ∈ List.range 9, 1 ≤ n → ∀ r ∈ List.range (rowsN n), (n, r) ∈ rowsAll := by decide
theorem row_mem {n r : Nat} (h1 : 1 ≤ n) (h : n ≤ 8) (hr : r < rowsN n) : (n, r) ∈ rowsAll := rows_mem n (List.mem_range.mpr (by omega)) h1 r (List.mem_range.mpr hr)
theorem spans_in_row_eq : ∀ x ∈ rowsAll, F_spans_in_row [.i (x.1 : Nat), .i (x.2 : Nat)] = some (.l .fr ((srow x.1 x.2).map pD)) := by
  intro x hx
  simp only [rowsAll, List.mem_cons, List.not_mem_nil, or_false] at hx
  rcases hx with rfl | rfl | rfl | rfl | rfl | rfl | rfl | rfl | rfl | rfl | rfl | rfl | rfl | rfl | rfl | rfl | rfl | rfl | rfl | rfl | rfl | rfl | rfl | rfl | rfl | rfl | rfl <;> rfl
theorem spans_row {n r : Nat} (hx : (n, r) ∈ rowsAll) : F_spans_in_row [.i n, .i r] = some (.l .fr ((srow n r).map pD)) := spans_in_row_eq (n, r) hx
theorem rows_tell : ∀ x ∈ rowsAll, Tells x.1 (srow x.1 x.2) ∧ 1 ≤ (srow x.1 x.2).length ∧ (srow x.1 x.2).length ≤ 36 := by decide +kernel
theorem rows_cover : ∀ n ∈ List.range 9, ∀ s ∈ stz n, ∃ r ∈ List.range (rowsN n), s ∈ srow n r := by decide +kernel
/-- the weights of a row -/
def rowW (n r : Nat) (b : Int) : Lt := (srow n r).map fun s => (s, b ^ (srow n r).idxOf s)
/-- the prices of a row -/
def rowP (n r : Nat) (b : Int) : List Int := layL n (rowW n r b)
theorem layL_found (n : Nat) (S : List (Int × Int)) (ω : Int × Int → Int) : layL n (S.map fun s => (s, ω s)) = found n S ω := by
  unfold layL found
  refine List.map_congr_left fun h _ => ?_
  rw [sm_map]
theorem pow_pos' {b : Int} (hb : 0 < b) (k : Nat) : 0 < b ^ k := Int.pow_pos hb
theorem wts_row {n r : Nat} (hn : n ≤ 8) (hx : (n, r) ∈ rowsAll) {b : Int} (hb : 0 < b) : wts (rowP n r b) = rowW n r b := by
  unfold rowP rowW
  rw [layL_found]
  exact wts_found hn rfl (fun s _ => pow_pos' hb _) (rows_tell _ hx).1
theorem srow_nodup {n r : Nat} (hn : n ≤ 8) : (srow n r).Nodup := (stz_nodup hn).sublist List.filter_sublist
theorem zip_row {n r : Nat} (hn : n ≤ 8) (b : Int) : zip2D ((srow n r).map pD) ((List.range (srow n r).length).map fun i => Dt.int (b ^ i)) = (rowW n r b).map itemD := by
  apply List.ext_getElem
  · simp [zip2D, rowW]
  · intro i h1 h2
    have hi : i < (srow n r).length := by simpa [rowW] using h2
    simp only [zip2D, rowW, List.getElem_zipWith, List.getElem_map, List.getElem_range]
    rw [(srow_nodup hn).idxOf_getElem]
    rfl
theorem rowW_day {n r : Nat} (b : Int) : InDay n (rowW n r b) := by
  intro e he
  obtain ⟨s, hs, rfl⟩ := List.mem_map.mp he
  exact mem_stz.mp (List.mem_filter.mp hs).1
theorem rowW_sorted {n r : Nat} (hn : n ≤ 8) (b : Int) : ((rowW n r b).map (·.1)).Pairwise ltS := by
  unfold rowW
  rw [List.map_map]
  have : ((fun x : (Int × Int) × Int => x.1) ∘ fun s : Int × Int => (s, b ^ (srow n r).idxOf s)) = id := rfl
  rw [this, List.map_id]
  exact (stz_sorted hn).sublist List.filter_sublist
theorem prices_row {n r : Nat} (hn : n ≤ 8) (hx : (n, r) ∈ rowsAll) {b : Int} (hb : 0 < b) : F_prices_of [.i n, .l .ro ((rowW n r b).map itemD)] = some (.d (tupI (rowP n r b))) :=
  prices_of_eq n hn false (rowW n r b) (rowW_day b) (rowW_sorted hn b) (by rw [rowW, List.length_map]; exact (rows_tell _ hx).2.2) (wts_row hn hx hb)
theorem rowsN_le {n : Nat} (h : n ≤ 8) : rowsN n ≤ 5 := by
  unfold rowsN
  split <;> omega
theorem telling_rows_eq (n : Nat) (h1 : 1 ≤ n) (hn : n ≤ 8) (most : Int) (hm : 0 ≤ most) (hb : (most + 1).natAbs < 2 ^ 200) : F_telling_rows [.i n, .i most] = some (.d (.tup ((List.range (rowsN n)).map fun r => tupI (rowP n r (most + 1))))) := by
  let body : SS := kSeq (kSet 4 (xP (sCall F_spans_in_row [(sVar 0), (sVar 3)]))) (kApp 2 (xP (sCall F_prices_of [(sVar 0), (sListZip (sVar 4) (sCall F_powers [(s2 oAdd (sVar 1) (sK (.i 1))), (s1 cLen (sVar 4))]))])))
  let ρ : List Dt × Option Av × Option Av → Rho := fun s => [some (.i n), some (.i most), some (.l .ow s.1), s.2.1, s.2.2]
  have lp := forGo_foldI (g := gNm 3) (b := body) (fun (i : Nat) => Dt.int (i : Int)) ρ (fun (s : List Dt × Option Av × Option Av) (i : Nat) => (s.1 ++ [tupI (rowP n i (most + 1))], some (.i (i : Int)), some (.l .ow ((srow n i).map pD)))) (fun j s => s.1.length = j) 5 (zs := List.range (rowsN n)) (s := ([], none, none)) (i := 0) (by rw [List.length_range]; have := rowsN_le hn; omega) rfl (fun j s hs hj r hr => ⟨by simp [hs], ?_⟩)
  · obtain ⟨f1, f2⟩ := lp
    have e1 : kFor [] (iRange1 (sCall F_fewest_rows [(sVar 0)])) (gNm 3) body (ρ ([], none, none)) = some (.nx (ρ ((List.range (rowsN n)).foldl (fun (s : List Dt × Option Av × Option Av) (i : Nat) => (s.1 ++ [tupI (rowP n i (most + 1))], some (.i (i : Int)), some (.l .ow ((srow n i).map pD)))) ([], none, none)))) := by
      have e0 : sCall F_fewest_rows [(sVar 0)] (ρ ([], none, none)) = some (.i (rowsN n : Nat)) := call1_ev rfl rfl (fewest_rows_eq n hn)
      rw [kFor_ev (iRange1_ev (n := rowsN n) (by rw [show frz (ρ ([], none, none)) [] = ρ ([], none, none) from rfl, e0]; rfl) (by have := rowsN_le hn; omega))]
      exact f1
    have ff : ∀ (zs : List Nat) (s : List Dt × Option Av × Option Av), (zs.foldl (fun (s : List Dt × Option Av × Option Av) (i : Nat) => (s.1 ++ [tupI (rowP n i (most + 1))], some (.i (i : Int)), some (.l .ow ((srow n i).map pD)))) s).1 = s.1 ++ zs.map fun r => tupI (rowP n r (most + 1)) := by
      intro zs
      induction zs with
      | nil => intro s; simp
      | cons z zs ih => intro s; rw [List.foldl_cons, ih]; simp
    refine runP_rt (kSeq_nx (kSet_p (a := .l .fr []) rfl rfl) (kSeq_nx e1 (kRet_ev (s1_ev (a := .l .ow ((List.range (rowsN n)).map fun r => tupI (rowP n r (most + 1)))) ?_ rfl) rfl)))
    show some (Av.l .ow _) = _
    rw [ff]
    rfl
  · have hr := List.mem_range.mp hr
    have hx := row_mem h1 hn hr
    have hlen : 1 ≤ (srow n r).length ∧ (srow n r).length ≤ 36 := (rows_tell _ hx).2
    have hg : gNm 3 (Dt.int (r : Int)) (ρ s) = some [some (.i n), some (.i most), some (.l .ow s.1), some (.i r), s.2.2] := rfl
    rw [hg, Option.bind_some]
    have es : sCall F_spans_in_row [(sVar 0), (sVar 3)] [some (.i n), some (.i most), some (.l .ow s.1), some (.i r), s.2.2] = some (.l .fr ((srow n r).map pD)) := call2_ev (x := .i n) (y := .i r) (a := .i n) (b := .i r) rfl rfl rfl rfl (spans_row hx)
    have es2 : kSet 4 (xP (sCall F_spans_in_row [(sVar 0), (sVar 3)])) [some (.i n), some (.i most), some (.l .ow s.1), some (.i r), s.2.2] = some (.nx [some (.i n), some (.i most), some (.l .ow s.1), some (.i r), some (.l .ow ((srow n r).map pD))]) := kSet_p es rfl
    refine kSeq_nx es2 ?_
    have hz : sListZip (sVar 4) (sCall F_powers [(s2 oAdd (sVar 1) (sK (.i 1))), (s1 cLen (sVar 4))]) [some (.i n), some (.i most), some (.l .ow s.1), some (.i r), some (.l .ow ((srow n r).map pD))] = some (.l .fr ((rowW n r (most + 1)).map itemD)) := by
      have ep : sCall F_powers [(s2 oAdd (sVar 1) (sK (.i 1))), (s1 cLen (sVar 4))] [some (.i n), some (.i most), some (.l .ow s.1), some (.i r), some (.l .ow ((srow n r).map pD))] = some (.l .fr ((List.range (srow n r).length).map fun i => .int ((most + 1) ^ i))) :=
        call2_ev (x := .i (most + 1)) (y := .i ((srow n r).length : Nat)) rfl (s1_ev (a := .l .ow ((srow n r).map pD)) rfl (by rw [cLen]; simp [vSeq])) rfl rfl (powers_eq (most + 1) (srow n r).length hlen.1 (by omega) hb)
      rw [ap_sListZip, ap_iZip2]
      rw [show sVar 4 [some (.i n), some (.i most), some (.l .ow s.1), some (.i r), some (.l .ow ((srow n r).map pD))] = some (.l .ow ((srow n r).map pD)) from rfl, ep]
      simp only [Option.bind_some, vSeq, Option.map_some, zip_row hn]
    refine (kApp_ev (xs := s.1) (v := tupI (rowP n r (most + 1))) rfl (call2_ev rfl hz rfl rfl (prices_row hn hx (by omega))) (by rw [hs]; omega)).trans rfl
end S67

/-! MJ: figures, tables that are read back. -/
namespace S67
theorem iZip2_ev {f g : SE} {r : Rho} {a b : Av} {xs ys : List Dt} (h1 : f r = some a) (h2 : g r = some b) (h3 : vSeq a = some xs) (h4 : vSeq b = some ys) : iZip2 f g r = some (notOw a && notOw b, zip2D xs ys) := by
  rw [ap_iZip2, h1, Option.bind_some, h2, Option.bind_some, h3, Option.bind_some, h4]
  rfl
theorem sDictZip_ev {f g : SE} {r : Rho} {fl : Bool} {zs : List Dt} {m : Lt} (h1 : iZip2 f g r = some (fl, zs)) (h2 : zs.length ≤ 1000000) (h3 : mPuts zs [] = some m) : sDictZip f g r = some (.m .fr m) := by
  rw [ap_sDictZip, h1, Option.bind_some, if_pos h2, h3]
  rfl
/-! ### figures -/
def val (b : Int) : List Int → Int
  | [] => 0
  | d :: ds => d + b * val b ds
theorem val_mod {b d v : Int} (h0 : 0 ≤ d) (h1 : d < b) : (d + b * v) % b = d := by
  rw [Int.add_mul_emod_self_left]
  exact Int.emod_eq_of_lt h0 h1
theorem val_div {b d v : Int} (h0 : 0 ≤ d) (h1 : d < b) : (d + b * v) / b = v := by
  have hb : b ≠ 0 := by omega
  rw [Int.add_mul_ediv_left _ _ hb, Int.ediv_eq_zero_of_lt h0 h1]
  omega
def ρF (b m N : Int) (acc : List Int) (s4 : Option Av) : Rho := [some (.i N), some (.i b), some (.i m), some (.l .ow (acc.map .int)), s4]
abbrev figB : SS := kSeq (kApp 3 (xP (s2 oMod (sVar 0) (sVar 1)))) (kSet 0 (xP (s2 oFdiv (sVar 0) (sVar 1))))
theorem fig_loop (b m : Int) (hb : b.natAbs < 2 ^ 200) : ∀ (ds : List Int) (zs : List Nat) (acc : List Int) (s4 : Option Av), zs.length = ds.length → (∀ d ∈ ds, 0 ≤ d ∧ d < b) → acc.length + ds.length ≤ 1000 →
    ∃ s4', forGo (gNm 4) figB (zs.map fun (i : Nat) => Dt.int (i : Int)) (ρF b m (val b ds) acc s4) = some (.nx (ρF b m 0 (acc ++ ds) s4'))
  | [], [], acc, s4, _, _, _ => ⟨s4, by rw [List.append_nil]; rfl⟩
  | [], _ :: _, _, _, h, _, _ => by simp at h
  | _ :: _, [], _, _, h, _, _ => by simp at h
  | d :: ds, z :: zs, acc, s4, hl, hd, hc => by
    obtain ⟨h0, h1⟩ := hd d (List.mem_cons_self ..)
    rw [List.length_cons] at hc
    obtain ⟨s4', ih⟩ := fig_loop b m hb ds zs (acc ++ [d]) (some (.i z)) (by simpa using hl) (fun x hx => hd x (List.mem_cons_of_mem _ hx)) (by rw [List.length_append, List.length_singleton]; omega)
    refine ⟨s4', ?_⟩
    rw [List.map_cons, forGo]
    have hg : gNm 4 (Dt.int (z : Int)) (ρF b m (val b (d :: ds)) acc s4) = some (ρF b m (val b (d :: ds)) acc (some (.i z))) := rfl
    rw [hg, Option.bind_some]
    have hlog : b.natAbs.log2 < 9000 := Nat.lt_of_le_of_lt (log2_le hb) (by decide)
    have e1 : kApp 3 (xP (s2 oMod (sVar 0) (sVar 1))) (ρF b m (val b (d :: ds)) acc (some (.i z))) = some (.nx (ρF b m (val b (d :: ds)) (acc ++ [d]) (some (.i z)))) := by
      rw [kApp_ev (xs := acc.map .int) (v := .int d) rfl (s2_ev (a := .i (val b (d :: ds))) (b := .i b) rfl rfl ?_) (by rw [List.length_map]; omega)]
      · rw [ρF, ρF, List.map_append]; rfl
      · show (if 0 < b then some (Av.i (val b (d :: ds) % b)) else none) = _
        rw [if_pos (by omega), val, val_mod h0 h1]
    have e2 : kSet 0 (xP (s2 oFdiv (sVar 0) (sVar 1))) (ρF b m (val b (d :: ds)) (acc ++ [d]) (some (.i z))) = some (.nx (ρF b m (val b ds) (acc ++ [d]) (some (.i z)))) := by
      refine kSet_p (a := .i (val b ds)) (s2_ev (a := .i (val b (d :: ds))) (b := .i b) rfl rfl ?_) rfl
      show (if 0 < b ∧ b.natAbs.log2 < 9000 then some (Av.i (val b (d :: ds) / b)) else none) = _
      rw [if_pos ⟨by omega, hlog⟩, val, val_div h0 h1]
    have e12 : figB (ρF b m (val b (d :: ds)) acc (some (.i z))) = _ := kSeq_nx e1 e2
    rw [e12, Option.bind_some]
    have e : acc ++ d :: ds = acc ++ [d] ++ ds := by simp
    rw [e]
    exact ih
theorem figures_of_eq (b : Int) (ds : List Int) (hb : b.natAbs < 2 ^ 200) (hd : ∀ d ∈ ds, 0 ≤ d ∧ d < b) (hl : ds.length ≤ 100) : F_figures_of [.i (val b ds), .i b, .i (ds.length : Nat)] = some (.l .fr (ds.map .int)) := by
  obtain ⟨s4', h⟩ := fig_loop b (ds.length : Nat) hb ds (List.range ds.length) [] none (by rw [List.length_range]) hd (by simp; omega)
  have e1 : kSet 3 (xP (sLst [])) (startR 5 [.i (val b ds), .i b, .i (ds.length : Nat)]) = some (.nx (ρF b (ds.length : Nat) (val b ds) [] none)) := rfl
  have e2 : kFor [] (iRange1 (sVar 2)) (gNm 4) figB (ρF b (ds.length : Nat) (val b ds) [] none) = some (.nx (ρF b (ds.length : Nat) 0 ds s4')) := by
    rw [kFor_ev (iRange1_ev (n := ds.length) rfl (by omega))]
    exact h
  have e3 : sIf (bOf (s2 oEq (sVar 0) (sK (.i 0)))) (sVar 3) (sK (.d .non)) (ρF b (ds.length : Nat) 0 ds s4') = some (.l .ow (ds.map .int)) := rfl
  exact runP_rt (kSeq_nx e1 (kSeq_nx e2 (kRet_ev e3 rfl)))
/-! ### dicts -/
def mk (A : Int × Int → Int) (ks : List (Int × Int)) : Lt := ks.map fun k => (k, A k)
theorem mGet_mk (A : Int × Int → Int) (k : Int × Int) : ∀ ks : List (Int × Int), mGet (mk A ks) k = if k ∈ ks then some (A k) else none
  | [] => by simp [mGet, mk]
  | x :: ks => by
    have ih := mGet_mk A k ks
    unfold mGet mk at ih ⊢
    rw [List.map_cons, List.find?_cons]
    by_cases h : x = k
    · subst h; simp
    · have h2 : ¬ k = x := fun z => h z.symm
      simp only [h, decide_false, List.mem_cons, h2, false_or]
      exact ih
theorem mk_any (A : Int × Int → Int) (k : Int × Int) (ks : List (Int × Int)) : ((mk A ks).any fun e => decide (e.1 = k)) = decide (k ∈ ks) := by
  rw [Bool.eq_iff_iff, List.any_eq_true, decide_eq_true_iff]
  constructor
  · rintro ⟨e, he, h⟩
    obtain ⟨x, hx, rfl⟩ := List.mem_map.mp he
    have h : x = k := of_decide_eq_true h
    exact h ▸ hx
  · intro h
    exact ⟨(k, A k), List.mem_map.mpr ⟨k, h, rfl⟩, by simp⟩
theorem mPut_mk (A : Int × Int → Int) (k : Int × Int) (ks : List (Int × Int)) : mPut (mk A ks) k (A k) = mk A (if k ∈ ks then ks else ks ++ [k]) := by
  unfold mPut
  rw [mk_any]
  by_cases h : k ∈ ks
  · rw [if_pos (by simpa using h), if_pos h]
    unfold mk
    rw [List.map_map]
    refine List.map_congr_left fun x _ => ?_
    show (if x = k then _ else _) = _
    by_cases e : x = k
    · rw [if_pos e, e]
    · rw [if_neg e]
  · rw [if_neg (by simpa using h), if_neg h]
    unfold mk
    rw [List.map_append]
    rfl
theorem mPuts_mk (A : Int × Int → Int) : ∀ (xs ks : List (Int × Int)), (ks ++ xs).Nodup → mPuts (xs.map fun s => Dt.tup [pD s, .int (A s)]) (mk A ks) = some (mk A (ks ++ xs))
  | [], ks, _ => by rw [List.append_nil]; rfl
  | x :: xs, ks, h => by
    rw [List.map_cons, mPuts]
    show mPuts _ (mPut (mk A ks) x (A x)) = _
    have hx : x ∉ ks := fun hx => by
      rw [List.nodup_append] at h
      exact h.2.2 x hx x (List.mem_cons_self ..) rfl
    rw [mPut_mk, if_neg hx, mPuts_mk A xs (ks ++ [x]) (by rw [List.append_assoc]; exact h), List.append_assoc]
    rfl
theorem zip2D_map {α : Type} (f g : α → Dt) : ∀ xs : List α, zip2D (xs.map f) (xs.map g) = xs.map fun x => Dt.tup [f x, g x]
  | [] => rfl
  | x :: xs => by
    have ih := zip2D_map f g xs
    unfold zip2D at ih ⊢
    rw [List.map_cons, List.map_cons, List.zipWith_cons_cons, ih]
    rfl
/-- a table's entry, 0 where there is none -/
def at0 (n : Nat) (A : Int × Int → Int) (s : Int × Int) : Int := if s ∈ stz n then A s else 0
def one (n : Nat) (A : Int × Int → Int) (s : Int × Int) : Int := A s - (at0 n A (s.1 + 1, s.2) + at0 n A (s.1, s.2 - 1)) + at0 n A (s.1 + 1, s.2 - 1)
theorem get_at (n : Nat) (A : Int × Int → Int) (k : Int × Int) : (mGet (mk A (stz n)) k).getD 0 = at0 n A k := by
  rw [mGet_mk, at0]
  split <;> rfl
theorem singles_eq (n : Nat) (hn : n ≤ 8) (A : Int × Int → Int) (b : Bool) : F_singles [.i n, pA b ((stz n).map fun s => .int (A s))] = some (.d (.tup ((stz n).map fun s => .int (one n A s)))) := by
  let ρ : Fl → List Dt × Option Av × Option Av × Option Av → Rho := fun q s => [some (.i n), some (pA b ((stz n).map fun s => .int (A s))), some (.l q ((stz n).map pD)), some (.m .ow (mk A (stz n))), some (.l .ow s.1), s.2.1, s.2.2.1, s.2.2.2]
  let body : SS := (kSeq (kSet 7 (xP (s2 oAdd (s3 oGet (sVar 3) (sTup [(s2 oAdd (sVar 5) (sK (.i 1))), (sVar 6)]) (sK (.i 0))) (s3 oGet (sVar 3) (sTup [(sVar 5), (s2 oSub (sVar 6) (sK (.i 1)))]) (sK (.i 0))))))
    (kApp 4 (xP (s2 oAdd (s2 oSub (s2 oIxM (sVar 3) (sTup [(sVar 5), (sVar 6)])) (sVar 7)) (s3 oGet (sVar 3) (sTup [(s2 oAdd (sVar 5) (sK (.i 1))), (s2 oSub (sVar 6) (sK (.i 1)))]) (sK (.i 0)))))))
  have hlen := stz_len hn
  have lp := forGo_foldI (g := gTp [(gNm 5), (gNm 6)]) (b := body) pD (ρ .ro) (fun (s : List Dt × Option Av × Option Av × Option Av) (z : Int × Int) => (s.1 ++ [.int (one n A z)], some (.i z.1), some (.i z.2), some (.i (at0 n A (z.1 + 1, z.2) + at0 n A (z.1, z.2 - 1))))) (fun j s => s.1.length = j) 36 (zs := stz n) (s := ([], none, none, none)) (i := 0) (by omega) rfl (fun j s hs hj z hz => ⟨by simp [hs], ?_⟩)
  · obtain ⟨f1, f2⟩ := lp
    have ff : ∀ (zs : List (Int × Int)) (s : List Dt × Option Av × Option Av × Option Av), (zs.foldl (fun (s : List Dt × Option Av × Option Av × Option Av) (z : Int × Int) => (s.1 ++ [.int (one n A z)], some (.i z.1), some (.i z.2), some (.i (at0 n A (z.1 + 1, z.2) + at0 n A (z.1, z.2 - 1))))) s).1 = s.1 ++ zs.map fun z => .int (one n A z) := by
      intro zs
      induction zs with
      | nil => intro s; simp
      | cons z zs ih => intro s; rw [List.foldl_cons, ih]; simp
    have e1 : kSet 2 (xP (sCall F_all_stretches [(sVar 0)])) (startR 8 [.i n, pA b ((stz n).map fun s => .int (A s))]) = some (.nx [some (.i n), some (pA b ((stz n).map fun s => .int (A s))), some (.l .ow ((stz n).map pD)), none, none, none, none, none]) := kSet_p (call1_ev rfl rfl (all_stretches_eq n hn)) rfl
    have e2 : kPar 3 4 (xP (sDictZip (sVar 2) (sVar 1))) (xP (sLst [])) [some (.i n), some (pA b ((stz n).map fun s => .int (A s))), some (.l .ow ((stz n).map pD)), none, none, none, none, none] = some (.nx (ρ .ow ([], none, none, none))) := by
      have ed : sDictZip (sVar 2) (sVar 1) [some (.i n), some (pA b ((stz n).map fun s => .int (A s))), some (.l .ow ((stz n).map pD)), none, none, none, none, none] = some (.m .fr (mk A (stz n))) := by
        refine sDictZip_ev (iZip2_ev (a := .l .ow ((stz n).map pD)) rfl (sVar1_pA _ _ _ _) rfl (vSeq_pA _ _)) ?_ ?_
        · rw [zip2D_map, List.length_map]; omega
        · have := mPuts_mk A (stz n) [] (by rw [List.nil_append]; exact stz_nodup hn)
          rw [List.nil_append] at this
          rw [zip2D_map]
          exact this
      rw [ap_kPar, ap_xP, ed]
      rfl
    have e3 : kFor [2] (iSeq (sVar 2)) (gTp [(gNm 5), (gNm 6)]) body (ρ .ow ([], none, none, none)) = some (.nx (ρ .ro ((stz n).foldl (fun (s : List Dt × Option Av × Option Av × Option Av) (z : Int × Int) => (s.1 ++ [.int (one n A z)], some (.i z.1), some (.i z.2), some (.i (at0 n A (z.1 + 1, z.2) + at0 n A (z.1, z.2 - 1))))) ([], none, none, none)))) := by
      rw [kFor_ev (xs := (stz n).map pD) rfl]
      exact f1
    refine runP_rt (kSeq_nx e1 (kSeq_nx e2 (kSeq_nx e3 (kRet_ev (s1_ev (a := .l .ow ((stz n).map fun s => .int (one n A s))) ?_ rfl) rfl))))
    show some (Av.l .ow _) = _
    rw [ff]
    rfl
  · have hg : gTp [(gNm 5), (gNm 6)] (pD z) (ρ .ro s) = some (ρ .ro (s.1, some (.i z.1), some (.i z.2), s.2.2.2)) := rfl
    rw [hg, Option.bind_some]
    have g0 : ∀ (f l : Int) (x : Option Av), oGet (.m .ow (mk A (stz n))) (.d (.tup [.int f, .int l])) (.d (.int 0)) = some (.i (at0 n A (f, l))) := fun f l x => by
      show some (Av.i ((mGet (mk A (stz n)) (f, l)).getD 0)) = _
      rw [get_at]
    have e1 : kSet 7 (xP (s2 oAdd (s3 oGet (sVar 3) (sTup [(s2 oAdd (sVar 5) (sK (.i 1))), (sVar 6)]) (sK (.i 0))) (s3 oGet (sVar 3) (sTup [(sVar 5), (s2 oSub (sVar 6) (sK (.i 1)))]) (sK (.i 0))))) (ρ .ro (s.1, some (.i z.1), some (.i z.2), s.2.2.2)) = some (.nx (ρ .ro (s.1, some (.i z.1), some (.i z.2), some (.i (at0 n A (z.1 + 1, z.2) + at0 n A (z.1, z.2 - 1)))))) :=
      kSet_p (a := .i (at0 n A (z.1 + 1, z.2) + at0 n A (z.1, z.2 - 1))) (s2_ev (a := .i (at0 n A (z.1 + 1, z.2))) (b := .i (at0 n A (z.1, z.2 - 1))) (g0 (z.1 + 1) z.2 none) (g0 z.1 (z.2 - 1) none) rfl) rfl
    refine kSeq_nx e1 ?_
    have e2 : oIxM (.m .ow (mk A (stz n))) (.d (.tup [.int z.1, .int z.2])) = some (.i (A z)) := by
      show (mGet (mk A (stz n)) (z.1, z.2)).map Av.i = _
      rw [mGet_mk, if_pos hz]
      rfl
    exact kApp_ev (xs := s.1) (v := .int (one n A z)) rfl (s2_ev (a := .i (A z - (at0 n A (z.1 + 1, z.2) + at0 n A (z.1, z.2 - 1)))) (b := .i (at0 n A (z.1 + 1, z.2 - 1))) (s2_ev (a := .i (A z)) (b := .i (at0 n A (z.1 + 1, z.2) + at0 n A (z.1, z.2 - 1))) e2 rfl rfl) (g0 (z.1 + 1) (z.2 - 1) none) rfl) (by omega)
end S67

/-! MK: lot_of, lot_by_bills. -/
namespace S67
def canon (n : Nat) (W : Int × Int → Int) : Lt := ((stz n).filter fun s => decide (0 < W s)).map fun s => (s, W s)
theorem minL_nonneg : ∀ {xs : List Int}, xs ≠ [] → (∀ x ∈ xs, 0 ≤ x) → ∃ m, minL xs = some m ∧ 0 ≤ m
  | [], h, _ => absurd rfl h
  | x :: r, _, h => by
    refine ⟨_, rfl, ?_⟩
    have go : ∀ (r : List Int) (x : Int), 0 ≤ x → (∀ y ∈ r, 0 ≤ y) → 0 ≤ r.foldl min x := by
      intro r
      induction r with
      | nil => exact fun x hx _ => hx
      | cons y r ih => exact fun x hx hr => ih _ (by have := hr y (List.mem_cons_self ..); omega) fun z hz => hr z (List.mem_cons_of_mem _ hz)
    exact go r x (h x (List.mem_cons_self ..)) fun y hy => h y (List.mem_cons_of_mem _ hy)
theorem stz_ne {n : Nat} (h : 1 ≤ n) : stz n ≠ [] := fun z => by
  have : ((0 : Int), (0 : Int)) ∈ stz n := mem_stz.mpr (by simp only; omega)
  rw [z] at this
  exact nomatch this
theorem lot_of_eq (n : Nat) (h1 : 1 ≤ n) (hn : n ≤ 8) (A : Int × Int → Int) (b : Bool) (hpos : ∀ s ∈ stz n, 0 ≤ one n A s) : F_lot_of [.i n, pA b ((stz n).map fun s => .int (A s))] = some (.d (lotD n (canon n (one n A)))) := by
  let R : Rho := [some (.i n), some (pA b ((stz n).map fun s => .int (A s))), some (.d (.tup ((stz n).map fun s => .int (one n A s)))), none, none]
  have e1 : kSet 2 (xP (sCall F_singles [(sVar 0), (sVar 1)])) (startR 5 [.i n, pA b ((stz n).map fun s => .int (A s))]) = some (.nx R) := kSet_p (call2_ev rfl (sVar1_pA _ _ _ _) rfl (argA_pA _ _) (singles_eq n hn A b)) rfl
  obtain ⟨m, hm, hm0⟩ := minL_nonneg (xs := (stz n).map fun s => one n A s) (by simp [stz_ne h1]) (fun x hx => by
    obtain ⟨s, hs, rfl⟩ := List.mem_map.mp hx
    exact hpos s hs)
  have e2 : kIf (xBP (bOf (s2 oLt (s1 cMin (sVar 2)) (sK (.i 0))))) (kRet (sK (.d .non))) kNil R = some (.nx R) := by
    refine kIf_p (c := false) (bOf_ev (s2_ev (a := .i m) (b := .i 0) (s1_ev (a := .d (.tup ((stz n).map fun s => .int (one n A s)))) rfl ?_) rfl ?_)) rfl
    · rw [cMin, vSeq, Option.bind_some, vInts_f, Option.bind_some, hm]
      rfl
    · show some (Av.b (decide (m < 0))) = _
      rw [decide_eq_false (by omega)]
  have e3 : sLc [3, 4] (iZip2 (sCall F_all_stretches [(sVar 0)]) (sVar 2)) (gTp [(gNm 3), (gNm 4)]) (bOf (s2 oGt (sVar 4) (sK (.i 0)))) (sTup [(sVar 3), (sVar 4)]) R = some (.l .fr ((canon n (one n A)).map itemD)) := by
    have hi : iZip2 (sCall F_all_stretches [(sVar 0)]) (sVar 2) R = some (true, (stz n).map fun s => Dt.tup [pD s, .int (one n A s)]) := by
      rw [iZip2_ev (a := .l .fr ((stz n).map pD)) (b := .d (.tup ((stz n).map fun s => .int (one n A s)))) (call1_ev rfl rfl (all_stretches_eq n hn)) rfl rfl rfl, zip2D_map]
      rfl
    rw [ap_sLc_ev (fun s => Dt.tup [pD s, .int (one n A s)]) (fun s => decide (0 < one n A s)) (fun s => itemD (s, one n A s)) hi (Nat.le_trans (stz_len hn) (by decide)) fun s hs => ⟨_, rfl, rfl, fun _ => rfl⟩, canon, List.map_map]
    rfl
  refine runP_rt (kSeq_nx e1 (kSeq_nx e2 (kRet_ev (a := .d (lotD n (canon n (one n A)))) ?_ rfl)))
  rw [ap_sTup]
  simp only [seqE, show sVar 0 R = some (.i n) from rfl, s1_ev (g := cTuple) (o := some (.d (.tup ((canon n (one n A)).map itemD)))) e3 rfl, Option.bind_some, Option.map_some, vDats]
  rfl
/-! ### bills read back -/
def ρB (n : Nat) (most : Int) (bd : Dt) (A : Int × Int → Int) (ks : List (Int × Int)) (t4 t5 t6 t7 t8 t9 : Option Av) : Rho := [some (.i n), some (.i most), some (.d bd), some (.m .ow (mk A ks)), t4, t5, t6, t7, t8, t9]
theorem kPutM_ev {i : Nat} {idx f : SE} {r : Rho} {kvs : Lt} {a b v : Int} (h1 : f r = some (.i v)) (h2 : idx r = some (.d (.tup [.int a, .int b]))) (h3 : r[i]? = some (some (.m .ow kvs))) (h4 : kvs.length < 1000000) : kPutM i idx (xP f) r = some (.nx (r.set i (some (.m .ow (mPut kvs (a, b) v))))) := by
  rw [ap_kPutM, ap_xP]
  simp only [h1, Option.bind_some, vFree, Option.map_some, vInt, h2, vDat, h3, if_pos h4]
abbrev lbIn : SS := kSeq (kIf (xBP (bOf (s2 oNe (s3 oGet (sVar 3) (sVar 8) (sVar 9)) (sVar 9)))) (kRet (sK (.d .non))) kNil) (kPutM 3 (sVar 8) (xP (sVar 9)))
theorem s3_ev {g : Av → Av → Av → Option Av} {f k e : SE} {r : Rho} {a b c : Av} {o : Option Av} (h : f r = some a) (h1 : k r = some b) (h2 : e r = some c) (h3 : g a b c = o) : s3 g f k e r = o := by rw [ap_s3, h, Option.bind_some, h1, Option.bind_some, h2]; exact h3
theorem lb_inner (n : Nat) (most : Int) (bd : Dt) (A : Int × Int → Int) (t4 t5 t6 t7 : Option Av) : ∀ (zs ks : List (Int × Int)) (t8 t9 : Option Av), ks.length + zs.length ≤ 1000 →
    ∃ ks' t8' t9', forGo (gTp [(gNm 8), (gNm 9)]) lbIn (zs.map fun s => Dt.tup [pD s, .int (A s)]) (ρB n most bd A ks t4 t5 t6 t7 t8 t9) = some (.nx (ρB n most bd A ks' t4 t5 t6 t7 t8' t9')) ∧ ks'.length ≤ ks.length + zs.length ∧ ∀ x, x ∈ ks ∨ x ∈ zs → x ∈ ks'
  | [], ks, t8, t9, _ => ⟨ks, t8, t9, rfl, Nat.le_refl _, fun x h => h.elim id fun h => nomatch h⟩
  | z :: zs, ks, t8, t9, hl => by
    rw [List.length_cons] at hl
    let ks1 := if z ∈ ks then ks else ks ++ [z]
    have hk1 : ks1.length ≤ ks.length + 1 := by
      show (if z ∈ ks then ks else ks ++ [z]).length ≤ _
      split
      · omega
      · rw [List.length_append, List.length_singleton]; omega
    have hz : ∀ x, x ∈ ks ∨ x = z → x ∈ ks1 := fun x h => by
      show x ∈ (if z ∈ ks then ks else ks ++ [z])
      split
      · rename_i hzk
        rcases h with h | rfl
        · exact h
        · exact hzk
      · rw [List.mem_append, List.mem_singleton]
        exact h
    obtain ⟨ks', t8', t9', f1, f2, f3⟩ := lb_inner n most bd A t4 t5 t6 t7 zs ks1 (some (.d (pD z))) (some (.i (A z))) (by omega)
    refine ⟨ks', t8', t9', ?_, by rw [List.length_cons]; omega, fun x h => f3 x ?_⟩
    · rw [List.map_cons, forGo]
      have hg : gTp [(gNm 8), (gNm 9)] (Dt.tup [pD z, .int (A z)]) (ρB n most bd A ks t4 t5 t6 t7 t8 t9) = some (ρB n most bd A ks t4 t5 t6 t7 (some (.d (pD z))) (some (.i (A z)))) := rfl
      rw [hg, Option.bind_some]
      have hget : oGet (.m .ow (mk A ks)) (.d (pD z)) (.i (A z)) = some (.i (A z)) := by
        show some (Av.i ((mGet (mk A ks) (z.1, z.2)).getD (A z))) = _
        rw [mGet_mk]
        split <;> rfl
      have e1 : kIf (xBP (bOf (s2 oNe (s3 oGet (sVar 3) (sVar 8) (sVar 9)) (sVar 9)))) (kRet (sK (.d .non))) kNil (ρB n most bd A ks t4 t5 t6 t7 (some (.d (pD z))) (some (.i (A z)))) = some (.nx (ρB n most bd A ks t4 t5 t6 t7 (some (.d (pD z))) (some (.i (A z))))) := by
        refine kIf_p (c := false) (bOf_ev (s2_ev (a := .i (A z)) (b := .i (A z)) (s3_ev (a := .m .ow (mk A ks)) (b := .d (pD z)) (c := .i (A z)) rfl rfl rfl hget) rfl ?_)) rfl
        simp [oNe, eqA, dpt, eqD]
      have e2 : kPutM 3 (sVar 8) (xP (sVar 9)) (ρB n most bd A ks t4 t5 t6 t7 (some (.d (pD z))) (some (.i (A z)))) = some (.nx (ρB n most bd A ks1 t4 t5 t6 t7 (some (.d (pD z))) (some (.i (A z))))) := by
        rw [kPutM_ev (kvs := mk A ks) (a := z.1) (b := z.2) (v := A z) rfl rfl rfl (by rw [mk, List.length_map]; omega)]
        have := mPut_mk A (z.1, z.2) ks
        rw [show A (z.1, z.2) = A z from rfl] at this
        rw [this]
        rfl
      have e12 : lbIn (ρB n most bd A ks t4 t5 t6 t7 (some (.d (pD z))) (some (.i (A z)))) = _ := kSeq_nx e1 e2
      rw [e12, Option.bind_some]
      exact f1
    · rcases h with h | h
      · exact .inl (hz x (.inl h))
      · rcases List.mem_cons.mp h with rfl | h
        · exact .inl (hz x (.inr rfl))
        · exact .inr h
abbrev lbOut : SS := (kSeq (kSet 6 (xP (sCall F_spans_in_row [(sVar 0), (sVar 4)])))
  (kSeq (kSet 7 (xP (sCall F_figures_of [(sVar 5), (s2 oAdd (sVar 1) (sK (.i 1))), (s1 cLen (sVar 6))])))
  (kSeq (kIf (xBP (bOf (s2 oIs (sVar 7) (sK (.d .non))))) (kRet (sK (.d .non))) kNil)
  (kFor [6, 7] (iZip2 (sVar 6) (sVar 7)) (gTp [(gNm 8), (gNm 9)]) lbIn))))
/-- a row's bill -/
def bill (n : Nat) (A : Int × Int → Int) (b : Int) (r : Nat) : Int := val b ((srow n r).map A)
theorem lb_outer (n : Nat) (h1 : 1 ≤ n) (hn : n ≤ 8) (most : Int) (bd : Dt) (A : Int × Int → Int) (hm : 0 ≤ most) (hb : (most + 1).natAbs < 2 ^ 200) (hA : ∀ s ∈ stz n, 0 ≤ A s ∧ A s ≤ most) : ∀ (zs : List Nat) (ks : List (Int × Int)) (t4 t5 t6 t7 t8 t9 : Option Av), (∀ r ∈ zs, r < rowsN n) → ks.length + 36 * zs.length ≤ 900 →
    ∃ ks' t4' t5' t6' t7' t8' t9', forGo (gTp [(gNm 4), (gNm 5)]) lbOut (zs.map fun (r : Nat) => Dt.tup [.int (r : Int), .int (bill n A (most + 1) r)]) (ρB n most bd A ks t4 t5 t6 t7 t8 t9) = some (.nx (ρB n most bd A ks' t4' t5' t6' t7' t8' t9')) ∧ ks'.length ≤ 900 ∧ ∀ x, x ∈ ks ∨ (∃ r ∈ zs, x ∈ srow n r) → x ∈ ks'
  | [], ks, t4, t5, t6, t7, t8, t9, _, hl => ⟨ks, t4, t5, t6, t7, t8, t9, rfl, by simp at hl; omega, fun x h => h.elim id fun ⟨r, hr, _⟩ => nomatch hr⟩
  | r :: zs, ks, t4, t5, t6, t7, t8, t9, hr, hl => by
    rw [List.length_cons] at hl
    have hx := row_mem h1 hn (hr r (List.mem_cons_self ..))
    have hlen : 1 ≤ (srow n r).length ∧ (srow n r).length ≤ 36 := (rows_tell _ hx).2
    have hsub : ∀ s ∈ srow n r, s ∈ stz n := fun s hs => (List.mem_filter.mp hs).1
    let S := srow n r
    let t6n : Option Av := some (.l .ro (S.map pD))
    let t7n : Option Av := some (.l .ro (S.map fun s => .int (A s)))
    obtain ⟨ks1, t81, t91, f1, f2, f3⟩ := lb_inner n most bd A (some (.i r)) (some (.i (bill n A (most + 1) r))) t6n t7n S ks t8 t9 (by show ks.length + (srow n r).length ≤ 1000; omega)
    obtain ⟨ks', t4', t5', t6', t7', t8', t9', g1, g2, g3⟩ := lb_outer n h1 hn most bd A hm hb hA zs ks1 (some (.i r)) (some (.i (bill n A (most + 1) r))) t6n t7n t81 t91 (fun x hx => hr x (List.mem_cons_of_mem _ hx)) (by have : ks1.length ≤ ks.length + (srow n r).length := f2; omega)
    refine ⟨ks', t4', t5', t6', t7', t8', t9', ?_, g2, fun x h => g3 x ?_⟩
    · rw [List.map_cons, forGo]
      have hg : gTp [(gNm 4), (gNm 5)] (Dt.tup [.int (r : Int), .int (bill n A (most + 1) r)]) (ρB n most bd A ks t4 t5 t6 t7 t8 t9) = some (ρB n most bd A ks (some (.i r)) (some (.i (bill n A (most + 1) r))) t6 t7 t8 t9) := rfl
      rw [hg, Option.bind_some]
      have e1 : kSet 6 (xP (sCall F_spans_in_row [(sVar 0), (sVar 4)])) (ρB n most bd A ks (some (.i r)) (some (.i (bill n A (most + 1) r))) t6 t7 t8 t9) = some (.nx (ρB n most bd A ks (some (.i r)) (some (.i (bill n A (most + 1) r))) (some (.l .ow (S.map pD))) t7 t8 t9)) :=
        kSet_p (call2_ev (x := .i n) (y := .i r) (a := .i n) (b := .i r) rfl rfl rfl rfl (spans_row hx)) rfl
      have ef : F_figures_of [.i (bill n A (most + 1) r), .i (most + 1), .i (S.length : Nat)] = some (.l .fr (S.map fun s => .int (A s))) := by
        have := figures_of_eq (most + 1) ((srow n r).map A) hb (fun d hd => by
          obtain ⟨s, hs, rfl⟩ := List.mem_map.mp hd
          have := hA s (hsub s hs)
          omega) (by rw [List.length_map]; omega)
        rw [List.length_map, List.map_map] at this
        exact this
      have e2 : kSet 7 (xP (sCall F_figures_of [(sVar 5), (s2 oAdd (sVar 1) (sK (.i 1))), (s1 cLen (sVar 6))])) (ρB n most bd A ks (some (.i r)) (some (.i (bill n A (most + 1) r))) (some (.l .ow (S.map pD))) t7 t8 t9) = some (.nx (ρB n most bd A ks (some (.i r)) (some (.i (bill n A (most + 1) r))) (some (.l .ow (S.map pD))) (some (.l .ow (S.map fun s => .int (A s)))) t8 t9)) :=
        kSet_p (call3_ev (x := .i (bill n A (most + 1) r)) (y := .i (most + 1)) (z := .i (S.length : Nat)) rfl rfl (s1_ev (a := .l .ow (S.map pD)) rfl (by rw [cLen]; simp [vSeq])) rfl rfl rfl ef) rfl
      have e3 : kIf (xBP (bOf (s2 oIs (sVar 7) (sK (.d .non))))) (kRet (sK (.d .non))) kNil (ρB n most bd A ks (some (.i r)) (some (.i (bill n A (most + 1) r))) (some (.l .ow (S.map pD))) (some (.l .ow (S.map fun s => .int (A s)))) t8 t9) = some (.nx (ρB n most bd A ks (some (.i r)) (some (.i (bill n A (most + 1) r))) (some (.l .ow (S.map pD))) (some (.l .ow (S.map fun s => .int (A s)))) t8 t9)) := rfl
      have e4 : kFor [6, 7] (iZip2 (sVar 6) (sVar 7)) (gTp [(gNm 8), (gNm 9)]) lbIn (ρB n most bd A ks (some (.i r)) (some (.i (bill n A (most + 1) r))) (some (.l .ow (S.map pD))) (some (.l .ow (S.map fun s => .int (A s)))) t8 t9) = some (.nx (ρB n most bd A ks1 (some (.i r)) (some (.i (bill n A (most + 1) r))) t6n t7n t81 t91)) := by
        rw [kFor_ev (xs := S.map fun s => Dt.tup [pD s, .int (A s)]) (by
          rw [iZip2_ev (a := .l .ro (S.map pD)) (b := .l .ro (S.map fun s => .int (A s))) rfl rfl rfl rfl, zip2D_map]
          rfl)]
        exact f1
      have e12 : lbOut (ρB n most bd A ks (some (.i r)) (some (.i (bill n A (most + 1) r))) t6 t7 t8 t9) = _ := kSeq_nx e1 (kSeq_nx e2 (kSeq_nx e3 e4))
      rw [e12, Option.bind_some]
      exact g1
    · rcases h with h | ⟨q, hq, hs⟩
      · exact .inl (f3 x (.inl h))
      · rcases List.mem_cons.mp hq with rfl | hq
        · exact .inl (f3 x (.inr hs))
        · exact .inr ⟨q, hq, hs⟩
def billsD (n : Nat) (A : Int × Int → Int) (b : Int) : Dt := .tup ((List.range (rowsN n)).map fun r => .int (bill n A b r))
theorem enumD_range (R : Nat) (f : Nat → Dt) : enumD ((List.range R).map f) = (List.range R).map fun (r : Nat) => Dt.tup [.int (r : Int), f r] := by
  apply List.ext_getElem
  · simp [enumD]
  · intro i h1 h2
    simp [enumD]
theorem lot_by_bills_eq (n : Nat) (h1 : 1 ≤ n) (hn : n ≤ 8) (most : Int) (A : Int × Int → Int) (hm : 0 ≤ most) (hb : (most + 1).natAbs < 2 ^ 200) (hA : ∀ s ∈ stz n, 0 ≤ A s ∧ A s ≤ most) (hpos : ∀ s ∈ stz n, 0 ≤ one n A s) :
    F_lot_by_bills [.i n, .i most, .d (billsD n A (most + 1))] = some (.d (lotD n (canon n (one n A)))) := by
  have hR := rowsN_le hn
  obtain ⟨ks, t4, t5, t6, t7, t8, t9, f1, f2, f3⟩ := lb_outer n h1 hn most (billsD n A (most + 1)) A hm hb hA (List.range (rowsN n)) [] none none none none none none (fun r hr => List.mem_range.mp hr) (by rw [List.length_range]; simp; omega)
  have hall : ∀ s ∈ stz n, s ∈ ks := fun s hs => by
    obtain ⟨r, hr, hs2⟩ := rows_cover n (List.mem_range.mpr (by omega)) s hs
    exact f3 s (.inr ⟨r, hr, hs2⟩)
  have e1 : kSet 3 (xP sDictE) (startR 10 [.i n, .i most, .d (billsD n A (most + 1))]) = some (.nx (ρB n most (billsD n A (most + 1)) A [] none none none none none none)) := rfl
  have e2 : kFor [] (iEnum (sVar 2)) (gTp [(gNm 4), (gNm 5)]) lbOut (ρB n most (billsD n A (most + 1)) A [] none none none none none none) = some (.nx (ρB n most (billsD n A (most + 1)) A ks t4 t5 t6 t7 t8 t9)) := by
    rw [kFor_ev (xs := (List.range (rowsN n)).map fun (r : Nat) => Dt.tup [.int (r : Int), .int (bill n A (most + 1) r)]) (by
      show some (true, enumD _) = _
      rw [enumD_range])]
    exact f1
  have e3 : sLc [8] (iSeq (sCall F_all_stretches [(sVar 0)])) (gNm 8) bYes (s2 oIxM (sVar 3) (sVar 8)) (ρB n most (billsD n A (most + 1)) A ks t4 t5 t6 t7 t8 t9) = some (.l .fr ((stz n).map fun s => .int (A s))) := by
    refine sLc_map pD _ (src_all hn rfl) (Nat.le_trans (stz_len hn) (by decide)) fun s hs => ⟨_, rfl, ?_⟩
    have : oIxM (.m .ow (mk A ks)) (.d (pD s)) = some (.i (A s)) := by
      show (mGet (mk A ks) (s.1, s.2)).map Av.i = _
      rw [mGet_mk, if_pos (hall s hs)]
      rfl
    show ((oIxM (.m .ow (mk A ks)) (.d (pD s))).bind vDat) = _
    rw [this]
    rfl
  exact runP_rt (kSeq_nx e1 (kSeq_nx e2 (kRet_ev (call2_ev (x := .i n) (a := .i n) (b := pA false ((stz n).map fun s => .int (A s))) rfl e3 rfl rfl (lot_of_eq n h1 hn A false hpos)) rfl)))
end S67

/-! ML: lots in their own form. -/
namespace S67
structure Ok (n : Nat) (W : Int × Int → Int) : Prop where
  pos : ∀ s ∈ stz n, 0 ≤ W s
  big : ∀ s ∈ stz n, W s < 2 ^ 150
theorem sm_canon {n : Nat} {W : Int × Int → Int} (h : ∀ s ∈ stz n, 0 ≤ W s) (g : (Int × Int) → Int → Int) (g0 : ∀ s, g s 0 = 0) : sm (canon n W) (fun e => g e.1 e.2) = sm (stz n) fun s => g s (W s) := by
  unfold canon
  rw [sm_map, sm_filter]
  refine sm_congr fun s hs => ?_
  by_cases hw : 0 < W s
  · rw [if_pos (by simpa using hw)]
  · rw [if_neg (by simpa using hw)]
    have := h s hs
    rw [show W s = 0 by omega, g0]
theorem ask_canon {n : Nat} {W : Int × Int → Int} (h : ∀ s ∈ stz n, 0 ≤ W s) (f l : Int) : askE (canon n W) f l = dn n W f l := by
  rw [askE_sm]
  exact sm_canon h (fun s w => if f ≤ s.1 ∧ s.2 ≤ l then w else 0) fun s => by split <;> rfl
theorem canon_day (n : Nat) (W : Int × Int → Int) : InDay n (canon n W) := by
  intro e he
  obtain ⟨s, hs, rfl⟩ := List.mem_map.mp he
  exact mem_stz.mp (List.mem_filter.mp hs).1
theorem canon_len {n : Nat} (hn : n ≤ 8) (W : Int × Int → Int) : (canon n W).length ≤ 36 := by
  rw [canon, List.length_map]
  exact Nat.le_trans (List.length_filter_le _ _) (stz_len hn)
theorem canon_congr {n : Nat} {W W' : Int × Int → Int} (h : ∀ s ∈ stz n, W s = W' s) : canon n W = canon n W' := by
  unfold canon
  rw [filter_mem (d := fun s => decide (0 < W' s)) fun s hs => by rw [h s hs]]
  refine List.map_congr_left fun s hs => ?_
  rw [h s (List.mem_filter.mp hs).1]
/-- the asked works of a lot -/
def askW (n : Nat) (W : Int × Int → Int) (s : Int × Int) : Int := dn n W s.1 s.2
theorem one_ask {n : Nat} (hn : n ≤ 8) (W : Int × Int → Int) {s : Int × Int} (hs : s ∈ stz n) : one n (askW n W) s = W s := by
  obtain ⟨h1, h2, h3⟩ := mem_stz.mp hs
  have a0 : ∀ f l : Int, 0 ≤ f → l < n → f ≤ l + 2 → at0 n (askW n W) (f, l) = dn n W f l := fun f l hf hl _ => by
    rw [at0]
    split
    · rfl
    · rename_i h
      rw [dn_out]
      by_cases q : l < f
      · exact q
      · exact absurd (mem_stz.mpr ⟨hf, by simp only; omega, hl⟩) h
  unfold one
  rw [a0 _ _ (by omega) h3 (by omega), a0 _ _ h1 (by omega) (by omega), a0 _ _ (by omega) (by omega) (by omega)]
  exact dn_point hn W (f := s.1) (l := s.2) hs
theorem dn_mono {n : Nat} {W : Int × Int → Int} (h : ∀ s ∈ stz n, 0 ≤ W s) (f l : Int) : 0 ≤ dn n W f l ∧ dn n W f l ≤ sm (stz n) W := by
  constructor
  · refine sm_nonneg fun s hs => ?_
    split
    · exact h s hs
    · exact Int.le_refl 0
  · refine sm_le fun s hs => ?_
    split
    · exact Int.le_refl _
    · exact h s hs
theorem all_work_canon {n : Nat} (hn : n ≤ 8) {W : Int × Int → Int} (h : ∀ s ∈ stz n, 0 ≤ W s) : F_all_work [.d (lotD n (canon n W))] = some (.i (sm (stz n) W)) := by
  rw [all_work_eq n _ (Nat.le_trans (canon_len hn W) (by decide))]
  have := sm_canon h (fun _ w => w) (fun _ => rfl)
  rw [← this]
  rfl
theorem work_big {n : Nat} (hn : n ≤ 8) {W : Int × Int → Int} (o : Ok n W) : 0 ≤ sm (stz n) W ∧ sm (stz n) W < 2 ^ 156 := by
  refine ⟨sm_nonneg o.pos, ?_⟩
  have h := sm_le_len (xs := stz n) (f := W) (B := 2 ^ 150) (by decide) fun s hs => Int.le_of_lt (o.big s hs)
  have hl := stz_len hn
  have h2 : ((stz n).length : Int) * 2 ^ 150 ≤ 36 * 2 ^ 150 := Int.mul_le_mul_of_nonneg_right (by omega) (by decide)
  have h3 : (36 : Int) * 2 ^ 150 < 2 ^ 156 := by decide
  omega
/-! ### bills -/
theorem val_sm {b : Int} {A : Int × Int → Int} : ∀ {S : List (Int × Int)}, S.Nodup → val b (S.map A) = sm S fun s => b ^ (S.idxOf s) * A s
  | [], _ => rfl
  | x :: S, h => by
    rw [List.nodup_cons] at h
    rw [List.map_cons, val, val_sm h.2, sm_cons, List.idxOf_cons_self, ← sm_mul]
    have : sm S (fun s => b * (b ^ (S.idxOf s) * A s)) = sm S fun s => b ^ ((x :: S).idxOf s) * A s := sm_congr fun s hs => by
      have hne : ¬ x = s := fun z => h.1 (z ▸ hs)
      rw [List.idxOf_cons]
      have : (x == s) = false := by simpa using hne
      rw [this]
      simp only [cond_false, Int.pow_succ]
      rw [← Int.mul_assoc, Int.mul_comm b]
    rw [this]
    simp
theorem rowP_len (n r : Nat) (b : Int) : (rowP n r b).length = n := layL_len _ _
theorem rowP_nonneg {n r : Nat} {b : Int} (hb : 0 < b) : ∀ x ∈ rowP n r b, 0 ≤ x := by
  unfold rowP rowW
  rw [layL_found]
  exact found_nonneg fun s _ => Int.le_of_lt (pow_pos' hb _)
theorem chp_row {n r : Nat} (hn : n ≤ 8) (hx : (n, r) ∈ rowsAll) {b : Int} (hb : 0 < b) {W : Int × Int → Int} (h : ∀ s ∈ stz n, 0 ≤ W s) : chp (canon n W) (rowP n r b) = bill n (askW n W) b r := by
  rw [chp_paid (by rw [rowP_len]; exact hn) (rowP_nonneg hb) (by rw [rowP_len]; exact canon_day n W), wts_row hn hx hb]
  unfold paid rowW bill
  rw [sm_map, val_sm (srow_nodup hn)]
  refine sm_congr fun s _ => ?_
  show b ^ _ * askE (canon n W) s.1 s.2 = _
  rw [ask_canon h]
  rfl
theorem mn_bound {p : List Int} {k : Nat} (hp : ∀ x ∈ p, 0 ≤ x) (hb : ∀ x ∈ p, x < 2 ^ k) {f l : Nat} (hf : f ≤ l) (hl : l < p.length) : (mn p f l).natAbs < 2 ^ k := by
  have h1 := mn_nonneg hp f l
  have h2 := mn_le (p := p) _ f l rfl hf hl f (by omega) (Nat.le_refl _) hf
  have h3 := hb p[f] (List.getElem_mem _)
  have h4 : mn p f l < 2 ^ k := by omega
  have h5 : ((mn p f l).natAbs : Int) < ((2 ^ k : Nat) : Int) := by
    rw [Int.natAbs_of_nonneg h1, Int.natCast_pow]
    exact h4
  exact Int.ofNat_lt.mp h5
theorem mulOks {n : Nat} {W : Int × Int → Int} (o : Ok n W) {p : List Int} (hlen : p.length = n) (hp : ∀ x ∈ p, 0 ≤ x) (hb : ∀ x ∈ p, x < 2 ^ 9000) : MulOks (canon n W) p := by
  intro e he
  obtain ⟨s, hs, rfl⟩ := List.mem_map.mp he
  have hs := (List.mem_filter.mp hs).1
  obtain ⟨h1, h2, h3⟩ := mem_stz.mp hs
  have hw : (W s).natAbs < 2 ^ 150 := by
    have h5 : ((W s).natAbs : Int) < ((2 ^ 150 : Nat) : Int) := by
      rw [Int.natAbs_of_nonneg (o.pos s hs), Int.natCast_pow]
      exact o.big s hs
    exact Int.ofNat_lt.mp h5
  exact mulOk_bits 150 9000 hw (mn_bound (f := s.1.toNat) (l := s.2.toNat) hp hb (by omega) (by omega)) (by decide)
theorem rowP_big {n r : Nat} (hn : n ≤ 8) {b : Int} (hb : 0 < b) (hb2 : b < 2 ^ 200) : ∀ x ∈ rowP n r b, x < 2 ^ 9000 := by
  unfold rowP rowW
  rw [layL_found]
  intro x hx
  obtain ⟨h, _, rfl⟩ := List.mem_map.mp hx
  have hS : (srow n r).length ≤ 36 := Nat.le_trans (List.length_filter_le _ _) (stz_len hn)
  have hpow : ∀ k : Nat, k ≤ 36 → b ^ k ≤ 2 ^ 7200 := fun k hk => by
    obtain ⟨B, rfl⟩ := Int.eq_ofNat_of_zero_le (Int.le_of_lt hb)
    have hB : B < 2 ^ 200 := by
      have : ((B : Nat) : Int) < ((2 ^ 200 : Nat) : Int) := by rw [Int.natCast_pow]; exact hb2
      exact Int.ofNat_lt.mp this
    have e1 : B ^ k ≤ (2 ^ 200) ^ k := Nat.pow_le_pow_left (Nat.le_of_lt hB) k
    rw [← Nat.pow_mul] at e1
    have e2 : 2 ^ (200 * k) ≤ 2 ^ 7200 := Nat.pow_le_pow_right (by decide) (by omega)
    have e3 : ((B ^ k : Nat) : Int) ≤ ((2 ^ 7200 : Nat) : Int) := Int.ofNat_le.mpr (Nat.le_trans e1 e2)
    rw [Int.natCast_pow, Int.natCast_pow] at e3
    exact e3
  have h2 := sm_le_len (xs := srow n r) (f := fun s => if s.1 ≤ (h : Int) ∧ (h : Int) ≤ s.2 then b ^ (srow n r).idxOf s else 0) (B := 2 ^ 7200) (Int.le_of_lt (Int.pow_pos (by decide))) fun s hs => by
    show (if _ then _ else _) ≤ _
    split
    · exact hpow _ (by have := List.idxOf_lt_length_of_mem hs; omega)
    · exact Int.le_of_lt (Int.pow_pos (by decide))
  have h3 : ((srow n r).length : Int) * 2 ^ 7200 ≤ 36 * 2 ^ 7200 := Int.mul_le_mul_of_nonneg_right (by omega) (Int.le_of_lt (Int.pow_pos (by decide)))
  have h4 : (36 : Int) * 2 ^ 7200 < 2 ^ 9000 := by decide +kernel
  exact Int.lt_of_le_of_lt (Int.le_trans h2 h3) h4
def rowsP (n : Nat) (b : Int) : List (List Int) := (List.range (rowsN n)).map fun r => rowP n r b
theorem bills_canon {n : Nat} (h1 : 1 ≤ n) (hn : n ≤ 8) {b : Int} (hb : 0 < b) (hb2 : b < 2 ^ 200) {W : Int × Int → Int} (o : Ok n W) : F_bills_of [.d (lotD n (canon n W)), .d (.tup ((rowsP n b).map tupI))] = some (.d (billsD n (askW n W) b)) := by
  have hR := rowsN_le hn
  rw [bills_of_eq n (canon n W) (rowsP n b) (by simp [rowsP]; omega) (Nat.le_trans (canon_len hn W) (by decide)) (fun p hp => by
    obtain ⟨r, _, rfl⟩ := List.mem_map.mp hp
    exact rowP_len n r b) (canon_day n W) (fun p hp => by
    obtain ⟨r, hr, rfl⟩ := List.mem_map.mp hp
    exact mulOks o (rowP_len n r b) (rowP_nonneg hb) (rowP_big hn hb hb2))]
  unfold rowsP billsD
  rw [List.map_map]
  congr 3
  refine List.map_congr_left fun r hr => ?_
  show Dt.int (chp (canon n W) (rowP n r b)) = _
  rw [chp_row hn (row_mem h1 hn (List.mem_range.mp hr)) hb o.pos]
end S67

/-! MM: sorted, made_lot, law_same. -/
namespace S67
def sK2 (b : Bool) (xs : List Dt) : SI := fun _ => some (b, xs)
def leE (a b : (Int × Int) × Int) : Bool := lexLe [a.1.1, a.1.2, a.2] [b.1.1, b.1.2, b.2]
theorem leE_iff (a b : (Int × Int) × Int) : leE a b = true ↔ (a.1.1 < b.1.1 ∨ (a.1.1 = b.1.1 ∧ (a.1.2 < b.1.2 ∨ (a.1.2 = b.1.2 ∧ a.2 ≤ b.2)))) := by
  unfold leE
  simp only [lexLe]
  by_cases h1 : a.1.1 = b.1.1
  · by_cases h2 : a.1.2 = b.1.2
    · by_cases h3 : a.2 = b.2
      · simp [h1, h2, h3]
      · simp [h1, h2, h3]; omega
    · simp [h1, h2]
  · simp [h1]
theorem sorted_unique {L C : Lt} (hp : L.Perm C) (hs : (C.map (·.1)).Pairwise ltS) : L.mergeSort leE = C := by
  have p1 : (L.mergeSort leE).Perm C := (List.mergeSort_perm L leE).trans hp
  have s1 : (L.mergeSort leE).Pairwise (fun a b => leE a b = true) := List.pairwise_mergeSort (fun a b c h1 h2 => by
    rw [leE_iff] at *
    omega) (fun a b => by
    rw [Bool.or_eq_true, leE_iff, leE_iff]
    omega) L
  have s2 : C.Pairwise (fun a b => leE a b = true) := by
    rw [List.pairwise_map] at hs
    refine hs.imp fun {a b} h => ?_
    rw [leE_iff]
    unfold ltS at h
    omega
  refine List.Perm.eq_of_pairwise (le := fun a b => leE a b = true) (fun a b _ _ h1 h2 => ?_) s1 s2 p1
  rw [leE_iff] at h1 h2
  exact Prod.ext (Prod.ext (by omega) (by omega)) (by omega)
theorem sortD_perm {L C : Lt} (hp : L.Perm C) (hs : (C.map (·.1)).Pairwise ltS) : sortD (L.map itemD) = some (C.map itemD) := by
  unfold sortD
  cases L with
  | nil =>
    have : C = [] := hp.nil_eq.symm
    subst this
    simp
  | cons w ws =>
    have e1 : ¬ ((((w :: ws).map itemD).all fun x => (flat2 x).isSome) = true) := by simp [itemD, flat2]
    have e2 : (((w :: ws).map itemD).all fun x => (flat3 x).isSome) = true := by
      rw [List.all_eq_true]
      intro x hx
      obtain ⟨e, _, rfl⟩ := List.mem_map.mp hx
      rfl
    rw [if_neg e1, if_pos e2, ← List.map_mergeSort (r := leE) (s := leF flat3) (f := itemD) (fun a _ b _ => rfl), sorted_unique hp hs]
theorem canon_sorted {n : Nat} (hn : n ≤ 8) (W : Int × Int → Int) : ((canon n W).map (·.1)).Pairwise ltS := by
  unfold canon
  rw [List.map_map]
  have : ((fun x : (Int × Int) × Int => x.1) ∘ fun s : Int × Int => (s, W s)) = id := rfl
  rw [this, List.map_id]
  exact (stz_sorted hn).sublist List.filter_sublist
/-! ### made_lot -/
def wsum (es : Lt) (s : Int × Int) : Int := sm es fun e => if e.1 = s then e.2 else 0
theorem mPut_mk' (A : Int × Int → Int) (k : Int × Int) (v : Int) (ks : List (Int × Int)) : mPut (mk A ks) k v = mk (fun x => if x = k then v else A x) (if k ∈ ks then ks else ks ++ [k]) := by
  unfold mPut
  rw [mk_any]
  by_cases h : k ∈ ks
  · rw [if_pos (by simpa using h), if_pos h]
    unfold mk
    rw [List.map_map]
    refine List.map_congr_left fun x _ => ?_
    show (if x = k then (x, v) else (x, A x)) = (x, if x = k then v else A x)
    split <;> rfl
  · rw [if_neg (by simpa using h), if_neg h]
    unfold mk
    rw [List.map_append, List.map_singleton]
    have e1 : ks.map (fun k => (k, A k)) = ks.map fun x => (x, (fun x => if x = k then v else A x) x) := List.map_congr_left fun x hx => by
      have : x ≠ k := fun z => h (z ▸ hx)
      show (x, A x) = (x, if x = k then v else A x)
      rw [if_neg this]
    rw [e1]
    show _ ++ [(k, v)] = _ ++ [(k, if k = k then v else A k)]
    rw [if_pos rfl]
def ρM (n : Nat) (ea : Av) (A : Int × Int → Int) (ks : List (Int × Int)) (t3 t4 t5 t6 : Option Av) : Rho := [some (.i n), some ea, some (.m .ow (mk A ks)), t3, t4, t5, t6]
abbrev mlB : SS := (kSeq (kExpr (sCall F_check_stretch [(sVar 0), (sVar 4), (sVar 5)])) (kPutM 2 (sTup [(sVar 4), (sVar 5)]) (xP (s2 oAdd (s3 oGet (sVar 2) (sTup [(sVar 4), (sVar 5)]) (sK (.i 0))) (sVar 3)))))
theorem ml_loop (n : Nat) (ea : Av) : ∀ (es : Lt) (A : Int × Int → Int) (ks : List (Int × Int)) (t3 t4 t5 : Option Av), InDay n es → ks.length + es.length ≤ 100000 → (∀ x, x ∉ ks → A x = 0) → ks.Nodup → (∀ x ∈ ks, x ∈ stz n) →
    ∃ A' ks' t3' t4' t5', forGo (gTp [(gTp [(gNm 4), (gNm 5)]), (gNm 3)]) mlB (es.map itemD) (ρM n ea A ks t3 t4 t5 none) = some (.nx (ρM n ea A' ks' t3' t4' t5' none)) ∧ ks'.length ≤ 100000 ∧ (∀ x, x ∉ ks' → A' x = 0) ∧ ks'.Nodup ∧ (∀ x ∈ ks', x ∈ stz n) ∧ ∀ x, A' x = A x + wsum es x
  | [], A, ks, t3, t4, t5, _, hl, h0, hn, hs => ⟨A, ks, t3, t4, t5, rfl, by simp at hl; omega, h0, hn, hs, fun x => by simp [wsum, sm]⟩
  | e :: es, A, ks, t3, t4, t5, hd, hl, h0, hn, hs => by
    obtain ⟨d1, d2, d3⟩ := hd e (List.mem_cons_self ..)
    rw [List.length_cons] at hl
    let A1 : Int × Int → Int := fun x => if x = e.1 then A e.1 + e.2 else A x
    let ks1 := if e.1 ∈ ks then ks else ks ++ [e.1]
    have hk1 : ks1.length ≤ ks.length + 1 := by
      show (if e.1 ∈ ks then ks else ks ++ [e.1]).length ≤ _
      split
      · omega
      · rw [List.length_append, List.length_singleton]; omega
    have hmem : ∀ x, x ∈ ks1 ↔ x ∈ ks ∨ x = e.1 := fun x => by
      show x ∈ (if e.1 ∈ ks then ks else ks ++ [e.1]) ↔ _
      split
      · rename_i h
        exact ⟨.inl, fun q => q.elim id fun q => q ▸ h⟩
      · rw [List.mem_append, List.mem_singleton]
    have hnd : ks1.Nodup := by
      show (if e.1 ∈ ks then ks else ks ++ [e.1]).Nodup
      split
      · exact hn
      · rename_i h
        rw [List.nodup_append]
        exact ⟨hn, by simp, fun a ha b hb => by
          rw [List.mem_singleton] at hb
          subst hb
          exact fun z => h (z ▸ ha)⟩
    obtain ⟨A', ks', t3', t4', t5', f1, f2, f3, f4, f5, f6⟩ := ml_loop n ea es A1 ks1 (some (.i e.2)) (some (.i e.1.1)) (some (.i e.1.2)) (fun x hx => hd x (List.mem_cons_of_mem _ hx)) (by omega) (fun x hx => by
      have hx2 := mt (hmem x).mpr hx
      show (if x = e.1 then _ else _) = _
      rw [if_neg fun z => hx2 (.inr z)]
      exact h0 x fun z => hx2 (.inl z)) hnd (fun x hx => by
      rcases (hmem x).mp hx with h | rfl
      · exact hs x h
      · exact mem_stz.mpr ⟨d1, d2, d3⟩)
    refine ⟨A', ks', t3', t4', t5', ?_, f2, f3, f4, f5, fun x => ?_⟩
    · rw [List.map_cons, forGo]
      have hg : gTp [(gTp [(gNm 4), (gNm 5)]), (gNm 3)] (itemD e) (ρM n ea A ks t3 t4 t5 none) = some (ρM n ea A ks (some (.i e.2)) (some (.i e.1.1)) (some (.i e.1.2)) none) := rfl
      rw [hg, Option.bind_some]
      have e0 : sCall F_check_stretch [(sVar 0), (sVar 4), (sVar 5)] (ρM n ea A ks (some (.i e.2)) (some (.i e.1.1)) (some (.i e.1.2)) none) = some (.d .non) := call3_ev (x := .i n) (y := .i e.1.1) (z := .i e.1.2) rfl rfl rfl rfl rfl rfl (check_stretch_eq n e.1.1 e.1.2 d1 d2 d3)
      have hget : oGet (.m .ow (mk A ks)) (.d (.tup [.int e.1.1, .int e.1.2])) (.i 0) = some (.i (A e.1)) := by
        show some (Av.i ((mGet (mk A ks) (e.1.1, e.1.2)).getD 0)) = _
        rw [mGet_mk]
        by_cases q : e.1 ∈ ks
        · rw [if_pos q]; rfl
        · rw [if_neg q, h0 _ q]; rfl
      have e2 : kPutM 2 (sTup [(sVar 4), (sVar 5)]) (xP (s2 oAdd (s3 oGet (sVar 2) (sTup [(sVar 4), (sVar 5)]) (sK (.i 0))) (sVar 3))) (ρM n ea A ks (some (.i e.2)) (some (.i e.1.1)) (some (.i e.1.2)) none) = some (.nx (ρM n ea A1 ks1 (some (.i e.2)) (some (.i e.1.1)) (some (.i e.1.2)) none)) := by
        rw [kPutM_ev (kvs := mk A ks) (a := e.1.1) (b := e.1.2) (v := A e.1 + e.2) (s2_ev (a := .i (A e.1)) (b := .i e.2) (s3_ev (a := .m .ow (mk A ks)) (b := .d (.tup [.int e.1.1, .int e.1.2])) (c := .i 0) rfl rfl rfl hget) rfl rfl) rfl rfl (by rw [mk, List.length_map]; omega)]
        have := mPut_mk' A (e.1.1, e.1.2) (A e.1 + e.2) ks
        rw [this]
        rfl
      have e12 : mlB (ρM n ea A ks (some (.i e.2)) (some (.i e.1.1)) (some (.i e.1.2)) none) = _ := kSeq_nx (kExpr_ev e0) e2
      rw [e12, Option.bind_some]
      exact f1
    · rw [f6]
      unfold wsum
      rw [sm_cons]
      show (if x = e.1 then A e.1 + e.2 else A x) + _ = _
      by_cases q : x = e.1
      · rw [if_pos q, if_pos q.symm, q]; omega
      · rw [if_neg q, if_neg fun z => q z.symm]; omega
theorem perm_of_nodup {α : Type} [DecidableEq α] {xs ys : List α} (h1 : xs.Nodup) (h2 : ys.Nodup) (h : ∀ x, x ∈ xs ↔ x ∈ ys) : xs.Perm ys := (List.perm_ext_iff_of_nodup h1 h2).mpr h
theorem made_lot_eq (n : Nat) (hn : n ≤ 8) (es : Lt) (hd : InDay n es) (hl : es.length ≤ 100000) : F_made_lot [.i n, .l .ro (es.map itemD)] = some (.d (lotD n (canon n (wsum es)))) := by
  obtain ⟨A, ks, t3, t4, t5, f1, f2, f3, f4, f5, f6⟩ := ml_loop n (.l .ro (es.map itemD)) es (fun _ => 0) [] none none none hd (by simp; omega) (fun _ _ => rfl) List.nodup_nil (fun _ h => nomatch h)
  have hA : ∀ x, A x = wsum es x := fun x => by rw [f6]; omega
  have e1 : kSet 2 (xP sDictE) (startR 7 [.i n, .l .ro (es.map itemD)]) = some (.nx (ρM n (.l .ro (es.map itemD)) (fun _ => 0) [] none none none none)) := rfl
  have e2 : kFor [] (iSeq (sVar 1)) (gTp [(gTp [(gNm 4), (gNm 5)]), (gNm 3)]) mlB (ρM n (.l .ro (es.map itemD)) (fun _ => 0) [] none none none none) = some (.nx (ρM n (.l .ro (es.map itemD)) A ks t3 t4 t5 none)) := by
    rw [kFor_ev (xs := es.map itemD) rfl]
    exact f1
  have e3 : sLcItems 2 [6, 3] (gTp [(gNm 6), (gNm 3)]) (bOf (s2 oGt (sVar 3) (sK (.i 0)))) (sTup [(sVar 6), (sVar 3)]) (ρM n (.l .ro (es.map itemD)) A ks t3 t4 t5 none) = some (.l .fr (((mk A ks).filter fun e => decide (0 < e.2)).map itemD)) := by
    have hm : (mk A ks).length ≤ 1000000 := by rw [mk, List.length_map]; omega
    have := ap_sLc_ev (vs := [6, 3]) (it := sK2 true ((mk A ks).map itemD)) (g := gTp [(gNm 6), (gNm 3)]) (t := bOf (s2 oGt (sVar 3) (sK (.i 0)))) (e := sTup [(sVar 6), (sVar 3)]) (r := (ρM n (.l .ro (es.map itemD)) A ks t3 t4 t5 none).set 2 none) itemD (fun e => decide (0 < e.2)) itemD rfl hm fun e _ => ⟨_, rfl, rfl, fun _ => rfl⟩
    rw [ap_sLc] at this
    rw [ap_sLcItems]
    show (if (mk A ks).length ≤ 1000000 then _ else none) = _
    rw [if_pos hm]
    have h2 : ((mk A ks).map itemD).length ≤ 1000000 := by rw [List.length_map]; exact hm
    show (lcGo _ _ _ _ _).map _ = _
    have h3 : (if ((mk A ks).map itemD).length ≤ 1000000 then (lcGo (gTp [(gNm 6), (gNm 3)]) (bOf (s2 oGt (sVar 3) (sK (.i 0)))) (sTup [(sVar 6), (sVar 3)]) (wipeR ((ρM n (.l .ro (es.map itemD)) A ks t3 t4 t5 none).set 2 none) [6, 3]) ((mk A ks).map itemD)).map (Av.l .fr) else none) = some (.l .fr (((mk A ks).filter fun e => decide (0 < e.2)).map itemD)) := this
    rw [if_pos h2] at h3
    exact h3
  have hperm : ((mk A ks).filter fun e => decide (0 < e.2)).Perm (canon n (wsum es)) := by
    have e : (mk A ks).filter (fun e => decide (0 < e.2)) = (ks.filter fun s => decide (0 < A s)).map fun s => (s, A s) := by
      unfold mk
      rw [List.filter_map]
      rfl
    rw [e, ← canon_congr fun s _ => hA s]
    unfold canon
    refine List.Perm.map _ (perm_of_nodup (f4.sublist List.filter_sublist) ((stz_nodup hn).sublist List.filter_sublist) fun x => ?_)
    rw [List.mem_filter, List.mem_filter]
    constructor
    · exact fun ⟨h1, h2⟩ => ⟨f5 x h1, h2⟩
    · refine fun ⟨h1, h2⟩ => ⟨?_, h2⟩
      by_cases q : x ∈ ks
      · exact q
      · rw [f3 x q] at h2
        simp at h2
  have e4 : s1 cTuple (s1 cSortL (sLcItems 2 [6, 3] (gTp [(gNm 6), (gNm 3)]) (bOf (s2 oGt (sVar 3) (sK (.i 0)))) (sTup [(sVar 6), (sVar 3)]))) (ρM n (.l .ro (es.map itemD)) A ks t3 t4 t5 none) = some (.d (.tup ((canon n (wsum es)).map itemD))) := by
    refine s1_ev (a := .l .fr ((canon n (wsum es)).map itemD)) (s1_ev e3 ?_) rfl
    have hlen : ((mk A ks).filter fun e => decide (0 < e.2)).length ≤ 100000 := Nat.le_trans (List.length_filter_le _ _) (by rw [mk, List.length_map]; exact f2)
    rw [cSortL, if_pos (by rw [List.length_map]; omega), sortD_perm hperm (canon_sorted hn _)]
    rfl
  refine runP_rt (kSeq_nx e1 (kSeq_nx e2 (kRet_ev (a := .d (lotD n (canon n (wsum es)))) ?_ rfl)))
  rw [ap_sTup]
  simp only [seqE, show sVar 0 (ρM n (.l .ro (es.map itemD)) A ks t3 t4 t5 none) = some (.i n) from rfl, e4, Option.bind_some, Option.map_some, vDats]
  rfl
end S67

/-! MN: law_same; who is a lot. -/
namespace S67
theorem zip2D_self (xs : List Dt) : zip2D xs xs = xs.map fun x => Dt.tup [x, x] := by
  have := zip2D_map id id xs
  rw [List.map_id] at this
  exact this
theorem same_seq (b : Bool) (xs : List Dt) (k : Nat) (hl : xs.length ≤ 1000000) (h : ∀ x ∈ xs, F_law_same k [.d x, .d x] = some (.b true)) : F_law_same (k + 1) [pA b xs, pA b xs] = some (.b true) := by
  let R : Rho := [some (pA b xs), some (pA b xs), none, none]
  have e0 : bOf (s1 isLT (sVar 1)) R = some true := by cases b <;> rfl
  have e1 : bOr (bOf (s2 oNe (s1 isLst (sVar 0)) (s1 isLst (sVar 1)))) (bOf (s2 oNe (s1 isTup (sVar 0)) (s1 isTup (sVar 1)))) R = some false := by cases b <;> rfl
  have e2 : s2 oEq (s1 cLen (sVar 0)) (s1 cLen (sVar 1)) R = some (.b true) := by
    refine s2_ev (a := .i xs.length) (b := .i xs.length) (s1_ev (sVar_pA _ _ _) (by rw [cLen, vSeq_pA]; rfl)) (s1_ev (sVar1_pA _ _ _ _) (by rw [cLen, vSeq_pA]; rfl)) ?_
    simp [oEq, eqA, dpt, eqD]
  have e3 : sLc [2, 3] (iZip2 (sVar 0) (sVar 1)) (gTp [(gNm 2), (gNm 3)]) bYes (sCall (F_law_same k) [(sVar 2), (sVar 3)]) R = some (.l .fr (xs.map fun _ => .bl true)) := by
    refine sLc_map (fl := true) (fun x => Dt.tup [x, x]) _ ?_ hl fun x hx => ⟨_, rfl, ?_⟩
    · rw [iZip2_ev (sVar_pA _ _ _) (sVar1_pA _ _ _ _) (vSeq_pA _ _) (vSeq_pA _ _), zip2D_self, notOw_pA]
      rfl
    · rw [call2_ev (x := .d x) (y := .d x) (a := .d x) (b := .d x) (by cases b <;> rfl) (by cases b <;> rfl) rfl rfl (h x hx)]
      rfl
  have e4 : s1 cAll (sLc [2, 3] (iZip2 (sVar 0) (sVar 1)) (gTp [(gNm 2), (gNm 3)]) bYes (sCall (F_law_same k) [(sVar 2), (sVar 3)])) R = some (.b true) := by
    refine s1_ev e3 ?_
    rw [cAll, vBls_f]
    simp
  have e5 : sAnd (s2 oEq (s1 cLen (sVar 0)) (s1 cLen (sVar 1))) (s1 cAll (sLc [2, 3] (iZip2 (sVar 0) (sVar 1)) (gTp [(gNm 2), (gNm 3)]) bYes (sCall (F_law_same k) [(sVar 2), (sVar 3)]))) R = some (.b true) := by
    rw [ap_sAnd, e2]
    exact e4
  have e6 : kSeq (kIf (xBP (bOr (bOf (s2 oNe (s1 isLst (sVar 0)) (s1 isLst (sVar 1)))) (bOf (s2 oNe (s1 isTup (sVar 0)) (s1 isTup (sVar 1)))))) (kRet (sK (.b false))) kNil) (kRet (sAnd (s2 oEq (s1 cLen (sVar 0)) (s1 cLen (sVar 1))) (s1 cAll (sLc [2, 3] (iZip2 (sVar 0) (sVar 1)) (gTp [(gNm 2), (gNm 3)]) bYes (sCall (F_law_same k) [(sVar 2), (sVar 3)]))))) R = some (.rt R (.b true)) := kSeq_nx (kIf_p (c := false) e1 rfl) (kRet_ev e5 rfl)
  exact runP_rt (r := R) (kSeq_rt (kIf_p (c := true) e0 e6))
theorem same_int (i : Int) (k : Nat) : F_law_same (k + 1) [.i i, .i i] = some (.b true) := by
  let R : Rho := [some (.i i), some (.i i), none, none]
  have e : sAnd (s1 isInt (sVar 0)) (sAnd (sNot (s1 isBl (sVar 0))) (s2 oEq (sVar 0) (sVar 1))) R = some (.b true) := by
    show oEq (.i i) (.i i) = _
    simp [oEq, eqA, dpt, eqD]
  exact runP_rt (r := R) (kSeq_nx (kIf_p (c := false) rfl rfl) (kSeq_nx (kIf_p (c := false) rfl rfl) (kRet_ev e rfl)))
theorem same_non (k : Nat) : F_law_same (k + 1) [.d .non, .d .non] = some (.b true) := rfl
theorem same_bl (b : Bool) (k : Nat) : F_law_same (k + 1) [.b b, .b b] = some (.b true) := by cases b <;> rfl
mutual
/-- no text, few at each place -/
def okS : Dt → Bool
  | .int _ => true
  | .non => true
  | .bl _ => true
  | .tup ds => decide (ds.length ≤ 1000000) && okSs ds
  | .str _ => false
def okSs : List Dt → Bool
  | [] => true
  | d :: ds => okS d && okSs ds
end
mutual
theorem same_d : ∀ (k : Nat) (x : Dt), dpt x < k → okS x = true → F_law_same k [.d x, .d x] = some (.b true)
  | 0, _, h, _ => absurd h (Nat.not_lt_zero _)
  | k + 1, .int i, _, _ => same_int i k
  | k + 1, .non, _, _ => same_non k
  | k + 1, .bl b, _, _ => same_bl b k
  | k + 1, .str _, _, h => by simp [okS] at h
  | k + 1, .tup ds, h, ho => by
    simp only [okS, Bool.and_eq_true, decide_eq_true_eq] at ho
    exact same_seq true ds k ho.1 (same_ds k ds (by rw [dpt] at h; omega) ho.2)
theorem same_ds : ∀ (k : Nat) (ds : List Dt), dpts ds < k ∨ ds = [] → okSs ds = true → ∀ x ∈ ds, F_law_same k [.d x, .d x] = some (.b true)
  | _, [], _, _, x, hx => nomatch hx
  | k, d :: ds, h, ho, x, hx => by
    simp only [okSs, Bool.and_eq_true] at ho
    have h := h.resolve_right (fun z => nomatch z)
    rw [dpts] at h
    rcases List.mem_cons.mp hx with e | hx
    · rw [e]
      exact same_d k d (by omega) ho.1
    · exact same_ds k ds (.inl (by omega)) ho.2 x hx
end
end S67

/-! MO: who is a lot; pairs of lots. -/
namespace S67
theorem is_number_eq (i : Int) : F_is_number [.i i] = some (.b true) := rfl
theorem oEq_int (i j : Int) : oEq (.i i) (.i j) = some (.b (decide (i = j))) := by
  simp [oEq, eqA, dpt, eqD]
  by_cases h : i = j <;> simp [h]
theorem oNe_int (i j : Int) : oNe (.i i) (.i j) = some (.b (!decide (i = j))) := by
  simp [oNe, eqA, dpt, eqD]
  by_cases h : i = j <;> simp [h]
theorem sAnd_ev {f g : SE} {r : Rho} {o : Option Av} (h1 : f r = some (.b true)) (h2 : g r = o) : sAnd f g r = o := by
  rw [ap_sAnd, h1]
  exact h2
theorem sAnd_no {f g : SE} {r : Rho} (h1 : f r = some (.b false)) : sAnd f g r = some (.b false) := by
  rw [ap_sAnd, h1]
  rfl
theorem are_numbers_eq (s : Int × Int) (h1 : 0 ≤ s.1) (h2 : 0 ≤ s.2) : F_are_numbers [.d (pD s), .i 2, .i 0] = some (.b true) := by
  let R : Rho := [some (.d (pD s)), some (.i 2), some (.i 0), none]
  have e1 : sLc [3] (iSeq (sVar 0)) (gNm 3) bYes (sAnd (sCall F_is_number [(sVar 3)]) (s2 oGe (sVar 3) (sVar 2))) R = some (.l .fr ([s.1, s.2].map fun _ => .bl true)) := by
    refine sLc_map (fl := true) (zs := [s.1, s.2]) Dt.int _ rfl (by simp) fun i hi => ⟨_, rfl, ?_⟩
    have h0 : 0 ≤ i := by
      rcases List.mem_cons.mp hi with rfl | hi
      · exact h1
      · rw [List.mem_singleton.mp hi]; exact h2
    have e : sAnd (sCall F_is_number [(sVar 3)]) (s2 oGe (sVar 3) (sVar 2)) [some (.d (pD s)), some (.i 2), some (.i 0), some (.i i)] = some (.b true) := by
      rw [ap_sAnd, call1_ev (F := F_is_number) rfl rfl (is_number_eq i)]
      show some (Av.b (decide (0 ≤ i))) = _
      rw [decide_eq_true h0]
    show ((sAnd _ _ [some (.d (pD s)), some (.i 2), some (.i 0), some (.i i)]).bind vDat) = _
    rw [e]
    rfl
  have e2 : s1 cAll (sLc [3] (iSeq (sVar 0)) (gNm 3) bYes (sAnd (sCall F_is_number [(sVar 3)]) (s2 oGe (sVar 3) (sVar 2)))) R = some (.b true) := s1_ev e1 rfl
  refine runP_rt (r := R) (kRet_ev (a := .b true) ?_ rfl)
  exact sAnd_ev (s1_ev (g := isTup) (o := some (.b true)) (show sVar 0 R = some (.d (pD s)) from rfl) rfl) (sAnd_ev (s2_ev (g := oEq) (o := some (.b true)) (show s1 cLen (sVar 0) R = some (.i 2) from rfl) (show sK (.i 2) R = some (.i 2) from rfl) rfl) e2)
theorem is_errand_eq (n : Nat) (e : (Int × Int) × Int) (h1 : 0 ≤ e.1.1) (h2 : e.1.1 ≤ e.1.2) (h3 : e.1.2 < n) (h4 : 1 ≤ e.2) : F_is_errand [.i n, .d (itemD e)] = some (.b true) := by
  let R : Rho := [some (.i n), some (.d (itemD e)), none]
  let R2 : Rho := [some (.i n), some (.d (itemD e)), some (.d (pD e.1))]
  have e1 : bOr (bNot (bOf (s1 isTup (sVar 1)))) (bOr (bOf (s2 oNe (s1 cLen (sVar 1)) (sK (.i 2)))) (bOr (bNot (bOf (sCall F_is_number [(s2 oIxS (sVar 1) (sK (.i 1)))]))) (bOf (s2 oLt (s2 oIxS (sVar 1) (sK (.i 1))) (sK (.i 1)))))) R = some false := by
    show some (decide (e.2 < 1)) = _
    rw [decide_eq_false (by omega)]
  have e2 : sAnd (sCall F_are_numbers [(sVar 2), (sK (.i 2)), (sK (.i 0))]) (sCh2 oLe oLt (s2 oIxS (sVar 2) (sK (.i 0))) (s2 oIxS (sVar 2) (sK (.i 1))) (sVar 0)) R2 = some (.b true) := by
    rw [ap_sAnd, call3_ev (F := F_are_numbers) (x := .d (pD e.1)) (y := .i 2) (z := .i 0) rfl rfl rfl rfl rfl rfl (are_numbers_eq e.1 h1 (by omega))]
    show (if decide (e.1.1 ≤ e.1.2) = true then some (Av.b (decide (e.1.2 < (n : Int)))) else some (.b false)) = _
    rw [if_pos (decide_eq_true h2), decide_eq_true h3]
  exact runP_rt (r := R2) (kSeq_nx (r1 := R) (kIf_p (c := false) e1 rfl) (kSeq_nx (r1 := R2) rfl (kRet_ev e2 rfl)))
theorem ltX_pD (a b : Int × Int) : oLtX (.d (pD a)) (.d (pD b)) = some (.b (decide (ltS a b))) := by
  show some (Av.b (lexLtI [a.1, a.2] [b.1, b.2])) = _
  congr 2
  simp only [lexLtI]
  by_cases h1 : a.1 = b.1
  · by_cases h2 : a.2 = b.2
    · have : ¬ ltS a b := by unfold ltS; omega
      simp [h1, h2, this]
    · by_cases h3 : a.2 < b.2
      · have : ltS a b := by unfold ltS; omega
        simp [h1, h2, h3, this]
      · have : ¬ ltS a b := by unfold ltS; omega
        simp [h1, h2, h3, this]
  · by_cases h3 : a.1 < b.1
    · have : ltS a b := by unfold ltS; omega
      simp [h1, h3, this]
    · have : ¬ ltS a b := by unfold ltS; omega
      simp [h1, h3, this]
theorem zip_next {α : Type} {Rl : α → α → Prop} : ∀ {xs : List α}, xs.Pairwise Rl → ∀ p ∈ xs.zip (xs.drop 1), Rl p.1 p.2
  | [], _, p, hp => nomatch hp
  | [_], _, p, hp => by simp at hp
  | x :: y :: r, h, p, hp => by
    rw [List.pairwise_cons] at h
    have hp : p ∈ (x, y) :: (y :: r).zip r := hp
    rcases List.mem_cons.mp hp with rfl | hp
    · exact h.1 y (List.mem_cons_self ..)
    · exact zip_next h.2 p hp
theorem zip2D_zip {α β : Type} (f : α → Dt) (g : β → Dt) : ∀ (xs : List α) (ys : List β), zip2D (xs.map f) (ys.map g) = (xs.zip ys).map fun p => Dt.tup [f p.1, g p.2]
  | [], _ => rfl
  | _ :: _, [] => rfl
  | x :: xs, y :: ys => by
    have ih := zip2D_zip f g xs ys
    unfold zip2D at ih ⊢
    rw [List.map_cons, List.map_cons, List.zipWith_cons_cons, ih, List.zip_cons_cons]
    rfl
theorem cut_1 {α : Type} (f : α → Dt) (xs : List α) : cutD (xs.map f) (some 1) none = (xs.drop 1).map f := by
  show ((xs.map f).drop (min (1 : Int).toNat (xs.map f).length)).take ((xs.map f).length - min (1 : Int).toNat (xs.map f).length) = _
  rw [List.length_map]
  cases xs with
  | nil => rfl
  | cons x xs =>
    have e : min (1 : Int).toNat (x :: xs).length = 1 := by
      show min 1 (x :: xs).length = 1
      rw [List.length_cons]
      omega
    rw [e]
    simp only [List.map_cons, List.drop_succ_cons, List.drop_zero, List.length_cons, Nat.add_sub_cancel]
    exact List.take_of_length_le (by rw [List.length_map]; exact Nat.le_refl _)
theorem rises_eq (ss : List (Int × Int)) (hs : ss.Pairwise ltS) (hl : ss.length ≤ 1000) : F_rises [.l .ro (ss.map pD)] = some (.b true) := by
  let R : Rho := [some (.l .ro (ss.map pD)), none, none]
  have e1 : sLc [1, 2] (iZip2 (sVar 0) (sCut (sVar 0) (pYes (sK (.i 1))) pNo)) (gTp [(gNm 1), (gNm 2)]) bYes (s2 oLtX (sVar 1) (sVar 2)) R = some (.l .fr ((ss.zip (ss.drop 1)).map fun _ => .bl true)) := by
    refine sLc_map (fl := true) (fun (p : (Int × Int) × (Int × Int)) => Dt.tup [pD p.1, pD p.2]) _ ?_ (by rw [List.length_zip]; omega) fun p hp => ⟨_, rfl, ?_⟩
    · rw [iZip2_ev (a := .l .ro (ss.map pD)) (b := .l .fr (cutD (ss.map pD) (some 1) none)) rfl rfl rfl rfl, cut_1, zip2D_zip]
      rfl
    · show ((oLtX (.d (pD p.1)) (.d (pD p.2))).bind vDat) = _
      rw [ltX_pD, decide_eq_true (zip_next hs p hp)]
      rfl
  refine runP_rt (r := R) (kRet_ev (a := .b true) (s1_ev e1 ?_) rfl)
  rw [cAll, vBls_f]
  simp
theorem canon_work {n : Nat} {W : Int × Int → Int} : ∀ e ∈ canon n W, 1 ≤ e.2 := by
  intro e he
  obtain ⟨s, hs, rfl⟩ := List.mem_map.mp he
  have := (List.mem_filter.mp hs).2
  have : 0 < W s := of_decide_eq_true this
  show 1 ≤ W s
  omega
theorem is_lot_eq (n : Nat) (h1 : 1 ≤ n) (hn : n ≤ 8) (W : Int × Int → Int) : F_is_lot [.d (lotD n (canon n W))] = some (.b true) := by
  let R : Rho := [some (.d (lotD n (canon n W))), none, none, none]
  have hl := canon_len hn W
  have e1 : bOr (bNot (bOf (s1 isTup (sVar 0)))) (bOr (bOf (s2 oNe (s1 cLen (sVar 0)) (sK (.i 2)))) (bOr (bNot (bOf (sCall F_is_number [(s2 oIxS (sVar 0) (sK (.i 0)))]))) (bOf (s2 oLt (s2 oIxS (sVar 0) (sK (.i 0))) (sK (.i 1)))))) R = some false := by
    show some (decide ((n : Int) < 1)) = _
    rw [decide_eq_false (by omega)]
  have e2 : sLc [3] (iSeq (s2 oIxS (sVar 0) (sK (.i 1)))) (gNm 3) bYes (sCall F_is_errand [(s2 oIxS (sVar 0) (sK (.i 0))), (sVar 3)]) R = some (.l .fr ((canon n W).map fun _ => .bl true)) := by
    refine sLc_map (fl := true) itemD _ rfl (by omega) fun e he => ⟨_, rfl, ?_⟩
    obtain ⟨d1, d2, d3⟩ := canon_day n W e he
    rw [call2_ev (F := F_is_errand) (x := .i n) (y := .d (itemD e)) rfl rfl rfl rfl (is_errand_eq n e d1 d2 d3 (canon_work e he))]
    rfl
  have e3 : s1 cAll (sLc [3] (iSeq (s2 oIxS (sVar 0) (sK (.i 1)))) (gNm 3) bYes (sCall F_is_errand [(s2 oIxS (sVar 0) (sK (.i 0))), (sVar 3)])) R = some (.b true) := by
    refine s1_ev e2 ?_
    rw [cAll, vBls_f]
    simp
  have e4 : bOr (bNot (bOf (s1 isTup (s2 oIxS (sVar 0) (sK (.i 1)))))) (bNot (bOf (s1 cAll (sLc [3] (iSeq (s2 oIxS (sVar 0) (sK (.i 1)))) (gNm 3) bYes (sCall F_is_errand [(s2 oIxS (sVar 0) (sK (.i 0))), (sVar 3)]))))) R = some false := by
    rw [ap_bOr]
    show bNot _ R = _
    rw [ap_bNot, bOf_ev e3]
    rfl
  have e5 : sCall F_rises [(sLc [1, 2] (iSeq (s2 oIxS (sVar 0) (sK (.i 1)))) (gTp [(gNm 1), (gNm 2)]) bYes (sVar 1))] R = some (.b true) := by
    have e6 : sLc [1, 2] (iSeq (s2 oIxS (sVar 0) (sK (.i 1)))) (gTp [(gNm 1), (gNm 2)]) bYes (sVar 1) R = some (.l .fr (((canon n W).map (·.1)).map pD)) := by
      rw [List.map_map]
      exact sLc_map (fl := true) itemD _ rfl (by omega) fun e he => ⟨_, rfl, rfl⟩
    exact call1_ev e6 rfl (rises_eq _ (canon_sorted hn W) (by rw [List.length_map]; omega))
  exact runP_rt (r := R) (kSeq_nx (r1 := R) (kIf_p (c := false) e1 rfl) (kSeq_nx (r1 := R) (kIf_p (c := false) e4 rfl) (kRet_ev e5 rfl)))
/-! ### pairs -/
theorem plain_lot (n : Int) (es : Lt) : plainD (lotD n es) = true := by
  simp only [lotD, plainD, plainDs, plain_map itemD plain_item, Bool.and_true]
theorem dpt_lot (n : Int) (es : Lt) : dpt (lotD n es) ≤ 4 := by
  have := dpts_map itemD dpt_item es
  simp only [lotD, dpt, dpts]
  omega
theorem itemD_inj {a b : (Int × Int) × Int} (h : itemD a = itemD b) : a = b := by
  simp only [itemD, Dt.p, Dt.tup.injEq, List.cons.injEq, Dt.int.injEq, and_true] at h
  exact Prod.ext (Prod.ext h.1.1 h.1.2) h.2
theorem map_inj {α β : Type} {f : α → β} (hf : ∀ a b, f a = f b → a = b) : ∀ {xs ys : List α}, xs.map f = ys.map f → xs = ys
  | [], [], _ => rfl
  | [], _ :: _, h => by simp at h
  | _ :: _, [], h => by simp at h
  | x :: xs, y :: ys, h => by
    rw [List.map_cons, List.map_cons, List.cons.injEq] at h
    rw [hf x y h.1, map_inj hf h.2]
theorem lotD_inj {n : Int} {es fs : Lt} (h : lotD n es = lotD n fs) : es = fs := by
  simp only [lotD, Dt.tup.injEq, List.cons.injEq, and_true, true_and] at h
  exact map_inj (fun a b => itemD_inj) h
theorem oEq_plain {a b : Dt} (hd : dpt a ≤ 32) : oEq (.d a) (.d b) = some (.b (eqD a b)) := by
  have h : min (dpt a) (dpt b) ≤ 32 := Nat.le_trans (Nat.min_le_left _ _) hd
  rw [oEq, eqA, if_pos h]
  rfl
theorem oNe_plain {a b : Dt} (hd : dpt a ≤ 32) : oNe (.d a) (.d b) = some (.b (!eqD a b)) := by
  have h : min (dpt a) (dpt b) ≤ 32 := Nat.le_trans (Nat.min_le_left _ _) hd
  rw [oNe, eqA, if_pos h]
  rfl
theorem is_blind_eq (n : Nat) (h1 : 1 ≤ n) (hn : n ≤ 8) (ps : List (List Int)) (hp : ∀ p ∈ ps, p.length = n) (W V : Int × Int → Int) (B C : Dt) (hB : F_bills_of [.d (lotD n (canon n W)), .d (.tup (ps.map tupI))] = some (.d B)) (hC : F_bills_of [.d (lotD n (canon n V)), .d (.tup (ps.map tupI))] = some (.d C))
    (dB : dpt B ≤ 32) : F_is_blind_pair [.i n, .d (.tup (ps.map tupI)), .d (.tup [lotD n (canon n W), lotD n (canon n V)])] = some (.b (if canon n W = canon n V then false else eqD B C)) := by
  let R : Rho := [some (.i n), some (.d (.tup (ps.map tupI))), some (.d (.tup [lotD n (canon n W), lotD n (canon n V)])), none]
  have e0 : sCall F_check_rows [(sVar 0), (sVar 1)] R = some (.d .non) := call2_ev rfl rfl rfl rfl (check_rows_eq n ps hp)
  have e1 : sLc [3] (iSeq (sVar 2)) (gNm 3) bYes (sCall F_is_lot [(sVar 3)]) R = some (.l .fr ([W, V].map fun _ => .bl true)) := by
    refine sLc_map (fl := true) (zs := [W, V]) (fun U => lotD n (canon n U)) _ rfl (by simp) fun U _ => ⟨_, rfl, ?_⟩
    rw [call1_ev (F := F_is_lot) (x := .d (lotD n (canon n U))) rfl rfl (is_lot_eq n h1 hn U)]
    rfl
  have e2 : bOr (bNot (bOf (s1 isTup (sVar 2)))) (bOr (bOf (s2 oNe (s1 cLen (sVar 2)) (sK (.i 2)))) (bNot (bOf (s1 cAll (sLc [3] (iSeq (sVar 2)) (gNm 3) bYes (sCall F_is_lot [(sVar 3)])))))) R = some false := by
    rw [ap_bOr]
    show bOr _ _ R = _
    rw [ap_bOr]
    show bNot _ R = _
    rw [ap_bNot, bOf_ev (c := true) (s1_ev e1 rfl)]
    rfl
  have e3 : bOf (s2 oEq (s2 oIxS (sVar 2) (sK (.i 0))) (s2 oIxS (sVar 2) (sK (.i 1)))) R = some (eqD (lotD n (canon n W)) (lotD n (canon n V))) := bOf_ev (s2_ev (a := .d (lotD n (canon n W))) (b := .d (lotD n (canon n V))) rfl rfl (oEq_plain (Nat.le_trans (dpt_lot _ _) (by decide))))
  have e4 : bOf (s2 oNe (sTup [(s2 oIxS (s2 oIxS (sVar 2) (sK (.i 0))) (sK (.i 0))), (s2 oIxS (s2 oIxS (sVar 2) (sK (.i 1))) (sK (.i 0)))]) (sTup [(sVar 0), (sVar 0)])) R = some false := by
    refine bOf_ev (s2_ev (a := .d (pD (n, n))) (b := .d (pD (n, n))) rfl rfl ?_)
    rw [oNe_plain (Nat.le_trans (dpt_pD _) (by decide)), (eqD_iff _ _ (plain_pD _) (plain_pD _)).mpr rfl]
    rfl
  by_cases q : canon n W = canon n V
  · rw [if_pos q]
    refine runP_rt (r := R) (kSeq_nx (r1 := R) (kExpr_ev e0) (kSeq_nx (r1 := R) (kIf_p (c := false) e2 rfl) (kSeq_rt (kIf_p (c := true) ?_ rfl))))
    rw [ap_bOr]
    show (bOf _ R).bind _ = _
    rw [e3, (eqD_iff _ _ (plain_lot _ _) (plain_lot _ _)).mpr (by rw [q])]
    rfl
  · rw [if_neg q]
    refine runP_rt (r := R) (kSeq_nx (r1 := R) (kExpr_ev e0) (kSeq_nx (r1 := R) (kIf_p (c := false) e2 rfl) (kSeq_nx (r1 := R) (kIf_p (c := false) ?_ rfl) (kRet_ev (a := .b (eqD B C)) ?_ rfl))))
    · rw [ap_bOr]
      show (bOf _ R).bind _ = _
      rw [e3, Bool.eq_false_iff.mpr fun z => q (lotD_inj ((eqD_iff _ _ (plain_lot _ _) (plain_lot _ _)).mp z))]
      exact e4
    · exact s2_ev (a := .d B) (b := .d C) (call2_ev (x := .d (lotD n (canon n W))) (y := .d (.tup (ps.map tupI))) rfl rfl rfl rfl hB) (call2_ev (x := .d (lotD n (canon n V))) (y := .d (.tup (ps.map tupI))) rfl rfl rfl rfl hC) (oEq_plain dB)
end S67

/-! MO2: two lots beside each other. -/
namespace S67
theorem check_same_eq (n : Int) (es fs : Lt) : F_check_same [.d (lotD n es), .d (lotD n fs)] = some (.d .non) := by
  let R : Rho := [some (.d (lotD n es)), some (.d (lotD n fs))]
  have e : bOf (s2 oNe (s2 oIxS (sVar 0) (sK (.i 0))) (s2 oIxS (sVar 1) (sK (.i 0)))) R = some false := by
    refine bOf_ev (s2_ev (a := .i n) (b := .i n) rfl rfl ?_)
    rw [oNe_int]
    simp
  exact runP_nx (r := R) (kIf_p (c := false) e rfl)
theorem zip3D_map {α : Type} (f g h : α → Dt) : ∀ xs : List α, zip3D (xs.map f) (xs.map g) (xs.map h) = xs.map fun x => Dt.tup [f x, g x, h x]
  | [] => rfl
  | x :: xs => by rw [List.map_cons, List.map_cons, List.map_cons, zip3D, zip3D_map f g h xs, List.map_cons]
theorem iZip3_ev {f g e : SE} {r : Rho} {a b c : Av} {xs ys zs : List Dt} (h1 : f r = some a) (h2 : g r = some b) (h3 : e r = some c) (h4 : vSeq a = some xs) (h5 : vSeq b = some ys) (h6 : vSeq c = some zs) : iZip3 f g e r = some (notOw a && notOw b && notOw c, zip3D xs ys zs) := by
  rw [ap_iZip3, h1, Option.bind_some, h2, Option.bind_some, h3, Option.bind_some, h4, Option.bind_some, h5, Option.bind_some, h6]
  rfl
def dlt (es fs : Lt) (s : Int × Int) : Int := askE es s.1 s.2 - askE fs s.1 s.2
def difD (es fs : Lt) (s : Int × Int) : Dt := .tup [.int s.1, .int s.2, .int (dlt es fs s)]
theorem differences_eq (n : Nat) (hn : n ≤ 8) (es fs : Lt) (he : es.length ≤ 1000000) (hf : fs.length ≤ 1000000) : F_differences [.d (lotD n es), .d (lotD n fs)] = some (.l .fr ((stz n).map (difD es fs))) := by
  let ρ : List Dt × Option Av × Option Av × Option Av × Option Av → Rho := fun s => [some (.d (lotD n es)), some (.d (lotD n fs)), some (.l .ow s.1), s.2.1, s.2.2.1, s.2.2.2.1, s.2.2.2.2]
  let body : SS := (kApp 2 (xP (sTup [(sVar 5), (sVar 6), (s2 oSub (sVar 3) (sVar 4))])))
  let st := fun (s : List Dt × Option Av × Option Av × Option Av × Option Av) (z : Int × Int) => (s.1 ++ [difD es fs z], some (Av.i (askE es z.1 z.2)), some (Av.i (askE fs z.1 z.2)), some (Av.i z.1), some (Av.i z.2))
  have hlen := stz_len hn
  have lp := forGo_foldI (g := gTp [(gTp [(gNm 5), (gNm 6)]), (gNm 3), (gNm 4)]) (b := body) (fun s : Int × Int => Dt.tup [pD s, .int (askE es s.1 s.2), .int (askE fs s.1 s.2)]) ρ st (fun j s => s.1.length = j) 36 (zs := stz n) (s := ([], none, none, none, none)) (i := 0) (by omega) rfl (fun j s hs hj z hz => ⟨by show (s.1 ++ [_]).length = _; rw [List.length_append, hs]; rfl, ?_⟩)
  · obtain ⟨f1, f2⟩ := lp
    have ff : ∀ (zs : List (Int × Int)) (s : List Dt × Option Av × Option Av × Option Av × Option Av), (zs.foldl st s).1 = s.1 ++ zs.map (difD es fs) := by
      intro zs
      induction zs with
      | nil => intro s; simp
      | cons z zs ih => intro s; rw [List.foldl_cons, ih]; show (s.1 ++ [difD es fs z]) ++ _ = _; simp
    have e0 : sCall F_check_same [(sVar 0), (sVar 1)] (startR 7 [.d (lotD n es), .d (lotD n fs)]) = some (.d .non) := call2_ev (x := .d (lotD n es)) (y := .d (lotD n fs)) rfl rfl rfl rfl (check_same_eq n es fs)
    have e1 : kSet 2 (xP (sLst [])) (startR 7 [.d (lotD n es), .d (lotD n fs)]) = some (.nx (ρ ([], none, none, none, none))) := rfl
    have e2 : kFor [] (iZip3 (sCall F_all_stretches [(s2 oIxS (sVar 0) (sK (.i 0)))]) (sCall F_table_of [(sVar 0)]) (sCall F_table_of [(sVar 1)])) (gTp [(gTp [(gNm 5), (gNm 6)]), (gNm 3), (gNm 4)]) body (ρ ([], none, none, none, none)) = some (.nx (ρ ((stz n).foldl st ([], none, none, none, none)))) := by
      have hz : iZip3 (sCall F_all_stretches [(s2 oIxS (sVar 0) (sK (.i 0)))]) (sCall F_table_of [(sVar 0)]) (sCall F_table_of [(sVar 1)]) (frz (ρ ([], none, none, none, none)) []) = some (true, (stz n).map (fun s : Int × Int => Dt.tup [pD s, .int (askE es s.1 s.2), .int (askE fs s.1 s.2)])) := by
        have := iZip3_ev (f := sCall F_all_stretches [(s2 oIxS (sVar 0) (sK (.i 0)))]) (g := sCall F_table_of [(sVar 0)]) (e := sCall F_table_of [(sVar 1)]) (r := ρ ([], none, none, none, none)) (call1_ev (x := .i n) rfl rfl (all_stretches_eq n hn)) (call1_ev (x := .d (lotD n es)) rfl rfl (table_of_eq n es hn he)) (call1_ev (x := .d (lotD n fs)) rfl rfl (table_of_eq n fs hn hf)) rfl rfl rfl
        rw [zip3D_map] at this
        exact this
      rw [kFor_ev hz]
      exact f1
    refine runP_rt (kSeq_nx (kExpr_ev e0) (kSeq_nx e1 (kSeq_nx e2 (kRet_ev (a := .l .ow ((stz n).map (difD es fs))) ?_ rfl))))
    show some (Av.l .ow _) = _
    rw [ff]
    rfl
  · have hg : gTp [(gTp [(gNm 5), (gNm 6)]), (gNm 3), (gNm 4)] (Dt.tup [pD z, .int (askE es z.1 z.2), .int (askE fs z.1 z.2)]) (ρ s) = some (ρ (s.1, some (Av.i (askE es z.1 z.2)), some (Av.i (askE fs z.1 z.2)), some (Av.i z.1), some (Av.i z.2))) := rfl
    rw [hg, Option.bind_some]
    exact kApp_ev (xs := s.1) (v := difD es fs z) rfl rfl (by omega)
theorem all_ev {op : Av → Av → Option Av} (c : Int → Bool) (h : ∀ i, op (.i i) (.i 0) = some (.b (c i))) {α : Type} (zs : List α) (δ : α → Int) (hl : zs.length ≤ 1000000) (a b : Option Av) (t3 t4 t5 : Option Av) (q : Fl) :
    s1 cAll (sLc [5] (iSeq (sVar 2)) (gNm 5) bYes (s2 op (sVar 5) (sK (.i 0)))) [a, b, some (.l q (zs.map fun z => .int (δ z))), t3, t4, t5] = some (.b (zs.all fun z => c (δ z))) := by
  have e1 : sLc [5] (iSeq (sVar 2)) (gNm 5) bYes (s2 op (sVar 5) (sK (.i 0))) [a, b, some (.l q (zs.map fun z => .int (δ z))), t3, t4, t5] = some (.l .fr (zs.map fun z => .bl (c (δ z)))) := by
    refine sLc_map (fl := notOw (.l q (zs.map fun z => .int (δ z)))) (fun z => Dt.int (δ z)) _ rfl hl fun z _ => ⟨_, rfl, ?_⟩
    show ((op (.i (δ z)) (.i 0)).bind vDat) = _
    rw [h]
    rfl
  refine s1_ev e1 ?_
  rw [cAll, vBls_f, Option.map_some, List.all_map]
  rfl
theorem compare_eq (n : Nat) (hn : n ≤ 8) (es fs : Lt) (he : es.length ≤ 1000000) (hf : fs.length ≤ 1000000) : ∃ x b, F_compare [.d (lotD n es), .d (lotD n fs)] = some (.d x) ∧ oEq (.d x) (.d (.str "lighter")) = some (.b b) ∧ (b = true → ∀ s ∈ stz n, askE es s.1 s.2 ≤ askE fs s.1 s.2) := by
  have hlen := stz_len hn
  let R0 : Rho := startR 6 [.d (lotD n es), .d (lotD n fs)]
  let R : Rho := [some (.d (lotD n es)), some (.d (lotD n fs)), some (.l .ow ((stz n).map fun s => .int (dlt es fs s))), none, none, none]
  have e1 : kSet 2 (xP (sLc [3, 4, 5] (iSeq (sCall F_differences [(sVar 0), (sVar 1)])) (gTp [(gNm 3), (gNm 4), (gNm 5)]) bYes (sVar 5))) R0 = some (.nx R) := by
    refine kSet_p (a := .l .fr ((stz n).map fun s => .int (dlt es fs s))) ?_ rfl
    refine sLc_map (fl := true) (difD es fs) _ ?_ (by omega) fun s _ => ⟨_, rfl, rfl⟩
    rw [ap_iSeq, call2_ev (F := F_differences) (x := .d (lotD n es)) (y := .d (lotD n fs)) rfl rfl rfl rfl (differences_eq n hn es fs he hf)]
    rfl
  have a1 := all_ev (op := oEq) (fun i => decide (i = 0)) (fun i => oEq_int i 0) (stz n) (dlt es fs) (by omega) (some (.d (lotD n es))) (some (.d (lotD n fs))) none none none .ow
  have a2 := all_ev (op := oLe) (fun i => decide (i ≤ 0)) (fun i => rfl) (stz n) (dlt es fs) (by omega) (some (.d (lotD n es))) (some (.d (lotD n fs))) none none none .ow
  have a3 := all_ev (op := oGe) (fun i => decide (0 ≤ i)) (fun i => rfl) (stz n) (dlt es fs) (by omega) (some (.d (lotD n es))) (some (.d (lotD n fs))) none none none .ow
  cases c1 : (stz n).all fun z => decide (dlt es fs z = 0) with
  | true =>
    rw [c1] at a1
    exact ⟨.str "alike", false, runP_rt (r := R) (kSeq_nx e1 (kSeq_rt (kIf_p (c := true) (bOf_ev a1) rfl))), rfl, fun h => nomatch h⟩
  | false =>
    rw [c1] at a1
    cases c2 : (stz n).all fun z => decide (dlt es fs z ≤ 0) with
    | true =>
      rw [c2] at a2
      refine ⟨.str "lighter", true, runP_rt (r := R) (kSeq_nx e1 (kSeq_nx (kIf_p (c := false) (bOf_ev a1) rfl) (kSeq_rt (kIf_p (c := true) (bOf_ev a2) rfl)))), rfl, fun _ s hs => ?_⟩
      have := of_decide_eq_true (List.all_eq_true.mp c2 s hs)
      unfold dlt at this
      omega
    | false =>
      rw [c2] at a2
      cases c3 : (stz n).all fun z => decide (0 ≤ dlt es fs z) with
      | true =>
        rw [c3] at a3
        exact ⟨.str "heavier", false, runP_rt (r := R) (kSeq_nx e1 (kSeq_nx (kIf_p (c := false) (bOf_ev a1) rfl) (kSeq_nx (kIf_p (c := false) (bOf_ev a2) rfl) (kRet_ev (sIf_ev (c := true) (bOf_ev a3) rfl) rfl)))), rfl, fun h => nomatch h⟩
      | false =>
        rw [c3] at a3
        exact ⟨.str "neither", false, runP_rt (r := R) (kSeq_nx e1 (kSeq_nx (kIf_p (c := false) (bOf_ev a1) rfl) (kSeq_nx (kIf_p (c := false) (bOf_ev a2) rfl) (kRet_ev (sIf_ev (c := false) (bOf_ev a3) rfl) rfl)))), rfl, fun h => nomatch h⟩
theorem over_eq (n : Nat) (hn : n ≤ 8) (es fs : Lt) (he : es.length ≤ 1000000) (hf : fs.length ≤ 1000000) : F_over [.d (lotD n es), .d (lotD n fs)] = some (.l .fr (((stz n).filter fun s => decide (0 < dlt es fs s)).map (difD es fs))) := by
  have hlen := stz_len hn
  let R : Rho := startR 5 [.d (lotD n es), .d (lotD n fs)]
  have e : sLc [2, 3, 4] (iSeq (sCall F_differences [(sVar 0), (sVar 1)])) (gTp [(gNm 2), (gNm 3), (gNm 4)]) (bOf (s2 oGt (sVar 4) (sK (.i 0)))) (sTup [(sVar 2), (sVar 3), (sVar 4)]) R = some (.l .fr (((stz n).filter fun s => decide (0 < dlt es fs s)).map (difD es fs))) := by
    refine ap_sLc_ev (fl := true) (difD es fs) _ _ ?_ (by omega) fun s _ => ⟨_, rfl, rfl, fun _ => rfl⟩
    rw [ap_iSeq, call2_ev (F := F_differences) (x := .d (lotD n es)) (y := .d (lotD n fs)) rfl rfl rfl rfl (differences_eq n hn es fs he hf)]
    rfl
  exact runP_rt (r := R) (kRet_ev e rfl)
end S67

/-! MO3: what rows see; the pair that one row less cannot tell apart. -/
namespace S67
theorem flatMap_congr' {α β : Type} {f g : α → List β} : ∀ {xs : List α}, (∀ x ∈ xs, f x = g x) → xs.flatMap f = xs.flatMap g
  | [], _ => rfl
  | x :: xs, h => by rw [List.flatMap_cons, List.flatMap_cons, h x (List.mem_cons_self ..), flatMap_congr' fun y hy => h y (List.mem_cons_of_mem _ hy)]
theorem told_rows {n : Nat} (h1 : 1 ≤ n) (hn : n ≤ 8) {b : Int} (hb : 0 < b) (rs : List Nat) (hr : ∀ r ∈ rs, r < rowsN n) : toldS (rs.map fun r => rowP n r b) = rs.flatMap (srow n) := by
  unfold toldS
  rw [List.flatMap_map]
  refine flatMap_congr' fun r hr' => ?_
  rw [wts_row hn (row_mem h1 hn (hr r hr')) hb]
  unfold rowW
  rw [List.map_map]
  exact List.map_id _
def rows1 (n : Nat) (b : Int) : List (List Int) := ((List.range (rowsN n)).drop 1).map fun r => rowP n r b
theorem rows1_drop (n : Nat) (b : Int) : (rowsP n b).drop 1 = rows1 n b := by rw [rowsP, rows1, List.map_drop]
theorem rows1_lt {n r : Nat} (h : r ∈ (List.range (rowsN n)).drop 1) : r < rowsN n := List.mem_range.mp (List.mem_of_mem_drop h)
theorem rows1_len {n : Nat} (hn : n ≤ 8) (b : Int) : (rows1 n b).length ≤ 20 := by
  have := rowsN_le hn
  rw [rows1, List.length_map, List.length_drop, List.length_range]
  omega
theorem rowsP_len {n : Nat} (hn : n ≤ 8) (b : Int) : (rowsP n b).length ≤ 20 := by
  have := rowsN_le hn
  rw [rowsP, List.length_map, List.length_range]
  omega
theorem rows1_n {n : Nat} {b : Int} : ∀ p ∈ rows1 n b, p.length = n := fun p hp => by
  obtain ⟨r, _, rfl⟩ := List.mem_map.mp hp
  exact rowP_len n r b
theorem rowsP_n {n : Nat} {b : Int} : ∀ p ∈ rowsP n b, p.length = n := fun p hp => by
  obtain ⟨r, _, rfl⟩ := List.mem_map.mp hp
  exact rowP_len n r b
theorem unseen_rows {n : Nat} (h1 : 1 ≤ n) (hn : n ≤ 8) {b : Int} (hb : 0 < b) : F_unseen [.i n, .d (.tup ((rowsP n b).map tupI))] = some (.d (.tup [])) := by
  rw [unseen_eq n _ hn (rowsP_len hn b) rowsP_n, rowsP, told_rows h1 hn hb _ fun r hr => List.mem_range.mp hr]
  have e : (stz n).filter (fun s => !decide (s ∈ (List.range (rowsN n)).flatMap (srow n))) = [] := by
    rw [List.filter_eq_nil_iff]
    intro s hs
    obtain ⟨r, hr, h⟩ := rows_cover n (List.mem_range.mpr (by omega)) s hs
    have : s ∈ (List.range (rowsN n)).flatMap (srow n) := List.mem_flatMap.mpr ⟨r, hr, h⟩
    simp [this]
  rw [e]
  rfl
def tellS (n : Nat) : List (Int × Int) := ((List.range (rowsN n)).drop 1).flatMap (srow n)
theorem unseen_rows1 {n : Nat} (h1 : 1 ≤ n) (hn : n ≤ 8) {b : Int} (hb : 0 < b) : F_unseen [.i n, .d (.tup ((rows1 n b).map tupI))] = some (.d (.tup (((stz n).filter fun s => !decide (s ∈ tellS n)).map pD))) := by
  rw [unseen_eq n _ hn (rows1_len hn b) rows1_n, rows1, told_rows h1 hn hb _ fun r hr => rows1_lt hr]
  rfl
theorem blind_none {n : Nat} (h1 : 1 ≤ n) (hn : n ≤ 8) {b : Int} (hb : 0 < b) : F_blind_pair [.i n, .d (.tup ((rowsP n b).map tupI))] = some (.d .non) := by
  let R0 : Rho := [some (.i n), some (.d (.tup ((rowsP n b).map tupI))), none]
  let R : Rho := [some (.i n), some (.d (.tup ((rowsP n b).map tupI))), some (.d (.tup []))]
  have e1 : kSet 2 (xP (sCall F_unseen [(sVar 0), (sVar 1)])) R0 = some (.nx R) := kSet_p (call2_ev (x := .i n) (y := .d (.tup ((rowsP n b).map tupI))) rfl rfl rfl rfl (unseen_rows h1 hn hb)) rfl
  exact runP_rt (r := R) (kSeq_nx e1 (kRet_ev (a := .d .non) (sIf_ev (c := false) rfl rfl) rfl))
/-! ### the pair -/
def mineE (n : Nat) (s : Int × Int) : Lt := (if 0 < s.1 then [((s.1 - 1, s.2), 1)] else []) ++ (if s.2 < (n : Int) - 1 then [((s.1, s.2 + 1), 1)] else [])
def itsE (n : Nat) (s : Int × Int) : Lt := ((s.1, s.2), 1) :: (if 0 < s.1 ∧ s.2 < (n : Int) - 1 then [((s.1 - 1, s.2 + 1), 1)] else [])
theorem mine_day {n : Nat} {s : Int × Int} (h : s ∈ stz n) : InDay n (mineE n s) := by
  obtain ⟨h1, h2, h3⟩ := mem_stz.mp h
  intro e he
  unfold mineE at he
  rcases List.mem_append.mp he with q | q
  · split at q
    · rw [List.mem_singleton] at q; subst q; exact ⟨by simp only; omega, by simp only; omega, by simp only; omega⟩
    · exact nomatch q
  · split at q
    · rw [List.mem_singleton] at q; subst q; exact ⟨by simp only; omega, by simp only; omega, by simp only; omega⟩
    · exact nomatch q
theorem its_day {n : Nat} {s : Int × Int} (h : s ∈ stz n) : InDay n (itsE n s) := by
  obtain ⟨h1, h2, h3⟩ := mem_stz.mp h
  intro e he
  unfold itsE at he
  rcases List.mem_cons.mp he with rfl | q
  · exact ⟨h1, h2, h3⟩
  · split at q
    · rw [List.mem_singleton] at q; subst q; exact ⟨by simp only; omega, by simp only; omega, by simp only; omega⟩
    · exact nomatch q
theorem pair_at_eq (n : Nat) (hn : n ≤ 8) (s : Int × Int) (h : s ∈ stz n) : F_pair_at [.i n, .i s.1, .i s.2] = some (.d (.tup [lotD n (canon n (wsum (mineE n s))), lotD n (canon n (wsum (itsE n s)))])) := by
  let c1 := decide (0 < s.1)
  let c2 := decide (s.2 < (n : Int) - 1)
  let R0 : Rho := startR 7 [.i n, .i s.1, .i s.2]
  let R1 : Rho := [some (.i n), some (.i s.1), some (.i s.2), none, none, some (.b c1), some (.b c2)]
  let R2 : Rho := [some (.i n), some (.i s.1), some (.i s.2), some (.l .ow ((mineE n s).map itemD)), none, some (.b c1), some (.b c2)]
  let R3 : Rho := [some (.i n), some (.i s.1), some (.i s.2), some (.l .ow ((mineE n s).map itemD)), some (.l .ow ((itsE n s).map itemD)), some (.b c1), some (.b c2)]
  have e1 : kPar 5 6 (xP (s2 oGt (sVar 1) (sK (.i 0)))) (xP (s2 oLt (sVar 2) (s2 oSub (sVar 0) (sK (.i 1))))) R0 = some (.nx R1) := rfl
  have e2 : kSet 3 (xP (s2 oAdd (s2 oMul (sLst [(sTup [(sTup [(s2 oSub (sVar 1) (sK (.i 1))), (sVar 2)]), (sK (.i 1))])]) (s1 cInt (sVar 5))) (s2 oMul (sLst [(sTup [(sTup [(sVar 1), (s2 oAdd (sVar 2) (sK (.i 1)))]), (sK (.i 1))])]) (s1 cInt (sVar 6))))) R1 = some (.nx R2) := by
    refine kSet_p (a := .l .fr ((mineE n s).map itemD)) ?_ rfl
    show s2 oAdd _ _ [some (.i n), some (.i s.1), some (.i s.2), none, none, some (.b (decide (0 < s.1))), some (.b (decide (s.2 < (n : Int) - 1)))] = _
    unfold mineE
    by_cases q1 : 0 < s.1 <;> by_cases q2 : s.2 < (n : Int) - 1 <;> simp only [q1, q2, decide_true, decide_false, if_true, if_false] <;> rfl
  have e3 : kSet 4 (xP (s2 oAdd (sLst [(sTup [(sTup [(sVar 1), (sVar 2)]), (sK (.i 1))])]) (s2 oMul (sLst [(sTup [(sTup [(s2 oSub (sVar 1) (sK (.i 1))), (s2 oAdd (sVar 2) (sK (.i 1)))]), (sK (.i 1))])]) (s1 cInt (sAnd (sVar 5) (sVar 6)))))) R2 = some (.nx R3) := by
    refine kSet_p (a := .l .fr ((itsE n s).map itemD)) ?_ rfl
    show s2 oAdd _ _ [some (.i n), some (.i s.1), some (.i s.2), some (.l .ow ((mineE n s).map itemD)), none, some (.b (decide (0 < s.1))), some (.b (decide (s.2 < (n : Int) - 1)))] = _
    unfold itsE
    by_cases q1 : 0 < s.1 <;> by_cases q2 : s.2 < (n : Int) - 1 <;> simp only [q1, q2, decide_true, decide_false, if_true, if_false, and_self, and_true, true_and, and_false, false_and] <;> rfl
  have l1 : (mineE n s).length ≤ 100000 := by unfold mineE; rw [List.length_append]; split <;> split <;> simp
  have l2 : (itsE n s).length ≤ 100000 := by unfold itsE; rw [List.length_cons]; split <;> simp
  have e4 : sCall F_made_lot [(sVar 0), (sVar 3)] R3 = some (.d (lotD n (canon n (wsum (mineE n s))))) := call2_ev (x := .i n) (y := .l .ow ((mineE n s).map itemD)) rfl rfl rfl rfl (made_lot_eq n hn (mineE n s) (mine_day h) l1)
  have e5 : sCall F_made_lot [(sVar 0), (sVar 4)] R3 = some (.d (lotD n (canon n (wsum (itsE n s))))) := call2_ev (x := .i n) (y := .l .ow ((itsE n s).map itemD)) rfl rfl rfl rfl (made_lot_eq n hn (itsE n s) (its_day h) l2)
  refine runP_rt (r := R3) (kSeq_nx e1 (kSeq_nx e2 (kSeq_nx e3 (kRet_ev (a := .d (.tup [lotD n (canon n (wsum (mineE n s))), lotD n (canon n (wsum (itsE n s)))])) ?_ rfl))))
  rw [ap_sTup]
  simp only [seqE, e4, e5, Option.bind_some, Option.map_some, vDats]
def Tn (n : Nat) : Int × Int := if n = 1 then (0, 0) else if n = 3 then (2, 2) else if n % 2 = 0 then (1, (n : Int) - 1) else (2, (n : Int) - 1)
theorem tn_facts : ∀ n ∈ [1, 2, 3, 4, 5, 6, 7, 8], ((stz n).filter fun s => !decide (s ∈ tellS n)).head? = some (Tn n) ∧ Tn n ∈ stz n := by decide +kernel
theorem tn_ok : ∀ n ∈ [1, 2, 3, 4, 5, 6, 7, 8], ∀ s ∈ stz n, (0 ≤ wsum (mineE n (Tn n)) s ∧ wsum (mineE n (Tn n)) s < 2 ^ 150) ∧ (0 ≤ wsum (itsE n (Tn n)) s ∧ wsum (itsE n (Tn n)) s < 2 ^ 150) := by decide +kernel
theorem tn_ne : ∀ n ∈ [1, 2, 3, 4, 5, 6, 7, 8], canon n (wsum (mineE n (Tn n))) ≠ canon n (wsum (itsE n (Tn n))) := by decide +kernel
theorem tn_ask : ∀ n ∈ [1, 2, 3, 4, 5, 6, 7, 8], ∀ r ∈ (List.range (rowsN n)).drop 1, ∀ s ∈ srow n r, askW n (wsum (mineE n (Tn n))) s = askW n (wsum (itsE n (Tn n))) s := by decide +kernel
theorem tn_over : ∀ n ∈ [1, 2, 3, 4, 5, 6, 7, 8], ((stz n).filter fun s => decide (0 < dlt (canon n (wsum (mineE n (Tn n)))) (canon n (wsum (itsE n (Tn n)))) s)).length + ((stz n).filter fun s => decide (0 < dlt (canon n (wsum (itsE n (Tn n)))) (canon n (wsum (mineE n (Tn n)))) s)).length = 1 := by decide +kernel
theorem in8 {n : Nat} (h1 : 1 ≤ n) (hn : n ≤ 8) : n ∈ [1, 2, 3, 4, 5, 6, 7, 8] := by
  simp only [List.mem_cons, List.not_mem_nil, or_false]
  omega
theorem ok_mine {n : Nat} (h1 : 1 ≤ n) (hn : n ≤ 8) : Ok n (wsum (mineE n (Tn n))) := ⟨fun s hs => (tn_ok n (in8 h1 hn) s hs).1.1, fun s hs => (tn_ok n (in8 h1 hn) s hs).1.2⟩
theorem ok_its {n : Nat} (h1 : 1 ≤ n) (hn : n ≤ 8) : Ok n (wsum (itsE n (Tn n))) := ⟨fun s hs => (tn_ok n (in8 h1 hn) s hs).2.1, fun s hs => (tn_ok n (in8 h1 hn) s hs).2.2⟩
theorem bills_rows {n : Nat} (h1 : 1 ≤ n) (hn : n ≤ 8) {b : Int} (hb : 0 < b) (hb2 : b < 2 ^ 200) {W : Int × Int → Int} (o : Ok n W) (rs : List Nat) (hr : ∀ r ∈ rs, r < rowsN n) (hl : rs.length ≤ 100) : F_bills_of [.d (lotD n (canon n W)), .d (.tup ((rs.map fun r => rowP n r b).map tupI))] = some (.d (.tup (rs.map fun r => .int (bill n (askW n W) b r)))) := by
  rw [bills_of_eq n (canon n W) (rs.map fun r => rowP n r b) (by rw [List.length_map]; omega) (Nat.le_trans (canon_len hn W) (by decide)) (fun p hp => by
    obtain ⟨r, _, rfl⟩ := List.mem_map.mp hp
    exact rowP_len n r b) (canon_day n W) (fun p hp => by
    obtain ⟨r, hr, rfl⟩ := List.mem_map.mp hp
    exact mulOks o (rowP_len n r b) (rowP_nonneg hb) (rowP_big hn hb hb2))]
  rw [List.map_map]
  congr 3
  refine List.map_congr_left fun r hr' => ?_
  show Dt.int (chp (canon n W) (rowP n r b)) = _
  rw [chp_row hn (row_mem h1 hn (hr r hr')) hb o.pos]
theorem dpt_ints {α : Type} (f : α → Int) (xs : List α) : dpt (.tup (xs.map fun x => .int (f x))) ≤ 32 := by
  have := dpts_map (k := 0) (fun x => Dt.int (f x)) (fun _ => Nat.le_refl _) xs
  rw [dpt]
  omega
def toldD (n : Nat) : Dt := .tup [lotD n (canon n (wsum (mineE n (Tn n)))), lotD n (canon n (wsum (itsE n (Tn n))))]
theorem blind_rows1 {n : Nat} (h1 : 1 ≤ n) (hn : n ≤ 8) {b : Int} (hb : 0 < b) : F_blind_pair [.i n, .d (.tup ((rows1 n b).map tupI))] = some (.d (toldD n)) := by
  obtain ⟨f1, f2⟩ := tn_facts n (in8 h1 hn)
  cases hu : (stz n).filter fun s => !decide (s ∈ tellS n) with
  | nil => rw [hu] at f1; cases f1
  | cons s us =>
    rw [hu, List.head?_cons, Option.some.injEq] at f1
    have hun := unseen_rows1 h1 hn hb
    rw [hu, f1, List.map_cons] at hun
    let R0 : Rho := [some (.i n), some (.d (.tup ((rows1 n b).map tupI))), none]
    let R : Rho := [some (.i n), some (.d (.tup ((rows1 n b).map tupI))), some (.d (.tup (pD (Tn n) :: us.map pD)))]
    have e1 : kSet 2 (xP (sCall F_unseen [(sVar 0), (sVar 1)])) R0 = some (.nx R) := kSet_p (call2_ev (x := .i n) (y := .d (.tup ((rows1 n b).map tupI))) rfl rfl rfl rfl hun) rfl
    have e2 : bOf (s2 oGt (s1 cLen (sVar 2)) (sK (.i 0))) R = some true := by
      show some (decide (0 < ((pD (Tn n) :: us.map pD).length : Int))) = _
      rw [decide_eq_true (by rw [List.length_cons]; omega)]
    have e0 : sVar 2 R = some (.d (.tup (pD (Tn n) :: us.map pD))) := rfl
    have ei : ixA (pD (Tn n) :: us.map pD).length 0 = some 0 := ixA_pos (Int.le_refl 0) (by rw [List.length_cons]; omega)
    have e3 : s2 oIxS (sVar 2) (sK (.i 0)) R = some (.d (pD (Tn n))) := by
      refine s2_ev (a := .d (.tup (pD (Tn n) :: us.map pD))) (b := .i 0) rfl rfl ?_
      show ((ixA _ 0).bind _).map _ = _
      rw [ei]
      rfl
    have e4 : sCall F_pair_at [(sVar 0), (s2 oIxS (s2 oIxS (sVar 2) (sK (.i 0))) (sK (.i 0))), (s2 oIxS (s2 oIxS (sVar 2) (sK (.i 0))) (sK (.i 1)))] R = some (.d (toldD n)) :=
      call3_ev (x := .i n) (y := .i (Tn n).1) (z := .i (Tn n).2) rfl (s2_ev (b := .i 0) e3 rfl rfl) (s2_ev (b := .i 1) e3 rfl rfl) rfl rfl rfl (pair_at_eq n hn (Tn n) f2)
    exact runP_rt (r := R) (kSeq_nx e1 (kRet_ev (sIf_ev (c := true) e2 e4) rfl))
theorem is_blind_rows1 {n : Nat} (h1 : 1 ≤ n) (hn : n ≤ 8) {b : Int} (hb : 0 < b) (hb2 : b < 2 ^ 200) : F_is_blind_pair [.i n, .d (.tup ((rows1 n b).map tupI)), .d (toldD n)] = some (.b true) := by
  have hl : ((List.range (rowsN n)).drop 1).length ≤ 100 := by
    have := rowsN_le hn
    rw [List.length_drop, List.length_range]
    omega
  have hB := bills_rows h1 hn hb hb2 (ok_mine h1 hn) _ (fun r => rows1_lt (r := r)) hl
  have hC := bills_rows h1 hn hb hb2 (ok_its h1 hn) _ (fun r => rows1_lt (r := r)) hl
  have e := is_blind_eq n h1 hn (rows1 n b) rows1_n _ _ _ _ hB hC (dpt_ints _ _)
  rw [toldD, e, if_neg (tn_ne n (in8 h1 hn))]
  congr 2
  have hbill : ((List.range (rowsN n)).drop 1).map (fun r => Dt.int (bill n (askW n (wsum (mineE n (Tn n)))) b r)) = ((List.range (rowsN n)).drop 1).map fun r => Dt.int (bill n (askW n (wsum (itsE n (Tn n)))) b r) := by
    refine List.map_congr_left fun r hr => ?_
    unfold bill
    rw [List.map_congr_left fun s hs => tn_ask n (in8 h1 hn) r hr s hs]
  rw [hbill]
  exact (eqD_iff _ _ (by rw [plainD]; exact plain_map _ (fun _ => rfl) _) (by rw [plainD]; exact plain_map _ (fun _ => rfl) _)).mpr rfl
end S67

/-! MP: the law of two lots. -/
namespace S67
theorem bOr_ff {t u : SB} {r : Rho} (h1 : t r = some false) (h2 : u r = some false) : bOr t u r = some false := by
  rw [ap_bOr, h1]
  exact h2
theorem bNot_ev {t : SB} {r : Rho} {c : Bool} (h : t r = some c) : bNot t r = some (!c) := by
  rw [ap_bNot, h]
  rfl
theorem same_of {xs : List Dt} (hl : xs.length ≤ 1000000) (h : ∀ x ∈ xs, dpt x < 7 ∧ okS x = true) (f g : SE) (R : Rho) (q1 q2 : Fl) (h1 : f R = some (.l q1 xs)) (h2 : g R = some (.l q2 xs)) (a1 : argA (.l q1 xs) = some (.l .ro xs)) (a2 : argA (.l q2 xs) = some (.l .ro xs)) :
    bNot (bOf (sCall (F_law_same 8) [f, g])) R = some false :=
  bNot_ev (c := true) (bOf_ev (call2_ev h1 h2 a1 a2 (same_seq false xs 7 hl fun x hx => same_d 7 x (h x hx).1 (h x hx).2)))
theorem okSs_map {α : Type} (f : α → Dt) (h : ∀ a, okS (f a) = true) : ∀ xs : List α, okSs (xs.map f) = true
  | [] => rfl
  | x :: xs => by rw [List.map_cons, okSs, h x, okSs_map f h xs]; rfl
theorem okS_item (e : (Int × Int) × Int) : okS (itemD e) = true := rfl
theorem okS_lot (n : Int) (es : Lt) (h : es.length ≤ 1000000) : okS (lotD n es) = true := by
  simp only [lotD, okS, okSs, okSs_map itemD okS_item, List.length_map, h, decide_true, Bool.and_true, List.length_cons, List.length_nil]
  rfl
theorem okS_ints {α : Type} (f : α → Int) (xs : List α) (h : xs.length ≤ 1000000) : okS (.tup (xs.map fun x => .int (f x))) = true := by
  rw [okS, okSs_map _ (fun _ => rfl), List.length_map, decide_eq_true h]
  rfl
theorem dpt_ints1 {α : Type} (f : α → Int) (xs : List α) : dpt (.tup (xs.map fun x => .int (f x))) < 7 := by
  have := dpts_map (k := 0) (fun x => Dt.int (f x)) (fun _ => Nat.le_refl _) xs
  rw [dpt]
  omega
theorem dpt_lot7 (n : Int) (es : Lt) : dpt (lotD n es) < 7 := by
  have := dpt_lot n es
  omega
theorem bill_mono {n : Nat} (hn : n ≤ 8) {b : Int} (hb : 0 < b) {A B : Int × Int → Int} (r : Nat) (h : ∀ s ∈ stz n, A s ≤ B s) : bill n A b r ≤ bill n B b r := by
  unfold bill
  rw [val_sm (srow_nodup hn), val_sm (srow_nodup hn)]
  refine sm_le fun s hs => ?_
  exact Int.mul_le_mul_of_nonneg_left (h s (List.mem_filter.mp hs).1) (Int.le_of_lt (pow_pos' hb _))
theorem lot_back {n : Nat} (h1 : 1 ≤ n) (hn : n ≤ 8) {W : Int × Int → Int} (o : Ok n W) (most : Int) (hm : 0 ≤ most) (hb : (most + 1).natAbs < 2 ^ 200) (hw : sm (stz n) W ≤ most) : F_lot_by_bills [.i n, .i most, .d (billsD n (askW n W) (most + 1))] = some (.d (lotD n (canon n W))) := by
  have hone : ∀ s ∈ stz n, one n (askW n W) s = W s := fun s hs => one_ask hn W hs
  rw [lot_by_bills_eq n h1 hn most (askW n W) hm hb (fun s hs => ⟨(dn_mono o.pos s.1 s.2).1, Int.le_trans (dn_mono o.pos s.1 s.2).2 hw⟩) (fun s hs => by rw [hone s hs]; exact o.pos s hs), canon_congr hone]
theorem plain_lotT (n : Int) (es : Lt) : plainD (lotD n es) = true := plain_lot n es
theorem plain_ints {α : Type} (f : α → Int) (xs : List α) : plainD (.tup (xs.map fun x => .int (f x))) = true := by rw [plainD]; exact plain_map _ (fun _ => rfl) _
theorem kPar_p {i j : Nat} {f g : SE} {r : Rho} {a b a' b' : Av} (h1 : f r = some a) (h2 : (vFree a).bind toSlot = some a') (h3 : g r = some b) (h4 : (vFree b).bind toSlot = some b') : kPar i j (xP f) (xP g) r = some (.nx ((r.set i (some a')).set j (some b'))) := by
  rw [ap_kPar, ap_xP, h1, Option.bind_some]
  cases hv : vFree a with
  | none => rw [hv] at h2; cases h2
  | some v =>
    rw [hv, Option.bind_some] at h2
    rw [Option.map_some, Option.bind_some, h2, Option.bind_some, ap_xP, h3, Option.bind_some]
    cases hw : vFree b with
    | none => rw [hw] at h4; cases h4
    | some w =>
      rw [hw, Option.bind_some] at h4
      rw [Option.map_some, Option.bind_some, h4]
      rfl
theorem pair_right (n : Nat) (h1 : 1 ≤ n) (hn : n ≤ 8) (W V : Int × Int → Int) (oW : Ok n W) (oV : Ok n V) : F_law_pair_right [.d (lotD n (canon n W)), .d (lotD n (canon n V))] = some (.b true) := by
  obtain ⟨w1, w2⟩ := work_big hn oW
  obtain ⟨v1, v2⟩ := work_big hn oV
  generalize hmost : max (max 2 (sm (stz n) W)) (sm (stz n) V) = most
  have m0 : 0 ≤ most := by omega
  have mW : sm (stz n) W ≤ most := by omega
  have mV : sm (stz n) V ≤ most := by omega
  have mb : most + 1 < 2 ^ 157 := by
    have : (2 : Int) ^ 156 + 1 < 2 ^ 157 := by decide
    have : (2 : Int) < 2 ^ 156 := by decide
    omega
  have b0 : 0 < most + 1 := by omega
  have b2 : most + 1 < 2 ^ 200 := by
    have : (2 : Int) ^ 157 < 2 ^ 200 := by decide
    omega
  have bn : (most + 1).natAbs < 2 ^ 200 := by
    have h5 : ((most + 1).natAbs : Int) < ((2 ^ 200 : Nat) : Int) := by
      rw [Int.natAbs_of_nonneg (by omega), Int.natCast_pow]
      exact b2
    exact Int.ofNat_lt.mp h5
  have hlen := stz_len hn
  have cW := canon_len hn W
  have cV := canon_len hn V
  have hrows : F_telling_rows [.i n, .i most] = some (.d (.tup ((rowsP n (most + 1)).map tupI))) := by
    rw [telling_rows_eq n h1 hn most m0 bn, rowsP, List.map_map]
    rfl
  have bW := bills_canon h1 hn b0 b2 oW
  have bV := bills_canon h1 hn b0 b2 oV
  have kW := lot_back h1 hn oW most m0 bn mW
  have kV := lot_back h1 hn oV most m0 bn mV
  have lW := dpt_lot7 n (canon n W)
  have lV := dpt_lot7 n (canon n V)
  have oLW := okS_lot n (canon n W) (by omega)
  have oLV := okS_lot n (canon n V) (by omega)
  have pBW : plainD (billsD n (askW n W) (most + 1)) = true := plain_ints _ _
  have pBV : plainD (billsD n (askW n V) (most + 1)) = true := plain_ints _ _
  have dBW : dpt (billsD n (askW n W) (most + 1)) ≤ 32 := dpt_ints _ _
  have hiff : billsD n (askW n W) (most + 1) = billsD n (askW n V) (most + 1) ↔ canon n W = canon n V := by
    constructor
    · intro h
      rw [h, kV] at kW
      exact (lotD_inj (Av.d.inj (Option.some.inj kW))).symm
    · intro h
      rw [h, bV] at bW
      exact (Av.d.inj (Option.some.inj bW)).symm
  have heq : eqD (billsD n (askW n W) (most + 1)) (billsD n (askW n V) (most + 1)) = eqD (lotD n (canon n W)) (lotD n (canon n V)) := by
    rw [Bool.eq_iff_iff, eqD_iff _ _ pBW pBV, eqD_iff _ _ (plain_lot _ _) (plain_lot _ _), hiff]
    exact ⟨fun h => by rw [h], fun h => lotD_inj h⟩
  generalize hrs : Dt.tup ((rowsP n (most + 1)).map tupI) = rs at *
  generalize hBW : billsD n (askW n W) (most + 1) = BW at *
  generalize hBV : billsD n (askW n V) (most + 1) = BV at *
  generalize hLW : lotD n (canon n W) = LW at *
  generalize hLV : lotD n (canon n V) = LV at *
  let R0 : Rho := startR 11 [.d LW, .d LV]
  let R1 : Rho := [some (.d LW), some (.d LV), none, none, none, none, some (.i n), some (.i most), none, none, none]
  let R2 : Rho := [some (.d LW), some (.d LV), some (.d rs), none, none, none, some (.i n), some (.i most), none, none, none]
  let R3 : Rho := [some (.d LW), some (.d LV), some (.d rs), some (.l .ow [BW, BV]), none, none, some (.i n), some (.i most), none, none, none]
  let R4 : Rho := [some (.d LW), some (.d LV), some (.d rs), some (.l .ow [BW, BV]), some (.l .ow [LW, LV]), none, some (.i n), some (.i most), none, none, none]
  let got : List Dt := [.int (rowsN n : Nat), .tup [], .non, .bl false]
  let R5 : Rho := [some (.d LW), some (.d LV), some (.d rs), some (.l .ow [BW, BV]), some (.l .ow got), none, some (.i n), some (.i most), none, none, none]
  let R6 : Rho := [some (.d LW), some (.d LV), some (.d rs), some (.l .ow [BW, BV]), some (.l .ow got), some (.d (toldD n)), some (.i n), some (.i most), none, none, none]
  have e1 : kPar 6 7 (xP (s2 oIxS (sVar 0) (sK (.i 0)))) (xP (s3 cMax3 (sK (.i 2)) (sCall F_all_work [(sVar 0)]) (sCall F_all_work [(sVar 1)]))) R0 = some (.nx R1) := by
    have a1 : sCall F_all_work [(sVar 0)] R0 = some (.i (sm (stz n) W)) := call1_ev (x := .d LW) rfl rfl (by rw [← hLW]; exact all_work_canon hn oW.pos)
    have a2 : sCall F_all_work [(sVar 1)] R0 = some (.i (sm (stz n) V)) := call1_ev (x := .d LV) rfl rfl (by rw [← hLV]; exact all_work_canon hn oV.pos)
    have a3 : s3 cMax3 (sK (.i 2)) (sCall F_all_work [(sVar 0)]) (sCall F_all_work [(sVar 1)]) R0 = some (.i most) := s3_ev (a := .i 2) rfl a1 a2 (by rw [← hmost]; rfl)
    have a4 : s2 oIxS (sVar 0) (sK (.i 0)) R0 = some (.i n) := s2_ev (a := .d LW) (b := .i 0) rfl rfl (by rw [← hLW]; rfl)
    exact kPar_p a4 rfl a3 rfl
  have e2 : kSet 2 (xP (sCall F_telling_rows [(sVar 6), (sVar 7)])) R1 = some (.nx R2) := kSet_p (call2_ev (x := .i n) (y := .i most) rfl rfl rfl rfl hrows) rfl
  have e3 : kSet 3 (xP (sLc [8] (iSeq (sTup [(sVar 0), (sVar 1)])) (gNm 8) bYes (sCall F_bills_of [(sVar 8), (sVar 2)]))) R2 = some (.nx R3) := by
    refine kSet_p (a := .l .fr [BW, BV]) ?_ rfl
    show sLc [8] (iSeq (sTup [(sVar 0), (sVar 1)])) (gNm 8) bYes (sCall F_bills_of [(sVar 8), (sVar 2)]) R2 = some (.l .fr ([(LW, BW), (LV, BV)].map fun z : Dt × Dt => z.2))
    refine sLc_map (fl := true) (zs := [(LW, BW), (LV, BV)]) (fun z : Dt × Dt => z.1) (fun z : Dt × Dt => z.2) rfl (by simp) fun z hz => ⟨_, rfl, ?_⟩
    rcases List.mem_cons.mp hz with rfl | hz
    · rw [call2_ev (F := F_bills_of) (x := .d LW) (y := .d rs) rfl rfl rfl rfl bW]
      rfl
    · rw [List.mem_singleton] at hz
      subst hz
      rw [call2_ev (F := F_bills_of) (x := .d LV) (y := .d rs) rfl rfl rfl rfl bV]
      rfl
  have e4 : kSet 4 (xP (sLc [8] (iSeq (sVar 3)) (gNm 8) bYes (sCall F_lot_by_bills [(sVar 6), (sVar 7), (sVar 8)]))) R3 = some (.nx R4) := by
    refine kSet_p (a := .l .fr [LW, LV]) ?_ rfl
    show sLc [8] (iSeq (sVar 3)) (gNm 8) bYes (sCall F_lot_by_bills [(sVar 6), (sVar 7), (sVar 8)]) R3 = some (.l .fr ([(BW, LW), (BV, LV)].map fun z : Dt × Dt => z.2))
    refine sLc_map (fl := false) (zs := [(BW, LW), (BV, LV)]) (fun z : Dt × Dt => z.1) (fun z : Dt × Dt => z.2) rfl (by simp) fun z hz => ⟨_, rfl, ?_⟩
    rcases List.mem_cons.mp hz with rfl | hz
    · rw [call3_ev (F := F_lot_by_bills) (x := .i n) (y := .i most) (z := .d BW) rfl rfl rfl rfl rfl rfl kW]
      rfl
    · rw [List.mem_singleton] at hz
      subst hz
      rw [call3_ev (F := F_lot_by_bills) (x := .i n) (y := .i most) (z := .d BV) rfl rfl rfl rfl rfl rfl kV]
      rfl
  have s1' : ∀ x ∈ [LW, LV], dpt x < 7 ∧ okS x = true := fun x hx => by
    rcases List.mem_cons.mp hx with rfl | hx
    · exact ⟨lW, oLW⟩
    · rw [List.mem_singleton] at hx
      subst hx
      exact ⟨lV, oLV⟩
  have e5 : bOr (bNot (bOf (sCall (F_law_same 8) [(sVar 4), (sLst [(sVar 0), (sVar 1)])]))) (bOf (s2 oNe (s2 oEq (s2 oIxS (sVar 3) (sK (.i 0))) (s2 oIxS (sVar 3) (sK (.i 1)))) (s2 oEq (sVar 0) (sVar 1)))) R4 = some false := by
    refine bOr_ff (same_of (xs := [LW, LV]) (by simp) s1' _ _ R4 .ow .fr rfl rfl rfl rfl) (bOf_ev (s2_ev (a := .b (eqD BW BV)) (b := .b (eqD LW LV)) (s2_ev (a := .d BW) (b := .d BV) rfl rfl (oEq_plain dBW)) (s2_ev (a := .d LW) (b := .d LV) rfl rfl (oEq_plain (by omega))) ?_))
    rw [heq]
    cases eqD LW LV <;> rfl
  have tW := table_of_eq n (canon n W) hn (by omega)
  have tV := table_of_eq n (canon n V) hn (by omega)
  have lotV : F_lot_of [.i n, .d (.tup ((stz n).map fun s => .int (askE (canon n V) s.1 s.2)))] = some (.d LV) := by
    have hone : ∀ s ∈ stz n, one n (askW n V) s = V s := fun s hs => one_ask hn V hs
    have := lot_of_eq n h1 hn (askW n V) true (fun s hs => by rw [hone s hs]; exact oV.pos s hs)
    rw [canon_congr hone, hLV] at this
    have e : (stz n).map (fun s => Dt.int (askE (canon n V) s.1 s.2)) = (stz n).map fun s => .int (askW n V s) := List.map_congr_left fun s _ => by
      rw [ask_canon oV.pos]
      rfl
    rw [e]
    exact this
  rw [hLW] at tW
  rw [hLV] at tV
  generalize hTW : (stz n).map (fun s => Dt.int (askE (canon n W) s.1 s.2)) = TW at *
  generalize hTV : (stz n).map (fun s => Dt.int (askE (canon n V) s.1 s.2)) = TV at *
  have e6 : bNot (bOf (sCall (F_law_same 8) [(sLst [(sCall F_table_of [(s2 oIxS (sVar 4) (sK (.i 0)))]), (sCall F_lot_of [(sVar 6), (sCall F_table_of [(s2 oIxS (sVar 4) (sK (.i 1)))])])]), (sLst [(sCall F_table_of [(sVar 0)]), (sVar 1)])])) R4 = some false := by
    have a1 : sCall F_table_of [(s2 oIxS (sVar 4) (sK (.i 0)))] R4 = some (.d (.tup TW)) := call1_ev (x := .d LW) rfl rfl tW
    have a2 : sCall F_table_of [(s2 oIxS (sVar 4) (sK (.i 1)))] R4 = some (.d (.tup TV)) := call1_ev (x := .d LV) rfl rfl tV
    have a3 : sCall F_lot_of [(sVar 6), (sCall F_table_of [(s2 oIxS (sVar 4) (sK (.i 1)))])] R4 = some (.d LV) := call2_ev (x := .i n) rfl a2 rfl rfl lotV
    have a4 : sCall F_table_of [(sVar 0)] R4 = some (.d (.tup TW)) := call1_ev (x := .d LW) rfl rfl tW
    refine same_of (xs := [.tup TW, LV]) (by simp) (fun x hx => ?_) _ _ R4 .fr .fr ?_ ?_ rfl rfl
    · rcases List.mem_cons.mp hx with rfl | hx
      · rw [← hTW]
        exact ⟨dpt_ints1 _ _, okS_ints _ _ (by omega)⟩
      · rw [List.mem_singleton] at hx
        subst hx
        exact ⟨lV, oLV⟩
    · rw [ap_sLst]
      simp only [seqE, a1, a3, Option.bind_some, Option.map_some, vDats]
    · rw [ap_sLst]
      simp only [seqE, a4, show sVar 1 R4 = some (.d LV) from rfl, Option.bind_some, Option.map_some, vDats]
  have hblind : F_is_blind_pair [.i n, .d rs, .d (.tup [LW, LV])] = some (.b false) := by
    have := is_blind_eq n h1 hn (rowsP n (most + 1)) rowsP_n W V BW BV (by rw [hrs, hLW]; exact bW) (by rw [hrs, hLV]; exact bV) dBW
    rw [hrs, hLW, hLV] at this
    rw [this]
    by_cases q : canon n W = canon n V
    · rw [if_pos q]
    · rw [if_neg q]
      have : ¬ eqD BW BV = true := fun z => q (hiff.mp ((eqD_iff _ _ pBW pBV).mp z))
      rw [Bool.eq_false_iff.mpr this]
  have e7 : kSet 4 (xP (sLst [(s1 cLen (sVar 2)), (sCall F_unseen [(sVar 6), (sVar 2)]), (sCall F_blind_pair [(sVar 6), (sVar 2)]), (sCall F_is_blind_pair [(sVar 6), (sVar 2), (sTup [(sVar 0), (sVar 1)])])])) R4 = some (.nx R5) := by
    have a1 : s1 cLen (sVar 2) R4 = some (.i (rowsN n : Nat)) := by
      refine s1_ev (a := .d rs) rfl ?_
      rw [← hrs]
      show some (Av.i (((rowsP n (most + 1)).map tupI).length : Nat)) = _
      rw [List.length_map, rowsP, List.length_map, List.length_range]
    have a2 : sCall F_unseen [(sVar 6), (sVar 2)] R4 = some (.d (.tup [])) := call2_ev (x := .i n) (y := .d rs) rfl rfl rfl rfl (by rw [← hrs]; exact unseen_rows h1 hn b0)
    have a3 : sCall F_blind_pair [(sVar 6), (sVar 2)] R4 = some (.d .non) := call2_ev (x := .i n) (y := .d rs) rfl rfl rfl rfl (by rw [← hrs]; exact blind_none h1 hn b0)
    have a4 : sCall F_is_blind_pair [(sVar 6), (sVar 2), (sTup [(sVar 0), (sVar 1)])] R4 = some (.b false) := call3_ev (x := .i n) (y := .d rs) (z := .d (.tup [LW, LV])) rfl rfl rfl rfl rfl rfl hblind
    refine kSet_p (a := .l .fr got) ?_ rfl
    rw [ap_sLst]
    simp only [seqE, a1, a2, a3, a4, Option.bind_some, Option.map_some, vDats]
    rfl
  have e8 : bNot (bOf (sCall (F_law_same 8) [(sVar 4), (sLst [(sCall F_fewest_rows [(sVar 6)]), (sTup []), (sK (.d .non)), (sK (.b false))])])) R5 = some false := by
    have a1 : sCall F_fewest_rows [(sVar 6)] R5 = some (.i (rowsN n : Nat)) := call1_ev (x := .i n) rfl rfl (fewest_rows_eq n hn)
    refine same_of (xs := got) (by show 4 ≤ _; omega) (fun x hx => ?_) _ _ R5 .ow .fr rfl ?_ rfl rfl
    · have hx : x ∈ [Dt.int (rowsN n : Nat), .tup [], .non, .bl false] := hx
      simp only [List.mem_cons, List.not_mem_nil, or_false] at hx
      rcases hx with rfl | rfl | rfl | rfl
      · exact ⟨by show 0 < 7; omega, rfl⟩
      · exact ⟨by show 1 < 7; omega, rfl⟩
      · exact ⟨by show 0 < 7; omega, rfl⟩
      · exact ⟨by show 0 < 7; omega, rfl⟩
    · rw [ap_sLst]
      simp only [seqE, a1, Option.bind_some, Option.map_some]
      rfl
  have e9 : bAnd (bOf (s2 oEq (sCall F_compare [(sVar 0), (sVar 1)]) (sK (.d (.str "lighter"))))) (bNot (bOf (s1 cAll (sLc [9, 10] (iZip2 (s2 oIxS (sVar 3) (sK (.i 0))) (s2 oIxS (sVar 3) (sK (.i 1)))) (gTp [(gNm 9), (gNm 10)]) bYes (s2 oLe (sVar 9) (sVar 10)))))) R5 = some false := by
    obtain ⟨x, c, c1, c2, c3⟩ := compare_eq n hn (canon n W) (canon n V) (by omega) (by omega)
    rw [hLW, hLV] at c1
    have a1 : bOf (s2 oEq (sCall F_compare [(sVar 0), (sVar 1)]) (sK (.d (.str "lighter")))) R5 = some c := bOf_ev (s2_ev (a := .d x) (call2_ev (x := .d LW) (y := .d LV) rfl rfl rfl rfl c1) rfl c2)
    rw [ap_bAnd, a1]
    cases c with
    | false => rfl
    | true =>
      have hle := c3 rfl
      have hle2 : ∀ s ∈ stz n, askW n W s ≤ askW n V s := fun s hs => by
        have := hle s hs
        rw [ask_canon oW.pos, ask_canon oV.pos] at this
        exact this
      have a2 : sLc [9, 10] (iZip2 (s2 oIxS (sVar 3) (sK (.i 0))) (s2 oIxS (sVar 3) (sK (.i 1)))) (gTp [(gNm 9), (gNm 10)]) bYes (s2 oLe (sVar 9) (sVar 10)) R5 = some (.l .fr ((List.range (rowsN n)).map fun _ => .bl true)) := by
        refine sLc_map (fl := true) (fun r => Dt.tup [.int (bill n (askW n W) (most + 1) r), .int (bill n (askW n V) (most + 1) r)]) _ ?_ ?_ fun r _ => ⟨_, rfl, ?_⟩
        · rw [iZip2_ev (a := .d BW) (b := .d BV) (xs := (List.range (rowsN n)).map fun r => .int (bill n (askW n W) (most + 1) r)) (ys := (List.range (rowsN n)).map fun r => .int (bill n (askW n V) (most + 1) r)) rfl rfl (by rw [← hBW]; rfl) (by rw [← hBV]; rfl), zip2D_map]
          rfl
        · have := rowsN_le hn
          rw [List.length_range]
          omega
        · show some (Dt.bl (decide (bill n (askW n W) (most + 1) r ≤ bill n (askW n V) (most + 1) r))) = _
          rw [decide_eq_true (bill_mono hn b0 r hle2)]
      have a3 : s1 cAll (sLc [9, 10] (iZip2 (s2 oIxS (sVar 3) (sK (.i 0))) (s2 oIxS (sVar 3) (sK (.i 1)))) (gTp [(gNm 9), (gNm 10)]) bYes (s2 oLe (sVar 9) (sVar 10))) R5 = some (.b true) := by
        refine s1_ev a2 ?_
        rw [cAll, vBls_f]
        simp
      exact bNot_ev (c := true) (bOf_ev a3)
  have hcut : sCut (sVar 2) (pYes (sK (.i 1))) pNo R5 = some (.d (.tup ((rows1 n (most + 1)).map tupI))) := by
    rw [← rows1_drop, ← cut_1]
    show some (Av.d rs) >>= _ = _
    rw [← hrs]
    rfl
  have hcut6 : sCut (sVar 2) (pYes (sK (.i 1))) pNo R6 = some (.d (.tup ((rows1 n (most + 1)).map tupI))) := hcut
  have e10 : kSet 5 (xP (sCall F_blind_pair [(sVar 6), (sCut (sVar 2) (pYes (sK (.i 1))) pNo)])) R5 = some (.nx R6) := kSet_p (call2_ev (x := .i n) rfl hcut rfl rfl (blind_rows1 h1 hn b0)) rfl
  have e11 : bOr (bOf (s2 oIs (sVar 5) (sK (.d .non)))) (bNot (bOf (sCall F_is_blind_pair [(sVar 6), (sCut (sVar 2) (pYes (sK (.i 1))) pNo), (sVar 5)]))) R6 = some false :=
    bOr_ff rfl (bNot_ev (c := true) (bOf_ev (call3_ev (x := .i n) (z := .d (toldD n)) rfl hcut6 rfl rfl rfl rfl (is_blind_rows1 h1 hn b0 b2))))
  have hM := canon_len hn (wsum (mineE n (Tn n)))
  have hI := canon_len hn (wsum (itsE n (Tn n)))
  have o1 := over_eq n hn (canon n (wsum (mineE n (Tn n)))) (canon n (wsum (itsE n (Tn n)))) (by omega) (by omega)
  have o2 := over_eq n hn (canon n (wsum (itsE n (Tn n)))) (canon n (wsum (mineE n (Tn n)))) (by omega) (by omega)
  have o3 := tn_over n (in8 h1 hn)
  have a12 : s1 cLen (sCall F_over [(s2 oIxS (sVar 5) (sK (.i 0))), (s2 oIxS (sVar 5) (sK (.i 1)))]) R6 = some (.i (((stz n).filter fun s => decide (0 < dlt (canon n (wsum (mineE n (Tn n)))) (canon n (wsum (itsE n (Tn n)))) s)).length : Nat)) := by
    refine s1_ev (call2_ev (x := .d (lotD n (canon n (wsum (mineE n (Tn n)))))) (y := .d (lotD n (canon n (wsum (itsE n (Tn n)))))) rfl rfl rfl rfl o1) ?_
    show some (Av.i ((List.map _ _).length : Nat)) = _
    rw [List.length_map]
  have a13 : s1 cLen (sCall F_over [(s2 oIxS (sVar 5) (sK (.i 1))), (s2 oIxS (sVar 5) (sK (.i 0)))]) R6 = some (.i (((stz n).filter fun s => decide (0 < dlt (canon n (wsum (itsE n (Tn n)))) (canon n (wsum (mineE n (Tn n)))) s)).length : Nat)) := by
    refine s1_ev (call2_ev (x := .d (lotD n (canon n (wsum (itsE n (Tn n)))))) (y := .d (lotD n (canon n (wsum (mineE n (Tn n)))))) rfl rfl rfl rfl o2) ?_
    show some (Av.i ((List.map _ _).length : Nat)) = _
    rw [List.length_map]
  have e12 : s2 oEq (s2 oAdd (s1 cLen (sCall F_over [(s2 oIxS (sVar 5) (sK (.i 0))), (s2 oIxS (sVar 5) (sK (.i 1)))])) (s1 cLen (sCall F_over [(s2 oIxS (sVar 5) (sK (.i 1))), (s2 oIxS (sVar 5) (sK (.i 0)))]))) (sK (.i 1)) R6 = some (.b true) := by
    refine s2_ev (b := .i 1) (s2_ev a12 a13 rfl) rfl ?_
    rw [oEq_int, decide_eq_true (by omega)]
  exact runP_rt (r := R6) (kSeq_nx e1 (kSeq_nx e2 (kSeq_nx e3 (kSeq_nx e4 (kSeq_nx (kIf_p (c := false) e5 rfl) (kSeq_nx (kIf_p (c := false) e6 rfl) (kSeq_nx e7 (kSeq_nx (kIf_p (c := false) e8 rfl) (kSeq_nx (kIf_p (c := false) e9 rfl) (kSeq_nx e10 (kSeq_nx (kIf_p (c := false) e11 rfl) (kRet_ev e12 rfl))))))))))))
end S67

/-! MQ: the mirror. -/
namespace S67
def mir (n : Nat) (s : Int × Int) : Int × Int := ((n : Int) - 1 - s.2, (n : Int) - 1 - s.1)
theorem mir_mir (n : Nat) (s : Int × Int) : mir n (mir n s) = s := by
  unfold mir
  apply Prod.ext <;> simp only <;> omega
theorem mir_stz {n : Nat} {s : Int × Int} (h : s ∈ stz n) : mir n s ∈ stz n := by
  obtain ⟨h1, h2, h3⟩ := mem_stz.mp h
  exact mem_stz.mpr ⟨by show 0 ≤ (n : Int) - 1 - s.2; omega, by show (n : Int) - 1 - s.2 ≤ (n : Int) - 1 - s.1; omega, by show (n : Int) - 1 - s.1 < n; omega⟩
theorem mir_inj {n : Nat} {s t : Int × Int} (h : mir n s = mir n t) : s = t := by
  rw [← mir_mir n s, h, mir_mir]
theorem rev_get {p : List Int} {h : Nat} (hh : h < p.length) : p.reverse[h]'(by rw [List.length_reverse]; exact hh) = p[p.length - 1 - h]'(by omega) := by rw [List.getElem_reverse]
theorem mn_rev_le {p : List Int} {f l : Nat} (hf : f ≤ l) (hl : l < p.length) : mn p.reverse (p.length - 1 - l) (p.length - 1 - f) ≤ mn p f l := by
  refine le_mn _ f l rfl hf hl fun h hh h1 h2 => ?_
  have hr : p.length - 1 - h < p.reverse.length := by rw [List.length_reverse]; omega
  have := mn_le (p := p.reverse) _ (p.length - 1 - l) (p.length - 1 - f) rfl (by omega) (by rw [List.length_reverse]; omega) (p.length - 1 - h) hr (by omega) (by omega)
  rw [rev_get (by omega)] at this
  have e : p[p.length - 1 - (p.length - 1 - h)]'(by omega) = p[h] := by
    congr 1
    omega
  rw [e] at this
  exact this
theorem mn_rev {p : List Int} {f l : Nat} (hf : f ≤ l) (hl : l < p.length) : mn p.reverse (p.length - 1 - l) (p.length - 1 - f) = mn p f l := by
  refine Int.le_antisymm (mn_rev_le hf hl) ?_
  have := mn_rev_le (p := p.reverse) (f := p.length - 1 - l) (l := p.length - 1 - f) (by omega) (by rw [List.length_reverse]; omega)
  rw [List.reverse_reverse, List.length_reverse, show p.length - 1 - (p.length - 1 - f) = f by omega, show p.length - 1 - (p.length - 1 - l) = l by omega] at this
  exact this
theorem mn_mir {p : List Int} {s : Int × Int} (hs : s ∈ stz p.length) : mn p.reverse (mir p.length s).1.toNat (mir p.length s).2.toNat = mn p s.1.toNat s.2.toNat := by
  obtain ⟨h1, h2, h3⟩ := mem_stz.mp hs
  have := mn_rev (p := p) (f := s.1.toNat) (l := s.2.toNat) (by omega) (by omega)
  rw [← this]
  congr 1
  · show ((p.length : Int) - 1 - s.2).toNat = _; omega
  · show ((p.length : Int) - 1 - s.1).toNat = _; omega
theorem bes_rev (p : List Int) (h : Int) : bes p.reverse ((p.length : Int) - 1 - h) = bes p h := by
  by_cases q : h < 0 ∨ (p.length : Int) ≤ h
  · rw [bes_out q, bes_out (by rw [List.length_reverse]; omega)]
  · have h0 : h.toNat < p.length := by omega
    have e1 : bes p h = p[h.toNat] := by
      have := bes_in (p := p) h0
      rw [show ((h.toNat : Nat) : Int) = h by omega] at this
      exact this
    have h2 : p.length - 1 - h.toNat < p.reverse.length := by rw [List.length_reverse]; omega
    have e2 := bes_in (p := p.reverse) h2
    rw [show ((p.length - 1 - h.toNat : Nat) : Int) = (p.length : Int) - 1 - h by omega] at e2
    rw [e1, e2, rev_get (by omega)]
    congr 1
    omega
theorem wtOf_mir {p : List Int} {s : Int × Int} (hs : s ∈ stz p.length) : wtOf p.reverse (mir p.length s) = wtOf p s := by
  unfold wtOf
  rw [mn_mir hs]
  have a1 : bes p.reverse ((mir p.length s).1 - 1) = bes p (s.2 + 1) := by
    rw [← bes_rev p (s.2 + 1)]
    congr 1
    show (p.length : Int) - 1 - s.2 - 1 = _
    omega
  have a2 : bes p.reverse ((mir p.length s).2 + 1) = bes p (s.1 - 1) := by
    rw [← bes_rev p (s.1 - 1)]
    congr 1
    show (p.length : Int) - 1 - s.1 + 1 = _
    omega
  rw [a1, a2]
  omega
theorem mem_wts {p : List Int} {e : (Int × Int) × Int} : e ∈ wts p ↔ e.1 ∈ stz p.length ∧ 0 < wtOf p e.1 ∧ e.2 = wtOf p e.1 := by
  unfold wts
  rw [List.mem_map]
  constructor
  · rintro ⟨s, hs, rfl⟩
    rw [List.mem_filter, decide_eq_true_iff] at hs
    exact ⟨hs.1, hs.2, rfl⟩
  · rintro ⟨h1, h2, h3⟩
    exact ⟨e.1, List.mem_filter.mpr ⟨h1, decide_eq_true h2⟩, Prod.ext rfl h3.symm⟩
def mirE (n : Nat) (e : (Int × Int) × Int) : (Int × Int) × Int := (mir n e.1, e.2)
theorem mirE_mirE (n : Nat) (e : (Int × Int) × Int) : mirE n (mirE n e) = e := Prod.ext (mir_mir n e.1) rfl
theorem nodup_map {α β : Type} {f : α → β} (hf : ∀ a b, f a = f b → a = b) {xs : List α} (h : xs.Nodup) : (xs.map f).Nodup := by
  unfold List.Nodup at h ⊢
  rw [List.pairwise_map]
  exact h.imp fun hab z => hab (hf _ _ z)
theorem wts_nodup {p : List Int} (h : p.length ≤ 8) : (wts p).Nodup := by
  unfold wts
  exact nodup_map (fun a b h => (Prod.ext_iff.mp h).1) ((stz_nodup h).sublist List.filter_sublist)
theorem mir_wts {p : List Int} (h : p.length ≤ 8) : ((wts p).map (mirE p.length)).Perm (wts p.reverse) := by
  have hr : p.reverse.length = p.length := List.length_reverse
  refine perm_of_nodup (nodup_map (fun a b q => by rw [← mirE_mirE p.length a, q, mirE_mirE]) (wts_nodup h)) (wts_nodup (by rw [hr]; exact h)) fun x => ?_
  rw [List.mem_map, mem_wts, hr]
  constructor
  · rintro ⟨e, he, rfl⟩
    obtain ⟨h1, h2, h3⟩ := mem_wts.mp he
    refine ⟨mir_stz h1, ?_, ?_⟩
    · show 0 < wtOf p.reverse (mir p.length e.1)
      rw [wtOf_mir h1]; exact h2
    · show e.2 = wtOf p.reverse (mir p.length e.1)
      rw [wtOf_mir h1]; exact h3
  · rintro ⟨h1, h2, h3⟩
    have e := wtOf_mir (p := p) (mir_stz h1)
    rw [mir_mir] at e
    refine ⟨mirE p.length x, mem_wts.mpr ⟨mir_stz h1, ?_, ?_⟩, mirE_mirE _ _⟩
    · show 0 < wtOf p (mir p.length x.1)
      rw [← e]; exact h2
    · show x.2 = wtOf p (mir p.length x.1)
      rw [← e]; exact h3
theorem sm_perm {α : Type} {f : α → Int} {xs ys : List α} (h : xs.Perm ys) : sm xs f = sm ys f := by
  induction h with
  | nil => rfl
  | cons x _ ih => rw [sm_cons, sm_cons, ih]
  | swap x y l => rw [sm_cons, sm_cons, sm_cons, sm_cons]; omega
  | trans _ _ i1 i2 => rw [i1, i2]
theorem stz_mir {n : Nat} (h : n ≤ 8) : ((stz n).map (mir n)).Perm (stz n) := perm_of_nodup (nodup_map (fun a b => mir_inj) (stz_nodup h)) (stz_nodup h) fun x => by
  rw [List.mem_map]
  exact ⟨fun ⟨s, hs, e⟩ => e ▸ mir_stz hs, fun hx => ⟨mir n x, mir_stz hx, mir_mir n x⟩⟩
theorem ok_mir {n : Nat} {W : Int × Int → Int} (o : Ok n W) : Ok n (fun s => W (mir n s)) := ⟨fun s hs => o.pos _ (mir_stz hs), fun s hs => o.big _ (mir_stz hs)⟩
theorem wsum_mir {n : Nat} (hn : n ≤ 8) {W : Int × Int → Int} (o : Ok n W) {s : Int × Int} (hs : s ∈ stz n) : wsum ((canon n W).map (mirE n)) s = W (mir n s) := by
  unfold wsum
  rw [sm_map]
  have := sm_canon o.pos (fun t w => if mir n t = s then w else 0) (fun t => by split <;> rfl)
  show sm (canon n W) (fun e => if mir n e.1 = s then e.2 else 0) = _
  rw [this, ← sm_one (stz_nodup hn) (mir_stz hs) W]
  refine sm_congr fun t ht => ?_
  by_cases q : t = mir n s
  · rw [if_pos q, if_pos (by rw [q, mir_mir])]
  · rw [if_neg q, if_neg fun z => q (by rw [← z, mir_mir])]
theorem behind_eq (n : Nat) (hn : n ≤ 8) (W : Int × Int → Int) (o : Ok n W) : F_behind [.d (lotD n (canon n W))] = some (.d (lotD n (canon n fun s => W (mir n s)))) := by
  have cl := canon_len hn W
  let R0 : Rho := startR 5 [.d (lotD n (canon n W))]
  let R : Rho := [some (.d (lotD n (canon n W))), some (.i ((n : Int) - 1)), none, none, none]
  have e1 : kSet 1 (xP (s2 oSub (s2 oIxS (sVar 0) (sK (.i 0))) (sK (.i 1)))) R0 = some (.nx R) := rfl
  have e2 : sLc [2, 3, 4] (iSeq (s2 oIxS (sVar 0) (sK (.i 1)))) (gTp [(gTp [(gNm 3), (gNm 4)]), (gNm 2)]) bYes (sTup [(sTup [(s2 oSub (sVar 1) (sVar 4)), (s2 oSub (sVar 1) (sVar 3))]), (sVar 2)]) R = some (.l .fr (((canon n W).map (mirE n)).map itemD)) := by
    rw [List.map_map]
    exact sLc_map (fl := true) itemD _ rfl (by omega) fun e _ => ⟨_, rfl, rfl⟩
  have hd : InDay n ((canon n W).map (mirE n)) := fun e he => by
    obtain ⟨x, hx, rfl⟩ := List.mem_map.mp he
    exact mem_stz.mp (mir_stz (mem_stz.mpr (canon_day n W x hx)))
  have e3 := made_lot_eq n hn _ hd (by rw [List.length_map]; omega)
  rw [canon_congr fun s hs => wsum_mir hn o hs] at e3
  exact runP_rt (r := R) (kSeq_nx e1 (kRet_ev (call2_ev (x := .i n) rfl e2 rfl rfl e3) rfl))
theorem chp_canon {n : Nat} {W : Int × Int → Int} (o : Ok n W) (p : List Int) : chp (canon n W) p = sm (stz n) fun s => W s * mn p s.1.toNat s.2.toNat := 
  sm_canon o.pos (fun s w => w * mn p s.1.toNat s.2.toNat) fun s => Int.zero_mul _
theorem chp_mir {n : Nat} (hn : n ≤ 8) {W : Int × Int → Int} (o : Ok n W) {p : List Int} (hp : p.length = n) : chp (canon n fun s => W (mir n s)) p.reverse = chp (canon n W) p := by
  rw [chp_canon o, chp_canon (ok_mir o), ← sm_perm (stz_mir hn), sm_map]
  refine sm_congr fun s hs => ?_
  subst hp
  rw [mir_mir, mn_mir hs]
theorem layL_wts {p : List Int} (hn : p.length ≤ 8) (hp : ∀ x ∈ p, 0 ≤ x) : layL p.length (wts p) = p := by
  apply List.ext_getElem
  · rw [layL_len]
  · intro h h1 h2
    rw [← found_wts hn hp h2]
    simp [layL]
end S67

/-! MQ2: the law of fees. -/
namespace S67
theorem okS_tup {α : Type} {f : α → Dt} (h : ∀ a, okS (f a) = true) (xs : List α) (hl : xs.length ≤ 1000000) : okS (.tup (xs.map f)) = true := by
  rw [okS, okSs_map f h, List.length_map, decide_eq_true hl]
  rfl
theorem dpt_tup {α : Type} {f : α → Dt} (h : ∀ a, dpt (f a) ≤ 2) (xs : List α) : dpt (.tup (xs.map f)) < 7 := by
  have := dpts_map f h xs
  rw [dpt]
  omega
theorem bes_nonneg {p : List Int} (hp : ∀ x ∈ p, 0 ≤ x) (h : Int) : 0 ≤ bes p h := by
  by_cases q : h < 0 ∨ (p.length : Int) ≤ h
  · rw [bes_out q]; exact Int.le_refl 0
  · have h0 : h.toNat < p.length := by omega
    have := bes_in (p := p) h0
    rw [show ((h.toNat : Nat) : Int) = h by omega] at this
    rw [this]
    exact hp _ (List.getElem_mem _)
theorem natAbs_lt {i : Int} {k : Nat} (h0 : 0 ≤ i) (h : i < 2 ^ k) : i.natAbs < 2 ^ k := by
  have h5 : (i.natAbs : Int) < ((2 ^ k : Nat) : Int) := by
    rw [Int.natAbs_of_nonneg h0, Int.natCast_pow]
    exact h
  exact Int.ofNat_lt.mp h5
theorem wt_big {p : List Int} (hp : ∀ x ∈ p, 0 ≤ x) (hb : ∀ x ∈ p, x < 2 ^ 100) {e : (Int × Int) × Int} (he : e ∈ wts p) : e.2.natAbs < 2 ^ 100 := by
  obtain ⟨h1, h2, h3⟩ := mem_wts.mp he
  obtain ⟨g1, g2, g3⟩ := mem_stz.mp h1
  have m := mn_bound hp hb (f := e.1.1.toNat) (l := e.1.2.toNat) (by omega) (by omega)
  have m0 := mn_nonneg hp e.1.1.toNat e.1.2.toNat
  have b1 := bes_nonneg hp (e.1.1 - 1)
  have b2 := bes_nonneg hp (e.1.2 + 1)
  have : e.2 ≤ mn p e.1.1.toNat e.1.2.toNat := by
    rw [h3]
    unfold wtOf
    omega
  omega
theorem mulOks2 {n : Nat} {W : Int × Int → Int} (o : Ok n W) {p : List Int} (hlen : p.length = n) (hp : ∀ x ∈ p, 0 ≤ x) (hb : ∀ x ∈ p, x < 2 ^ 100) : MulOks (canon n W) p :=
  mulOks o hlen hp fun x hx => Int.lt_trans (hb x hx) (by decide +kernel)
theorem fees_right (n : Nat) (hn : n ≤ 8) (W : Int × Int → Int) (o : Ok n W) (p : List Int) (hlen : p.length = n) (hp : ∀ x ∈ p, 0 ≤ x) (hb : ∀ x ∈ p, x < 2 ^ 100) : F_law_fees_right [.d (lotD n (canon n W)), .d (tupI p)] = some (.b true) := by
  have cl := canon_len hn W
  have sl := stz_len hn
  have pn : p.length ≤ 8 := by omega
  have rn : p.reverse.length ≤ 8 := by rw [List.length_reverse]; exact pn
  have rlen : p.reverse.length = n := by rw [List.length_reverse]; exact hlen
  have rp : ∀ x ∈ p.reverse, 0 ≤ x := fun x hx => hp x (List.mem_reverse.mp hx)
  have rb : ∀ x ∈ p.reverse, x < 2 ^ 100 := fun x hx => hb x (List.mem_reverse.mp hx)
  have wl := wts_len p pn
  have wr := wts_len p.reverse rn
  have ok' := ok_mir o
  have cl' := canon_len hn fun s => W (mir n s)
  have hchp : chp (canon n W) p = paid (canon n W) (wts p) := chp_paid pn hp (by rw [hlen]; exact canon_day n W)
  let c := chp (canon n W) p
  let c2 := chp (canon n W) p.reverse
  let LW := lotD n (canon n W)
  let wp' := (wts p).map itemD
  let G1 : List Dt := [.int c, tupI p, .tup ((wts p).map fun e => pD e.1), .tup [.int c]]
  let G2 : List Dt := G1 ++ [.tup ((wts p.reverse).map itemD), .tup [.int c, .int c2]]
  let U : List Dt := ((stz n).filter fun s => !decide (s ∈ (wts p).map (·.1))).map pD
  let R0 : Rho := startR 11 [.d LW, .d (tupI p)]
  let R1 : Rho := [some (.d LW), some (.d (tupI p)), none, none, none, none, none, some (.d (.tup wp')), some (.i ((n : Int) - 1)), none, none]
  let R2 : Rho := [some (.d LW), some (.d (tupI p)), some (.i c), none, none, none, none, some (.d (.tup wp')), some (.i ((n : Int) - 1)), none, none]
  let R3 : Rho := [some (.d LW), some (.d (tupI p)), some (.i c), some (.l .ow G1), none, none, none, some (.d (.tup wp')), some (.i ((n : Int) - 1)), none, none]
  let R4 : Rho := [some (.d LW), some (.d (tupI p)), some (.i c), some (.l .ow G1), some (.l .ow G1), none, none, some (.d (.tup wp')), some (.i ((n : Int) - 1)), none, none]
  let mi := ((wts p).map (mirE n)).map itemD
  let R5 : Rho := [some (.d LW), some (.d (tupI p)), some (.i c), some (.l .ow G1), some (.l .ow G1), some (.l .ow mi), none, some (.d (.tup wp')), some (.i ((n : Int) - 1)), none, none]
  let R6 : Rho := [some (.d LW), some (.d (tupI p)), some (.i c), some (.l .ow G2), some (.l .ow G1), some (.l .ow mi), none, some (.d (.tup wp')), some (.i ((n : Int) - 1)), none, none]
  let R7 : Rho := [some (.d LW), some (.d (tupI p)), some (.i c), some (.l .ow G2), some (.l .ow G2), some (.l .ow mi), none, some (.d (.tup wp')), some (.i ((n : Int) - 1)), none, none]
  let R8 : Rho := [some (.d LW), some (.d (tupI p)), some (.i c), some (.l .ow G2), some (.l .ow G2), some (.l .ow mi), some (.l .ow U), some (.d (.tup wp')), some (.i ((n : Int) - 1)), none, none]
  have e1 : kPar 7 8 (xP (sCall F_weights_of [(sVar 1)])) (xP (s2 oSub (s2 oIxS (sVar 0) (sK (.i 0))) (sK (.i 1)))) R0 = some (.nx R1) := by
    have a1 : sCall F_weights_of [(sVar 1)] R0 = some (.d (.tup wp')) := call1_ev (x := .d (tupI p)) rfl rfl (weights_of_eq true p pn)
    have a2 : s2 oSub (s2 oIxS (sVar 0) (sK (.i 0))) (sK (.i 1)) R0 = some (.i ((n : Int) - 1)) := rfl
    exact kPar_p a1 rfl a2 rfl
  have e2 : kSet 2 (xP (s1 cSum (sLc [9, 10] (iSeq (sVar 7)) (gTp [(gNm 9), (gNm 10)]) bYes (s2 oMul (sVar 10) (sCall F_asked [(sVar 0), (s2 oIxS (sVar 9) (sK (.i 0))), (s2 oIxS (sVar 9) (sK (.i 1)))]))))) R1 = some (.nx R2) := by
    have a1 : sLc [9, 10] (iSeq (sVar 7)) (gTp [(gNm 9), (gNm 10)]) bYes (s2 oMul (sVar 10) (sCall F_asked [(sVar 0), (s2 oIxS (sVar 9) (sK (.i 0))), (s2 oIxS (sVar 9) (sK (.i 1)))])) R1 = some (.l .fr ((wts p).map fun e => .int (e.2 * askE (canon n W) e.1.1 e.1.2))) := by
      refine sLc_map (fl := true) itemD _ rfl (by omega) fun e he => ⟨_, rfl, ?_⟩
      obtain ⟨g1, g2, g3⟩ := mem_stz.mp (mem_wts.mp he).1
      have hask := asked_eq n (canon n W) e.1.1 e.1.2 (by omega) g1 g2 (by omega)
      have hm : mulOk e.2 (askE (canon n W) e.1.1 e.1.2) := by
        have d := dn_mono o.pos e.1.1 e.1.2
        have wb := work_big hn o
        refine mulOk_bits 100 156 (wt_big hp hb he) (natAbs_lt ?_ ?_) (by omega)
        · rw [ask_canon o.pos]; exact d.1
        · rw [ask_canon o.pos]; exact Int.lt_of_le_of_lt d.2 wb.2
      rw [s2_ev (g := oMul) (a := .i e.2) (b := .i (askE (canon n W) e.1.1 e.1.2)) (o := some (.i (e.2 * askE (canon n W) e.1.1 e.1.2))) rfl (call3_ev (x := .d LW) (y := .i e.1.1) (z := .i e.1.2) rfl rfl rfl rfl rfl rfl hask) (by rw [oMul, if_pos hm])]
      rfl
    refine kSet_p (a := .i c) (s1_ev a1 ?_) rfl
    rw [cSum, vInts_f]
    show some (Av.i (paid (canon n W) (wts p))) = _
    rw [← hchp]
  have hday : InDay n (wts p) := fun e he => by
    have := mem_stz.mp (mem_wts.mp he).1
    rw [hlen] at this
    exact this
  have hlay : layL n (wts p) = p := by
    have := layL_wts pn hp
    rw [hlen] at this
    exact this
  have hprices : F_prices_of [.i n, .d (.tup wp')] = some (.d (tupI p)) := by
    have := prices_of_eq n hn true (wts p) hday (wts_sorted p pn) wl (by rw [hlay])
    rw [hlay] at this
    exact this
  have hcheap : F_cheapest [.d LW, .d (tupI p)] = some (.i c) := cheapest_eq n (canon n W) true p (by omega) hlen (canon_day n W) (mulOks2 o hlen hp hb)
  have hcheapr : F_cheapest [.d LW, .d (tupI p.reverse)] = some (.i c2) := cheapest_eq n (canon n W) true p.reverse (by omega) rlen (canon_day n W) (mulOks2 o rlen rp rb)
  have hbills : F_bills_of [.d LW, .d (.tup [tupI p])] = some (.d (.tup [.int c])) := bills_of_eq n (canon n W) [p] (by simp) (by omega) (fun q hq => by rw [List.mem_singleton.mp hq]; exact hlen) (canon_day n W) (fun q hq => by rw [List.mem_singleton.mp hq]; exact mulOks2 o hlen hp hb)
  have hrev : s1 oRev (sVar 1) R5 = some (.d (tupI p.reverse)) := by
    show some (Av.d (.tup (p.map Dt.int).reverse)) = _
    rw [← List.map_reverse]
    rfl
  have hrev6 : s1 oRev (sVar 1) R6 = some (.d (tupI p.reverse)) := hrev
  have hbehind := behind_eq n hn W o
  have hbills2 : F_bills_of [.d (lotD n (canon n fun s => W (mir n s))), .d (.tup [tupI p.reverse, tupI p])] = some (.d (.tup [.int c, .int c2])) := by
    have := bills_of_eq n (canon n fun s => W (mir n s)) [p.reverse, p] (by simp) (by omega) (fun q hq => by
      rcases List.mem_cons.mp hq with rfl | hq
      · exact rlen
      · rw [List.mem_singleton.mp hq]; exact hlen) (canon_day n _) (fun q hq => by
      rcases List.mem_cons.mp hq with rfl | hq
      · exact mulOks2 ok' rlen rp rb
      · rw [List.mem_singleton.mp hq]; exact mulOks2 ok' hlen hp hb)
    have q1 : chp (canon n fun s => W (mir n s)) p.reverse = c := chp_mir hn o hlen
    have q2 : chp (canon n fun s => W (mir n s)) p = c2 := by
      have := chp_mir hn o rlen
      rw [List.reverse_reverse] at this
      exact this
    rw [List.map_cons, List.map_cons, List.map_nil, List.map_cons, List.map_cons, List.map_nil, q1, q2] at this
    exact this
  have e3 : kSet 3 (xP (sLst [(sVar 2), (sCall F_prices_of [(s2 oIxS (sVar 0) (sK (.i 0))), (sVar 7)]), (sCall F_seen [(sVar 1)]), (sCall F_bills_of [(sVar 0), (sTup [(sVar 1)])])])) R2 = some (.nx R3) := by
    have a2 : sCall F_prices_of [(s2 oIxS (sVar 0) (sK (.i 0))), (sVar 7)] R2 = some (.d (tupI p)) := call2_ev (x := .i n) (y := .d (.tup wp')) rfl rfl rfl rfl hprices
    have a3 : sCall F_seen [(sVar 1)] R2 = some (.d (.tup ((wts p).map fun e => pD e.1))) := call1_ev (x := .d (tupI p)) rfl rfl (seen_eq true p pn)
    have a4 : sCall F_bills_of [(sVar 0), (sTup [(sVar 1)])] R2 = some (.d (.tup [.int c])) := call2_ev (x := .d LW) (y := .d (.tup [tupI p])) rfl rfl rfl rfl hbills
    refine kSet_p (a := .l .fr G1) ?_ rfl
    rw [ap_sLst]
    simp only [seqE, show sVar 2 R2 = some (.i c) from rfl, a2, a3, a4, Option.bind_some, Option.map_some, vDats]
    rfl
  have e4 : kSet 4 (xP (sLst [(sCall F_cheapest [(sVar 0), (sVar 1)]), (s1 cTuple (sVar 1)), (s1 cTuple (sLc [9, 10] (iSeq (sVar 7)) (gTp [(gNm 9), (gNm 10)]) bYes (sVar 9))), (sTup [(sVar 2)])])) R3 = some (.nx R4) := by
    have a1 : sCall F_cheapest [(sVar 0), (sVar 1)] R3 = some (.i c) := call2_ev (x := .d LW) (y := .d (tupI p)) rfl rfl rfl rfl hcheap
    have a2 : s1 cTuple (sVar 1) R3 = some (.d (tupI p)) := rfl
    have a3 : sLc [9, 10] (iSeq (sVar 7)) (gTp [(gNm 9), (gNm 10)]) bYes (sVar 9) R3 = some (.l .fr ((wts p).map fun e => pD e.1)) := sLc_map (fl := true) itemD _ rfl (by omega) fun e he => ⟨_, rfl, rfl⟩
    have a3' : s1 cTuple (sLc [9, 10] (iSeq (sVar 7)) (gTp [(gNm 9), (gNm 10)]) bYes (sVar 9)) R3 = some (.d (.tup ((wts p).map fun e => pD e.1))) := s1_ev a3 rfl
    have a4 : sTup [(sVar 2)] R3 = some (.d (.tup [.int c])) := rfl
    refine kSet_p (a := .l .fr G1) ?_ rfl
    rw [ap_sLst]
    simp only [seqE, a1, a2, a3', a4, Option.bind_some, Option.map_some, vDats]
    rfl
  have e5 : kSet 5 (xP (sLc [9, 10] (iSeq (sVar 7)) (gTp [(gNm 9), (gNm 10)]) bYes (sTup [(sTup [(s2 oSub (sVar 8) (s2 oIxS (sVar 9) (sK (.i 1)))), (s2 oSub (sVar 8) (s2 oIxS (sVar 9) (sK (.i 0))))]), (sVar 10)]))) R4 = some (.nx R5) := by
    refine kSet_p (a := .l .fr mi) ?_ rfl
    show sLc _ _ _ _ _ _ = some (.l .fr (((wts p).map (mirE n)).map itemD))
    rw [List.map_map]
    exact sLc_map (fl := true) itemD _ rfl (by omega) fun e he => ⟨_, rfl, rfl⟩
  have e6 : kSet 3 (xP (s2 oAdd (sVar 3) (sLst [(sCall F_weights_of [(s1 oRev (sVar 1))]), (sCall F_bills_of [(sCall F_behind [(sVar 0)]), (sTup [(s1 oRev (sVar 1)), (sVar 1)])])]))) R5 = some (.nx R6) := by
    have a1 : sCall F_weights_of [(s1 oRev (sVar 1))] R5 = some (.d (.tup ((wts p.reverse).map itemD))) := call1_ev hrev rfl (weights_of_eq true p.reverse rn)
    have a2 : sCall F_behind [(sVar 0)] R5 = some (.d (lotD n (canon n fun s => W (mir n s)))) := call1_ev (x := .d LW) rfl rfl hbehind
    have a3 : sTup [(s1 oRev (sVar 1)), (sVar 1)] R5 = some (.d (.tup [tupI p.reverse, tupI p])) := by
      rw [ap_sTup]
      simp only [seqE, hrev, show sVar 1 R5 = some (.d (tupI p)) from rfl, Option.bind_some, Option.map_some, vDats]
    have a4 : sCall F_bills_of [(sCall F_behind [(sVar 0)]), (sTup [(s1 oRev (sVar 1)), (sVar 1)])] R5 = some (.d (.tup [.int c, .int c2])) := call2_ev a2 a3 rfl rfl hbills2
    have a5 : sLst [(sCall F_weights_of [(s1 oRev (sVar 1))]), (sCall F_bills_of [(sCall F_behind [(sVar 0)]), (sTup [(s1 oRev (sVar 1)), (sVar 1)])])] R5 = some (.l .fr [.tup ((wts p.reverse).map itemD), .tup [.int c, .int c2]]) := by
      rw [ap_sLst]
      simp only [seqE, a1, a4, Option.bind_some, Option.map_some, vDats]
    exact kSet_p (a := .l .fr G2) (s2_ev (a := .l .ow G1) rfl a5 rfl) rfl
  have e7 : kSet 4 (xP (s2 oAdd (sVar 4) (sLst [(s1 cTuple (s1 cSortL (sVar 5))), (sTup [(sVar 2), (sCall F_cheapest [(sVar 0), (s1 oRev (sVar 1))])])]))) R6 = some (.nx R7) := by
    have a1 : s1 cTuple (s1 cSortL (sVar 5)) R6 = some (.d (.tup ((wts p.reverse).map itemD))) := by
      refine s1_ev (a := .l .fr ((wts p.reverse).map itemD)) (s1_ev (a := .l .ow mi) rfl ?_) rfl
      have hperm := mir_wts pn
      rw [hlen] at hperm
      have hml : mi.length ≤ 1000000 := by
        show (((wts p).map (mirE n)).map itemD).length ≤ _
        rw [List.length_map, List.length_map]
        omega
      rw [cSortL, if_pos hml, sortD_perm hperm (wts_sorted p.reverse rn)]
      rfl
    have a2 : sCall F_cheapest [(sVar 0), (s1 oRev (sVar 1))] R6 = some (.i c2) := call2_ev (x := .d LW) rfl hrev6 rfl rfl hcheapr
    have a3 : sTup [(sVar 2), (sCall F_cheapest [(sVar 0), (s1 oRev (sVar 1))])] R6 = some (.d (.tup [.int c, .int c2])) := by
      rw [ap_sTup]
      simp only [seqE, a2, show sVar 2 R6 = some (.i c) from rfl, Option.bind_some, Option.map_some, vDats]
    have a5 : sLst [(s1 cTuple (s1 cSortL (sVar 5))), (sTup [(sVar 2), (sCall F_cheapest [(sVar 0), (s1 oRev (sVar 1))])])] R6 = some (.l .fr [.tup ((wts p.reverse).map itemD), .tup [.int c, .int c2]]) := by
      rw [ap_sLst]
      simp only [seqE, a1, a3, Option.bind_some, Option.map_some, vDats]
    exact kSet_p (a := .l .fr G2) (s2_ev (a := .l .ow G1) rfl a5 rfl) rfl
  have e8 : kSet 6 (xP (sLc [9] (iSeq (sCall F_all_stretches [(s2 oIxS (sVar 0) (sK (.i 0)))])) (gNm 9) (bOf (s2 oNotIn (sVar 9) (sCall F_seen [(sVar 1)]))) (sVar 9))) R7 = some (.nx R8) := by
    refine kSet_p (a := .l .fr U) ?_ rfl
    refine ap_sLc_ev (fl := true) pD _ _ (src_all hn rfl) (Nat.le_trans sl (by decide)) fun s hs => ⟨_, rfl, ?_, fun _ => rfl⟩
    have e : (((wts p).map fun e => pD e.1).any fun y => eqD y (pD s)) = decide (s ∈ (wts p).map (·.1)) := by
      rw [Bool.eq_iff_iff, List.any_eq_true, decide_eq_true_iff]
      constructor
      · rintro ⟨y, hy, h⟩
        obtain ⟨z, hz, rfl⟩ := List.mem_map.mp hy
        rw [eqD_pD, decide_eq_true_iff] at h
        exact h ▸ List.mem_map.mpr ⟨z, hz, rfl⟩
      · intro h
        obtain ⟨z, hz, rfl⟩ := List.mem_map.mp h
        exact ⟨pD z.1, List.mem_map.mpr ⟨z, hz, rfl⟩, by rw [eqD_pD]; simp⟩
    have hd : dpt (pD s) ≤ 32 := by simp [pD, Dt.p, dpt, dpts]
    have hseen : F_seen [.d (tupI p)] = some (.d (.tup ((wts p).map fun e => pD e.1))) := seen_eq true p pn
    refine bOf_ev (s2_ev (a := .d (pD s)) rfl (call1_ev (x := .d (tupI p)) rfl rfl hseen) ?_)
    simp only [oNotIn, vDat, vSeq, Option.bind_some, if_pos hd, e]
  have hU : F_unseen [.i n, .d (.tup [tupI p])] = some (.d (.tup U)) := by
    have := unseen_eq n [p] hn (by simp) (fun q hq => by rw [List.mem_singleton.mp hq]; exact hlen)
    have t : toldS [p] = (wts p).map (·.1) := by
      unfold toldS
      rw [List.flatMap_cons, List.flatMap_nil, List.append_nil]
    rw [t] at this
    exact this
  have e9 : s2 oAdd (sVar 3) (sLst [(sCall F_unseen [(s2 oIxS (sVar 0) (sK (.i 0))), (sTup [(sVar 1)])])]) R8 = some (.l .fr (G2 ++ [.tup U])) := by
    have a1 : sCall F_unseen [(s2 oIxS (sVar 0) (sK (.i 0))), (sTup [(sVar 1)])] R8 = some (.d (.tup U)) := call2_ev (x := .i n) (y := .d (.tup [tupI p])) rfl rfl rfl rfl hU
    refine s2_ev (a := .l .ow G2) (b := .l .fr [.tup U]) rfl ?_ rfl
    rw [ap_sLst]
    simp only [seqE, a1, Option.bind_some, Option.map_some, vDats]
  have e10 : s2 oAdd (sVar 4) (sLst [(s1 cTuple (sVar 6))]) R8 = some (.l .fr (G2 ++ [.tup U])) := s2_ev (a := .l .ow G2) (b := .l .fr [.tup U]) rfl rfl rfl
  have hsame : F_law_same 8 [pA false (G2 ++ [.tup U]), pA false (G2 ++ [.tup U])] = some (.b true) := by
    refine same_seq false _ 7 (by show 7 ≤ _; omega) fun x hx => ?_
    have hUl : ((stz n).filter fun s => !decide (s ∈ (wts p).map (·.1))).length ≤ 1000000 := Nat.le_trans (List.length_filter_le _ _) (by omega)
    have hx : x ∈ [Dt.int c, tupI p, .tup ((wts p).map fun e => pD e.1), .tup [.int c], .tup ((wts p.reverse).map itemD), .tup [.int c, .int c2], .tup (((stz n).filter fun s => !decide (s ∈ (wts p).map (·.1))).map pD)] := hx
    simp only [List.mem_cons, List.not_mem_nil, or_false] at hx
    rcases hx with rfl | rfl | rfl | rfl | rfl | rfl | rfl
    · exact same_d 7 _ (by show 0 < 7; omega) rfl
    · exact same_d 7 _ (dpt_tup (f := Dt.int) (fun _ => Nat.zero_le _) p) (okS_tup (f := Dt.int) (fun _ => rfl) p (by omega))
    · exact same_d 7 _ (dpt_tup (fun e => Nat.le_trans (dpt_pD _) (by omega)) _) (okS_tup (fun _ => rfl) _ (by omega))
    · exact same_d 7 _ (by show 1 < 7; omega) rfl
    · exact same_d 7 _ (dpt_tup dpt_item _) (okS_tup okS_item _ (by omega))
    · exact same_d 7 _ (by show 1 < 7; omega) rfl
    · exact same_d 7 _ (dpt_tup (fun e => Nat.le_trans (dpt_pD _) (by omega)) _) (okS_tup (fun _ => rfl) _ hUl)
  exact runP_rt (r := R8) (kSeq_nx e1 (kSeq_nx e2 (kSeq_nx e3 (kSeq_nx e4 (kSeq_nx e5 (kSeq_nx e6 (kSeq_nx e7 (kSeq_nx e8 (kRet_ev (call2_ev e9 e10 rfl rfl hsame) rfl)))))))))
end S67

/-! MR: what is drawn. -/
namespace S67
/-- the box of draws -/
def bx (b0 b1 b2 : Int) : List Dt := [.int b0, .int b1, .int b2]
def BoxOk (m : Nat) (box : List Dt) : Prop := ∃ b0 b1 b2, box = bx b0 b1 b2 ∧ 0 ≤ b0 ∧ 0 ≤ b2 ∧ b2 ≤ m
theorem runB_rt {n : Nat} {b : SS} {box : List Dt} {as : List Av} {r : Rho} {a : Av} {z : List Dt} (h : b (startR n (.x box :: as)) = some (.rt r a)) (h2 : boxAt r 0 = some z) : runB n b box as = some (z, a) := by
  rw [ap_runB, h, Option.bind_some]
  show (boxAt r 0).map _ = _
  rw [h2]
  rfl
theorem oMod_ev {i j : Int} (h : 0 < j) : oMod (.i i) (.i j) = some (.i (i % j)) := by
  show (if 0 < j then some (Av.i (i % j)) else none) = _
  rw [if_pos h]
theorem oFdiv_ev {i j : Int} (h : 0 < j) (h2 : j.natAbs.log2 < 9000) : oFdiv (.i i) (.i j) = some (.i (i / j)) := by
  show (if 0 < j ∧ j.natAbs.log2 < 9000 then some (Av.i (i / j)) else none) = _
  rw [if_pos ⟨h, h2⟩]
theorem oMul_ev {i j : Int} (h : i.natAbs < 2 ^ 64 ∨ j.natAbs < 2 ^ 64) : oMul (.i i) (.i j) = some (.i (i * j)) := by
  show (if mulOk i j then some (Av.i (i * j)) else none) = _
  rw [if_pos (h.elim .inl fun h => .inr (.inl h))]
theorem take_ev (m : Nat) (hm : m ≤ 1000000) (box : List Dt) (hb : BoxOk m box) (w : Int) (h0 : 0 < w) (h1 : w.natAbs.log2 < 9000) : ∃ box' x, F_law_take box [.i w] = some (box', .i x) ∧ BoxOk (m + 1) box' ∧ 0 ≤ x ∧ x < w := by
  obtain ⟨b0, b1, b2, rfl, p0, p2, p3⟩ := hb
  have hw : w ≠ 0 := by omega
  by_cases q : 0 < b0
  · refine ⟨bx (b0 / w) b1 b2, b0 % w, ?_, ⟨_, _, _, rfl, Int.ediv_nonneg p0 (by omega), p2, by omega⟩, Int.emod_nonneg _ hw, Int.emod_lt_of_pos _ h0⟩
    let R0 : Rho := [some (.x (bx b0 b1 b2)), some (.i w), none, none, none, none]
    let R1 : Rho := [some (.x (bx b0 b1 b2)), some (.i w), none, none, none, some (.i (b0 % w))]
    let R2 : Rho := [some (.x (bx (b0 / w) b1 b2)), some (.i w), none, none, none, some (.i (b0 % w))]
    have c : bOf (s2 oGt (s2 oIxS (sVar 0) (sK (.i 0))) (sK (.i 0))) R0 = some true := by
      show some (decide (0 < b0)) = _
      rw [decide_eq_true q]
    have e1 : kSet 5 (xP (s2 oMod (s1 cInt (s2 oIxS (sVar 0) (sK (.i 0)))) (sVar 1))) R0 = some (.nx R1) := kSet_p (a := .i (b0 % w)) (s2_ev (a := .i b0) (b := .i w) rfl rfl (oMod_ev h0)) rfl
    have e2 : kPutL 0 (sK (.i 0)) (xP (s2 oFdiv (s2 oIxS (sVar 0) (sK (.i 0))) (sVar 1))) R1 = some (.nx R2) := by
      have : s2 oFdiv (s2 oIxS (sVar 0) (sK (.i 0))) (sVar 1) R1 = some (.i (b0 / w)) := s2_ev (a := .i b0) (b := .i w) rfl rfl (oFdiv_ev h0 h1)
      rw [ap_kPutL, ap_xP, this]
      rfl
    exact runB_rt (r := R2) (kSeq_rt (kIf_p (c := true) c (kSeq_nx e1 (kSeq_nx e2 (kRet_ev (a := .i (b0 % w)) rfl rfl))))) rfl
  · let c2 := b2 + 1
    let on := ((b1 + 48271 * c2) * (39373 + c2)) % 2147483647
    let fa := on % 40009 + 7
    let tw := ((on + c2 + b1 / 1000003) * fa) % 2147483629
    let x := ((tw * 48271 + on) % 2147483587 / 64) % w
    have c20 : 0 ≤ c2 ∧ c2 ≤ 1000001 := ⟨by show 0 ≤ b2 + 1; omega, by show b2 + 1 ≤ 1000001; omega⟩
    have on0 : 0 ≤ on ∧ on < 2147483647 := ⟨Int.emod_nonneg _ (by decide), Int.emod_lt_of_pos _ (by decide)⟩
    have fa0 : 0 ≤ fa ∧ fa < 50000 := by
      have h1 : 0 ≤ on % 40009 := Int.emod_nonneg _ (by decide)
      have h2 : on % 40009 < 40009 := Int.emod_lt_of_pos _ (by decide)
      exact ⟨by show 0 ≤ on % 40009 + 7; omega, by show on % 40009 + 7 < 50000; omega⟩
    refine ⟨bx b0 b1 c2, x, ?_, ⟨_, _, _, rfl, p0, c20.1, by show b2 + 1 ≤ ((m + 1 : Nat) : Int); omega⟩, Int.emod_nonneg _ hw, Int.emod_lt_of_pos _ h0⟩
    let R0 : Rho := [some (.x (bx b0 b1 b2)), some (.i w), none, none, none, none]
    let R1 : Rho := [some (.x (bx b0 b1 c2)), some (.i w), none, none, none, none]
    let R2 : Rho := [some (.x (bx b0 b1 c2)), some (.i w), some (.i on), none, none, none]
    let R3 : Rho := [some (.x (bx b0 b1 c2)), some (.i w), some (.i on), some (.i fa), none, none]
    let R4 : Rho := [some (.x (bx b0 b1 c2)), some (.i w), some (.i on), some (.i fa), some (.i tw), none]
    have c : bOf (s2 oGt (s2 oIxS (sVar 0) (sK (.i 0))) (sK (.i 0))) R0 = some false := by
      show some (decide (0 < b0)) = _
      rw [decide_eq_false q]
    have e1 : kPutL 0 (sK (.i 2)) (xP (s2 oAdd (s2 oIxS (sVar 0) (sK (.i 2))) (sK (.i 1)))) R0 = some (.nx R1) := rfl
    have m1 : s2 oMul (sK (.i 48271)) (s2 oIxS (sVar 0) (sK (.i 2))) R1 = some (.i (48271 * c2)) := s2_ev (a := .i 48271) (b := .i c2) rfl rfl (oMul_ev (.inl (by decide)))
    have m2 : s2 oMul (s2 oAdd (s2 oIxS (sVar 0) (sK (.i 1))) (s2 oMul (sK (.i 48271)) (s2 oIxS (sVar 0) (sK (.i 2))))) (s2 oAdd (sK (.i 39373)) (s2 oIxS (sVar 0) (sK (.i 2)))) R1 = some (.i ((b1 + 48271 * c2) * (39373 + c2))) := s2_ev (a := .i (b1 + 48271 * c2)) (b := .i (39373 + c2)) (s2_ev (a := .i b1) rfl m1 rfl) rfl (oMul_ev (.inr (by omega)))
    have e2 : kSet 2 (xP (s2 oMod (s1 cInt (s2 oMul (s2 oAdd (s2 oIxS (sVar 0) (sK (.i 1))) (s2 oMul (sK (.i 48271)) (s2 oIxS (sVar 0) (sK (.i 2))))) (s2 oAdd (sK (.i 39373)) (s2 oIxS (sVar 0) (sK (.i 2)))))) (sK (.i 2147483647)))) R1 = some (.nx R2) := kSet_p (a := .i on) (s2_ev (b := .i 2147483647) (s1_ev m2 rfl) rfl (oMod_ev (by decide))) rfl
    have e3 : kSet 3 (xP (s2 oAdd (s2 oMod (s1 cInt (sVar 2)) (sK (.i 40009))) (sK (.i 7)))) R2 = some (.nx R3) := kSet_p (a := .i fa) (s2_ev (a := .i (on % 40009)) (b := .i 7) (s2_ev (a := .i on) (b := .i 40009) rfl rfl (oMod_ev (by decide))) rfl rfl) rfl
    have d1 : s2 oFdiv (s2 oIxS (sVar 0) (sK (.i 1))) (sK (.i 1000003)) R3 = some (.i (b1 / 1000003)) := s2_ev (a := .i b1) (b := .i 1000003) rfl rfl (oFdiv_ev (by decide) (by decide +kernel))
    have m3 : s2 oMul (s2 oAdd (s2 oAdd (sVar 2) (s2 oIxS (sVar 0) (sK (.i 2)))) (s2 oFdiv (s2 oIxS (sVar 0) (sK (.i 1))) (sK (.i 1000003)))) (sVar 3) R3 = some (.i ((on + c2 + b1 / 1000003) * fa)) := s2_ev (a := .i (on + c2 + b1 / 1000003)) (b := .i fa) (s2_ev (a := .i (on + c2)) rfl d1 rfl) rfl (oMul_ev (.inr (by omega)))
    have e4 : kSet 4 (xP (s2 oMod (s1 cInt (s2 oMul (s2 oAdd (s2 oAdd (sVar 2) (s2 oIxS (sVar 0) (sK (.i 2)))) (s2 oFdiv (s2 oIxS (sVar 0) (sK (.i 1))) (sK (.i 1000003)))) (sVar 3))) (sK (.i 2147483629)))) R3 = some (.nx R4) := kSet_p (a := .i tw) (s2_ev (b := .i 2147483629) (s1_ev m3 rfl) rfl (oMod_ev (by decide))) rfl
    have m4 : s2 oMul (sVar 4) (sK (.i 48271)) R4 = some (.i (tw * 48271)) := s2_ev (a := .i tw) (b := .i 48271) rfl rfl (oMul_ev (.inr (by decide)))
    have m5 : s2 oMod (s1 cInt (s2 oAdd (s2 oMul (sVar 4) (sK (.i 48271))) (sVar 2))) (sK (.i 2147483587)) R4 = some (.i ((tw * 48271 + on) % 2147483587)) := s2_ev (a := .i (tw * 48271 + on)) (b := .i 2147483587) (s1_ev (s2_ev (b := .i on) m4 rfl rfl) rfl) rfl (oMod_ev (by decide))
    have m6 : s2 oFdiv (s2 oMod (s1 cInt (s2 oAdd (s2 oMul (sVar 4) (sK (.i 48271))) (sVar 2))) (sK (.i 2147483587))) (sK (.i 64)) R4 = some (.i ((tw * 48271 + on) % 2147483587 / 64)) := s2_ev (b := .i 64) m5 rfl (oFdiv_ev (by decide) (by decide +kernel))
    have e5 : s2 oMod (s1 cInt (s2 oFdiv (s2 oMod (s1 cInt (s2 oAdd (s2 oMul (sVar 4) (sK (.i 48271))) (sVar 2))) (sK (.i 2147483587))) (sK (.i 64)))) (sVar 1) R4 = some (.i x) := s2_ev (b := .i w) (s1_ev m6 rfl) rfl (oMod_ev h0)
    exact runB_rt (r := R4) (kSeq_nx (kIf_p (c := false) c rfl) (kSeq_nx e1 (kSeq_nx e2 (kSeq_nx e3 (kSeq_nx e4 (kRet_ev e5 rfl)))))) rfl
end S67

/-! MR2: draws of lots. -/
namespace S67
theorem xCallBP_ev {i : Nat} {F : FB} {fs : List SE} {r : Rho} {as : List Av} {b z : List Dt} {v : Dt} (h : (seqE fs r).bind argsA = some as) (hb : boxAt r i = some b) (h2 : F b as = some (z, .d v)) : xCallBP i F fs r = some (.d v, r.set i (some (.x z))) := by
  rw [ap_xCallBP, h, Option.bind_some, hb, Option.bind_some, h2]
  rfl
theorem of_ev (m : Nat) (hm : m ≤ 1000000) (box : List Dt) (hb : BoxOk m box) (ds : List Dt) (h0 : ds ≠ []) (hl : ds.length ≤ 1000) : ∃ box' d, F_law_of box [.l .ro ds] = some (box', .d d) ∧ BoxOk (m + 1) box' ∧ d ∈ ds := by
  have hpos : 0 < ds.length := List.length_pos_iff.mpr h0
  have hlog : ((ds.length : Nat) : Int).natAbs.log2 < 9000 := by
    have : ds.length.log2 ≤ 10 := log2_le (by omega)
    rw [Int.natAbs_natCast]
    omega
  obtain ⟨box', x, t1, t2, t3, t4⟩ := take_ev m hm box hb (ds.length : Nat) (by omega) hlog
  have hx : x.toNat < ds.length := by omega
  refine ⟨box', ds[x.toNat], ?_, t2, List.getElem_mem _⟩
  let R0 : Rho := [some (.x box), some (.l .ro ds)]
  let R1 : Rho := [some (.x box'), some (.l .ro ds)]
  have e1 : xCallBP 0 F_law_take [(s1 cLen (sVar 1))] R0 = some (.i x, R1) := xCallBP_ev rfl rfl t1
  have e2 : oIxS (.l .ro ds) (.i x) = some (.d ds[x.toNat]) := by
    show ((ixA ds.length x).bind fun j => ds[j]?).map Av.d = _
    rw [ixA_pos t3 t4, Option.bind_some, List.getElem?_eq_getElem hx]
    rfl
  have e3 : xIx 1 (xCallBP 0 F_law_take [(s1 cLen (sVar 1))]) R0 = some (.d ds[x.toNat], R1) := by
    rw [ap_xIx, show sVar 1 R0 = some (.l .ro ds) from rfl, Option.bind_some, e1, Option.bind_some]
    show (sVar 1 R1).bind (fun a => Option.map (fun z => (Av.d z, R1)) ((oIxS a (.i x)).bind vDat)) = _
    rw [show sVar 1 R1 = some (.l .ro ds) from rfl, Option.bind_some, e2]
    rfl
  refine runB_rt (r := R1) ?_ rfl
  show kRetX _ R0 = _
  rw [ap_kRetX, e3]
  rfl
/-! ### spans -/
theorem spans_all : ∀ n ∈ [1, 2, 3, 4, 5, 6, 7, 8], F_law_spans [.i (n : Nat)] = some (.l .fr ((stz n).map pD)) := by
  intro n hn
  simp only [List.mem_cons, List.not_mem_nil, or_false] at hn
  rcases hn with rfl | rfl | rfl | rfl | rfl | rfl | rfl | rfl <;> rfl
theorem spans_eq {n : Nat} (h1 : 1 ≤ n) (hn : n ≤ 8) : F_law_spans [.i n] = some (.l .fr ((stz n).map pD)) := spans_all n (in8 h1 hn)
end S67

/-! MR3: the great lot. -/
namespace S67
theorem xCallB_ev {i : Nat} {F : FB} {f : SX} {r r1 : Rho} {b b1 z : List Dt} {x v : Dt} (hb : boxAt r i = some b) (h : f r = some (.d x, r1)) (hb1 : boxAt r1 i = some b1) (h2 : F b1 [.d x] = some (z, .d v)) : xCallB i F [f] r = some (.d v, r1.set i (some (.x z))) := by
  have e : seqX [f] r = some ([x], r1) := by
    simp only [seqX, h, Option.bind_some, Option.map_some, vDat]
  rw [ap_xCallB, hb, Option.bind_some, e, Option.bind_some, hb1, Option.bind_some]
  show (F b1 [.d x]).bind _ = _
  rw [h2]
  rfl
theorem kSet_x {i : Nat} {f : SX} {r r1 : Rho} {v : Dt} (h : f r = some (.d v, r1)) : kSet i f r = some (.nx (r1.set i (some (.d v)))) := by
  rw [ap_kSet, h]
  rfl
abbrev grB : SS := (kSeq (kSet 4 (xCallB 0 F_law_take [(xCallBP 0 F_law_of [(sLst [(sK (.i 1)), (sK (.i 2)), (sK (.i 10)), (s2 oPow (sK (.i 10)) (sK (.i 6))), (s2 oPow (sK (.i 10)) (sK (.i 38)))])])]))
  (kIf (xBP (bOf (s2 oGt (sVar 4) (sK (.i 0))))) (kApp 2 (xP (sTup [(sVar 3), (sVar 4)]))) kNil))
def ρG (n : Nat) (box : List Dt) (es : Lt) (t3 t4 : Option Av) : Rho := [some (.x box), some (.i n), some (.l .ow (es.map itemD)), t3, t4]
def poolG : List Dt := [.int 1, .int 2, .int 10, .int 1000000, .int 100000000000000000000000000000000000000]
theorem poolG_mem {d : Dt} (h : d ∈ poolG) : ∃ w : Int, d = .int w ∧ 0 < w ∧ w ≤ 10 ^ 38 ∧ w.natAbs.log2 < 9000 := by
  simp only [poolG, List.mem_cons, List.not_mem_nil, or_false] at h
  rcases h with rfl | rfl | rfl | rfl | rfl <;> exact ⟨_, rfl, by decide +kernel, by decide +kernel, by decide +kernel⟩
theorem poolG_ev (r : Rho) : (seqE [(sLst [(sK (.i 1)), (sK (.i 2)), (sK (.i 10)), (s2 oPow (sK (.i 10)) (sK (.i 6))), (s2 oPow (sK (.i 10)) (sK (.i 38)))])] r).bind argsA = some [.l .ro poolG] := by
  have a1 : s2 oPow (sK (.i 10)) (sK (.i 6)) r = some (.i 1000000) := by
    show oPow (.i 10) (.i 6) = _
    show (if (0 : Int) ≤ 6 ∧ (6 : Int) ≤ 1000000 ∧ (10 : Int).natAbs < 2 ^ 64 then some (Av.i (10 ^ (6 : Int).toNat)) else none) = _
    rw [if_pos (by decide)]
    rfl
  have a2 : s2 oPow (sK (.i 10)) (sK (.i 38)) r = some (.i 100000000000000000000000000000000000000) := by
    show (if (0 : Int) ≤ 38 ∧ (38 : Int) ≤ 1000000 ∧ (10 : Int).natAbs < 2 ^ 64 then some (Av.i (10 ^ (38 : Int).toNat)) else none) = _
    rw [if_pos (by decide)]
    rfl
  have a3 : sLst [(sK (.i 1)), (sK (.i 2)), (sK (.i 10)), (s2 oPow (sK (.i 10)) (sK (.i 6))), (s2 oPow (sK (.i 10)) (sK (.i 38)))] r = some (.l .fr poolG) := by
    rw [ap_sLst]
    simp only [seqE, a1, a2, ap_sK, Option.bind_some, Option.map_some, vDats]
    rfl
  simp only [seqE, a3, Option.bind_some, Option.map_some]
  rfl
end S67

/-! MR4: the great lot, loop. -/
namespace S67
def keep (W : Int × Int → Int) (zs : List (Int × Int)) : Lt := (zs.filter fun s => decide (0 < W s)).map fun s => (s, W s)
theorem keep_cons (W : Int × Int → Int) (z : Int × Int) (zs : List (Int × Int)) (x : Int) (hz : z ∉ zs) : keep (fun s => if s = z then x else W s) (z :: zs) = (if 0 < x then [(z, x)] else []) ++ keep W zs := by
  have h1 : ∀ s ∈ zs, (fun s => if s = z then x else W s) s = W s := fun s hs => if_neg fun (q : s = z) => hz (q ▸ hs)
  have e : keep (fun s => if s = z then x else W s) zs = keep W zs := by
    unfold keep
    rw [List.filter_congr (q := fun s => decide (0 < W s)) fun s hs => by rw [h1 s hs]]
    exact List.map_congr_left fun s hs => by rw [h1 s (List.mem_filter.mp hs).1]
  rw [← e]
  unfold keep
  rw [List.filter_cons]
  by_cases q : 0 < x
  · simp [q]
  · simp [q]
theorem great_loop (n : Nat) : ∀ (zs : List (Int × Int)) (m : Nat) (box : List Dt) (es : Lt) (t3 t4 : Option Av), zs.Nodup → BoxOk m box → m + 2 * zs.length ≤ 1000000 → es.length + zs.length ≤ 1000 →
    ∃ box' W t3' t4', forGo (gNm 3) grB (zs.map pD) (ρG n box es t3 t4) = some (.nx (ρG n box' (es ++ keep W zs) t3' t4')) ∧ BoxOk (m + 2 * zs.length) box' ∧ ∀ s, 0 ≤ W s ∧ W s < 10 ^ 38
  | [], m, box, es, t3, t4, _, hb, _, _ => ⟨box, fun _ => 0, t3, t4, by show some (Out.nx (ρG n box es t3 t4)) = some (Out.nx (ρG n box (es ++ []) t3 t4)); rw [List.append_nil], hb, fun _ => ⟨Int.le_refl 0, Int.pow_pos (by decide)⟩⟩
  | z :: zs, m, box, es, t3, t4, hn, hb, hm, hl => by
    rw [List.nodup_cons] at hn
    rw [List.length_cons] at hm hl
    obtain ⟨b1, d, o1, o2, o3⟩ := of_ev m (by omega) box hb poolG (by unfold poolG; exact List.cons_ne_nil _ _) (by show 5 ≤ 1000; omega)
    obtain ⟨w, rfl, w1, w2, w3⟩ := poolG_mem o3
    obtain ⟨b2, x, k1, k2, k3, k4⟩ := take_ev (m + 1) (by omega) b1 o2 w w1 w3
    have ea : xCallB 0 F_law_take [(xCallBP 0 F_law_of [(sLst [(sK (.i 1)), (sK (.i 2)), (sK (.i 10)), (s2 oPow (sK (.i 10)) (sK (.i 6))), (s2 oPow (sK (.i 10)) (sK (.i 38)))])])] (ρG n box es (some (.d (pD z))) t4) = some (.i x, ρG n b2 es (some (.d (pD z))) t4) :=
      xCallB_ev (r1 := ρG n b1 es (some (.d (pD z))) t4) rfl (xCallBP_ev (b := box) (poolG_ev _) rfl o1) rfl k1
    have e1 : kSet 4 (xCallB 0 F_law_take [(xCallBP 0 F_law_of [(sLst [(sK (.i 1)), (sK (.i 2)), (sK (.i 10)), (s2 oPow (sK (.i 10)) (sK (.i 6))), (s2 oPow (sK (.i 10)) (sK (.i 38)))])])]) (ρG n box es (some (.d (pD z))) t4) = some (.nx (ρG n b2 es (some (.d (pD z))) (some (.i x)))) := kSet_x ea
    let add : Lt := if 0 < x then [(z, x)] else []
    have hadd : add.length ≤ 1 := by show (if 0 < x then [(z, x)] else []).length ≤ 1; split <;> simp
    have e2 : kIf (xBP (bOf (s2 oGt (sVar 4) (sK (.i 0))))) (kApp 2 (xP (sTup [(sVar 3), (sVar 4)]))) kNil (ρG n b2 es (some (.d (pD z))) (some (.i x))) = some (.nx (ρG n b2 (es ++ add) (some (.d (pD z))) (some (.i x)))) := by
      refine kIf_p (c := decide (0 < x)) rfl ?_
      by_cases q : 0 < x
      · rw [if_pos (decide_eq_true q)]
        have h : add = [(z, x)] := if_pos q
        rw [h, kApp_ev (xs := es.map itemD) (v := itemD (z, x)) rfl rfl (by rw [List.length_map]; omega)]
        unfold ρG
        rw [List.map_append]
        rfl
      · rw [if_neg (by simpa using q)]
        have h : add = [] := if_neg q
        rw [h, List.append_nil]
        rfl
    obtain ⟨b3, W, t3', t4', f1, f2, f3⟩ := great_loop n zs (m + 2) b2 (es ++ add) (some (.d (pD z))) (some (.i x)) hn.2 k2 (by omega) (by rw [List.length_append]; omega)
    refine ⟨b3, fun s => if s = z then x else W s, t3', t4', ?_, ?_, fun s => ?_⟩
    · rw [List.map_cons, forGo]
      have hg : gNm 3 (pD z) (ρG n box es t3 t4) = some (ρG n box es (some (.d (pD z))) t4) := rfl
      rw [hg, Option.bind_some]
      have e12 : grB (ρG n box es (some (.d (pD z))) t4) = _ := kSeq_nx e1 e2
      rw [e12, Option.bind_some]
      rw [keep_cons W z zs x hn.1, ← List.append_assoc]
      exact f1
    · rw [List.length_cons, show m + 2 * (zs.length + 1) = m + 2 + 2 * zs.length by omega]
      exact f2
    · show 0 ≤ (if s = z then x else W s) ∧ (if s = z then x else W s) < 10 ^ 38
      split
      · exact ⟨k3, by omega⟩
      · exact f3 s
end S67

/-! MR5: the great lot. -/
namespace S67
theorem great_ev (n : Nat) (h1 : 1 ≤ n) (hn : n ≤ 8) (m : Nat) (hm : m ≤ 900000) (box : List Dt) (hb : BoxOk m box) : ∃ box' W, F_law_great box [.i n] = some (box', .d (lotD n (canon n W))) ∧ BoxOk (m + 72) box' ∧ ∀ s, 0 ≤ W s ∧ W s < 10 ^ 38 := by
  have sl := stz_len hn
  obtain ⟨b', W, t3, t4, f1, ⟨c0, c1, c2, f2, f3, f4, f5⟩, f6⟩ := great_loop n (stz n) m box [] none none (stz_nodup hn) hb (by omega) (by simp; omega)
  rw [List.nil_append] at f1
  refine ⟨b', W, ?_, ⟨c0, c1, c2, f2, f3, f4, by omega⟩, f6⟩
  have e1 : kSet 2 (xP (sLst [])) (startR 5 [.x box, .i n]) = some (.nx (ρG n box [] none none)) := rfl
  have e2 : kFor [] (iSeq (sCall F_law_spans [(sVar 1)])) (gNm 3) grB (ρG n box [] none none) = some (.nx (ρG n b' (keep W (stz n)) t3 t4)) := by
    have hs : iSeq (sCall F_law_spans [(sVar 1)]) (frz (ρG n box [] none none) []) = some (true, (stz n).map pD) := by
      show iSeq (sCall F_law_spans [(sVar 1)]) (ρG n box [] none none) = _
      rw [ap_iSeq, call1_ev (F := F_law_spans) (x := .i n) rfl rfl (spans_eq h1 hn)]
      rfl
    rw [kFor_ev hs]
    exact f1
  exact runB_rt (r := ρG n b' (keep W (stz n)) t3 t4) (kSeq_nx e1 (kSeq_nx e2 (kRet_ev (a := .d (lotD n (canon n W))) rfl rfl))) rfl
end S67

/-! MR6: the small lot. -/
namespace S67
def ρL (n : Nat) (box : List Dt) (so : Int) (es : Lt) (t3 t6 : Option Av) : Rho := [some (.x box), some (.i n), some (.i 4), t3, some (.i so), some (.l .ow (es.map itemD)), t6]
abbrev manyX : SX := (xIf (xBOr (xBP (bOf (s2 oLt (sVar 4) (sK (.i 1))))) (xBOf (x2 oEq (xCallBP 0 F_law_take [(s2 oAdd (sK (.i 1)) (sVar 4))]) (xP (sK (.i 0)))))) (xCallBP 0 F_law_take [(s2 oAdd (sVar 2) (sK (.i 1)))]) (xP (sK (.i 0))))
theorem many_ev (n : Nat) (m : Nat) (hm : m ≤ 900000) (box : List Dt) (hb : BoxOk m box) (so : Int) (s0 : 0 ≤ so) (s1 : so < 4) (es : Lt) (t3 t6 : Option Av) : ∃ box' x, manyX (ρL n box so es t3 t6) = some (.i x, ρL n box' so es t3 t6) ∧ BoxOk (m + 2) box' ∧ 0 ≤ x ∧ x < 5 := by
  have small : ∀ w : Int, 0 < w → w < 100 → w.natAbs.log2 < 9000 := fun w a b => by
    have : w.natAbs.log2 ≤ 10 := log2_le (by omega)
    omega
  have up : ∀ (k : Nat) (bb : List Dt), BoxOk k bb → k ≤ m + 2 → BoxOk (m + 2) bb := fun k bb ⟨c0, c1, c2, f2, f3, f4, f5⟩ h => ⟨c0, c1, c2, f2, f3, f4, by omega⟩
  have tk : ∀ (k : Nat) (bb : List Dt), BoxOk k bb → k ≤ 1000000 → ∃ box' x, xCallBP 0 F_law_take [(s2 oAdd (sVar 2) (sK (.i 1)))] (ρL n bb so es t3 t6) = some (.i x, ρL n box' so es t3 t6) ∧ BoxOk (k + 1) box' ∧ 0 ≤ x ∧ x < 5 := fun k bb hbb hk => by
    obtain ⟨b1, x, k1, k2, k3, k4⟩ := take_ev k hk bb hbb 5 (by decide) (small 5 (by decide) (by decide))
    exact ⟨b1, x, xCallBP_ev (b := bb) rfl rfl k1, k2, k3, k4⟩
  by_cases q : so < 1
  · obtain ⟨b1, x, k1, k2, k3, k4⟩ := tk m box hb (by omega)
    refine ⟨b1, x, ?_, up _ _ k2 (by omega), k3, k4⟩
    have c : xBOr (xBP (bOf (s2 oLt (sVar 4) (sK (.i 1))))) (xBOf (x2 oEq (xCallBP 0 F_law_take [(s2 oAdd (sK (.i 1)) (sVar 4))]) (xP (sK (.i 0))))) (ρL n box so es t3 t6) = some (true, ρL n box so es t3 t6) := by
      have : bOf (s2 oLt (sVar 4) (sK (.i 1))) (ρL n box so es t3 t6) = some true := by
        show some (decide (so < 1)) = _
        rw [decide_eq_true q]
      rw [ap_xBOr, ap_xBP, this]
      rfl
    rw [show ∀ r, manyX r = _ from fun r => ap_xIf _ _ _ r, c]
    exact k1
  · obtain ⟨b1, y, k1, k2, k3, k4⟩ := take_ev m (by omega) box hb (1 + so) (by omega) (small _ (by omega) (by omega))
    have ea : xCallBP 0 F_law_take [(s2 oAdd (sK (.i 1)) (sVar 4))] (ρL n box so es t3 t6) = some (.i y, ρL n b1 so es t3 t6) := xCallBP_ev (b := box) rfl rfl k1
    have eb : x2 oEq (xCallBP 0 F_law_take [(s2 oAdd (sK (.i 1)) (sVar 4))]) (xP (sK (.i 0))) (ρL n box so es t3 t6) = some (.b (decide (y = 0)), ρL n b1 so es t3 t6) := by
      have h : oEq (.d (.int y)) (.d (.int 0)) = some (.b (decide (y = 0))) := oEq_int y 0
      rw [ap_x2, ea]
      show (oEq (.d (.int y)) (.d (.int 0))).bind (fun z => (vDat z).map fun w => (Av.d w, ρL n b1 so es t3 t6)) = _
      rw [h]
      rfl
    have c : xBOr (xBP (bOf (s2 oLt (sVar 4) (sK (.i 1))))) (xBOf (x2 oEq (xCallBP 0 F_law_take [(s2 oAdd (sK (.i 1)) (sVar 4))]) (xP (sK (.i 0))))) (ρL n box so es t3 t6) = some (decide (y = 0), ρL n b1 so es t3 t6) := by
      have : bOf (s2 oLt (sVar 4) (sK (.i 1))) (ρL n box so es t3 t6) = some false := by
        show some (decide (so < 1)) = _
        rw [decide_eq_false q]
      rw [ap_xBOr, ap_xBP, this]
      show xBOf _ _ = _
      rw [ap_xBOf, eb]
      rfl
    by_cases qy : y = 0
    · obtain ⟨b2, x, j1, j2, j3, j4⟩ := tk (m + 1) b1 k2 (by omega)
      refine ⟨b2, x, ?_, up _ _ j2 (by omega), j3, j4⟩
      rw [show ∀ r, manyX r = _ from fun r => ap_xIf _ _ _ r, c, decide_eq_true qy]
      exact j1
    · refine ⟨b1, 0, ?_, up _ _ k2 (by omega), Int.le_refl 0, by decide⟩
      rw [show ∀ r, manyX r = _ from fun r => ap_xIf _ _ _ r, c, decide_eq_false qy]
      rfl
end S67

/-! MR7: the small lot, loop. -/
namespace S67
abbrev loB : SS := (kSeq (kSet 6 manyX) (kIf (xBP (bOf (s2 oGt (sVar 6) (sK (.i 0))))) (kApp 5 (xP (sTup [(sVar 3), (sVar 6)]))) kNil))
theorem lot_loop (n : Nat) (so : Int) (s0 : 0 ≤ so) (s1 : so < 4) : ∀ (zs : List (Int × Int)) (m : Nat) (box : List Dt) (es : Lt) (t3 t6 : Option Av), zs.Nodup → BoxOk m box → m + 2 * zs.length ≤ 900000 → es.length + zs.length ≤ 1000 →
    ∃ box' W t3' t6', forGo (gNm 3) loB (zs.map pD) (ρL n box so es t3 t6) = some (.nx (ρL n box' so (es ++ keep W zs) t3' t6')) ∧ BoxOk (m + 2 * zs.length) box' ∧ ∀ s, 0 ≤ W s ∧ W s < 5
  | [], m, box, es, t3, t6, _, hb, _, _ => ⟨box, fun _ => 0, t3, t6, by show some (Out.nx (ρL n box so es t3 t6)) = some (Out.nx (ρL n box so (es ++ []) t3 t6)); rw [List.append_nil], hb, fun _ => ⟨Int.le_refl 0, by show (0 : Int) < 5; decide⟩⟩
  | z :: zs, m, box, es, t3, t6, hn, hb, hm, hl => by
    rw [List.nodup_cons] at hn
    rw [List.length_cons] at hm hl
    obtain ⟨b2, x, ea, k2, k3, k4⟩ := many_ev n m (by omega) box hb so s0 s1 es (some (.d (pD z))) t6
    have e1 : kSet 6 manyX (ρL n box so es (some (.d (pD z))) t6) = some (.nx (ρL n b2 so es (some (.d (pD z))) (some (.i x)))) := kSet_x ea
    let add : Lt := if 0 < x then [(z, x)] else []
    have hadd : add.length ≤ 1 := by show (if 0 < x then [(z, x)] else []).length ≤ 1; split <;> simp
    have e2 : kIf (xBP (bOf (s2 oGt (sVar 6) (sK (.i 0))))) (kApp 5 (xP (sTup [(sVar 3), (sVar 6)]))) kNil (ρL n b2 so es (some (.d (pD z))) (some (.i x))) = some (.nx (ρL n b2 so (es ++ add) (some (.d (pD z))) (some (.i x)))) := by
      refine kIf_p (c := decide (0 < x)) rfl ?_
      by_cases q : 0 < x
      · rw [if_pos (decide_eq_true q)]
        have h : add = [(z, x)] := if_pos q
        rw [h, kApp_ev (xs := es.map itemD) (v := itemD (z, x)) rfl rfl (by rw [List.length_map]; omega)]
        unfold ρL
        rw [List.map_append]
        rfl
      · rw [if_neg (by simpa using q)]
        have h : add = [] := if_neg q
        rw [h, List.append_nil]
        rfl
    obtain ⟨b3, W, t3', t6', f1, f2, f3⟩ := lot_loop n so s0 s1 zs (m + 2) b2 (es ++ add) (some (.d (pD z))) (some (.i x)) hn.2 k2 (by omega) (by rw [List.length_append]; omega)
    refine ⟨b3, fun s => if s = z then x else W s, t3', t6', ?_, ?_, fun s => ?_⟩
    · rw [List.map_cons, forGo]
      have hg : gNm 3 (pD z) (ρL n box so es t3 t6) = some (ρL n box so es (some (.d (pD z))) t6) := rfl
      rw [hg, Option.bind_some]
      have e12 : loB (ρL n box so es (some (.d (pD z))) t6) = _ := kSeq_nx e1 e2
      rw [e12, Option.bind_some]
      rw [keep_cons W z zs x hn.1, ← List.append_assoc]
      exact f1
    · rw [List.length_cons, show m + 2 * (zs.length + 1) = m + 2 + 2 * zs.length by omega]
      exact f2
    · show 0 ≤ (if s = z then x else W s) ∧ (if s = z then x else W s) < 5
      split
      · exact ⟨k3, k4⟩
      · exact f3 s
end S67

/-! MR8: the small lot. -/
namespace S67
theorem kPar_x {i j : Nat} {f : SX} {g : SE} {r r1 : Rho} {v : Dt} {b b' : Av} (h1 : f r = some (.d v, r1)) (h3 : g r1 = some b) (h4 : (vFree b).bind toSlot = some b') : kPar i j f (xP g) r = some (.nx ((r1.set i (some (.d v))).set j (some b'))) := by
  rw [ap_kPar, h1, Option.bind_some]
  show (xP g r1).bind (fun q => (toSlot q.1).map fun b => Out.nx ((q.2.set i (some (Av.d v))).set j (some b))) = _
  rw [ap_xP, h3, Option.bind_some]
  cases hw : vFree b with
  | none => rw [hw] at h4; cases h4
  | some w =>
    rw [hw, Option.bind_some] at h4
    show (toSlot w).map _ = _
    rw [h4]
    rfl
theorem lot_ev (n : Nat) (h1 : 1 ≤ n) (hn : n ≤ 8) (m : Nat) (hm : m ≤ 800000) (box : List Dt) (hb : BoxOk m box) : ∃ box' W, F_law_lot box [.i n, .i 4] = some (box', .d (lotD n (canon n W))) ∧ BoxOk (m + 73) box' ∧ ∀ s, 0 ≤ W s ∧ W s < 5 := by
  have sl := stz_len hn
  obtain ⟨b1, so, k1, k2, k3, k4⟩ := take_ev m (by omega) box hb 4 (by decide) (by decide +kernel)
  obtain ⟨b', W, t3, t6, f1, ⟨c0, c1, c2, f2, f3, f4, f5⟩, f6⟩ := lot_loop n so k3 k4 (stz n) (m + 1) b1 [] none none (stz_nodup hn) k2 (by omega) (by simp; omega)
  rw [List.nil_append] at f1
  refine ⟨b', W, ?_, ⟨c0, c1, c2, f2, f3, f4, by omega⟩, f6⟩
  have ea : xCallBP 0 F_law_take [(sK (.i 4))] (startR 7 [.x box, .i n, .i 4]) = some (.i so, [some (.x b1), some (.i n), some (.i 4), none, none, none, none]) := xCallBP_ev (b := box) rfl rfl k1
  have e1 : kPar 4 5 (xCallBP 0 F_law_take [(sK (.i 4))]) (xP (sLst [])) (startR 7 [.x box, .i n, .i 4]) = some (.nx (ρL n b1 so [] none none)) := kPar_x ea rfl rfl
  have e2 : kFor [] (iSeq (sCall F_law_spans [(sVar 1)])) (gNm 3) loB (ρL n b1 so [] none none) = some (.nx (ρL n b' so (keep W (stz n)) t3 t6)) := by
    have hs : iSeq (sCall F_law_spans [(sVar 1)]) (frz (ρL n b1 so [] none none) []) = some (true, (stz n).map pD) := by
      show iSeq (sCall F_law_spans [(sVar 1)]) (ρL n b1 so [] none none) = _
      rw [ap_iSeq, call1_ev (F := F_law_spans) (x := .i n) rfl rfl (spans_eq h1 hn)]
      rfl
    rw [kFor_ev hs]
    exact f1
  exact runB_rt (r := ρL n b' so (keep W (stz n)) t3 t6) (kSeq_nx e1 (kSeq_nx e2 (kRet_ev (a := .d (lotD n (canon n W))) rfl rfl))) rfl
end S67

/-! MS1: the hands. -/
namespace S67
def ρH (n : Nat) (top : Int) (box : List Dt) (ps : List Int) (t4 : Option Av) : Rho := [some (.x box), some (.i n), some (.i top), some (.l .ow (ps.map .int)), t4]
abbrev haX : SX := (xIf (xBOf (x2 oGt (xCallBP 0 F_law_take [(sK (.i 4))]) (xP (sK (.i 0))))) (xCallBP 0 F_law_take [(s2 oAdd (sVar 2) (sK (.i 1)))]) (xP (sK (.i 0))))
theorem ha_ev (n : Nat) (top : Int) (p0 : 0 ≤ top) (p1 : top ≤ 10 ^ 20) (m : Nat) (hm : m ≤ 900000) (box : List Dt) (hb : BoxOk m box) (ps : List Int) (t4 : Option Av) : ∃ box' x, haX (ρH n top box ps t4) = some (.i x, ρH n top box' ps t4) ∧ BoxOk (m + 2) box' ∧ 0 ≤ x ∧ x ≤ top := by
  have up : ∀ (k : Nat) (bb : List Dt), BoxOk k bb → k ≤ m + 2 → BoxOk (m + 2) bb := fun k bb ⟨c0, c1, c2, f2, f3, f4, f5⟩ h => ⟨c0, c1, c2, f2, f3, f4, by omega⟩
  obtain ⟨b1, y, k1, k2, k3, k4⟩ := take_ev m (by omega) box hb 4 (by decide) (by decide +kernel)
  have ea : xCallBP 0 F_law_take [(sK (.i 4))] (ρH n top box ps t4) = some (.i y, ρH n top b1 ps t4) := xCallBP_ev (b := box) rfl rfl k1
  have eb : xBOf (x2 oGt (xCallBP 0 F_law_take [(sK (.i 4))]) (xP (sK (.i 0)))) (ρH n top box ps t4) = some (decide (0 < y), ρH n top b1 ps t4) := by
    rw [ap_xBOf, ap_x2, ea]
    rfl
  have hh : ∀ r, haX r = _ := fun r => ap_xIf _ _ _ r
  by_cases q : 0 < y
  · have hlog : (top + 1).natAbs.log2 < 9000 := by
      have : (top + 1).natAbs < 2 ^ 80 := natAbs_lt (by omega) (by
        have : (10 : Int) ^ 20 + 1 < 2 ^ 80 := by decide
        omega)
      have := log2_le this
      omega
    obtain ⟨b2, x, j1, j2, j3, j4⟩ := take_ev (m + 1) (by omega) b1 k2 (top + 1) (by omega) hlog
    have k : xCallBP 0 F_law_take [(s2 oAdd (sVar 2) (sK (.i 1)))] (ρH n top b1 ps t4) = some (.i x, ρH n top b2 ps t4) := xCallBP_ev (b := b1) rfl rfl j1
    refine ⟨b2, x, ?_, up _ _ j2 (by omega), j3, by omega⟩
    rw [hh, eb, decide_eq_true q]
    exact k
  · refine ⟨b1, 0, ?_, up _ _ k2 (by omega), Int.le_refl 0, p0⟩
    rw [hh, eb, decide_eq_false q]
    rfl
theorem ha_loop (n : Nat) (top : Int) (p0 : 0 ≤ top) (p1 : top ≤ 10 ^ 20) : ∀ (zs : List Nat) (m : Nat) (box : List Dt) (ps : List Int) (t4 : Option Av), BoxOk m box → m + 2 * zs.length ≤ 900000 → ps.length + zs.length ≤ 1000 → (∀ x ∈ ps, 0 ≤ x ∧ x ≤ top) →
    ∃ box' ps' t4', forGo (gNm 4) (kApp 3 haX) (zs.map fun (i : Nat) => Dt.int (i : Int)) (ρH n top box ps t4) = some (.nx (ρH n top box' ps' t4')) ∧ BoxOk (m + 2 * zs.length) box' ∧ ps'.length = ps.length + zs.length ∧ ∀ x ∈ ps', 0 ≤ x ∧ x ≤ top
  | [], m, box, ps, t4, hb, _, _, hp => ⟨box, ps, t4, rfl, hb, rfl, hp⟩
  | z :: zs, m, box, ps, t4, hb, hm, hl, hp => by
    rw [List.length_cons] at hm hl
    obtain ⟨b2, x, ea, k2, k3, k4⟩ := ha_ev n top p0 p1 m (by omega) box hb ps (some (.i z))
    obtain ⟨b3, ps', t4', f1, f2, f3, f4⟩ := ha_loop n top p0 p1 zs (m + 2) b2 (ps ++ [x]) (some (.i z)) k2 (by omega) (by rw [List.length_append, List.length_singleton]; omega) (fun y hy => by
      rcases List.mem_append.mp hy with h | h
      · exact hp y h
      · rw [List.mem_singleton.mp h]; exact ⟨k3, k4⟩)
    refine ⟨b3, ps', t4', ?_, ?_, ?_, f4⟩
    · rw [List.map_cons, forGo]
      have hg : gNm 4 (Dt.int (z : Int)) (ρH n top box ps t4) = some (ρH n top box ps (some (.i z))) := rfl
      rw [hg, Option.bind_some]
      have e1 : kApp 3 haX (ρH n top box ps (some (.i z))) = some (.nx (ρH n top b2 (ps ++ [x]) (some (.i z)))) := by
        rw [ap_kApp]
        show (some (ps.map Dt.int)).bind _ = _
        rw [Option.bind_some, ea]
        show (if (ps.map Dt.int).length < 1000000 then some (Out.nx ((ρH n top b2 ps (some (.i z))).set 3 (some (.l .ow (ps.map Dt.int ++ [.int x]))))) else none) = _
        rw [if_pos (by rw [List.length_map]; omega)]
        unfold ρH
        rw [List.map_append]
        rfl
      rw [e1, Option.bind_some]
      exact f1
    · rw [List.length_cons, show m + 2 * (zs.length + 1) = m + 2 + 2 * zs.length by omega]
      exact f2
    · rw [f3, List.length_append, List.length_singleton, List.length_cons]
      omega
theorem hands_ev (n : Nat) (hn : n ≤ 8) (top : Int) (p0 : 0 ≤ top) (p1 : top ≤ 10 ^ 20) (m : Nat) (hm : m ≤ 800000) (box : List Dt) (hb : BoxOk m box) : ∃ box' p, F_law_hands box [.i n, .i top] = some (box', .d (tupI p)) ∧ BoxOk (m + 16) box' ∧ p.length = n ∧ (∀ x ∈ p, 0 ≤ x) ∧ ∀ x ∈ p, x < 2 ^ 100 := by
  obtain ⟨b', p, t4, f1, ⟨c0, c1, c2, f2, f3, f4, f5⟩, f6, f7⟩ := ha_loop n top p0 p1 (List.range n) m box [] none hb (by rw [List.length_range]; omega) (by rw [List.length_range]; simp; omega) (fun x hx => nomatch hx)
  rw [List.length_range] at f5 f6
  refine ⟨b', p, ?_, ⟨c0, c1, c2, f2, f3, f4, by omega⟩, by simpa using f6, fun x hx => (f7 x hx).1, fun x hx => ?_⟩
  · have e1 : kSet 3 (xP (sLst [])) (startR 5 [.x box, .i n, .i top]) = some (.nx (ρH n top box [] none)) := rfl
    have e2 : kFor [] (iRange1 (sVar 1)) (gNm 4) (kApp 3 haX) (ρH n top box [] none) = some (.nx (ρH n top b' p t4)) := by
      rw [kFor_ev (iRange1_ev (n := n) rfl (by omega))]
      exact f1
    exact runB_rt (r := ρH n top b' p t4) (kSeq_nx e1 (kSeq_nx e2 (kRet_ev (a := .d (tupI p)) rfl rfl))) rfl
  · have := (f7 x hx).2
    have : (10 : Int) ^ 20 < 2 ^ 100 := by decide
    omega
end S67

/-! MS2: tables. -/
namespace S67
theorem mk_congr {A B : Int × Int → Int} {ks : List (Int × Int)} (h : ∀ s ∈ ks, A s = B s) : mk A ks = mk B ks := by
  unfold mk
  exact List.map_congr_left fun s hs => by rw [h s hs]
theorem put_in (A : Int × Int → Int) (k : Int × Int) (v : Int) (ks : List (Int × Int)) (h : k ∈ ks) : mPut (mk A ks) k v = mk (fun x => if x = k then v else A x) ks := by
  rw [mPut_mk', if_pos h]
def ρT (n : Nat) (lot : Dt) (A : Int × Int → Int) (t2 t3 : Option Av) : Rho := [some (.d lot), some (.m .ow (mk A (stz n))), t2, t3]
theorem table_loop (n : Nat) (hn : n ≤ 8) (lot : Dt) (W : Int × Int → Int) : ∀ (ss : List (Int × Int)) (A : Int × Int → Int) (t2 t3 : Option Av), (∀ s ∈ ss, s ∈ stz n) →
    ∃ t2' t3', forGo (gTp [(gNm 2), (gNm 3)]) (kPutM 1 (sVar 2) (xP (sVar 3))) ((ss.map fun s => (s, W s)).map itemD) (ρT n lot A t2 t3) = some (.nx (ρT n lot (fun x => if x ∈ ss then W x else A x) t2' t3'))
  | [], A, t2, t3, _ => ⟨t2, t3, by
    have : (fun x => if x ∈ ([] : List (Int × Int)) then W x else A x) = A := funext fun x => if_neg (fun h => nomatch h)
    rw [this]
    rfl⟩
  | s :: ss, A, t2, t3, hs => by
    have sl := stz_len hn
    obtain ⟨t2', t3', f1⟩ := table_loop n hn lot W ss (fun x => if x = s then W s else A x) (some (.d (pD s))) (some (.i (W s))) (fun x hx => hs x (List.mem_cons_of_mem _ hx))
    refine ⟨t2', t3', ?_⟩
    rw [List.map_cons, List.map_cons, forGo]
    have hg : gTp [(gNm 2), (gNm 3)] (itemD (s, W s)) (ρT n lot A t2 t3) = some (ρT n lot A (some (.d (pD s))) (some (.i (W s)))) := rfl
    rw [hg, Option.bind_some]
    have e1 : kPutM 1 (sVar 2) (xP (sVar 3)) (ρT n lot A (some (.d (pD s))) (some (.i (W s)))) = some (.nx (ρT n lot (fun x => if x = s then W s else A x) (some (.d (pD s))) (some (.i (W s))))) := by
      rw [kPutM_ev (kvs := mk A (stz n)) (a := s.1) (b := s.2) (v := W s) rfl rfl rfl (by rw [mk, List.length_map]; omega), put_in A (s.1, s.2) (W s) _ (hs s (List.mem_cons_self ..))]
      rfl
    rw [e1, Option.bind_some]
    refine f1.trans ?_
    have : (fun x => if x ∈ ss then W x else if x = s then W s else A x) = fun x => if x ∈ s :: ss then W x else A x := funext fun x => by
      by_cases q : x ∈ ss
      · rw [if_pos q, if_pos (List.mem_cons_of_mem _ q)]
      · rw [if_neg q]
        by_cases q2 : x = s
        · rw [if_pos q2, if_pos (by rw [q2]; exact List.mem_cons_self ..), q2]
        · rw [if_neg q2, if_neg fun z => (List.mem_cons.mp z).elim q2 q]
    rw [this]
theorem table_ev (n : Nat) (h1 : 1 ≤ n) (hn : n ≤ 8) (W : Int × Int → Int) (hW : ∀ s ∈ stz n, 0 ≤ W s) : F_law_table [.d (lotD n (canon n W))] = some (.m .fr (mk W (stz n))) := by
  have sl := stz_len hn
  obtain ⟨t2, t3, f1⟩ := table_loop n hn (lotD n (canon n W)) W ((stz n).filter fun s => decide (0 < W s)) (fun _ => 0) none none (fun s hs => (List.mem_filter.mp hs).1)
  have e1 : kSet 1 (xP (s1 cDict (sLc [2] (iSeq (sCall F_law_spans [(s2 oIxS (sVar 0) (sK (.i 0)))])) (gNm 2) bYes (sTup [(sVar 2), (sK (.i 0))])))) (startR 4 [.d (lotD n (canon n W))]) = some (.nx (ρT n (lotD n (canon n W)) (fun _ => 0) none none)) := by
    have a1 : sLc [2] (iSeq (sCall F_law_spans [(s2 oIxS (sVar 0) (sK (.i 0)))])) (gNm 2) bYes (sTup [(sVar 2), (sK (.i 0))]) (startR 4 [.d (lotD n (canon n W))]) = some (.l .fr ((stz n).map fun s => Dt.tup [pD s, .int 0])) := by
      refine sLc_map (fl := true) pD _ ?_ (by omega) fun s _ => ⟨_, rfl, rfl⟩
      rw [ap_iSeq, call1_ev (F := F_law_spans) (x := .i n) rfl rfl (spans_eq h1 hn)]
      rfl
    refine kSet_p (a := .m .fr (mk (fun _ => 0) (stz n))) (s1_ev a1 ?_) rfl
    rw [cDict, if_pos (by rw [List.length_map]; omega)]
    have := mPuts_mk (fun _ => 0) (stz n) [] (by rw [List.nil_append]; exact stz_nodup hn)
    rw [List.nil_append] at this
    show (mPuts _ []).map _ = _
    rw [show mPuts ((stz n).map fun s => Dt.tup [pD s, .int 0]) [] = some (mk (fun _ => 0) (stz n)) from this]
    rfl
  have e2 : kFor [] (iSeq (s2 oIxS (sVar 0) (sK (.i 1)))) (gTp [(gNm 2), (gNm 3)]) (kPutM 1 (sVar 2) (xP (sVar 3))) (ρT n (lotD n (canon n W)) (fun _ => 0) none none) = some (.nx (ρT n (lotD n (canon n W)) (fun x => if x ∈ (stz n).filter (fun s => decide (0 < W s)) then W x else 0) t2 t3)) := by
    rw [kFor_ev (xs := (canon n W).map itemD) rfl]
    exact f1
  refine runP_rt (kSeq_nx e1 (kSeq_nx e2 (kRet_ev (a := .m .ow (mk W (stz n))) ?_ rfl)))
  show some (Av.m .ow (mk _ (stz n))) = _
  refine congrArg (fun z => some (Av.m .ow z)) (mk_congr (B := W) fun s hs => ?_)
  show (if s ∈ (stz n).filter (fun s => decide (0 < W s)) then W s else 0) = W s
  by_cases q : 0 < W s
  · rw [if_pos (List.mem_filter.mpr ⟨hs, decide_eq_true q⟩)]
  · have hz : ¬ s ∈ (stz n).filter (fun s => decide (0 < W s)) := fun z => q (of_decide_eq_true (List.mem_filter.mp z).2)
    rw [if_neg hz]
    have := hW s hs
    omega
theorem le_pD {a b : Int × Int} (h : ltS a b) : leF flat2 (pD a) (pD b) = true := by
  show lexLe [a.1, a.2] [b.1, b.2] = true
  rcases h with h | ⟨h1, h2⟩
  · have : ¬ a.1 = b.1 := by omega
    simp [lexLe, this, h]
  · have : ¬ a.2 = b.2 := by omega
    simp [lexLe, h1, this, h2]
theorem sortD_pD {ss : List (Int × Int)} (h : ss.Pairwise ltS) : sortD (ss.map pD) = some (ss.map pD) := by
  have hp : (ss.map pD).Pairwise (fun a b => leF flat2 a b = true) := by
    rw [List.pairwise_map]
    exact h.imp fun h => le_pD h
  have e1 : ((ss.map pD).all fun x => (flat2 x).isSome) = true := by
    rw [List.all_eq_true]
    intro x hx
    obtain ⟨e, _, rfl⟩ := List.mem_map.mp hx
    rfl
  unfold sortD
  rw [if_pos e1, List.mergeSort_of_pairwise hp]
theorem sortM_ev (n : Nat) (hn : n ≤ 8) (A : Int × Int → Int) (q : Fl) : cSortM (.m q (mk A (stz n))) = some (.l .fr ((stz n).map pD)) := by
  have sl := stz_len hn
  have e : (mk A (stz n)).map (fun e => Dt.p e.1.1 e.1.2) = (stz n).map pD := by
    unfold mk
    rw [List.map_map]
    rfl
  show (if (mk A (stz n)).length ≤ 1000000 then (sortD ((mk A (stz n)).map fun e => Dt.p e.1.1 e.1.2)).map (Av.l .fr) else none) = _
  rw [if_pos (by rw [mk, List.length_map]; omega), e, sortD_pD (stz_sorted hn)]
  rfl
end S67

/-! MS3: the lot of a table; what the moves lean on. -/
namespace S67
theorem oIxM_mk {q : Fl} {A : Int × Int → Int} {n : Nat} {s : Int × Int} (h : s ∈ stz n) : oIxM (.m q (mk A (stz n))) (.d (pD s)) = some (.i (A s)) := by
  show (mGet (mk A (stz n)) s).map Av.i = _
  rw [mGet_mk, if_pos h]
  rfl
theorem sTup2_ev {f g : SE} {r : Rho} {x y : Dt} (h1 : f r = some (.d x)) (h2 : g r = some (.d y)) : sTup [f, g] r = some (.d (.tup [x, y])) := by
  rw [ap_sTup]
  simp only [seqE, h1, h2, Option.bind_some, Option.map_some]
  rfl
theorem xP_ev {f : SE} {r : Rho} {x : Dt} (h : f r = some (.d x)) : xP f r = some (.d x, r) := by
  rw [ap_xP, h]
  rfl
theorem x2_ev {op : Av → Av → Option Av} {f g : SX} {r r1 r2 : Rho} {x y z : Dt} (h1 : f r = some (.d x, r1)) (h2 : g r1 = some (.d y, r2)) (h3 : op (.d x) (.d y) = some (.d z)) : x2 op f g r = some (.d z, r2) := by
  rw [ap_x2, h1, Option.bind_some]
  show (g r1).bind (fun q => (vDat q.1).bind fun y => (op (.d x) (.d y)).bind fun z => (vDat z).map fun w => (Av.d w, q.2)) = _
  rw [h2, Option.bind_some]
  show (op (.d x) (.d y)).bind (fun z => (vDat z).map fun w => (Av.d w, r2)) = _
  rw [h3]
  rfl
theorem xTup2_ev {f g : SX} {r r1 r2 : Rho} {x y : Dt} (h1 : f r = some (.d x, r1)) (h2 : g r1 = some (.d y, r2)) : xTup [f, g] r = some (.d (.tup [x, y]), r2) := by
  rw [ap_xTup]
  simp only [seqX, h1, h2, Option.bind_some, Option.map_some, vDat]
theorem kPutM_x {i : Nat} {idx : SE} {f : SX} {r r1 : Rho} {kvs : Lt} {a b v : Int} (h1 : f r = some (.i v, r1)) (h2 : idx r1 = some (.d (.tup [.int a, .int b]))) (h3 : r1[i]? = some (some (.m .ow kvs))) (h4 : kvs.length < 1000000) : kPutM i idx f r = some (.nx (r1.set i (some (.m .ow (mPut kvs (a, b) v))))) := by
  rw [ap_kPutM, h1, Option.bind_some]
  show ((vInt (Av.i v)).bind fun v => ((idx r1).bind vDat).bind fun k => _) = _
  simp only [vInt, Option.bind_some, h2, vDat, h3, if_pos h4]
theorem kPutM_mk {i : Nat} {idx : SE} {f : SX} {r r1 : Rho} {n : Nat} {A : Int × Int → Int} {s : Int × Int} {v : Int} (hn : n ≤ 8) (h1 : f r = some (.i v, r1)) (h2 : idx r1 = some (.d (pD s))) (h3 : r1[i]? = some (some (.m .ow (mk A (stz n))))) (hs : s ∈ stz n) :
    kPutM i idx f r = some (.nx (r1.set i (some (.m .ow (mk (fun x => if x = s then v else A x) (stz n)))))) := by
  have sl := stz_len hn
  rw [kPutM_x (a := s.1) (b := s.2) h1 h2 h3 (by rw [mk, List.length_map]; omega), put_in A (s.1, s.2) v _ hs]
theorem made_ev (n : Nat) (hn : n ≤ 8) (A : Int × Int → Int) : F_law_made [.i n, .m .ro (mk A (stz n))] = some (.d (lotD n (canon n A))) := by
  have sl := stz_len hn
  have a1 : sLc [2] (iSeq (s1 cSortM (sVar 1))) (gNm 2) (bOf (s2 oGt (s2 oIxM (sVar 1) (sVar 2)) (sK (.i 0)))) (sTup [(sVar 2), (s2 oIxM (sVar 1) (sVar 2))]) (startR 3 [.i n, .m .ro (mk A (stz n))]) = some (.l .fr (((stz n).filter fun s => decide (0 < A s)).map fun s => itemD (s, A s))) := by
    refine ap_sLc_ev (fl := true) pD (fun s => decide (0 < A s)) (fun s => itemD (s, A s)) ?_ (by omega) fun s hs => ⟨[some (.i n), some (.m .ro (mk A (stz n))), some (.d (pD s))], rfl, ?_, fun _ => ?_⟩
    · rw [ap_iSeq, s1_ev (a := .m .ro (mk A (stz n))) rfl (sortM_ev n hn A .ro)]
      rfl
    · exact bOf_ev (s2_ev (a := .i (A s)) (b := .i 0) (s2_ev (a := .m .ro (mk A (stz n))) (b := .d (pD s)) rfl rfl (oIxM_mk hs)) rfl rfl)
    · rw [sTup2_ev (x := pD s) (y := .int (A s)) rfl (s2_ev (a := .m .ro (mk A (stz n))) (b := .d (pD s)) rfl rfl (oIxM_mk hs))]
      rfl
  have a2 : s1 cTuple (sLc [2] (iSeq (s1 cSortM (sVar 1))) (gNm 2) (bOf (s2 oGt (s2 oIxM (sVar 1) (sVar 2)) (sK (.i 0)))) (sTup [(sVar 2), (s2 oIxM (sVar 1) (sVar 2))])) (startR 3 [.i n, .m .ro (mk A (stz n))]) = some (.d (.tup ((canon n A).map itemD))) := by
    rw [s1_ev a1 rfl]
    show some (Av.d (.tup (((stz n).filter fun s => decide (0 < A s)).map fun s => itemD (s, A s)))) = _
    rw [canon, List.map_map]
    rfl
  exact runP_rt (kRet_ev (sTup2_ev rfl a2) rfl)
end S67

/-! MS4: the moves, one by one. -/
namespace S67
def ρV (n : Nat) (lot : Dt) (laps : Int) (box : List Dt) (A : Int × Int → Int) (t3 t6 t7 t8 t9 t10 t11 t12 t13 : Option Av) : Rho :=
  [some (.x box), some (.d lot), some (.i laps), t3, some (.m .ow (mk A (stz n))), some (.i ((n : Int) - 1)), t6, t7, t8, t9, t10, t11, t12, t13]
abbrev mvA : SS := (kSeq (kSet 8 (xCallBP 0 F_law_of [(sCall F_law_spans [(s2 oIxS (sVar 1) (sK (.i 0)))])]))
  (kPutM 4 (sVar 8) (x2 oAdd (xP (s2 oAdd (s2 oIxM (sVar 4) (sVar 8)) (sK (.i 1)))) (xCallBP 0 F_law_take [(sK (.i 2))]))))
abbrev mvB : SS := (kSeq (kSet 8 (xCallBP 0 F_law_of [(sVar 6)]))
  (kPutM 4 (sVar 8) (xP (s2 oSub (s2 oIxM (sVar 4) (sVar 8)) (sK (.i 1))))))
abbrev mvC : SS := (kSeq (kSet 8 (xCallBP 0 F_law_of [(sVar 6)]))
  (kSeq (kSet 9 (xTup [(x2 cMax2 (xP (sK (.i 0))) (x2 oSub (xP (s2 oIxS (sVar 8) (sK (.i 0)))) (xCallBP 0 F_law_take [(sK (.i 2))]))), (x2 cMin2 (xP (sVar 5)) (x2 oAdd (xP (s2 oIxS (sVar 8) (sK (.i 1)))) (xCallBP 0 F_law_take [(sK (.i 2))])))]))
  (kSeq (kPutM 4 (sVar 8) (xP (s2 oSub (s2 oIxM (sVar 4) (sVar 8)) (sK (.i 1)))))
  (kPutM 4 (sVar 9) (xP (s2 oAdd (s2 oIxM (sVar 4) (sVar 9)) (sK (.i 1))))))))
theorem boxUp {m k : Nat} {box : List Dt} (hb : BoxOk m box) (h : m ≤ k) : BoxOk k box := by
  obtain ⟨c0, c1, c2, f2, f3, f4, f5⟩ := hb
  exact ⟨c0, c1, c2, f2, f3, f4, by omega⟩
theorem small9 (w : Int) (a : 0 < w) (b : w < 1000) : w.natAbs.log2 < 9000 := by
  have : w.natAbs.log2 ≤ 10 := log2_le (by omega)
  omega
def someL (n : Nat) (A : Int × Int → Int) : List (Int × Int) := (stz n).filter fun s => decide (0 < A s)
theorem someL_mem {n : Nat} {A : Int × Int → Int} {s : Int × Int} (h : s ∈ someL n A) : s ∈ stz n ∧ 0 < A s :=
  ⟨(List.mem_filter.mp h).1, of_decide_eq_true (List.mem_filter.mp h).2⟩
theorem someL_len {n : Nat} (hn : n ≤ 8) (A : Int × Int → Int) : (someL n A).length ≤ 36 := Nat.le_trans (List.length_filter_le _ _) (stz_len hn)
/-- one of a list of stretches is drawn -/
theorem own_ev {f : SE} {r : Rho} {q : Fl} (ss : List (Int × Int)) (h0 : ss ≠ []) (hl : ss.length ≤ 1000) (h1 : f r = some (.l q (ss.map pD))) (h2 : argA (.l q (ss.map pD)) = some (.l .ro (ss.map pD))) (m : Nat) (hm : m ≤ 900000) (box : List Dt) (hb : BoxOk m box) (hr : boxAt r 0 = some box) :
    ∃ box' s, xCallBP 0 F_law_of [f] r = some (.d (pD s), r.set 0 (some (.x box'))) ∧ BoxOk (m + 1) box' ∧ s ∈ ss := by
  obtain ⟨b1, d, o1, o2, o3⟩ := of_ev m (by omega) box hb (ss.map pD) (by simpa using h0) (by rw [List.length_map]; exact hl)
  obtain ⟨s, hs, rfl⟩ := List.mem_map.mp o3
  refine ⟨b1, s, xCallBP_ev ?_ hr o1, o2, hs⟩
  simp only [seqE, h1, Option.bind_some, Option.map_some, argsA, h2]
theorem two_ev {r : Rho} (m : Nat) (hm : m ≤ 900000) (box : List Dt) (hb : BoxOk m box) (hr : boxAt r 0 = some box) (w : Int) (w0 : 0 < w) (w1 : w < 1000) :
    ∃ box' x, xCallBP 0 F_law_take [(sK (.i w))] r = some (.i x, r.set 0 (some (.x box'))) ∧ BoxOk (m + 1) box' ∧ 0 ≤ x ∧ x < w := by
  obtain ⟨b1, x, k1, k2, k3, k4⟩ := take_ev m (by omega) box hb w w0 (small9 w w0 w1)
  exact ⟨b1, x, xCallBP_ev rfl hr k1, k2, k3, k4⟩
theorem mvA_ev (n : Nat) (h1 : 1 ≤ n) (hn : n ≤ 8) (es : Lt) (laps : Int) (m : Nat) (hm : m ≤ 800000) (box : List Dt) (hb : BoxOk m box) (A : Int × Int → Int) (K : Int) (hA : ∀ s ∈ stz n, 0 ≤ A s ∧ A s ≤ K) (t3 t6 t7 t8 t9 t10 t11 t12 t13 : Option Av) :
    ∃ box' A' t8', mvA (ρV n (lotD n es) laps box A t3 t6 t7 t8 t9 t10 t11 t12 t13) = some (.nx (ρV n (lotD n es) laps box' A' t3 t6 t7 t8' t9 t10 t11 t12 t13)) ∧ BoxOk (m + 4) box' ∧ ∀ s ∈ stz n, 0 ≤ A' s ∧ A' s ≤ K + 4 := by
  have sl := stz_len hn
  obtain ⟨b1, s, o1, o2, o3⟩ := own_ev (f := sCall F_law_spans [(s2 oIxS (sVar 1) (sK (.i 0)))]) (r := ρV n (lotD n es) laps box A t3 t6 t7 t8 t9 t10 t11 t12 t13) (stz n) (stz_ne h1) (by omega) (call1_ev (F := F_law_spans) (x := .i n) rfl rfl (spans_eq h1 hn)) rfl m (by omega) box hb rfl
  obtain ⟨b2, x, k1, k2, k3, k4⟩ := two_ev (r := ρV n (lotD n es) laps b1 A t3 t6 t7 (some (.d (pD s))) t9 t10 t11 t12 t13) (m + 1) (by omega) b1 o2 rfl 2 (by decide) (by decide)
  refine ⟨b2, fun y => if y = s then A s + 1 + x else A y, some (.d (pD s)), ?_, boxUp k2 (by omega), fun y hy => ?_⟩
  · have e1 : kSet 8 (xCallBP 0 F_law_of [(sCall F_law_spans [(s2 oIxS (sVar 1) (sK (.i 0)))])]) (ρV n (lotD n es) laps box A t3 t6 t7 t8 t9 t10 t11 t12 t13) = some (.nx (ρV n (lotD n es) laps b1 A t3 t6 t7 (some (.d (pD s))) t9 t10 t11 t12 t13)) := kSet_x o1
    have e2 : s2 oAdd (s2 oIxM (sVar 4) (sVar 8)) (sK (.i 1)) (ρV n (lotD n es) laps b1 A t3 t6 t7 (some (.d (pD s))) t9 t10 t11 t12 t13) = some (.i (A s + 1)) := s2_ev (a := .i (A s)) (b := .i 1) (s2_ev (a := .m .ow (mk A (stz n))) (b := .d (pD s)) rfl rfl (oIxM_mk o3)) rfl rfl
    exact kSeq_nx e1 (kPutM_mk (n := n) (A := A) (s := s) (v := A s + 1 + x) hn (x2_ev (xP_ev e2) k1 rfl) rfl rfl o3)
  · have := hA y hy
    have := hA s o3
    show 0 ≤ (if y = s then A s + 1 + x else A y) ∧ (if y = s then A s + 1 + x else A y) ≤ K + 4
    split <;> omega
theorem mvB_ev (n : Nat) (hn : n ≤ 8) (es : Lt) (laps : Int) (m : Nat) (hm : m ≤ 800000) (box : List Dt) (hb : BoxOk m box) (A : Int × Int → Int) (K : Int) (hA : ∀ s ∈ stz n, 0 ≤ A s ∧ A s ≤ K) (h0 : someL n A ≠ []) (t3 t7 t8 t9 t10 t11 t12 t13 : Option Av) :
    ∃ box' A' t8', mvB (ρV n (lotD n es) laps box A t3 (some (.l .ow ((someL n A).map pD))) t7 t8 t9 t10 t11 t12 t13) = some (.nx (ρV n (lotD n es) laps box' A' t3 (some (.l .ow ((someL n A).map pD))) t7 t8' t9 t10 t11 t12 t13)) ∧ BoxOk (m + 4) box' ∧ ∀ s ∈ stz n, 0 ≤ A' s ∧ A' s ≤ K + 4 := by
  have sl := someL_len hn A
  obtain ⟨b1, s, o1, o2, o3⟩ := own_ev (f := sVar 6) (r := ρV n (lotD n es) laps box A t3 (some (.l .ow ((someL n A).map pD))) t7 t8 t9 t10 t11 t12 t13) (someL n A) h0 (by omega) rfl rfl m (by omega) box hb rfl
  obtain ⟨o4, o5⟩ := someL_mem o3
  refine ⟨b1, fun y => if y = s then A s - 1 else A y, some (.d (pD s)), ?_, boxUp o2 (by omega), fun y hy => ?_⟩
  · have e1 : kSet 8 (xCallBP 0 F_law_of [(sVar 6)]) (ρV n (lotD n es) laps box A t3 (some (.l .ow ((someL n A).map pD))) t7 t8 t9 t10 t11 t12 t13) = some (.nx (ρV n (lotD n es) laps b1 A t3 (some (.l .ow ((someL n A).map pD))) t7 (some (.d (pD s))) t9 t10 t11 t12 t13)) := kSet_x o1
    have e2 : s2 oSub (s2 oIxM (sVar 4) (sVar 8)) (sK (.i 1)) (ρV n (lotD n es) laps b1 A t3 (some (.l .ow ((someL n A).map pD))) t7 (some (.d (pD s))) t9 t10 t11 t12 t13) = some (.i (A s - 1)) := s2_ev (a := .i (A s)) (b := .i 1) (s2_ev (a := .m .ow (mk A (stz n))) (b := .d (pD s)) rfl rfl (oIxM_mk o4)) rfl rfl
    exact kSeq_nx e1 (kPutM_mk (n := n) (A := A) (s := s) (v := A s - 1) hn (xP_ev e2) rfl rfl o4)
  · have := hA y hy
    have := hA s o4
    show 0 ≤ (if y = s then A s - 1 else A y) ∧ (if y = s then A s - 1 else A y) ≤ K + 4
    split <;> omega
theorem mvC_ev (n : Nat) (hn : n ≤ 8) (es : Lt) (laps : Int) (m : Nat) (hm : m ≤ 800000) (box : List Dt) (hb : BoxOk m box) (A : Int × Int → Int) (K : Int) (hA : ∀ s ∈ stz n, 0 ≤ A s ∧ A s ≤ K) (h0 : someL n A ≠ []) (t3 t7 t8 t9 t10 t11 t12 t13 : Option Av) :
    ∃ box' A' t8' t9', mvC (ρV n (lotD n es) laps box A t3 (some (.l .ow ((someL n A).map pD))) t7 t8 t9 t10 t11 t12 t13) = some (.nx (ρV n (lotD n es) laps box' A' t3 (some (.l .ow ((someL n A).map pD))) t7 t8' t9' t10 t11 t12 t13)) ∧ BoxOk (m + 4) box' ∧ ∀ s ∈ stz n, 0 ≤ A' s ∧ A' s ≤ K + 4 := by
  have sl := someL_len hn A
  obtain ⟨b1, s, o1, o2, o3⟩ := own_ev (f := sVar 6) (r := ρV n (lotD n es) laps box A t3 (some (.l .ow ((someL n A).map pD))) t7 t8 t9 t10 t11 t12 t13) (someL n A) h0 (by omega) rfl rfl m (by omega) box hb rfl
  obtain ⟨o4, o5⟩ := someL_mem o3
  obtain ⟨b2, x, k1, k2, k3, k4⟩ := two_ev (r := ρV n (lotD n es) laps b1 A t3 (some (.l .ow ((someL n A).map pD))) t7 (some (.d (pD s))) t9 t10 t11 t12 t13) (m + 1) (by omega) b1 o2 rfl 2 (by decide) (by decide)
  obtain ⟨b3, y, j1, j2, j3, j4⟩ := two_ev (r := ρV n (lotD n es) laps b2 A t3 (some (.l .ow ((someL n A).map pD))) t7 (some (.d (pD s))) t9 t10 t11 t12 t13) (m + 1 + 1) (by omega) b2 k2 rfl 2 (by decide) (by decide)
  obtain ⟨z1, z2, z3⟩ := mem_stz.mp o4
  let u : Int × Int := (max 0 (s.1 - x), min ((n : Int) - 1) (s.2 + y))
  have hu : u ∈ stz n := mem_stz.mpr ⟨by show 0 ≤ max 0 (s.1 - x); omega, by show max 0 (s.1 - x) ≤ min ((n : Int) - 1) (s.2 + y); omega, by show min ((n : Int) - 1) (s.2 + y) < n; omega⟩
  let A1 : Int × Int → Int := fun t => if t = s then A s - 1 else A t
  refine ⟨b3, fun t => if t = u then A1 u + 1 else A1 t, some (.d (pD s)), some (.d (pD u)), ?_, boxUp j2 (by omega), fun t ht => ?_⟩
  · have e1 : kSet 8 (xCallBP 0 F_law_of [(sVar 6)]) (ρV n (lotD n es) laps box A t3 (some (.l .ow ((someL n A).map pD))) t7 t8 t9 t10 t11 t12 t13) = some (.nx (ρV n (lotD n es) laps b1 A t3 (some (.l .ow ((someL n A).map pD))) t7 (some (.d (pD s))) t9 t10 t11 t12 t13)) := kSet_x o1
    have x1 : x2 cMax2 (xP (sK (.i 0))) (x2 oSub (xP (s2 oIxS (sVar 8) (sK (.i 0)))) (xCallBP 0 F_law_take [(sK (.i 2))])) (ρV n (lotD n es) laps b1 A t3 (some (.l .ow ((someL n A).map pD))) t7 (some (.d (pD s))) t9 t10 t11 t12 t13) = some (.i u.1, ρV n (lotD n es) laps b2 A t3 (some (.l .ow ((someL n A).map pD))) t7 (some (.d (pD s))) t9 t10 t11 t12 t13) :=
      x2_ev (y := .int (s.1 - x)) (xP_ev rfl) (x2_ev (x := .int s.1) (y := .int x) (xP_ev rfl) k1 rfl) rfl
    have x2' : x2 cMin2 (xP (sVar 5)) (x2 oAdd (xP (s2 oIxS (sVar 8) (sK (.i 1)))) (xCallBP 0 F_law_take [(sK (.i 2))])) (ρV n (lotD n es) laps b2 A t3 (some (.l .ow ((someL n A).map pD))) t7 (some (.d (pD s))) t9 t10 t11 t12 t13) = some (.i u.2, ρV n (lotD n es) laps b3 A t3 (some (.l .ow ((someL n A).map pD))) t7 (some (.d (pD s))) t9 t10 t11 t12 t13) :=
      x2_ev (x := .int ((n : Int) - 1)) (y := .int (s.2 + y)) (xP_ev rfl) (x2_ev (x := .int s.2) (y := .int y) (xP_ev rfl) j1 rfl) rfl
    have e2 : kSet 9 (xTup [(x2 cMax2 (xP (sK (.i 0))) (x2 oSub (xP (s2 oIxS (sVar 8) (sK (.i 0)))) (xCallBP 0 F_law_take [(sK (.i 2))]))), (x2 cMin2 (xP (sVar 5)) (x2 oAdd (xP (s2 oIxS (sVar 8) (sK (.i 1)))) (xCallBP 0 F_law_take [(sK (.i 2))])))]) (ρV n (lotD n es) laps b1 A t3 (some (.l .ow ((someL n A).map pD))) t7 (some (.d (pD s))) t9 t10 t11 t12 t13) = some (.nx (ρV n (lotD n es) laps b3 A t3 (some (.l .ow ((someL n A).map pD))) t7 (some (.d (pD s))) (some (.d (pD u))) t10 t11 t12 t13)) := kSet_x (xTup2_ev x1 x2')
    have e3 : kPutM 4 (sVar 8) (xP (s2 oSub (s2 oIxM (sVar 4) (sVar 8)) (sK (.i 1)))) (ρV n (lotD n es) laps b3 A t3 (some (.l .ow ((someL n A).map pD))) t7 (some (.d (pD s))) (some (.d (pD u))) t10 t11 t12 t13) = some (.nx (ρV n (lotD n es) laps b3 A1 t3 (some (.l .ow ((someL n A).map pD))) t7 (some (.d (pD s))) (some (.d (pD u))) t10 t11 t12 t13)) :=
      kPutM_mk (n := n) (A := A) (s := s) (v := A s - 1) hn (xP_ev (s2_ev (a := .i (A s)) (b := .i 1) (s2_ev (a := .m .ow (mk A (stz n))) (b := .d (pD s)) rfl rfl (oIxM_mk o4)) rfl rfl)) rfl rfl o4
    have e4 : kPutM 4 (sVar 9) (xP (s2 oAdd (s2 oIxM (sVar 4) (sVar 9)) (sK (.i 1)))) (ρV n (lotD n es) laps b3 A1 t3 (some (.l .ow ((someL n A).map pD))) t7 (some (.d (pD s))) (some (.d (pD u))) t10 t11 t12 t13) = some (.nx (ρV n (lotD n es) laps b3 (fun t => if t = u then A1 u + 1 else A1 t) t3 (some (.l .ow ((someL n A).map pD))) t7 (some (.d (pD s))) (some (.d (pD u))) t10 t11 t12 t13)) :=
      kPutM_mk (n := n) (A := A1) (s := u) (v := A1 u + 1) hn (xP_ev (s2_ev (a := .i (A1 u)) (b := .i 1) (s2_ev (a := .m .ow (mk A1 (stz n))) (b := .d (pD u)) rfl rfl (oIxM_mk hu)) rfl rfl)) rfl rfl hu
    exact kSeq_nx e1 (kSeq_nx e2 (kSeq_nx e3 e4))
  · have h1 : ∀ t ∈ stz n, 0 ≤ A1 t ∧ A1 t ≤ K := fun t ht => by
      have := hA t ht
      have := hA s o4
      show 0 ≤ (if t = s then A s - 1 else A t) ∧ (if t = s then A s - 1 else A t) ≤ K
      split <;> omega
    have := h1 t ht
    have := h1 u hu
    show 0 ≤ (if t = u then A1 u + 1 else A1 t) ∧ (if t = u then A1 u + 1 else A1 t) ≤ K + 4
    split <;> omega
end S67

/-! MS5: two windows exchange their ends. -/
namespace S67
theorem kPar_xx {i j : Nat} {f g : SX} {r r1 r2 : Rho} {v w : Dt} (h1 : f r = some (.d v, r1)) (h2 : g r1 = some (.d w, r2)) : kPar i j f g r = some (.nx ((r2.set i (some (.d v))).set j (some (.d w)))) := by
  rw [ap_kPar, h1, Option.bind_some]
  show (g r1).bind (fun q => (toSlot q.1).map fun b => Out.nx ((q.2.set i (some (Av.d v))).set j (some b))) = _
  rw [h2]
  rfl
theorem bAnd_ev {t u : SB} {r : Rho} {c d : Bool} (h1 : t r = some c) (h2 : u r = some d) : bAnd t u r = some (c && d) := by
  rw [ap_bAnd, h1, Option.bind_some, h2]
  cases c <;> rfl
abbrev mvP : SS := (kPutM 4 (sVar 8) (xP (s2 oAdd (s2 oIxM (sVar 4) (sVar 8)) (sVar 13))))
theorem mv_put (n : Nat) (hn : n ≤ 8) (lot : Dt) (laps : Int) (box : List Dt) (t3 t6 t7 t9 t10 t11 t12 : Option Av) : ∀ (cs : Lt) (A : Int × Int → Int) (t8 t13 : Option Av), (∀ c ∈ cs, c.1 ∈ stz n) →
    ∃ t8' t13', forGo (gTp [(gNm 8), (gNm 13)]) mvP (cs.map itemD) (ρV n lot laps box A t3 t6 t7 t8 t9 t10 t11 t12 t13) = some (.nx (ρV n lot laps box (fun x => A x + wsum cs x) t3 t6 t7 t8' t9 t10 t11 t12 t13'))
  | [], A, t8, t13, _ => ⟨t8, t13, by
    have : (fun x => A x + wsum [] x) = A := funext fun x => by
      show A x + 0 = A x
      omega
    rw [this]
    rfl⟩
  | c :: cs, A, t8, t13, hc => by
    have c0 := hc c (List.mem_cons_self ..)
    obtain ⟨t8', t13', f1⟩ := mv_put n hn lot laps box t3 t6 t7 t9 t10 t11 t12 cs (fun x => if x = c.1 then A c.1 + c.2 else A x) (some (.d (pD c.1))) (some (.i c.2)) (fun x hx => hc x (List.mem_cons_of_mem _ hx))
    refine ⟨t8', t13', ?_⟩
    rw [List.map_cons, forGo]
    have hg : gTp [(gNm 8), (gNm 13)] (itemD c) (ρV n lot laps box A t3 t6 t7 t8 t9 t10 t11 t12 t13) = some (ρV n lot laps box A t3 t6 t7 (some (.d (pD c.1))) t9 t10 t11 t12 (some (.i c.2))) := rfl
    rw [hg, Option.bind_some]
    have e1 : mvP (ρV n lot laps box A t3 t6 t7 (some (.d (pD c.1))) t9 t10 t11 t12 (some (.i c.2))) = some (.nx (ρV n lot laps box (fun x => if x = c.1 then A c.1 + c.2 else A x) t3 t6 t7 (some (.d (pD c.1))) t9 t10 t11 t12 (some (.i c.2)))) :=
      kPutM_mk (n := n) (A := A) (s := c.1) (v := A c.1 + c.2) hn (xP_ev (s2_ev (a := .i (A c.1)) (b := .i c.2) (s2_ev (a := .m .ow (mk A (stz n))) (b := .d (pD c.1)) rfl rfl (oIxM_mk c0)) rfl rfl)) rfl rfl c0
    rw [e1, Option.bind_some]
    refine f1.trans ?_
    have : (fun x => (if x = c.1 then A c.1 + c.2 else A x) + wsum cs x) = fun x => A x + wsum (c :: cs) x := funext fun x => by
      unfold wsum
      rw [sm_cons]
      by_cases q : x = c.1
      · rw [if_pos q, if_pos q.symm, q]; omega
      · rw [if_neg q, if_neg fun z => q z.symm]; omega
    rw [this]
abbrev mvD : SS := (kSeq (kPar 10 11 (xCallBP 0 F_law_of [(sVar 6)]) (xCallBP 0 F_law_of [(sVar 6)]))
  (kIf (xBP (bAnd (bOf (s2 oNe (sVar 10) (sVar 11))) (bAnd (bOf (s2 oLe (s2 oIxS (sVar 10) (sK (.i 0))) (s2 oIxS (sVar 11) (sK (.i 1))))) (bOf (s2 oLe (s2 oIxS (sVar 11) (sK (.i 0))) (s2 oIxS (sVar 10) (sK (.i 1)))))))) (kSeq (kPar 12 9 (xP (sTup [(s2 oIxS (sVar 10) (sK (.i 0))), (s2 oIxS (sVar 11) (sK (.i 1)))])) (xP (sTup [(s2 oIxS (sVar 11) (sK (.i 0))), (s2 oIxS (sVar 10) (sK (.i 1)))])))
  (kFor [] (iSeq (sTup [(sTup [(sVar 10), (s1 oNeg (sK (.i 1)))]), (sTup [(sVar 11), (s1 oNeg (sK (.i 1)))]), (sTup [(sVar 12), (sK (.i 1))]), (sTup [(sVar 9), (sK (.i 1))])])) (gTp [(gNm 8), (gNm 13)]) mvP)) kNil))
theorem mvD_ev (n : Nat) (hn : n ≤ 8) (es : Lt) (laps : Int) (m : Nat) (hm : m ≤ 800000) (box : List Dt) (hb : BoxOk m box) (A : Int × Int → Int) (K : Int) (hA : ∀ s ∈ stz n, 0 ≤ A s ∧ A s ≤ K) (h0 : someL n A ≠ []) (t3 t7 t8 t9 t10 t11 t12 t13 : Option Av) :
    ∃ box' A' t8' t9' t10' t11' t12' t13', mvD (ρV n (lotD n es) laps box A t3 (some (.l .ow ((someL n A).map pD))) t7 t8 t9 t10 t11 t12 t13) = some (.nx (ρV n (lotD n es) laps box' A' t3 (some (.l .ow ((someL n A).map pD))) t7 t8' t9' t10' t11' t12' t13')) ∧ BoxOk (m + 4) box' ∧ ∀ s ∈ stz n, 0 ≤ A' s ∧ A' s ≤ K + 4 := by
  have sl := someL_len hn A
  obtain ⟨b1, s, o1, o2, o3⟩ := own_ev (f := sVar 6) (r := ρV n (lotD n es) laps box A t3 (some (.l .ow ((someL n A).map pD))) t7 t8 t9 t10 t11 t12 t13) (someL n A) h0 (by omega) rfl rfl m (by omega) box hb rfl
  obtain ⟨s4, s5⟩ := someL_mem o3
  obtain ⟨b2, u, k1, k2, k3⟩ := own_ev (f := sVar 6) (r := ρV n (lotD n es) laps b1 A t3 (some (.l .ow ((someL n A).map pD))) t7 t8 t9 t10 t11 t12 t13) (someL n A) h0 (by omega) rfl rfl (m + 1) (by omega) b1 o2 rfl
  obtain ⟨u4, u5⟩ := someL_mem k3
  obtain ⟨z1, z2, z3⟩ := mem_stz.mp s4
  obtain ⟨w1, w2, w3⟩ := mem_stz.mp u4
  let R1 : Rho := ρV n (lotD n es) laps b2 A t3 (some (.l .ow ((someL n A).map pD))) t7 t8 t9 (some (.d (pD s))) (some (.d (pD u))) t12 t13
  have e1 : kPar 10 11 (xCallBP 0 F_law_of [(sVar 6)]) (xCallBP 0 F_law_of [(sVar 6)]) (ρV n (lotD n es) laps box A t3 (some (.l .ow ((someL n A).map pD))) t7 t8 t9 t10 t11 t12 t13) = some (.nx R1) := kPar_xx (r1 := ρV n (lotD n es) laps b1 A t3 (some (.l .ow ((someL n A).map pD))) t7 t8 t9 t10 t11 t12 t13) o1 k1
  have c1 : bOf (s2 oNe (sVar 10) (sVar 11)) R1 = some (!decide (s = u)) := by
    refine bOf_ev (s2_ev (a := .d (pD s)) (b := .d (pD u)) rfl rfl ?_)
    rw [oNe_plain (Nat.le_trans (dpt_pD _) (by decide)), eqD_pD]
  have c2 : bOf (s2 oLe (s2 oIxS (sVar 10) (sK (.i 0))) (s2 oIxS (sVar 11) (sK (.i 1)))) R1 = some (decide (s.1 ≤ u.2)) := rfl
  have c3 : bOf (s2 oLe (s2 oIxS (sVar 11) (sK (.i 0))) (s2 oIxS (sVar 10) (sK (.i 1)))) R1 = some (decide (u.1 ≤ s.2)) := rfl
  have c := bAnd_ev c1 (bAnd_ev c2 c3)
  by_cases q : (!decide (s = u) && (decide (s.1 ≤ u.2) && decide (u.1 ≤ s.2))) = true
  · rw [q] at c
    simp only [Bool.and_eq_true, Bool.not_eq_true', decide_eq_false_iff_not, decide_eq_true_eq] at q
    obtain ⟨q1, q2, q3⟩ := q
    have n4 : ((s.1, u.2) : Int × Int) ∈ stz n := mem_stz.mpr ⟨z1, q2, w3⟩
    have f4 : ((u.1, s.2) : Int × Int) ∈ stz n := mem_stz.mpr ⟨w1, q3, z3⟩
    let R2 : Rho := ρV n (lotD n es) laps b2 A t3 (some (.l .ow ((someL n A).map pD))) t7 t8 (some (.d (pD (u.1, s.2)))) (some (.d (pD s))) (some (.d (pD u))) (some (.d (pD (s.1, u.2)))) t13
    have e2 : kPar 12 9 (xP (sTup [(s2 oIxS (sVar 10) (sK (.i 0))), (s2 oIxS (sVar 11) (sK (.i 1)))])) (xP (sTup [(s2 oIxS (sVar 11) (sK (.i 0))), (s2 oIxS (sVar 10) (sK (.i 1)))])) R1 = some (.nx R2) := kPar_p (a := .d (pD (s.1, u.2))) (b := .d (pD (u.1, s.2))) rfl rfl rfl rfl
    let cs : Lt := [(s, -1), (u, -1), ((s.1, u.2), 1), ((u.1, s.2), 1)]
    have hcs : ∀ c ∈ cs, c.1 ∈ stz n := fun c hc => by
      simp only [cs, List.mem_cons, List.not_mem_nil, or_false] at hc
      rcases hc with rfl | rfl | rfl | rfl
      · exact s4
      · exact u4
      · exact n4
      · exact f4
    obtain ⟨t8', t13', l1⟩ := mv_put n hn (lotD n es) laps b2 t3 (some (.l .ow ((someL n A).map pD))) t7 (some (.d (pD (u.1, s.2)))) (some (.d (pD s))) (some (.d (pD u))) (some (.d (pD (s.1, u.2)))) cs A t8 t13 hcs
    have e3 : kFor [] (iSeq (sTup [(sTup [(sVar 10), (s1 oNeg (sK (.i 1)))]), (sTup [(sVar 11), (s1 oNeg (sK (.i 1)))]), (sTup [(sVar 12), (sK (.i 1))]), (sTup [(sVar 9), (sK (.i 1))])])) (gTp [(gNm 8), (gNm 13)]) mvP R2 = some (.nx (ρV n (lotD n es) laps b2 (fun x => A x + wsum cs x) t3 (some (.l .ow ((someL n A).map pD))) t7 t8' (some (.d (pD (u.1, s.2)))) (some (.d (pD s))) (some (.d (pD u))) (some (.d (pD (s.1, u.2)))) t13')) := by
      rw [kFor_ev (xs := cs.map itemD) rfl]
      exact l1
    refine ⟨b2, _, _, _, _, _, _, _, kSeq_nx e1 (kIf_p (c := true) c (kSeq_nx e2 e3)), boxUp k2 (by omega), fun x hx => ?_⟩
    have a1 := hA x hx
    show 0 ≤ A x + wsum cs x ∧ A x + wsum cs x ≤ K + 4
    have : wsum cs x = (if s = x then -1 else 0) + ((if u = x then -1 else 0) + ((if ((s.1, u.2) : Int × Int) = x then 1 else 0) + ((if ((u.1, s.2) : Int × Int) = x then 1 else 0) + 0))) := rfl
    rw [this]
    by_cases p1 : s = x
    · have p2 : ¬ u = x := fun z => q1 (p1.trans z.symm)
      rw [if_pos p1, if_neg p2, ← p1]
      rw [← p1] at a1
      split <;> split <;> omega
    · rw [if_neg p1]
      by_cases p2 : u = x
      · rw [if_pos p2, ← p2]
        rw [← p2] at a1
        split <;> split <;> omega
      · rw [if_neg p2]
        split <;> split <;> omega
  · rw [Bool.not_eq_true] at q
    rw [q] at c
    refine ⟨b2, A, t8, t9, _, _, t12, t13, kSeq_nx e1 (kIf_p (c := false) c rfl), boxUp k2 (by omega), fun x hx => ?_⟩
    have a1 := hA x hx
    omega
end S67

/-! MS6: the moved lot. -/
namespace S67
abbrev mvL : SS := (kSeq (kSet 6 (xP (sLc [8] (iSeq (s1 cSortM (sVar 4))) (gNm 8) (bOf (s2 oGt (s2 oIxM (sVar 4) (sVar 8)) (sK (.i 0)))) (sVar 8))))
  (kSeq (kSet 7 (xCallBP 0 F_law_take [(sK (.i 5))]))
  (kIf (xBP (bOr (bOf (s2 oEq (sVar 6) (sLst []))) (bOf (s2 oEq (sVar 7) (sK (.i 0)))))) mvA (kIf (xBP (bOf (s2 oEq (sVar 7) (sK (.i 1))))) mvB (kIf (xBP (bOf (s2 oEq (sVar 7) (sK (.i 2))))) mvC mvD)))))
theorem oEq_nil (ss : List (Int × Int)) : oEq (.l .ow (ss.map pD)) (.l .fr []) = some (.b (decide (ss = []))) := by
  have h : min (dpts (ss.map pD)) (dpts []) ≤ 32 := by
    show min _ 0 ≤ 32
    omega
  rw [oEq, eqA, if_pos h]
  cases ss with
  | nil => rfl
  | cons s ss =>
    rw [List.map_cons]
    have : decide (s :: ss = []) = false := decide_eq_false (List.cons_ne_nil _ _)
    rw [this]
    rfl
theorem bOr_ev {t u : SB} {r : Rho} {c d : Bool} (h1 : t r = some c) (h2 : u r = some d) : bOr t u r = some (c || d) := by
  rw [ap_bOr, h1, Option.bind_some, h2]
  cases c <;> rfl
theorem mvL_ev (n : Nat) (h1 : 1 ≤ n) (hn : n ≤ 8) (es : Lt) (laps : Int) (m : Nat) (hm : m ≤ 700000) (box : List Dt) (hb : BoxOk m box) (A : Int × Int → Int) (K : Int) (hA : ∀ s ∈ stz n, 0 ≤ A s ∧ A s ≤ K) (t3 t6 t7 t8 t9 t10 t11 t12 t13 : Option Av) :
    ∃ box' A' t6' t7' t8' t9' t10' t11' t12' t13', mvL (ρV n (lotD n es) laps box A t3 t6 t7 t8 t9 t10 t11 t12 t13) = some (.nx (ρV n (lotD n es) laps box' A' t3 t6' t7' t8' t9' t10' t11' t12' t13')) ∧ BoxOk (m + 5) box' ∧ ∀ s ∈ stz n, 0 ≤ A' s ∧ A' s ≤ K + 4 := by
  have sl := stz_len hn
  let S : Option Av := some (.l .ow ((someL n A).map pD))
  have a1 : sLc [8] (iSeq (s1 cSortM (sVar 4))) (gNm 8) (bOf (s2 oGt (s2 oIxM (sVar 4) (sVar 8)) (sK (.i 0)))) (sVar 8) (ρV n (lotD n es) laps box A t3 t6 t7 t8 t9 t10 t11 t12 t13) = some (.l .fr ((someL n A).map pD)) := by
    refine ap_sLc_ev (fl := true) pD (fun s => decide (0 < A s)) pD ?_ (by omega) fun s hs => ⟨ρV n (lotD n es) laps box A t3 t6 t7 (some (.d (pD s))) t9 t10 t11 t12 t13, rfl, ?_, fun _ => rfl⟩
    · rw [ap_iSeq, s1_ev (a := .m .ow (mk A (stz n))) rfl (sortM_ev n hn A .ow)]
      rfl
    · exact bOf_ev (s2_ev (a := .i (A s)) (b := .i 0) (s2_ev (a := .m .ow (mk A (stz n))) (b := .d (pD s)) rfl rfl (oIxM_mk hs)) rfl rfl)
  have e1 : kSet 6 (xP (sLc [8] (iSeq (s1 cSortM (sVar 4))) (gNm 8) (bOf (s2 oGt (s2 oIxM (sVar 4) (sVar 8)) (sK (.i 0)))) (sVar 8))) (ρV n (lotD n es) laps box A t3 t6 t7 t8 t9 t10 t11 t12 t13) = some (.nx (ρV n (lotD n es) laps box A t3 S t7 t8 t9 t10 t11 t12 t13)) := kSet_p a1 rfl
  obtain ⟨b1, x, k1, k2, k3, k4⟩ := two_ev (r := ρV n (lotD n es) laps box A t3 S t7 t8 t9 t10 t11 t12 t13) m (by omega) box hb rfl 5 (by decide) (by decide)
  let R2 : Rho := ρV n (lotD n es) laps b1 A t3 S (some (.i x)) t8 t9 t10 t11 t12 t13
  have e2 : kSet 7 (xCallBP 0 F_law_take [(sK (.i 5))]) (ρV n (lotD n es) laps box A t3 S t7 t8 t9 t10 t11 t12 t13) = some (.nx R2) := kSet_x k1
  have c0 : bOf (s2 oEq (sVar 6) (sLst [])) R2 = some (decide (someL n A = [])) := bOf_ev (s2_ev (a := .l .ow ((someL n A).map pD)) (b := .l .fr []) rfl rfl (oEq_nil _))
  have cx : ∀ i : Int, bOf (s2 oEq (sVar 7) (sK (.i i))) R2 = some (decide (x = i)) := fun i => bOf_ev (s2_ev (a := .i x) (b := .i i) rfl rfl (oEq_int x i))
  have c := bOr_ev c0 (cx 0)
  by_cases q : (decide (someL n A = []) || decide (x = 0)) = true
  · rw [q] at c
    obtain ⟨b2, A', t8', f1, f2, f3⟩ := mvA_ev n h1 hn es laps (m + 1) (by omega) b1 k2 A K hA t3 S (some (.i x)) t8 t9 t10 t11 t12 t13
    exact ⟨b2, A', _, _, _, _, _, _, _, _, kSeq_nx e1 (kSeq_nx e2 (kIf_p (c := true) c f1)), f2, f3⟩
  · rw [Bool.not_eq_true] at q
    rw [q] at c
    rw [Bool.or_eq_false_iff] at q
    have h0 : someL n A ≠ [] := of_decide_eq_false q.1
    by_cases q1 : x = 1
    · obtain ⟨b2, A', t8', f1, f2, f3⟩ := mvB_ev n hn es laps (m + 1) (by omega) b1 k2 A K hA h0 t3 (some (.i x)) t8 t9 t10 t11 t12 t13
      have d := cx 1
      rw [decide_eq_true q1] at d
      exact ⟨b2, A', _, _, _, _, _, _, _, _, kSeq_nx e1 (kSeq_nx e2 (kIf_p (c := false) c (kIf_p (c := true) d f1))), f2, f3⟩
    · have d := cx 1
      rw [decide_eq_false q1] at d
      by_cases q2 : x = 2
      · obtain ⟨b2, A', t8', t9', f1, f2, f3⟩ := mvC_ev n hn es laps (m + 1) (by omega) b1 k2 A K hA h0 t3 (some (.i x)) t8 t9 t10 t11 t12 t13
        have e := cx 2
        rw [decide_eq_true q2] at e
        exact ⟨b2, A', _, _, _, _, _, _, _, _, kSeq_nx e1 (kSeq_nx e2 (kIf_p (c := false) c (kIf_p (c := false) d (kIf_p (c := true) e f1)))), f2, f3⟩
      · obtain ⟨b2, A', t8', t9', t10', t11', t12', t13', f1, f2, f3⟩ := mvD_ev n hn es laps (m + 1) (by omega) b1 k2 A K hA h0 t3 (some (.i x)) t8 t9 t10 t11 t12 t13
        have e := cx 2
        rw [decide_eq_false q2] at e
        exact ⟨b2, A', _, _, _, _, _, _, _, _, kSeq_nx e1 (kSeq_nx e2 (kIf_p (c := false) c (kIf_p (c := false) d (kIf_p (c := false) e f1)))), f2, f3⟩
theorem mv_loop (n : Nat) (h1 : 1 ≤ n) (hn : n ≤ 8) (es : Lt) (laps : Int) : ∀ (zs : List Nat) (m : Nat) (box : List Dt) (A : Int × Int → Int) (K : Int) (t3 t6 t7 t8 t9 t10 t11 t12 t13 : Option Av), m + 5 * zs.length ≤ 700000 → BoxOk m box → (∀ s ∈ stz n, 0 ≤ A s ∧ A s ≤ K) →
    ∃ box' A' t3' t6' t7' t8' t9' t10' t11' t12' t13', forGo (gNm 3) mvL (zs.map fun (i : Nat) => Dt.int (i : Int)) (ρV n (lotD n es) laps box A t3 t6 t7 t8 t9 t10 t11 t12 t13) = some (.nx (ρV n (lotD n es) laps box' A' t3' t6' t7' t8' t9' t10' t11' t12' t13')) ∧ BoxOk (m + 5 * zs.length) box' ∧ ∀ s ∈ stz n, 0 ≤ A' s ∧ A' s ≤ K + 4 * (zs.length : Nat)
  | [], m, box, A, K, t3, t6, t7, t8, t9, t10, t11, t12, t13, _, hb, hA => ⟨box, A, t3, t6, t7, t8, t9, t10, t11, t12, t13, rfl, hb, fun s hs => by
    have := hA s hs
    simp only [List.length_nil]
    omega⟩
  | z :: zs, m, box, A, K, t3, t6, t7, t8, t9, t10, t11, t12, t13, hm, hb, hA => by
    rw [List.length_cons] at hm
    obtain ⟨b2, A2, s6, s7, s8, s9, s10, s11, s12, s13, g1, g2, g3⟩ := mvL_ev n h1 hn es laps m (by omega) box hb A K hA (some (.i z)) t6 t7 t8 t9 t10 t11 t12 t13
    obtain ⟨b3, A3, u3, u6, u7, u8, u9, u10, u11, u12, u13, f1, f2, f3⟩ := mv_loop n h1 hn es laps zs (m + 5) b2 A2 (K + 4) (some (.i z)) s6 s7 s8 s9 s10 s11 s12 s13 (by omega) g2 g3
    refine ⟨b3, A3, u3, u6, u7, u8, u9, u10, u11, u12, u13, ?_, boxUp f2 (by rw [List.length_cons]; omega), fun s hs => ?_⟩
    · rw [List.map_cons, forGo]
      have hg : gNm 3 (Dt.int (z : Int)) (ρV n (lotD n es) laps box A t3 t6 t7 t8 t9 t10 t11 t12 t13) = some (ρV n (lotD n es) laps box A (some (.i z)) t6 t7 t8 t9 t10 t11 t12 t13) := rfl
      rw [hg, Option.bind_some, g1, Option.bind_some]
      exact f1
    · have := f3 s hs
      rw [List.length_cons]
      omega
theorem moved_ev (n : Nat) (h1 : 1 ≤ n) (hn : n ≤ 8) (W : Int × Int → Int) (hW : ∀ s ∈ stz n, 0 ≤ W s ∧ W s ≤ 10 ^ 38) (laps : Nat) (hlaps : laps ≤ 2) (m : Nat) (hm : m ≤ 600000) (box : List Dt) (hb : BoxOk m box) :
    ∃ box' A', F_law_moved box [.d (lotD n (canon n W)), .i laps] = some (box', .d (lotD n (canon n A'))) ∧ BoxOk (m + 10) box' ∧ Ok n A' := by
  obtain ⟨b', A', u3, u6, u7, u8, u9, u10, u11, u12, u13, f1, f2, f3⟩ := mv_loop n h1 hn (canon n W) laps (List.range laps) m box W (10 ^ 38) none none none none none none none none none (by rw [List.length_range]; omega) hb hW
  rw [List.length_range] at f2 f3
  have big : (10 : Int) ^ 38 + 8 < 2 ^ 150 := by decide +kernel
  refine ⟨b', A', ?_, boxUp f2 (by omega), ⟨fun s hs => (f3 s hs).1, fun s hs => by have := (f3 s hs).2; omega⟩⟩
  have e1 : kPar 4 5 (xP (sCall F_law_table [(sVar 1)])) (xP (s2 oSub (s2 oIxS (sVar 1) (sK (.i 0))) (sK (.i 1)))) (startR 14 [.x box, .d (lotD n (canon n W)), .i laps]) = some (.nx (ρV n (lotD n (canon n W)) laps box W none none none none none none none none none)) :=
    kPar_p (a := .m .fr (mk W (stz n))) (b := .i ((n : Int) - 1)) (call1_ev (F := F_law_table) (x := .d (lotD n (canon n W))) rfl rfl (table_ev n h1 hn W fun s hs => (hW s hs).1)) rfl rfl rfl
  have e2 : kFor [] (iRange1 (sVar 2)) (gNm 3) mvL (ρV n (lotD n (canon n W)) laps box W none none none none none none none none none) = some (.nx (ρV n (lotD n (canon n W)) laps b' A' u3 u6 u7 u8 u9 u10 u11 u12 u13)) := by
    rw [kFor_ev (iRange1_ev (n := laps) rfl (by omega))]
    exact f1
  have e3 : sCall F_law_made [(s2 oIxS (sVar 1) (sK (.i 0))), (sVar 4)] (ρV n (lotD n (canon n W)) laps b' A' u3 u6 u7 u8 u9 u10 u11 u12 u13) = some (.d (lotD n (canon n A'))) :=
    call2_ev (x := .i n) (y := .m .ow (mk A' (stz n))) rfl rfl rfl rfl (made_ev n hn A')
  exact runB_rt (r := ρV n (lotD n (canon n W)) laps b' A' u3 u6 u7 u8 u9 u10 u11 u12 u13) (kSeq_nx e1 (kSeq_nx e2 (kRet_ev e3 rfl))) rfl
end S67

/-! MS7: five drawn lots. -/
namespace S67
theorem xCall2_ev {F : FP} {f g : SX} {r r1 r2 : Rho} {x y z : Dt} (h1 : f r = some (.d x, r1)) (h2 : g r1 = some (.d y, r2)) (h3 : F [.d x, .d y] = some (.d z)) : xCall F [f, g] r = some (.d z, r2) := by
  have e : seqX [f, g] r = some ([x, y], r2) := by
    simp only [seqX, h1, h2, Option.bind_some, Option.map_some, vDat]
  rw [ap_xCall, e, Option.bind_some]
  show ((F [.d x, .d y]).bind vFree).map _ = _
  rw [h3]
  rfl
theorem xCallB2_ev {i : Nat} {F : FB} {f g : SX} {r r1 r2 : Rho} {b b2 z : List Dt} {x y v : Dt} (hb : boxAt r i = some b) (h1 : f r = some (.d x, r1)) (h2 : g r1 = some (.d y, r2)) (hb2 : boxAt r2 i = some b2) (h3 : F b2 [.d x, .d y] = some (z, .d v)) : xCallB i F [f, g] r = some (.d v, r2.set i (some (.x z))) := by
  have e : seqX [f, g] r = some ([x, y], r2) := by
    simp only [seqX, h1, h2, Option.bind_some, Option.map_some, vDat]
  rw [ap_xCallB, hb, Option.bind_some, e, Option.bind_some, hb2, Option.bind_some]
  show (F b2 [.d x, .d y]).bind _ = _
  rw [h3]
  rfl
theorem kIf_right {f : SX} {a : SS} {r r1 : Rho} (h : f r = some (.b true, r1)) : kIf (xBNot (xBOf f)) a kNil r = some (.nx r1) := by
  rw [ap_kIf, ap_xBNot, ap_xBOf, h]
  rfl
def ρR (box : List Dt) (t1 t2 t3 : Option Av) : Rho := [some (.x box), t1, t2, t3]
abbrev rtB : SS := (kSeq (kSet 2 (x2 oAdd (xP (sK (.i 1))) (xCallBP 0 F_law_take [(sK (.i 8))])))
  (kSeq (kSet 3 (xIf (xBP (bOf (s2 oEq (sVar 1) (sK (.i 4))))) (xCallBP 0 F_law_great [(sVar 2)]) (xCallBP 0 F_law_lot [(sVar 2), (sK (.i 4))])))
  (kSeq (kIf (xBNot (xBOf (xCall F_law_pair_right [(xP (sVar 3)), (xCallB 0 F_law_moved [(xP (sVar 3)), (xCallBP 0 F_law_take [(sK (.i 3))])])]))) (kRet (sK (.b false))) kNil)
  (kIf (xBNot (xBOf (xCall F_law_fees_right [(xP (sVar 3)), (xCallB 0 F_law_hands [(xP (sVar 2)), (xCallBP 0 F_law_of [(sLst [(sK (.i 1)), (sK (.i 4)), (s2 oPow (sK (.i 10)) (sK (.i 20)))])])])]))) (kRet (sK (.b false))) kNil))))
def poolH : List Dt := [.int 1, .int 4, .int 100000000000000000000]
theorem poolH_mem {d : Dt} (h : d ∈ poolH) : ∃ w : Int, d = .int w ∧ 0 ≤ w ∧ w ≤ 10 ^ 20 := by
  simp only [poolH, List.mem_cons, List.not_mem_nil, or_false] at h
  rcases h with rfl | rfl | rfl <;> exact ⟨_, rfl, by decide +kernel, by decide +kernel⟩
theorem poolH_ev (r : Rho) : (seqE [(sLst [(sK (.i 1)), (sK (.i 4)), (s2 oPow (sK (.i 10)) (sK (.i 20)))])] r).bind argsA = some [.l .ro poolH] := by
  have a2 : s2 oPow (sK (.i 10)) (sK (.i 20)) r = some (.i 100000000000000000000) := by
    show (if (0 : Int) ≤ 20 ∧ (20 : Int) ≤ 1000000 ∧ (10 : Int).natAbs < 2 ^ 64 then some (Av.i (10 ^ (20 : Int).toNat)) else none) = _
    rw [if_pos (by decide)]
    rfl
  have a3 : sLst [(sK (.i 1)), (sK (.i 4)), (s2 oPow (sK (.i 10)) (sK (.i 20)))] r = some (.l .fr poolH) := by
    rw [ap_sLst]
    simp only [seqE, a2, ap_sK, Option.bind_some, Option.map_some, vDats]
    rfl
  simp only [seqE, a3, Option.bind_some, Option.map_some]
  rfl
theorem rtB_ev (i : Nat) (m : Nat) (hm : m ≤ 400000) (box : List Dt) (hb : BoxOk m box) (t2 t3 : Option Av) :
    ∃ box' t2' t3', rtB (ρR box (some (.i i)) t2 t3) = some (.nx (ρR box' (some (.i i)) t2' t3')) ∧ BoxOk (m + 110) box' := by
  obtain ⟨b1, x, k1, k2, k3, k4⟩ := two_ev (r := ρR box (some (.i i)) t2 t3) m (by omega) box hb rfl 8 (by decide) (by decide)
  obtain ⟨n, hn⟩ : ∃ n : Nat, 1 + x = (n : Int) := ⟨(1 + x).toNat, by omega⟩
  have n1 : 1 ≤ n := by omega
  have n8 : n ≤ 8 := by omega
  have e1 : kSet 2 (x2 oAdd (xP (sK (.i 1))) (xCallBP 0 F_law_take [(sK (.i 8))])) (ρR box (some (.i i)) t2 t3) = some (.nx (ρR b1 (some (.i i)) (some (.i n)) t3)) := by
    rw [← hn]
    exact kSet_x (x2_ev (x := .int 1) (y := .int x) (xP_ev rfl) k1 rfl)
  have lot : ∃ b2 W, xIf (xBP (bOf (s2 oEq (sVar 1) (sK (.i 4))))) (xCallBP 0 F_law_great [(sVar 2)]) (xCallBP 0 F_law_lot [(sVar 2), (sK (.i 4))]) (ρR b1 (some (.i i)) (some (.i n)) t3) = some (.d (lotD n (canon n W)), ρR b2 (some (.i i)) (some (.i n)) t3) ∧ BoxOk (m + 1 + 73) b2 ∧ ∀ s ∈ stz n, 0 ≤ W s ∧ W s ≤ 10 ^ 38 := by
    have c : xBP (bOf (s2 oEq (sVar 1) (sK (.i 4)))) (ρR b1 (some (.i i)) (some (.i n)) t3) = some (decide ((i : Int) = 4), ρR b1 (some (.i i)) (some (.i n)) t3) := by
      rw [ap_xBP, bOf_ev (s2_ev (a := .i i) (b := .i 4) rfl rfl (oEq_int _ _))]
      rfl
    by_cases q : (i : Int) = 4
    · obtain ⟨b2, W, f1, f2, f3⟩ := great_ev n n1 n8 (m + 1) (by omega) b1 k2
      refine ⟨b2, W, ?_, boxUp f2 (by omega), fun s _ => ⟨(f3 s).1, Int.le_of_lt (f3 s).2⟩⟩
      have k : xCallBP 0 F_law_great [(sVar 2)] (ρR b1 (some (.i i)) (some (.i n)) t3) = some (.d (lotD n (canon n W)), ρR b2 (some (.i i)) (some (.i n)) t3) := xCallBP_ev (b := b1) rfl rfl f1
      rw [ap_xIf, c, decide_eq_true q, Option.bind_some, if_pos rfl]
      exact k
    · obtain ⟨b2, W, f1, f2, f3⟩ := lot_ev n n1 n8 (m + 1) (by omega) b1 k2
      refine ⟨b2, W, ?_, f2, fun s _ => ⟨(f3 s).1, Int.le_trans (Int.le_of_lt (f3 s).2) (by decide)⟩⟩
      have k : xCallBP 0 F_law_lot [(sVar 2), (sK (.i 4))] (ρR b1 (some (.i i)) (some (.i n)) t3) = some (.d (lotD n (canon n W)), ρR b2 (some (.i i)) (some (.i n)) t3) := xCallBP_ev (b := b1) rfl rfl f1
      rw [ap_xIf, c, decide_eq_false q, Option.bind_some, if_neg (fun h => Bool.noConfusion h)]
      exact k
  obtain ⟨b2, W, l1, l2, l3⟩ := lot
  let R2 : Rho := ρR b2 (some (.i i)) (some (.i n)) (some (.d (lotD n (canon n W))))
  have e2 : kSet 3 (xIf (xBP (bOf (s2 oEq (sVar 1) (sK (.i 4))))) (xCallBP 0 F_law_great [(sVar 2)]) (xCallBP 0 F_law_lot [(sVar 2), (sK (.i 4))])) (ρR b1 (some (.i i)) (some (.i n)) t3) = some (.nx R2) := kSet_x l1
  have oW : Ok n W := ⟨fun s hs => (l3 s hs).1, fun s hs => Int.lt_of_le_of_lt (l3 s hs).2 (by decide +kernel)⟩
  obtain ⟨b3, y, j1, j2, j3, j4⟩ := two_ev (r := R2) (m + 1 + 73) (by omega) b2 l2 rfl 3 (by decide) (by decide)
  obtain ⟨laps, hlaps⟩ : ∃ k : Nat, y = (k : Int) := ⟨y.toNat, by omega⟩
  rw [hlaps] at j1
  obtain ⟨b4, A', m1, m2, m3⟩ := moved_ev n n1 n8 W l3 laps (by omega) (m + 1 + 73 + 1) (by omega) b3 j2
  let R4 : Rho := ρR b4 (some (.i i)) (some (.i n)) (some (.d (lotD n (canon n W))))
  have e3 : kIf (xBNot (xBOf (xCall F_law_pair_right [(xP (sVar 3)), (xCallB 0 F_law_moved [(xP (sVar 3)), (xCallBP 0 F_law_take [(sK (.i 3))])])]))) (kRet (sK (.b false))) kNil R2 = some (.nx R4) :=
    kIf_right (xCall2_ev (xP_ev rfl) (xCallB2_ev (b := b2) rfl (xP_ev rfl) j1 rfl m1) (pair_right n n1 n8 W A' oW m3))
  obtain ⟨b5, d, o1, o2, o3⟩ := of_ev (m + 1 + 73 + 1 + 10) (by omega) b4 m2 poolH (by unfold poolH; exact List.cons_ne_nil _ _) (by show 3 ≤ 1000; omega)
  obtain ⟨top, rfl, w1, w2⟩ := poolH_mem o3
  obtain ⟨b6, p, h1, h2, h3, h4, h5⟩ := hands_ev n n8 top w1 w2 (m + 1 + 73 + 1 + 10 + 1) (by omega) b5 o2
  have e4 : kIf (xBNot (xBOf (xCall F_law_fees_right [(xP (sVar 3)), (xCallB 0 F_law_hands [(xP (sVar 2)), (xCallBP 0 F_law_of [(sLst [(sK (.i 1)), (sK (.i 4)), (s2 oPow (sK (.i 10)) (sK (.i 20)))])])])]))) (kRet (sK (.b false))) kNil R4 = some (.nx (ρR b6 (some (.i i)) (some (.i n)) (some (.d (lotD n (canon n W)))))) :=
    kIf_right (xCall2_ev (xP_ev rfl) (xCallB2_ev (b := b4) rfl (xP_ev rfl) (xCallBP_ev (b := b4) (poolH_ev _) rfl o1) rfl h1) (fees_right n n8 W oW p h3 h4 h5))
  exact ⟨b6, _, _, kSeq_nx e1 (kSeq_nx e2 (kSeq_nx e3 e4)), boxUp h2 (by omega)⟩
theorem rt_loop : ∀ (zs : List Nat) (m : Nat) (box : List Dt) (t1 t2 t3 : Option Av), m + 110 * zs.length ≤ 400000 → BoxOk m box →
    ∃ box' t1' t2' t3', forGo (gNm 1) rtB (zs.map fun (i : Nat) => Dt.int (i : Int)) (ρR box t1 t2 t3) = some (.nx (ρR box' t1' t2' t3'))
  | [], m, box, t1, t2, t3, _, _ => ⟨box, t1, t2, t3, rfl⟩
  | z :: zs, m, box, t1, t2, t3, hm, hb => by
    rw [List.length_cons] at hm
    obtain ⟨b2, s2, s3, g1, g2⟩ := rtB_ev z m (by omega) box hb t2 t3
    obtain ⟨b3, u1, u2, u3, f1⟩ := rt_loop zs (m + 110) b2 (some (.i z)) s2 s3 (by omega) g2
    refine ⟨b3, u1, u2, u3, ?_⟩
    rw [List.map_cons, forGo]
    have hg : gNm 1 (Dt.int (z : Int)) (ρR box t1 t2 t3) = some (ρR box (some (.i z)) t2 t3) := rfl
    rw [hg, Option.bind_some, g1, Option.bind_some]
    exact f1
theorem right_ev (box : List Dt) (hb : BoxOk 0 box) : ∃ box', F_law_right box [] = some (box', .d (.bl true)) := by
  obtain ⟨b', u1, u2, u3, f1⟩ := rt_loop (List.range 5) 0 box none none none (by rw [List.length_range]; omega) hb
  refine ⟨b', ?_⟩
  have e1 : kFor [] (iRange1 (sK (.i 5))) (gNm 1) rtB (startR 4 [.x box]) = some (.nx (ρR b' u1 u2 u3)) := by
    rw [kFor_ev (iRange1_ev (n := 5) rfl (by omega))]
    exact f1
  exact runB_rt (r := ρR b' u1 u2 u3) (kSeq_nx e1 (kRet_ev (a := .b true) rfl rfl)) rfl
end S67

/-! MS8: by hand. -/
namespace S67
theorem forGo_inv {g : SG} {b : SS} (P : Rho → Prop) : ∀ (xs : List Dt) (r : Rho), P r → (∀ x ∈ xs, ∀ r, P r → ∃ r', (g x r).bind b = some (.nx r') ∧ P r') → ∃ r', forGo g b xs r = some (.nx r') ∧ P r'
  | [], r, hp, _ => ⟨r, rfl, hp⟩
  | x :: xs, r, hp, h => by
    obtain ⟨r1, h1, h2⟩ := h x (List.mem_cons_self ..) r hp
    obtain ⟨r2, f1, f2⟩ := forGo_inv P xs r1 h2 fun y hy => h y (List.mem_cons_of_mem _ hy)
    refine ⟨r2, ?_, f2⟩
    rw [forGo]
    cases hg : g x r with
    | none => rw [hg] at h1; cases h1
    | some r0 =>
      rw [hg, Option.bind_some] at h1
      rw [Option.bind_some, h1, Option.bind_some]
      exact f1
def esN : Lt := [((0, 1), 1), ((1, 2), 1)]
def esT : Lt := [((0, 2), 1), ((1, 1), 1)]
def esW : Lt := [((0, 2), 2)]
def esX : Lt := [((2, 2), 7)]
def handL : List Lt := [esN, esT, esW, []]
def handT : List Lt := [esN, esT, esX]
theorem hand_canon : ∀ es ∈ [esN, esT, esW, esX, []], canon 3 (wsum es) = es := by decide +kernel
theorem hand_ok : ∀ es ∈ [esN, esT, esW, esX, []], ∀ s ∈ stz 3, 0 ≤ wsum es s ∧ wsum es s < 2 ^ 150 := by decide +kernel
theorem hand_pair {es fs : Lt} (he : es ∈ [esN, esT, esW, esX, []]) (hf : fs ∈ [esN, esT, esW, esX, []]) : F_law_pair_right [.d (lotD 3 es), .d (lotD 3 fs)] = some (.b true) := by
  have := pair_right 3 (by omega) (by omega) (wsum es) (wsum fs) ⟨fun s hs => (hand_ok es he s hs).1, fun s hs => (hand_ok es he s hs).2⟩ ⟨fun s hs => (hand_ok fs hf s hs).1, fun s hs => (hand_ok fs hf s hs).2⟩
  rw [hand_canon es he, hand_canon fs hf] at this
  exact this
theorem hand_fees {es : Lt} (he : es ∈ [esN, esT, esW, esX, []]) (p : List Int) (hlen : p.length = 3) (hp : ∀ x ∈ p, 0 ≤ x) (hb : ∀ x ∈ p, x < 2 ^ 100) : F_law_fees_right [.d (lotD 3 es), .d (tupI p)] = some (.b true) := by
  have := fees_right 3 (by omega) (wsum es) ⟨fun s hs => (hand_ok es he s hs).1, fun s hs => (hand_ok es he s hs).2⟩ p hlen hp hb
  rw [hand_canon es he] at this
  exact this
def ρY (t0 t5 : Option Av) : Rho := [t0, none, some (.d (lotD 3 esN)), some (.d (lotD 3 esT)), some (.d (lotD 3 esW)), t5, none, none, none]
abbrev hdB : SS := (kIf (xBP (bOr (bNot (bOf (sCall F_law_pair_right [(sVar 0), (sVar 5)]))) (bOr (bNot (bOf (sCall F_law_fees_right [(sVar 0), (sTup [(sK (.i 2)), (sK (.i 5)), (sK (.i 1))])]))) (bNot (bOf (sCall F_law_fees_right [(sVar 5), (sTup [(sK (.i 0)), (sK (.i 3)), (sK (.i 3))])])))))) (kRet (sK (.b false))) kNil)
abbrev hdI : SS := (kFor [] (iSeq (sTup [(sVar 2), (sVar 3), (sTup [(sK (.i 3)), (sTup [(sTup [(sTup [(sK (.i 2)), (sK (.i 2))]), (sK (.i 7))])])])])) (gNm 5) hdB)
theorem hdB_ev {es fs : Lt} (he : es ∈ [esN, esT, esW, esX, []]) (hf : fs ∈ [esN, esT, esW, esX, []]) : hdB (ρY (some (.d (lotD 3 es))) (some (.d (lotD 3 fs)))) = some (.nx (ρY (some (.d (lotD 3 es))) (some (.d (lotD 3 fs))))) := by
  let R := ρY (some (.d (lotD 3 es))) (some (.d (lotD 3 fs)))
  have a1 : bNot (bOf (sCall F_law_pair_right [(sVar 0), (sVar 5)])) R = some false := bNot_ev (c := true) (bOf_ev (call2_ev (x := .d (lotD 3 es)) (y := .d (lotD 3 fs)) rfl rfl rfl rfl (hand_pair he hf)))
  have a2 : bNot (bOf (sCall F_law_fees_right [(sVar 0), (sTup [(sK (.i 2)), (sK (.i 5)), (sK (.i 1))])])) R = some false := bNot_ev (c := true) (bOf_ev (call2_ev (x := .d (lotD 3 es)) (y := .d (tupI [2, 5, 1])) rfl rfl rfl rfl (hand_fees he [2, 5, 1] rfl (by decide) (by decide +kernel))))
  have a3 : bNot (bOf (sCall F_law_fees_right [(sVar 5), (sTup [(sK (.i 0)), (sK (.i 3)), (sK (.i 3))])])) R = some false := bNot_ev (c := true) (bOf_ev (call2_ev (x := .d (lotD 3 fs)) (y := .d (tupI [0, 3, 3])) rfl rfl rfl rfl (hand_fees hf [0, 3, 3] rfl (by decide) (by decide +kernel))))
  exact kIf_p (c := false) (bOr_ff a1 (bOr_ff a2 a3)) rfl
theorem hdI_ev {es : Lt} (he : es ∈ [esN, esT, esW, esX, []]) (t5 : Option Av) : ∃ t5', hdI (ρY (some (.d (lotD 3 es))) t5) = some (.nx (ρY (some (.d (lotD 3 es))) t5')) := by
  obtain ⟨r', f1, t5', rfl⟩ := forGo_inv (g := gNm 5) (b := hdB) (fun r => ∃ t, r = ρY (some (.d (lotD 3 es))) t) (handT.map (lotD 3)) (ρY (some (.d (lotD 3 es))) t5) ⟨t5, rfl⟩ fun x hx r hr => by
    obtain ⟨t, rfl⟩ := hr
    obtain ⟨fs, hf, rfl⟩ := List.mem_map.mp hx
    refine ⟨_, hdB_ev he (fs := fs) ?_, _, rfl⟩
    simp only [handT, List.mem_cons, List.not_mem_nil, or_false] at hf
    simp only [List.mem_cons, List.not_mem_nil, or_false]
    rcases hf with h | h | h
    · exact .inl h
    · exact .inr (.inl h)
    · exact .inr (.inr (.inr (.inl h)))
  refine ⟨t5', ?_⟩
  exact (kFor_ev (xs := handT.map (lotD 3)) rfl).trans f1
def one1 (n : Nat) : Lt := canon n fun _ => 1
theorem one1_eq (n : Nat) : one1 n = (stz n).map fun s => (s, 1) := by
  unfold one1 canon
  have h : ((stz n).filter fun s => decide (0 < (fun _ : Int × Int => (1 : Int)) s)) = stz n := List.filter_eq_self.mpr fun _ _ => rfl
  rw [h]
theorem nil_canon (n : Nat) : canon n (fun _ => 0) = [] := by
  unfold canon
  have h : ((stz n).filter fun s => decide (0 < (fun _ : Int × Int => (0 : Int)) s)) = [] := List.filter_eq_nil_iff.mpr fun _ _ h => Bool.noConfusion h
  rw [h]
  rfl
theorem ok_one (n : Nat) : Ok n fun _ => 1 := ⟨fun _ _ => by show (0 : Int) ≤ 1; decide, fun _ _ => by show (1 : Int) < 2 ^ 150; decide +kernel⟩
theorem ok_nil (n : Nat) : Ok n fun _ => 0 := ⟨fun _ _ => by show (0 : Int) ≤ 0; decide, fun _ _ => by show (0 : Int) < 2 ^ 150; decide +kernel⟩
abbrev lotsE : SE := (sLc [6] (iRange2 (sK (.i 1)) (sK (.i 9))) (gNm 6) bYes (sTup [(sVar 6), (s1 cTuple (sLc [7] (iSeq (sCall F_law_spans [(sVar 6)])) (gNm 7) bYes (sTup [(sVar 7), (sK (.i 1))])))]))
theorem lotsE_ev (t0 t5 : Option Av) : lotsE (ρY t0 t5) = some (.l .fr ((List.range 8).map fun i => lotD ((i + 1 : Nat) : Int) (one1 (i + 1)))) := by
  refine sLc_map (fl := true) (fun (i : Nat) => Dt.int (1 + (i : Int))) (fun i => lotD ((i + 1 : Nat) : Int) (one1 (i + 1))) (zs := List.range 8) (iRange2_ev (i := 1) (j := 9) (k := 8) rfl rfl (by decide) (by decide) rfl) (by decide) fun i hi => ?_
  have hi := List.mem_range.mp hi
  let R : Rho := [t0, none, some (.d (lotD 3 esN)), some (.d (lotD 3 esT)), some (.d (lotD 3 esW)), t5, some (.i ((i + 1 : Nat) : Int)), none, none]
  have sl := stz_len (n := i + 1) (by omega)
  have hR : gNm 6 (Dt.int (1 + (i : Int))) (wipeR (ρY t0 t5) [6]) = some R := by
    rw [show 1 + (i : Int) = ((i + 1 : Nat) : Int) by omega]
    rfl
  refine ⟨R, hR, ?_⟩
  have a1 : sLc [7] (iSeq (sCall F_law_spans [(sVar 6)])) (gNm 7) bYes (sTup [(sVar 7), (sK (.i 1))]) R = some (.l .fr ((stz (i + 1)).map fun s => itemD (s, 1))) := by
    refine sLc_map (fl := true) pD _ ?_ (by omega) fun s _ => ⟨_, rfl, rfl⟩
    rw [ap_iSeq, call1_ev (F := F_law_spans) (x := .i ((i + 1 : Nat) : Int)) rfl rfl (spans_eq (by omega) (by omega))]
    rfl
  have a2 : s1 cTuple (sLc [7] (iSeq (sCall F_law_spans [(sVar 6)])) (gNm 7) bYes (sTup [(sVar 7), (sK (.i 1))])) R = some (.d (.tup ((one1 (i + 1)).map itemD))) := by
    rw [s1_ev a1 rfl, one1_eq, List.map_map]
    rfl
  rw [sTup2_ev rfl a2]
  rfl
def ρZ (t0 t5 : Option Av) (t6 t8 : Option Av) : Rho := [t0, some (.l .ow ((List.range 8).map fun i => lotD ((i + 1 : Nat) : Int) (one1 (i + 1)))), some (.d (lotD 3 esN)), some (.d (lotD 3 esT)), some (.d (lotD 3 esW)), t5, t6, none, t8]
theorem all_true {α : Type} (k : Fl) (zs : List α) : cAll (.l k (zs.map fun _ => Dt.bl true)) = some (.b true) := by
  show (vBls (zs.map fun _ => Dt.bl true)).map (fun bs => Av.b (bs.all id)) = _
  rw [vBls_f (fun _ => true) zs]
  show some (Av.b _) = _
  have : (zs.map fun _ => true).all id = true := by
    rw [List.all_eq_true]
    intro x hx
    obtain ⟨_, _, rfl⟩ := List.mem_map.mp hx
    rfl
  rw [this]
theorem by_hand_ev : F_law_by_hand_right [] = some (.d (.bl true)) := by
  have e1 : kPar3 2 3 4 (sTup [(sK (.i 3)), (sTup [(sTup [(sTup [(sK (.i 0)), (sK (.i 1))]), (sK (.i 1))]), (sTup [(sTup [(sK (.i 1)), (sK (.i 2))]), (sK (.i 1))])])]) (sTup [(sK (.i 3)), (sTup [(sTup [(sTup [(sK (.i 0)), (sK (.i 2))]), (sK (.i 1))]), (sTup [(sTup [(sK (.i 1)), (sK (.i 1))]), (sK (.i 1))])])]) (sTup [(sK (.i 3)), (sTup [(sTup [(sTup [(sK (.i 0)), (sK (.i 2))]), (sK (.i 2))])])]) (startR 9 []) = some (.nx (ρY none none)) := rfl
  obtain ⟨r', f1, t0, t5, rfl⟩ := forGo_inv (g := gNm 0) (b := hdI) (fun r => ∃ t u, r = ρY t u) (handL.map (lotD 3)) (ρY none none) ⟨_, _, rfl⟩ fun x hx r hr => by
    obtain ⟨t, u, rfl⟩ := hr
    obtain ⟨es, he, rfl⟩ := List.mem_map.mp hx
    have he2 : es ∈ [esN, esT, esW, esX, []] := by
      simp only [handL, List.mem_cons, List.not_mem_nil, or_false] at he
      simp only [List.mem_cons, List.not_mem_nil, or_false]
      rcases he with h | h | h | h
      · exact .inl h
      · exact .inr (.inl h)
      · exact .inr (.inr (.inl h))
      · exact .inr (.inr (.inr (.inr h)))
    obtain ⟨u', h⟩ := hdI_ev he2 u
    exact ⟨_, h, _, _, rfl⟩
  have e2 : kFor [] (iSeq (sTup [(sVar 2), (sVar 3), (sVar 4), (sTup [(sK (.i 3)), (sTup [])])])) (gNm 0) hdI (ρY none none) = some (.nx (ρY t0 t5)) := by
    rw [kFor_ev (xs := handL.map (lotD 3)) rfl]
    exact f1
  have e3 : kSet 1 (xP lotsE) (ρY t0 t5) = some (.nx (ρZ t0 t5 none none)) := kSet_p (lotsE_ev t0 t5) rfl
  have e4 : s1 cAll (sLc [6] (iSeq (sVar 1)) (gNm 6) bYes (sCall F_law_pair_right [(sVar 6), (sTup [(s2 oIxS (sVar 6) (sK (.i 0))), (sTup [])])])) (ρZ t0 t5 none none) = some (.b true) := by
    refine s1_ev (a := .l .fr ((List.range 8).map fun _ => Dt.bl true)) ?_ (all_true _ _)
    refine sLc_map (fl := false) (fun (i : Nat) => lotD ((i + 1 : Nat) : Int) (one1 (i + 1))) (fun _ => Dt.bl true) (zs := List.range 8) rfl (by decide) fun i hi => ?_
    have hi := List.mem_range.mp hi
    refine ⟨ρZ t0 t5 (some (.d (lotD ((i + 1 : Nat) : Int) (one1 (i + 1))))) none, rfl, ?_⟩
    have := pair_right (i + 1) (by omega) (by omega) (fun _ => 1) (fun _ => 0) (ok_one _) (ok_nil _)
    rw [nil_canon] at this
    rw [call2_ev (x := .d (lotD ((i + 1 : Nat) : Int) (one1 (i + 1)))) (y := .d (lotD ((i + 1 : Nat) : Int) [])) rfl rfl rfl rfl this]
    rfl
  have e5 : s1 cAll (sLc [6] (iSeq (sVar 1)) (gNm 6) bYes (sCall F_law_fees_right [(sVar 6), (s1 cTuple (sLc [8] (iRange1 (s2 oIxS (sVar 6) (sK (.i 0)))) (gNm 8) bYes (s2 oMod (s2 oAdd (s2 oMul (sK (.i 7)) (sVar 8)) (sK (.i 3))) (sK (.i 11)))))])) (ρZ t0 t5 none none) = some (.b true) := by
    refine s1_ev (a := .l .fr ((List.range 8).map fun _ => Dt.bl true)) ?_ (all_true _ _)
    refine sLc_map (fl := false) (fun (i : Nat) => lotD ((i + 1 : Nat) : Int) (one1 (i + 1))) (fun _ => Dt.bl true) (zs := List.range 8) rfl (by decide) fun i hi => ?_
    have hi := List.mem_range.mp hi
    let R : Rho := ρZ t0 t5 (some (.d (lotD ((i + 1 : Nat) : Int) (one1 (i + 1))))) none
    refine ⟨R, rfl, ?_⟩
    let p : List Int := (List.range (i + 1)).map fun (h : Nat) => (7 * (h : Int) + 3) % 11
    have a1 : sLc [8] (iRange1 (s2 oIxS (sVar 6) (sK (.i 0)))) (gNm 8) bYes (s2 oMod (s2 oAdd (s2 oMul (sK (.i 7)) (sVar 8)) (sK (.i 3))) (sK (.i 11))) R = some (.l .fr ((List.range (i + 1)).map fun (h : Nat) => Dt.int ((7 * (h : Int) + 3) % 11))) := by
      refine sLc_map (fl := true) (fun (h : Nat) => Dt.int (h : Int)) _ (iRange1_ev (n := i + 1) rfl (by omega)) (by rw [List.length_range]; omega) fun h hh => ⟨ρZ t0 t5 (some (.d (lotD ((i + 1 : Nat) : Int) (one1 (i + 1))))) (some (.i (h : Int))), rfl, ?_⟩
      have m1 : s2 oMul (sK (.i 7)) (sVar 8) (ρZ t0 t5 (some (.d (lotD ((i + 1 : Nat) : Int) (one1 (i + 1))))) (some (.i (h : Int)))) = some (.i (7 * (h : Int))) := s2_ev (a := .i 7) (b := .i h) rfl rfl (oMul_ev (.inl (by decide)))
      rw [s2_ev (a := .i (7 * (h : Int) + 3)) (b := .i 11) (s2_ev (a := .i (7 * (h : Int))) (b := .i 3) m1 rfl rfl) rfl (oMod_ev (by decide))]
      rfl
    have a2 : s1 cTuple (sLc [8] (iRange1 (s2 oIxS (sVar 6) (sK (.i 0)))) (gNm 8) bYes (s2 oMod (s2 oAdd (s2 oMul (sK (.i 7)) (sVar 8)) (sK (.i 3))) (sK (.i 11)))) R = some (.d (tupI p)) := by
      rw [s1_ev a1 rfl]
      show some (Av.d (.tup ((List.range (i + 1)).map fun (h : Nat) => Dt.int ((7 * (h : Int) + 3) % 11)))) = some (Av.d (.tup (((List.range (i + 1)).map fun (h : Nat) => (7 * (h : Int) + 3) % 11).map Dt.int)))
      rw [List.map_map]
      rfl
    have pb : ∀ x ∈ p, 0 ≤ x ∧ x < 11 := fun x hx => by
      obtain ⟨h, _, rfl⟩ := List.mem_map.mp hx
      omega
    have := fees_right (i + 1) (by omega) (fun _ => 1) (ok_one _) p (by simp [p]) (fun x hx => (pb x hx).1) (fun x hx => Int.lt_trans (pb x hx).2 (by decide +kernel))
    rw [call2_ev (x := .d (lotD ((i + 1 : Nat) : Int) (one1 (i + 1)))) (y := .d (tupI p)) rfl a2 rfl rfl this]
    rfl
  exact runP_rt (r := ρZ t0 t5 none none) (kSeq_nx e1 (kSeq_nx e2 (kSeq_nx e3 (kSeq_nx (kIf_p (c := false) (bNot_ev (bOf_ev e4)) rfl) (kRet_ev e5 rfl)))))
end S67

/-! MS9: the whole law. -/
namespace S67
def ρC (ns cs : List Int) (t3 t4 t5 : Option Av) : Rho := [some (.l .ro (ns.map .int)), some (.i 3), some (.l .ow (cs.map .int)), t3, t4, t5]
abbrev ceB : SS := (kSeq (kSet 5 (xP (s2 oMod (s1 cInt (sVar 3)) (sVar 1))))
  (kPutL 2 (sVar 5) (xP (s2 oAdd (s2 oIxS (sVar 2) (sVar 5)) (s2 oMul (sVar 4) (s2 oAdd (sVar 3) (sK (.i 2))))))))
theorem ceB_ev (ns cs : List Int) (hc : cs.length = 3) (k : Nat) (hk : k < 1000) (c : Int) (t5 : Option Av) :
    ∃ cs' t5', ceB (ρC ns cs (some (.i k)) (some (.i c)) t5) = some (.nx (ρC ns cs' (some (.i k)) (some (.i c)) t5')) ∧ cs'.length = 3 := by
  let at' : Int := (k : Int) % 3
  have a0 : 0 ≤ at' := Int.emod_nonneg _ (by decide)
  have a1 : at' < 3 := Int.emod_lt_of_pos _ (by decide)
  have a2 : at'.toNat < cs.length := by omega
  let v : Int := cs[at'.toNat] + c * ((k : Int) + 2)
  refine ⟨cs.set at'.toNat v, some (.i at'), ?_, by rw [List.length_set]; exact hc⟩
  let R1 : Rho := ρC ns cs (some (.i k)) (some (.i c)) (some (.i at'))
  have e1 : kSet 5 (xP (s2 oMod (s1 cInt (sVar 3)) (sVar 1))) (ρC ns cs (some (.i k)) (some (.i c)) t5) = some (.nx R1) := kSet_p (a := .i at') (s2_ev (a := .i k) (b := .i 3) rfl rfl (oMod_ev (by decide))) rfl
  have g1 : s2 oIxS (sVar 2) (sVar 5) R1 = some (.i cs[at'.toNat]) := by
    refine s2_ev (a := .l .ow (cs.map .int)) (b := .i at') rfl rfl ?_
    show ((ixA (cs.map Dt.int).length at').bind fun j => (cs.map Dt.int)[j]?).map Av.d = _
    rw [ixA_pos a0 (by rw [List.length_map]; omega), Option.bind_some, List.getElem?_map, List.getElem?_eq_getElem a2]
    rfl
  have g2 : s2 oMul (sVar 4) (s2 oAdd (sVar 3) (sK (.i 2))) R1 = some (.i (c * ((k : Int) + 2))) := s2_ev (a := .i c) (b := .i ((k : Int) + 2)) rfl rfl (oMul_ev (.inr (by omega)))
  have g3 : s2 oAdd (s2 oIxS (sVar 2) (sVar 5)) (s2 oMul (sVar 4) (s2 oAdd (sVar 3) (sK (.i 2)))) R1 = some (.i v) := s2_ev (a := .i cs[at'.toNat]) (b := .i (c * ((k : Int) + 2))) g1 g2 rfl
  have e2 : kPutL 2 (sVar 5) (xP (s2 oAdd (s2 oIxS (sVar 2) (sVar 5)) (s2 oMul (sVar 4) (s2 oAdd (sVar 3) (sK (.i 2)))))) R1 = some (.nx (ρC ns (cs.set at'.toNat v) (some (.i k)) (some (.i c)) (some (.i at')))) := by
    rw [ap_kPutL, xP_ev g3, Option.bind_some]
    show ((sVar 5 R1).bind vInt).bind (fun k => (slotAt R1 2).bind fun c => (putL c k (.int v)).map fun c' => Out.nx (R1.set 2 (some c'))) = _
    rw [show (sVar 5 R1).bind vInt = some at' from rfl, Option.bind_some, show slotAt R1 2 = some (.l .ow (cs.map .int)) from rfl, Option.bind_some]
    show (((ixA (cs.map Dt.int).length at').map fun j => Av.l .ow ((cs.map Dt.int).set j (.int v)))).map (fun c' => Out.nx (R1.set 2 (some c'))) = _
    rw [ixA_pos a0 (by rw [List.length_map]; omega), Option.map_some, Option.map_some]
    unfold ρC
    rw [List.map_set]
    rfl
  exact kSeq_nx e1 e2
theorem ce_loop (ns : List Int) : ∀ (zs : List (Nat × Int)) (cs : List Int) (t3 t4 t5 : Option Av), cs.length = 3 → (∀ z ∈ zs, z.1 < 1000) →
    ∃ cs' t3' t4' t5', forGo (gTp [(gNm 3), (gNm 4)]) ceB (zs.map fun z => Dt.tup [.int (z.1 : Int), .int z.2]) (ρC ns cs t3 t4 t5) = some (.nx (ρC ns cs' t3' t4' t5')) ∧ cs'.length = 3
  | [], cs, t3, t4, t5, hc, _ => ⟨cs, t3, t4, t5, rfl, hc⟩
  | z :: zs, cs, t3, t4, t5, hc, hz => by
    obtain ⟨cs2, s5, g1, g2⟩ := ceB_ev ns cs hc z.1 (hz z (List.mem_cons_self ..)) z.2 t5
    obtain ⟨cs3, u3, u4, u5, f1, f2⟩ := ce_loop ns zs cs2 (some (.i z.1)) (some (.i z.2)) s5 g2 fun y hy => hz y (List.mem_cons_of_mem _ hy)
    refine ⟨cs3, u3, u4, u5, ?_, f2⟩
    rw [List.map_cons, forGo]
    have hg : gTp [(gNm 3), (gNm 4)] (Dt.tup [.int (z.1 : Int), .int z.2]) (ρC ns cs t3 t4 t5) = some (ρC ns cs (some (.i z.1)) (some (.i z.2)) t5) := rfl
    rw [hg, Option.bind_some, g1, Option.bind_some]
    exact f1
theorem enum_zip : ∀ (as : List Nat) (bs : List Int), as.zipWith (fun (i : Nat) x => Dt.tup [.int (i : Int), x]) (bs.map Dt.int) = (as.zip bs).map fun z => Dt.tup [.int (z.1 : Int), .int z.2]
  | [], _ => rfl
  | _ :: _, [] => rfl
  | a :: as, b :: bs => by
    rw [List.map_cons, List.zipWith_cons_cons, List.zip_cons_cons, List.map_cons, enum_zip as bs]
theorem enum_ints (bs : List Int) : enumD (bs.map Dt.int) = ((List.range bs.length).zip bs).map fun z => Dt.tup [.int (z.1 : Int), .int z.2] := by
  unfold enumD
  rw [List.length_map]
  exact enum_zip _ _
theorem cut_map (f : Int → Dt) (xs : List Int) (lo hi : Option Int) : cutD (xs.map f) lo hi = ((xs.drop (cutIx xs.length 0 lo)).take (cutIx xs.length xs.length hi - cutIx xs.length 0 lo)).map f := by
  unfold cutD
  rw [List.length_map, ← List.map_drop, ← List.map_take]
theorem cells_ev (ns : List Int) (hn : ns.length ≤ 63) : ∃ cs : List Int, F_law_cells [.l .ro (ns.map .int), .i 3] = some (.l .fr (cs.map .int)) ∧ cs.length ≤ 3 := by
  let R0 : Rho := startR 6 [.l .ro (ns.map .int), .i 3]
  have a1 : s1 cList (sCut (sVar 0) pNo (pYes (sVar 1))) R0 = some (.l .fr ((ns.take (min 3 ns.length)).map .int)) := by
    refine s1_ev (a := .l .fr ((ns.take (min 3 ns.length)).map .int)) ?_ rfl
    show some (Av.l .fr (cutD (ns.map Dt.int) none (some 3))) = _
    rw [cut_map]
    rfl
  have a2 : ∃ c0 : List Int, sOrL (s1 cList (sCut (sVar 0) pNo (pYes (sVar 1)))) (sLst [(sK (.i 0))]) R0 = some (.l .fr (c0.map .int)) ∧ c0.length ≤ 3 ∧ (3 < ns.length → c0.length = 3) := by
    rw [ap_sOrL, a1, Option.bind_some]
    cases h : ns.take (min 3 ns.length) with
    | nil =>
      refine ⟨[0], rfl, by decide, fun q => ?_⟩
      have := congrArg List.length h
      rw [List.length_take, List.length_nil] at this
      omega
    | cons x xs =>
      refine ⟨x :: xs, rfl, ?_, fun q => ?_⟩
      · have := congrArg List.length h
        rw [List.length_take] at this
        omega
      · have := congrArg List.length h
        rw [List.length_take] at this
        omega
  obtain ⟨c0, a3, a4, a5⟩ := a2
  have e1 : kSet 2 (xP (sOrL (s1 cList (sCut (sVar 0) pNo (pYes (sVar 1)))) (sLst [(sK (.i 0))]))) R0 = some (.nx (ρC ns c0 none none none)) := kSet_p a3 rfl
  let rest : List Int := (ns.drop (min 3 ns.length)).take (min 63 ns.length - min 3 ns.length)
  have i1 : iEnum (sCut (sVar 0) (pYes (sVar 1)) (pYes (sK (.i 63)))) (frz (ρC ns c0 none none none) []) = some (true, ((List.range rest.length).zip rest).map fun z => Dt.tup [.int (z.1 : Int), .int z.2]) := by
    rw [← enum_ints]
    show some (true, enumD (cutD (ns.map Dt.int) (some 3) (some 63))) = _
    rw [cut_map]
    rfl
  have lr : rest.length ≤ 63 := by
    show ((ns.drop (min 3 ns.length)).take (min 63 ns.length - min 3 ns.length)).length ≤ 63
    rw [List.length_take, List.length_drop]
    omega
  have loop : ∃ cs' t3' t4' t5', forGo (gTp [(gNm 3), (gNm 4)]) ceB (((List.range rest.length).zip rest).map fun z => Dt.tup [.int (z.1 : Int), .int z.2]) (ρC ns c0 none none none) = some (.nx (ρC ns cs' t3' t4' t5')) ∧ cs'.length ≤ 3 := by
    by_cases q : 3 < ns.length
    · obtain ⟨cs', t3, t4, t5, f1, f2⟩ := ce_loop ns ((List.range rest.length).zip rest) c0 none none none (a5 q) fun z hz => by
        have := List.mem_range.mp (List.of_mem_zip hz).1
        omega
      exact ⟨cs', t3, t4, t5, f1, by omega⟩
    · have : rest = [] := by
        refine List.eq_nil_of_length_eq_zero ?_
        show ((ns.drop (min 3 ns.length)).take (min 63 ns.length - min 3 ns.length)).length = 0
        rw [List.length_take, List.length_drop]
        omega
      rw [this]
      exact ⟨c0, none, none, none, rfl, a4⟩
  obtain ⟨cs, t3, t4, t5, f1, f2⟩ := loop
  have e2 : kFor [] (iEnum (sCut (sVar 0) (pYes (sVar 1)) (pYes (sK (.i 63))))) (gTp [(gNm 3), (gNm 4)]) ceB (ρC ns c0 none none none) = some (.nx (ρC ns cs t3 t4 t5)) := by
    rw [kFor_ev i1]
    exact f1
  exact ⟨cs, runP_rt (kSeq_nx e1 (kSeq_nx e2 (kRet_ev (a := .l .ow (cs.map .int)) rfl rfl))), f2⟩
theorem box_ev (cs : List Int) (k : Nat) (hk : k < cs.length) : ∃ a b, F_law_box [.l .ro (cs.map .int), .i k] = some (.l .fr (bx a b 0)) ∧ 0 ≤ a := by
  let c : Int := cs[k]
  let A : Int := ((c.natAbs : Nat) : Int)
  let B : Int := if decide ((10 : Int) ^ 18 ≤ A) = true then 1 else 0
  refine ⟨A * B, c % 2305843009213693951 + 39373 * (k : Int) + 69671, ?_, ?_⟩
  · let R1 : Rho := [some (.l .ro (cs.map .int)), some (.i k), some (.i c)]
    have c1 : bOf (s2 oLt (sVar 1) (s1 cLen (sVar 0))) (startR 3 [.l .ro (cs.map .int), .i k]) = some true := by
      refine bOf_ev (s2_ev (a := .i k) (b := .i ((cs.map Dt.int).length : Nat)) rfl rfl ?_)
      show some (Av.b (decide ((k : Int) < ((cs.map Dt.int).length : Nat)))) = _
      rw [decide_eq_true (by rw [List.length_map]; omega)]
    have g1 : s2 oIxS (sVar 0) (sVar 1) (startR 3 [.l .ro (cs.map .int), .i k]) = some (.i c) := by
      refine s2_ev (a := .l .ro (cs.map .int)) (b := .i k) rfl rfl ?_
      show ((ixA (cs.map Dt.int).length (k : Int)).bind fun j => (cs.map Dt.int)[j]?).map Av.d = _
      rw [ixA_pos (by omega) (by rw [List.length_map]; omega), Option.bind_some, Int.toNat_natCast, List.getElem?_map, List.getElem?_eq_getElem hk]
      rfl
    have e1 : kSet 2 (xP (sIf (bOf (s2 oLt (sVar 1) (s1 cLen (sVar 0)))) (s2 oIxS (sVar 0) (sVar 1)) (sK (.i 0)))) (startR 3 [.l .ro (cs.map .int), .i k]) = some (.nx R1) := kSet_p (a := .i c) (sIf_ev (c := true) c1 g1) rfl
    have pw : s2 oPow (sK (.i 10)) (sK (.i 18)) R1 = some (.i (10 ^ 18)) := by
      show (if (0 : Int) ≤ 18 ∧ (18 : Int) ≤ 1000000 ∧ (10 : Int).natAbs < 2 ^ 64 then some (Av.i (10 ^ (18 : Int).toNat)) else none) = _
      rw [if_pos (by decide)]
      rfl
    have hB : B.natAbs < 2 ^ 64 := by
      show (if decide ((10 : Int) ^ 18 ≤ A) = true then (1 : Int) else 0).natAbs < 2 ^ 64
      split <;> decide
    have m1 : s2 oMul (s1 cAbs (sVar 2)) (s1 cInt (s2 oGe (s1 cAbs (sVar 2)) (s2 oPow (sK (.i 10)) (sK (.i 18))))) R1 = some (.i (A * B)) :=
      s2_ev (a := .i A) (b := .i B) rfl (s1_ev (a := .b (decide ((10 : Int) ^ 18 ≤ A))) (s2_ev (a := .i A) (b := .i (10 ^ 18)) rfl pw rfl) rfl) (oMul_ev (.inr hB))
    have m2 : s2 oMul (sK (.i 39373)) (sVar 1) R1 = some (.i (39373 * (k : Int))) := s2_ev (a := .i 39373) (b := .i k) rfl rfl (oMul_ev (.inl (by decide)))
    have m3 : s2 oMod (s1 cInt (sVar 2)) (sK (.i 2305843009213693951)) R1 = some (.i (c % 2305843009213693951)) := s2_ev (a := .i c) (b := .i 2305843009213693951) rfl rfl (oMod_ev (by decide))
    have m4 : s2 oAdd (s2 oAdd (s2 oMod (s1 cInt (sVar 2)) (sK (.i 2305843009213693951))) (s2 oMul (sK (.i 39373)) (sVar 1))) (sK (.i 69671)) R1 = some (.i (c % 2305843009213693951 + 39373 * (k : Int) + 69671)) :=
      s2_ev (a := .i (c % 2305843009213693951 + 39373 * (k : Int))) (b := .i 69671) (s2_ev (a := .i (c % 2305843009213693951)) (b := .i (39373 * (k : Int))) m3 m2 rfl) rfl rfl
    have e2 : sLst [(s2 oMul (s1 cAbs (sVar 2)) (s1 cInt (s2 oGe (s1 cAbs (sVar 2)) (s2 oPow (sK (.i 10)) (sK (.i 18)))))), (s2 oAdd (s2 oAdd (s2 oMod (s1 cInt (sVar 2)) (sK (.i 2305843009213693951))) (s2 oMul (sK (.i 39373)) (sVar 1))) (sK (.i 69671))), (sK (.i 0))] R1 = some (.l .fr (bx (A * B) (c % 2305843009213693951 + 39373 * (k : Int) + 69671) 0)) := by
      rw [ap_sLst]
      simp only [seqE, m1, m4, ap_sK, Option.bind_some, Option.map_some, vDats]
      rfl
    exact runP_rt (kSeq_nx e1 (kRet_ev e2 rfl))
  · refine Int.mul_nonneg (Int.natCast_nonneg _) ?_
    show 0 ≤ (if decide ((10 : Int) ^ 18 ≤ A) = true then (1 : Int) else 0)
    split <;> decide
theorem law_true (ns : List Int) (h : ns.length ≤ 63) : F_law [.l .ro (ns.map .int)] = some (.d (.bl true)) := by
  obtain ⟨cs, c1, c2⟩ := cells_ev ns h
  let R1 : Rho := [some (.l .ro (ns.map .int)), some (.l .ow (cs.map .int)), none]
  have e1 : kSet 1 (xP (sCall F_law_cells [(sVar 0), (sK (.i 3))])) (startR 3 [.l .ro (ns.map .int)]) = some (.nx R1) := kSet_p (call2_ev (x := .l .ro (ns.map .int)) (y := .i 3) rfl rfl rfl rfl c1) rfl
  have e2 : sLc [2] (iRange1 (s1 cLen (sVar 1))) (gNm 2) bYes (sCallNew F_law_right (sCall F_law_box [(sVar 1), (sVar 2)])) R1 = some (.l .fr ((List.range cs.length).map fun _ => Dt.bl true)) := by
    have hlen : s1 cLen (sVar 1) R1 = some (.i (cs.length : Nat)) := by
      show some (Av.i ((cs.map Dt.int).length : Nat)) = _
      rw [List.length_map]
    refine sLc_map (fl := true) (fun (i : Nat) => Dt.int (i : Int)) _ (iRange1_ev (n := cs.length) (by rw [hlen]; rfl) (by omega)) (by rw [List.length_range]; omega) fun k hk => ⟨[some (.l .ro (ns.map .int)), some (.l .ow (cs.map .int)), some (.i k)], rfl, ?_⟩
    obtain ⟨a, b, b1, b2⟩ := box_ev cs k (List.mem_range.mp hk)
    obtain ⟨z, r1⟩ := right_ev (bx a b 0) ⟨a, b, 0, rfl, b2, Int.le_refl 0, Int.le_refl 0⟩
    have g1 : sCall F_law_box [(sVar 1), (sVar 2)] [some (.l .ro (ns.map .int)), some (.l .ow (cs.map .int)), some (.i k)] = some (.l .fr (bx a b 0)) := call2_ev (x := .l .ow (cs.map .int)) (y := .i k) rfl rfl rfl rfl b1
    rw [ap_sCallNew, g1, Option.bind_some]
    show (((F_law_right (bx a b 0) []).bind fun z => vFree z.2).bind vDat) = _
    rw [r1]
    rfl
  have e0 : bNot (bOf (sCall0 F_law_by_hand_right)) (startR 3 [.l .ro (ns.map .int)]) = some false := bNot_ev (c := true) (bOf_ev (by rw [ap_sCall0]; exact by_hand_ev))
  exact runP_rt (r := R1) (kSeq_nx (kIf_p (c := false) e0 rfl) (kSeq_nx e1 (kRet_ev (s1_ev e2 (all_true _ _)) rfl)))
end S67

/-! what the top has written; the law's end; printed by gen.py -/
namespace S67
open PySem PySem.Spec PyProof.Rows L2
def Made (K : PySem.W.Frag) (x : Str) (st : Stmt) : Prop := ∃ (f : Addr) (oc : Value) (od : Option Addr) (kV dc pm : Value) (an : Option Addr) (cd ct : Value) (sl : Array (Option Value)), PySem.W.nsIn K mainGlobals x = some (some (.ref f)) ∧
  K.lookup f = some ⟨oc, od, .func (PySem.W.fnOf x x (defArgs st) (defBody st) (defScope st) .none kV dc pm an cd ct), sl⟩ ∧ PySem.W.codeIn K cd x = true ∧ PySem.W.keepIn K (.ref f) = true
theorem made_fun {w : World} {K : PySem.W.Frag} {h : Heap} {mg : Str → Option Value} {x : Str} {st : Stmt} (X : K.In h) (G : h.Ns mainGlobals mg) (q : Made K x st) : ∃ f fd, Fun K x x st f fd ∧ mg x = some (.ref f) ∧ PySem.W.keepIn K (.ref f) = true := by
  obtain ⟨f, oc, od, kV, dc, pm, an, cd, ct, sl, a, l, c, k⟩ := q
  exact ⟨f, _, fun_mk (st := st) l c k, PySem.W.mg_of X G a, k⟩
set_option maxHeartbeats 0 in
theorem law_end {l : PySem.W.OpenLaw} {w : World} {K : PySem.W.Frag} {h : Heap} {mg : Str → Option Value} {fa : Addr} (X : K.In h) (G : h.Ns mainGlobals mg) (hfa : mg "law" = some (.ref fa)) (tp : Tops mg)
    (q_all_work : Made K "all_work" s_all_work)
    (q_fewest_rows : Made K "fewest_rows" s_fewest_rows)
    (q_all_stretches : Made K "all_stretches" s_all_stretches)
    (q_spans_in_row : Made K "spans_in_row" s_spans_in_row)
    (q_powers : Made K "powers" s_powers)
    (q_beside : Made K "beside" s_beside)
    (q_weight_of : Made K "weight_of" s_weight_of)
    (q_weights_of : Made K "weights_of" s_weights_of)
    (q_prices_of : Made K "prices_of" s_prices_of)
    (q_telling_rows : Made K "telling_rows" s_telling_rows)
    (q_check_fit : Made K "check_fit" s_check_fit)
    (q_cheapest : Made K "cheapest" s_cheapest)
    (q_bills_of : Made K "bills_of" s_bills_of)
    (q_figures_of : Made K "figures_of" s_figures_of)
    (q_singles : Made K "singles" s_singles)
    (q_lot_of : Made K "lot_of" s_lot_of)
    (q_lot_by_bills : Made K "lot_by_bills" s_lot_by_bills)
    (q_law_same : Made K "_law_same" s_law_same)
    (q_check_stretch : Made K "check_stretch" s_check_stretch)
    (q_lies_within : Made K "lies_within" s_lies_within)
    (q_asked : Made K "asked" s_asked)
    (q_table_of : Made K "table_of" s_table_of)
    (q_check_rows : Made K "check_rows" s_check_rows)
    (q_seen : Made K "seen" s_seen)
    (q_unseen : Made K "unseen" s_unseen)
    (q_made_lot : Made K "made_lot" s_made_lot)
    (q_pair_at : Made K "pair_at" s_pair_at)
    (q_blind_pair : Made K "blind_pair" s_blind_pair)
    (q_is_number : Made K "is_number" s_is_number)
    (q_are_numbers : Made K "are_numbers" s_are_numbers)
    (q_is_errand : Made K "is_errand" s_is_errand)
    (q_rises : Made K "rises" s_rises)
    (q_is_lot : Made K "is_lot" s_is_lot)
    (q_is_blind_pair : Made K "is_blind_pair" s_is_blind_pair)
    (q_check_same : Made K "check_same" s_check_same)
    (q_differences : Made K "differences" s_differences)
    (q_compare : Made K "compare" s_compare)
    (q_over : Made K "over" s_over)
    (q_law_pair_right : Made K "_law_pair_right" s_law_pair_right)
    (q_behind : Made K "behind" s_behind)
    (q_law_fees_right : Made K "_law_fees_right" s_law_fees_right)
    (q_law_spans : Made K "_law_spans" s_law_spans)
    (q_law_by_hand_right : Made K "_law_by_hand_right" s_law_by_hand_right)
    (q_law_cells : Made K "_law_cells" s_law_cells)
    (q_law_box : Made K "_law_box" s_law_box)
    (q_law_take : Made K "_law_take" s_law_take)
    (q_law_of : Made K "_law_of" s_law_of)
    (q_law_great : Made K "_law_great" s_law_great)
    (q_law_lot : Made K "_law_lot" s_law_lot)
    (q_law_table : Made K "_law_table" s_law_table)
    (q_law_made : Made K "_law_made" s_law_made)
    (q_law_moved : Made K "_law_moved" s_law_moved)
    (q_law_hands : Made K "_law_hands" s_law_hands)
    (q_law_right : Made K "_law_right" s_law_right)
    (q_law : Made K "law" s_law)
    : ∃ fd : FuncData, (∀ (s : Shared) (v : Value), BindsTo s fd ⟨[v], []⟩ [("_law_script", v)]) ∧ ∀ base : Heap, K.In base → base.Ns mainGlobals mg → FnOk l.prog w K mg base CX0 12 fa fd ["_law_script"] (spP K 1 F_law) := by
  obtain ⟨f_all_work, fd_all_work, F_all_work, m_all_work, k_all_work⟩ := made_fun (w := w) X G q_all_work
  have b_all_work := F_all_work.binds (ps := ["lot"]) fun _ _ _ _ _ _ us hl => match us, hl with | [_], _ => rfl
  obtain ⟨f_fewest_rows, fd_fewest_rows, F_fewest_rows, m_fewest_rows, k_fewest_rows⟩ := made_fun (w := w) X G q_fewest_rows
  have b_fewest_rows := F_fewest_rows.binds (ps := ["hours"]) fun _ _ _ _ _ _ us hl => match us, hl with | [_], _ => rfl
  obtain ⟨f_all_stretches, fd_all_stretches, F_all_stretches, m_all_stretches, k_all_stretches⟩ := made_fun (w := w) X G q_all_stretches
  have b_all_stretches := F_all_stretches.binds (ps := ["hours"]) fun _ _ _ _ _ _ us hl => match us, hl with | [_], _ => rfl
  obtain ⟨f_spans_in_row, fd_spans_in_row, F_spans_in_row, m_spans_in_row, k_spans_in_row⟩ := made_fun (w := w) X G q_spans_in_row
  have b_spans_in_row := F_spans_in_row.binds (ps := ["hours", "row"]) fun _ _ _ _ _ _ us hl => match us, hl with | [_, _], _ => rfl
  obtain ⟨f_powers, fd_powers, F_powers, m_powers, k_powers⟩ := made_fun (w := w) X G q_powers
  have b_powers := F_powers.binds (ps := ["base", "many"]) fun _ _ _ _ _ _ us hl => match us, hl with | [_, _], _ => rfl
  obtain ⟨f_beside, fd_beside, F_beside, m_beside, k_beside⟩ := made_fun (w := w) X G q_beside
  have b_beside := F_beside.binds (ps := ["prices", "hour"]) fun _ _ _ _ _ _ us hl => match us, hl with | [_, _], _ => rfl
  obtain ⟨f_weight_of, fd_weight_of, F_weight_of, m_weight_of, k_weight_of⟩ := made_fun (w := w) X G q_weight_of
  have b_weight_of := F_weight_of.binds (ps := ["prices", "first", "last"]) fun _ _ _ _ _ _ us hl => match us, hl with | [_, _, _], _ => rfl
  obtain ⟨f_weights_of, fd_weights_of, F_weights_of, m_weights_of, k_weights_of⟩ := made_fun (w := w) X G q_weights_of
  have b_weights_of := F_weights_of.binds (ps := ["prices"]) fun _ _ _ _ _ _ us hl => match us, hl with | [_], _ => rfl
  obtain ⟨f_prices_of, fd_prices_of, F_prices_of, m_prices_of, k_prices_of⟩ := made_fun (w := w) X G q_prices_of
  have b_prices_of := F_prices_of.binds (ps := ["hours", "weights"]) fun _ _ _ _ _ _ us hl => match us, hl with | [_, _], _ => rfl
  obtain ⟨f_telling_rows, fd_telling_rows, F_telling_rows, m_telling_rows, k_telling_rows⟩ := made_fun (w := w) X G q_telling_rows
  have b_telling_rows := F_telling_rows.binds (ps := ["hours", "most"]) fun _ _ _ _ _ _ us hl => match us, hl with | [_, _], _ => rfl
  obtain ⟨f_check_fit, fd_check_fit, F_check_fit, m_check_fit, k_check_fit⟩ := made_fun (w := w) X G q_check_fit
  have b_check_fit := F_check_fit.binds (ps := ["lot", "numbers"]) fun _ _ _ _ _ _ us hl => match us, hl with | [_, _], _ => rfl
  obtain ⟨f_cheapest, fd_cheapest, F_cheapest, m_cheapest, k_cheapest⟩ := made_fun (w := w) X G q_cheapest
  have b_cheapest := F_cheapest.binds (ps := ["lot", "prices"]) fun _ _ _ _ _ _ us hl => match us, hl with | [_, _], _ => rfl
  obtain ⟨f_bills_of, fd_bills_of, F_bills_of, m_bills_of, k_bills_of⟩ := made_fun (w := w) X G q_bills_of
  have b_bills_of := F_bills_of.binds (ps := ["lot", "rows"]) fun _ _ _ _ _ _ us hl => match us, hl with | [_, _], _ => rfl
  obtain ⟨f_figures_of, fd_figures_of, F_figures_of, m_figures_of, k_figures_of⟩ := made_fun (w := w) X G q_figures_of
  have b_figures_of := F_figures_of.binds (ps := ["number", "base", "many"]) fun _ _ _ _ _ _ us hl => match us, hl with | [_, _, _], _ => rfl
  obtain ⟨f_singles, fd_singles, F_singles, m_singles, k_singles⟩ := made_fun (w := w) X G q_singles
  have b_singles := F_singles.binds (ps := ["hours", "table"]) fun _ _ _ _ _ _ us hl => match us, hl with | [_, _], _ => rfl
  obtain ⟨f_lot_of, fd_lot_of, F_lot_of, m_lot_of, k_lot_of⟩ := made_fun (w := w) X G q_lot_of
  have b_lot_of := F_lot_of.binds (ps := ["hours", "table"]) fun _ _ _ _ _ _ us hl => match us, hl with | [_, _], _ => rfl
  obtain ⟨f_lot_by_bills, fd_lot_by_bills, F_lot_by_bills, m_lot_by_bills, k_lot_by_bills⟩ := made_fun (w := w) X G q_lot_by_bills
  have b_lot_by_bills := F_lot_by_bills.binds (ps := ["hours", "most", "bills"]) fun _ _ _ _ _ _ us hl => match us, hl with | [_, _, _], _ => rfl
  obtain ⟨f_law_same, fd_law_same, F_law_same, m_law_same, k_law_same⟩ := made_fun (w := w) X G q_law_same
  have b_law_same := F_law_same.binds (ps := ["_law_got", "_law_due_so"]) fun _ _ _ _ _ _ us hl => match us, hl with | [_, _], _ => rfl
  obtain ⟨f_check_stretch, fd_check_stretch, F_check_stretch, m_check_stretch, k_check_stretch⟩ := made_fun (w := w) X G q_check_stretch
  have b_check_stretch := F_check_stretch.binds (ps := ["hours", "first", "last"]) fun _ _ _ _ _ _ us hl => match us, hl with | [_, _, _], _ => rfl
  obtain ⟨f_lies_within, fd_lies_within, F_lies_within, m_lies_within, k_lies_within⟩ := made_fun (w := w) X G q_lies_within
  have b_lies_within := F_lies_within.binds (ps := ["one", "other"]) fun _ _ _ _ _ _ us hl => match us, hl with | [_, _], _ => rfl
  obtain ⟨f_asked, fd_asked, F_asked, m_asked, k_asked⟩ := made_fun (w := w) X G q_asked
  have b_asked := F_asked.binds (ps := ["lot", "first", "last"]) fun _ _ _ _ _ _ us hl => match us, hl with | [_, _, _], _ => rfl
  obtain ⟨f_table_of, fd_table_of, F_table_of, m_table_of, k_table_of⟩ := made_fun (w := w) X G q_table_of
  have b_table_of := F_table_of.binds (ps := ["lot"]) fun _ _ _ _ _ _ us hl => match us, hl with | [_], _ => rfl
  obtain ⟨f_check_rows, fd_check_rows, F_check_rows, m_check_rows, k_check_rows⟩ := made_fun (w := w) X G q_check_rows
  have b_check_rows := F_check_rows.binds (ps := ["hours", "rows"]) fun _ _ _ _ _ _ us hl => match us, hl with | [_, _], _ => rfl
  obtain ⟨f_seen, fd_seen, F_seen, m_seen, k_seen⟩ := made_fun (w := w) X G q_seen
  have b_seen := F_seen.binds (ps := ["prices"]) fun _ _ _ _ _ _ us hl => match us, hl with | [_], _ => rfl
  obtain ⟨f_unseen, fd_unseen, F_unseen, m_unseen, k_unseen⟩ := made_fun (w := w) X G q_unseen
  have b_unseen := F_unseen.binds (ps := ["hours", "rows"]) fun _ _ _ _ _ _ us hl => match us, hl with | [_, _], _ => rfl
  obtain ⟨f_made_lot, fd_made_lot, F_made_lot, m_made_lot, k_made_lot⟩ := made_fun (w := w) X G q_made_lot
  have b_made_lot := F_made_lot.binds (ps := ["hours", "errands"]) fun _ _ _ _ _ _ us hl => match us, hl with | [_, _], _ => rfl
  obtain ⟨f_pair_at, fd_pair_at, F_pair_at, m_pair_at, k_pair_at⟩ := made_fun (w := w) X G q_pair_at
  have b_pair_at := F_pair_at.binds (ps := ["hours", "first", "last"]) fun _ _ _ _ _ _ us hl => match us, hl with | [_, _, _], _ => rfl
  obtain ⟨f_blind_pair, fd_blind_pair, F_blind_pair, m_blind_pair, k_blind_pair⟩ := made_fun (w := w) X G q_blind_pair
  have b_blind_pair := F_blind_pair.binds (ps := ["hours", "rows"]) fun _ _ _ _ _ _ us hl => match us, hl with | [_, _], _ => rfl
  obtain ⟨f_is_number, fd_is_number, F_is_number, m_is_number, k_is_number⟩ := made_fun (w := w) X G q_is_number
  have b_is_number := F_is_number.binds (ps := ["thing"]) fun _ _ _ _ _ _ us hl => match us, hl with | [_], _ => rfl
  obtain ⟨f_are_numbers, fd_are_numbers, F_are_numbers, m_are_numbers, k_are_numbers⟩ := made_fun (w := w) X G q_are_numbers
  have b_are_numbers := F_are_numbers.binds (ps := ["thing", "size", "least"]) fun _ _ _ _ _ _ us hl => match us, hl with | [_, _, _], _ => rfl
  obtain ⟨f_is_errand, fd_is_errand, F_is_errand, m_is_errand, k_is_errand⟩ := made_fun (w := w) X G q_is_errand
  have b_is_errand := F_is_errand.binds (ps := ["hours", "thing"]) fun _ _ _ _ _ _ us hl => match us, hl with | [_, _], _ => rfl
  obtain ⟨f_rises, fd_rises, F_rises, m_rises, k_rises⟩ := made_fun (w := w) X G q_rises
  have b_rises := F_rises.binds (ps := ["things"]) fun _ _ _ _ _ _ us hl => match us, hl with | [_], _ => rfl
  obtain ⟨f_is_lot, fd_is_lot, F_is_lot, m_is_lot, k_is_lot⟩ := made_fun (w := w) X G q_is_lot
  have b_is_lot := F_is_lot.binds (ps := ["thing"]) fun _ _ _ _ _ _ us hl => match us, hl with | [_], _ => rfl
  obtain ⟨f_is_blind_pair, fd_is_blind_pair, F_is_blind_pair, m_is_blind_pair, k_is_blind_pair⟩ := made_fun (w := w) X G q_is_blind_pair
  have b_is_blind_pair := F_is_blind_pair.binds (ps := ["hours", "rows", "thing"]) fun _ _ _ _ _ _ us hl => match us, hl with | [_, _, _], _ => rfl
  obtain ⟨f_check_same, fd_check_same, F_check_same, m_check_same, k_check_same⟩ := made_fun (w := w) X G q_check_same
  have b_check_same := F_check_same.binds (ps := ["one", "other"]) fun _ _ _ _ _ _ us hl => match us, hl with | [_, _], _ => rfl
  obtain ⟨f_differences, fd_differences, F_differences, m_differences, k_differences⟩ := made_fun (w := w) X G q_differences
  have b_differences := F_differences.binds (ps := ["one", "other"]) fun _ _ _ _ _ _ us hl => match us, hl with | [_, _], _ => rfl
  obtain ⟨f_compare, fd_compare, F_compare, m_compare, k_compare⟩ := made_fun (w := w) X G q_compare
  have b_compare := F_compare.binds (ps := ["one", "other"]) fun _ _ _ _ _ _ us hl => match us, hl with | [_, _], _ => rfl
  obtain ⟨f_over, fd_over, F_over, m_over, k_over⟩ := made_fun (w := w) X G q_over
  have b_over := F_over.binds (ps := ["one", "other"]) fun _ _ _ _ _ _ us hl => match us, hl with | [_, _], _ => rfl
  obtain ⟨f_law_pair_right, fd_law_pair_right, F_law_pair_right, m_law_pair_right, k_law_pair_right⟩ := made_fun (w := w) X G q_law_pair_right
  have b_law_pair_right := F_law_pair_right.binds (ps := ["_law_mine_so", "_law_its_so"]) fun _ _ _ _ _ _ us hl => match us, hl with | [_, _], _ => rfl
  obtain ⟨f_behind, fd_behind, F_behind, m_behind, k_behind⟩ := made_fun (w := w) X G q_behind
  have b_behind := F_behind.binds (ps := ["lot"]) fun _ _ _ _ _ _ us hl => match us, hl with | [_], _ => rfl
  obtain ⟨f_law_fees_right, fd_law_fees_right, F_law_fees_right, m_law_fees_right, k_law_fees_right⟩ := made_fun (w := w) X G q_law_fees_right
  have b_law_fees_right := F_law_fees_right.binds (ps := ["_law_lot_so", "_law_fees_so"]) fun _ _ _ _ _ _ us hl => match us, hl with | [_, _], _ => rfl
  obtain ⟨f_law_spans, fd_law_spans, F_law_spans, m_law_spans, k_law_spans⟩ := made_fun (w := w) X G q_law_spans
  have b_law_spans := F_law_spans.binds (ps := ["_law_size_so"]) fun _ _ _ _ _ _ us hl => match us, hl with | [_], _ => rfl
  obtain ⟨f_law_by_hand_right, fd_law_by_hand_right, F_law_by_hand_right, m_law_by_hand_right, k_law_by_hand_right⟩ := made_fun (w := w) X G q_law_by_hand_right
  have b_law_by_hand_right := F_law_by_hand_right.binds (ps := []) fun _ _ _ _ _ _ us hl => match us, hl with | [], _ => rfl
  obtain ⟨f_law_cells, fd_law_cells, F_law_cells, m_law_cells, k_law_cells⟩ := made_fun (w := w) X G q_law_cells
  have b_law_cells := F_law_cells.binds (ps := ["_law_script", "_law_most_so"]) fun _ _ _ _ _ _ us hl => match us, hl with | [_, _], _ => rfl
  obtain ⟨f_law_box, fd_law_box, F_law_box, m_law_box, k_law_box⟩ := made_fun (w := w) X G q_law_box
  have b_law_box := F_law_box.binds (ps := ["_law_script", "_law_k"]) fun _ _ _ _ _ _ us hl => match us, hl with | [_, _], _ => rfl
  obtain ⟨f_law_take, fd_law_take, F_law_take, m_law_take, k_law_take⟩ := made_fun (w := w) X G q_law_take
  have b_law_take := F_law_take.binds (ps := ["_law_box_here", "_law_below_so"]) fun _ _ _ _ _ _ us hl => match us, hl with | [_, _], _ => rfl
  obtain ⟨f_law_of, fd_law_of, F_law_of, m_law_of, k_law_of⟩ := made_fun (w := w) X G q_law_of
  have b_law_of := F_law_of.binds (ps := ["_law_box_here", "_law_pool_so"]) fun _ _ _ _ _ _ us hl => match us, hl with | [_, _], _ => rfl
  obtain ⟨f_law_great, fd_law_great, F_law_great, m_law_great, k_law_great⟩ := made_fun (w := w) X G q_law_great
  have b_law_great := F_law_great.binds (ps := ["_law_box_here", "_law_size_so"]) fun _ _ _ _ _ _ us hl => match us, hl with | [_, _], _ => rfl
  obtain ⟨f_law_lot, fd_law_lot, F_law_lot, m_law_lot, k_law_lot⟩ := made_fun (w := w) X G q_law_lot
  have b_law_lot := F_law_lot.binds (ps := ["_law_box_here", "_law_size_so", "_law_top_so"]) fun _ _ _ _ _ _ us hl => match us, hl with | [_, _, _], _ => rfl
  obtain ⟨f_law_table, fd_law_table, F_law_table, m_law_table, k_law_table⟩ := made_fun (w := w) X G q_law_table
  have b_law_table := F_law_table.binds (ps := ["_law_lot_so"]) fun _ _ _ _ _ _ us hl => match us, hl with | [_], _ => rfl
  obtain ⟨f_law_made, fd_law_made, F_law_made, m_law_made, k_law_made⟩ := made_fun (w := w) X G q_law_made
  have b_law_made := F_law_made.binds (ps := ["_law_size_so", "_law_table_so"]) fun _ _ _ _ _ _ us hl => match us, hl with | [_, _], _ => rfl
  obtain ⟨f_law_moved, fd_law_moved, F_law_moved, m_law_moved, k_law_moved⟩ := made_fun (w := w) X G q_law_moved
  have b_law_moved := F_law_moved.binds (ps := ["_law_box_here", "_law_lot_so", "_law_laps_so"]) fun _ _ _ _ _ _ us hl => match us, hl with | [_, _, _], _ => rfl
  obtain ⟨f_law_hands, fd_law_hands, F_law_hands, m_law_hands, k_law_hands⟩ := made_fun (w := w) X G q_law_hands
  have b_law_hands := F_law_hands.binds (ps := ["_law_box_here", "_law_size_so", "_law_top_so"]) fun _ _ _ _ _ _ us hl => match us, hl with | [_, _, _], _ => rfl
  obtain ⟨f_law_right, fd_law_right, F_law_right, m_law_right, k_law_right⟩ := made_fun (w := w) X G q_law_right
  have b_law_right := F_law_right.binds (ps := ["_law_box_here"]) fun _ _ _ _ _ _ us hl => match us, hl with | [_], _ => rfl
  obtain ⟨f_law, oc_law, od_law, kV_law, dc_law, pm_law, an_law, cd_law, ct_law, sl_law, a_law, l_law, c_law, k_law⟩ := q_law
  have F_law := fun_mk (st := s_law) l_law c_law k_law
  have m_law := PySem.W.mg_of X G a_law
  have e := hfa.symm.trans m_law
  cases e
  refine ⟨PySem.W.fnOf "law" "law" (defArgs s_law) (defBody s_law) (defScope s_law) .none kV_law dc_law pm_law an_law cd_law ct_law, fun s v => .of_eq rfl, fun base _ _ => ?_⟩
  have G_all_work := ok_all_work (P := l.prog) (w := w) (base := base) tp  F_all_work
  have G_fewest_rows := ok_fewest_rows (P := l.prog) (w := w) (base := base) tp  F_fewest_rows
  have G_all_stretches := ok_all_stretches (P := l.prog) (w := w) (base := base) tp  F_all_stretches
  have G_spans_in_row := ok_spans_in_row (P := l.prog) (w := w) (base := base) tp ⟨f_all_stretches, _, G_all_stretches, m_all_stretches, k_all_stretches, b_all_stretches⟩ F_spans_in_row
  have G_powers := ok_powers (P := l.prog) (w := w) (base := base) tp  F_powers
  have G_beside := ok_beside (P := l.prog) (w := w) (base := base) tp  F_beside
  have G_weight_of := ok_weight_of (P := l.prog) (w := w) (base := base) tp ⟨f_beside, _, G_beside, m_beside, k_beside, b_beside⟩ F_weight_of
  have G_weights_of := ok_weights_of (P := l.prog) (w := w) (base := base) tp ⟨f_all_stretches, _, G_all_stretches, m_all_stretches, k_all_stretches, b_all_stretches⟩ ⟨f_weight_of, _, G_weight_of, m_weight_of, k_weight_of, b_weight_of⟩ F_weights_of
  have G_prices_of := ok_prices_of (P := l.prog) (w := w) (base := base) tp ⟨f_weights_of, _, G_weights_of, m_weights_of, k_weights_of, b_weights_of⟩ F_prices_of
  have G_telling_rows := ok_telling_rows (P := l.prog) (w := w) (base := base) tp ⟨f_fewest_rows, _, G_fewest_rows, m_fewest_rows, k_fewest_rows, b_fewest_rows⟩ ⟨f_spans_in_row, _, G_spans_in_row, m_spans_in_row, k_spans_in_row, b_spans_in_row⟩ ⟨f_powers, _, G_powers, m_powers, k_powers, b_powers⟩ ⟨f_prices_of, _, G_prices_of, m_prices_of, k_prices_of, b_prices_of⟩ F_telling_rows
  have G_check_fit := ok_check_fit (P := l.prog) (w := w) (base := base) tp  F_check_fit
  have G_cheapest := ok_cheapest (P := l.prog) (w := w) (base := base) tp ⟨f_check_fit, _, G_check_fit, m_check_fit, k_check_fit, b_check_fit⟩ F_cheapest
  have G_bills_of := ok_bills_of (P := l.prog) (w := w) (base := base) tp ⟨f_cheapest, _, G_cheapest, m_cheapest, k_cheapest, b_cheapest⟩ F_bills_of
  have G_figures_of := ok_figures_of (P := l.prog) (w := w) (base := base) tp  F_figures_of
  have G_singles := ok_singles (P := l.prog) (w := w) (base := base) tp ⟨f_all_stretches, _, G_all_stretches, m_all_stretches, k_all_stretches, b_all_stretches⟩ F_singles
  have G_lot_of := ok_lot_of (P := l.prog) (w := w) (base := base) tp ⟨f_singles, _, G_singles, m_singles, k_singles, b_singles⟩ ⟨f_all_stretches, _, G_all_stretches, m_all_stretches, k_all_stretches, b_all_stretches⟩ F_lot_of
  have G_lot_by_bills := ok_lot_by_bills (P := l.prog) (w := w) (base := base) tp ⟨f_spans_in_row, _, G_spans_in_row, m_spans_in_row, k_spans_in_row, b_spans_in_row⟩ ⟨f_figures_of, _, G_figures_of, m_figures_of, k_figures_of, b_figures_of⟩ ⟨f_all_stretches, _, G_all_stretches, m_all_stretches, k_all_stretches, b_all_stretches⟩ ⟨f_lot_of, _, G_lot_of, m_lot_of, k_lot_of, b_lot_of⟩ F_lot_by_bills
  have G_law_same := ok_law_same (P := l.prog) (w := w) (base := base) tp F_law_same m_law_same b_law_same 8
  have G_check_stretch := ok_check_stretch (P := l.prog) (w := w) (base := base) tp  F_check_stretch
  have G_lies_within := ok_lies_within (P := l.prog) (w := w) (base := base) tp  F_lies_within
  have G_asked := ok_asked (P := l.prog) (w := w) (base := base) tp ⟨f_check_stretch, _, G_check_stretch, m_check_stretch, k_check_stretch, b_check_stretch⟩ ⟨f_lies_within, _, G_lies_within, m_lies_within, k_lies_within, b_lies_within⟩ F_asked
  have G_table_of := ok_table_of (P := l.prog) (w := w) (base := base) tp ⟨f_all_stretches, _, G_all_stretches, m_all_stretches, k_all_stretches, b_all_stretches⟩ ⟨f_asked, _, G_asked, m_asked, k_asked, b_asked⟩ F_table_of
  have G_check_rows := ok_check_rows (P := l.prog) (w := w) (base := base) tp  F_check_rows
  have G_seen := ok_seen (P := l.prog) (w := w) (base := base) tp ⟨f_weights_of, _, G_weights_of, m_weights_of, k_weights_of, b_weights_of⟩ F_seen
  have G_unseen := ok_unseen (P := l.prog) (w := w) (base := base) tp ⟨f_check_rows, _, G_check_rows, m_check_rows, k_check_rows, b_check_rows⟩ ⟨f_seen, _, G_seen, m_seen, k_seen, b_seen⟩ ⟨f_all_stretches, _, G_all_stretches, m_all_stretches, k_all_stretches, b_all_stretches⟩ F_unseen
  have G_made_lot := ok_made_lot (P := l.prog) (w := w) (base := base) tp ⟨f_check_stretch, _, G_check_stretch, m_check_stretch, k_check_stretch, b_check_stretch⟩ F_made_lot
  have G_pair_at := ok_pair_at (P := l.prog) (w := w) (base := base) tp ⟨f_made_lot, _, G_made_lot, m_made_lot, k_made_lot, b_made_lot⟩ F_pair_at
  have G_blind_pair := ok_blind_pair (P := l.prog) (w := w) (base := base) tp ⟨f_unseen, _, G_unseen, m_unseen, k_unseen, b_unseen⟩ ⟨f_pair_at, _, G_pair_at, m_pair_at, k_pair_at, b_pair_at⟩ F_blind_pair
  have G_is_number := ok_is_number (P := l.prog) (w := w) (base := base) tp  F_is_number
  have G_are_numbers := ok_are_numbers (P := l.prog) (w := w) (base := base) tp ⟨f_is_number, _, G_is_number, m_is_number, k_is_number, b_is_number⟩ F_are_numbers
  have G_is_errand := ok_is_errand (P := l.prog) (w := w) (base := base) tp ⟨f_is_number, _, G_is_number, m_is_number, k_is_number, b_is_number⟩ ⟨f_are_numbers, _, G_are_numbers, m_are_numbers, k_are_numbers, b_are_numbers⟩ F_is_errand
  have G_rises := ok_rises (P := l.prog) (w := w) (base := base) tp  F_rises
  have G_is_lot := ok_is_lot (P := l.prog) (w := w) (base := base) tp ⟨f_is_number, _, G_is_number, m_is_number, k_is_number, b_is_number⟩ ⟨f_is_errand, _, G_is_errand, m_is_errand, k_is_errand, b_is_errand⟩ ⟨f_rises, _, G_rises, m_rises, k_rises, b_rises⟩ F_is_lot
  have G_is_blind_pair := ok_is_blind_pair (P := l.prog) (w := w) (base := base) tp ⟨f_check_rows, _, G_check_rows, m_check_rows, k_check_rows, b_check_rows⟩ ⟨f_is_lot, _, G_is_lot, m_is_lot, k_is_lot, b_is_lot⟩ ⟨f_bills_of, _, G_bills_of, m_bills_of, k_bills_of, b_bills_of⟩ F_is_blind_pair
  have G_check_same := ok_check_same (P := l.prog) (w := w) (base := base) tp  F_check_same
  have G_differences := ok_differences (P := l.prog) (w := w) (base := base) tp ⟨f_check_same, _, G_check_same, m_check_same, k_check_same, b_check_same⟩ ⟨f_all_stretches, _, G_all_stretches, m_all_stretches, k_all_stretches, b_all_stretches⟩ ⟨f_table_of, _, G_table_of, m_table_of, k_table_of, b_table_of⟩ F_differences
  have G_compare := ok_compare (P := l.prog) (w := w) (base := base) tp ⟨f_differences, _, G_differences, m_differences, k_differences, b_differences⟩ F_compare
  have G_over := ok_over (P := l.prog) (w := w) (base := base) tp ⟨f_differences, _, G_differences, m_differences, k_differences, b_differences⟩ F_over
  have G_law_pair_right := ok_law_pair_right (P := l.prog) (w := w) (base := base) tp ⟨f_all_work, _, G_all_work, m_all_work, k_all_work, b_all_work⟩ ⟨f_telling_rows, _, G_telling_rows, m_telling_rows, k_telling_rows, b_telling_rows⟩ ⟨f_bills_of, _, G_bills_of, m_bills_of, k_bills_of, b_bills_of⟩ ⟨f_lot_by_bills, _, G_lot_by_bills, m_lot_by_bills, k_lot_by_bills, b_lot_by_bills⟩ ⟨f_law_same, _, G_law_same, m_law_same, k_law_same, b_law_same⟩ ⟨f_table_of, _, G_table_of, m_table_of, k_table_of, b_table_of⟩ ⟨f_lot_of, _, G_lot_of, m_lot_of, k_lot_of, b_lot_of⟩ ⟨f_unseen, _, G_unseen, m_unseen, k_unseen, b_unseen⟩ ⟨f_blind_pair, _, G_blind_pair, m_blind_pair, k_blind_pair, b_blind_pair⟩ ⟨f_is_blind_pair, _, G_is_blind_pair, m_is_blind_pair, k_is_blind_pair, b_is_blind_pair⟩ ⟨f_fewest_rows, _, G_fewest_rows, m_fewest_rows, k_fewest_rows, b_fewest_rows⟩ ⟨f_compare, _, G_compare, m_compare, k_compare, b_compare⟩ ⟨f_over, _, G_over, m_over, k_over, b_over⟩ F_law_pair_right
  have G_behind := ok_behind (P := l.prog) (w := w) (base := base) tp ⟨f_made_lot, _, G_made_lot, m_made_lot, k_made_lot, b_made_lot⟩ F_behind
  have G_law_fees_right := ok_law_fees_right (P := l.prog) (w := w) (base := base) tp ⟨f_weights_of, _, G_weights_of, m_weights_of, k_weights_of, b_weights_of⟩ ⟨f_asked, _, G_asked, m_asked, k_asked, b_asked⟩ ⟨f_prices_of, _, G_prices_of, m_prices_of, k_prices_of, b_prices_of⟩ ⟨f_seen, _, G_seen, m_seen, k_seen, b_seen⟩ ⟨f_bills_of, _, G_bills_of, m_bills_of, k_bills_of, b_bills_of⟩ ⟨f_cheapest, _, G_cheapest, m_cheapest, k_cheapest, b_cheapest⟩ ⟨f_behind, _, G_behind, m_behind, k_behind, b_behind⟩ ⟨f_all_stretches, _, G_all_stretches, m_all_stretches, k_all_stretches, b_all_stretches⟩ ⟨f_unseen, _, G_unseen, m_unseen, k_unseen, b_unseen⟩ ⟨f_law_same, _, G_law_same, m_law_same, k_law_same, b_law_same⟩ F_law_fees_right
  have G_law_spans := ok_law_spans (P := l.prog) (w := w) (base := base) tp  F_law_spans
  have G_law_by_hand_right := ok_law_by_hand_right (P := l.prog) (w := w) (base := base) tp ⟨f_law_pair_right, _, G_law_pair_right, m_law_pair_right, k_law_pair_right, b_law_pair_right⟩ ⟨f_law_fees_right, _, G_law_fees_right, m_law_fees_right, k_law_fees_right, b_law_fees_right⟩ ⟨f_law_spans, _, G_law_spans, m_law_spans, k_law_spans, b_law_spans⟩ F_law_by_hand_right
  have G_law_cells := ok_law_cells (P := l.prog) (w := w) (base := base) tp  F_law_cells
  have G_law_box := ok_law_box (P := l.prog) (w := w) (base := base) tp  F_law_box
  have G_law_take := ok_law_take (P := l.prog) (w := w) (base := base) tp  F_law_take
  have G_law_of := ok_law_of (P := l.prog) (w := w) (base := base) tp ⟨f_law_take, _, G_law_take, m_law_take, k_law_take, b_law_take⟩ F_law_of
  have G_law_great := ok_law_great (P := l.prog) (w := w) (base := base) tp ⟨f_law_spans, _, G_law_spans, m_law_spans, k_law_spans, b_law_spans⟩ ⟨f_law_of, _, G_law_of, m_law_of, k_law_of, b_law_of⟩ ⟨f_law_take, _, G_law_take, m_law_take, k_law_take, b_law_take⟩ F_law_great
  have G_law_lot := ok_law_lot (P := l.prog) (w := w) (base := base) tp ⟨f_law_take, _, G_law_take, m_law_take, k_law_take, b_law_take⟩ ⟨f_law_spans, _, G_law_spans, m_law_spans, k_law_spans, b_law_spans⟩ F_law_lot
  have G_law_table := ok_law_table (P := l.prog) (w := w) (base := base) tp ⟨f_law_spans, _, G_law_spans, m_law_spans, k_law_spans, b_law_spans⟩ F_law_table
  have G_law_made := ok_law_made (P := l.prog) (w := w) (base := base) tp  F_law_made
  have G_law_moved := ok_law_moved (P := l.prog) (w := w) (base := base) tp ⟨f_law_table, _, G_law_table, m_law_table, k_law_table, b_law_table⟩ ⟨f_law_take, _, G_law_take, m_law_take, k_law_take, b_law_take⟩ ⟨f_law_spans, _, G_law_spans, m_law_spans, k_law_spans, b_law_spans⟩ ⟨f_law_of, _, G_law_of, m_law_of, k_law_of, b_law_of⟩ ⟨f_law_made, _, G_law_made, m_law_made, k_law_made, b_law_made⟩ F_law_moved
  have G_law_hands := ok_law_hands (P := l.prog) (w := w) (base := base) tp ⟨f_law_take, _, G_law_take, m_law_take, k_law_take, b_law_take⟩ F_law_hands
  have G_law_right := ok_law_right (P := l.prog) (w := w) (base := base) tp ⟨f_law_take, _, G_law_take, m_law_take, k_law_take, b_law_take⟩ ⟨f_law_great, _, G_law_great, m_law_great, k_law_great, b_law_great⟩ ⟨f_law_lot, _, G_law_lot, m_law_lot, k_law_lot, b_law_lot⟩ ⟨f_law_moved, _, G_law_moved, m_law_moved, k_law_moved, b_law_moved⟩ ⟨f_law_pair_right, _, G_law_pair_right, m_law_pair_right, k_law_pair_right, b_law_pair_right⟩ ⟨f_law_of, _, G_law_of, m_law_of, k_law_of, b_law_of⟩ ⟨f_law_hands, _, G_law_hands, m_law_hands, k_law_hands, b_law_hands⟩ ⟨f_law_fees_right, _, G_law_fees_right, m_law_fees_right, k_law_fees_right, b_law_fees_right⟩ F_law_right
  have G_law := ok_law (P := l.prog) (w := w) (base := base) tp ⟨f_law_by_hand_right, _, G_law_by_hand_right, m_law_by_hand_right, k_law_by_hand_right, b_law_by_hand_right⟩ ⟨f_law_cells, _, G_law_cells, m_law_cells, k_law_cells, b_law_cells⟩ ⟨f_law_box, _, G_law_box, m_law_box, k_law_box, b_law_box⟩ ⟨f_law_right, _, G_law_right, m_law_right, k_law_right, b_law_right⟩ F_law
  exact G_law
theorem rps_int {K : PySem.W.Frag} {H : Hp} : ∀ ns : List Int, Rps K H (ns.map V.int) (ns.map Dt.int)
  | [] => .nil
  | n :: ns => .cons (.int n) (rps_int ns)
end S67

open PySem PySem.W PyProof.Rows
set_option maxHeartbeats 0 in
theorem PySem.Challenge.cw_anyhands_k67_whole_bills_beside_tables_holds : PySem.Challenge.rw_anyhands_k67_whole_bills_beside_tables.Holds := by
  w_on; o_law; k_head; (case hw => w_witness2)
  k_fill
  refine L2.walk_of (l := PySem.Challenge.rw_anyhands_k67_whole_bills_beside_tables) (n := 63) (k := 12) (x := "_law_script") (CX := fun _ => L2.CX0) (sp := fun w => S67.spP _ 1 S67.F_law) rfl (by decide) rfl ⟨rfl, by decide, by decide⟩ (fun w h Y => PySem.W.kIn_of Y) ?F
    (fun _ _ a ns hl _ hS => ⟨[.l .ro (ns.map .int)], _, rfl, S67.law_true ns hl, .cons ⟨a, _, rfl, hS, S67.rps_int ns⟩ .nil, fun v H' _ hv => by cases hv; rfl⟩) (fun _ _ _ _ _ h => h)
  case F =>
    intro w mg fa h KX G hmg
    refine S67.law_end KX G hmg ?tp ?q_all_work ?q_fewest_rows ?q_all_stretches ?q_spans_in_row ?q_powers ?q_beside ?q_weight_of ?q_weights_of ?q_prices_of ?q_telling_rows ?q_check_fit ?q_cheapest ?q_bills_of ?q_figures_of ?q_singles ?q_lot_of ?q_lot_by_bills ?q_law_same ?q_check_stretch ?q_lies_within ?q_asked ?q_table_of ?q_check_rows ?q_seen ?q_unseen ?q_made_lot ?q_pair_at ?q_blind_pair ?q_is_number ?q_are_numbers ?q_is_errand ?q_rises ?q_is_lot ?q_is_blind_pair ?q_check_same ?q_differences ?q_compare ?q_over ?q_law_pair_right ?q_behind ?q_law_fees_right ?q_law_spans ?q_law_by_hand_right ?q_law_cells ?q_law_box ?q_law_take ?q_law_of ?q_law_great ?q_law_lot ?q_law_table ?q_law_made ?q_law_moved ?q_law_hands ?q_law_right ?q_law
    case tp => exact ⟨PySem.W.mg_none_of KX G (by k_is), PySem.W.mg_none_of KX G (by k_is), PySem.W.mg_none_of KX G (by k_is), PySem.W.mg_none_of KX G (by k_is), PySem.W.mg_none_of KX G (by k_is), PySem.W.mg_none_of KX G (by k_is), PySem.W.mg_none_of KX G (by k_is), PySem.W.mg_none_of KX G (by k_is), PySem.W.mg_none_of KX G (by k_is), PySem.W.mg_none_of KX G (by k_is), PySem.W.mg_none_of KX G (by k_is), PySem.W.mg_none_of KX G (by k_is), PySem.W.mg_none_of KX G (by k_is), PySem.W.mg_none_of KX G (by k_is), PySem.W.mg_none_of KX G (by k_is), PySem.W.mg_none_of KX G (by k_is), PySem.W.mg_none_of KX G (by k_is), ⟨_, PySem.W.mg_of KX G (by k_is)⟩⟩
    case q_all_work => refine ⟨?_, ?_, ?_, ?_, ?_, ?_, ?_, ?_, ?_, ?_, ?a, ?l, ?c, ?k⟩; (case a => first | k_is | rfl); (case l => first | k_is | rfl); (case c => first | k_is | rfl); (case k => first | k_is | rfl)
    case q_fewest_rows => refine ⟨?_, ?_, ?_, ?_, ?_, ?_, ?_, ?_, ?_, ?_, ?a, ?l, ?c, ?k⟩; (case a => first | k_is | rfl); (case l => first | k_is | rfl); (case c => first | k_is | rfl); (case k => first | k_is | rfl)
    case q_all_stretches => refine ⟨?_, ?_, ?_, ?_, ?_, ?_, ?_, ?_, ?_, ?_, ?a, ?l, ?c, ?k⟩; (case a => first | k_is | rfl); (case l => first | k_is | rfl); (case c => first | k_is | rfl); (case k => first | k_is | rfl)
    case q_spans_in_row => refine ⟨?_, ?_, ?_, ?_, ?_, ?_, ?_, ?_, ?_, ?_, ?a, ?l, ?c, ?k⟩; (case a => first | k_is | rfl); (case l => first | k_is | rfl); (case c => first | k_is | rfl); (case k => first | k_is | rfl)
    case q_powers => refine ⟨?_, ?_, ?_, ?_, ?_, ?_, ?_, ?_, ?_, ?_, ?a, ?l, ?c, ?k⟩; (case a => first | k_is | rfl); (case l => first | k_is | rfl); (case c => first | k_is | rfl); (case k => first | k_is | rfl)
    case q_beside => refine ⟨?_, ?_, ?_, ?_, ?_, ?_, ?_, ?_, ?_, ?_, ?a, ?l, ?c, ?k⟩; (case a => first | k_is | rfl); (case l => first | k_is | rfl); (case c => first | k_is | rfl); (case k => first | k_is | rfl)
    case q_weight_of => refine ⟨?_, ?_, ?_, ?_, ?_, ?_, ?_, ?_, ?_, ?_, ?a, ?l, ?c, ?k⟩; (case a => first | k_is | rfl); (case l => first | k_is | rfl); (case c => first | k_is | rfl); (case k => first | k_is | rfl)
    case q_weights_of => refine ⟨?_, ?_, ?_, ?_, ?_, ?_, ?_, ?_, ?_, ?_, ?a, ?l, ?c, ?k⟩; (case a => first | k_is | rfl); (case l => first | k_is | rfl); (case c => first | k_is | rfl); (case k => first | k_is | rfl)
    case q_prices_of => refine ⟨?_, ?_, ?_, ?_, ?_, ?_, ?_, ?_, ?_, ?_, ?a, ?l, ?c, ?k⟩; (case a => first | k_is | rfl); (case l => first | k_is | rfl); (case c => first | k_is | rfl); (case k => first | k_is | rfl)
    case q_telling_rows => refine ⟨?_, ?_, ?_, ?_, ?_, ?_, ?_, ?_, ?_, ?_, ?a, ?l, ?c, ?k⟩; (case a => first | k_is | rfl); (case l => first | k_is | rfl); (case c => first | k_is | rfl); (case k => first | k_is | rfl)
    case q_check_fit => refine ⟨?_, ?_, ?_, ?_, ?_, ?_, ?_, ?_, ?_, ?_, ?a, ?l, ?c, ?k⟩; (case a => first | k_is | rfl); (case l => first | k_is | rfl); (case c => first | k_is | rfl); (case k => first | k_is | rfl)
    case q_cheapest => refine ⟨?_, ?_, ?_, ?_, ?_, ?_, ?_, ?_, ?_, ?_, ?a, ?l, ?c, ?k⟩; (case a => first | k_is | rfl); (case l => first | k_is | rfl); (case c => first | k_is | rfl); (case k => first | k_is | rfl)
    case q_bills_of => refine ⟨?_, ?_, ?_, ?_, ?_, ?_, ?_, ?_, ?_, ?_, ?a, ?l, ?c, ?k⟩; (case a => first | k_is | rfl); (case l => first | k_is | rfl); (case c => first | k_is | rfl); (case k => first | k_is | rfl)
    case q_figures_of => refine ⟨?_, ?_, ?_, ?_, ?_, ?_, ?_, ?_, ?_, ?_, ?a, ?l, ?c, ?k⟩; (case a => first | k_is | rfl); (case l => first | k_is | rfl); (case c => first | k_is | rfl); (case k => first | k_is | rfl)
    case q_singles => refine ⟨?_, ?_, ?_, ?_, ?_, ?_, ?_, ?_, ?_, ?_, ?a, ?l, ?c, ?k⟩; (case a => first | k_is | rfl); (case l => first | k_is | rfl); (case c => first | k_is | rfl); (case k => first | k_is | rfl)
    case q_lot_of => refine ⟨?_, ?_, ?_, ?_, ?_, ?_, ?_, ?_, ?_, ?_, ?a, ?l, ?c, ?k⟩; (case a => first | k_is | rfl); (case l => first | k_is | rfl); (case c => first | k_is | rfl); (case k => first | k_is | rfl)
    case q_lot_by_bills => refine ⟨?_, ?_, ?_, ?_, ?_, ?_, ?_, ?_, ?_, ?_, ?a, ?l, ?c, ?k⟩; (case a => first | k_is | rfl); (case l => first | k_is | rfl); (case c => first | k_is | rfl); (case k => first | k_is | rfl)
    case q_law_same => refine ⟨?_, ?_, ?_, ?_, ?_, ?_, ?_, ?_, ?_, ?_, ?a, ?l, ?c, ?k⟩; (case a => first | k_is | rfl); (case l => first | k_is | rfl); (case c => first | k_is | rfl); (case k => first | k_is | rfl)
    case q_check_stretch => refine ⟨?_, ?_, ?_, ?_, ?_, ?_, ?_, ?_, ?_, ?_, ?a, ?l, ?c, ?k⟩; (case a => first | k_is | rfl); (case l => first | k_is | rfl); (case c => first | k_is | rfl); (case k => first | k_is | rfl)
    case q_lies_within => refine ⟨?_, ?_, ?_, ?_, ?_, ?_, ?_, ?_, ?_, ?_, ?a, ?l, ?c, ?k⟩; (case a => first | k_is | rfl); (case l => first | k_is | rfl); (case c => first | k_is | rfl); (case k => first | k_is | rfl)
    case q_asked => refine ⟨?_, ?_, ?_, ?_, ?_, ?_, ?_, ?_, ?_, ?_, ?a, ?l, ?c, ?k⟩; (case a => first | k_is | rfl); (case l => first | k_is | rfl); (case c => first | k_is | rfl); (case k => first | k_is | rfl)
    case q_table_of => refine ⟨?_, ?_, ?_, ?_, ?_, ?_, ?_, ?_, ?_, ?_, ?a, ?l, ?c, ?k⟩; (case a => first | k_is | rfl); (case l => first | k_is | rfl); (case c => first | k_is | rfl); (case k => first | k_is | rfl)
    case q_check_rows => refine ⟨?_, ?_, ?_, ?_, ?_, ?_, ?_, ?_, ?_, ?_, ?a, ?l, ?c, ?k⟩; (case a => first | k_is | rfl); (case l => first | k_is | rfl); (case c => first | k_is | rfl); (case k => first | k_is | rfl)
    case q_seen => refine ⟨?_, ?_, ?_, ?_, ?_, ?_, ?_, ?_, ?_, ?_, ?a, ?l, ?c, ?k⟩; (case a => first | k_is | rfl); (case l => first | k_is | rfl); (case c => first | k_is | rfl); (case k => first | k_is | rfl)
    case q_unseen => refine ⟨?_, ?_, ?_, ?_, ?_, ?_, ?_, ?_, ?_, ?_, ?a, ?l, ?c, ?k⟩; (case a => first | k_is | rfl); (case l => first | k_is | rfl); (case c => first | k_is | rfl); (case k => first | k_is | rfl)
    case q_made_lot => refine ⟨?_, ?_, ?_, ?_, ?_, ?_, ?_, ?_, ?_, ?_, ?a, ?l, ?c, ?k⟩; (case a => first | k_is | rfl); (case l => first | k_is | rfl); (case c => first | k_is | rfl); (case k => first | k_is | rfl)
    case q_pair_at => refine ⟨?_, ?_, ?_, ?_, ?_, ?_, ?_, ?_, ?_, ?_, ?a, ?l, ?c, ?k⟩; (case a => first | k_is | rfl); (case l => first | k_is | rfl); (case c => first | k_is | rfl); (case k => first | k_is | rfl)
    case q_blind_pair => refine ⟨?_, ?_, ?_, ?_, ?_, ?_, ?_, ?_, ?_, ?_, ?a, ?l, ?c, ?k⟩; (case a => first | k_is | rfl); (case l => first | k_is | rfl); (case c => first | k_is | rfl); (case k => first | k_is | rfl)
    case q_is_number => refine ⟨?_, ?_, ?_, ?_, ?_, ?_, ?_, ?_, ?_, ?_, ?a, ?l, ?c, ?k⟩; (case a => first | k_is | rfl); (case l => first | k_is | rfl); (case c => first | k_is | rfl); (case k => first | k_is | rfl)
    case q_are_numbers => refine ⟨?_, ?_, ?_, ?_, ?_, ?_, ?_, ?_, ?_, ?_, ?a, ?l, ?c, ?k⟩; (case a => first | k_is | rfl); (case l => first | k_is | rfl); (case c => first | k_is | rfl); (case k => first | k_is | rfl)
    case q_is_errand => refine ⟨?_, ?_, ?_, ?_, ?_, ?_, ?_, ?_, ?_, ?_, ?a, ?l, ?c, ?k⟩; (case a => first | k_is | rfl); (case l => first | k_is | rfl); (case c => first | k_is | rfl); (case k => first | k_is | rfl)
    case q_rises => refine ⟨?_, ?_, ?_, ?_, ?_, ?_, ?_, ?_, ?_, ?_, ?a, ?l, ?c, ?k⟩; (case a => first | k_is | rfl); (case l => first | k_is | rfl); (case c => first | k_is | rfl); (case k => first | k_is | rfl)
    case q_is_lot => refine ⟨?_, ?_, ?_, ?_, ?_, ?_, ?_, ?_, ?_, ?_, ?a, ?l, ?c, ?k⟩; (case a => first | k_is | rfl); (case l => first | k_is | rfl); (case c => first | k_is | rfl); (case k => first | k_is | rfl)
    case q_is_blind_pair => refine ⟨?_, ?_, ?_, ?_, ?_, ?_, ?_, ?_, ?_, ?_, ?a, ?l, ?c, ?k⟩; (case a => first | k_is | rfl); (case l => first | k_is | rfl); (case c => first | k_is | rfl); (case k => first | k_is | rfl)
    case q_check_same => refine ⟨?_, ?_, ?_, ?_, ?_, ?_, ?_, ?_, ?_, ?_, ?a, ?l, ?c, ?k⟩; (case a => first | k_is | rfl); (case l => first | k_is | rfl); (case c => first | k_is | rfl); (case k => first | k_is | rfl)
    case q_differences => refine ⟨?_, ?_, ?_, ?_, ?_, ?_, ?_, ?_, ?_, ?_, ?a, ?l, ?c, ?k⟩; (case a => first | k_is | rfl); (case l => first | k_is | rfl); (case c => first | k_is | rfl); (case k => first | k_is | rfl)
    case q_compare => refine ⟨?_, ?_, ?_, ?_, ?_, ?_, ?_, ?_, ?_, ?_, ?a, ?l, ?c, ?k⟩; (case a => first | k_is | rfl); (case l => first | k_is | rfl); (case c => first | k_is | rfl); (case k => first | k_is | rfl)
    case q_over => refine ⟨?_, ?_, ?_, ?_, ?_, ?_, ?_, ?_, ?_, ?_, ?a, ?l, ?c, ?k⟩; (case a => first | k_is | rfl); (case l => first | k_is | rfl); (case c => first | k_is | rfl); (case k => first | k_is | rfl)
    case q_law_pair_right => refine ⟨?_, ?_, ?_, ?_, ?_, ?_, ?_, ?_, ?_, ?_, ?a, ?l, ?c, ?k⟩; (case a => first | k_is | rfl); (case l => first | k_is | rfl); (case c => first | k_is | rfl); (case k => first | k_is | rfl)
    case q_behind => refine ⟨?_, ?_, ?_, ?_, ?_, ?_, ?_, ?_, ?_, ?_, ?a, ?l, ?c, ?k⟩; (case a => first | k_is | rfl); (case l => first | k_is | rfl); (case c => first | k_is | rfl); (case k => first | k_is | rfl)
    case q_law_fees_right => refine ⟨?_, ?_, ?_, ?_, ?_, ?_, ?_, ?_, ?_, ?_, ?a, ?l, ?c, ?k⟩; (case a => first | k_is | rfl); (case l => first | k_is | rfl); (case c => first | k_is | rfl); (case k => first | k_is | rfl)
    case q_law_spans => refine ⟨?_, ?_, ?_, ?_, ?_, ?_, ?_, ?_, ?_, ?_, ?a, ?l, ?c, ?k⟩; (case a => first | k_is | rfl); (case l => first | k_is | rfl); (case c => first | k_is | rfl); (case k => first | k_is | rfl)
    case q_law_by_hand_right => refine ⟨?_, ?_, ?_, ?_, ?_, ?_, ?_, ?_, ?_, ?_, ?a, ?l, ?c, ?k⟩; (case a => first | k_is | rfl); (case l => first | k_is | rfl); (case c => first | k_is | rfl); (case k => first | k_is | rfl)
    case q_law_cells => refine ⟨?_, ?_, ?_, ?_, ?_, ?_, ?_, ?_, ?_, ?_, ?a, ?l, ?c, ?k⟩; (case a => first | k_is | rfl); (case l => first | k_is | rfl); (case c => first | k_is | rfl); (case k => first | k_is | rfl)
    case q_law_box => refine ⟨?_, ?_, ?_, ?_, ?_, ?_, ?_, ?_, ?_, ?_, ?a, ?l, ?c, ?k⟩; (case a => first | k_is | rfl); (case l => first | k_is | rfl); (case c => first | k_is | rfl); (case k => first | k_is | rfl)
    case q_law_take => refine ⟨?_, ?_, ?_, ?_, ?_, ?_, ?_, ?_, ?_, ?_, ?a, ?l, ?c, ?k⟩; (case a => first | k_is | rfl); (case l => first | k_is | rfl); (case c => first | k_is | rfl); (case k => first | k_is | rfl)
    case q_law_of => refine ⟨?_, ?_, ?_, ?_, ?_, ?_, ?_, ?_, ?_, ?_, ?a, ?l, ?c, ?k⟩; (case a => first | k_is | rfl); (case l => first | k_is | rfl); (case c => first | k_is | rfl); (case k => first | k_is | rfl)
    case q_law_great => refine ⟨?_, ?_, ?_, ?_, ?_, ?_, ?_, ?_, ?_, ?_, ?a, ?l, ?c, ?k⟩; (case a => first | k_is | rfl); (case l => first | k_is | rfl); (case c => first | k_is | rfl); (case k => first | k_is | rfl)
    case q_law_lot => refine ⟨?_, ?_, ?_, ?_, ?_, ?_, ?_, ?_, ?_, ?_, ?a, ?l, ?c, ?k⟩; (case a => first | k_is | rfl); (case l => first | k_is | rfl); (case c => first | k_is | rfl); (case k => first | k_is | rfl)
    case q_law_table => refine ⟨?_, ?_, ?_, ?_, ?_, ?_, ?_, ?_, ?_, ?_, ?a, ?l, ?c, ?k⟩; (case a => first | k_is | rfl); (case l => first | k_is | rfl); (case c => first | k_is | rfl); (case k => first | k_is | rfl)
    case q_law_made => refine ⟨?_, ?_, ?_, ?_, ?_, ?_, ?_, ?_, ?_, ?_, ?a, ?l, ?c, ?k⟩; (case a => first | k_is | rfl); (case l => first | k_is | rfl); (case c => first | k_is | rfl); (case k => first | k_is | rfl)
    case q_law_moved => refine ⟨?_, ?_, ?_, ?_, ?_, ?_, ?_, ?_, ?_, ?_, ?a, ?l, ?c, ?k⟩; (case a => first | k_is | rfl); (case l => first | k_is | rfl); (case c => first | k_is | rfl); (case k => first | k_is | rfl)
    case q_law_hands => refine ⟨?_, ?_, ?_, ?_, ?_, ?_, ?_, ?_, ?_, ?_, ?a, ?l, ?c, ?k⟩; (case a => first | k_is | rfl); (case l => first | k_is | rfl); (case c => first | k_is | rfl); (case k => first | k_is | rfl)
    case q_law_right => refine ⟨?_, ?_, ?_, ?_, ?_, ?_, ?_, ?_, ?_, ?_, ?a, ?l, ?c, ?k⟩; (case a => first | k_is | rfl); (case l => first | k_is | rfl); (case c => first | k_is | rfl); (case k => first | k_is | rfl)
    case q_law => refine ⟨?_, ?_, ?_, ?_, ?_, ?_, ?_, ?_, ?_, ?_, ?a, ?l, ?c, ?k⟩; (case a => first | k_is | rfl); (case l => first | k_is | rfl); (case c => first | k_is | rfl); (case k => first | k_is | rfl)

