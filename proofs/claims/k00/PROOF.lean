import PyProof.Rows.All
import PySem.PyData
import Wide.All
import OpenK.AllK
import Wide.FinOn
import HandS.ForExc
import HandS.ForMost
import HandS.Wide
import HandS.Deep
import HandS.IsInst
import HandS.Style
import HandS.Zip
import KE.DataMinMax
import KE.SortData
import HandS.ExcInit
import HandS.TryMany
import KE.KExcSuper
import KE.RegKSuper
import HandS.ExcField
import HandS.HeadWalk
import PySem.Challenge.RW_ringweir_k00_division
set_option linter.all false
/-! The plain layer: data, environments by slot, wp-combinators. No program and no heap here. -/
namespace Rw
open PySem

abbrev D := PyData
/-- a slot: not known, a value that never changes, a list (dict) that this def alone holds -/
inductive Sl where
  | un | val (d : D) | own (d : D)
abbrev Ev := List Sl
/-- an exception of the program: its class, its fields (flat values) -/
structure DX where
  cls : String
  fs : List (String × D)
abbrev KD := D → Prop
abbrev KX := DX → Prop
abbrev ET := Ev → KD → KX → Prop
abbrev TT := Ev → (Bool → Prop) → KX → Prop
abbrev AT := Ev → (List D → Prop) → KX → Prop
abbrev GT := D → Ev → (Ev → Prop) → Prop
abbrev DSp := List D → KD → KX → Prop
structure Post where
  nx : Ev → Prop
  rt : D → Prop
  bk : Ev → Prop
  ct : Ev → Prop
  ex : Ev → DX → Prop
abbrev ST := Ev → Post → Prop

/-- the most items of a list -/
abbrev szl : Nat := 16777216

/-- a branch on a Bool -/
def br (c : Bool) (A B : Prop) : Prop := match c with | true => A | false => B
theorem br_of {c : Bool} {A B : Prop} (h1 : c = true → A) (h2 : c = false → B) : br c A B := by
  cases c
  · exact h2 rfl
  · exact h1 rfl
theorem br_dec {p : Prop} [Decidable p] {A B : Prop} (h1 : p → A) (h2 : ¬ p → B) : br (decide p) A B :=
  br_of (fun h => h1 (of_decide_eq_true h)) (fun h => h2 (of_decide_eq_false h))
theorem br_ndec {p : Prop} [Decidable p] {A B : Prop} (h1 : ¬ p → A) (h2 : p → B) : br (!decide p) A B := by
  by_cases h : p
  · rw [decide_eq_true h]; exact h2 h
  · rw [decide_eq_false h]; exact h1 h
theorem br_t {A B : Prop} (h : A) : br true A B := h
theorem br_f {A B : Prop} (h : B) : br false A B := h

/-! ### equality of data, as Python's == (numbers and bools may meet) -/
mutual
def eqv : D → D → Bool
  | .none, .none => true
  | .bool a, .bool b => a == b
  | .bool a, .int j => decide ((if a then 1 else 0) = j)
  | .int i, .bool b => decide (i = (if b then 1 else 0))
  | .int i, .int j => decide (i = j)
  | .str x, .str y => decide (x = y)
  | .list xs, .list ys => eqvs xs ys
  | .tuple xs, .tuple ys => eqvs xs ys
  | _, _ => false
def eqvs : List D → List D → Bool
  | [], [] => true
  | x :: xs, y :: ys => eqv x y && eqvs xs ys
  | _, _ => false
end
/-- the signs of a text are signs of Unicode -/
def strOkD (x : Str) : Bool := x.cps.all fun c => decide (c < 1114112)
mutual
/-- data that == may be asked of: no dicts within -/
def shp : D → Bool
  | .none | .bool _ | .int _ => true
  | .str x => strOkD x
  | .list xs | .tuple xs => shps xs
  | .dict _ => false
def shps : List D → Bool
  | [] => true
  | x :: xs => shp x && shps xs
end
mutual
def dep : D → Nat
  | .list xs | .tuple xs => deps xs + 1
  | .dict _ => 1
  | .none | .bool _ | .int _ | .str _ => 0
def deps : List D → Nat
  | [] => 0
  | x :: xs => max (dep x) (deps xs)
end
/-- what == asks of its sides -/
def cmpOk (d : D) : Prop := shp d = true ∧ dep d ≤ 64

/-! ### operators by values -/
abbrev O2 := D → D → KD → Prop
abbrev O1 := D → KD → Prop
def b2n : Bool → Int | true => 1 | false => 0
/-- what * asks -/
def MulOk (i j : Int) : Prop := (-(2 ^ 64) < i ∧ i < 2 ^ 64) ∨ (-(2 ^ 64) < j ∧ j < 2 ^ 64) ∨ (i.natAbs < 2 ^ 400000 ∧ j.natAbs < 2 ^ 400000)
/-- what // asks -/
def DivOk (i j : Int) : Prop := j ≠ 0 ∧ (j.natAbs < 1073741824 ∨ (0 < j ∧ j.natAbs < 2 ^ 8000))
def oAdd : O2
  | .int i, .int j, K => K (.int (i + j))
  | _, _, _ => False
def oSub : O2
  | .int i, .int j, K => K (.int (i - j))
  | .bool a, .bool b, K => K (.int (b2n a - b2n b))
  | _, _, _ => False
/-- of numbers alone -/
def oSubI : O2
  | .int i, .int j, K => K (.int (i - j))
  | _, _, _ => False
def oMul : O2
  | .int i, .int j, K => MulOk i j ∧ K (.int (i * j))
  | _, _, _ => False
def oDiv : O2
  | .int i, .int j, K => DivOk i j ∧ K (.int (i.fdiv j))
  | _, _, _ => False
def oMod : O2
  | .int i, .int j, K => j ≠ 0 ∧ K (.int (i.fmod j))
  | _, _, _ => False
def oPow : O2
  | .int i, .int j, K => (0 ≤ j ∧ j ≤ 1000000 ∧ i.natAbs < 2 ^ 64) ∧ K (.int (i ^ j.toNat))
  | _, _, _ => False
def oNeg : O1
  | .int i, K => K (.int (-i))
  | _, _ => False
def oLt : O2
  | .int i, .int j, K => K (.bool (decide (i < j)))
  | _, _, _ => False
def oLe : O2
  | .int i, .int j, K => K (.bool (decide (i ≤ j)))
  | _, _, _ => False
def oGt : O2
  | .int i, .int j, K => K (.bool (decide (j < i)))
  | _, _, _ => False
def oGe : O2
  | .int i, .int j, K => K (.bool (decide (j ≤ i)))
  | _, _, _ => False
def oEq : O2
  | .int i, .int j, K => K (.bool (decide (i = j)))
  | .bool a, .bool b, K => K (.bool (a == b))
  | .str a, .str b, K => K (.bool (decide (a = b)))
  | .none, .none, K => K (.bool true)
  | x, y, K => cmpOk x ∧ cmpOk y ∧ K (.bool (eqv x y))
def oNe : O2
  | .int i, .int j, K => K (.bool (!decide (i = j)))
  | .bool a, .bool b, K => K (.bool (!(a == b)))
  | .str a, .str b, K => K (.bool (!decide (a = b)))
  | .none, .none, K => K (.bool false)
  | x, y, K => cmpOk x ∧ cmpOk y ∧ K (.bool (!eqv x y))
def isNone : D → Bool
  | .none => true
  | _ => false
def oIsN : O1 := fun d K => K (.bool (isNone d))
def oNotN : O1 := fun d K => K (.bool (!isNone d))
/-- is True, is False, of a bool -/
def oIsB (b : Bool) : O1
  | .bool c, K => K (.bool (decide (c = b)))
  | _, _ => False
def oNotB (b : Bool) : O1
  | .bool c, K => K (.bool (!decide (c = b)))
  | _, _ => False
/-- x in a list or tuple -/
def oIn : O2
  | d, .list ds, K => cmpOk d ∧ cmpOk (.list ds) ∧ K (.bool (ds.any fun z => eqv z d))
  | d, .tuple ds, K => cmpOk d ∧ cmpOk (.tuple ds) ∧ K (.bool (ds.any fun z => eqv z d))
  | _, _, _ => False
def oNotIn : O2
  | d, .list ds, K => cmpOk d ∧ cmpOk (.list ds) ∧ K (.bool (!ds.any fun z => eqv z d))
  | d, .tuple ds, K => cmpOk d ∧ cmpOk (.tuple ds) ∧ K (.bool (!ds.any fun z => eqv z d))
  | _, _, _ => False
/-- the item at a place, from the end too -/
def atD (ds : List D) (i : Int) : Option D := if 0 ≤ i then ds[i.toNat]? else if 0 ≤ i + ds.length then ds[(i + ds.length).toNat]? else none
def getK : Option D → KD → Prop
  | some d, K => K d
  | none, _ => False
def oIx : O2
  | .list ds, .int i, K => getK (atD ds i) K
  | .tuple ds, .int i, K => getK (atD ds i) K
  | _, _, _ => False
/-- xs + ys: a new list -/
def oCat : O2
  | .list a, .list b, K => a.length + b.length ≤ szl ∧ K (.list (a ++ b))
  | _, _, _ => False
def oRep : O2
  | .list a, .int k, K => (k < 2 ^ 62 ∧ -(2 ^ 62) < k ∧ a.length * k.toNat ≤ szl) ∧ K (.list (List.replicate k.toNat a).flatten)
  | _, _, _ => False
def oAbs : O1
  | .int i, K => K (.int (if i < 0 then -i else i))
  | _, _ => False
def oLen : O1
  | .list ds, K => K (.int ds.length)
  | .tuple ds, K => K (.int ds.length)
  | _, _ => False
def oInt : O1
  | .int i, K => K (.int i)
  | .bool b, K => K (.int (b2n b))
  | _, _ => False
/-- all are numbers -/
def ints? : List D → Option (List Int)
  | [] => some []
  | .int i :: r => (ints? r).map (i :: ·)
  | _ :: _ => none
def oSum : O1
  | .list ds, K => match ints? ds with
    | some ns => K (.int ns.sum)
    | none => False
  | _, _ => False
def oMax2 : O2
  | .int i, .int j, K => K (.int (if j > i then j else i))
  | _, _, _ => False
def oMin2 : O2
  | .int i, .int j, K => K (.int (if j < i then j else i))
  | _, _, _ => False
/-- all are pairs of numbers -/
def pair? : D → Option (Int × Int)
  | .tuple [.int a, .int b] => some (a, b)
  | _ => none
def pairs? : List D → Option (List (Int × Int))
  | [] => some []
  | d :: r => match pair? d, pairs? r with
    | some p, some ps => some (p :: ps)
    | _, _ => none
def ltP (a b : Int × Int) : Bool := decide (a.1 < b.1) || (decide (a.1 = b.1) && decide (a.2 < b.2))
def maxP (x : Int × Int) (xs : List (Int × Int)) : Int × Int := xs.foldl (fun a y => if ltP a y then y else a) x
/-- max of a list of pairs of numbers -/
def oMaxP : O1
  | .list ds, K => match pairs? ds with
    | some (p :: ps) => K (.tuple [.int (maxP p ps).1, .int (maxP p ps).2])
    | _ => False
  | _, _ => False
def oTupOf : O1
  | .list ds, K => K (.tuple ds)
  | .tuple ds, K => K (.tuple ds)
  | _, _ => False
/-- list(x): a new list -/
def oLstOf : O1
  | .list ds, K => K (.list ds)
  | .tuple ds, K => K (.list ds)
  | _, _ => False
def isInt : D → Bool
  | .int _ | .bool _ => true
  | _ => false
def isTup : D → Bool
  | .tuple _ => true
  | _ => false
def isLst : D → Bool
  | .list _ => true
  | _ => false
def oIsi (p : D → Bool) : O1 := fun d K => K (.bool (p d))
/-- where a slice begins or ends -/
def slIx (n e : Nat) : Option Int → Nat
  | none => e
  | some i => if i < 0 then (i + n).toNat else min i.toNat n
def cutD (ds : List D) (lo hi : Option Int) : List D := (ds.drop (slIx ds.length 0 lo)).take (slIx ds.length ds.length hi - slIx ds.length 0 lo)

/-! ### expressions -/
def slv : Option Sl → KD → Prop
  | some (.val d), K => K d
  | _, _ => False
def slb : Option Sl → KD → Prop
  | some (.val d), K => K d
  | some (.own d), K => K d
  | _, _ => False
def eV (i : Nat) : ET := fun v K _ => slv v[i]? K
def eB (i : Nat) : ET := fun v K _ => slb v[i]? K
def eC (d : D) : ET := fun _ K _ => K d
abbrev eI (i : Int) : ET := eC (.int i)
abbrev eT : ET := eC (.bool true)
abbrev eF : ET := eC (.bool false)
abbrev eN : ET := eC .none
abbrev eS (s : String) : ET := eC (.str (Str.ofString s))
def e1 (o : O1) (a : ET) : ET := fun v K X => a v (fun x => o x K) X
def e2 (o : O2) (a b : ET) : ET := fun v K X => a v (fun x => b v (fun y => o x y K) X) X
def isB : D → (Bool → Prop) → Prop
  | .bool c, K => K c
  | _, _ => False
/-- a value as a test -/
def tV (a : ET) : TT := fun v K X => a v (fun x => isB x K) X
def tNot (t : TT) : TT := fun v K X => t v (fun c => K (!c)) X
def tAnd (t u : TT) : TT := fun v K X => t v (fun c => br c (u v K X) (K false)) X
def tOr (t u : TT) : TT := fun v K X => t v (fun c => br c (K true) (u v K X)) X
/-- and, or, not as values (of bools) -/
def eNot (a : ET) : ET := fun v K X => a v (fun x => isB x fun c => K (.bool (!c))) X
def eAnd (a b : ET) : ET := fun v K X => a v (fun x => isB x fun c => br c (b v K X) (K (.bool false))) X
def eOr (a b : ET) : ET := fun v K X => a v (fun x => isB x fun c => br c (K (.bool true)) (b v K X)) X
def eIf (t : TT) (a b : ET) : ET := fun v K X => t v (fun c => br c (a v K X) (b v K X)) X
/-- a op b op' c -/
def eChn (o o' : O2) (a b c : ET) : ET := fun v K X => a v (fun x => b v (fun y => o x y fun z => isB z fun k => br k (c v (fun w => o' y w K) X) (K (.bool false))) X) X
def aNil : AT := fun _ K _ => K []
def aCons (a : ET) (r : AT) : AT := fun v K X => a v (fun x => r v (fun xs => K (x :: xs)) X) X
def eTup (a : AT) : ET := fun v K X => a v (fun xs => K (.tuple xs)) X
def eLst (a : AT) : ET := fun v K X => a v (fun xs => K (.list xs)) X
def eCall (G : DSp) (a : AT) : ET := fun v K X => a v (fun xs => G xs K X) X
/-- a slice's bound -/
abbrev PT := Ev → (Option Int → Prop) → KX → Prop
def pNo : PT := fun _ K _ => K none
def pAt (a : ET) : PT := fun v K X => a v (fun x => match x with | .int i => K (some i) | _ => False) X
/-- xs[lo:hi] of a list: a new one -/
def eCut (a : ET) (lo hi : PT) : ET := fun v K X => a v (fun x => lo v (fun l => hi v (fun h => match x with | .list ds => K (.list (cutD ds l h)) | _ => False) X) X) X
/-- xs[::-1] -/
def eRev (a : ET) : ET := fun v K X => a v (fun x => match x with | .list ds => K (.list ds.reverse) | _ => False) X

/-! ### targets, sources -/
def gN (i : Nat) : GT := fun d v K => K (v.set i (.val d))
def gs : List GT → List D → Ev → (Ev → Prop) → Prop
  | [], [], v, K => K v
  | g :: r, d :: ds, v, K => g d v fun v' => gs r ds v' K
  | _, _, _, _ => False
def gT (l : List GT) : GT := fun d v K => match d with | .tuple ds => ds.length = l.length ∧ gs l ds v K | _ => False
/-- what a for or a comprehension goes over -/
def iL (a : ET) : AT := fun v K X => a v (fun x => match x with | .list ds => K ds | _ => False) X
def iE (a : ET) : AT := fun v K X => a v (fun x => match x with | .list ds => K ds | .tuple ds => K ds | _ => False) X
def iT (a : ET) : AT := fun v K X => a v (fun x => match x with | .tuple ds => K ds | _ => False) X
def rng (lo : Int) (n : Nat) (c : Int) : List D := (List.range n).map fun (k : Nat) => .int (lo + (k : Int) * c)
def fit62 (i : Int) : Prop := -(2 ^ 62) ≤ i ∧ i < 2 ^ 62
def iR1 (a : ET) : AT := fun v K X => a v (fun x => match x with | .int j => fit62 j ∧ K (rng 0 j.toNat 1) | _ => False) X
def iR2 (a b : ET) : AT := fun v K X => a v (fun x => b v (fun y => match x, y with | .int i, .int j => (fit62 i ∧ fit62 j) ∧ K (rng i (j - i).toNat 1) | _, _ => False) X) X
def zipD : List D → List D → List D
  | x :: xs, y :: ys => .tuple [x, y] :: zipD xs ys
  | _, _ => []
/-- zip of two lists or of two tuples -/
def zip2 : D → D → (List D → Prop) → Prop
  | .list xs, .list ys, K => K (zipD xs ys)
  | .tuple xs, .tuple ys, K => K (zipD xs ys)
  | _, _, _ => False
def iZip (a b : ET) : AT := fun v K X => a v (fun x => b v (fun y => zip2 x y K) X) X
/-- range with a step -/
def rngN (i j c : Int) : Nat := if 0 < c then ((j - i + c - 1) / c).toNat else ((i - j - c - 1) / (-c)).toNat
def iR3 (a b c : ET) : AT := fun v K X => a v (fun x => b v (fun y => c v (fun z => match x, y, z with | .int i, .int j, .int c => ((-(2 ^ 60) < i ∧ i < 2 ^ 60) ∧ (-(2 ^ 60) < j ∧ j < 2 ^ 60) ∧ c ≠ 0 ∧ c.natAbs < 1000000000) ∧ K (rng i (rngN i j c) c) | _, _, _ => False) X) X) X
def enumD (n : Nat) : List D → List D
  | [] => []
  | x :: xs => .tuple [.int n, x] :: enumD (n + 1) xs
def iEnu (a : ET) : AT := fun v K X => a v (fun x => match x with | .list ds => K (enumD 0 ds) | _ => False) X

/-- the slots of a comprehension's own names are its own -/
def wipeE (v : Ev) : List Nat → Ev
  | [] => v
  | i :: r => (wipeE v r).set i .un
/-- one for -/
def compD (g : GT) (t : TT) (e : ET) (v : Ev) : List D → List D → (List D → Prop) → Prop
  | [], acc, K => K acc
  | x :: xs, acc, K => g x v fun v1 => t v1 (fun c => br c (e v1 (fun d => compD g t e v xs (acc ++ [d]) K) fun _ => False) (compD g t e v xs acc K)) fun _ => False
def tY : TT := fun _ K _ => K true
def eComp (src : AT) (own : List Nat) (g : GT) (t : TT) (e : ET) : ET := fun v K X => src v (fun ds => ds.length ≤ szl ∧ compD g t e (wipeE v own) ds [] fun r => K (.list r)) X
/-- two fors -/
def compI (g : GT) (t : TT) (e : ET) (v : Ev) : List D → List D → (List D → Prop) → Prop
  | [], acc, K => K acc
  | x :: xs, acc, K => g x v fun v1 => t v1 (fun c => br c (acc.length < szl ∧ e v1 (fun d => compI g t e v xs (acc ++ [d]) K) fun _ => False) (compI g t e v xs acc K)) fun _ => False
def compO (g : GT) (t : TT) (src1 : AT) (own1 : List Nat) (g1 : GT) (t1 : TT) (e : ET) (v : Ev) : List D → List D → (List D → Prop) → Prop
  | [], acc, K => K acc
  | x :: xs, acc, K => g x v fun v1 => t v1 (fun c => br c (src1 v1 (fun ds => compI g1 t1 e (wipeE v1 own1) ds acc fun acc' => compO g t src1 own1 g1 t1 e v xs acc' K) fun _ => False) (compO g t src1 own1 g1 t1 e v xs acc K)) fun _ => False
def eComp2 (src : AT) (own : List Nat) (g : GT) (t : TT) (src1 : AT) (own1 : List Nat) (g1 : GT) (t1 : TT) (e : ET) : ET :=
  fun v K X => src v (fun ds => compO g t src1 own1 g1 t1 e (wipeE v own) ds [] fun r => K (.list r)) X

/-! ### statements -/
def sNil : ST := fun v P => P.nx v
def sSeq (s t : ST) : ST := fun v P => s v { P with nx := fun v' => t v' P }
def sSet (i : Nat) (e : ET) : ST := fun v P => e v (fun d => P.nx (v.set i (.val d))) (P.ex v)
/-- the slot takes a new list (dict) as its own -/
def sOwn (i : Nat) (e : ET) : ST := fun v P => e v (fun d => P.nx (v.set i (.own d))) (P.ex v)
def sGet (g : GT) (e : ET) : ST := fun v P => e v (fun d => g d v P.nx) (P.ex v)
/-- x, y = a, b of plain names -/
def setsE : List Nat → List D → Ev → Ev
  | i :: is, d :: ds, v => setsE is ds (v.set i (.val d))
  | _, _, v => v
def sPar (is : List Nat) (a : AT) : ST := fun v P => a v (fun ds => ds.length = is.length ∧ P.nx (setsE is ds v)) (P.ex v)
/-- name op= e -/
def sAug (i : Nat) (o : O2) (e : ET) : ST := fun v P => slv v[i]? fun x => e v (fun y => o x y fun z => P.nx (v.set i (.val z))) (P.ex v)
def sExp (e : ET) : ST := fun v P => e v (fun _ => P.nx v) (P.ex v)
def sRet (e : ET) : ST := fun v P => e v P.rt (P.ex v)
def sRetN : ST := fun _ P => P.rt .none
def sIf (t : TT) (a b : ST) : ST := fun v P => t v (fun c => br c (a v P) (b v P)) (P.ex v)
def sBrk : ST := fun v P => P.bk v
def sCnt : ST := fun v P => P.ct v
/-- a slot's own list is given up: from here on it never changes -/
def frz (v : Ev) (i : Nat) : Ev := match v[i]? with
  | some (.own d) => v.set i (.val d)
  | _ => v
def sFrz (i : Nat) (s : ST) : ST := fun v P => s (frz v i) P
/-- xs.append(e) -/
def ownK : Option Sl → (List D → Prop) → Prop
  | some (.own (.list ds)), K => K ds
  | _, _ => False
def sApp (i : Nat) (e : ET) : ST := fun v P => ownK v[i]? fun ds => e v (fun d => ds.length < szl ∧ P.nx (v.set i (.own (.list (ds ++ [d]))))) (P.ex v)
/-- xs[k] = e, xs[k] op= e -/
def placeD (n : Nat) (k : Int) : Option Nat := if 0 ≤ k then (if k < n then some k.toNat else none) else if 0 ≤ k + n then some (k + n).toNat else none
def putD (ds : List D) (d : D) (k : D) (K : List D → Prop) : Prop := match k with
  | .int i => match placeD ds.length i with
    | some j => K (ds.set j d)
    | none => False
  | _ => False
def sPut (i : Nat) (ix e : ET) : ST := fun v P => ownK v[i]? fun ds => e v (fun d => ix v (fun k => putD ds d k fun es => P.nx (v.set i (.own (.list es)))) (P.ex v)) (P.ex v)
def sAugIx (i : Nat) (o : O2) (ix e : ET) : ST := fun v P => ownK v[i]? fun ds => ix v (fun k => oIx (.list ds) k fun x => e v (fun y => o x y fun z => putD ds z k fun es => P.nx (v.set i (.own (.list es)))) (P.ex v)) (P.ex v)
/-- xs.extend(e) -/
def sExt (i : Nat) (e : ET) : ST := fun v P => ownK v[i]? fun ds => e v (fun d => match d with | .list es => ds.length + es.length ≤ szl ∧ P.nx (v.set i (.own (.list (ds ++ es)))) | _ => False) (P.ex v)
/-- y = xs.pop() -/
def sPop (j i : Nat) : ST := fun v P => ownK v[i]? fun ds => match ds.getLast? with
  | some d => P.nx ((v.set i (.own (.list ds.dropLast))).set j (.val d))
  | none => False
/-- flat values -/
def flatD : D → Bool
  | .list _ | .tuple _ | .dict _ => false
  | _ => true
def sRaise0 (c : String) : ST := fun v P => P.ex v ⟨c, []⟩
def sRaise1 (c fld : String) (e : ET) : ST := fun v P => e v (fun d => P.ex v ⟨c, if flatD d then [(fld, d)] else []⟩) (P.ex v)
/-- what is never reached -/
def sBad : ST := fun _ _ => False
/-- the clauses of a try, one after the other -/
def hdl : List (String × (DX → ST)) → DX → Ev → Post → Prop
  | [], x, v, P => P.ex v x
  | (c, s) :: r, x, v, P => if (x.cls == c || c == "RingError") = true then s x v { P with ex := fun _ _ => False } else hdl r x v P
def sTry (b : ST) (hs : List (String × (DX → ST))) : ST := fun v P => b v { P with ex := fun v' x => hdl hs x v' P }
/-- return (txt, e.fld) of an except suite -/
def sHRet (i : Nat) (txt : PySem.Str) (fld : String) (x : DX) : ST := fun v P => i < v.length ∧ ∃ d, x.fs.lookup fld = some d ∧ P.rt (.tuple [.str txt, d])
def forD (g : GT) (b : ST) : List D → Ev → Post → Prop
  | [], v, P => P.nx v
  | x :: xs, v, P => g x v fun v1 => b v1 { P with nx := fun v2 => forD g b xs v2 P, ct := fun v2 => forD g b xs v2 P, bk := P.nx }
def sFor (src : AT) (g : GT) (b : ST) : ST := fun v P => src v (fun ds => forD g b ds v P) (P.ex v)
/-- W: the invariant with its measure -/
def sWhile (t : TT) (b : ST) : ST := fun v P => ∃ W : Nat → Ev → Prop, (∃ m, W m v) ∧ ∀ m v, W m v →
  t v (fun c => br c (b v { P with nx := fun v' => ∃ m', m' < m ∧ W m' v', ct := fun v' => ∃ m', m' < m ∧ W m' v', bk := P.nx }) (P.nx v)) (P.ex v)

/-- the clauses of a try: the first that names the class; the slot of «as» gets the fields as a dict -/
structure Hd where
  names : List String
  slot : Option Nat
  body : ST

/-- a def -/
def startE (n : Nat) (ds : List D) : Ev := ds.map .val ++ List.replicate (n - ds.length) .un
def sem (k n : Nat) (b : ST) : DSp := fun ds K X => ds.length = k ∧ b (startE n ds) { nx := fun _ => K .none, rt := K, bk := fun _ => False, ct := fun _ => False, ex := fun _ => X }
end Rw

set_option Elab.async false
set_option linter.all false
set_option maxRecDepth 100000
/-! The rules that tie the plain layer to HandS. -/
namespace Rw
open PySem PySem.Spec L2

/-! ### data that stand in an abstract heap -/
def keyD : Key → D
  | .inl i => .int i
  | .inr x => .str x
mutual
inductive Rep (K : PySem.W.Frag) (H : Hp) : V → D → Prop
  | non : Rep K H .non .none
  | bl (b : Bool) : Rep K H (.bl b) (.bool b)
  | int (i : Int) : Rep K H (.int i) (.int i)
  | str (x : Str) : Rep K H (.str x) (.str x)
  | lst {a : Addr} {xs : List V} {ds : List D} : SqL K H a xs → Reps K H xs ds → Rep K H (.ref a) (.list ds)
  | tup {a : Addr} {xs : List V} {ds : List D} : SqT K H a xs → Reps K H xs ds → Rep K H (.ref a) (.tuple ds)
  | dic {a : Addr} {kvs : List (Key × V)} {ds : List (D × D)} : H a = some (.dK kvs) → RepK K H kvs ds → Rep K H (.ref a) (.dict ds)
inductive Reps (K : PySem.W.Frag) (H : Hp) : List V → List D → Prop
  | nil : Reps K H [] []
  | cons {v : V} {vs : List V} {d : D} {ds : List D} : Rep K H v d → Reps K H vs ds → Reps K H (v :: vs) (d :: ds)
inductive RepK (K : PySem.W.Frag) (H : Hp) : List (Key × V) → List (D × D) → Prop
  | nil : RepK K H [] []
  | cons {k : Key} {v : V} {vs : List (Key × V)} {d : D} {ds : List (D × D)} : Rep K H v d → RepK K H vs ds → RepK K H ((k, v) :: vs) ((keyD k, d) :: ds)
end
section
variable {K : PySem.W.Frag} {H H' : Hp}
theorem same_T {a : Addr} {xs : List V} (e : Same H H') (h : SqT K H a xs) : SqT K H' a xs := by
  rcases h with (h | ⟨o, h⟩) | h
  · exact .inl (.inl (e _ _ h))
  · exact .inl (.inr ⟨o, e _ _ h⟩)
  · exact .inr h
mutual
theorem Rep.mono (e : Same H H') : ∀ {v : V} {d : D}, Rep K H v d → Rep K H' v d
  | _, _, .non => .non
  | _, _, .bl b => .bl b
  | _, _, .int i => .int i
  | _, _, .str x => .str x
  | _, _, .lst h r => .lst (e.seq h) (Reps.mono e r)
  | _, _, .tup h r => .tup (same_T e h) (Reps.mono e r)
  | _, _, .dic h r => .dic (e _ _ h) (RepK.mono e r)
theorem Reps.mono (e : Same H H') : ∀ {vs : List V} {ds : List D}, Reps K H vs ds → Reps K H' vs ds
  | _, _, .nil => .nil
  | _, _, .cons h r => .cons (Rep.mono e h) (Reps.mono e r)
theorem RepK.mono (e : Same H H') : ∀ {vs : List (Key × V)} {ds : List (D × D)}, RepK K H vs ds → RepK K H' vs ds
  | _, _, .nil => .nil
  | _, _, .cons h r => .cons (Rep.mono e h) (RepK.mono e r)
end
theorem Reps.length : ∀ {vs : List V} {ds : List D}, Reps K H vs ds → vs.length = ds.length
  | _, _, .nil => rfl
  | _, _, .cons _ r => by rw [List.length_cons, List.length_cons, Reps.length r]
theorem Reps.get : ∀ {vs : List V} {ds : List D} {i : Nat} {d : D}, Reps K H vs ds → ds[i]? = some d → ∃ v, vs[i]? = some v ∧ Rep K H v d
  | _, _, _, _, .nil, e => by simp at e
  | _, _, 0, _, .cons r _, e => by
    simp at e; subst e; exact ⟨_, rfl, r⟩
  | _, _, i + 1, d, .cons _ r, e => by
    obtain ⟨v, h1, h2⟩ := Reps.get (i := i) (d := d) r (by simpa using e)
    exact ⟨v, by simpa using h1, h2⟩
theorem Reps.append : ∀ {vs ws : List V} {ds es : List D}, Reps K H vs ds → Reps K H ws es → Reps K H (vs ++ ws) (ds ++ es)
  | _, _, _, _, .nil, s => s
  | _, _, _, _, .cons h r, s => .cons h (Reps.append r s)
theorem Reps.one {v : V} {d : D} (h : Rep K H v d) : Reps K H [v] [d] := .cons h .nil
theorem Reps.take : ∀ {vs : List V} {ds : List D} (n : Nat), Reps K H vs ds → Reps K H (vs.take n) (ds.take n)
  | _, _, 0, _ => .nil
  | _, _, _ + 1, .nil => .nil
  | _, _, n + 1, .cons h r => .cons h (Reps.take n r)
theorem Reps.drop : ∀ {vs : List V} {ds : List D} (n : Nat), Reps K H vs ds → Reps K H (vs.drop n) (ds.drop n)
  | _, _, 0, r => r
  | _, _, _ + 1, .nil => .nil
  | _, _, n + 1, .cons _ r => Reps.drop n r
theorem Reps.reverse {vs : List V} {ds : List D} (r : Reps K H vs ds) : Reps K H vs.reverse ds.reverse := by
  induction ds generalizing vs with
  | nil => cases r; exact .nil
  | cons d ds ih =>
    cases r with
    | cons h r =>
      rw [List.reverse_cons, List.reverse_cons]
      exact (ih r).append (.one h)
theorem Rep.none_inv {v : V} (h : Rep K H v .none) : v = .non := by cases h; rfl
theorem Rep.bool_inv {v : V} {b : Bool} (h : Rep K H v (.bool b)) : v = .bl b := by cases h; rfl
theorem Rep.int_inv {v : V} {i : Int} (h : Rep K H v (.int i)) : v = .int i := by cases h; rfl
theorem Rep.str_inv {v : V} {x : Str} (h : Rep K H v (.str x)) : v = .str x := by cases h; rfl
theorem Rep.list_inv {v : V} {ds : List D} (h : Rep K H v (.list ds)) : ∃ a xs, v = .ref a ∧ SqL K H a xs ∧ Reps K H xs ds := by
  cases h with
  | lst s r => exact ⟨_, _, rfl, s, r⟩
theorem Rep.tuple_inv {v : V} {ds : List D} (h : Rep K H v (.tuple ds)) : ∃ a xs, v = .ref a ∧ SqT K H a xs ∧ Reps K H xs ds := by
  cases h with
  | tup s r => exact ⟨_, _, rfl, s, r⟩
theorem Rep.dict_inv {v : V} {ds : List (D × D)} (h : Rep K H v (.dict ds)) : ∃ a kvs, v = .ref a ∧ H a = some (.dK kvs) ∧ RepK K H kvs ds := by
  cases h with
  | dic s r => exact ⟨_, _, rfl, s, r⟩
mutual
theorem Rep.dp : ∀ {d : D} {v : V}, Rep K H v d → shp d = true → Dp K H v d
  | .none, _, h, _ => by rw [h.none_inv]; exact .non
  | .bool b, _, h, _ => by rw [h.bool_inv]; exact .bl b
  | .int i, _, h, _ => by rw [h.int_inv]; exact .int i
  | .str x, _, h, _ => by rw [h.str_inv]; exact .str x
  | .list ds, _, h, z => by
    obtain ⟨a, xs, rfl, s, r⟩ := h.list_inv
    exact .lst s (Reps.dp r z)
  | .tuple ds, _, h, z => by
    obtain ⟨a, xs, rfl, s, r⟩ := h.tuple_inv
    exact .tup s (Reps.dp r z)
  | .dict _, _, _, z => by cases z
theorem Reps.dp : ∀ {ds : List D} {vs : List V}, Reps K H vs ds → shps ds = true → DpAll K H vs ds
  | [], _, h, _ => by cases h; exact .nil
  | d :: ds, _, h, z => by
    cases h with
    | cons h r =>
      have z' : (shp d && shps ds) = true := z
      rw [Bool.and_eq_true] at z'
      exact .cons (Rep.dp h z'.1) (Reps.dp r z'.2)
end
/-- whole numbers by value -/
theorem Reps.ints {ds : List D} {vs : List V} {ns : List Int} (h : Reps K H vs ds) (e : ints? ds = some ns) : vs = ns.map V.int := by
  induction ds generalizing vs ns with
  | nil =>
    cases h
    cases e
    rfl
  | cons d ds ih =>
    cases h with
    | cons h r =>
      cases d with
      | int i =>
        have e' : (ints? ds).map (i :: ·) = some ns := e
        cases q : ints? ds with
        | none => rw [q] at e'; cases e'
        | some ms =>
          rw [q] at e'
          cases e'
          rw [h.int_inv, ih r q]
          rfl
      | _ => cases e
end

/-! ### equality of the plain layer is the library's -/
mutual
theorem eqv_is : ∀ d e : D, PyData.eqv d e = eqv d e
  | .none, e => by cases e <;> simp [PyData.eqv, eqv]
  | .bool a, e => by cases e <;> simp [PyData.eqv, eqv] <;> (cases a <;> rfl)
  | .int i, e => by cases e <;> simp [PyData.eqv, eqv] <;> rfl
  | .str x, e => by cases e <;> simp [PyData.eqv, eqv] <;> rfl
  | .list xs, e => by
    cases e with
    | list ys => simp only [PyData.eqv, eqv]; exact eqvs_is xs ys
    | _ => simp [PyData.eqv, eqv]
  | .tuple xs, e => by
    cases e with
    | tuple ys => simp only [PyData.eqv, eqv]; exact eqvs_is xs ys
    | _ => simp [PyData.eqv, eqv]
  | .dict _, e => by cases e <;> simp [PyData.eqv, eqv]
theorem eqvs_is : ∀ ds es : List D, PyData.eqvAll ds es = eqvs ds es
  | [], [] => by simp [PyData.eqvAll, eqvs]
  | [], _ :: _ => by simp [PyData.eqvAll, eqvs]
  | _ :: _, [] => by simp [PyData.eqvAll, eqvs]
  | d :: ds, e :: es => by simp only [PyData.eqvAll, eqvs, eqv_is d e, eqvs_is ds es]
end
mutual
theorem dep_is : ∀ d : D, shp d = true → PyData.depth d = dep d
  | .none, _ | .bool _, _ | .int _, _ | .str _, _ => by simp [PyData.depth, dep]
  | .list xs, h => by simp only [PyData.depth, dep]; rw [deps_is xs h]
  | .tuple xs, h => by simp only [PyData.depth, dep]; rw [deps_is xs h]
  | .dict _, h => by cases h
theorem deps_is : ∀ ds : List D, shps ds = true → PyData.depthAll ds = deps ds
  | [], _ => by simp [PyData.depthAll, deps]
  | d :: ds, h => by
    have z' : (shp d && shps ds) = true := h
    rw [Bool.and_eq_true] at z'
    simp only [PyData.depthAll, deps, dep_is d z'.1, deps_is ds z'.2]
end
end Rw

set_option Elab.async false
set_option linter.all false
set_option maxRecDepth 100000
namespace Rw
open PySem PySem.Spec L2

mutual
theorem shp_can : ∀ d : D, shp d = true → PyData.canLay0 d = true
  | .none, _ | .bool _, _ | .int _, _ => by simp [PyData.canLay0]
  | .str x, h => by
    simp only [PyData.canLay0, PyData.strOk]
    have h' : (x.cps.all fun c => decide (c < 1114112)) = true := h
    simpa using h'
  | .list xs, h => by simp only [PyData.canLay0]; exact shps_can xs h
  | .tuple xs, h => by simp only [PyData.canLay0]; exact shps_can xs h
  | .dict _, h => by cases h
theorem shps_can : ∀ ds : List D, shps ds = true → PyData.canLayAll0 ds = true
  | [], _ => by simp [PyData.canLayAll0]
  | d :: ds, h => by
    have z' : (shp d && shps ds) = true := h
    rw [Bool.and_eq_true] at z'
    simp only [PyData.canLayAll0, shp_can d z'.1, shps_can ds z'.2, Bool.and_self]
end
theorem cmpOk.shaped {d : D} (h : cmpOk d) : SeqAt.shaped d = true := by
  unfold SeqAt.shaped
  rw [shp_can d h.1, dep_is d h.1, decide_eq_true h.2]
  rfl

/-! ### the state -/
/-- the entry of a def: the heap that never changes, the heap; where its exceptions' classes stand -/
structure Bs where
  H0 : Hp
  cl : String → Option Addr
/-- grown: what stood stands; the part that never changes takes new objects alone -/
structure Gr (F H F' H' : Hp) : Prop where
  f : Same F F'
  h : Same H H'
  n : ∀ a, F' a ≠ none → F a ≠ none ∨ H a = none
theorem Gr.refl (F H : Hp) : Gr F H F H := ⟨.refl _, .refl _, fun _ h => .inl h⟩
theorem Gr.trans {F H F1 H1 F2 H2 : Hp} (a : Gr F H F1 H1) (b : Gr F1 H1 F2 H2) : Gr F H F2 H2 :=
  ⟨a.f.trans b.f, a.h.trans b.h, fun c h => by
    rcases b.n c h with z | z
    · exact a.n c z
    · exact .inr (a.h.free z)⟩
/-- a new object that never changes -/
theorem Gr.new {F H : Hp} {p : Addr} {o : HO} (sub : Same F H) (n : H p = none) : Gr F H (upd F p o) (upd H p o) ∧ Same (upd F p o) (upd H p o) := by
  have nF : F p = none := sub.free n
  refine ⟨⟨fun b x e => ?_, fun b x e => ?_, fun a h => ?_⟩, fun b x e => ?_⟩
  · rw [upd_ne (ne_of_none e nF)]; exact e
  · rw [upd_ne (ne_of_none e n)]; exact e
  · by_cases ha : a = p
    · rw [ha]; exact .inr n
    · rw [upd_ne ha] at h; exact .inl h
  · by_cases hb : b = p
    · rw [hb, upd_same] at e ⊢; exact e
    · rw [upd_ne hb] at e ⊢; exact sub b x e
/-- a new object that may change -/
theorem Gr.own {F H : Hp} {p : Addr} {o : HO} (sub : Same F H) (n : H p = none) : Gr F H F (upd H p o) ∧ Same F (upd H p o) := by
  refine ⟨⟨.refl _, fun b x e => ?_, fun a h => .inl h⟩, fun b x e => ?_⟩
  · rw [upd_ne (ne_of_none e n)]; exact e
  · rw [upd_ne (ne_of_none (sub b x e) n)]; exact sub b x e

/-- a list (a dict) that stands at a, its items never change -/
def At (K : PySem.W.Frag) (F H : Hp) (a : Addr) : D → Prop
  | .list ds => ∃ xs, H a = some (.lst xs) ∧ Reps K F xs ds
  | .dict ds => ∃ kvs, H a = some (.dK kvs) ∧ RepK K F kvs ds
  | _ => False
theorem At.gr {K : PySem.W.Frag} {F H F' H' : Hp} {a : Addr} {d : D} (h : At K F H a d) (f : Same F F') (g : H' a = H a) : At K F' H' a d := by
  cases d with
  | list ds => obtain ⟨xs, e, r⟩ := h; exact ⟨xs, g.trans e, r.mono f⟩
  | dict ds => obtain ⟨xs, e, r⟩ := h; exact ⟨xs, g.trans e, r.mono f⟩
  | _ => exact h.elim
theorem At.obj {K : PySem.W.Frag} {F H : Hp} {a : Addr} {d : D} (h : At K F H a d) : ∃ o, H a = some o := by
  cases d with
  | list ds => obtain ⟨xs, e, r⟩ := h; exact ⟨_, e⟩
  | dict ds => obtain ⟨xs, e, r⟩ := h; exact ⟨_, e⟩
  | _ => exact h.elim
theorem At.same {K : PySem.W.Frag} {F H F' H' : Hp} {a : Addr} {d : D} (h : At K F H a d) (f : Same F F') (g : Same H H') : At K F' H' a d := by
  obtain ⟨o, e⟩ := h.obj
  exact h.gr f ((g a o e).trans e.symm)
theorem At.rep {K : PySem.W.Frag} {F H : Hp} {a : Addr} {d : D} (h : At K F H a d) (s : Same F H) : Rep K H (.ref a) d := by
  cases d with
  | list ds => obtain ⟨xs, e, r⟩ := h; exact .lst (.of e) (r.mono s)
  | dict ds => obtain ⟨xs, e, r⟩ := h; exact .dic e (r.mono s)
  | _ => exact h.elim
/-- .. given up: it never changes from here on -/
theorem At.froz {K : PySem.W.Frag} {F H : Hp} {a : Addr} {d : D} (h : At K F H a d) (n : F a = none) : ∃ o, H a = some o ∧ Rep K (upd F a o) (.ref a) d := by
  have st : ∀ o, Same F (upd F a o) := fun o b x e => by rw [upd_ne (ne_of_none e n)]; exact e
  cases d with
  | list ds => obtain ⟨xs, e, r⟩ := h; exact ⟨_, e, .lst (.of upd_same) (r.mono (st _))⟩
  | dict ds => obtain ⟨xs, e, r⟩ := h; exact ⟨_, e, .dic upd_same (r.mono (st _))⟩
  | _ => exact h.elim

structure SR (K : PySem.W.Frag) (B : Bs) (F0 : Hp) (v : Ev) (F : Hp) (σ : St) (H : Hp) : Prop where
  sF : Same F0 F
  sH : Same B.H0 H
  nw : ∀ a, F a ≠ none → F0 a ≠ none ∨ B.H0 a = none
  sub : Same F H
  len : v.length = σ.length
  val : ∀ (i : Nat) d, v[i]? = some (.val d) → ∃ x, σ[i]? = some (some x) ∧ Rep K F x d
  own : ∀ (i : Nat) d, v[i]? = some (.own d) → ∃ a, σ[i]? = some (some (V.ref a)) ∧ B.H0 a = none ∧ F a = none ∧ At K F H a d
  sep : ∀ (i j : Nat) d e a, v[i]? = some (.own d) → v[j]? = some (.own e) → σ[i]? = some (some (V.ref a)) → σ[j]? = some (some (V.ref a)) → i = j
section
variable {K : PySem.W.Frag} {B : Bs} {F0 : Hp} {v : Ev} {F H F' H' : Hp} {σ : St}
theorem SR.gr (S : SR K B F0 v F σ H) (g : Gr F H F' H') (s : Same F' H') : SR K B F0 v F' σ H' :=
  ⟨S.sF.trans g.f, S.sH.trans g.h, (fun a h => by
      rcases g.n a h with z | z
      · exact S.nw a z
      · exact .inr (S.sH.free z)), s, S.len, fun i d e => let ⟨x, h1, h2⟩ := S.val i d e; ⟨x, h1, h2.mono g.f⟩, (fun i d e => by
      obtain ⟨a, h1, h2, h3, h4⟩ := S.own i d e
      refine ⟨a, h1, h2, ?_, h4.same g.f g.h⟩
      cases q : F' a with
      | none => rfl
      | some o =>
        obtain ⟨u, hu⟩ := h4.obj
        rcases g.n a (by rw [q]; exact fun z => by cases z) with z | z
        · exact absurd h3 z
        · rw [hu] at z; cases z), S.sep⟩
/-- forgetting, or what is known anyway -/
theorem SR.wipe (S : SR K B F0 v F σ H) : ∀ vs : List Nat, SR K B F0 (wipeE v vs) F (L2.wipe σ vs) H := by
  intro vs
  have back : ∀ (vs : List Nat) (i : Nat) (s : Sl), (wipeE v vs)[i]? = some s → s ≠ .un → v[i]? = some s ∧ i ∉ vs := by
    intro vs
    induction vs with
    | nil => intro i s h _; exact ⟨h, by simp⟩
    | cons n r ih =>
      intro i s h hs
      unfold wipeE at h
      by_cases hi : n = i
      · subst hi
        by_cases hl : n < (wipeE v r).length
        · rw [List.getElem?_set_self hl] at h
          cases h
          exact absurd rfl hs
        · rw [List.getElem?_eq_none (by simpa using hl)] at h; cases h
      · rw [List.getElem?_set_ne hi] at h
        obtain ⟨h1, h2⟩ := ih i s h hs
        exact ⟨h1, by simp only [List.mem_cons, not_or]; exact ⟨fun e => hi e.symm, h2⟩⟩
  have len : ∀ vs : List Nat, (wipeE v vs).length = v.length := by
    intro vs
    induction vs with
    | nil => rfl
    | cons n r ih => unfold wipeE; rw [List.length_set, ih]
  refine ⟨S.sF, S.sH, S.nw, S.sub, by rw [len, wipe_length, S.len], fun i d e => ?_, fun i d e => ?_, fun i j d e a h1 h2 h3 h4 => ?_⟩
  · obtain ⟨h1, h2⟩ := back vs i _ e (by intro z; cases z)
    obtain ⟨x, h3, h4⟩ := S.val i d h1
    exact ⟨x, by rw [wipe_out h2]; exact h3, h4⟩
  · obtain ⟨h1, h2⟩ := back vs i _ e (by intro z; cases z)
    obtain ⟨a, h3, h4⟩ := S.own i d h1
    exact ⟨a, by rw [wipe_out h2]; exact h3, h4⟩
  · obtain ⟨p1, q1⟩ := back vs i _ h1 (by intro z; cases z)
    obtain ⟨p2, q2⟩ := back vs j _ h2 (by intro z; cases z)
    rw [wipe_out q1] at h3
    rw [wipe_out q2] at h4
    exact S.sep i j d e a p1 p2 h3 h4
/-- a slot takes a value -/
theorem SR.set (S : SR K B F0 v F σ H) (i : Nat) {x : V} {d : D} (r : Rep K F x d) : SR K B F0 (v.set i (.val d)) F (σ.set i (some x)) H := by
  have hb : ∀ (j : Nat) (s : Sl), (v.set i (.val d))[j]? = some s → s = .val d ∧ j = i ∧ i < v.length ∨ j ≠ i ∧ v[j]? = some s := by
    intro j s h
    by_cases hj : i = j
    · subst hj
      by_cases hl : i < v.length
      · rw [List.getElem?_set_self hl] at h
        cases h
        exact .inl ⟨rfl, rfl, hl⟩
      · rw [List.getElem?_eq_none (by simpa using hl)] at h; cases h
    · rw [List.getElem?_set_ne hj] at h
      exact .inr ⟨fun e => hj e.symm, h⟩
  refine ⟨S.sF, S.sH, S.nw, S.sub, by rw [List.length_set, List.length_set, S.len], fun j e h => ?_, fun j e h => ?_, fun j k e f a h1 h2 h3 h4 => ?_⟩
  · rcases hb j _ h with ⟨z, rfl, hl⟩ | ⟨hj, h⟩
    · cases z
      exact ⟨x, List.getElem?_set_self (by rw [← S.len]; exact hl), r⟩
    · rw [List.getElem?_set_ne (fun q => hj q.symm)]
      exact S.val j e h
  · rcases hb j _ h with ⟨z, _⟩ | ⟨hj, h⟩
    · cases z
    · rw [List.getElem?_set_ne (fun q => hj q.symm)]
      exact S.own j e h
  · rcases hb j _ h1 with ⟨z, _⟩ | ⟨n1, h1⟩
    · cases z
    · rcases hb k _ h2 with ⟨z, _⟩ | ⟨n2, h2⟩
      · cases z
      · rw [List.getElem?_set_ne (fun q => n1 q.symm)] at h3
        rw [List.getElem?_set_ne (fun q => n2 q.symm)] at h4
        exact S.sep j k e f a h1 h2 h3 h4
/-- a slot takes a new list as its own -/
theorem SR.setOwn (S : SR K B F0 v F σ H) (i : Nat) {a : Addr} {d : D} (h0 : B.H0 a = none) (hF : F a = none) (at_ : At K F H a d) (new : ∀ (j : Nat) e, v[j]? = some (.own e) → σ[j]? ≠ some (some (V.ref a))) : SR K B F0 (v.set i (.own d)) F (σ.set i (some (.ref a))) H := by
  have hb : ∀ (j : Nat) (s : Sl), (v.set i (.own d))[j]? = some s → s = .own d ∧ j = i ∧ i < v.length ∨ j ≠ i ∧ v[j]? = some s := by
    intro j s h
    by_cases hj : i = j
    · subst hj
      by_cases hl : i < v.length
      · rw [List.getElem?_set_self hl] at h
        cases h
        exact .inl ⟨rfl, rfl, hl⟩
      · rw [List.getElem?_eq_none (by simpa using hl)] at h; cases h
    · rw [List.getElem?_set_ne hj] at h
      exact .inr ⟨fun e => hj e.symm, h⟩
  refine ⟨S.sF, S.sH, S.nw, S.sub, by rw [List.length_set, List.length_set, S.len], fun j e h => ?_, fun j e h => ?_, fun j k e f b h1 h2 h3 h4 => ?_⟩
  · rcases hb j _ h with ⟨z, _⟩ | ⟨hj, h⟩
    · cases z
    · rw [List.getElem?_set_ne (fun q => hj q.symm)]
      exact S.val j e h
  · rcases hb j _ h with ⟨z, rfl, hl⟩ | ⟨hj, h⟩
    · cases z
      exact ⟨a, List.getElem?_set_self (by rw [← S.len]; exact hl), h0, hF, at_⟩
    · rw [List.getElem?_set_ne (fun q => hj q.symm)]
      exact S.own j e h
  · rcases hb j _ h1 with ⟨_, rfl, hl⟩ | ⟨n1, p1⟩
    · rcases hb k _ h2 with ⟨_, rfl, _⟩ | ⟨n2, p2⟩
      · rfl
      · rw [List.getElem?_set_self (by rw [← S.len]; exact hl)] at h3
        cases h3
        rw [List.getElem?_set_ne (fun q => n2 q.symm)] at h4
        exact absurd h4 (new k f p2)
    · rcases hb k _ h2 with ⟨_, rfl, hl⟩ | ⟨n2, p2⟩
      · rw [List.getElem?_set_self (by rw [← S.len]; exact hl)] at h4
        cases h4
        rw [List.getElem?_set_ne (fun q => n1 q.symm)] at h3
        exact absurd h3 (new j e p1)
      · rw [List.getElem?_set_ne (fun q => n1 q.symm)] at h3
        rw [List.getElem?_set_ne (fun q => n2 q.symm)] at h4
        exact S.sep j k e f b p1 p2 h3 h4
/-- a slot's own list is given up -/
theorem SR.frz (S : SR K B F0 v F σ H) (i : Nat) : ∃ F', SR K B F0 (Rw.frz v i) F' σ H := by
  unfold Rw.frz
  cases hv : v[i]? with
  | none => exact ⟨F, S⟩
  | some s =>
    cases s with
    | un => exact ⟨F, S⟩
    | val d => exact ⟨F, S⟩
    | own d =>
      obtain ⟨a, h1, h2, h3, h4⟩ := S.own i d hv
      obtain ⟨o, ho, hr⟩ := h4.froz h3
      have g : Same F (upd F a o) := fun b x e => by rw [upd_ne (ne_of_none e h3)]; exact e
      have hi : i < v.length := (List.getElem?_eq_some_iff.mp hv).1
      refine ⟨upd F a o, S.sF.trans g, S.sH, fun b hb => ?_, fun b x e => ?_, by rw [List.length_set, S.len], fun j e h => ?_, fun j e h => ?_, fun j k e f b p1 p2 p3 p4 => ?_⟩
      · by_cases hba : b = a
        · rw [hba]; exact .inr h2
        · rw [upd_ne hba] at hb; exact S.nw b hb
      · by_cases hba : b = a
        · rw [hba, upd_same] at e
          rw [hba, ← e]; exact ho
        · rw [upd_ne hba] at e; exact S.sub b x e
      · by_cases hj : i = j
        · subst hj
          have h' : (v.set i (.val d))[i]? = some (.val e) := h
          rw [List.getElem?_set_self hi] at h'
          cases h'
          exact ⟨.ref a, h1, hr⟩
        · have h' : (v.set i (.val d))[j]? = some (.val e) := h
          rw [List.getElem?_set_ne hj] at h'
          obtain ⟨x, p, q⟩ := S.val j e h'
          exact ⟨x, p, q.mono g⟩
      · by_cases hj : i = j
        · subst hj
          have h' : (v.set i (.val d))[i]? = some (.own e) := h
          rw [List.getElem?_set_self hi] at h'
          cases h'
        · have h' : (v.set i (.val d))[j]? = some (.own e) := h
          rw [List.getElem?_set_ne hj] at h'
          obtain ⟨b, p1, p2, p3, p4⟩ := S.own j e h'
          have hba : b ≠ a := fun z => hj (S.sep i j d e a hv h' h1 (by rw [← z]; exact p1))
          exact ⟨b, p1, p2, by rw [upd_ne hba]; exact p3, p4.gr g rfl⟩
      · have own_ : ∀ (j : Nat) e, (v.set i (Sl.val d))[j]? = some (.own e) → v[j]? = some (.own e) := fun j e h => by
          by_cases hj : i = j
          · subst hj
            rw [List.getElem?_set_self hi] at h
            cases h
          · rw [List.getElem?_set_ne hj] at h; exact h
        exact S.sep j k e f b (own_ j e p1) (own_ k f p2) p3 p4
end
end Rw

set_option Elab.async false
set_option linter.all false
set_option maxRecDepth 100000
namespace Rw
open PySem PySem.Spec L2

/-! ### modes of a value -/
inductive Md where
  | fz | bo | fr
/-- it never changes, or it is a list that stands just now -/
def MB (K : PySem.W.Frag) (F H : Hp) (x : V) (d : D) : Prop := Rep K F x d ∨ ∃ a, x = V.ref a ∧ At K F H a d
def MR (K : PySem.W.Frag) (m : Md) (H F' H' : Hp) (x : V) (d : D) : Prop := match m with
  | .fz => Rep K F' x d
  | .bo => MB K F' H' x d
  | .fr => ∃ a, x = V.ref a ∧ H a = none ∧ F' a = none ∧ At K F' H' a d
section
variable {K : PySem.W.Frag} {F H F' H' H0 : Hp} {x : V} {d : D}
theorem MB.rep (h : MB K F H x d) (s : Same F H) : Rep K H x d := by
  rcases h with h | ⟨a, rfl, h⟩
  · exact h.mono s
  · exact h.rep s
theorem MB.gr (h : MB K F H x d) (f : Same F F') (g : Same H H') : MB K F' H' x d := by
  rcases h with h | ⟨a, rfl, h⟩
  · exact .inl (h.mono f)
  · exact .inr ⟨a, rfl, h.same f g⟩
theorem MB.none (h : MB K F H x .none) : x = .non := by
  rcases h with h | ⟨a, _, h⟩
  · exact h.none_inv
  · exact h.elim
theorem MB.bool {b : Bool} (h : MB K F H x (.bool b)) : x = .bl b := by
  rcases h with h | ⟨a, _, h⟩
  · exact h.bool_inv
  · exact h.elim
theorem MB.int {i : Int} (h : MB K F H x (.int i)) : x = .int i := by
  rcases h with h | ⟨a, _, h⟩
  · exact h.int_inv
  · exact h.elim
theorem MB.str {i : Str} (h : MB K F H x (.str i)) : x = .str i := by
  rcases h with h | ⟨a, _, h⟩
  · exact h.str_inv
  · exact h.elim
theorem MB.list {ds : List D} (h : MB K F H x (.list ds)) (s : Same F H) : ∃ a xs, x = .ref a ∧ SqL K H a xs ∧ Reps K F xs ds := by
  rcases h with h | ⟨a, rfl, xs, e, r⟩
  · obtain ⟨a, xs, e, q, r⟩ := h.list_inv
    exact ⟨a, xs, e, s.seq q, r⟩
  · exact ⟨a, xs, rfl, .of e, r⟩
theorem MB.tuple {ds : List D} (h : MB K F H x (.tuple ds)) : ∃ a xs, x = .ref a ∧ SqT K F a xs ∧ Reps K F xs ds := by
  rcases h with h | ⟨a, _, h⟩
  · exact h.tuple_inv
  · exact h.elim
theorem MR.mb {m : Md} (h : MR K m H0 F H x d) : MB K F H x d := by
  cases m with
  | fz => exact .inl h
  | bo => exact h
  | fr =>
    obtain ⟨a, e, _, _, q⟩ := h
    exact .inr ⟨a, e, q⟩
theorem MR.back {m : Md} (h : MR K m H F' H' x d) (g : Same H0 H) : MR K m H0 F' H' x d := by
  cases m with
  | fz => exact h
  | bo => exact h
  | fr =>
    obtain ⟨a, e, n, n2, q⟩ := h
    exact ⟨a, e, g.free n, n2, q⟩
theorem MB.flat (h : MB K F H x d) (f : flatD d = true) : ∀ G, Rep K G x d := fun G => by
  cases d with
  | none => rw [h.none]; exact .non
  | bool b => rw [h.bool]; exact .bl b
  | int i => rw [h.int]; exact .int i
  | str s => rw [h.str]; exact .str s
  | _ => cases f
theorem MB.flatS (h : MB K F H x d) (f : flatD d = true) : ∀ (K' : PySem.W.Frag) (G : Hp), Rep K' G x d := fun K' G => by
  cases d with
  | none => rw [h.none]; exact .non
  | bool b => rw [h.bool]; exact .bl b
  | int i => rw [h.int]; exact .int i
  | str s => rw [h.str]; exact .str s
  | _ => cases f
end

/-! ### exceptions -/
def RepS (y : V) (d : D) : Prop := ∀ (K : PySem.W.Frag) (H : Hp), Rep K H y d
def RepX (B : Bs) (x : DX) (cls : Value) (dd : Option Addr) (H : Hp) : Prop :=
  ∃ (C d : Addr) (fs : List (Str × V)), B.cl x.cls = some C ∧ cls = Value.ref C ∧ dd = some d ∧ H d = some (.xd fs) ∧ ∀ n e, x.fs.lookup n = some e → ∃ y, fs.lookup (Str.ofString n) = some y ∧ RepS y e
def XOk (B : Bs) (W : WX) (F H : Hp) (σ : St) (X : KX) : Prop := ∀ x cls dd F' H', Gr F H F' H' → Same F' H' → RepX B x cls dd H' → X x → W cls dd σ H'
theorem XOk.gr {B : Bs} {W : WX} {F H F1 H1 : Hp} {σ : St} {X : KX} (h : XOk B W F H σ X) (g : Gr F H F1 H1) : XOk B W F1 H1 σ X :=
  fun x cls dd F' H' g' s r hx => h x cls dd F' H' (g.trans g') s r hx
theorem XOk.no {B : Bs} {W : WX} {F H : Hp} {σ : St} : XOk B W F H σ (fun _ => False) := fun _ _ _ _ _ _ _ _ z => z.elim

/-! ### readings -/
def MonoE (f : ET) : Prop := ∀ (v : Ev) (K K' : KD) (X X' : KX), (∀ d, K d → K' d) → (∀ x, X x → X' x) → f v K X → f v K' X'
def MonoT (f : TT) : Prop := ∀ (v : Ev) (K K' : Bool → Prop) (X X' : KX), (∀ d, K d → K' d) → (∀ x, X x → X' x) → f v K X → f v K' X'
def MonoA (f : AT) : Prop := ∀ (v : Ev) (K K' : List D → Prop) (X X' : KX), (∀ d, K d → K' d) → (∀ x, X x → X' x) → f v K X → f v K' X'
def MonoG (f : DSp) : Prop := ∀ (ds : List D) (K K' : KD) (X X' : KX), (∀ d, K d → K' d) → (∀ x, X x → X' x) → f ds K X → f ds K' X'
def MonoP (f : PT) : Prop := ∀ (v : Ev) (K K' : Option Int → Prop) (X X' : KX), (∀ d, K d → K' d) → (∀ x, X x → X' x) → f v K X → f v K' X'
def Mono2 (o : O2) : Prop := ∀ (a b : D) (K K' : KD), (∀ d, K d → K' d) → o a b K → o a b K'
def Mono1 (o : O1) : Prop := ∀ (a : D) (K K' : KD), (∀ d, K d → K' d) → o a K → o a K'

def rdE (K : PySem.W.Frag) (B : Bs) (W : WX) (m : Md) (f : ET) : TE := fun σ H Q => ∃ F0 v F X, SR K B F0 v F σ H ∧ XOk B W F H σ X ∧ f v (fun d => ∀ x F' H', Gr F H F' H' → Same F' H' → MR K m H F' H' x d → Q x H') X
def rdT (K : PySem.W.Frag) (B : Bs) (W : WX) (f : TT) : L2.TT := fun σ H Q => ∃ F0 v F X, SR K B F0 v F σ H ∧ XOk B W F H σ X ∧ f v (fun c => ∀ F' H', Gr F H F' H' → Same F' H' → Q c H') X
def MRs (K : PySem.W.Frag) (F H : Hp) : Bool → List V → List D → Prop
  | true, xs, ds => Reps K F xs ds
  | false, xs, ds => Paired (fun x d => MB K F H x d) xs ds
def rdA (K : PySem.W.Frag) (B : Bs) (W : WX) (z : Bool) (n : Nat) (f : AT) : TA := fun σ H Q => ∃ F0 v F X, SR K B F0 v F σ H ∧ XOk B W F H σ X ∧ f v (fun ds => ∀ xs F' H', Gr F H F' H' → Same F' H' → MRs K F' H' z xs ds → xs.length = n → Q xs H') X
section
variable {K : PySem.W.Frag} {B : Bs} {F0 : Hp} {W : WX} {m : Md} {z : Bool} {σ : St} {H F : Hp} {v : Ev} {X : KX}
theorem rdE.mk {f : ET} {KK : KD} {Q : VK} (hm : MonoE f) (S : SR K B F0 v F σ H) (hX : XOk B W F H σ X) (h : f v KK X) (hq : ∀ d, KK d → ∀ x F' H', Gr F H F' H' → Same F' H' → MR K m H F' H' x d → Q x H') : rdE K B W m f σ H Q :=
  ⟨F0, v, F, X, S, hX, hm _ _ _ _ _ hq (fun _ h => h) h⟩
theorem rdT.mk {f : TT} {KK : Bool → Prop} {Q : Bool → Hp → Prop} (hm : MonoT f) (S : SR K B F0 v F σ H) (hX : XOk B W F H σ X) (h : f v KK X) (hq : ∀ d, KK d → ∀ F' H', Gr F H F' H' → Same F' H' → Q d H') : rdT K B W f σ H Q :=
  ⟨F0, v, F, X, S, hX, hm _ _ _ _ _ hq (fun _ h => h) h⟩
theorem rdA.mk {f : AT} {KK : List D → Prop} {Q : List V → Hp → Prop} (hm : MonoA f) (S : SR K B F0 v F σ H) (hX : XOk B W F H σ X) (h : f v KK X) {n : Nat} (hq : ∀ d, KK d → ∀ x F' H', Gr F H F' H' → Same F' H' → MRs K F' H' z x d → x.length = n → Q x H') : rdA K B W z n f σ H Q :=
  ⟨F0, v, F, X, S, hX, hm _ _ _ _ _ hq (fun _ h => h) h⟩
end
structure DE (X : Cx) (B : Bs) (W : WX) (m : Md) (e : Expr) (f : ET) : Prop where
  pe : PE X e (rdE X.K B W m f)
  mono : MonoE f
structure DT (X : Cx) (B : Bs) (W : WX) (e : Expr) (f : TT) : Prop where
  pt : L2.PT X e (rdT X.K B W f)
  mono : MonoT f
structure DA (X : Cx) (B : Bs) (W : WX) (z : Bool) (es : List Expr) (f : AT) : Prop where
  pa : PA X es (rdA X.K B W z es.length f)
  mono : MonoA f
theorem PE.imp {X : Cx} {e : Expr} {t t' : TE} (h : PE X e t) (i : ∀ σ H Q, t' σ H Q → t σ H Q) : PE X e t' := ⟨fun pins s σ H Q I q => h.run pins s σ H Q I (i σ H Q q)⟩
theorem PT.imp {X : Cx} {e : Expr} {t t' : L2.TT} (h : L2.PT X e t) (i : ∀ σ H Q, t' σ H Q → t σ H Q) : L2.PT X e t' := ⟨fun pins s σ H Q I q => h.run pins s σ H Q I (i σ H Q q)⟩
theorem PA.imp {X : Cx} {e : List Expr} {t t' : TA} (h : PA X e t) (i : ∀ σ H Q, t' σ H Q → t σ H Q) : PA X e t' := ⟨fun pos pins s σ H Q I q => h.run pos pins s σ H Q I (i σ H Q q)⟩

section
variable {X : Cx} {B : Bs} {W : WX} {m : Md} {e a b c : Expr} {f fa fb fc : ET} {pos : Pos}
/-- weaker modes -/
theorem DE.bo (h : DE X B W m e f) : DE X B W .bo e f := ⟨PE.imp h.pe fun σ H Q ⟨F0, v, F, Xx, S, hX, q⟩ => ⟨F0, v, F, Xx, S, hX, h.mono _ _ _ _ _ (fun d k x F' H' g s r => k x F' H' g s r.mb) (fun _ z => z) q⟩, h.mono⟩
theorem DE.fz (h : DE X B W .fr e f) : DE X B W .fz e f := ⟨PE.imp h.pe fun σ H Q ⟨F0, v, F, Xx, S, hX, q⟩ => ⟨F0, v, F, Xx, S, hX, h.mono _ _ _ _ _ (fun d k x F' H' g s r => by
  obtain ⟨p, rfl, n0, nF, at_⟩ := r
  obtain ⟨o, ho, hr⟩ := at_.froz nF
  have f1 : Same F' (upd F' p o) := fun b y e => by rw [upd_ne (ne_of_none e nF)]; exact e
  refine k _ _ H' ⟨g.f.trans f1, g.h, fun b hb => ?_⟩ (fun b y e => ?_) hr
  · by_cases hbp : b = p
    · rw [hbp]; exact .inr n0
    · rw [upd_ne hbp] at hb; exact g.n b hb
  · by_cases hbp : b = p
    · rw [hbp, upd_same] at e; rw [hbp, ← e]; exact ho
    · rw [upd_ne hbp] at e; exact s b y e) (fun _ z => z) q⟩, h.mono⟩
end
end Rw

set_option Elab.async false
set_option linter.all false
set_option maxRecDepth 100000
namespace Rw
open PySem PySem.Spec L2

section
variable {X : Cx} {B : Bs} {W : WX} {m : Md} {e a b c : Expr} {f fa fb fc : ET} {pos : Pos}
theorem DE.any (h : DE X B W .fr e f) : DE X B W m e f := by
  cases m with
  | fz => exact h.fz
  | bo => exact h.bo
  | fr => exact h
theorem DE.weak (h : DE X B W .fz e f) (hm : m ≠ .fr := by decide) : DE X B W m e f := by
  cases m with
  | fz => exact h
  | bo => exact h.bo
  | fr => exact absurd rfl hm

/-! ### names and constants -/
theorem mono_eV (i : Nat) : MonoE (eV i) := fun v K K' X X' hk hx h => by
  unfold eV at h ⊢
  cases q : v[i]? with
  | none => rw [q] at h; exact h.elim
  | some s =>
    rw [q] at h
    cases s with
    | val d => exact hk _ h
    | _ => exact h.elim
theorem mono_eB (i : Nat) : MonoE (eB i) := fun v K K' X X' hk hx h => by
  unfold eB at h ⊢
  cases q : v[i]? with
  | none => rw [q] at h; exact h.elim
  | some s =>
    rw [q] at h
    cases s with
    | val d => exact hk _ h
    | own d => exact hk _ h
    | _ => exact h.elim
theorem de_v (i : Nat) {x : Str} (hN : X.N[i]? = some x := by rfl) (hv : Vis X.env.scope x := by first | exact Or.inl rfl | exact Or.inr (Or.inl rfl) | exact Or.inr (Or.inr rfl)) (hd : (x == ("__debug__" : Str)) = false := by decide)
    (hcd : (x == ("__classdict__" : Str)) = false := by decide) : DE X B W .fz (.Name x pos) (eV i) := ⟨PE.imp (pe_var hN hv hd hcd) fun σ H Q ⟨F0, v, F, Xx, S, hX, q⟩ => by
  unfold eV at q
  cases h : v[i]? with
  | none => rw [h] at q; exact q.elim
  | some s =>
    rw [h] at q
    cases s with
    | val d =>
      obtain ⟨x, h1, h2⟩ := S.val i d h
      exact ⟨x, h1, q x F H (.refl _ _) S.sub h2⟩
    | _ => exact q.elim, mono_eV i⟩
theorem de_b (i : Nat) {x : Str} (hN : X.N[i]? = some x := by rfl) (hv : Vis X.env.scope x := by first | exact Or.inl rfl | exact Or.inr (Or.inl rfl) | exact Or.inr (Or.inr rfl)) (hd : (x == ("__debug__" : Str)) = false := by decide)
    (hcd : (x == ("__classdict__" : Str)) = false := by decide) : DE X B W .bo (.Name x pos) (eB i) := ⟨PE.imp (pe_var hN hv hd hcd) fun σ H Q ⟨F0, v, F, Xx, S, hX, q⟩ => by
  unfold eB at q
  cases h : v[i]? with
  | none => rw [h] at q; exact q.elim
  | some s =>
    rw [h] at q
    cases s with
    | val d =>
      obtain ⟨x, h1, h2⟩ := S.val i d h
      exact ⟨x, h1, q x F H (.refl _ _) S.sub (.inl h2)⟩
    | own d =>
      obtain ⟨p, h1, h2, h3, h4⟩ := S.own i d h
      exact ⟨_, h1, q _ F H (.refl _ _) S.sub (.inr ⟨p, rfl, h4⟩)⟩
    | _ => exact q.elim, mono_eB i⟩
theorem mono_eC (d : D) : MonoE (eC d) := fun _ _ _ _ _ hk _ h => hk _ h
/-- a constant, by its value -/
theorem de_c {x : V} {d : D} (h : PE X e (tC x)) (r : ∀ F, Rep X.K F x d) : DE X B W .fz e (eC d) := ⟨PE.imp h fun σ H Q ⟨F0, v, F, Xx, S, hX, q⟩ => q x F H (.refl _ _) S.sub (r F), mono_eC d⟩
theorem de_int {i j} : DE X B W .fz (.Constant (.int i) j pos) (eI i) := de_c pe_int fun _ => .int i
theorem de_tt {j} : DE X B W .fz (.Constant (.bool true) j pos) eT := de_c pe_bl fun _ => .bl true
theorem de_ff {j} : DE X B W .fz (.Constant (.bool false) j pos) eF := de_c pe_bl fun _ => .bl false
theorem de_non {j} : DE X B W .fz (.Constant .none j pos) eN := de_c pe_non fun _ => .non
theorem de_str {s : String} {x : Str} {j} (h : x = Str.ofString s := by rfl) : DE X B W .fz (.Constant (.str x) j pos) (eS s) := by
  subst h
  exact de_c pe_str fun _ => .str _
/-- a module's whole number -/
theorem de_gi {x : Str} {i : Int} {t : Tok} (hm : X.mg x = some (.int i t)) (hg : Gl X x := by rfl) (hd : (x == ("__debug__" : Str)) = false := by decide) : DE X B W .fz (.Name x pos) (eI i) := de_c (pe_glob (v := V.int i) hg hm ⟨t, rfl⟩ hd) fun _ => .int i
/-- a module's constant of any kind -/
theorem de_g {x : Str} {y : V} {u : Value} {d : D} (hm : X.mg x = some u) (r : RelV y u) (hr : ∀ F, Rep X.K F y d) (hg : Gl X x := by rfl) (hd : (x == ("__debug__" : Str)) = false := by decide) : DE X B W .fz (.Name x pos) (eC d) := de_c (pe_glob hg hm r hd) hr

/-! ### two-place operators -/
def Br2 (K : PySem.W.Frag) (m : Md) (r : R2) (o : O2) : Prop := ∀ (F H : Hp) (x y : V) (a b : D) (KK : KD) (Q : VK), Same F H → MB K F H x a → MB K F H y b → o a b KK →
  (∀ d z F' H', Gr F H F' H' → Same F' H' → MR K m H F' H' z d → KK d → Q z H') → r x y H Q
def Br1 (K : PySem.W.Frag) (m : Md) (r : V → Hp → VK → Prop) (o : O1) : Prop := ∀ (F H : Hp) (x : V) (a : D) (KK : KD) (Q : VK), Same F H → MB K F H x a → o a KK →
  (∀ d z F' H', Gr F H F' H' → Same F' H' → MR K m H F' H' z d → KK d → Q z H') → r x H Q
theorem mono_e2 {o : O2} (mo : Mono2 o) (ma : MonoE fa) (mb : MonoE fb) : MonoE (e2 o fa fb) := fun v K K' X X' hk hx h =>
  ma v _ _ _ _ (fun x h => mb v _ _ _ _ (fun y h => mo x y _ _ hk h) hx h) hx h
theorem mono_e1 {o : O1} (mo : Mono1 o) (ma : MonoE fa) : MonoE (e1 o fa) := fun v K K' X X' hk hx h =>
  ma v _ _ _ _ (fun x h => mo x _ _ hk h) hx h
theorem rd_e2 {K : PySem.W.Frag} {r : R2} {o : O2} (br : Br2 K m r o) (ma : MonoE fa) (mb : MonoE fb) {σ : St} {H : Hp} {Q : VK} (h : rdE K B W m (e2 o fa fb) σ H Q) : tOp r (rdE K B W .bo fa) (rdE K B W .bo fb) σ H Q := by
  obtain ⟨F0, v, F, Xx, S, hX, h⟩ := h
  refine rdE.mk ma S hX h fun da ha x F1 H1 g1 s1 m1 => ?_
  refine rdE.mk mb (S.gr g1 s1) (hX.gr g1) ha fun db hb y F2 H2 g2 s2 m2 => ?_
  exact br F2 H2 x y da db _ Q s2 (MB.gr m1 g2.f g2.h) m2 hb fun d z F3 H3 g3 s3 m3 k => k z F3 H3 ((g1.trans g2).trans g3) s3 (m3.back (g1.trans g2).h)
theorem rd_e1 {K : PySem.W.Frag} {r : V → Hp → VK → Prop} {o : O1} (br : Br1 K m r o) (ma : MonoE fa) {σ : St} {H : Hp} {Q : VK} (h : rdE K B W m (e1 o fa) σ H Q) : tUn r (rdE K B W .bo fa) σ H Q := by
  obtain ⟨F0, v, F, Xx, S, hX, h⟩ := h
  refine rdE.mk ma S hX h fun da ha x F1 H1 g1 s1 m1 => ?_
  exact br F1 H1 x da _ Q s1 m1 ha fun d z F3 H3 g3 s3 m3 k => k z F3 H3 (g1.trans g3) s3 (m3.back g1.h)
theorem de_bin {op : Operator} {r : R2} {o : O2} (ho : OpR X (binaryOp op) r) (br : Br2 X.K m r o) (mo : Mono2 o) (ha : DE X B W .bo a fa) (hb : DE X B W .bo b fb) : DE X B W m (.BinOp a op b pos) (e2 o fa fb) :=
  ⟨PE.imp (pe_op ho ha.pe hb.pe) fun _ _ _ h => rd_e2 br ha.mono hb.mono h, mono_e2 mo ha.mono hb.mono⟩
theorem de_cmp {op : CmpOp} {r : R2} {o : O2} (ho : OpR X (compareOp op) r) (br : Br2 X.K m r o) (mo : Mono2 o) (ha : DE X B W .bo a fa) (hb : DE X B W .bo b fb) (hm : behindInMarks op b = false) : DE X B W m (.Compare a [op] [b] pos) (e2 o fa fb) :=
  ⟨PE.imp (pe_cmpR ho ha.pe hb.pe hm) fun _ _ _ h => rd_e2 br ha.mono hb.mono h, mono_e2 mo ha.mono hb.mono⟩
theorem de_un {op : UnaryOp} {r : V → Hp → VK → Prop} {o : O1} (ho : UnR X (unaryOp op) r) (br : Br1 X.K m r o) (mo : Mono1 o) (ha : DE X B W .bo a fa) : DE X B W m (.UnaryOp op a pos) (e1 o fa) :=
  ⟨PE.imp (pe_un ho ha.pe) fun _ _ _ h => rd_e1 br ha.mono h, mono_e1 mo ha.mono⟩

theorem m_add : Mono2 oAdd := fun a b K K' hk h => by
  cases a <;> cases b <;> first | exact False.elim h | exact hk _ h
theorem m_sub : Mono2 oSub := fun a b K K' hk h => by
  cases a <;> cases b <;> first | exact False.elim h | exact hk _ h
theorem m_mul : Mono2 oMul := fun a b K K' hk h => by
  cases a <;> cases b <;> first | exact False.elim h | exact ⟨h.1, hk _ h.2⟩
theorem m_div : Mono2 oDiv := fun a b K K' hk h => by
  cases a <;> cases b <;> first | exact False.elim h | exact ⟨h.1, hk _ h.2⟩
theorem m_mod : Mono2 oMod := fun a b K K' hk h => by
  cases a <;> cases b <;> first | exact False.elim h | exact ⟨h.1, hk _ h.2⟩
theorem m_pow : Mono2 oPow := fun a b K K' hk h => by
  cases a <;> cases b <;> first | exact False.elim h | exact ⟨h.1, hk _ h.2⟩
theorem m_lt : Mono2 oLt := fun a b K K' hk h => by
  cases a <;> cases b <;> first | exact False.elim h | exact hk _ h
theorem m_le : Mono2 oLe := fun a b K K' hk h => by
  cases a <;> cases b <;> first | exact False.elim h | exact hk _ h
theorem m_gt : Mono2 oGt := fun a b K K' hk h => by
  cases a <;> cases b <;> first | exact False.elim h | exact hk _ h
theorem m_ge : Mono2 oGe := fun a b K K' hk h => by
  cases a <;> cases b <;> first | exact False.elim h | exact hk _ h
theorem m_eq : Mono2 oEq := fun a b K K' hk h => by
  cases a <;> cases b <;> first | exact hk _ h | exact ⟨h.1, h.2.1, hk _ h.2.2⟩
theorem m_ne : Mono2 oNe := fun a b K K' hk h => by
  cases a <;> cases b <;> first | exact hk _ h | exact ⟨h.1, h.2.1, hk _ h.2.2⟩
theorem m_in : Mono2 oIn := fun a b K K' hk h => by
  cases b <;> first | exact False.elim h | exact ⟨h.1, h.2.1, hk _ h.2.2⟩
theorem m_notIn : Mono2 oNotIn := fun a b K K' hk h => by
  cases b <;> first | exact False.elim h | exact ⟨h.1, h.2.1, hk _ h.2.2⟩
theorem m_ix : Mono2 oIx := fun a b K K' hk h => by
  have g : ∀ o : Option D, getK o K → getK o K' := fun o => by
    cases o with
    | none => exact id
    | some d => exact hk d
  cases a <;> cases b <;> first | exact False.elim h | exact g _ h
theorem m_cat : Mono2 oCat := fun a b K K' hk h => by
  cases a <;> cases b <;> first | exact False.elim h | exact ⟨h.1, hk _ h.2⟩
theorem m_rep : Mono2 oRep := fun a b K K' hk h => by
  cases a <;> cases b <;> first | exact False.elim h | exact ⟨h.1, hk _ h.2⟩
theorem m_max2 : Mono2 oMax2 := fun a b K K' hk h => by
  cases a <;> cases b <;> first | exact False.elim h | exact hk _ h
theorem m_min2 : Mono2 oMin2 := fun a b K K' hk h => by
  cases a <;> cases b <;> first | exact False.elim h | exact hk _ h
theorem m_neg : Mono1 oNeg := fun a K K' hk h => by
  cases a <;> first | exact False.elim h | exact hk _ h
theorem m_abs : Mono1 oAbs := fun a K K' hk h => by
  cases a <;> first | exact False.elim h | exact hk _ h
theorem m_len : Mono1 oLen := fun a K K' hk h => by
  cases a <;> first | exact False.elim h | exact hk _ h
theorem m_int : Mono1 oInt := fun a K K' hk h => by
  cases a <;> first | exact False.elim h | exact hk _ h
theorem m_sum : Mono1 oSum := fun a K K' hk h => by
  cases a with
  | list ds =>
    have g : ∀ o : Option (List Int), (match o with | some ns => K (.int ns.sum) | none => False) → (match o with | some ns => K' (.int ns.sum) | none => False) := fun o => by
      cases o with
      | none => exact id
      | some ns => exact hk _
    exact g _ h
  | _ => exact False.elim h
theorem m_tupOf : Mono1 oTupOf := fun a K K' hk h => by
  cases a <;> first | exact False.elim h | exact hk _ h
theorem m_lstOf : Mono1 oLstOf := fun a K K' hk h => by
  cases a <;> first | exact False.elim h | exact hk _ h
theorem m_isN : Mono1 oIsN := fun a K K' hk h => hk _ h
theorem m_notN : Mono1 oNotN := fun a K K' hk h => hk _ h
theorem m_isi (p : D → Bool) : Mono1 (oIsi p) := fun a K K' hk h => hk _ h

section
variable {K : PySem.W.Frag}
/-- whole numbers in, a flat value out -/
theorem Br2.ii {r : R2} {o : O2} (hn : ∀ a b KK, o a b KK → ∃ i j, a = .int i ∧ b = .int j)
    (g : ∀ i j KK H (Q : VK), o (.int i) (.int j) KK → (∀ d z, KK d → (∀ F, Rep K F z d) → Q z H) → r (.int i) (.int j) H Q) : Br2 K .fz r o := by
  intro F H x y a b KK Q s mx my h q
  obtain ⟨i, j, rfl, rfl⟩ := hn a b KK h
  rw [mx.int, my.int]
  exact g i j KK H Q h fun d z k hr => q d z F H (.refl _ _) s (hr F) k
theorem b_add : Br2 K .fz (rI0 fun i j => .int (i + j)) oAdd := .ii (fun a b KK h => by cases a <;> cases b <;> first | exact False.elim h | exact ⟨_, _, rfl, rfl⟩)
  fun i j KK H Q h q => ⟨i, j, rfl, rfl, q _ _ h fun _ => .int _⟩
theorem b_mul : Br2 K .fz (fun x y H Q => rI CMul (fun i j => .int (i * j)) x y H Q ∨ rI CMulW (fun i j => .int (i * j)) x y H Q) oMul := .ii (fun a b KK h => by cases a <;> cases b <;> first | exact False.elim h | exact ⟨_, _, rfl, rfl⟩)
  fun i j KK H Q h q => by
    obtain ⟨h | h | h, k⟩ := h
    · exact .inl ⟨i, j, rfl, rfl, .inl h, q _ _ k fun _ => .int _⟩
    · exact .inl ⟨i, j, rfl, rfl, .inr h, q _ _ k fun _ => .int _⟩
    · exact .inr ⟨i, j, rfl, rfl, wide_mul h.1 h.2 (by decide) (by decide) (by decide), q _ _ k fun _ => .int _⟩
theorem b_div : Br2 K .fz (fun x y H Q => rI CDivN (fun i j => .int (i.fdiv j)) x y H Q ∨ rI CDivW (fun i j => .int (i / j)) x y H Q) oDiv := .ii (fun a b KK h => by cases a <;> cases b <;> first | exact False.elim h | exact ⟨_, _, rfl, rfl⟩)
  fun i j KK H Q h q => by
    obtain ⟨⟨h0, h | ⟨h, h2⟩⟩, k⟩ := h
    · exact .inl ⟨i, j, rfl, rfl, ⟨h0, h⟩, q _ _ k fun _ => .int _⟩
    · refine .inr ⟨i, j, rfl, rfl, wide_div h h2 (by decide) (by decide), ?_⟩
      show Q (V.int (i / j)) H
      rw [← Int.fdiv_eq_ediv_of_nonneg i (show (0 : Int) ≤ j by omega)]
      exact q _ _ k fun _ => .int _
theorem b_mod : Br2 K .fz (rI (fun _ j => j ≠ 0) fun i j => .int (i.fmod j)) oMod := .ii (fun a b KK h => by cases a <;> cases b <;> first | exact False.elim h | exact ⟨_, _, rfl, rfl⟩)
  fun i j KK H Q h q => ⟨i, j, rfl, rfl, h.1, q _ _ h.2 fun _ => .int _⟩
theorem b_pow : Br2 K .fz (rI CPow fun i j => .int (i ^ j.toNat)) oPow := .ii (fun a b KK h => by cases a <;> cases b <;> first | exact False.elim h | exact ⟨_, _, rfl, rfl⟩)
  fun i j KK H Q h q => ⟨i, j, rfl, rfl, h.1, q _ _ h.2 fun _ => .int _⟩
theorem b_lt : Br2 K .fz (rI0 fun i j => .bl (decide (i < j))) oLt := .ii (fun a b KK h => by cases a <;> cases b <;> first | exact False.elim h | exact ⟨_, _, rfl, rfl⟩)
  fun i j KK H Q h q => ⟨i, j, rfl, rfl, q _ _ h fun _ => .bl _⟩
theorem b_le : Br2 K .fz (rI0 fun i j => .bl (decide (i ≤ j))) oLe := .ii (fun a b KK h => by cases a <;> cases b <;> first | exact False.elim h | exact ⟨_, _, rfl, rfl⟩)
  fun i j KK H Q h q => ⟨i, j, rfl, rfl, q _ _ h fun _ => .bl _⟩
theorem b_gt : Br2 K .fz (rI0 fun i j => .bl (decide (j < i))) oGt := .ii (fun a b KK h => by cases a <;> cases b <;> first | exact False.elim h | exact ⟨_, _, rfl, rfl⟩)
  fun i j KK H Q h q => ⟨i, j, rfl, rfl, q _ _ h fun _ => .bl _⟩
theorem b_ge : Br2 K .fz (rI0 fun i j => .bl (decide (j ≤ i))) oGe := .ii (fun a b KK h => by cases a <;> cases b <;> first | exact False.elim h | exact ⟨_, _, rfl, rfl⟩)
  fun i j KK H Q h q => ⟨i, j, rfl, rfl, q _ _ h fun _ => .bl _⟩
theorem b_max2 : Br2 K .fz (fun x y H Q => ∃ i j, x = V.int i ∧ y = V.int j ∧ Q (.int (if j > i then j else i)) H) oMax2 := .ii (fun a b KK h => by cases a <;> cases b <;> first | exact False.elim h | exact ⟨_, _, rfl, rfl⟩)
  fun i j KK H Q h q => ⟨i, j, rfl, rfl, q _ _ h fun _ => .int _⟩
theorem b_min2 : Br2 K .fz (fun x y H Q => ∃ i j, x = V.int i ∧ y = V.int j ∧ Q (.int (if j < i then j else i)) H) oMin2 := .ii (fun a b KK h => by cases a <;> cases b <;> first | exact False.elim h | exact ⟨_, _, rfl, rfl⟩)
  fun i j KK H Q h q => ⟨i, j, rfl, rfl, q _ _ h fun _ => .int _⟩
theorem b_neg : Br1 K .fz (rU fun i => .int (-i)) oNeg := by
  intro F H x a KK Q s mx h q
  cases a <;> first | exact False.elim h | skip
  rename_i i
  exact ⟨i, mx.int, q _ _ F H (.refl _ _) s (.int _) h⟩
/-- equality -/
theorem eq_core {F H : Hp} {x y : V} {a b : D} {KK : KD} (s : Same F H) (mx : MB K F H x a) (my : MB K F H y b) (h : oEq a b KK) : KK (.bool (eqv a b)) ∧ ((scal x y = true ∧ decide (x = y) = eqv a b) ∨ (cmpOk a ∧ cmpOk b)) := by
  cases a <;> cases b <;> first
    | exact ⟨h.2.2, .inr ⟨h.1, h.2.1⟩⟩
    | (rw [mx.int, my.int]; exact ⟨h, .inl ⟨rfl, by unfold eqv; rw [Bool.eq_iff_iff]; simp⟩⟩)
    | (rw [mx.bool, my.bool]; refine ⟨h, .inl ⟨rfl, ?_⟩⟩; unfold eqv; rw [Bool.eq_iff_iff]; simp)
    | (rw [mx.str, my.str]; exact ⟨h, .inl ⟨rfl, by unfold eqv; rw [Bool.eq_iff_iff]; simp⟩⟩)
    | (rw [mx.none, my.none]; exact ⟨h, .inl ⟨rfl, by unfold eqv; simp⟩⟩)
theorem ne_core {F H : Hp} {x y : V} {a b : D} {KK : KD} (s : Same F H) (mx : MB K F H x a) (my : MB K F H y b) (h : oNe a b KK) : KK (.bool (!eqv a b)) ∧ ((scal x y = true ∧ decide (x = y) = eqv a b) ∨ (cmpOk a ∧ cmpOk b)) := by
  cases a <;> cases b <;> first
    | exact ⟨h.2.2, .inr ⟨h.1, h.2.1⟩⟩
    | (rw [mx.int, my.int]; exact ⟨h, .inl ⟨rfl, by unfold eqv; rw [Bool.eq_iff_iff]; simp⟩⟩)
    | (rw [mx.bool, my.bool]; refine ⟨h, .inl ⟨rfl, ?_⟩⟩; unfold eqv; rw [Bool.eq_iff_iff]; simp)
    | (rw [mx.str, my.str]; exact ⟨h, .inl ⟨rfl, by unfold eqv; rw [Bool.eq_iff_iff]; simp⟩⟩)
    | (rw [mx.none, my.none]; exact ⟨h, .inl ⟨rfl, by unfold eqv; simp⟩⟩)
theorem b_eq : Br2 K .fz (fun x y H Q => rEq x y H Q ∨ rEqD K x y H Q) oEq := by
  intro F H x y a b KK Q s mx my h q
  obtain ⟨k, c⟩ := eq_core s mx my h
  rcases c with ⟨sc, e⟩ | ⟨ca, cb⟩
  · exact .inl ⟨sc, by rw [e]; exact q _ _ F H (.refl _ _) s (.bl _) k⟩
  · exact .inr ⟨a, b, (mx.rep s).dp ca.1, (my.rep s).dp cb.1, ca.shaped, cb.shaped, by rw [eqv_is]; exact q _ _ F H (.refl _ _) s (.bl _) k⟩
theorem b_ne : Br2 K .fz (fun x y H Q => rNe x y H Q ∨ rNeD K x y H Q) oNe := by
  intro F H x y a b KK Q s mx my h q
  obtain ⟨k, c⟩ := ne_core s mx my h
  rcases c with ⟨sc, e⟩ | ⟨ca, cb⟩
  · exact .inl ⟨sc, by rw [e]; exact q _ _ F H (.refl _ _) s (.bl _) k⟩
  · exact .inr ⟨a, b, (mx.rep s).dp ca.1, (my.rep s).dp cb.1, ca.shaped, cb.shaped, by rw [eqv_is]; exact q _ _ F H (.refl _ _) s (.bl _) k⟩
theorem atD_atI {ds : List D} {i : Int} {d : D} {F : Hp} {xs : List V} (h : atD ds i = some d) (r : Reps K F xs ds) : ∃ x, L2.atI xs i = some x ∧ Rep K F x d := by
  have hl := r.length
  unfold atD at h
  unfold L2.atI L2.ixN
  by_cases h0 : 0 ≤ i
  · rw [if_pos h0] at h
    rw [if_pos h0]
    have hi : i.toNat < ds.length := (List.getElem?_eq_some_iff.mp h).1
    obtain ⟨x, h1, h2⟩ := r.get h
    refine ⟨x, ?_, h2⟩
    rw [if_pos (by omega)]
    exact h1
  · rw [if_neg h0] at h
    rw [if_neg h0]
    by_cases h1 : 0 ≤ i + ds.length
    · rw [if_pos h1] at h
      obtain ⟨x, h2, h3⟩ := r.get h
      refine ⟨x, ?_, h3⟩
      rw [if_pos (by omega), hl]
      exact h2
    · rw [if_neg h1] at h; cases h
theorem b_ix : Br2 K .fz (fun x y H Q => rIxL K x y H Q ∨ rIxT K x y H Q) oIx := by
  intro F H x y a b KK Q s mx my h q
  cases a with
  | list ds =>
    cases b with
    | int i =>
      have h' : getK (atD ds i) KK := h
      cases e : atD ds i with
      | none => rw [e] at h'; exact h'.elim
      | some d =>
        rw [e] at h'
        obtain ⟨p, xs, rfl, sq, r⟩ := mx.list s
        obtain ⟨z, hz, rz⟩ := atD_atI e r
        exact .inl ⟨p, xs, i, z, rfl, my.int, sq, hz, q d z F H (.refl _ _) s rz h'⟩
    | _ => exact False.elim h
  | tuple ds =>
    cases b with
    | int i =>
      have h' : getK (atD ds i) KK := h
      cases e : atD ds i with
      | none => rw [e] at h'; exact h'.elim
      | some d =>
        rw [e] at h'
        obtain ⟨p, xs, rfl, sq, r⟩ := mx.tuple
        obtain ⟨z, hz, rz⟩ := atD_atI e r
        exact .inr ⟨p, xs, i, z, rfl, my.int, same_T s sq, hz, q d z F H (.refl _ _) s rz h'⟩
    | _ => exact False.elim h
  | _ => cases b <;> exact False.elim h
/-- a new list from H on -/
theorem fresh_lst {F H : Hp} {p : Addr} {xs : List V} {ds : List D} (s : Same F H) (n : H p = none) (r : Reps K F xs ds) :
    Gr F H F (upd H p (.lst xs)) ∧ Same F (upd H p (.lst xs)) ∧ MR K .fr H F (upd H p (.lst xs)) (.ref p) (.list ds) := by
  obtain ⟨g, s'⟩ := Gr.own (o := .lst xs) s n
  exact ⟨g, s', p, rfl, n, s.free n, xs, upd_same, r⟩
theorem fresh_tup {F H : Hp} {p : Addr} {xs : List V} {ds : List D} (s : Same F H) (n : H p = none) (r : Reps K F xs ds) :
    Gr F H (upd F p (.tup xs)) (upd H p (.tup xs)) ∧ Same (upd F p (.tup xs)) (upd H p (.tup xs)) ∧ MR K .fz H (upd F p (.tup xs)) (upd H p (.tup xs)) (.ref p) (.tuple ds) := by
  obtain ⟨g, s'⟩ := Gr.new (o := .tup xs) s n
  exact ⟨g, s', .tup (.of upd_same) (r.mono g.f)⟩
/-- list + list, of lists that are read -/
theorem op_catQ {X : Cx} : OpR X (binaryOp .Add) (fun x y H Q => ∃ p q' xs ys, x = V.ref p ∧ y = V.ref q' ∧ SqL X.K H p xs ∧ SqL X.K H q' ys ∧ xs.length + ys.length ≤ sizeLine ∧ ∀ l, H l = none → Q (.ref l) (upd H l (.lst (xs ++ ys)))) := by
  intro pins s σ H x y v u Q I rx ry h
  obtain ⟨p, q', xs, ys, rfl, rfl, h1, h2, hz, q⟩ := h
  cases rx
  cases ry
  obtain ⟨its, r, ⟨⟨c1, d1, dt1, s1⟩, n, o1, e1, _, e2⟩, _⟩ := I.list h1
  obtain ⟨its2, r2, ⟨⟨c2, d2, dt2, s2⟩, n2, o2, e3, _, e4⟩, _⟩ := I.list h2
  have l1 := r.length
  have l2 := r2.length
  simp only at e1 e2 e3 e4
  subst e1 e2 e3 e4
  refine PySem.concat_meets ⟨_, o1, rfl⟩ ⟨_, o2, rfl⟩ PySem.noFill_list_add PySem.seq_list_add PySem.F.slot_list_add PySem.F.entry_list_add (PySem.F.args_list_add_2 _ _)
    (PyProof.Rows.list_addW p q' its.toArray its2.toArray n n2 d1 d2 s1 s2 (by simp only [List.size_toArray]; omega)) ⟨o1, o2, ?_⟩
  have e : its.toArray ++ its2.toArray = (its ++ its2).toArray := by simp
  rw [e]
  refine ⟨.ref _, _, I.laid (t' := s.toks) (o := .lst (xs ++ ys)) (fun b o z => Heap.get?_push_of_some _ z) (Nat.le_refl _) ?_, rfl, q _ (I.hok.fresh (Nat.le_refl _))⟩
  exact ⟨by rw [List.length_append]; exact hz, _, _, r.append r2, Heap.get?_push_size _ rfl⟩
theorem b_cat : Br2 K .fr (fun x y H Q => ∃ p q' xs ys, x = V.ref p ∧ y = V.ref q' ∧ SqL K H p xs ∧ SqL K H q' ys ∧ xs.length + ys.length ≤ sizeLine ∧ ∀ l, H l = none → Q (.ref l) (upd H l (.lst (xs ++ ys)))) oCat := by
  intro F H x y a b KK Q s mx my h q
  cases a <;> cases b <;> first | exact False.elim h | skip
  rename_i ds es
  obtain ⟨p, xs, rfl, sq, r⟩ := mx.list s
  obtain ⟨p', ys, rfl, sq', r'⟩ := my.list s
  refine ⟨p, p', xs, ys, rfl, rfl, sq, sq', ?_, fun l hl => ?_⟩
  · rw [r.length, r'.length]; exact h.1
  · obtain ⟨g, s', mr⟩ := fresh_lst s hl (r.append r')
    exact q _ _ _ _ g s' mr h.2
end
end
end Rw

set_option Elab.async false
set_option linter.all false
set_option maxRecDepth 100000
namespace Rw
open PySem PySem.Spec L2

section
variable {K : PySem.W.Frag}
theorem b_sub : Br2 K .fz (fun x y H Q => rI0 (fun i j => .int (i - j)) x y H Q ∨ ∃ p q : Bool, x = V.bl p ∧ y = V.bl q ∧ Q (.int (b2n p - b2n q)) H) oSub := by
  intro F H x y a b KK Q s mx my h q
  cases a <;> cases b <;> first | exact False.elim h | skip
  · exact .inr ⟨_, _, mx.bool, my.bool, q _ _ F H (.refl _ _) s (.int _) h⟩
  · exact .inl ⟨_, _, mx.int, my.int, q _ _ F H (.refl _ _) s (.int _) h⟩
theorem op_subB {X : Cx} : OpR X (binaryOp .Sub) (fun x y H Q => ∃ p q : Bool, x = V.bl p ∧ y = V.bl q ∧ Q (.int (b2n p - b2n q)) H) := by
  intro pins s σ H x y v u Q I rx ry h
  obtain ⟨p, q, rfl, rfl, k⟩ := h
  cases rx
  cases ry
  refine PyProof.Rows.sub_bool ⟨.int (b2n p - b2n q), H, I.tok _, ⟨s.toks, ?_⟩, k⟩
  cases p <;> cases q <;> rfl
theorem b_isN : Br1 K .fz (fun x H Q => Q (.bl (decide (x = .non))) H) oIsN := by
  intro F H x a KK Q s mx h q
  have e : decide (x = .non) = isNone a := by
    cases a with
    | none => rw [mx.none]; rfl
    | bool b => rw [mx.bool]; rfl
    | int b => rw [mx.int]; rfl
    | str b => rw [mx.str]; rfl
    | list ds => obtain ⟨p, xs, rfl, _⟩ := mx.list s; rfl
    | tuple ds => obtain ⟨p, xs, rfl, _⟩ := mx.tuple; rfl
    | dict ds =>
      rcases mx with mx | ⟨p, rfl, _⟩
      · obtain ⟨p, xs, rfl, _⟩ := mx.dict_inv; rfl
      · rfl
  rw [e]
  exact q _ _ F H (.refl _ _) s (.bl _) h
theorem b_notN : Br1 K .fz (fun x H Q => Q (.bl (!decide (x = .non))) H) oNotN := by
  intro F H x a KK Q s mx h q
  refine b_isN F H x a (fun d => match d with | .bool b => KK (.bool (!b)) | _ => False) (fun z H' => match z with | .bl b => Q (.bl (!b)) H' | _ => False) s mx h ?_
  intro d z F' H' g s' r k
  cases d with
  | bool b =>
    rw [Rep.bool_inv r]
    exact q _ _ F' H' g s' (.bl _) k
  | _ => exact False.elim k
end

section
variable {X : Cx} {B : Bs} {W : WX} {m : Md} {e a b c : Expr} {f fa fb fc : ET} {t u : TT} {pos : Pos} {es : List Expr} {ar : AT} {z : Bool}

theorem de_add (ha : DE X B W .bo a fa) (hb : DE X B W .bo b fb) : DE X B W .fz (.BinOp a .Add b pos) (e2 oAdd fa fb) := de_bin op_add b_add m_add ha hb
theorem de_sub (ha : DE X B W .bo a fa) (hb : DE X B W .bo b fb) : DE X B W .fz (.BinOp a .Sub b pos) (e2 oSub fa fb) := de_bin (OpR.or op_sub op_subB) b_sub m_sub ha hb
theorem de_mul (ha : DE X B W .bo a fa) (hb : DE X B W .bo b fb) : DE X B W .fz (.BinOp a .Mult b pos) (e2 oMul fa fb) := de_bin (OpR.or op_mul op_mulW) b_mul m_mul ha hb
theorem de_div (ha : DE X B W .bo a fa) (hb : DE X B W .bo b fb) : DE X B W .fz (.BinOp a .FloorDiv b pos) (e2 oDiv fa fb) := de_bin (OpR.or op_fdivN op_fdivW) b_div m_div ha hb
theorem de_mod (ha : DE X B W .bo a fa) (hb : DE X B W .bo b fb) : DE X B W .fz (.BinOp a .Mod b pos) (e2 oMod fa fb) := de_bin op_modN b_mod m_mod ha hb
theorem de_pow (ha : DE X B W .bo a fa) (hb : DE X B W .bo b fb) : DE X B W .fz (.BinOp a .Pow b pos) (e2 oPow fa fb) := de_bin op_pow b_pow m_pow ha hb
theorem de_cat (ha : DE X B W .bo a fa) (hb : DE X B W .bo b fb) : DE X B W .fr (.BinOp a .Add b pos) (e2 oCat fa fb) := de_bin op_catQ b_cat m_cat ha hb
theorem de_neg (ha : DE X B W .bo a fa) : DE X B W .fz (.UnaryOp .USub a pos) (e1 oNeg fa) := de_un un_neg b_neg m_neg ha
theorem de_lt (ha : DE X B W .bo a fa) (hb : DE X B W .bo b fb) : DE X B W .fz (.Compare a [.Lt] [b] pos) (e2 oLt fa fb) := de_cmp op_lt b_lt m_lt ha hb (nomark _)
theorem de_le (ha : DE X B W .bo a fa) (hb : DE X B W .bo b fb) : DE X B W .fz (.Compare a [.LtE] [b] pos) (e2 oLe fa fb) := de_cmp op_le b_le m_le ha hb (nomark _)
theorem de_gt (ha : DE X B W .bo a fa) (hb : DE X B W .bo b fb) : DE X B W .fz (.Compare a [.Gt] [b] pos) (e2 oGt fa fb) := de_cmp op_gt b_gt m_gt ha hb (nomark _)
theorem de_ge (ha : DE X B W .bo a fa) (hb : DE X B W .bo b fb) : DE X B W .fz (.Compare a [.GtE] [b] pos) (e2 oGe fa fb) := de_cmp op_ge b_ge m_ge ha hb (nomark _)
theorem de_eq {k : Nat} (hr : Room k X.A) (ha : DE X B W .bo a fa) (hb : DE X B W .bo b fb) : DE X B W .fz (.Compare a [.Eq] [b] pos) (e2 oEq fa fb) := de_cmp (OpR.or op_eq (op_eqD hr.units)) b_eq m_eq ha hb (nomark _)
theorem de_ne {k : Nat} (hr : Room k X.A) (ha : DE X B W .bo a fa) (hb : DE X B W .bo b fb) : DE X B W .fz (.Compare a [.NotEq] [b] pos) (e2 oNe fa fb) := de_cmp (OpR.or op_ne (op_neD hr.units)) b_ne m_ne ha hb (nomark _)
theorem de_isN {j p'} (ha : DE X B W .bo a fa) : DE X B W .fz (.Compare a [.Is] [.Constant .none j p'] pos) (e1 oIsN fa) :=
  ⟨PE.imp (pe_cmp (pc_isN ha.pe)) fun σ H Q h => rd_e1 b_isN ha.mono h, mono_e1 m_isN ha.mono⟩
theorem de_notN {j p'} (ha : DE X B W .bo a fa) : DE X B W .fz (.Compare a [.IsNot] [.Constant .none j p'] pos) (e1 oNotN fa) :=
  ⟨PE.imp (pe_cmp (pc_notN ha.pe)) fun σ H Q h => rd_e1 b_notN ha.mono h, mono_e1 m_notN ha.mono⟩
theorem de_ix (hs : PlainIx b := by exact fun _ _ => rfl) (ha : DE X B W .bo a fa) (hb : DE X B W .bo b fb) : DE X B W .fz (.Subscript a b pos) (e2 oIx fa fb) :=
  ⟨PE.imp (pe_ix (IxR.or ix_list ix_tup) ha.pe hb.pe hs) fun _ _ _ h => rd_e2 b_ix ha.mono hb.mono h, mono_e2 m_ix ha.mono hb.mono⟩

/-! ### tests -/
theorem mono_tV (ha : MonoE fa) : MonoT (tV fa) := fun v K K' X X' hk hx h => ha v _ _ _ _ (fun d h => by
  cases d <;> first | exact hk _ h | exact False.elim h) hx h
theorem isB_inv {d : D} {k : Bool → Prop} (h : isB d k) : ∃ c, d = .bool c ∧ k c := by
  cases d <;> first | exact ⟨_, rfl, h⟩ | exact False.elim h
/-- a value as a test -/
theorem dt_v (he : ∀ whole, isTrue e X.env whole = (do let v ← whole; standAt e.pos; holding [v] (truthy v)) := by intro _; rfl) (h : DE X B W .fz e f) : DT X B W e (tV f) := ⟨PT.imp (pt_val h.pe he) fun σ H Q ⟨F0, v, F, Xx, S, hX, q⟩ => by
  refine rdE.mk h.mono S hX q fun d hd x F' H' g s r => ?_
  obtain ⟨c, rfl, k⟩ := isB_inv hd
  exact ⟨c, Rep.bool_inv r, k F' H' g s⟩, mono_tV h.mono⟩
/-- a comparison as a test -/
theorem dt_of {tt : TE} (h : DE X B W .fz e f) (hp : L2.PT X e (tTest tt)) (ht : ∀ σ H Q, rdE X.K B W .fz f σ H Q → tt σ H Q) : DT X B W e (tV f) := ⟨PT.imp hp fun σ H Q ⟨F0, v, F, Xx, S, hX, q⟩ => by
  refine ht σ H _ (rdE.mk h.mono S hX q fun d hd x F' H' g s r => ?_)
  obtain ⟨c, rfl, k⟩ := isB_inv hd
  exact ⟨c, Rep.bool_inv r, k F' H' g s⟩, mono_tV h.mono⟩
theorem dt_cmp {op : CmpOp} {r : R2} {o : O2} (ho : OpR X (compareOp op) r) (br : Br2 X.K .fz r o) (mo : Mono2 o) (ha : DE X B W .bo a fa) (hb : DE X B W .bo b fb) (hm : behindInMarks op b = false) : DT X B W (.Compare a [op] [b] pos) (tV (e2 o fa fb)) :=
  dt_of (de_cmp ho br mo ha hb hm) (pt_cmpR ho ha.pe hb.pe hm) fun _ _ _ h => rd_e2 br ha.mono hb.mono h
theorem dt_lt (ha : DE X B W .bo a fa) (hb : DE X B W .bo b fb) : DT X B W (.Compare a [.Lt] [b] pos) (tV (e2 oLt fa fb)) := dt_cmp op_lt b_lt m_lt ha hb (nomark _)
theorem dt_le (ha : DE X B W .bo a fa) (hb : DE X B W .bo b fb) : DT X B W (.Compare a [.LtE] [b] pos) (tV (e2 oLe fa fb)) := dt_cmp op_le b_le m_le ha hb (nomark _)
theorem dt_gt (ha : DE X B W .bo a fa) (hb : DE X B W .bo b fb) : DT X B W (.Compare a [.Gt] [b] pos) (tV (e2 oGt fa fb)) := dt_cmp op_gt b_gt m_gt ha hb (nomark _)
theorem dt_ge (ha : DE X B W .bo a fa) (hb : DE X B W .bo b fb) : DT X B W (.Compare a [.GtE] [b] pos) (tV (e2 oGe fa fb)) := dt_cmp op_ge b_ge m_ge ha hb (nomark _)
theorem dt_eq {k : Nat} (hr : Room k X.A) (ha : DE X B W .bo a fa) (hb : DE X B W .bo b fb) : DT X B W (.Compare a [.Eq] [b] pos) (tV (e2 oEq fa fb)) := dt_cmp (OpR.or op_eq (op_eqD hr.units)) b_eq m_eq ha hb (nomark _)
theorem dt_ne {k : Nat} (hr : Room k X.A) (ha : DE X B W .bo a fa) (hb : DE X B W .bo b fb) : DT X B W (.Compare a [.NotEq] [b] pos) (tV (e2 oNe fa fb)) := dt_cmp (OpR.or op_ne (op_neD hr.units)) b_ne m_ne ha hb (nomark _)
theorem dt_isN {j p'} (ha : DE X B W .bo a fa) : DT X B W (.Compare a [.Is] [.Constant .none j p'] pos) (tV (e1 oIsN fa)) :=
  ⟨PT.imp (pt_cmp (pc_isN ha.pe)) fun σ H Q ⟨F0, v, F, Xx, S, hX, q⟩ => by
    show tUn (fun x H Q => Q (V.bl (decide (x = V.non))) H) (rdE X.K B W .bo fa) σ H (fun x H1 => ∃ c, x = V.bl c ∧ Q c H1)
    refine rd_e1 (o := oIsN) b_isN ha.mono (rdE.mk (mono_e1 m_isN ha.mono) S hX q fun d hd x F' H' g s r => ?_)
    obtain ⟨c, rfl, k⟩ := isB_inv hd
    exact ⟨c, Rep.bool_inv r, k F' H' g s⟩, mono_tV (mono_e1 m_isN ha.mono)⟩
theorem dt_notN {j p'} (ha : DE X B W .bo a fa) : DT X B W (.Compare a [.IsNot] [.Constant .none j p'] pos) (tV (e1 oNotN fa)) :=
  ⟨PT.imp (pt_cmp (pc_notN ha.pe)) fun σ H Q ⟨F0, v, F, Xx, S, hX, q⟩ => by
    show tUn (fun x H Q => Q (V.bl (!decide (x = V.non))) H) (rdE X.K B W .bo fa) σ H (fun x H1 => ∃ c, x = V.bl c ∧ Q c H1)
    refine rd_e1 (o := oNotN) b_notN ha.mono (rdE.mk (mono_e1 m_notN ha.mono) S hX q fun d hd x F' H' g s r => ?_)
    obtain ⟨c, rfl, k⟩ := isB_inv hd
    exact ⟨c, Rep.bool_inv r, k F' H' g s⟩, mono_tV (mono_e1 m_notN ha.mono)⟩
theorem mono_tNot (h : MonoT t) : MonoT (tNot t) := fun v K K' X X' hk hx q => h v _ _ _ _ (fun c z => hk _ z) hx q
theorem br_mono {c : Bool} {A A' B B' : Prop} (h : br c A B) (ha : A → A') (hb : B → B') : br c A' B' := by
  cases c
  · exact hb h
  · exact ha h
theorem mono_tAnd (h : MonoT t) (h' : MonoT u) : MonoT (tAnd t u) := fun v K K' X X' hk hx q => h v _ _ _ _ (fun c z => br_mono z (h' v _ _ _ _ hk hx) (hk _)) hx q
theorem mono_tOr (h : MonoT t) (h' : MonoT u) : MonoT (tOr t u) := fun v K K' X X' hk hx q => h v _ _ _ _ (fun c z => br_mono z (hk _) (h' v _ _ _ _ hk hx)) hx q
theorem dt_not (h : DT X B W e t) : DT X B W (.UnaryOp .Not e pos) (tNot t) := ⟨PT.imp (pt_not h.pt) fun σ H Q ⟨F0, v, F, Xx, S, hX, q⟩ => ⟨F0, v, F, Xx, S, hX, q⟩, mono_tNot h.mono⟩
/-- and, or: a chain -/
structure DW (X : Cx) (B : Bs) (W : WX) (e : Expr) (f : TT) : Prop where
  pw : PW X e (rdT X.K B W f)
  mono : MonoT f
theorem DW.dt (h : DW X B W e t) : DT X B W e t := ⟨h.pw.pt, h.mono⟩
theorem PW.imp {X : Cx} {e : Expr} {t t' : L2.TT} (h : PW X e t) (i : ∀ σ H Q, t' σ H Q → t σ H Q) : PW X e t' := ⟨fun wh pins s σ H Q I q => h.run wh pins s σ H Q I (i σ H Q q)⟩
theorem dw_and1 (h : DT X B W a t) : DW X B W (.BoolOp .And [a] pos) t := ⟨pw_and1 h.pt, h.mono⟩
theorem dw_or1 (h : DT X B W a t) : DW X B W (.BoolOp .Or [a] pos) t := ⟨pw_or1 h.pt, h.mono⟩
variable {rest : List Expr}
theorem dw_and (h : DT X B W a t) (h' : DW X B W (.BoolOp .And (b :: rest) pos) u) : DW X B W (.BoolOp .And (a :: b :: rest) pos) (tAnd t u) := ⟨PW.imp (pw_and h.pt h'.pw) fun σ H Q ⟨F0, v, F, Xx, S, hX, q⟩ => by
  refine rdT.mk h.mono S hX q fun c hc F' H' g s => ?_
  cases c with
  | false => exact hc F' H' g s
  | true => exact rdT.mk h'.mono (S.gr g s) (hX.gr g) hc fun d k F2 H2 g2 s2 => k F2 H2 (g.trans g2) s2, mono_tAnd h.mono h'.mono⟩
theorem dw_or (h : DT X B W a t) (h' : DW X B W (.BoolOp .Or (b :: rest) pos) u) : DW X B W (.BoolOp .Or (a :: b :: rest) pos) (tOr t u) := ⟨PW.imp (pw_or h.pt h'.pw) fun σ H Q ⟨F0, v, F, Xx, S, hX, q⟩ => by
  refine rdT.mk h.mono S hX q fun c hc F' H' g s => ?_
  cases c with
  | true => exact hc F' H' g s
  | false => exact rdT.mk h'.mono (S.gr g s) (hX.gr g) hc fun d k F2 H2 g2 s2 => k F2 H2 (g.trans g2) s2, mono_tOr h.mono h'.mono⟩
/-- and, or, not as values -/
theorem mono_eNot (h : MonoE fa) : MonoE (eNot fa) := fun v K K' X X' hk hx q => h v _ _ _ _ (fun d z => by
  cases d <;> first | exact hk _ z | exact False.elim z) hx q
theorem isB_mono {d : D} {k k' : Bool → Prop} (h : isB d k) (i : ∀ c, k c → k' c) : isB d k' := by
  cases d <;> first | exact i _ h | exact False.elim h
theorem mono_eAnd (h : MonoE fa) (h' : MonoE fb) : MonoE (eAnd fa fb) := fun v K K' X X' hk hx q => h v _ _ _ _ (fun d z => isB_mono z fun c z => br_mono z (h' v _ _ _ _ hk hx) (hk _)) hx q
theorem mono_eOr (h : MonoE fa) (h' : MonoE fb) : MonoE (eOr fa fb) := fun v K K' X X' hk hx q => h v _ _ _ _ (fun d z => isB_mono z fun c z => br_mono z (hk _) (h' v _ _ _ _ hk hx)) hx q
theorem de_not (h : DE X B W .fz a fa) : DE X B W .fz (.UnaryOp .Not a pos) (eNot fa) := ⟨PE.imp (pe_not h.pe) fun σ H Q ⟨F0, v, F, Xx, S, hX, q⟩ => by
  refine rdE.mk h.mono S hX q fun d hd x F' H' g s r => ?_
  obtain ⟨c, rfl, k⟩ := isB_inv hd
  exact ⟨c, Rep.bool_inv r, k _ F' H' g s (.bl _)⟩, mono_eNot h.mono⟩
theorem de_one {op} (h : DE X B W .fz a fa) : DE X B W .fz (.BoolOp op [a] pos) fa := ⟨pe_one h.pe, h.mono⟩
theorem de_and (h : DE X B W .fz a fa) (h' : DE X B W .fz (.BoolOp .And (b :: rest) pos) fb) : DE X B W .fz (.BoolOp .And (a :: b :: rest) pos) (eAnd fa fb) := ⟨PE.imp (pe_and h.pe h'.pe) fun σ H Q ⟨F0, v, F, Xx, S, hX, q⟩ => by
  refine rdE.mk h.mono S hX q fun d hd x F' H' g s r => ?_
  obtain ⟨c, rfl, k⟩ := isB_inv hd
  refine ⟨c, Rep.bool_inv r, ?_⟩
  cases c with
  | false => exact k _ F' H' g s (.bl _)
  | true => exact rdE.mk h'.mono (S.gr g s) (hX.gr g) k fun d k x F2 H2 g2 s2 r2 => k x F2 H2 (g.trans g2) s2 r2, mono_eAnd h.mono h'.mono⟩
theorem de_or (h : DE X B W .fz a fa) (h' : DE X B W .fz (.BoolOp .Or (b :: rest) pos) fb) : DE X B W .fz (.BoolOp .Or (a :: b :: rest) pos) (eOr fa fb) := ⟨PE.imp (pe_or h.pe h'.pe) fun σ H Q ⟨F0, v, F, Xx, S, hX, q⟩ => by
  refine rdE.mk h.mono S hX q fun d hd x F' H' g s r => ?_
  obtain ⟨c, rfl, k⟩ := isB_inv hd
  refine ⟨c, Rep.bool_inv r, ?_⟩
  cases c with
  | true => exact k _ F' H' g s (.bl _)
  | false => exact rdE.mk h'.mono (S.gr g s) (hX.gr g) k fun d k x F2 H2 g2 s2 r2 => k x F2 H2 (g.trans g2) s2 r2, mono_eOr h.mono h'.mono⟩
theorem mono_eIf (ht : MonoT t) (h : MonoE fa) (h' : MonoE fb) : MonoE (eIf t fa fb) := fun v K K' X X' hk hx q => ht v _ _ _ _ (fun c z => br_mono z (h v _ _ _ _ hk hx) (h' v _ _ _ _ hk hx)) hx q
theorem de_if (ht : DT X B W c t) (h : DE X B W m a fa) (h' : DE X B W m b fb) : DE X B W m (.IfExp c a b pos) (eIf t fa fb) := ⟨PE.imp (pe_ifExp ht.pt h.pe h'.pe) fun σ H Q ⟨F0, v, F, Xx, S, hX, q⟩ => by
  refine rdT.mk ht.mono S hX q fun c hc F' H' g s => ?_
  cases c with
  | true => exact rdE.mk h.mono (S.gr g s) (hX.gr g) hc fun d k x F2 H2 g2 s2 r2 => k x F2 H2 (g.trans g2) s2 (r2.back g.h)
  | false => exact rdE.mk h'.mono (S.gr g s) (hX.gr g) hc fun d k x F2 H2 g2 s2 r2 => k x F2 H2 (g.trans g2) s2 (r2.back g.h), mono_eIf ht.mono h.mono h'.mono⟩
/-- a op b op' c -/
theorem mono_eChn {o o' : O2} (mo : Mono2 o) (mo' : Mono2 o') (ha : MonoE fa) (hb : MonoE fb) (hc : MonoE fc) : MonoE (eChn o o' fa fb fc) := fun v K K' X X' hk hx q =>
  ha v _ _ _ _ (fun x q => hb v _ _ _ _ (fun y q => mo x y _ _ (fun z q => isB_mono q fun k q => br_mono q (hc v _ _ _ _ (fun w q => mo' y w _ _ hk q) hx) (hk _)) q) hx q) hx q
theorem rd_chn {r r' : R2} {o o' : O2} (br : Br2 X.K .fz r o) (br' : Br2 X.K .fz r' o') (mo : Mono2 o) (mo' : Mono2 o') (ha : MonoE fa) (hb : MonoE fb) (hc : MonoE fc) {σ : St} {H : Hp} {Q : VK} (h : rdE X.K B W .fz (eChn o o' fa fb fc) σ H Q) :
    tChain r r' (rdE X.K B W .bo fa) (rdE X.K B W .bo fb) (rdE X.K B W .bo fc) σ H Q := by
  obtain ⟨F0, v, F, Xx, S, hX, q⟩ := h
  refine rdE.mk ha S hX q fun da qa x F1 H1 g1 s1 m1 => ?_
  refine rdE.mk hb (S.gr g1 s1) (hX.gr g1) qa fun db qb y F2 H2 g2 s2 m2 => ?_
  refine br F2 H2 x y da db _ _ s2 (MB.gr m1 g2.f g2.h) m2 qb fun d z F3 H3 g3 s3 m3 k => ?_
  obtain ⟨c, rfl, k⟩ := isB_inv k
  refine ⟨c, Rep.bool_inv m3, ?_⟩
  have g13 := (g1.trans g2).trans g3
  cases c with
  | false => exact k _ F3 H3 g13 s3 (.bl _)
  | true =>
    refine rdE.mk hc (S.gr g13 s3) (hX.gr g13) k fun dc qc w F4 H4 g4 s4 m4 => ?_
    exact br' F4 H4 y w db dc _ _ s4 (MB.gr (MB.gr m2 g3.f g3.h) g4.f g4.h) m4 qc fun d z F5 H5 g5 s5 m5 k => k z F5 H5 ((g13.trans g4).trans g5) s5 m5
theorem de_chn {op op' : CmpOp} {r r' : R2} {o o' : O2} (ho : OpR X (compareOp op) r) (ho' : OpR X (compareOp op') r') (br : Br2 X.K .fz r o) (br' : Br2 X.K .fz r' o') (mo : Mono2 o) (mo' : Mono2 o')
    (ha : DE X B W .bo a fa) (hb : DE X B W .bo b fb) (hc : DE X B W .bo c fc) (hm : lastMarks [op, op'] [b, c] = false := by with_unfolding_all rfl) : DE X B W .fz (.Compare a [op, op'] [b, c] pos) (eChn o o' fa fb fc) :=
  ⟨PE.imp (pe_chain ho ho' ha.pe hb.pe hc.pe hm) fun _ _ _ h => rd_chn br br' mo mo' ha.mono hb.mono hc.mono h, mono_eChn mo mo' ha.mono hb.mono hc.mono⟩
theorem dt_chn {op op' : CmpOp} {r r' : R2} {o o' : O2} (ho : OpR X (compareOp op) r) (ho' : OpR X (compareOp op') r') (br : Br2 X.K .fz r o) (br' : Br2 X.K .fz r' o') (mo : Mono2 o) (mo' : Mono2 o')
    (ha : DE X B W .bo a fa) (hb : DE X B W .bo b fb) (hc : DE X B W .bo c fc) (hm : lastMarks [op, op'] [b, c] = false := by with_unfolding_all rfl) : DT X B W (.Compare a [op, op'] [b, c] pos) (tV (eChn o o' fa fb fc)) :=
  dt_of (de_chn ho ho' br br' mo mo' ha hb hc hm) (pt_chain ho ho' ha.pe hb.pe hc.pe hm) fun _ _ _ h => rd_chn br br' mo mo' ha.mono hb.mono hc.mono h

/-! ### arguments, displays -/
theorem MRs.gr {F H F' H' : Hp} {xs : List V} {ds : List D} (h : MRs X.K F H z xs ds) (f : Same F F') (g : Same H H') : MRs X.K F' H' z xs ds := by
  cases z with
  | true => exact Reps.mono f h
  | false =>
    have h' : Paired (fun x d => MB X.K F H x d) xs ds := h
    show Paired (fun x d => MB X.K F' H' x d) xs ds
    induction h' with
    | nil => exact .nil
    | cons r t ih => exact .cons (r.gr f g) (ih t)
def mdOf : Bool → Md
  | true => .fz
  | false => .bo
theorem MRs.cons {F H H0 : Hp} {x : V} {d : D} {xs : List V} {ds : List D} (h : MR X.K (mdOf z) H0 F H x d) (t : MRs X.K F H z xs ds) : MRs X.K F H z (x :: xs) (d :: ds) := by
  cases z with
  | true => exact Reps.cons h t
  | false => exact Paired.cons h t
theorem mono_aNil : MonoA aNil := fun v K K' X X' hk hx h => hk _ h
theorem mono_aCons (h : MonoE fa) (h' : MonoA ar) : MonoA (aCons fa ar) := fun v K K' X X' hk hx q => h v _ _ _ _ (fun d q => h' v _ _ _ _ (fun ds q => hk _ q) hx q) hx q
theorem da_nil : DA X B W z [] aNil := ⟨PA.imp pa_nil fun σ H Q ⟨F0, v, F, Xx, S, hX, q⟩ => q [] F H (.refl _ _) S.sub (by cases z; exact Paired.nil; exact Reps.nil) rfl, mono_aNil⟩
theorem da_cons (h : DE X B W (mdOf z) e f) (h' : DA X B W z es ar) (hs : starEach (e :: es) X.env = (false, eval e X.env) :: starEach es X.env := by rfl) : DA X B W z (e :: es) (aCons f ar) := ⟨PA.imp (pa_cons h.pe h'.pa hs) fun σ H Q ⟨F0, v, F, Xx, S, hX, q⟩ => by
  refine rdE.mk h.mono S hX q fun d qd x F1 H1 g1 s1 m1 => ?_
  refine rdA.mk h'.mono (S.gr g1 s1) (hX.gr g1) qd fun ds qs xs F2 H2 g2 s2 m2 hl => ?_
  refine qs (x :: xs) F2 H2 (g1.trans g2) s2 (MRs.cons (H0 := H2) ?_ m2) (by rw [List.length_cons, List.length_cons, hl])
  cases z with
  | true => exact Rep.mono g2.f m1
  | false => exact MB.gr m1 g2.f g2.h, mono_aCons h.mono h'.mono⟩
theorem da_z (h : DE X B W .fz e f) (h' : DA X B W true es ar) (hs : starEach (e :: es) X.env = (false, eval e X.env) :: starEach es X.env := by rfl) : DA X B W true (e :: es) (aCons f ar) := da_cons (z := true) h h' hs
theorem da_b (h : DE X B W .bo e f) (h' : DA X B W false es ar) (hs : starEach (e :: es) X.env = (false, eval e X.env) :: starEach es X.env := by rfl) : DA X B W false (e :: es) (aCons f ar) := da_cons (z := false) h h' hs
theorem mono_eTup (h : MonoA ar) : MonoE (eTup ar) := fun v K K' X X' hk hx q => h v _ _ _ _ (fun ds q => hk _ q) hx q
theorem mono_eLst (h : MonoA ar) : MonoE (eLst ar) := fun v K K' X X' hk hx q => h v _ _ _ _ (fun ds q => hk _ q) hx q
theorem MRs.reps {F H : Hp} {xs : List V} {ds : List D} (h : MRs X.K F H true xs ds) : Reps X.K F xs ds := h
theorem de_tup {k} (h : DA X B W true es ar) (hl : es.length ≤ 1000 := by decide) : DE X B W .fz (.Tuple es k pos) (eTup ar) := ⟨PE.imp (pe_tup h.pa) fun σ H Q ⟨F0, v, F, Xx, S, hX, q⟩ => by
  refine rdA.mk h.mono S hX q fun ds k xs F' H' g s r l => ⟨?_, fun p np => ?_⟩
  · rw [l, sizeLine_eq]; omega
  · obtain ⟨g2, s2, m2⟩ := fresh_tup (K := X.K) s np r.reps
    exact k _ _ _ (g.trans g2) s2 m2, mono_eTup h.mono⟩
theorem de_lst (h : DA X B W true es ar) (hl : es.length ≤ 1000 := by decide) : DE X B W .fr (.List es pos) (eLst ar) := ⟨PE.imp (pe_lst h.pa) fun σ H Q ⟨F0, v, F, Xx, S, hX, q⟩ => by
  refine rdA.mk h.mono S hX q fun ds k xs F' H' g s r l => ⟨?_, fun p np => ?_⟩
  · rw [l, sizeLine_eq]; omega
  · obtain ⟨g2, s2, m2⟩ := fresh_lst (K := X.K) s np r.reps
    exact k _ _ _ (g.trans g2) s2 (m2.back g.h), mono_eLst h.mono⟩
end
end Rw

set_option Elab.async false
set_option linter.all false
set_option maxRecDepth 100000
namespace Rw
open PySem PySem.Spec L2

section
variable {K : PySem.W.Frag}
theorem b_abs : Br1 K .fz (fun x H Q => ∃ i, [x] = [V.int i] ∧ Q (.int (if i < 0 then -i else i)) H) oAbs := by
  intro F H x a KK Q s mx h q
  cases a <;> first | exact False.elim h | skip
  rename_i i
  exact ⟨i, by rw [mx.int], q _ _ F H (.refl _ _) s (.int _) h⟩
theorem b_int : Br1 K .fz (fun x H Q => (∃ i, [x] = [V.int i] ∧ Q (.int i) H) ∨ ∃ k : Bool, [x] = [V.bl k] ∧ Q (.int (if k then 1 else 0)) H) oInt := by
  intro F H x a KK Q s mx h q
  cases a <;> first | exact False.elim h | skip
  · rename_i b
    refine .inr ⟨b, by rw [mx.bool], q _ _ F H (.refl _ _) s ?_ h⟩
    cases b <;> exact .int _
  · rename_i i
    exact .inl ⟨i, by rw [mx.int], q _ _ F H (.refl _ _) s (.int _) h⟩
theorem b_len : Br1 K .fz (fun x H Q => ∃ p ys, [x] = [V.ref p] ∧ (SqL K H p ys ∨ SqT K H p ys) ∧ Q (.int ys.length) H) oLen := by
  intro F H x a KK Q s mx h q
  cases a <;> first | exact False.elim h | skip
  · obtain ⟨p, xs, rfl, sq, r⟩ := mx.list s
    refine ⟨p, xs, rfl, .inl sq, q _ _ F H (.refl _ _) s ?_ h⟩
    rw [r.length]
    exact .int _
  · obtain ⟨p, xs, rfl, sq, r⟩ := mx.tuple
    refine ⟨p, xs, rfl, .inr (same_T s sq), q _ _ F H (.refl _ _) s ?_ h⟩
    rw [r.length]
    exact .int _
theorem b_sum : Br1 K .fz (fun x H Q => rSum K [x] H Q) oSum := by
  intro F H x a KK Q s mx h q
  cases a with
  | list ds =>
    obtain ⟨p, xs, rfl, sq, r⟩ := mx.list s
    cases e : ints? ds with
    | none =>
      have h' : (match ints? ds with | some ns => KK (.int ns.sum) | none => False) := h
      rw [e] at h'
      exact h'.elim
    | some ns =>
      have h' : (match ints? ds with | some ns => KK (.int ns.sum) | none => False) := h
      rw [e] at h'
      exact ⟨p, ns, rfl, by rw [← r.ints e]; exact sq, q _ _ F H (.refl _ _) s (.int _) h'⟩
  | _ => exact False.elim h
theorem b_tupOf : Br1 K .fz (fun x H Q => ∃ p ys, [x] = [V.ref p] ∧ ((SqL K H p ys ∧ ∀ l, H l = none → Q (.ref l) (upd H l (.tup ys))) ∨ (SqT K H p ys ∧ Q (.ref p) H))) oTupOf := by
  intro F H x a KK Q s mx h q
  cases a <;> first | exact False.elim h | skip
  · obtain ⟨p, xs, rfl, sq, r⟩ := mx.list s
    refine ⟨p, xs, rfl, .inl ⟨sq, fun l nl => ?_⟩⟩
    obtain ⟨g, s', m⟩ := fresh_tup (K := K) s nl r
    exact q _ _ _ _ g s' m h
  · obtain ⟨p, xs, rfl, sq, r⟩ := mx.tuple
    exact ⟨p, xs, rfl, .inr ⟨same_T s sq, q _ _ F H (.refl _ _) s (.tup sq r) h⟩⟩
theorem b_lstOf : Br1 K .fr (fun x H Q => ∃ p ys, [x] = [V.ref p] ∧ (SqL K H p ys ∨ SqT K H p ys) ∧ ∀ l, H l = none → Q (.ref l) (upd H l (.lst ys))) oLstOf := by
  intro F H x a KK Q s mx h q
  cases a <;> first | exact False.elim h | skip
  · obtain ⟨p, xs, rfl, sq, r⟩ := mx.list s
    refine ⟨p, xs, rfl, .inl sq, fun l nl => ?_⟩
    obtain ⟨g, s', m⟩ := fresh_lst (K := K) s nl r
    exact q _ _ _ _ g s' m h
  · obtain ⟨p, xs, rfl, sq, r⟩ := mx.tuple
    refine ⟨p, xs, rfl, .inr (same_T s sq), fun l nl => ?_⟩
    obtain ⟨g, s', m⟩ := fresh_lst (K := K) s nl r
    exact q _ _ _ _ g s' m h
end

section
variable {X : Cx} {B : Bs} {W : WX} {m : Md} {e a b c : Expr} {f fa fb fc : ET} {t u : TT} {pos p p2 : Pos} {es : List Expr} {ar : AT} {z : Bool} {id T : String} {x : Str} {o : O1}
variable {r : List V → Hp → VK → Prop}
/-- a built-in of one argument -/
theorem de_call1 (hc : CallR X (.builtin id) r) (br : Br1 X.K m (fun x H Q => r [x] H Q) o) (mo : Mono1 o) (hm : X.mg x = none) (hv : bootBuiltins x = some (.builtin id)) (ha : DE X B W .bo a fa) (hg : Gl X x := by rfl)
    (hn : x ≠ "__name__" := by decide) (hdb : (x == ("__debug__" : Str)) = false := by decide) (he : starEach [a] X.env = [(false, eval a X.env)] := by rfl) : DE X B W m (.Call (.Name x p) [a] [] pos) (e1 o fa) :=
  ⟨PE.imp (pe_callB hc hg hm hv (pa_cons ha.pe pa_nil he) hn hdb he) fun σ H Q h => by
    have h' : tUn (fun x H Q => r [x] H Q) (rdE X.K B W .bo fa) σ H Q := rd_e1 br ha.mono h
    exact h', mono_e1 mo ha.mono⟩
theorem de_callT (hc : CallR X (.type T) r) (br : Br1 X.K m (fun x H Q => r [x] H Q) o) (mo : Mono1 o) (hm : X.mg x = none) (hv : bootBuiltins x = some (.type T)) (ha : DE X B W .bo a fa) (hg : Gl X x := by rfl)
    (hn : x ≠ "__name__" := by decide) (hdb : (x == ("__debug__" : Str)) = false := by decide) (he : starEach [a] X.env = [(false, eval a X.env)] := by rfl) : DE X B W m (.Call (.Name x p) [a] [] pos) (e1 o fa) :=
  ⟨PE.imp (pe_callTy hc hg hm hv (pa_cons ha.pe pa_nil he) hn hdb he) fun σ H Q h => by
    have h' : tUn (fun x H Q => r [x] H Q) (rdE X.K B W .bo fa) σ H Q := rd_e1 br ha.mono h
    exact h', mono_e1 mo ha.mono⟩
theorem de_abs (hm : X.mg "abs" = none) (ha : DE X B W .bo a fa) (hg : Gl X "abs" := by rfl) (he : starEach [a] X.env = [(false, eval a X.env)] := by rfl) : DE X B W .fz (.Call (.Name "abs" p) [a] [] pos) (e1 oAbs fa) :=
  de_call1 call_abs b_abs m_abs hm (by decide +kernel) ha hg (by decide) (by decide) he
theorem de_len (hm : X.mg "len" = none) (ha : DE X B W .bo a fa) (hg : Gl X "len" := by rfl) (he : starEach [a] X.env = [(false, eval a X.env)] := by rfl) : DE X B W .fz (.Call (.Name "len" p) [a] [] pos) (e1 oLen fa) :=
  de_call1 call_len_seq b_len m_len hm (by decide +kernel) ha hg (by decide) (by decide) he
theorem de_sum (hm : X.mg "sum" = none) (ha : DE X B W .bo a fa) (hg : Gl X "sum" := by rfl) (hc : X.calm = true := by rfl) (he : starEach [a] X.env = [(false, eval a X.env)] := by rfl) : DE X B W .fz (.Call (.Name "sum" p) [a] [] pos) (e1 oSum fa) :=
  de_call1 (cr_sum hc) b_sum m_sum hm (by decide +kernel) ha hg (by decide) (by decide) he
theorem de_toint (hm : X.mg "int" = none) (ha : DE X B W .bo a fa) (hg : Gl X "int" := by rfl) (he : starEach [a] X.env = [(false, eval a X.env)] := by rfl) : DE X B W .fz (.Call (.Name "int" p) [a] [] pos) (e1 oInt fa) :=
  de_callT call_int1 b_int m_int hm (by decide +kernel) ha hg (by decide) (by decide) he
theorem de_tuple (hm : X.mg "tuple" = none) (ha : DE X B W .bo a fa) (hg : Gl X "tuple" := by rfl) (he : starEach [a] X.env = [(false, eval a X.env)] := by rfl) : DE X B W .fz (.Call (.Name "tuple" p) [a] [] pos) (e1 oTupOf fa) :=
  de_callT call_tuple_of b_tupOf m_tupOf hm (by decide +kernel) ha hg (by decide) (by decide) he
theorem de_list (hm : X.mg "list" = none) (ha : DE X B W .bo a fa) (hg : Gl X "list" := by rfl) (he : starEach [a] X.env = [(false, eval a X.env)] := by rfl) : DE X B W .fr (.Call (.Name "list" p) [a] [] pos) (e1 oLstOf fa) :=
  de_callT call_list_of b_lstOf m_lstOf hm (by decide +kernel) ha hg (by decide) (by decide) he
/-- a built-in of two arguments -/
theorem de_call2 {o : O2} (hc : CallR X (.builtin id) r) (br : Br2 X.K m (fun x y H Q => r [x, y] H Q) o) (mo : Mono2 o) (hm : X.mg x = none) (hv : bootBuiltins x = some (.builtin id)) (ha : DE X B W .bo a fa) (hb : DE X B W .bo b fb) (hg : Gl X x := by rfl)
    (hn : x ≠ "__name__" := by decide) (hdb : (x == ("__debug__" : Str)) = false := by decide) (he : starEach [a, b] X.env = (false, eval a X.env) :: starEach [b] X.env := by rfl) (he2 : starEach [b] X.env = [(false, eval b X.env)] := by rfl) : DE X B W m (.Call (.Name x p) [a, b] [] pos) (e2 o fa fb) :=
  ⟨PE.imp (pe_callB hc hg hm hv (pa_cons ha.pe (pa_cons hb.pe pa_nil he2) he) hn hdb he (by rw [he2]; rfl)) fun σ H Q h => by
    have h' : tOp (fun x y H Q => r [x, y] H Q) (rdE X.K B W .bo fa) (rdE X.K B W .bo fb) σ H Q := rd_e2 br ha.mono hb.mono h
    exact h', mono_e2 mo ha.mono hb.mono⟩
theorem b_max2' {K : PySem.W.Frag} : Br2 K .fz (fun x y H Q => ∃ i j, [x, y] = [V.int i, V.int j] ∧ Q (.int (if j > i then j else i)) H) oMax2 := fun F H x y a b KK Q s mx my h q => by
  obtain ⟨i, j, rfl, rfl, k⟩ := b_max2 (K := K) F H x y a b KK Q s mx my h q
  exact ⟨i, j, rfl, k⟩
theorem b_min2' {K : PySem.W.Frag} : Br2 K .fz (fun x y H Q => ∃ i j, [x, y] = [V.int i, V.int j] ∧ Q (.int (if j < i then j else i)) H) oMin2 := fun F H x y a b KK Q s mx my h q => by
  obtain ⟨i, j, rfl, rfl, k⟩ := b_min2 (K := K) F H x y a b KK Q s mx my h q
  exact ⟨i, j, rfl, k⟩
theorem de_max2 (hm : X.mg "max" = none) (ha : DE X B W .bo a fa) (hb : DE X B W .bo b fb) (hg : Gl X "max" := by rfl) (hc : X.calm = true := by rfl) (he : starEach [a, b] X.env = (false, eval a X.env) :: starEach [b] X.env := by rfl) (he2 : starEach [b] X.env = [(false, eval b X.env)] := by rfl) :
    DE X B W .fz (.Call (.Name "max" p) [a, b] [] pos) (e2 oMax2 fa fb) := de_call2 (call_max2 hc) b_max2' m_max2 hm (by decide +kernel) ha hb hg (by decide) (by decide) he he2
theorem de_min2 (hm : X.mg "min" = none) (ha : DE X B W .bo a fa) (hb : DE X B W .bo b fb) (hg : Gl X "min" := by rfl) (hc : X.calm = true := by rfl) (he : starEach [a, b] X.env = (false, eval a X.env) :: starEach [b] X.env := by rfl) (he2 : starEach [b] X.env = [(false, eval b X.env)] := by rfl) :
    DE X B W .fz (.Call (.Name "min" p) [a, b] [] pos) (e2 oMin2 fa fb) := de_call2 (call_min2 hc) b_min2' m_min2 hm (by decide +kernel) ha hb hg (by decide) (by decide) he he2

/-! ### isinstance -/
def tyN : D → String
  | .none => "NoneType"
  | .bool _ => "bool"
  | .int _ => "int"
  | .str _ => "str"
  | .list _ => "list"
  | .tuple _ => "tuple"
  | .dict _ => "dict"
theorem MB.ty {K : PySem.W.Frag} {F H : Hp} {x : V} {d : D} (h : MB K F H x d) (s : Same F H) : TyX K H x (.type (tyN d)) := by
  have h' := h.rep s
  cases d with
  | none => rw [h.none]; exact .base .non
  | bool b => rw [h.bool]; exact .base (.bl b)
  | int b => rw [h.int]; exact .base (.int b)
  | str b => rw [h.str]; exact .base (.str b)
  | list ds =>
    obtain ⟨p, xs, rfl, sq, _⟩ := h'.list_inv
    rcases sq with (e | ⟨ob, e⟩) | ⟨ob, its, n, e, c, _⟩
    · exact .base (.lst e)
    · exact .base (.frz e)
    · exact .kList e c
  | tuple ds =>
    obtain ⟨p, xs, rfl, sq, _⟩ := h'.tuple_inv
    rcases sq with (e | ⟨ob, e⟩) | ⟨ob, its, n, e, c, _⟩
    · exact .base (.tup e)
    · exact .fTuple e
    · exact .kTuple e c
  | dict ds =>
    obtain ⟨p, xs, rfl, e, _⟩ := h'.dict_inv
    exact .base (.dK e)
/-- isinstance(a, T), T a built-in class -/
theorem de_isi {T : String} {x : Str} {pr : D → Bool} (hk : ∀ d, kitB (tyN d) T = some (pr d)) (hm : X.mg "isinstance" = none) (hmT : X.mg x = none) (hvT : bootBuiltins x = some (.type T)) (ha : DE X B W .bo a fa) (hg : Gl X "isinstance" := by rfl) (hgT : Gl X x := by rfl)
    (hn : x ≠ "__name__" := by decide) (hdb : (x == ("__debug__" : Str)) = false := by decide)
    (he : starEach [a, .Name x p2] X.env = (false, eval a X.env) :: starEach [.Name x p2] X.env := by rfl) (he2 : starEach [.Name x p2] X.env = [(false, eval (.Name x p2) X.env)] := by rfl) :
    DE X B W .fz (.Call (.Name "isinstance" p) [a, .Name x p2] [] pos) (e1 (oIsi pr) fa) :=
  ⟨PE.imp (pe_callB call_isi hg hm (by decide +kernel) (pa_cons ha.pe (pa_cons (pe_bltn (v := .ty T) hgT hmT hvT rfl hn hdb) pa_nil he2) he) (by decide) (by decide) he (by rw [he2]; rfl)) fun σ H Q h => by
    obtain ⟨F0, v, F, Xx, S, hX, q⟩ := h
    refine rdE.mk ha.mono S hX q fun d k x F' H' g s r => ?_
    exact ⟨x, .ty T, .type (tyN d), .type T, pr d, rfl, .ty T, MB.ty r s, kit_ty (hk d), k _ F' H' g s (.bl _)⟩, mono_e1 (m_isi pr) ha.mono⟩
theorem kd_tup : ∀ d, kitB (tyN d) "tuple" = some (isTup d)
  | .none => (by decide +kernel : kitB "NoneType" "tuple" = some false)
  | .bool _ => (by decide +kernel : kitB "bool" "tuple" = some false)
  | .int _ => (by decide +kernel : kitB "int" "tuple" = some false)
  | .str _ => (by decide +kernel : kitB "str" "tuple" = some false)
  | .list _ => (by decide +kernel : kitB "list" "tuple" = some false)
  | .tuple _ => (by decide +kernel : kitB "tuple" "tuple" = some true)
  | .dict _ => (by decide +kernel : kitB "dict" "tuple" = some false)
theorem kd_lst : ∀ d, kitB (tyN d) "list" = some (isLst d)
  | .none => (by decide +kernel : kitB "NoneType" "list" = some false)
  | .bool _ => (by decide +kernel : kitB "bool" "list" = some false)
  | .int _ => (by decide +kernel : kitB "int" "list" = some false)
  | .str _ => (by decide +kernel : kitB "str" "list" = some false)
  | .list _ => (by decide +kernel : kitB "list" "list" = some true)
  | .tuple _ => (by decide +kernel : kitB "tuple" "list" = some false)
  | .dict _ => (by decide +kernel : kitB "dict" "list" = some false)
theorem kd_int : ∀ d, kitB (tyN d) "int" = some (isInt d)
  | .none => (by decide +kernel : kitB "NoneType" "int" = some false)
  | .bool _ => (by decide +kernel : kitB "bool" "int" = some true)
  | .int _ => (by decide +kernel : kitB "int" "int" = some true)
  | .str _ => (by decide +kernel : kitB "str" "int" = some false)
  | .list _ => (by decide +kernel : kitB "list" "int" = some false)
  | .tuple _ => (by decide +kernel : kitB "tuple" "int" = some false)
  | .dict _ => (by decide +kernel : kitB "dict" "int" = some false)
theorem de_isTup (hm : X.mg "isinstance" = none) (hmT : X.mg "tuple" = none) (ha : DE X B W .bo a fa) (hg : Gl X "isinstance" := by rfl) (hgT : Gl X "tuple" := by rfl)
    (he : starEach [a, .Name "tuple" p2] X.env = (false, eval a X.env) :: starEach [.Name "tuple" p2] X.env := by rfl) (he2 : starEach [.Name "tuple" p2] X.env = [(false, eval (.Name "tuple" p2) X.env)] := by rfl) :
    DE X B W .fz (.Call (.Name "isinstance" p) [a, .Name "tuple" p2] [] pos) (e1 (oIsi isTup) fa) := de_isi kd_tup hm hmT (by decide +kernel) ha hg hgT (by decide) (by decide) he he2
theorem de_isLst (hm : X.mg "isinstance" = none) (hmT : X.mg "list" = none) (ha : DE X B W .bo a fa) (hg : Gl X "isinstance" := by rfl) (hgT : Gl X "list" := by rfl)
    (he : starEach [a, .Name "list" p2] X.env = (false, eval a X.env) :: starEach [.Name "list" p2] X.env := by rfl) (he2 : starEach [.Name "list" p2] X.env = [(false, eval (.Name "list" p2) X.env)] := by rfl) :
    DE X B W .fz (.Call (.Name "isinstance" p) [a, .Name "list" p2] [] pos) (e1 (oIsi isLst) fa) := de_isi kd_lst hm hmT (by decide +kernel) ha hg hgT (by decide) (by decide) he he2
theorem de_isInt (hm : X.mg "isinstance" = none) (hmT : X.mg "int" = none) (ha : DE X B W .bo a fa) (hg : Gl X "isinstance" := by rfl) (hgT : Gl X "int" := by rfl)
    (he : starEach [a, .Name "int" p2] X.env = (false, eval a X.env) :: starEach [.Name "int" p2] X.env := by rfl) (he2 : starEach [.Name "int" p2] X.env = [(false, eval (.Name "int" p2) X.env)] := by rfl) :
    DE X B W .fz (.Call (.Name "isinstance" p) [a, .Name "int" p2] [] pos) (e1 (oIsi isInt) fa) := de_isi kd_int hm hmT (by decide +kernel) ha hg hgT (by decide) (by decide) he he2

/-! ### slices -/
structure DP (X : Cx) (B : Bs) (W : WX) (e : Option Expr) (f : PT) (t : TO) : Prop where
  po : PO X e t
  rd : ∀ σ H Q v F Xx, SR X.K B F0 v F σ H → XOk B W F H σ Xx → f v (fun i => ∀ F' H', Gr F H F' H' → Same F' H' → Q i H') Xx → t σ H Q
  mono : MonoP f
theorem dp_no : DP X B W none pNo tNoPart := ⟨po_none, fun σ H Q v F Xx S hX h => h F H (.refl _ _) S.sub, fun v K K' X X' hk hx h => hk _ h⟩
theorem dp_at (ha : DE X B W .bo a fa) : DP X B W (some a) (pAt fa) (tPart (rdE X.K B W .bo fa)) := by
  have mono : MonoP (pAt fa) := fun v K K' X X' hk hx h => ha.mono v _ _ _ _ (fun d h => by
    cases d <;> first | exact False.elim h | exact hk _ h) hx h
  refine ⟨po_some ha.pe, fun σ H Q v F Xx S hX h => ?_, mono⟩
  refine rdE.mk ha.mono S hX h fun d k x F' H' g s r => ?_
  cases d <;> first | exact False.elim k | skip
  rename_i i
  exact ⟨i, MB.int r, k F' H' g s⟩
theorem slIx_is (n e : Nat) (i : Option Int) : HT.sIx n e i = slIx n e i := by
  cases i with
  | none => rfl
  | some i => rfl
theorem cutV_reps {K : PySem.W.Frag} {F : Hp} {xs : List V} {ds : List D} (r : Reps K F xs ds) (lo hi : Option Int) : Reps K F (cutV xs lo hi) (cutD ds lo hi) := by
  unfold cutV cutD
  rw [slIx_is, slIx_is, r.length]
  exact (r.drop _).take _
theorem de_cut {lo hi : Option Expr} {pl ph : PT} {tl th : TO} (ha : DE X B W .bo a fa) (hl : DP X B W lo pl tl) (hh : DP X B W hi ph th) : DE X B W .fr (.Subscript a (.Slice lo hi none p2) pos) (eCut fa pl ph) := by
  have mono : MonoE (eCut fa pl ph) := fun v K K' X X' hk hx h => ha.mono v _ _ _ _ (fun d h => hl.mono v _ _ _ _ (fun l h => hh.mono v _ _ _ _ (fun u h => by
    cases d <;> first | exact False.elim h | exact hk _ h) hx h) hx h) hx h
  refine ⟨PE.imp (pe_slice sl_list ha.pe hl.po hh.po) fun σ H Q ⟨F0, v, F, Xx, S, hX, q⟩ => ?_, mono⟩
  refine rdE.mk ha.mono S hX q fun d k x F1 H1 g1 s1 m1 => ?_
  refine hl.rd σ H1 _ v F1 Xx (S.gr g1 s1) (hX.gr g1) (hl.mono v _ _ _ _ (fun l k F2 H2 g2 s2 => ?_) (fun _ z => z) k)
  refine hh.rd σ H2 _ v F2 Xx (S.gr (g1.trans g2) s2) (hX.gr (g1.trans g2)) (hh.mono v _ _ _ _ (fun u k F3 H3 g3 s3 => ?_) (fun _ z => z) k)
  cases d <;> first | exact False.elim k | skip
  rename_i ds
  obtain ⟨p, xs, rfl, sq, r⟩ := (MB.gr (MB.gr m1 g2.f g2.h) g3.f g3.h).list s3
  refine ⟨p, xs, rfl, sq, fun l nl => ?_⟩
  obtain ⟨g, s', mr⟩ := fresh_lst (K := X.K) s3 nl (cutV_reps r _ _)
  have g0 := (g1.trans g2).trans g3
  exact k _ _ _ (g0.trans g) s' (mr.back g0.h)
theorem de_rev {k : Nat} {p1 p3 : Pos} (ha : DE X B W .bo a fa) : DE X B W .fr (.Subscript a (.Slice none none (some (.UnaryOp .USub (.Constant (.int 1) k p1) p2)) p3) pos) (eRev fa) := by
  have mono : MonoE (eRev fa) := fun v K K' X X' hk hx h => ha.mono v _ _ _ _ (fun d h => by
    cases d <;> first | exact False.elim h | exact hk _ h) hx h
  refine ⟨PE.imp (pe_revL ha.pe) fun σ H Q ⟨F0, v, F, Xx, S, hX, q⟩ => ?_, mono⟩
  refine rdE.mk ha.mono S hX q fun d k x F1 H1 g1 s1 m1 => ?_
  cases d <;> first | exact False.elim k | skip
  rename_i ds
  obtain ⟨p, xs, rfl, sq, r⟩ := MB.list m1 s1
  refine ⟨p, xs, rfl, sq, fun l nl => ?_⟩
  obtain ⟨g, s', mr⟩ := fresh_lst (K := X.K) s1 nl r.reverse
  exact k _ _ _ (g1.trans g) s' (mr.back g1.h)

/-! ### is True, is False -/
theorem m_isB (b : Bool) : Mono1 (oIsB b) := fun a K K' hk h => by
  cases a <;> first | exact False.elim h | exact hk _ h
theorem m_notB (b : Bool) : Mono1 (oNotB b) := fun a K K' hk h => by
  cases a <;> first | exact False.elim h | exact hk _ h
theorem de_isB {w : Bool} {j : Nat} {p' : Pos} {ec : Expr} (hw : ec = .Constant (.bool w) j p' := by rfl) (ha : DE X B W .bo a fa) : DE X B W .fz (.Compare a [.Is] [ec] pos) (e1 (oIsB w) fa) := by
  subst hw
  refine ⟨PE.imp (pe_cmpR op_isBl ha.pe pe_bl (nomark _)) fun σ H Q ⟨F0, v, F, Xx, S, hX, q⟩ => ?_, mono_e1 (m_isB w) ha.mono⟩
  refine rdE.mk ha.mono S hX q fun d k x F' H' g s r => ?_
  cases d <;> first | exact False.elim k | skip
  rename_i c
  exact ⟨c, w, MB.bool r, rfl, k _ F' H' g s (.bl _)⟩
theorem de_notB {w : Bool} {j : Nat} {p' : Pos} {ec : Expr} (hw : ec = .Constant (.bool w) j p' := by rfl) (ha : DE X B W .bo a fa) : DE X B W .fz (.Compare a [.IsNot] [ec] pos) (e1 (oNotB w) fa) := by
  subst hw
  refine ⟨PE.imp (pe_cmpR op_notBl ha.pe pe_bl (nomark _)) fun σ H Q ⟨F0, v, F, Xx, S, hX, q⟩ => ?_, mono_e1 (m_notB w) ha.mono⟩
  refine rdE.mk ha.mono S hX q fun d k x F' H' g s r => ?_
  cases d <;> first | exact False.elim k | skip
  rename_i c
  exact ⟨c, w, MB.bool r, rfl, k _ F' H' g s (.bl _)⟩

/-! ### in, not in -/
theorem any_eqv (d : D) : ∀ ds : List D, (ds.any fun z => PyData.eqv z d) = ds.any fun z => eqv z d := fun ds => by
  congr 1
  funext z
  exact eqv_is z d
theorem op_inT {X : Cx} (hu : X.A.units + 65 < cLine) : OpR X (compareOp .In) (fun x y H Q => ∃ d ds, Dp X.K H x d ∧ Dp X.K H y (.tuple ds) ∧ SeqAt.shaped d = true ∧ SeqAt.shaped (.tuple ds) = true ∧ Q (.bl (ds.any fun z => PyData.eqv z d)) H) := by
  intro pins s σ H x y v u Q I rx ry h
  obtain ⟨d, ds, hd, he, sd, se, q⟩ := h
  obtain ⟨as, r1⟩ := Dp.reads I d x v hd rx
  obtain ⟨bs, r2⟩ := Dp.reads I (.tuple ds) y u he ry
  exact SeqAt.in_tuple_reads r2 r1 (SeqAt.canLay_of_shaped se) (SeqAt.canLay_of_shaped sd) (PyProof.Rows.room_in_shaped sd hu) ⟨.bl _, H, I, rfl, q⟩
theorem op_ninT {X : Cx} (hu : X.A.units + 65 < cLine) : OpR X (compareOp .NotIn) (fun x y H Q => ∃ d ds, Dp X.K H x d ∧ Dp X.K H y (.tuple ds) ∧ SeqAt.shaped d = true ∧ SeqAt.shaped (.tuple ds) = true ∧ Q (.bl (!ds.any fun z => PyData.eqv z d)) H) := by
  intro pins s σ H x y v u Q I rx ry h
  obtain ⟨d, ds, hd, he, sd, se, q⟩ := h
  obtain ⟨as, r1⟩ := Dp.reads I d x v hd rx
  obtain ⟨bs, r2⟩ := Dp.reads I (.tuple ds) y u he ry
  exact SeqAt.notIn_tuple_reads r2 r1 (SeqAt.canLay_of_shaped se) (SeqAt.canLay_of_shaped sd) (PyProof.Rows.room_in_shaped sd hu) ⟨.bl _, H, I, rfl, q⟩
theorem b_in {K : PySem.W.Frag} : Br2 K .fz (fun x y H Q => rInD K x y H Q ∨ ∃ d ds, Dp K H x d ∧ Dp K H y (.tuple ds) ∧ SeqAt.shaped d = true ∧ SeqAt.shaped (.tuple ds) = true ∧ Q (.bl (ds.any fun z => PyData.eqv z d)) H) oIn := by
  intro F H x y a b KK Q s mx my h q
  cases b <;> first | exact False.elim h | skip
  · rename_i ds
    obtain ⟨c1, c2, k⟩ := h
    exact .inl ⟨a, ds, (mx.rep s).dp c1.1, (my.rep s).dp c2.1, c1.shaped, c2.shaped, by rw [any_eqv]; exact q _ _ F H (.refl _ _) s (.bl _) k⟩
  · rename_i ds
    obtain ⟨c1, c2, k⟩ := h
    exact .inr ⟨a, ds, (mx.rep s).dp c1.1, (my.rep s).dp c2.1, c1.shaped, c2.shaped, by rw [any_eqv]; exact q _ _ F H (.refl _ _) s (.bl _) k⟩
theorem b_notIn {K : PySem.W.Frag} : Br2 K .fz (fun x y H Q => rNotInD K x y H Q ∨ ∃ d ds, Dp K H x d ∧ Dp K H y (.tuple ds) ∧ SeqAt.shaped d = true ∧ SeqAt.shaped (.tuple ds) = true ∧ Q (.bl (!ds.any fun z => PyData.eqv z d)) H) oNotIn := by
  intro F H x y a b KK Q s mx my h q
  cases b <;> first | exact False.elim h | skip
  · rename_i ds
    obtain ⟨c1, c2, k⟩ := h
    exact .inl ⟨a, ds, (mx.rep s).dp c1.1, (my.rep s).dp c2.1, c1.shaped, c2.shaped, by rw [any_eqv]; exact q _ _ F H (.refl _ _) s (.bl _) k⟩
  · rename_i ds
    obtain ⟨c1, c2, k⟩ := h
    exact .inr ⟨a, ds, (mx.rep s).dp c1.1, (my.rep s).dp c2.1, c1.shaped, c2.shaped, by rw [any_eqv]; exact q _ _ F H (.refl _ _) s (.bl _) k⟩
theorem room65 {k : Nat} {A : Around} (r : Room k A) : A.units + 65 < cLine := by have := r.un; omega
theorem de_in {k : Nat} (hr : Room k X.A) (ha : DE X B W .bo a fa) (hb : DE X B W .bo b fb) (hm : behindInMarks .In b = false := by with_unfolding_all rfl) : DE X B W .fz (.Compare a [.In] [b] pos) (e2 oIn fa fb) :=
  de_cmp (OpR.or (op_inD (room65 hr)) (op_inT (room65 hr))) b_in m_in ha hb hm
theorem de_notIn {k : Nat} (hr : Room k X.A) (ha : DE X B W .bo a fa) (hb : DE X B W .bo b fb) (hm : behindInMarks .NotIn b = false := by with_unfolding_all rfl) : DE X B W .fz (.Compare a [.NotIn] [b] pos) (e2 oNotIn fa fb) :=
  de_cmp (OpR.or (op_notInD (room65 hr)) (op_ninT (room65 hr))) b_notIn m_notIn ha hb hm
theorem dt_in {k : Nat} (hr : Room k X.A) (ha : DE X B W .bo a fa) (hb : DE X B W .bo b fb) (hm : behindInMarks .In b = false := by with_unfolding_all rfl) : DT X B W (.Compare a [.In] [b] pos) (tV (e2 oIn fa fb)) :=
  dt_cmp (OpR.or (op_inD (room65 hr)) (op_inT (room65 hr))) b_in m_in ha hb hm
theorem dt_notIn {k : Nat} (hr : Room k X.A) (ha : DE X B W .bo a fa) (hb : DE X B W .bo b fb) (hm : behindInMarks .NotIn b = false := by with_unfolding_all rfl) : DT X B W (.Compare a [.NotIn] [b] pos) (tV (e2 oNotIn fa fb)) :=
  dt_cmp (OpR.or (op_notInD (room65 hr)) (op_ninT (room65 hr))) b_notIn m_notIn ha hb hm
theorem dt_isB {w : Bool} {j : Nat} {p' : Pos} {ec : Expr} (hw : ec = .Constant (.bool w) j p' := by rfl) (ha : DE X B W .bo a fa) : DT X B W (.Compare a [.Is] [ec] pos) (tV (e1 (oIsB w) fa)) := by
  subst hw
  refine dt_of (de_isB rfl ha) (pt_cmpR op_isBl ha.pe pe_bl (nomark _)) fun σ H Q ⟨F0, v, F, Xx, S, hX, q⟩ => ?_
  refine rdE.mk ha.mono S hX q fun d k x F' H' g s r => ?_
  cases d <;> first | exact False.elim k | skip
  rename_i c
  exact ⟨c, w, MB.bool r, rfl, k _ F' H' g s (.bl _)⟩
theorem dt_notB {w : Bool} {j : Nat} {p' : Pos} {ec : Expr} (hw : ec = .Constant (.bool w) j p' := by rfl) (ha : DE X B W .bo a fa) : DT X B W (.Compare a [.IsNot] [ec] pos) (tV (e1 (oNotB w) fa)) := by
  subst hw
  refine dt_of (de_notB rfl ha) (pt_cmpR op_notBl ha.pe pe_bl (nomark _)) fun σ H Q ⟨F0, v, F, Xx, S, hX, q⟩ => ?_
  refine rdE.mk ha.mono S hX q fun d k x F' H' g s r => ?_
  cases d <;> first | exact False.elim k | skip
  rename_i c
  exact ⟨c, w, MB.bool r, rfl, k _ F' H' g s (.bl _)⟩
end

/-! ### max of a list of pairs -/
theorem pair_is {d : D} {p : Int × Int} (e : pair? d = some p) : d = .tuple [.int p.1, .int p.2] := by
  unfold pair? at e
  split at e
  · cases e; rfl
  · cases e
theorem pairs_map : ∀ {ds : List D} {ps : List (Int × Int)}, pairs? ds = some ps → ds = ps.map fun p => .tuple [.int p.1, .int p.2]
  | [], ps, e => by
    cases e
    rfl
  | d :: ds, ps, e => by
    unfold pairs? at e
    cases h1 : pair? d with
    | none => rw [h1] at e; cases e
    | some p =>
      cases h2 : pairs? ds with
      | none => rw [h1, h2] at e; cases e
      | some qs =>
        rw [h1, h2] at e
        cases e
        rw [pair_is h1, pairs_map h2]
        rfl
abbrev tupP (p : Int × Int) : D := .tuple [.int p.1, .int p.2]
theorem lt_pair (p q : Int × Int) : PySem.W.dataLt (tupP p) (tupP q) = ltP p q := by
  rw [PySem.W.dataLt_ii]
  unfold ltP
  rw [Bool.eq_iff_iff]
  simp
theorem maxD_pair (p : Int × Int) : ∀ ps : List (Int × Int), PySem.W.maxD (tupP p) (ps.map tupP) = tupP (maxP p ps) := by
  intro ps
  unfold PySem.W.maxD maxP
  induction ps generalizing p with
  | nil => rfl
  | cons q r ih =>
    rw [List.map_cons, List.foldl_cons, List.foldl_cons, ← ih, lt_pair]
    cases ltP p q <;> rfl
theorem reads_mono {h h' : Heap} (k : ∀ b o, h.get? b = some o → h'.get? b = some o) {v : Value} {d : D} {as : List Addr} (r : Reads h v d as) : Reads h' v d as := PySem.W.reads_keeps k r
theorem call_maxP {X : Cx} (hc : X.calm = true) (hu : X.A.units + 65 < cLine) : CallR X (.builtin "max") (fun xs H Q => ∃ (a : Addr) (ys : List V) (p : Int × Int) (ps : List (Int × Int)), xs = [V.ref a] ∧ SqL X.K H a ys ∧ Reps X.K H ys ((p :: ps).map tupP) ∧
    ∀ y, Rep X.K H y (tupP (maxP p ps)) → (∃ i : Nat, ys[i]? = some y ∧ ((p :: ps).map tupP)[i]? = some (tupP (maxP p ps))) → Q y H) := by
  intro pins s σ H xs us Q I r h
  obtain ⟨a, ys, p, ps, rfl, hq, hr, q⟩ := h
  rw [Vals.ref1 r]
  obtain ⟨its, rv, hl, _⟩ := I.list hq
  have ok : ∀ qs : List (Int × Int), shps (qs.map tupP) = true := fun qs => by
    induction qs with
    | nil => rfl
    | cons q r ih =>
      show (shp (tupP q) && shps (r.map tupP)) = true
      rw [ih]; rfl
  have dp : ∀ qs : List (Int × Int), deps (qs.map tupP) ≤ 1 := fun qs => by
    induction qs with
    | nil => exact Nat.zero_le _
    | cons q r ih =>
      show max (dep (tupP q)) (deps (r.map tupP)) ≤ 1
      have : dep (tupP q) = 1 := rfl
      omega
  have dpA : DpAll X.K H ys ((p :: ps).map tupP) := hr.dp (ok _)
  obtain ⟨as, ra⟩ := Dp.readsAll I _ _ _ dpA rv
  have al : PySem.W.AlikeAll ((p :: ps).map tupP) := by
    refine ⟨fun x hx y hy => ?_, fun x hx => ?_⟩
    · obtain ⟨p1, _, rfl⟩ := List.mem_map.mp hx
      obtain ⟨p2, _, rfl⟩ := List.mem_map.mp hy
      simp [tupP, PySem.W.alike, PySem.W.alikeAll]
    · obtain ⟨p1, _, rfl⟩ := List.mem_map.mp hx
      intro z; cases z
  have hd : PyData.depthAll ((p :: ps).map tupP) ≤ 1 := by
    rw [deps_is _ (ok _)]
    exact dp _
  refine PySem.W.max_list_data (x := tupP p) (xs := ps.map tupP) (I.ok.hd hc) hl.isList (by simpa using ra) al (by
    have : PyData.depthAll (tupP p :: ps.map tupP) ≤ 1 := hd
    omega) fun i v h' tk bs hv rd hk => ?_
  have hi : i < its.length := by
    have := (Array.getElem?_eq_some_iff.mp hv).1
    simpa using this
  have hil : i < ((p :: ps).map tupP).length := by
    rw [← hr.length, rv.length]; exact hi
  obtain ⟨y, hy, ry⟩ := hr.get (List.getElem?_eq_getElem hil)
  obtain ⟨u, hu1, ru⟩ := rv.get hy
  have hv' : its[i]? = some v := by simpa using hv
  rw [hu1] at hv'
  cases hv'
  have sh : shp (((p :: ps).map tupP)[i]) = true := by
    obtain ⟨p1, _, e⟩ := List.mem_map.mp (List.getElem_mem hil)
    rw [← e]; rfl
  obtain ⟨bs2, r2⟩ := Dp.reads I _ _ _ (ry.dp sh) ru
  have e1 := SeqAt.readOf_eq (shp_can _ sh) (reads_mono hk r2)
  have em : PySem.W.maxD (tupP p) (ps.map tupP) = tupP (maxP p ps) := maxD_pair p ps
  rw [em] at rd
  have e2 := SeqAt.readOf_eq (shp_can _ (show shp (tupP (maxP p ps)) = true from rfl)) rd
  rw [e1] at e2
  refine ⟨y, H, I.kept (t' := tk) hk, ru, q y (by rw [← e2]; exact ry) ⟨i, hy, ?_⟩⟩
  rw [← e2]
  exact List.getElem?_eq_getElem hil
theorem b_maxP {K : PySem.W.Frag} : Br1 K .fz (fun x H Q => ∃ (a : Addr) (ys : List V) (p : Int × Int) (ps : List (Int × Int)), [x] = [V.ref a] ∧ SqL K H a ys ∧ Reps K H ys ((p :: ps).map tupP) ∧
    ∀ y, Rep K H y (tupP (maxP p ps)) → (∃ i : Nat, ys[i]? = some y ∧ ((p :: ps).map tupP)[i]? = some (tupP (maxP p ps))) → Q y H) oMaxP := by
  intro F H x a KK Q s mx h q
  cases a with
  | list ds =>
    have h' : (match pairs? ds with | some (p :: ps) => KK (.tuple [.int (maxP p ps).1, .int (maxP p ps).2]) | _ => False) := h
    cases e : pairs? ds with
    | none => rw [e] at h'; exact h'.elim
    | some qs =>
      rw [e] at h'
      cases qs with
      | nil => exact h'.elim
      | cons p ps =>
        obtain ⟨c, xs, rfl, sq, r⟩ := mx.list s
        have ed : ds = (p :: ps).map tupP := pairs_map e
        rw [ed] at r
        refine ⟨c, xs, p, ps, rfl, sq, r.mono s, fun y _ hy => ?_⟩
        obtain ⟨i, hy1, hy2⟩ := hy
        obtain ⟨y', h1, h2⟩ := r.get hy2
        rw [hy1] at h1
        cases h1
        exact q _ _ F H (.refl _ _) s h2 h'
  | _ => exact False.elim h
theorem m_maxP : Mono1 oMaxP := fun a K K' hk h => by
  cases a with
  | list ds =>
    have g : ∀ o : Option (List (Int × Int)), (match o with | some (p :: ps) => K (.tuple [.int (maxP p ps).1, .int (maxP p ps).2]) | _ => False) → (match o with | some (p :: ps) => K' (.tuple [.int (maxP p ps).1, .int (maxP p ps).2]) | _ => False) := fun o h => by
      cases o with
      | none => exact h
      | some l =>
        cases l with
        | nil => exact h
        | cons p ps => exact hk _ h
    exact g _ h
  | _ => exact False.elim h
section
variable {X : Cx} {B : Bs} {W : WX} {a : Expr} {fa : ET} {pos p : Pos}
theorem de_maxP {k : Nat} (hr : Room k X.A) (hm : X.mg "max" = none) (ha : DE X B W .bo a fa) (hg : Gl X "max" := by rfl) (hc : X.calm = true := by rfl) (he : starEach [a] X.env = [(false, eval a X.env)] := by rfl) : DE X B W .fz (.Call (.Name "max" p) [a] [] pos) (e1 oMaxP fa) :=
  de_call1 (call_maxP hc (room65 hr)) b_maxP m_maxP hm (by decide +kernel) ha hg (by decide) (by decide) he
end
end Rw

set_option Elab.async false
set_option linter.all false
set_option maxRecDepth 100000
namespace Rw
open PySem PySem.Spec L2

/-! ### a def's promise, a call -/
def spD (K : PySem.W.Frag) (cl : String → Option Addr) (G : DSp) : Sp := fun vs H Q E => ∃ ds F, Same F H ∧ Reps K F vs ds ∧
  G ds (fun d => ∀ v F' H', Gr F H F' H' → Same F' H' → Rep K F' v d → Q v H') (fun x => ∀ cls dd F' H', Gr F H F' H' → Same F' H' → RepX ⟨H, cl⟩ x cls dd H' → E cls dd H')
/-- what is known of the def x of the text -/
structure Df (P : Program) (w : World) (K : PySem.W.Frag) (mg : Str → Option Value) (base : Heap) (cl : String → Option Addr) (k : Nat) (x : Str) (G : DSp) : Prop where
  ex : ∃ f fd ps, FnOk P w K mg base (L2.CX P w) k f fd ps (spD K cl G) ∧ mg x = some (.ref f) ∧ PySem.W.keepIn K (.ref f) = true ∧ Binds K fd ps []
  mono : MonoG G
theorem Df.lift {P : Program} {w : World} {K : PySem.W.Frag} {mg : Str → Option Value} {base : Heap} {cl : String → Option Addr} {j k : Nat} {x : Str} {G : DSp} (D : Df P w K mg base cl j x G) (h : j ≤ k) : Df P w K mg base cl k x G :=
  ⟨let ⟨f, fd, ps, F, r⟩ := D.ex; ⟨f, fd, ps, F.mono h, r⟩, D.mono⟩
/-- the result is flat: the arguments may be lists that stand just now -/
def eCallB (G : DSp) (a : AT) : ET := fun v K X => a v (fun xs => G xs (fun d => flatD d = true ∧ K d) X) X
section
variable {X : Cx} {B : Bs} {W : WX} {m : Md} {e a b c : Expr} {f fa fb fc : ET} {t u : TT} {pos p p2 : Pos} {es : List Expr} {ar : AT} {z : Bool} {x : Str} {k : Nat} {G : DSp}
theorem mono_eCall (mG : MonoG G) (h : MonoA ar) : MonoE (eCall G ar) := fun v K K' X X' hk hx q => h v _ _ _ _ (fun ds q => mG ds _ _ _ _ hk hx q) hx q
theorem mono_eCallB (mG : MonoG G) (h : MonoA ar) : MonoE (eCallB G ar) := fun v K K' X X' hk hx q => h v _ _ _ _ (fun ds q => mG ds _ _ _ _ (fun d z => ⟨z.1, hk d z.2⟩) hx q) hx q
theorem de_call (D : Df X.prog X.w X.K X.mg X.base B.cl k x G) (tk : Takes X W) (hr : Room k X.A) (ha : DA X B W true (e :: es) ar) (hg : Gl X x := by rfl) (hdb : (x == ("__debug__" : Str)) = false := by decide)
    (he : starEach (e :: es) X.env = (false, eval e X.env) :: starEach es X.env := by rfl) (hpl : (backTo pos (starEach es X.env)).any (·.1) = false := by rfl) : DE X B W .fz (.Call (.Name x p) (e :: es) [] pos) (eCall G ar) := by
  obtain ⟨fa, fd, ps, F, hm, hk, hb⟩ := D.ex
  refine ⟨PE.imp (pe_callS F hr hg hm hk hb (fun σ => passAt tk σ) ha.pa hdb he hpl) fun σ H Q ⟨F0, v, F, Xx, S, hX, q⟩ => ?_, mono_eCall D.mono ha.mono⟩
  refine rdA.mk ha.mono S hX q fun ds kk xs F1 H1 g1 s1 r _ => ?_
  exact ⟨ds, F1, s1, r.reps, D.mono ds _ _ _ _ (fun d h v F' H' g s r => h v F' H' (g1.trans g) s r) (fun x hx cls dd F' H' g s r => hX x cls dd F' H' (g1.trans g) s r hx) kk⟩
theorem MRs.all {F H : Hp} {xs : List V} {ds : List D} (h : MRs X.K F H false xs ds) (s : Same F H) : Reps X.K H xs ds := by
  have h' : Paired (fun x d => MB X.K F H x d) xs ds := h
  induction h' with
  | nil => exact .nil
  | cons r t ih => exact .cons (r.rep s) (ih t)
theorem de_callB (D : Df X.prog X.w X.K X.mg X.base B.cl k x G) (tk : Takes X W) (hr : Room k X.A) (ha : DA X B W false (e :: es) ar) (hg : Gl X x := by rfl) (hdb : (x == ("__debug__" : Str)) = false := by decide)
    (he : starEach (e :: es) X.env = (false, eval e X.env) :: starEach es X.env := by rfl) (hpl : (backTo pos (starEach es X.env)).any (·.1) = false := by rfl) : DE X B W .fz (.Call (.Name x p) (e :: es) [] pos) (eCallB G ar) := by
  obtain ⟨fa, fd, ps, F, hm, hk, hb⟩ := D.ex
  refine ⟨PE.imp (pe_callS F hr hg hm hk hb (fun σ => passAt tk σ) ha.pa hdb he hpl) fun σ H Q ⟨F0, v, F, Xx, S, hX, q⟩ => ?_, mono_eCallB D.mono ha.mono⟩
  refine rdA.mk ha.mono S hX q fun ds kk xs F1 H1 g1 s1 r _ => ?_
  have back : ∀ F' H', Gr H1 H1 F' H' → Gr F H F1 H' ∧ Same F1 H' := fun F' H' g => ⟨⟨g1.f, g1.h.trans g.h, g1.n⟩, s1.trans g.h⟩
  refine ⟨ds, H1, .refl _, r.all s1, D.mono ds _ _ _ _ (fun d h v F' H' g s r => ?_) (fun x hx cls dd F' H' g s r => ?_) kk⟩
  · obtain ⟨g', s'⟩ := back F' H' g
    exact h.2 v F1 H' g' s' (MB.flat (H := H') (.inl r) h.1 F1)
  · obtain ⟨g', s'⟩ := back F' H' g
    exact hX x cls dd F1 H' g' s' r hx
end

/-! ### targets -/
theorem wipe_set {σ : St} {i : Nat} {y : Option V} : ∀ {vs : List Nat}, i ∈ vs → wipe (σ.set i y) vs = wipe σ vs := by
  have gen : ∀ (vs : List Nat) (j : Nat), (wipe (σ.set i y) vs)[j]? = if j = i then (if i ∈ vs then (wipe σ vs)[j]? else (σ.set i y)[j]?) else (wipe σ vs)[j]? := by
    intro vs j
    by_cases hj : j ∈ vs
    · have w : ∀ (τ : St), j < τ.length → (wipe τ vs)[j]? = some none := fun τ hl => by
        induction vs with
        | nil => cases hj
        | cons n r ih =>
          unfold wipe
          by_cases hn : n = j
          · subst hn
            rw [List.getElem?_set_self (by rw [wipe_length]; exact hl)]
          · rw [List.getElem?_set_ne hn]
            rcases List.mem_cons.mp hj with e | hj
            · exact absurd e.symm hn
            · exact ih hj
      by_cases hl : j < σ.length
      · rw [w _ (by rw [List.length_set]; exact hl)]
        by_cases hji : j = i
        · subst hji
          rw [if_pos rfl, if_pos hj, w σ hl]
        · rw [if_neg hji, w σ hl]
      · have n1 : (wipe (σ.set i y) vs)[j]? = none := List.getElem?_eq_none (by rw [wipe_length, List.length_set]; omega)
        have n2 : (wipe σ vs)[j]? = none := List.getElem?_eq_none (by rw [wipe_length]; omega)
        rw [n1, n2]
        by_cases hji : j = i
        · subst hji
          rw [if_pos rfl, if_pos hj]
        · rw [if_neg hji]
    · rw [wipe_out hj, wipe_out hj]
      by_cases hji : j = i
      · subst hji
        rw [if_pos rfl, if_neg hj]
      · rw [if_neg hji, List.getElem?_set_ne (fun e => hji e.symm)]
  intro vs hi
  apply List.ext_getElem?
  intro j
  rw [gen vs j]
  by_cases hji : j = i
  · rw [if_pos hji, if_pos hi]
  · rw [if_neg hji]
def MonoGT (g : GT) : Prop := ∀ (d : D) (v : Ev) (K K' : Ev → Prop), (∀ v, K v → K' v) → g d v K → g d v K'
/-- only these slots change -/
def OnlyAt (is : List Nat) (σ σ' : St) : Prop := ∀ vs, (∀ i ∈ is, i ∈ vs) → wipe σ' vs = wipe σ vs
def rdG (K : PySem.W.Frag) (B : Bs) (is : List Nat) (g : GT) : TG := fun x σ H Q => ∃ F0 v F d, SR K B F0 v F σ H ∧ Rep K F x d ∧ g d v (fun v' => ∀ σ', SR K B F0 v' F σ' H → OnlyAt is σ σ' → Q σ' H)
def rdGs (K : PySem.W.Frag) (B : Bs) (is : List Nat) (gl : List GT) : TGs := fun xs σ H Q => ∃ F0 v F ds, SR K B F0 v F σ H ∧ Reps K F xs ds ∧ gs gl ds v (fun v' => ∀ σ', SR K B F0 v' F σ' H → OnlyAt is σ σ' → Q σ' H)
structure DG (X : Cx) (B : Bs) (tg : Expr) (is : List Nat) (g : GT) : Prop where
  pg : PG X tg (rdG X.K B is g)
  mono : MonoGT g
structure DGs (X : Cx) (B : Bs) (tgs : List Expr) (is : List Nat) (gl : List GT) : Prop where
  pgs : PGs X tgs (rdGs X.K B is gl)
  mono : ∀ ds v K K', (∀ v, K v → K' v) → gs gl ds v K → gs gl ds v K'
  len : tgs.length = gl.length
theorem PG.imp {X : Cx} {e : Expr} {t t' : TG} (h : PG X e t) (i : ∀ x σ H Q, t' x σ H Q → t x σ H Q) : PG X e t' := ⟨fun pins s σ H x u Q I r q => h.run pins s σ H x u Q I r (i x σ H Q q)⟩
theorem PGs.imp {X : Cx} {e : List Expr} {t t' : TGs} (h : PGs X e t) (i : ∀ x σ H Q, t' x σ H Q → t x σ H Q) : PGs X e t' := ⟨fun pins s σ H x u Q I r q => h.run pins s σ H x u Q I r (i x σ H Q q)⟩
section
variable {X : Cx} {B : Bs} {e : Expr} {es : List Expr} {g : GT} {gl : List GT} {is js : List Nat} {pos : Pos}
theorem dg_n (i : Nat) {x : Str} (hN : X.N.Nodup) (hi : X.N[i]? = some x := by rfl) (hx : Loc X.env.scope x := by first | exact Or.inl rfl | exact Or.inr rfl) (hf : X.fn x = true ∨ X.env.scope.names.lookup x = some .local := by first | exact .inl rfl | exact .inr rfl) : DG X B (.Name x pos) [i] (gN i) :=
  ⟨PG.imp (pg_name hN hi hx hf) fun x σ H Q ⟨F0, v, F, d, S, r, q⟩ => q _ (S.set i r) fun vs hv => wipe_set (hv i (List.mem_singleton.mpr rfl)), fun d v K K' hk h => hk _ h⟩
theorem dgs_nil : DGs X B [] [] [] := ⟨PGs.imp pgs_nil fun xs σ H Q ⟨F0, v, F, ds, S, r, q⟩ => by
  cases ds with
  | nil => cases r; exact ⟨rfl, q σ S fun _ _ => rfl⟩
  | cons d ds => exact False.elim q, fun ds v K K' hk h => by
  cases ds with
  | nil => exact hk _ h
  | cons d ds => exact False.elim h, rfl⟩
theorem dgs_cons (h : DG X B e is g) (h' : DGs X B es js gl) (hs : (assignEach (e :: es) X.env).map (·.2) = assign e X.env :: (assignEach es X.env).map (·.2) := by rfl) : DGs X B (e :: es) (is ++ js) (g :: gl) :=
  ⟨PGs.imp (pgs_cons h.pg h'.pgs hs) fun xs σ H Q ⟨F0, v, F, ds, S, r, q⟩ => by
    cases r with
    | nil => exact False.elim q
    | @cons x xs d ds r1 r2 =>
      refine ⟨x, xs, rfl, F0, v, F, d, S, r1, h.mono _ _ _ _ (fun v1 q σ1 S1 o1 => ?_) q⟩
      exact ⟨F0, v1, F, ds, S1, r2, h'.mono _ _ _ _ (fun v2 q σ2 S2 o2 => q σ2 S2 fun vs hv => (o2 vs fun i hi => hv i (List.mem_append_right _ hi)).trans (o1 vs fun i hi => hv i (List.mem_append_left _ hi))) q⟩, fun ds v K K' hk q => by
    cases ds with
    | nil => exact False.elim q
    | cons d ds => exact h.mono _ _ _ _ (fun v1 q => h'.mono _ _ _ _ hk q) q, by rw [List.length_cons, List.length_cons, h'.len]⟩
theorem dg_t {k n : Nat} (hc : X.calm = true) (h : DGs X B es is gl) (hn : (assignEach es X.env).length = n := by rfl) (hst : (assignEach es X.env).findIdx? (·.1) = none := by rfl) (hl : n = gl.length := by rfl) : DG X B (.Tuple es k pos) is (gT gl) := by
  have mono : MonoGT (gT gl) := fun d v K K' hk q => by
    cases d <;> first | exact False.elim q | exact ⟨q.1, h.mono _ _ _ _ hk q.2⟩
  refine ⟨PG.imp (pg_tup (n := n) hc h.pgs hn hst) fun x σ H Q ⟨F0, v, F, d, S, r, q⟩ => ?_, mono⟩
  cases d <;> first | exact False.elim q | skip
  rename_i ds
  obtain ⟨a, xs, rfl, sq, rr⟩ := r.tuple_inv
  exact ⟨a, xs, rfl, same_T S.sub sq, by rw [rr.length, q.1, hl], F0, v, F, ds, S, rr, q.2⟩
end

/-! ### statements -/
structure PLe (P P' : Post) : Prop where
  nx : ∀ v, P.nx v → P'.nx v
  rt : ∀ d, P.rt d → P'.rt d
  bk : ∀ v, P.bk v → P'.bk v
  ct : ∀ v, P.ct v → P'.ct v
  ex : ∀ v x, P.ex v x → P'.ex v x
def MonoS (f : ST) : Prop := ∀ v P P', PLe P P' → f v P → f v P'
structure Cp (K : PySem.W.Frag) (B : Bs) (F0 : Hp) (W : WX) (D : Ends) (P : Post) : Prop where
  nx : ∀ v F σ H, SR K B F0 v F σ H → P.nx v → D.nx σ H
  bk : ∀ v F σ H, SR K B F0 v F σ H → P.bk v → D.bk σ H
  ct : ∀ v F σ H, SR K B F0 v F σ H → P.ct v → D.ct σ H
  rt : ∀ x d F H, Gr F0 B.H0 F H → Same F H → Rep K F x d → P.rt d → D.rt x H
  ex : ∀ v x cls dd F σ H, SR K B F0 v F σ H → RepX B x cls dd H → P.ex v x → W cls dd σ H
def rdS (K : PySem.W.Frag) (B : Bs) (W : WX) (f : ST) : TS := fun D σ H => ∃ F0 v F P, SR K B F0 v F σ H ∧ Cp K B F0 W D P ∧ f v P
structure DS (X : Cx) (B : Bs) (W : WX) (st : Stmt) (f : ST) : Prop where
  ps : PS X st (rdS X.K B W f)
  mono : MonoS f
structure DSs (X : Cx) (B : Bs) (W : WX) (st : List Stmt) (f : ST) : Prop where
  pss : PSs X st (rdS X.K B W f)
  mono : MonoS f
theorem PS.imp {X : Cx} {e : Stmt} {t t' : TS} (h : PS X e t) (i : ∀ D σ H, t' D σ H → t D σ H) : PS X e t' := ⟨fun pins s σ H D I q => h.run pins s σ H D I (i D σ H q)⟩
theorem PSs.imp {X : Cx} {e : List Stmt} {t t' : TS} (h : PSs X e t) (i : ∀ D σ H, t' D σ H → t D σ H) : PSs X e t' := ⟨fun pins s σ H D I q => h.run pins s σ H D I (i D σ H q)⟩
theorem PLe.refl (P : Post) : PLe P P := ⟨fun _ h => h, fun _ h => h, fun _ h => h, fun _ h => h, fun _ _ h => h⟩
section
variable {K : PySem.W.Frag} {B : Bs} {F0 : Hp} {W : WX} {D : Ends} {P : Post} {v : Ev} {F H : Hp} {σ : St}
theorem Cp.xok (c : Cp K B F0 W D P) (S : SR K B F0 v F σ H) : XOk B W F H σ (P.ex v) := fun x cls dd F' H' g s r hx => c.ex v x cls dd F' σ H' (S.gr g s) r hx
theorem SR.out (S : SR K B F0 v F σ H) : Gr F0 B.H0 F H := ⟨S.sF, S.sH, S.nw⟩
theorem rdS.mk {f : ST} {P' : Post} (S : SR K B F0 v F σ H) (c : Cp K B F0 W D P) (m : MonoS f) (le : PLe P' P) (h : f v P') : rdS K B W f D σ H := ⟨F0, v, F, P, S, c, m v _ _ le h⟩
end
section
variable {X : Cx} {B : Bs} {W : WX} {e a b c : Expr} {f fa fb fc : ET} {t u : TT} {pos p p2 : Pos} {es : List Expr} {ar : AT} {z : Bool} {x : Str} {k : Nat} {G : DSp} {st : Stmt} {sts sta stb : List Stmt} {sf sg : ST} {g : GT} {is : List Nat}
theorem mono_sNil : MonoS sNil := fun v P P' le h => le.nx v h
theorem mono_sSeq (h : MonoS sf) (h' : MonoS sg) : MonoS (sSeq sf sg) := fun v P P' le q => h v { P with nx := fun v' => sg v' P } { P' with nx := fun v' => sg v' P' } ⟨fun v q => h' v P P' le q, le.rt, le.bk, le.ct, le.ex⟩ q
theorem ds_nil : DSs X B W [] sNil := ⟨PSs.imp pss_nil fun D σ H ⟨F0, v, F, P, S, cp, q⟩ => cp.nx v F σ H S q, mono_sNil⟩
theorem ds_cons (h : DS X B W st sf) (h' : DSs X B W sts sg) : DSs X B W (st :: sts) (sSeq sf sg) := ⟨PSs.imp (pss_cons h.ps h'.pss) fun D σ H ⟨F0, v, F, P, S, cp, q⟩ =>
  ⟨F0, v, F, { P with nx := fun v' => sg v' P }, S, ⟨fun v' F' σ' H' S' q' => ⟨F0, v', F', P, S', cp, q'⟩, cp.bk, cp.ct, cp.rt, cp.ex⟩, q⟩, mono_sSeq h.mono h'.mono⟩
theorem ds_one (h : DS X B W st sf) : DSs X B W [st] sf := ⟨pss_one h.ps, h.mono⟩
theorem ds_pass : DS X B W (.Pass pos) sNil := ⟨PS.imp ps_pass fun D σ H ⟨F0, v, F, P, S, cp, q⟩ => cp.nx v F σ H S q, mono_sNil⟩
theorem ds_brk : DS X B W (.Break pos) sBrk := ⟨PS.imp ps_break fun D σ H ⟨F0, v, F, P, S, cp, q⟩ => cp.bk v F σ H S q, fun v P P' le h => le.bk v h⟩
theorem ds_cnt : DS X B W (.Continue pos) sCnt := ⟨PS.imp ps_continue fun D σ H ⟨F0, v, F, P, S, cp, q⟩ => cp.ct v F σ H S q, fun v P P' le h => le.ct v h⟩
/-- a def gives a list up ahead of a statement -/
theorem ds_frz (i : Nat) (h : DS X B W st sf) : DS X B W st (sFrz i sf) := ⟨PS.imp h.ps fun D σ H ⟨F0, v, F, P, S, cp, q⟩ => by
  obtain ⟨F', S'⟩ := S.frz i
  exact ⟨F0, _, F', P, S', cp, q⟩, fun v P P' le q => h.mono _ _ _ le q⟩
theorem mono_sSet {i : Nat} (h : MonoE f) : MonoS (sSet i f) := fun v P P' le q => h v _ _ _ _ (fun d q => le.nx _ q) (le.ex v) q
theorem mono_sOwn {i : Nat} (h : MonoE f) : MonoS (sOwn i f) := fun v P P' le q => h v _ _ _ _ (fun d q => le.nx _ q) (le.ex v) q
theorem rd_set {i : Nat} (m : MonoE f) {D : Ends} {σ : St} {H : Hp} (h : rdS X.K B W (sSet i f) D σ H) : tAsg (rdE X.K B W .fz f) (gName i) D σ H := by
  obtain ⟨F0, v, F, P, S, cp, q⟩ := h
  exact rdE.mk m S (cp.xok S) q fun d k x F' H' g s r => cp.nx _ _ _ _ ((S.gr g s).set i r) k
theorem rd_own {i : Nat} (m : MonoE f) {D : Ends} {σ : St} {H : Hp} (h : rdS X.K B W (sOwn i f) D σ H) : tAsg (rdE X.K B W .fr f) (gName i) D σ H := by
  obtain ⟨F0, v, F, P, S, cp, q⟩ := h
  refine rdE.mk m S (cp.xok S) q fun d k x F' H' g s r => ?_
  obtain ⟨l, rfl, n0, nF, at_⟩ := r
  refine cp.nx _ _ _ _ ((S.gr g s).setOwn i (S.sH.free n0) nF at_ fun j e' he hj => ?_) k
  obtain ⟨a', h1, _, _, h4⟩ := S.own j e' he
  rw [h1] at hj
  cases hj
  obtain ⟨o, ho⟩ := h4.obj
  rw [n0] at ho
  cases ho
theorem ds_set (i : Nat) {pos' : Pos} (hN : X.N.Nodup) (h : DE X B W .fz e f) (hi : X.N[i]? = some x := by rfl) (hx : Loc X.env.scope x := by first | exact Or.inl rfl | exact Or.inr rfl) (hs : swapsWith e (some (.Name x pos')) pos.line X.env = pure false := by rfl)
    (hf : X.fn x = true ∨ X.env.scope.names.lookup x = some .local := by first | exact .inl rfl | exact .inr rfl) : DS X B W (.Assign [.Name x pos'] e pos) (sSet i f) := ⟨PS.imp (ps_set hN hi hx h.pe hs hf) fun _ _ _ q => rd_set h.mono q, mono_sSet h.mono⟩
theorem ds_own (i : Nat) {pos' : Pos} (hN : X.N.Nodup) (h : DE X B W .fr e f) (hi : X.N[i]? = some x := by rfl) (hx : Loc X.env.scope x := by first | exact Or.inl rfl | exact Or.inr rfl) (hs : swapsWith e (some (.Name x pos')) pos.line X.env = pure false := by rfl)
    (hf : X.fn x = true ∨ X.env.scope.names.lookup x = some .local := by first | exact .inl rfl | exact .inr rfl) : DS X B W (.Assign [.Name x pos'] e pos) (sOwn i f) := ⟨PS.imp (ps_set hN hi hx h.pe hs hf) fun _ _ _ q => rd_own h.mono q, mono_sOwn h.mono⟩
theorem mono_sGet (h : MonoE f) (hg : MonoGT g) : MonoS (sGet g f) := fun v P P' le q => h v _ _ _ _ (fun d q => hg d v _ _ le.nx q) (le.ex v) q
theorem ds_get {tg : Expr} (hg : DG X B tg is g) (h : DE X B W .fz e f) (hs : swapsWithSole [tg] e pos.line X.env = pure false := by rfl) (hw : swappedStores [tg] e X.env = pure none := by rfl) (h1 : (assignEach [tg] X.env).map (·.2) = [assign tg X.env] := by rfl) :
    DS X B W (.Assign [tg] e pos) (sGet g f) := ⟨PS.imp (ps_asg h.pe hg.pg hs hw h1) fun D σ H ⟨F0, v, F, P, S, cp, q⟩ => by
  refine rdE.mk h.mono S (cp.xok S) q fun d k x F' H' g' s r => ?_
  exact ⟨F0, v, F', d, S.gr g' s, r, hg.mono _ _ _ _ (fun v' q σ' S' _ => cp.nx v' F' σ' H' S' q) k⟩, mono_sGet h.mono hg.mono⟩
theorem mono_sPar {l : List Nat} (h : MonoA ar) : MonoS (sPar l ar) := fun v P P' le q => h v _ _ _ _ (fun d q => ⟨q.1, le.nx _ q.2⟩) (le.ex v) q
theorem ds_par {i j : Nat} {x y : Str} {px py pt : Pos} {kt k2 pt2} (hc : X.calm = true) (hN : X.N.Nodup) (ha : DA X B W true [a, b] ar) (hw : swappedStores [.Tuple [.Name x px, .Name y py] kt pt] (.Tuple [a, b] k2 pt2) X.env = pure (some [x, y]))
    (hi : X.N[i]? = some x := by rfl) (hj : X.N[j]? = some y := by rfl) (hij : i ≠ j := by decide) (hx : X.env.scope.names.lookup x = some .local := by rfl) (hy : X.env.scope.names.lookup y = some .local := by rfl)
    (hs : swapsWithSole [.Tuple [.Name x px, .Name y py] kt pt] (.Tuple [a, b] k2 pt2) pos.line X.env = pure false := by rfl) :
    DS X B W (.Assign [.Tuple [.Name x px, .Name y py] kt pt] (.Tuple [a, b] k2 pt2) pos) (sPar [i, j] ar) := ⟨PS.imp (ps_par hc hN hi hj hij hx hy ha.pa hw hs) fun D σ H ⟨F0, v, F, P, S, cp, q⟩ => by
  refine rdA.mk ha.mono S (cp.xok S) q fun ds k xs F' H' g s r _ => ?_
  obtain ⟨hl, k⟩ := k
  match ds, hl with
  | [d1, d2], _ =>
    cases r.reps with
    | cons r1 r =>
      cases r with
      | cons r2 r =>
        cases r
        exact ⟨_, _, rfl, cp.nx _ _ _ _ (((S.gr g s).set i r1).set j r2) k⟩, mono_sPar ha.mono⟩
theorem ds_par3 {i j l : Nat} {x y z : Str} {px py pz pt : Pos} {kt k2 pt2} (hc : X.calm = true) (hN : X.N.Nodup) (ha : DA X B W true [a, b, c] ar) (hw : swappedStores [.Tuple [.Name x px, .Name y py, .Name z pz] kt pt] (.Tuple [a, b, c] k2 pt2) X.env = pure (some [x, y, z]))
    (hi : X.N[i]? = some x := by rfl) (hj : X.N[j]? = some y := by rfl) (hl : X.N[l]? = some z := by rfl) (hij : i ≠ j := by decide) (hil : i ≠ l := by decide) (hjl : j ≠ l := by decide)
    (hx : X.env.scope.names.lookup x = some .local := by rfl) (hy : X.env.scope.names.lookup y = some .local := by rfl) (hz : X.env.scope.names.lookup z = some .local := by rfl)
    (hs : swapsWithSole [.Tuple [.Name x px, .Name y py, .Name z pz] kt pt] (.Tuple [a, b, c] k2 pt2) pos.line X.env = pure false := by rfl) :
    DS X B W (.Assign [.Tuple [.Name x px, .Name y py, .Name z pz] kt pt] (.Tuple [a, b, c] k2 pt2) pos) (sPar [i, j, l] ar) := ⟨PS.imp (ps_par3 hc hN hi hj hl hij hil hjl hx hy hz ha.pa hw hs) fun D σ H ⟨F0, v, F, P, S, cp, q⟩ => by
  refine rdA.mk ha.mono S (cp.xok S) q fun ds k xs F' H' g s r _ => ?_
  obtain ⟨hl, k⟩ := k
  match ds, hl with
  | [d1, d2, d3], _ =>
    cases r.reps with
    | cons r1 r =>
      cases r with
      | cons r2 r =>
        cases r with
        | cons r3 r =>
          cases r
          exact ⟨_, _, _, rfl, cp.nx _ _ _ _ ((((S.gr g s).set i r1).set j r2).set l r3) k⟩, mono_sPar ha.mono⟩
theorem slv_mono {o : Option Sl} {K K' : KD} (hk : ∀ d, K d → K' d) (h : slv o K) : slv o K' := by
  cases o with
  | none => exact h
  | some s =>
    cases s <;> first | exact hk _ h | exact h
theorem mono_sAug {i : Nat} {o : O2} (mo : Mono2 o) (h : MonoE f) : MonoS (sAug i o f) := fun v P P' le q => slv_mono (fun d q => h v _ _ _ _ (fun y q => mo _ _ _ _ (fun z q => le.nx _ q) q) (le.ex v) q) q
/-- name op= e of flat values -/
theorem ds_aug (i : Nat) {op : Operator} {r : R2} {o : O2} {pos' : Pos} (ho : OpR X (inplaceOp op) r) (br : Br2 X.K .fz r o) (mo : Mono2 o) (hN : X.N.Nodup) (h : DE X B W .bo e f) (hi : X.N[i]? = some x := by rfl) (hx : Loc X.env.scope x := by first | exact Or.inl rfl | exact Or.inr rfl)
    (hf : X.fn x = true ∨ X.env.scope.names.lookup x = some .local := by first | exact .inl rfl | exact .inr rfl) : DS X B W (.AugAssign (.Name x pos') op e pos) (sAug i o f) := ⟨PS.imp (ps_aug (ti := r) hN hi hx h.pe (fun pins s σ H x y v u Q I r1 r2 q => ho pins s σ H x y v u Q I r1 r2 q) hf) fun D σ H ⟨F0, v, F, P, S, cp, q⟩ => by
  cases hv : v[i]? with
  | none => have q' : slv v[i]? _ := q; rw [hv] at q'; exact q'.elim
  | some s =>
    have q' : slv v[i]? _ := q
    rw [hv] at q'
    cases s <;> first | exact q'.elim | skip
    rename_i d
    obtain ⟨y, h1, h2⟩ := S.val i d hv
    refine ⟨y, h1, rdE.mk h.mono S (cp.xok S) q' fun d2 k x F' H' g s r2 => ?_⟩
    exact br F' H' y x d d2 _ _ s (.inl (h2.mono g.f)) r2 k fun d3 z F2 H2 g2 s2 r3 k => cp.nx _ _ _ _ ((S.gr (g.trans g2) s2).set i r3) k, mono_sAug mo h.mono⟩
theorem mono_sExp (h : MonoE f) : MonoS (sExp f) := fun v P P' le q => h v _ _ _ _ (fun d q => le.nx _ q) (le.ex v) q
theorem ds_exp (h : DE X B W .bo e f) (hs : swapsWith e none pos.line X.env = pure false := by rfl) : DS X B W (.Expr e pos) (sExp f) := ⟨PS.imp (ps_expr h.pe hs) fun D σ H ⟨F0, v, F, P, S, cp, q⟩ =>
  rdE.mk h.mono S (cp.xok S) q fun d k x F' H' g s r => cp.nx _ _ _ _ (S.gr g s) k, mono_sExp h.mono⟩
theorem ds_ret (h : DE X B W .fz e f) : DS X B W (.Return (some e) pos) (sRet f) := ⟨PS.imp (ps_ret h.pe) fun D σ H ⟨F0, v, F, P, S, cp, q⟩ =>
  rdE.mk h.mono S (cp.xok S) q fun d k x F' H' g s r => cp.rt x d F' H' (S.gr g s).out s r k, fun v P P' le q => h.mono v _ _ _ _ le.rt (le.ex v) q⟩
theorem ds_retN : DS X B W (.Return none pos) sRetN := ⟨PS.imp ps_retN fun D σ H ⟨F0, v, F, P, S, cp, q⟩ => cp.rt .non .none F H S.out S.sub .non q, fun v P P' le q => le.rt _ q⟩
theorem mono_sIf (ht : MonoT t) (h : MonoS sf) (h' : MonoS sg) : MonoS (sIf t sf sg) := fun v P P' le q => ht v _ _ _ _ (fun c q => br_mono q (h v _ _ le) (h' v _ _ le)) (le.ex v) q
theorem ds_if (ht : DT X B W c t) (h : DSs X B W sta sf) (h' : DSs X B W stb sg) : DS X B W (.If c sta stb pos) (sIf t sf sg) := ⟨PS.imp (ps_if ht.pt h.pss h'.pss) fun D σ H ⟨F0, v, F, P, S, cp, q⟩ => by
  refine rdT.mk ht.mono S (cp.xok S) q fun c k F' H' g s => ?_
  cases c with
  | true => exact ⟨F0, v, F', P, S.gr g s, cp, k⟩
  | false => exact ⟨F0, v, F', P, S.gr g s, cp, k⟩, mono_sIf ht.mono h.mono h'.mono⟩
theorem mono_sWhile (ht : MonoT t) (h : MonoS sf) : MonoS (sWhile t sf) := fun v P P' le ⟨Wv, h0, q⟩ => ⟨Wv, h0, fun m v w => ht v _ _ _ _ (fun c q => br_mono q (h v { P with nx := fun v' => ∃ m', m' < m ∧ Wv m' v', ct := fun v' => ∃ m', m' < m ∧ Wv m' v', bk := P.nx } { P' with nx := fun v' => ∃ m', m' < m ∧ Wv m' v', ct := fun v' => ∃ m', m' < m ∧ Wv m' v', bk := P'.nx } ⟨fun _ z => z, le.rt, le.nx, fun _ z => z, le.ex⟩) (le.nx v)) (le.ex v) (q m v w)⟩
theorem ds_while (hp : PassesOwn (model X.prog X.w) X.A X.env X.xe) (ht : DT X B W c t) (h : DSs X B W sta sf) : DS X B W (.While c sta [] pos) (sWhile t sf) := ⟨PS.imp (ps_while hp ht.pt h.pss) fun D σ H ⟨F0, v, F, P, S, cp, q⟩ => by
  obtain ⟨Wv, ⟨m0, w0⟩, turn⟩ := q
  refine ⟨fun m σ H => ∃ v F, SR X.K B F0 v F σ H ∧ Wv m v, ⟨m0, v, F, S, w0⟩, fun m σ1 H1 ⟨v1, F1, S1, w1⟩ => ?_⟩
  refine rdT.mk ht.mono S1 (cp.xok S1) (turn m v1 w1) fun c k F' H' g s => ?_
  cases c with
  | false => exact cp.nx v1 F' σ1 H' (S1.gr g s) k
  | true =>
    refine ⟨fun σ' H' => ∃ v' F', SR X.K B F0 v' F' σ' H' ∧ ∃ m', m' < m ∧ Wv m' v', fun σ' H' ⟨v', F', S', m', hm, w'⟩ => ⟨m', hm, v', F', S', w'⟩, ?_⟩
    exact ⟨F0, v1, F', { P with nx := fun v' => ∃ m', m' < m ∧ Wv m' v', ct := fun v' => ∃ m', m' < m ∧ Wv m' v', bk := P.nx }, S1.gr g s, ⟨fun v' F2 σ2 H2 S2 q => ⟨v', F2, S2, q⟩, fun v' F2 σ2 H2 S2 q => cp.nx v' F2 σ2 H2 S2 q, fun v' F2 σ2 H2 S2 q => ⟨v', F2, S2, q⟩, cp.rt, cp.ex⟩, k⟩, mono_sWhile ht.mono h.mono⟩
end
end Rw

set_option Elab.async false
set_option linter.all false
set_option maxRecDepth 100000
namespace Rw
open PySem PySem.Spec L2

/-! ### a def's own lists -/
section
variable {K : PySem.W.Frag} {B : Bs} {F0 : Hp} {v : Ev} {F H : Hp} {σ : St}
/-- a slot's own list is changed where it stands -/
theorem SR.mut (S : SR K B F0 v F σ H) {i : Nat} {a : Addr} {d d' : D} {o : HO} (hv : v[i]? = some (.own d)) (ha : σ[i]? = some (some (V.ref a))) (new : At K F (upd H a o) a d') : SR K B F0 (v.set i (.own d')) F σ (upd H a o) := by
  obtain ⟨a', h1, h2, h3, h4⟩ := S.own i d hv
  rw [ha] at h1
  cases h1
  have hi : i < v.length := (List.getElem?_eq_some_iff.mp hv).1
  have hb : ∀ (j : Nat) (s : Sl), (v.set i (.own d'))[j]? = some s → s = .own d' ∧ j = i ∨ j ≠ i ∧ v[j]? = some s := by
    intro j s h
    by_cases hj : i = j
    · subst hj
      rw [List.getElem?_set_self hi] at h
      cases h
      exact .inl ⟨rfl, rfl⟩
    · rw [List.getElem?_set_ne hj] at h
      exact .inr ⟨fun e => hj e.symm, h⟩
  refine ⟨S.sF, fun b x e => ?_, S.nw, fun b x e => ?_, by rw [List.length_set, S.len], fun j e h => ?_, fun j e h => ?_, fun j k e f b p1 p2 p3 p4 => ?_⟩
  · rw [upd_ne (ne_of_none e h2)]; exact S.sH b x e
  · rw [upd_ne (ne_of_none e h3)]; exact S.sub b x e
  · rcases hb j _ h with ⟨z, _⟩ | ⟨hj, h⟩
    · cases z
    · exact S.val j e h
  · rcases hb j _ h with ⟨z, rfl⟩ | ⟨hj, h⟩
    · cases z
      exact ⟨a, ha, h2, h3, new⟩
    · obtain ⟨b, q1, q2, q3, q4⟩ := S.own j e h
      have hba : b ≠ a := fun z => hj (S.sep j i e d b h hv q1 (by rw [z]; exact ha))
      exact ⟨b, q1, q2, q3, q4.gr (.refl _) (upd_ne hba)⟩
  · have old : ∀ (j : Nat) e, (v.set i (Sl.own d'))[j]? = some (.own e) → ∃ e', v[j]? = some (.own e') := fun j e h => by
      rcases hb j _ h with ⟨z, rfl⟩ | ⟨hj, h⟩
      · exact ⟨d, hv⟩
      · exact ⟨e, h⟩
    obtain ⟨e', p1⟩ := old j e p1
    obtain ⟨f', p2⟩ := old k f p2
    exact S.sep j k e' f' b p1 p2 p3 p4
theorem ownK_inv {o : Option Sl} {K : List D → Prop} (h : ownK o K) : ∃ ds, o = some (.own (.list ds)) ∧ K ds := by
  unfold ownK at h
  split at h
  · exact ⟨_, rfl, h⟩
  · exact h.elim
theorem ownK_mono {o : Option Sl} {K K' : List D → Prop} (h : ownK o K) (i : ∀ ds, K ds → K' ds) : ownK o K' := by
  obtain ⟨ds, rfl, k⟩ := ownK_inv h
  exact i ds k
theorem SR.lst (S : SR K B F0 v F σ H) {i : Nat} {ds : List D} (hv : v[i]? = some (.own (.list ds))) : ∃ a xs, σ[i]? = some (some (V.ref a)) ∧ H a = some (.lst xs) ∧ Reps K F xs ds := by
  obtain ⟨a, h1, _, _, xs, h4, h5⟩ := S.own i _ hv
  exact ⟨a, xs, h1, h4, h5⟩
end

section
variable {X : Cx} {B : Bs} {W : WX} {m : Md} {e a b c : Expr} {f fa fb fc : ET} {t u : TT} {pos p p2 apos cpos : Pos} {es : List Expr} {ar : AT} {z : Bool} {x : Str} {k : Nat} {G : DSp} {st : Stmt} {sts sta stb : List Stmt} {sf sg : ST} {g : GT} {is : List Nat} {i : Nat}
theorem mono_sApp (h : MonoE f) : MonoS (sApp i f) := fun v P P' le q => ownK_mono q fun ds q => h v _ _ _ _ (fun d q => ⟨q.1, le.nx _ q.2⟩) (le.ex v) q
/-- xs.append(e) -/
theorem ds_app (i : Nat) (h : DE X B W .fz e f) (hN : X.N[i]? = some x := by rfl) (hv : Vis X.env.scope x := by first | exact Or.inl rfl | exact Or.inr (Or.inl rfl) | exact Or.inr (Or.inr rfl)) (hd : (x == ("__debug__" : Str)) = false := by decide) (hcd : (x == ("__classdict__" : Str)) = false := by decide)
    (hbase : attributeBase (.Name x p) "append" X.env (eval (.Name x p) X.env) = eval (.Name x p) X.env := by rfl)
    (hfew : ((backTo cpos (starEach [e] X.env)).all (fun x => !x.1) && (backToKw cpos (keywordEach [] X.env)).all (fun x => x.1.isSome)
      && decide ([e].length + ([] : List Keyword).length + (if ([] : List Keyword).isEmpty then 0 else 1) < 30)) = true := by rfl)
    (hline : (apos.endLine == cpos.line) = true := by rfl) (hs : starEach [e] X.env = [(false, eval e X.env)] := by rfl)
    (hsw : swapsWith (.Call (.Attribute (.Name x p) "append" apos) [e] [] cpos) none pos.line X.env = pure false := by rfl) :
    DS X B W (.Expr (.Call (.Attribute (.Name x p) "append" apos) [e] [] cpos) pos) (sApp i f) :=
  ⟨PS.imp (ps_expr (pe_bm PySem.F.plainAttrs_list PySem.F.slot_list_append PySem.F.type_list_append mt_append (pe_var hN hv hd hcd) (pa_cons h.pe pa_nil hs) hbase hfew hline hs (by rfl)) hsw) fun D σ H ⟨F0, v, F, P, S, cp, q⟩ => by
    obtain ⟨ds, hv, q⟩ := ownK_inv q
    obtain ⟨a, xs, h1, h2, h3⟩ := S.lst hv
    refine ⟨.ref a, h1, .inl ⟨rfl, xs, .of h2⟩, ?_⟩
    refine rdE.mk h.mono S (cp.xok S) q fun d kk y F' H' g s r => ?_
    have S' := S.gr g s
    have h2' := g.h _ _ h2
    refine ⟨a, xs, y, rfl, rfl, h2', ?_, ?_⟩
    · rw [h3.length, sizeLine_eq]; exact kk.1
    · exact cp.nx _ F' σ _ (S'.mut (d' := .list (ds ++ [d])) hv h1 ⟨_, upd_same, (h3.mono g.f).append (.one r)⟩) kk.2, mono_sApp h.mono⟩
/-- xs.extend(e), e a list -/
theorem mono_sExt (h : MonoE f) : MonoS (sExt i f) := fun v P P' le q => ownK_mono q fun ds q => h v _ _ _ _ (fun d q => by
  cases d <;> first | exact False.elim q | exact ⟨q.1, le.nx _ q.2⟩) (le.ex v) q

/-! ### what a loop goes over -/
/-- cmp: nothing that stands may change meanwhile (a comprehension) -/
def ItOk (K : PySem.W.Frag) (cmp : Bool) (F1 H1 : Hp) (J : It) (items : List D) : Prop := ∀ (i : Nat) (F2 H2 : Hp), Same F1 F2 → Same F2 H2 → (cmp = true → Same H1 H2) →
  (∀ d, items[i]? = some d → J.go i H2 ∧ ∀ x H3, J.yld i H2 x H3 → ∃ F3, Gr F2 H2 F3 H3 ∧ Same F3 H3 ∧ Rep K F3 x d) ∧ (items[i]? = none → J.stop i H2)
def rdI (K : PySem.W.Frag) (B : Bs) (W : WX) (cmp : Bool) (f : AT) : TI := fun σ H R => ∃ F0 v F X, SR K B F0 v F σ H ∧ XOk B W F H σ X ∧ f v (fun items => ∀ J F1 H1, Gr F H F1 H1 → Same F1 H1 → ItOk K cmp F1 H1 J items → R J H1) X
structure DI (X : Cx) (B : Bs) (W : WX) (cmp : Bool) (tg iter : Expr) (f : AT) : Prop where
  pi : PI X tg iter (rdI X.K B W cmp f)
  mono : MonoA f
theorem PI.imp {X : Cx} {tg it : Expr} {t t' : TI} (h : PI X tg it t) (i : ∀ σ H R, t' σ H R → t σ H R) : PI X tg it t' := ⟨fun pins s σ H R I q => h.run pins s σ H R I (i σ H R q)⟩
theorem it_list {K : PySem.W.Frag} {cmp : Bool} {F1 H1 : Hp} {p : Addr} {xs : List V} {ds : List D} (h : (SqL K F1 p xs) ∨ (cmp = true ∧ SqL K H1 p xs)) (r : Reps K F1 xs ds) : ItOk K cmp F1 H1 (Itl K p) ds := fun i F2 H2 f s c => by
  have sq : SqL K H2 p xs := by
    rcases h with h | ⟨hc, h⟩
    · exact s.seq (f.seq h)
    · exact (c hc).seq h
  refine ⟨fun d hd => ?_, fun hn => ⟨xs, sq, ?_⟩⟩
  · obtain ⟨y, h1, h2⟩ := r.get hd
    refine ⟨⟨xs, y, sq, h1⟩, fun x H3 ⟨e, hy⟩ => ?_⟩
    subst e
    have := hy xs sq
    rw [h1] at this
    cases this
    exact ⟨F2, .refl _ _, s, h2.mono f⟩
  · rw [r.length]; exact List.getElem?_eq_none_iff.mp hn
theorem it_tup {K : PySem.W.Frag} {cmp : Bool} {F1 H1 : Hp} {p : Addr} {xs : List V} {ds : List D} (h : SqT K F1 p xs) (r : Reps K F1 xs ds) : ItOk K cmp F1 H1 (Itt K p) ds := fun i F2 H2 f s c => by
  have sq : SqT K H2 p xs := same_T s (same_T f h)
  refine ⟨fun d hd => ?_, fun hn => ⟨xs, sq, ?_⟩⟩
  · obtain ⟨y, h1, h2⟩ := r.get hd
    refine ⟨⟨xs, y, sq, h1⟩, fun x H3 ⟨e, hy⟩ => ?_⟩
    subst e
    have := hy xs sq
    rw [h1] at this
    cases this
    exact ⟨F2, .refl _ _, s, h2.mono f⟩
  · rw [r.length]; exact List.getElem?_eq_none_iff.mp hn
theorem rng_get (lo : Int) (n : Nat) (c : Int) (i : Nat) : (rng lo n c)[i]? = if i < n then some (.int (lo + i * c)) else none := by
  unfold rng
  rw [List.getElem?_map]
  by_cases h : i < n
  · rw [if_pos h, List.getElem?_range h]; rfl
  · rw [if_neg h, List.getElem?_eq_none (by simpa using h)]; rfl
theorem it_rng {K : PySem.W.Frag} {cmp : Bool} {F1 H1 : Hp} (lo : Int) (n : Nat) : ItOk K cmp F1 H1 (Itr lo n) (rng lo n 1) := fun i F2 H2 f s c => by
  rw [rng_get]
  by_cases h : i < n
  · rw [if_pos h]
    refine ⟨fun d hd => ⟨h, fun x H3 ⟨e, hy⟩ => ?_⟩, fun hn => by cases hn⟩
    cases hd
    subst e hy
    refine ⟨F2, .refl _ _, s, ?_⟩
    rw [Int.mul_one]
    exact .int _
  · rw [if_neg h]
    exact ⟨(fun d hd => by cases hd), fun _ => Nat.le_of_not_lt h⟩
theorem it_rngC {K : PySem.W.Frag} {cmp : Bool} {F1 H1 : Hp} (lo c : Int) (n : Nat) : ItOk K cmp F1 H1 (Itc lo c n) (rng lo n c) := fun i F2 H2 f s cc => by
  rw [rng_get]
  by_cases h : i < n
  · rw [if_pos h]
    refine ⟨fun d hd => ⟨h, fun x H3 ⟨e, hy⟩ => ?_⟩, fun hn => by cases hn⟩
    cases hd
    subst e hy
    exact ⟨F2, .refl _ _, s, .int _⟩
  · rw [if_neg h]
    exact ⟨(fun d hd => by cases hd), fun _ => Nat.le_of_not_lt h⟩
theorem zipD_get : ∀ (xs ys : List D) (i : Nat), (zipD xs ys)[i]? = match xs[i]?, ys[i]? with | some x, some y => some (.tuple [x, y]) | _, _ => none
  | [], ys, i => by simp [zipD]
  | x :: xs, [], i => by simp [zipD]
  | x :: xs, y :: ys, 0 => by simp [zipD]
  | x :: xs, y :: ys, i + 1 => by
    have := zipD_get xs ys i
    simp only [zipD, List.getElem?_cons_succ]
    exact this
theorem it_zip {K : PySem.W.Frag} {cmp : Bool} {F1 H1 : Hp} {p q : Addr} {xs ys : List V} {ds es : List D} (h : SqL K F1 p xs ∨ (cmp = true ∧ SqL K H1 p xs)) (h' : SqL K F1 q ys ∨ (cmp = true ∧ SqL K H1 q ys)) (r : Reps K F1 xs ds) (r' : Reps K F1 ys es) : ItOk K cmp F1 H1 (Itz K p q) (zipD ds es) := fun i F2 H2 f s c => by
  have sq : SqL K H2 p xs := by
    rcases h with h | ⟨hc, h⟩
    · exact s.seq (f.seq h)
    · exact (c hc).seq h
  have sq' : SqL K H2 q ys := by
    rcases h' with h | ⟨hc, h⟩
    · exact s.seq (f.seq h)
    · exact (c hc).seq h
  rw [zipD_get]
  cases e1 : ds[i]? with
  | none =>
    refine ⟨(fun d hd => by cases hd), fun _ => ⟨xs, ys, sq, sq', .inl ?_⟩⟩
    rw [r.length]; exact List.getElem?_eq_none_iff.mp e1
  | some d1 =>
    cases e2 : es[i]? with
    | none =>
      refine ⟨(fun d hd => by cases hd), fun _ => ⟨xs, ys, sq, sq', .inr ?_⟩⟩
      rw [r'.length]; exact List.getElem?_eq_none_iff.mp e2
    | some d2 =>
      obtain ⟨y1, h1, h2⟩ := r.get e1
      obtain ⟨y2, h3, h4⟩ := r'.get e2
      refine ⟨fun d hd => ⟨⟨xs, ys, y1, y2, sq, sq', h1, h3⟩, fun x H3 ⟨T, x1, x2, ex, nT, eH, k1, k2⟩ => ?_⟩, fun hn => by cases hn⟩
      cases hd
      subst ex eH
      have a1 := k1 xs sq
      have a2 := k2 ys sq'
      rw [h1] at a1
      rw [h3] at a2
      cases a1
      cases a2
      obtain ⟨g, s', mr⟩ := fresh_tup (K := K) s nT (.cons (h2.mono f) (.one (h4.mono f)))
      exact ⟨_, g, s', mr⟩
theorem it_zipT {K : PySem.W.Frag} {cmp : Bool} {F1 H1 : Hp} {p q : Addr} {xs ys : List V} {ds es : List D} (h : SqT K F1 p xs) (h' : SqT K F1 q ys) (r : Reps K F1 xs ds) (r' : Reps K F1 ys es) : ItOk K cmp F1 H1 (RZ.ItzT K p q) (zipD ds es) := fun i F2 H2 f s c => by
  have sq : SqT K H2 p xs := same_T s (same_T f h)
  have sq' : SqT K H2 q ys := same_T s (same_T f h')
  rw [zipD_get]
  cases e1 : ds[i]? with
  | none =>
    refine ⟨(fun d hd => by cases hd), fun _ => ⟨xs, ys, sq, sq', .inl ?_⟩⟩
    rw [r.length]; exact List.getElem?_eq_none_iff.mp e1
  | some d1 =>
    cases e2 : es[i]? with
    | none =>
      refine ⟨(fun d hd => by cases hd), fun _ => ⟨xs, ys, sq, sq', .inr ?_⟩⟩
      rw [r'.length]; exact List.getElem?_eq_none_iff.mp e2
    | some d2 =>
      obtain ⟨y1, h1, h2⟩ := r.get e1
      obtain ⟨y2, h3, h4⟩ := r'.get e2
      refine ⟨fun d hd => ⟨⟨xs, ys, y1, y2, sq, sq', h1, h3⟩, fun x H3 ⟨T, x1, x2, ex, nT, eH, k1, k2⟩ => ?_⟩, fun hn => by cases hn⟩
      cases hd
      subst ex eH
      have a1 := k1 xs sq
      have a2 := k2 ys sq'
      rw [h1] at a1
      rw [h3] at a2
      cases a1
      cases a2
      obtain ⟨g, s', mr⟩ := fresh_tup (K := K) s nT (.cons (h2.mono f) (.one (h4.mono f)))
      exact ⟨_, g, s', mr⟩
/-- borrowed lists in a comprehension -/
theorem MB.sqL {K : PySem.W.Frag} {F H : Hp} {x : V} {ds : List D} (h : MB K F H x (.list ds)) : ∃ p xs, x = .ref p ∧ (SqL K F p xs ∨ (true = true ∧ SqL K H p xs)) ∧ Reps K F xs ds := by
  rcases h with h | ⟨a, rfl, xs, e, r⟩
  · obtain ⟨p, xs, e, q, r⟩ := h.list_inv
    exact ⟨p, xs, e, .inl q, r⟩
  · exact ⟨a, xs, rfl, .inr ⟨rfl, .of e⟩, r⟩
variable {tg : Expr} {cmp : Bool}
theorem mono_iL (h : MonoE f) : MonoA (iL f) := fun v K K' X X' hk hx q => h v _ _ _ _ (fun d q => by
  cases d <;> first | exact False.elim q | exact hk _ q) hx q
theorem mono_iT (h : MonoE f) : MonoA (iT f) := fun v K K' X X' hk hx q => h v _ _ _ _ (fun d q => by
  cases d <;> first | exact False.elim q | exact hk _ q) hx q
theorem di_l (h : DE X B W .fz e f) : DI X B W cmp tg e (iL f) := ⟨PI.imp (pi_list h.pe) fun σ H R ⟨F0, v, F, Xx, S, hX, q⟩ => by
  refine rdE.mk h.mono S hX q fun d k x F' H' g s r => ?_
  cases d <;> first | exact False.elim k | skip
  obtain ⟨p, xs, rfl, sq, rr⟩ := Rep.list_inv r
  exact ⟨p, rfl, ⟨xs, s.seq sq⟩, k _ F' H' g s (it_list (.inl sq) rr)⟩, mono_iL h.mono⟩
theorem di_lb (h : DE X B W .bo e f) : DI X B W true tg e (iL f) := ⟨PI.imp (pi_list h.pe) fun σ H R ⟨F0, v, F, Xx, S, hX, q⟩ => by
  refine rdE.mk h.mono S hX q fun d k x F' H' g s r => ?_
  cases d <;> first | exact False.elim k | skip
  obtain ⟨p, xs, rfl, sq, rr⟩ := MB.sqL r
  obtain ⟨p', xs', e', sq', _⟩ := MB.list r s
  cases e'
  exact ⟨p, rfl, ⟨_, sq'⟩, k _ F' H' g s (it_list sq rr)⟩, mono_iL h.mono⟩
theorem di_t (h : DE X B W .fz e f) : DI X B W cmp tg e (iT f) := ⟨PI.imp (pi_tup h.pe) fun σ H R ⟨F0, v, F, Xx, S, hX, q⟩ => by
  refine rdE.mk h.mono S hX q fun d k x F' H' g s r => ?_
  cases d <;> first | exact False.elim k | skip
  obtain ⟨p, xs, rfl, sq, rr⟩ := Rep.tuple_inv r
  exact ⟨p, rfl, ⟨xs, same_T s sq⟩, k _ F' H' g s (it_tup sq rr)⟩, mono_iT h.mono⟩
theorem mono_iR1 (h : MonoE f) : MonoA (iR1 f) := fun v K K' X X' hk hx q => h v _ _ _ _ (fun d q => by
  cases d <;> first | exact False.elim q | exact ⟨q.1, hk _ q.2⟩) hx q
theorem mono_iR2 (h : MonoE fa) (h' : MonoE fb) : MonoA (iR2 fa fb) := fun v K K' X X' hk hx q => h v _ _ _ _ (fun d q => h' v _ _ _ _ (fun d' q => by
  cases d <;> cases d' <;> first | exact False.elim q | exact ⟨q.1, hk _ q.2⟩) hx q) hx q
theorem di_r1 (hm : X.mg "range" = none) (h : DE X B W .bo a fa) (hg : Gl X "range" := by rfl) (hs : starEach [a] X.env = [(false, eval a X.env)] := by rfl) : DI X B W cmp tg (.Call (.Name "range" p) [a] [] pos) (iR1 fa) := ⟨PI.imp (pi_range1 hg hm (pa_cons h.pe pa_nil hs) hs) fun σ H R ⟨F0, v, F, Xx, S, hX, q⟩ => by
  refine rdE.mk h.mono S hX q fun d k x F' H' g s r => ?_
  cases d <;> first | exact False.elim k | skip
  rename_i j
  exact ⟨j, by rw [MB.int r], k.1.1, k.1.2, k.2 _ F' H' g s (it_rng 0 _)⟩, mono_iR1 h.mono⟩
theorem di_r2 (hm : X.mg "range" = none) (h : DE X B W .bo a fa) (h' : DE X B W .bo b fb) (hg : Gl X "range" := by rfl) (hs : starEach [a, b] X.env = [(false, eval a X.env), (false, eval b X.env)] := by rfl) (hs2 : starEach [b] X.env = [(false, eval b X.env)] := by rfl) :
    DI X B W cmp tg (.Call (.Name "range" p) [a, b] [] pos) (iR2 fa fb) := ⟨PI.imp (pi_range2 hg hm (pa_cons h.pe (pa_cons h'.pe pa_nil hs2) (by rw [hs, hs2])) hs hs2) fun σ H R ⟨F0, v, F, Xx, S, hX, q⟩ => by
  refine rdE.mk h.mono S hX q fun d k0 x F' H' g s r => ?_
  refine rdE.mk h'.mono (S.gr g s) (hX.gr g) k0 fun d' k y F2 H2 g2 s2 r2 => ?_
  clear k0
  cases d <;> cases d' <;> first | exact False.elim k | skip
  rename_i i j
  exact ⟨i, j, by rw [MB.int r, MB.int r2], ⟨k.1.1.1, k.1.1.2, k.1.2.1, k.1.2.2⟩, k.2 _ F2 H2 (g.trans g2) s2 (it_rng i _)⟩, mono_iR2 h.mono h'.mono⟩
theorem zip2_mono {x y : D} {K K' : List D → Prop} (hk : ∀ ds, K ds → K' ds) (q : zip2 x y K) : zip2 x y K' := by
  cases x <;> cases y <;> first | exact False.elim q | exact hk _ q
theorem mono_iZip (h : MonoE fa) (h' : MonoE fb) : MonoA (iZip fa fb) := fun v K K' X X' hk hx q => h v _ _ _ _ (fun d q => h' v _ _ _ _ (fun d' q => zip2_mono hk q) hx q) hx q
theorem di_zip {elts : List Expr} {kk : Nat} {tpos : Pos} (hm : X.mg "zip" = none) (h : DE X B W .fz a fa) (h' : DE X B W .fz b fb) (hg : Gl X "zip" := by rfl) (hs : starEach [a, b] X.env = (false, eval a X.env) :: starEach [b] X.env := by rfl) (hs2 : starEach [b] X.env = [(false, eval b X.env)] := by rfl) :
    DI X B W cmp (.Tuple elts kk tpos) (.Call (.Name "zip" p) [a, b] [] pos) (iZip fa fb) := ⟨PI.imp (RZ.pi_zipA hg hm (pa_cons h.pe (pa_cons h'.pe pa_nil hs2) hs) hs (by rw [hs2]; rfl)) fun σ H R ⟨F0, v, F, Xx, S, hX, q⟩ => by
  refine rdE.mk h.mono S hX q fun d k x F' H' g s r => ?_
  refine rdE.mk h'.mono (S.gr g s) (hX.gr g) k fun d' k y F2 H2 g2 s2 r2 => ?_
  have r := Rep.mono g2.f r
  cases d <;> cases d' <;> first | exact False.elim k | skip
  · obtain ⟨p1, xs, rfl, sq, rr⟩ := Rep.list_inv r
    obtain ⟨p2, ys, rfl, sq2, rr2⟩ := Rep.list_inv r2
    exact ⟨p1, p2, xs, ys, rfl, .inl ⟨s2.seq sq, s2.seq sq2, k _ F2 H2 (g.trans g2) s2 (it_zip (.inl sq) (.inl sq2) rr rr2)⟩⟩
  · obtain ⟨p1, xs, rfl, sq, rr⟩ := Rep.tuple_inv r
    obtain ⟨p2, ys, rfl, sq2, rr2⟩ := Rep.tuple_inv r2
    exact ⟨p1, p2, xs, ys, rfl, .inr ⟨same_T s2 sq, same_T s2 sq2, k _ F2 H2 (g.trans g2) s2 (it_zipT sq sq2 rr rr2)⟩⟩, mono_iZip h.mono h'.mono⟩

/-! ### for -/
theorem mono_forD (hg : MonoGT g) (h : MonoS sf) : ∀ (ds : List D) (v : Ev) (P P' : Post), PLe P P' → forD g sf ds v P → forD g sf ds v P'
  | [], v, P, P', le, q => le.nx v q
  | d :: ds, v, P, P', le, q => hg d v _ _ (fun v1 q => h v1 { P with nx := fun v2 => forD g sf ds v2 P, ct := fun v2 => forD g sf ds v2 P, bk := P.nx } { P' with nx := fun v2 => forD g sf ds v2 P', ct := fun v2 => forD g sf ds v2 P', bk := P'.nx }
      ⟨fun v2 q => mono_forD hg h ds v2 P P' le q, le.rt, le.nx, fun v2 q => mono_forD hg h ds v2 P P' le q, le.ex⟩ q) q
theorem mono_sFor (ha : MonoA ar) (hg : MonoGT g) (h : MonoS sf) : MonoS (sFor ar g sf) := fun v P P' le q => ha v _ _ _ _ (fun ds q => mono_forD hg h ds v P P' le q) (le.ex v) q
/-- the part that never changes, as it stands now, taken as the ground -/
theorem SR.up {K : PySem.W.Frag} {F0 F1 H : Hp} {v : Ev} {σ : St} (S : SR K B F0 v F1 σ H) : SR K B F1 v F1 σ H := ⟨.refl _, S.sH, fun a h => .inl h, S.sub, S.len, S.val, S.own, S.sep⟩
theorem SR.dn {K : PySem.W.Frag} {F0 F1 F H1 H : Hp} {v v1 : Ev} {σ σ1 : St} (S : SR K B F1 v F σ H) (S1 : SR K B F0 v1 F1 σ1 H1) : SR K B F0 v F σ H := ⟨S1.sF.trans S.sF, S.sH, fun a h => by
  rcases S.nw a h with z | z
  · exact S1.nw a z
  · exact .inr z, S.sub, S.len, S.val, S.own, S.sep⟩
theorem Gr.dn {K : PySem.W.Frag} {F0 F1 F H1 H : Hp} {v1 : Ev} {σ1 : St} (g : Gr F1 B.H0 F H) (S1 : SR K B F0 v1 F1 σ1 H1) : Gr F0 B.H0 F H := ⟨S1.sF.trans g.f, g.h, fun a h => by
  rcases g.n a h with z | z
  · exact S1.nw a z
  · exact .inr z⟩
theorem ds_for (hp : PassesOwn (model X.prog X.w) X.A X.env X.xe) (hc : X.calm = true) (hi : DI X B W false tg e ar) (hg : DG X B tg is g) (h : DSs X B W sta sf) (hs : ∀ x, foldedSetIterable e X.env x = pure x := by intro _; rfl) : DS X B W (.For tg e sta [] pos) (sFor ar g sf) :=
  ⟨PS.imp (ps_for hp hc hi.pi hg.pg h.pss hs) fun D σ H ⟨F0, v, F, P, S, cp, q⟩ => by
    refine ⟨F0, v, F, _, S, cp.xok S, hi.mono v _ _ _ _ (fun ds q J F1 H1 g1 s1 it => ?_) (fun _ z => z) q⟩
    have S1 := S.gr g1 s1
    refine ⟨fun i m σ H => m = ds.length - i ∧ ∃ v' F', SR X.K B F1 v' F' σ H ∧ forD g sf (ds.drop i) v' P, ⟨ds.length, rfl, v, F1, S1.up, q⟩, ?_⟩
    rintro i m σ2 H2 ⟨rfl, v2, F2, S2, q2⟩
    obtain ⟨go, stop⟩ := it i F2 H2 S2.sF S2.sub (fun z => by cases z)
    by_cases hi : i < ds.length
    · obtain ⟨go, yl⟩ := go ds[i] (List.getElem?_eq_getElem hi)
      rw [List.drop_eq_getElem_cons hi] at q2
      refine .inr ⟨go, fun σ3 H3 => ∃ v' F', SR X.K B F1 v' F' σ3 H3 ∧ forD g sf (ds.drop (i + 1)) v' P, fun σ3 H3 w => ⟨ds.length - (i + 1), by omega, rfl, w⟩, fun x H3 hy => ?_⟩
      obtain ⟨F3, g3, s3, r3⟩ := yl x H3 hy
      refine ⟨F1, v2, F3, ds[i], S2.gr g3 s3, r3, hg.mono _ _ _ _ (fun v4 q4 σ4 S4 _ => ?_) q2⟩
      refine ⟨F1, v4, F3, { P with nx := fun v2 => forD g sf (ds.drop (i + 1)) v2 P, ct := fun v2 => forD g sf (ds.drop (i + 1)) v2 P, bk := P.nx }, S4, ⟨fun v5 F5 σ5 H5 S5 q5 => ⟨v5, F5, S5, q5⟩, fun v5 F5 σ5 H5 S5 q5 => cp.nx v5 F5 σ5 H5 (S5.dn S1) q5, fun v5 F5 σ5 H5 S5 q5 => ⟨v5, F5, S5, q5⟩,
        fun x5 d5 F5 H5 g5 s5 r5 q5 => cp.rt x5 d5 F5 H5 (g5.dn S1) s5 r5 q5, fun v5 x5 cls dd F5 σ5 H5 S5 r5 q5 => cp.ex v5 x5 cls dd F5 σ5 H5 (S5.dn S1) r5 q5⟩, q4⟩
    · rw [List.drop_eq_nil_of_le (by omega)] at q2
      exact .inl ⟨stop (List.getElem?_eq_none_iff.mpr (by omega)), cp.nx v2 F2 σ2 H2 (S2.dn S1) q2⟩, mono_sFor hi.mono hg.mono h.mono⟩
end
end Rw

set_option Elab.async false
set_option linter.all false
set_option maxRecDepth 100000
namespace Rw
open PySem PySem.Spec L2

theorem wipe_wipe (σ : St) (vs : List Nat) : wipe (wipe σ vs) vs = wipe σ vs := by
  apply List.ext_getElem?
  intro j
  by_cases hj : j ∈ vs
  · have w : ∀ (vs : List Nat) (τ : St), j ∈ vs → j < τ.length → (wipe τ vs)[j]? = some none := fun vs => by
      induction vs with
      | nil => intro τ h; cases h
      | cons n r ih =>
        intro τ hj hl
        unfold wipe
        by_cases hn : n = j
        · subst hn
          rw [List.getElem?_set_self (by rw [wipe_length]; exact hl)]
        · rw [List.getElem?_set_ne hn]
          rcases List.mem_cons.mp hj with e | hj
          · exact absurd e.symm hn
          · exact ih τ hj hl
    by_cases hl : j < σ.length
    · rw [w vs _ hj (by rw [wipe_length]; exact hl), w vs σ hj hl]
    · rw [List.getElem?_eq_none (by rw [wipe_length, wipe_length]; omega), List.getElem?_eq_none (by rw [wipe_length]; omega)]
  · rw [wipe_out hj]
/-- nothing is let out of a comprehension -/
abbrev WF : WX := fun _ _ _ _ => False
section
variable {K : PySem.W.Frag} {B : Bs} {W : WX} {f : ET} {σ : St} {H : Hp} {Q : VK}
theorem rd_frz (m : MonoE f) (h : rdE K B W .fz f σ H Q) : rdE K B W .fr f σ H Q := by
  obtain ⟨F0, v, F, Xx, S, hX, q⟩ := h
  refine ⟨F0, v, F, Xx, S, hX, m _ _ _ _ _ (fun d k x F' H' g s r => ?_) (fun _ z => z) q⟩
  obtain ⟨p, rfl, n0, nF, at_⟩ := r
  obtain ⟨o, ho, hr⟩ := at_.froz nF
  have f1 : Same F' (upd F' p o) := fun b y e => by rw [upd_ne (ne_of_none e nF)]; exact e
  refine k _ _ H' ⟨g.f.trans f1, g.h, fun b hb => ?_⟩ (fun b y e => ?_) hr
  · by_cases hbp : b = p
    · rw [hbp]; exact .inr n0
    · rw [upd_ne hbp] at hb; exact g.n b hb
  · by_cases hbp : b = p
    · rw [hbp, upd_same] at e; rw [hbp, ← e]; exact ho
    · rw [upd_ne hbp] at e; exact s b y e
/-- the block's own state while the list at D is made -/
structure LcI (K : PySem.W.Frag) (F1 H1 : Hp) (Da : Addr) (F' H' : Hp) (acc : List D) : Prop where
  g : Gr F1 H1 F' H'
  s : Same F' H'
  nD : F' Da = none
  at_ : ∃ xs, H' Da = some (.lst xs) ∧ Reps K F' xs acc
variable {F1 H1 F' H' F2 H2 : Hp} {D : Addr} {acc : List Rw.D}
theorem LcI.gr (h : LcI K F1 H1 D F' H' acc) (g : Gr F' H' F2 H2) (s : Same F2 H2) : LcI K F1 H1 D F2 H2 acc := by
  obtain ⟨xs, e, r⟩ := h.at_
  refine ⟨h.g.trans g, s, ?_, xs, g.h _ _ e, r.mono g.f⟩
  cases q : F2 D with
  | none => rfl
  | some o =>
    rcases g.n D (by rw [q]; intro z; cases z) with z | z
    · exact absurd h.nD z
    · rw [e] at z; cases z
theorem LcI.app (h : LcI K F1 H1 D F' H' acc) (n1 : H1 D = none) {y : V} {d : Rw.D} (r : Rep K F' y d) : ∃ xs, H' D = some (.lst xs) ∧ xs.length = acc.length ∧ LcI K F1 H1 D F' (upd H' D (.lst (xs ++ [y]))) (acc ++ [d]) := by
  obtain ⟨xs, e, rr⟩ := h.at_
  refine ⟨xs, e, rr.length, ⟨h.g.f, fun b x hb => ?_, h.g.n⟩, fun b x hb => ?_, h.nD, _, upd_same, rr.append (.one r)⟩
  · rw [upd_ne (ne_of_none hb n1)]; exact h.g.h b x hb
  · rw [upd_ne (ne_of_none hb h.nD)]; exact h.s b x hb
theorem LcI.start (s : Same F1 H1) (n : H1 D = none) : LcI K F1 H1 D F1 (upd H1 D (.lst [])) [] := by
  obtain ⟨g, s'⟩ := Gr.own (o := .lst []) s n
  exact ⟨g, s', s.free n, [], upd_same, .nil⟩
end

section
variable {X : Cx} {B : Bs} {W : WX} {elt tg iter tg1 iter1 : Expr} {fe : ET} {fs fs1 : AT} {t t1 : TT} {g g1 : GT} {is is1 : List Nat} {pos : Pos} {ifs ifs1 : List Expr} {scope : Scope} {own : List (Str × Nat)} {vs vs1 : List Nat}
structure DTs (X : Cx) (B : Bs) (W : WX) (es : List Expr) (f : TT) : Prop where
  pts : PTs X es (rdT X.K B W f)
  mono : MonoT f
theorem PTs.imp {X : Cx} {es : List Expr} {t t' : L2.TT} (h : PTs X es t) (i : ∀ σ H Q, t' σ H Q → t σ H Q) : PTs X es t' := ⟨fun pins s σ H Q I q => h.run pins s σ H Q I (i σ H Q q)⟩
theorem dts_nil : DTs X B W [] tY := ⟨PTs.imp pts_nil fun σ H Q ⟨F0, v, F, Xx, S, hX, q⟩ => q F H (.refl _ _) S.sub, fun v K K' X X' hk hx h => hk _ h⟩
theorem dts_one {c : Expr} (h : DT X B W c t) : DTs X B W [c] t := ⟨pts_one h.pt, h.mono⟩
theorem mono_compD (hg : MonoGT g) (ht : MonoT t) (he : MonoE fe) (v : Ev) : ∀ (ds acc : List D) (K K' : List D → Prop), (∀ l, K l → K' l) → compD g t fe v ds acc K → compD g t fe v ds acc K'
  | [], acc, K, K', hk, q => hk _ q
  | d :: ds, acc, K, K', hk, q => hg d v _ _ (fun v1 q => ht v1 _ _ _ _ (fun c q => br_mono q (he v1 _ _ _ _ (fun d q => mono_compD hg ht he v ds _ K K' hk q) (fun _ z => z)) (mono_compD hg ht he v ds _ K K' hk)) (fun _ z => z) q) q
theorem mono_eComp (hs : MonoA fs) (hg : MonoGT g) (ht : MonoT t) (he : MonoE fe) : MonoE (eComp fs vs g t fe) := fun v K K' X X' hk hx q => hs v _ _ _ _ (fun ds q => ⟨q.1, mono_compD hg ht he _ ds _ _ _ (fun l z => hk _ z) q.2⟩) hx q
theorem rd_comp {K : PySem.W.Frag} (ms : MonoA fs) (hg : MonoGT g) (ht : MonoT t) (he : MonoE fe) (hw : ∀ i ∈ is, i ∈ vs) {σ : St} {H : Hp} {Q : VK} (h : rdE K B W .fr (eComp fs vs g t fe) σ H Q) :
    tLc (rdI K B W true fs) (rdG K B is g) (rdT K B WF t) (rdE K B WF .fz fe) vs σ H Q := by
  obtain ⟨F0, v, F, Xx, S, hX, q⟩ := h
  refine ⟨F0, v, F, Xx, S, hX, ms v _ _ _ _ (fun ds q J F1 H1 g1 s1 it D nD => ?_) (fun _ z => z) q⟩
  obtain ⟨hz, q⟩ := q
  have S1 := S.gr g1 s1
  refine ⟨fun i m H' => m = ds.length - i ∧ ∃ F' acc, LcI K F1 H1 D F' H' acc ∧ acc.length ≤ i ∧ compD g t fe (wipeE v vs) (ds.drop i) acc (fun r => ∀ x F' H', Gr F H F' H' → Same F' H' → MR K .fr H F' H' x (.list r) → Q x H'), ⟨ds.length, rfl, F1, [], .start s1 nD, Nat.le_refl _, q⟩, ?_⟩
  rintro i m H2 ⟨rfl, F2, acc, L, la, q2⟩
  obtain ⟨go, stop⟩ := it i F2 H2 L.g.f L.s (fun _ => L.g.h)
  by_cases hi : i < ds.length
  · obtain ⟨go, yl⟩ := go ds[i] (List.getElem?_eq_getElem hi)
    rw [List.drop_eq_getElem_cons hi] at q2
    refine .inr ⟨go, fun H3 => ∃ F' acc, LcI K F1 H1 D F' H3 acc ∧ acc.length ≤ i + 1 ∧ compD g t fe (wipeE v vs) (ds.drop (i + 1)) acc (fun r => ∀ x F' H', Gr F H F' H' → Same F' H' → MR K .fr H F' H' x (.list r) → Q x H'),
      fun H3 w => ⟨ds.length - (i + 1), by omega, rfl, w⟩, fun x H3 hy => ?_⟩
    obtain ⟨F3, g3, s3, r3⟩ := yl x H3 hy
    have L3 := L.gr g3 s3
    refine ⟨F0, wipeE v vs, F3, ds[i], (S1.gr L3.g L3.s).wipe vs, r3, hg _ _ _ _ (fun v4 q4 σ4 S4 o4 => ⟨(o4 vs hw).trans (wipe_wipe σ vs), ?_⟩) q2⟩
    refine rdT.mk ht S4 XOk.no q4 fun c qc F5 H5 g5 s5 => ?_
    have L5 := L3.gr g5 s5
    cases c with
    | false =>
      rw [if_neg Bool.false_ne_true]
      exact ⟨F5, acc, L5, Nat.le_succ_of_le la, qc⟩
    | true =>
      rw [if_pos rfl]
      refine rdE.mk he (S4.gr g5 s5) XOk.no qc fun d qd y F6 H6 g6 s6 r6 => ?_
      have L6 := L5.gr g6 s6
      obtain ⟨xs, e, hl, L7⟩ := L6.app nD r6
      refine ⟨xs, e, ?_, F6, acc ++ [d], L7, ?_, qd⟩
      · rw [hl, sizeLine_eq]
        have : ds.length ≤ 16777216 := hz
        omega
      · rw [List.length_append]
        exact Nat.succ_le_succ la
  · rw [List.drop_eq_nil_of_le (by omega)] at q2
    refine .inl ⟨stop (List.getElem?_eq_none_iff.mpr (by omega)), ?_⟩
    have q3 : ∀ x F' H', Gr F H F' H' → Same F' H' → MR K .fr H F' H' x (.list acc) → Q x H' := q2
    exact q3 (.ref D) F2 H2 (g1.trans L.g) L.s ⟨D, rfl, g1.h.free nD, L.nD, L.at_⟩
theorem de_comp (hc : X.calm = true) (hN : X.N.Nodup) (hi : DI X B W true tg iter fs) (ok : BlkOk X.N X.env.scope scope own)
    (hg : ∀ (s : Shared) (H : Hp) (C : Addr) (cl : List (Str × Addr)) (fp : List Addr), DG (X.blk s H scope (compEnvC scope cl C X.env) fp) B tg is g)
    (ht : ∀ (s : Shared) (H : Hp) (C : Addr) (cl : List (Str × Addr)) (fp : List Addr), DTs (X.blk s H scope (compEnvC scope cl C X.env) fp) B WF ifs t)
    (he : ∀ (s : Shared) (H : Hp) (C : Addr) (cl : List (Str × Addr)) (fp : List Addr), DE (X.blk s H scope (compEnvC scope cl C X.env) fp) B WF .fz elt fe)
    (hw : ∀ i ∈ is, i ∈ own.map (·.2) := by decide) (hs : ∀ x, foldedSetIterable iter X.env x = pure x := by intro _; rfl) :
    DE X B W .fr (.ListComp elt [⟨tg, iter, ifs, 0⟩] scope pos) (eComp fs (own.map (·.2)) g t fe) :=
  have mg := (hg ({} : Shared) (fun _ => none) 0 [] []).mono
  have mt := (ht ({} : Shared) (fun _ => none) 0 [] []).mono
  have me := (he ({} : Shared) (fun _ => none) 0 [] []).mono
  ⟨PE.imp (pe_lc hc hN hi.pi ok (fun s H C cl fp => (hg s H C cl fp).pg) (fun s H C cl fp => (ht s H C cl fp).pts) (fun s H C cl fp => (he s H C cl fp).pe) hs) fun σ H Q q => rd_comp hi.mono mg mt me hw q, mono_eComp hi.mono mg mt me⟩
/-- y = [..] on one line -/
theorem ds_setC {i : Nat} {y : Str} {py spos : Pos} (hc : X.calm = true) (hN : X.N.Nodup) (hi : DI X B W true tg iter fs) (ok : BlkOk X.N X.env.scope scope own)
    (hg : ∀ (s : Shared) (H : Hp) (C : Addr) (cl : List (Str × Addr)) (fp : List Addr), DG (X.blk s H scope (compEnvC scope cl C X.env) fp) B tg is g)
    (ht : ∀ (s : Shared) (H : Hp) (C : Addr) (cl : List (Str × Addr)) (fp : List Addr), DTs (X.blk s H scope (compEnvC scope cl C X.env) fp) B WF ifs t)
    (he : ∀ (s : Shared) (H : Hp) (C : Addr) (cl : List (Str × Addr)) (fp : List Addr), DE (X.blk s H scope (compEnvC scope cl C X.env) fp) B WF .fz elt fe)
    (hsw : swapsWith (.ListComp elt [⟨tg, iter, ifs, 0⟩] scope pos) (some (.Name y py)) spos.line X.env = pure true)
    (hy : X.N[i]? = some y := by rfl) (hyl : X.env.scope.names.lookup y = some .local := by rfl) (hw : ∀ i ∈ is, i ∈ own.map (·.2) := by decide) (hs : ∀ x, foldedSetIterable iter X.env x = pure x := by intro _; rfl) :
    DS X B W (.Assign [.Name y py] (.ListComp elt [⟨tg, iter, ifs, 0⟩] scope pos) spos) (sSet i (eComp fs (own.map (·.2)) g t fe)) :=
  have mg := (hg ({} : Shared) (fun _ => none) 0 [] []).mono
  have mt := (ht ({} : Shared) (fun _ => none) 0 [] []).mono
  have me := (he ({} : Shared) (fun _ => none) 0 [] []).mono
  ⟨PS.imp (ps_setLc hc hN hy hyl hsw hi.pi ok (fun s H C cl fp => (hg s H C cl fp).pg) (fun s H C cl fp => (ht s H C cl fp).pts) (fun s H C cl fp => (he s H C cl fp).pe) hs) fun D σ H q =>
    rd_comp hi.mono mg mt me hw (rd_frz (mono_eComp hi.mono mg mt me) (rd_set (mono_eComp hi.mono mg mt me) q)), mono_sSet (mono_eComp hi.mono mg mt me)⟩
theorem ds_ownC {i : Nat} {y : Str} {py spos : Pos} (hc : X.calm = true) (hN : X.N.Nodup) (hi : DI X B W true tg iter fs) (ok : BlkOk X.N X.env.scope scope own)
    (hg : ∀ (s : Shared) (H : Hp) (C : Addr) (cl : List (Str × Addr)) (fp : List Addr), DG (X.blk s H scope (compEnvC scope cl C X.env) fp) B tg is g)
    (ht : ∀ (s : Shared) (H : Hp) (C : Addr) (cl : List (Str × Addr)) (fp : List Addr), DTs (X.blk s H scope (compEnvC scope cl C X.env) fp) B WF ifs t)
    (he : ∀ (s : Shared) (H : Hp) (C : Addr) (cl : List (Str × Addr)) (fp : List Addr), DE (X.blk s H scope (compEnvC scope cl C X.env) fp) B WF .fz elt fe)
    (hsw : swapsWith (.ListComp elt [⟨tg, iter, ifs, 0⟩] scope pos) (some (.Name y py)) spos.line X.env = pure true)
    (hy : X.N[i]? = some y := by rfl) (hyl : X.env.scope.names.lookup y = some .local := by rfl) (hw : ∀ i ∈ is, i ∈ own.map (·.2) := by decide) (hs : ∀ x, foldedSetIterable iter X.env x = pure x := by intro _; rfl) :
    DS X B W (.Assign [.Name y py] (.ListComp elt [⟨tg, iter, ifs, 0⟩] scope pos) spos) (sOwn i (eComp fs (own.map (·.2)) g t fe)) :=
  have mg := (hg ({} : Shared) (fun _ => none) 0 [] []).mono
  have mt := (ht ({} : Shared) (fun _ => none) 0 [] []).mono
  have me := (he ({} : Shared) (fun _ => none) 0 [] []).mono
  ⟨PS.imp (ps_setLc hc hN hy hyl hsw hi.pi ok (fun s H C cl fp => (hg s H C cl fp).pg) (fun s H C cl fp => (ht s H C cl fp).pts) (fun s H C cl fp => (he s H C cl fp).pe) hs) fun D σ H q =>
    rd_comp hi.mono mg mt me hw (rd_own (mono_eComp hi.mono mg mt me) q), mono_sOwn (mono_eComp hi.mono mg mt me)⟩
end

/-! ### name op= e -/
section
variable {X : Cx} {B : Bs} {W : WX} {e : Expr} {f : ET} {x : Str} {pos pos' : Pos}
theorem iop_mulW : OpR X (inplaceOp .Mult) (rI CMulW fun i j => .int (i * j)) := opI fun _ _ _ _ _ _ _ hc q => PyProof.Rows.imul_int q hc.ok
theorem iop_fdivN : OpR X (inplaceOp .FloorDiv) (rI CDivN fun i j => .int (i.fdiv j)) := opI fun _ _ _ _ _ _ _ hc q => PyProof.Rows.ifloordiv_int hc.1 q (.inl (PyProof.noPylong_small hc.2))
theorem iop_fdivW : OpR X (inplaceOp .FloorDiv) (rI CDivW fun i j => .int (i / j)) := opI fun i j _ _ _ _ _ hc q => by
  have h1 : (0 : Int) < j := hc.1
  exact PyProof.Rows.ifloordiv_int (by omega) (by rw [Int.fdiv_eq_ediv_of_nonneg i (show (0 : Int) ≤ j by omega)]; exact q) (.inl (PyProof.noPylong_of_log2 hc.2))
theorem iop_modN : OpR X (inplaceOp .Mod) (rI (fun _ j => j ≠ 0) fun i j => .int (i.fmod j)) := opI fun _ _ _ _ _ _ _ hc q => PyProof.Rows.imod_int hc q
theorem b_sub0 {K : PySem.W.Frag} : Br2 K .fz (rI0 fun i j => .int (i - j)) oSubI := .ii (fun a b KK h => by cases a <;> cases b <;> first | exact False.elim h | exact ⟨_, _, rfl, rfl⟩)
  fun i j KK H Q h q => ⟨i, j, rfl, rfl, q _ _ h fun _ => .int _⟩
theorem m_subI : Mono2 oSubI := fun a b K K' hk h => by
  cases a <;> cases b <;> first | exact False.elim h | exact hk _ h
theorem ds_addA (i : Nat) (hN : X.N.Nodup) (h : DE X B W .bo e f) (hi : X.N[i]? = some x := by rfl) (hx : Loc X.env.scope x := by first | exact Or.inl rfl | exact Or.inr rfl) (hf : X.fn x = true ∨ X.env.scope.names.lookup x = some .local := by first | exact .inl rfl | exact .inr rfl) :
    DS X B W (.AugAssign (.Name x pos') .Add e pos) (sAug i oAdd f) := ds_aug i iop_add b_add m_add hN h hi hx hf
theorem ds_subA (i : Nat) (hN : X.N.Nodup) (h : DE X B W .bo e f) (hi : X.N[i]? = some x := by rfl) (hx : Loc X.env.scope x := by first | exact Or.inl rfl | exact Or.inr rfl) (hf : X.fn x = true ∨ X.env.scope.names.lookup x = some .local := by first | exact .inl rfl | exact .inr rfl) :
    DS X B W (.AugAssign (.Name x pos') .Sub e pos) (sAug i oSubI f) := ds_aug i iop_sub b_sub0 m_subI hN h hi hx hf
theorem ds_mulA (i : Nat) (hN : X.N.Nodup) (h : DE X B W .bo e f) (hi : X.N[i]? = some x := by rfl) (hx : Loc X.env.scope x := by first | exact Or.inl rfl | exact Or.inr rfl) (hf : X.fn x = true ∨ X.env.scope.names.lookup x = some .local := by first | exact .inl rfl | exact .inr rfl) :
    DS X B W (.AugAssign (.Name x pos') .Mult e pos) (sAug i oMul f) := ds_aug i (OpR.or iop_mul iop_mulW) b_mul m_mul hN h hi hx hf
theorem ds_divA (i : Nat) (hN : X.N.Nodup) (h : DE X B W .bo e f) (hi : X.N[i]? = some x := by rfl) (hx : Loc X.env.scope x := by first | exact Or.inl rfl | exact Or.inr rfl) (hf : X.fn x = true ∨ X.env.scope.names.lookup x = some .local := by first | exact .inl rfl | exact .inr rfl) :
    DS X B W (.AugAssign (.Name x pos') .FloorDiv e pos) (sAug i oDiv f) := ds_aug i (OpR.or iop_fdivN iop_fdivW) b_div m_div hN h hi hx hf
theorem ds_modA (i : Nat) (hN : X.N.Nodup) (h : DE X B W .bo e f) (hi : X.N[i]? = some x := by rfl) (hx : Loc X.env.scope x := by first | exact Or.inl rfl | exact Or.inr rfl) (hf : X.fn x = true ∨ X.env.scope.names.lookup x = some .local := by first | exact .inl rfl | exact .inr rfl) :
    DS X B W (.AugAssign (.Name x pos') .Mod e pos) (sAug i oMod f) := ds_aug i iop_modN b_mod m_mod hN h hi hx hf
end

/-! ### a def -/
theorem mono_sem {k n : Nat} {b : ST} (h : MonoS b) : MonoG (sem k n b) := fun ds K K' X X' hk hx q =>
  ⟨q.1, h _ { nx := fun _ => K .none, rt := K, bk := fun _ => False, ct := fun _ => False, ex := fun _ => X } { nx := fun _ => K' .none, rt := K', bk := fun _ => False, ct := fun _ => False, ex := fun _ => X' } ⟨fun _ z => hk _ z, fun _ z => hk _ z, fun _ z => z, fun _ z => z, fun _ x z => hx x z⟩ q.2⟩
section
variable {P : Program} {w : World} {K : PySem.W.Frag} {mg : Str → Option Value} {base : Heap} {cl : String → Option Addr}
theorem SR.begin {H F : Hp} {vs : List V} {ds : List D} {N : List Str} (s : Same F H) (r : Reps K F vs ds) : SR K ⟨H, cl⟩ F (startE N.length ds) F (L2.start N vs) H := by
  have hl := r.length
  have get : ∀ (i : Nat) (s : Sl), (startE N.length ds)[i]? = some s → s = .un ∨ ∃ d, s = .val d ∧ ds[i]? = some d := by
    intro i s h
    unfold startE at h
    by_cases hi : i < ds.length
    · rw [List.getElem?_append_left (by simpa using hi), List.getElem?_map, List.getElem?_eq_getElem hi] at h
      cases h
      exact .inr ⟨_, rfl, List.getElem?_eq_getElem hi⟩
    · rw [List.getElem?_append_right (by simpa using Nat.le_of_not_lt hi)] at h
      have := List.mem_of_getElem? h
      exact .inl (List.eq_of_mem_replicate this)
  refine ⟨.refl _, .refl _, fun a h => .inl h, s, ?_, fun i d h => ?_, fun i d h => ?_, fun i j d e a h _ _ _ => ?_⟩
  · unfold startE L2.start
    simp [hl]
  · rcases get i _ h with z | ⟨d', z, h'⟩
    · cases z
    · cases z
      obtain ⟨x, h1, h2⟩ := r.get h'
      refine ⟨x, ?_, h2⟩
      unfold L2.start
      rw [List.getElem?_append_left (by simpa using (List.getElem?_eq_some_iff.mp h1).1), List.getElem?_map, h1]
      rfl
  · rcases get i _ h with z | ⟨d', z, _⟩
    · cases z
    · cases z
  · rcases get i _ h with z | ⟨d', z, _⟩
    · cases z
    · cases z
/-- THE RULE for a def: its body's derivation -/
theorem fn_D {x qual : Str} {st : Stmt} {f : Addr} {fd : FuncData} {N ps : List Str} {k kp n : Nat} {body : ST} (F : Fun K x qual st f fd) (S : FnScope N ps (defScope st)) (hps : kp = ps.length) (hn : n = N.length)
    (hb : ∀ (cdv : Value) (A : Around) (outer : List Env) (s : Shared) (H : Hp) (E : XK), Room k (A.deeper (PyProof.Rows.envOfC qual (defScope st) s.heap.objs.size f cdv)) →
      Takes (cxOf (L2.CX P w) P w K mg base N qual (defScope st) f cdv A outer s H E) (fun cls d _ H' => E cls d H') →
      PassesOwn (model P w) (A.deeper (PyProof.Rows.envOfC qual (defScope st) s.heap.objs.size f cdv)) (PyProof.Rows.envOfC qual (defScope st) s.heap.objs.size f cdv) (cxOf (L2.CX P w) P w K mg base N qual (defScope st) f cdv A outer s H E).xe →
      DSs (cxOf (L2.CX P w) P w K mg base N qual (defScope st) f cdv A outer s H E) ⟨H, cl⟩ (fun cls d _ H' => E cls d H') (defBody st) body)
    (mono : MonoS body) : FnOk P w K mg base (L2.CX P w) (k + 1) f fd ps (spD K cl (sem kp n body)) := by
  subst hps hn
  refine F.okX S (fun vs H Q E h => ?_) (fun cdv A outer s H vs Q E hr h => ?_)
  · obtain ⟨ds, F, _, r, q⟩ := h
    rw [r.length]
    exact q.1
  · obtain ⟨ds, F, sm, r, q⟩ := h
    refine ⟨_, (hb cdv A outer s H E hr (takes_of rfl rfl rfl rfl) (passes_of rfl)).pss, ?_⟩
    refine ⟨F, startE N.length ds, F, { nx := fun _ => ∀ v F' H', Gr F H F' H' → Same F' H' → Rep K F' v .none → Q v H', rt := fun d => ∀ v F' H', Gr F H F' H' → Same F' H' → Rep K F' v d → Q v H', bk := fun _ => False, ct := fun _ => False, ex := fun _ x => ∀ cls dd F' H', Gr F H F' H' → Same F' H' → RepX ⟨H, cl⟩ x cls dd H' → E cls dd H' }, SR.begin sm r, ⟨fun v F' σ H' S' q' => ?_, fun v F' σ H' S' q' => q'.elim, fun v F' σ H' S' q' => q'.elim, fun x d F' H' g s r q' => q' x F' H' g s r, fun v x cls dd F' σ H' S' r q' => q' cls dd F' H' S'.out S'.sub r⟩, q.2⟩
    exact q' .non F' H' S'.out S'.sub .non
theorem df_mk {x qual : Str} {st : Stmt} {f : Addr} {fd : FuncData} {ps : List Str} {k : Nat} {G : DSp} (F : Fun K x qual st f fd) (ok : FnOk P w K mg base (L2.CX P w) k f fd ps (spD K cl G)) (hm : mg x = some (.ref f)) (b : Binds K fd ps []) (m : MonoG G) : Df P w K mg base cl k x G :=
  ⟨⟨f, fd, ps, ok, hm, F.kp, b⟩, m⟩
end
end Rw
namespace Rw
open PySem PySem.Spec L2
/-! ### a list or a tuple, which of them is told by the value -/
section
variable {X : Cx} {B : Bs} {W : WX} {tg e : Expr} {f : ET} {cmp : Bool}
def iSeq (K : PySem.W.Frag) (te : TE) : TI := fun σ H R => te σ H fun x H1 => ∃ a, x = V.ref a ∧ (((∃ xs, SqL K H1 a xs) ∧ R (Itl K a) H1) ∨ ((∃ xs, SqT K H1 a xs) ∧ R (Itt K a) H1))
theorem pi_seq {te : TE} (hl : PE X e te) : PI X tg e (iSeq X.K te) := ⟨fun pins s σ H R I h => thn (hl.run pins s σ H _ I h) fun v s1 z => by
  obtain ⟨x, H1, I1, r1, a, rfl, q⟩ := z
  obtain rfl : v = Value.ref a := r1
  have fp : ∀ b ∈ [s1.heap.objs.size], FpOk X pins H1 b := fun b hb => by
    rw [List.mem_singleton.mp hb]
    exact I1.fpOk (Nat.le_refl _) (I1.hok.fresh (Nat.le_refl _))
  rcases q with ⟨⟨xs, hq⟩, q⟩ | ⟨⟨xs, hq⟩, q⟩
  · obtain ⟨its, _, pl, _⟩ := I1.list hq
    refine PySem.wpAny_pyIter_list pl.isList ⟨s1.heap.objs.size, [s1.heap.objs.size], fun i h => h.IsListIter s1.heap.objs.size a i, Itl X.K a, H1, rfl, I1.kept (t' := s1.toks) (fun b o z => Heap.get?_push_of_some _ z), turn_list a _, ?_, fp, q⟩
    exact ⟨_, Heap.get?_push_size _ rfl, rfl, rfl⟩
  · obtain ⟨its, _, pt, _⟩ := I1.tuple hq
    refine PySem.wpAny_pyIter_tuple (show s1.heap.IsTuple a its.toArray from pt) ⟨s1.heap.objs.size, [s1.heap.objs.size], fun i h => h.IsTupleIter s1.heap.objs.size a i, Itt X.K a, H1, rfl, I1.kept (t' := s1.toks) (fun b o z => Heap.get?_push_of_some _ z), turn_tuple a _, ?_, fp, q⟩
    exact ⟨_, Heap.get?_push_size _ rfl, rfl, rfl⟩⟩
end
section
variable {X : Cx} {B : Bs} {W : WX} {tg e : Expr} {f : ET} {cmp : Bool}
theorem mono_iE (h : MonoE f) : MonoA (iE f) := fun v K K' X X' hk hx q => h v _ _ _ _ (fun d q => by
  cases d <;> first | exact False.elim q | exact hk _ q) hx q
theorem di_e (h : DE X B W .fz e f) : DI X B W cmp tg e (iE f) := ⟨PI.imp (pi_seq h.pe) fun σ H R ⟨F0, v, F, Xx, S, hX, q⟩ => by
  refine rdE.mk h.mono S hX q fun d k x F' H' g s r => ?_
  cases d <;> first | exact False.elim k | skip
  · obtain ⟨p, xs, rfl, sq, rr⟩ := Rep.list_inv r
    exact ⟨p, rfl, .inl ⟨⟨xs, s.seq sq⟩, k _ F' H' g s (it_list (.inl sq) rr)⟩⟩
  · obtain ⟨p, xs, rfl, sq, rr⟩ := Rep.tuple_inv r
    exact ⟨p, rfl, .inr ⟨⟨xs, same_T s sq⟩, k _ F' H' g s (it_tup sq rr)⟩⟩, mono_iE h.mono⟩
theorem di_eb (h : DE X B W .bo e f) : DI X B W true tg e (iE f) := ⟨PI.imp (pi_seq h.pe) fun σ H R ⟨F0, v, F, Xx, S, hX, q⟩ => by
  refine rdE.mk h.mono S hX q fun d k x F' H' g s r => ?_
  cases d <;> first | exact False.elim k | skip
  · obtain ⟨p, xs, rfl, sq, rr⟩ := MB.sqL r
    obtain ⟨p', xs', e', sq', _⟩ := MB.list r s
    cases e'
    exact ⟨p, rfl, .inl ⟨⟨_, sq'⟩, k _ F' H' g s (it_list sq rr)⟩⟩
  · obtain ⟨p, xs, rfl, sq, rr⟩ := MB.tuple r
    exact ⟨p, rfl, .inr ⟨⟨xs, same_T s sq⟩, k _ F' H' g s (it_tup sq rr)⟩⟩, mono_iE h.mono⟩
end
section
variable {P : Program} {w : World} {K : PySem.W.Frag} {mg : Str → Option Value} {base : Heap} {cl : String → Option Addr}
theorem def_D {x qual : Str} {st : Stmt} {f : Addr} {fd : FuncData} {N ps : List Str} {k kp n : Nat} {body : ST} (F : Fun K x qual st f fd) (S : FnScope N ps (defScope st)) (hps : kp = ps.length) (hn : n = N.length) (hm : mg x = some (.ref f)) (b : Binds K fd ps []) (hk : Room (k + 1) PySem.callerA)
    (hb : ∀ (cdv : Value) (A : Around) (outer : List Env) (s : Shared) (H : Hp) (E : XK), Room k (A.deeper (PyProof.Rows.envOfC qual (defScope st) s.heap.objs.size f cdv)) →
      Takes (cxOf (L2.CX P w) P w K mg base N qual (defScope st) f cdv A outer s H E) (fun cls d _ H' => E cls d H') →
      PassesOwn (model P w) (A.deeper (PyProof.Rows.envOfC qual (defScope st) s.heap.objs.size f cdv)) (PyProof.Rows.envOfC qual (defScope st) s.heap.objs.size f cdv) (cxOf (L2.CX P w) P w K mg base N qual (defScope st) f cdv A outer s H E).xe →
      DSs (cxOf (L2.CX P w) P w K mg base N qual (defScope st) f cdv A outer s H E) ⟨H, cl⟩ (fun cls d _ H' => E cls d H') (defBody st) body) : Df P w K mg base cl (k + 1) x (sem kp n body) := by
  have mono : MonoS body := (hb .none PySem.callerA [] ({} : Shared) (fun _ => none) (fun _ _ _ => False) (hk.deeper _) (takes_of rfl rfl rfl rfl) (passes_of rfl)).mono
  exact ⟨⟨f, fd, ps, fn_D F S hps hn hb mono, hm, F.kp, b⟩, mono_sem mono⟩
end
end Rw

set_option Elab.async false
set_option linter.all false
set_option maxRecDepth 100000
namespace Rw
open PySem PySem.Spec PySem.W PySem.Calls L2
/-! ### an __init__ that begins with super().__init__(..) -/
section
variable {X : Cx} {pins : List (Addr × Obj)} {σ : L2.St} {H : Hp} {s : Shared} {a C u : Addr}
theorem mw_call {us : List Value} {Q E : Value → Shared → Prop} (T : OexC X.K C) (I : Inv X pins σ H s) (hu : s.heap.get? u = some (kxs_mw "ValueError.__init__" a)) (e : H a = some (exo a C none)) (hl : us.length ≤ sizeLine)
    (h : ∀ s', Inv X pins σ H s' → Q .none s') : wpAny (model X.prog X.w) X.A (call (.ref u) us) Q E s := by
  rcases T.cls with ⟨_, _, _, _, _, _, _, _, _, _, _, _, _, _, _, atC, _⟩
  rcases exo_at I.hok e with ⟨tup, atE⟩
  rcases s with ⟨hp, gens, drawn, toks, os⟩
  have kind : (Value.type "method-wrapper" == Value.type "method" || Value.type "method-wrapper" == Value.type "builtin_function_or_method" ||
    Value.type "method-wrapper" == Value.type "method-wrapper") = true := by decide
  have same : upd H a (exo a C none) = H := funext fun b => if hb : b = a then by rw [hb, upd_same, e] else upd_ne hb
  refine wpAny_call (codeAny_of_tree (show wpAny _ X.A.in1 (callAny (.ref u) ⟨us, []⟩) _ _ _ from ?_))
  unfold callAny
  refine wpAny_bind (wpAny_load hu ?_)
  simp only [kxs_mw, kind, if_true]
  refine KFB.if_so (by decide) (wpAny_bind (PySem.W.check_bound_init F.excBase_ValueError.toExcCallFacts (I.kIn _ _ atC) atE rfl (wpAny_bind (wpAny_pure (wpAny_pure ?_)))))
  refine ⟨plainId_quiet F.excBase_ValueError.init.plain _, codeAny_builtin F.excBase_ValueError.initEntry ?_⟩
  refine PySem.W.exc_init_tree (cls := .ref C) (t0 := tup) (dv := none) (c2 := .none) (c3 := .none) (b4 := .bool false) atE hl (fun h' keep now _ => h _ ?_)
  have J := I.write (t' := toks) (x := a) (e := a) (o := exo a C none) (e ▸ True.intro) (.inl rfl) keep ⟨_, now⟩ (exo_ok now)
  exact same ▸ J
/-- the arguments of such a call -/
def PK0 (X : Cx) (args : List Expr) (ta : TA) : Prop := ∀ (pins : List (Addr × Obj)) (s : Shared) (σ : L2.St) (H : Hp) (Q : List V → Hp → Prop) (Qv : Value → Shared → Prop) (a u : Addr) (pos : Pos),
  Inv X pins σ H s → (u, kxs_mw "ValueError.__init__" a) ∈ pins → ta σ H Q →
  (∀ vs us H1 s1, Inv X pins σ H1 s1 → Vals vs us → Q vs H1 → wpAny (model X.prog X.w) X.A (call (.ref u) us) Qv X.xe s1) →
  wpAny (model X.prog X.w) X.A (callWith pos (.ref u) [] (backTo pos (starEach args X.env)) []) Qv X.xe s
theorem pk_nil : PK0 X [] tNil := fun pins s σ H Q Qv a u pos I hm h k => by
  refine kxs_callWith (i := "ValueError.__init__") (x := a) rfl (PyProof.Rows.evalArgs_empty ⟨(I.pin _ (List.mem_append_right _ hm)).1, ?_⟩)
  exact k [] [] H s I .nil h
theorem pk_cons {e : Expr} {es : List Expr} {ta : TA} (ha : PA X (e :: es) ta) (he : starEach (e :: es) X.env = (false, eval e X.env) :: starEach es X.env) (hpl : ∀ pos, (backTo pos (starEach es X.env)).any (·.1) = false) : PK0 X (e :: es) ta :=
  fun pins s σ H Q Qv a u pos I hm h k => by
  have hh := ha.run pos pins s σ H Q I h
  rw [he] at hh ⊢
  refine kxs_callWith (i := "ValueError.__init__") (x := a) (by show (false || (backTo pos (starEach es X.env)).any (·.1)) = false; rw [hpl pos]; rfl) ?_
  refine evalArgs_plain (thn hh fun us s1 ⟨vs, H1, I1, r, q⟩ => ?_)
  refine ⟨(I1.pin _ (List.mem_append_right _ hm)).1, ?_⟩
  exact k vs us H1 s1 I1 r q
end
def cxS (P : Program) (w : World) (K : PySem.W.Frag) (mg : Str → Option Value) (base : Heap) (N : List Str) (qual : Str) (scope : Scope) (f : Addr) (cd : Value) (cc : Addr) (A : Around) (outer : List Env) (s : Shared) (H : Hp) (E : XK) : Cx where
  prog := P
  w := w
  K := K
  mg := mg
  base := base
  A := A.deeper (ksEnv qual scope s.heap.objs.size f cd cc)
  N := N
  s_0 := s
  H_0 := H
  env := ksEnv qual scope s.heap.objs.size f cd cc
  outer := outer
  stack := ksEnv qual scope s.heap.objs.size f cd cc :: outer
  ex := []
  calm := true
  fn := fun _ => false
  pn := []
  xe := fun e s' => wpAny (model P w) (A.deeper (ksEnv qual scope s.heap.objs.size f cd cc)) (leaving (ksEnv qual scope s.heap.objs.size f cd cc) e) (fun _ s'' => L2.CX P w outer H s E e s'') (fun e' s'' => L2.CX P w outer H s E e' s'') s'
/-- what the written part says of such an __init__ -/
structure SI (P : Program) (K : PySem.W.Frag) (mg : Str → Option Value) (C f : Addr) (fd : FuncData) (qual : Str) (params : Arguments) (body : List Stmt) (scope : Scope) (cda cc : Addr) : Prop where
  ex : ∃ (oc : Value) (od : Option Addr) (kV doc pm : Value) (an : Option Addr) (ct : Value) (osl : Array (Option Value)),
    fd = ksFn "__init__" qual params body scope .none kV doc pm an (.ref cda) ct cc ∧ K.lookup f = some ⟨oc, od, .func (ksFn "__init__" qual params body scope .none kV doc pm an (.ref cda) ct cc), osl⟩
  cin : PySem.W.codeIn K (.ref cda) qual = true
  code : ∃ (ccl : Value) (cdd : Option Addr) (vs : Array Value) (ccs : Array (Option Value)) (file : Str) (tf : Tok), K.lookup cda = some ⟨ccl, cdd, .fields vs, ccs⟩ ∧ vs[2]? = some (.str file tf) ∧ ((P.main.file : Str) == file) = true
  cell : ∃ (cl : Value) (cld : Option Addr) (csl : Array (Option Value)), K.lookup cc = some ⟨cl, cld, .cell (some (.ref C)), csl⟩
  oex : OexC K C
  mro : PySem.W.mroIn K C (.ref C) = some true
  sup : ks_superIn K C C "__init__" = some (some (.builtin "ValueError.__init__"))
  sub : PySem.W.subIn K (.ref C) (.type "ValueError") = some true
  opq : PySem.W.nsIn K cStatics "thirdparty.any" = some none
  msu : mg "super" = none
  top : (P.main.scope.names.lookup ("super" : Str)).isSome = false
structure SScope (ps : List Str) (sc : Scope) : Prop where
  kind : sc.kind = .function
  co : sc.isCoroutine = false
  gen : sc.isGenerator = false
  nd : ps.Nodup
  par : ∀ x ∈ ps, sc.names.lookup x = some .local
  nocell : ∀ y ∈ sc.names, y.2 ≠ .cell
  free : ∀ y ∈ sc.names, y.2 = .free → y.1 = ("__class__" : Str)
  sup : sc.names.lookup ("super" : Str) = some .globalImplicit
  cls : sc.names.lookup ("__class__" : Str) = some .free
theorem lk_of_mem {x : Str} {v : Value} : ∀ {l : List (Str × Value)}, (l.map (·.1)).Nodup → (x, v) ∈ l → l.lookup x = some v
  | [], _, h => absurd h (by simp)
  | (y, w) :: l, nd, h => by
    rw [List.map_cons, List.nodup_cons] at nd
    rcases List.mem_cons.mp h with q | q
    · cases q
      simp [List.lookup]
    · have hne : x ≠ y := fun z => nd.1 (z ▸ List.mem_map.mpr ⟨(x, v), q, rfl⟩)
      have e : (x == y) = false := by simpa using hne
      simp [List.lookup, e, lk_of_mem nd.2 q]
theorem zip_fst {us : List Value} : ∀ {ps : List Str}, ps.length = us.length → (ps.zip us).map (·.1) = ps := by
  induction us with
  | nil => intro ps h; cases ps with | nil => rfl | cons _ _ => cases h
  | cons u us ih => intro ps h; cases ps with | nil => cases h | cons p ps => simp at h; simp [ih h]
section
variable {P : Program} {w : World} {K : PySem.W.Frag} {mg : Str → Option Value} {base : Heap}
theorem inv_startS {ps : List Str} {qual : Str} {scope : Scope} {f cda cc C : Addr} {A : Around} {outer : List Env} {s : Shared} {H : Hp} {E : XK} {us : List Value} {vs : List V} {h₀ : Heap} {t' : Nat} {oc : Obj}
    (S : SScope ps scope) (hd : A.handled = none) (e0 : Env0 P w K mg base A outer s H) (hl : vs.length = ps.length) (r : Vals vs us) (hcc : K.lookup cc = some oc) (hoc : ∃ v, oc.data = .cell v)
    (hns : h₀.Ns s.heap.objs.size (fun x => (ps.zip us).reverse.lookup x)) (hk : ∀ b o, s.heap.get? b = some o → h₀.get? b = some o) :
    Inv (cxS P w K mg base ps qual scope f (.ref cda) cc A outer s H E) [] (L2.start ps vs) H { s with heap := h₀, toks := t' } := by
  have noA : ∀ b : Addr, b ∉ (cxS P w K mg base ps qual scope f (.ref cda) cc A outer s H E).ex := fun b z => absurd (show b ∈ ([] : List Addr) from z) (by simp)
  have ccB : base.get? cc = some oc := e0.mod.kin _ _ hcc
  have hlk : ∀ (y : Str) (c : Addr), ([("__class__", cc)] : List (Str × Addr)).lookup y = some c → y = "__class__" ∧ c = cc := fun y c h => by
    by_cases e : (y == ("__class__" : Str)) = true
    · simp only [List.lookup, e] at h
      exact ⟨by simpa using e, (Option.some.inj h).symm⟩
    · simp only [List.lookup, e] at h
      cases h
  have hus : us.length = ps.length := by rw [← hl]; exact r.length.symm
  refine ⟨⟨e0.mod, S.kind, rfl, rfl, Nat.le_refl _, fun y z c h1 h2 => ?_, fun y hy => ?_, fun y c h _ => ?_, fun _ => hd, Around.frames_deeper e0.frames, .inr ⟨rfl, rfl⟩, fun b z => absurd z (noA b), e0.bs, e0.bsz, fun b _ _ => noA b, fun b z => absurd z (noA b), e0.funs, e0.frf⟩,
    rfl, e0.bare, Un.kept hk, ⟨_, hns, fun i y v h1 h2 h3 => ?_⟩, fun y c h => ?_, e0.hok.fresh (Nat.le_refl _), fun y c h => ?_, fun p hp => absurd (show p ∈ ([] : List (Addr × Obj)) from hp) (by simp), e0.hok.kept hk, ?_⟩
  · rw [(hlk y c h1).1, (hlk z c h2).1]
  · have hy : scope.names.lookup y = some .cell ∨ scope.names.lookup y = some .free := hy
    rcases hy with hy | hy
    · exact absurd rfl (S.nocell _ (PySem.mem_of_lookup hy))
    · have := S.free _ (PySem.mem_of_lookup hy) rfl
      have e : y = "__class__" := this
      subst e
      exact ⟨cc, rfl⟩
  · exact absurd (show (false : Bool) = true from h) (by decide)
  · have hi : i < vs.length := by
      unfold L2.start at h2
      by_cases hi : i < vs.length
      · exact hi
      · rw [List.getElem?_append_right (by simpa using hi)] at h2
        rw [List.getElem?_replicate] at h2
        split at h2 <;> cases h2
    have ha : vs[i]? = some v := by
      unfold L2.start at h2
      rw [List.getElem?_append_left (by simpa using hi), List.getElem?_map] at h2
      cases e : vs[i]? with
      | none => rw [e] at h2; cases h2
      | some a => rw [e] at h2; cases h2; rfl
    obtain ⟨u, hu, rv⟩ := r.get ha
    have h1 : ps[i]? = some y := h1
    refine ⟨u, rv, .inl ⟨S.par y (List.mem_of_getElem? h1), ?_⟩⟩
    have hz : (ps.zip us)[i]? = some (y, u) := by
      rw [List.getElem?_zip_eq_some]
      exact ⟨h1, hu⟩
    refine lk_of_mem ?_ (List.mem_reverse.mpr (List.mem_of_getElem? hz))
    rw [List.map_reverse]
    rw [zip_fst hus.symm]
    exact (List.reverse_perm ps).nodup_iff.mpr S.nd
  · obtain ⟨_, rfl⟩ := hlk y c h
    obtain ⟨v, hv⟩ := hoc
    exact ⟨v, oc, hk _ _ (e0.bs _ _ ccB).1, hv⟩
  · obtain ⟨_, rfl⟩ := hlk y c h
    exact (e0.bs _ _ ccB).2
  · unfold L2.start
    show _ = ps.length
    rw [List.length_append, List.length_map, List.length_replicate]
    omega
/-- the promise of such an __init__: its object and the values that it keeps -/
theorem fn_super {ps : List Str} {qual : Str} {params : Arguments} {scope : Scope} {f cda cc C : Addr} {fd : FuncData} {k : Nat} {sp : Sp} {p0 p1 p2 p3 p4 : Pos} {args : List Expr} {rest : List Stmt} {ar : Arg} {body : List Stmt}
    (F : SI P K mg C f fd qual params body scope cda cc) (hbd : body = .Expr (.Call (.Attribute (.Call (.Name "super" p0) [] [] p1) "__init__" p2) args [] p3) p4 :: rest) (S : SScope ps scope) (len : ∀ vs H Q E, sp vs H Q E → vs.length = ps.length)
    (hp : (params.posonlyargs ++ params.args).head? = some ar) (h0 : ps[0]? = some ar.arg)
    (hs : ∀ env : Env, swapsWith (.Call (.Attribute (.Call (.Name "super" p0) [] [] p1) "__init__" p2) args [] p3) none p4.line env = pure false)
    (pl : Env → Sem Bool)
    (he : ∀ env : Env, eval (.Call (.Attribute (.Call (.Name "super" p0) [] [] p1) "__init__" p2) args [] p3) env = (do
      let ov ← attributeBase (.Call (.Name "super" p0) [] [] p1) "__init__" env (eval (.Call (.Name "super" p0) [] [] p1) env)
      standAt p2.atName
      let (f, first) ← holding [ov] (getMethod ov "__init__" (pl env))
      callWith p3 f first (backTo p3 (starEach args env)) []))
    (ta : TA) (t : TS)
    (hargs : ∀ (A : Around) (outer : List Env) (s : Shared) (H : Hp) (E : XK), PK0 (cxS P w K mg base ps qual scope f (.ref cda) cc A outer s H E) args ta)
    (hrest : ∀ (A : Around) (outer : List Env) (s : Shared) (H : Hp) (E : XK), PSs (cxS P w K mg base ps qual scope f (.ref cda) cc A outer s H E) rest t)
    (hsp : ∀ vs H Q E, sp vs H Q E → ∃ a, vs[0]? = some (.ref a) ∧ H a = some (exo a C none) ∧ ta (L2.start ps vs) H (fun us H1 => us.length ≤ 1000 ∧ H1 a = some (exo a C none) ∧ t { nx := fun _ H' => Q .non H', rt := Q } (L2.start ps vs) H1)) :
    FnOk P w K mg base (L2.CX P w) (k + 1) f fd ps sp := by
  subst hbd
  obtain ⟨oc, od, kV, doc, pm, an, ct, osl, rfl, lk⟩ := F.ex
  obtain ⟨ccl, cdd, vsc, ccs, file, tf, hcode, hvs, hfile⟩ := F.code
  obtain ⟨cl, cld, csl, hcell⟩ := F.cell
  refine ⟨len, fun A outer s H args' us vs Q E hr e0 hb r hq => ?_⟩
  have hl := len _ _ _ _ hq
  have KX : K.In s.heap := e0.mod.kin.keeps fun b o e => (e0.bs b o e).1
  have lim : s.heap.NoLimit := e0.mod.nolimit.keeps fun b o e => (e0.bs b o e).1
  have hus : us.length = ps.length := by rw [← hl]; exact r.length.symm
  refine ks_codeAny_call_defAt (fd := ksFn "__init__" qual params _ scope .none kV doc pm an (.ref cda) ct cc) (binds := ps.zip us) hr.depth (KX _ _ lk) rfl lim (PySem.W.codeRec_of KX F.cin) rfl hb S.nocell (fun y hy => S.par _ (List.of_mem_zip (show (y.1, y.2) ∈ ps.zip us from hy)).1) (fun h₁ hns hk₁ => ?_) S.co S.gen S.kind
  have I : Inv (cxS P w K mg base ps qual scope f (.ref cda) cc A outer s H E) [] (L2.start ps vs) H { s with heap := h₁, toks := s.toks + (ps.zip us).length } :=
    inv_startS (C := C) S hr.hd e0 hl r hcell ⟨_, rfl⟩ hns hk₁
  obtain ⟨a, hv0, ea, ht⟩ := hsp vs H Q E hq
  have fin : ∀ {σ' : L2.St} {H' : Hp} {s' : Shared} {v : V} {u : Value}, Inv (cxS P w K mg base ps qual scope f (.ref cda) cc A outer s H E) [] σ' H' s' → RelV v u → Q v H' → CE outer P w H s Q u s' :=
    fun {σ' H' s' v u} J rv q => ⟨v, H', J.os, J.bare, J.base, J.hok, rv, q⟩
  show _root_.PySem.wpAt (model P w) (cxS P w K mg base ps qual scope f (.ref cda) cc A outer s H E).A (.func _ (cxS P w K mg base ps qual scope f (.ref cda) cc A outer s H E).env) (execs _ (cxS P w K mg base ps qual scope f (.ref cda) cc A outer s H E).env) _ (cxS P w K mg base ps qual scope f (.ref cda) cc A outer s H E).xe _
  obtain ⟨m, hn, hloc⟩ := id I.loc
  have hst : (L2.start ps vs)[0]? = some (some (V.ref a)) := by
    unfold L2.start
    cases vs with
    | nil => cases hv0
    | cons v vs => simp at hv0; simp [hv0]
  have hpar : scope.names.lookup ar.arg = some .local := S.par _ (List.mem_of_getElem? h0)
  obtain ⟨u0, ru0, lk0⟩ := hloc 0 ar.arg (.ref a) h0 hst (.inl hpar)
  obtain rfl : u0 = Value.ref a := ru0
  have hm : m ar.arg = some (.ref a) := by
    rcases lk0 with ⟨_, z⟩ | ⟨z | z, _⟩
    · exact z
    · have z : scope.names.lookup ar.arg = some .cell := z
      rw [hpar] at z; cases z
    · have z : scope.names.lookup ar.arg = some .free := z
      rw [hpar] at z; cases z
  obtain ⟨nm, q, N, bs, bm, sn, sub, ab, col, dd, k0, k1, k2, k3, k5, hC, hbm⟩ := F.oex.cls
  have hcl : PySem.W.clsIn K C = some { name := nm, bases := bs, mro := .ref C :: bm, ns := N, qualname := q, hasDict := true, slotNames := sn, subclasses := sub, abstract := ab, collection := col, hasDel := false } := by unfold PySem.W.clsIn; rw [hC] <;> rfl
  have hsup := F.sup
  unfold ks_superIn at hsup
  rw [hcl] at hsup
  obtain ⟨t1, ho⟩ := exo_at I.hok ea
  refine ks_wpAt_execs_cons (ks_wpAt_Expr_any (ks_wpAt_MethodCall ?_ (he _)) I.quiet (hs _))
  refine ks_wpAt_super_base S.sup S.cls rfl rfl (I.kIn _ _ lk) rfl hp rfl (I.kIn _ _ hcode) rfl hvs hfile F.top ?_
  obtain ⟨mb, b1, b2⟩ := I.mod.blt
  refine ks_loadName_global S.kind S.sup (loadGlobal_builtin (I.mod.glob.keeps I.bk) F.msu (b1.keeps I.bk) ((b2 _ (by decide)).trans (by decide +kernel)) ⟨rfl, ?_⟩)
  refine wpAny_loadName_free S.kind S.cls rfl ⟨_, I.kIn _ _ hcell, rfl⟩ ?_
  refine wpAny_loadName_local S.kind hpar hn hm ?_
  refine ks_wpAny_isType_cls (I.kIn _ _ hC) rfl ⟨rfl, ?_⟩
  refine ks_wpAny_call_super (I.kIn _ _ hC) rfl ho rfl (fun c e => by cases e) (looks_mroIn I.kIn F.mro) (fun h' e k => ?_)
  have I2 := I.kept (t' := s.toks + (ps.zip us).length) k
  have IA : InstAt h' a { cls := .ref C, dict := none, data := .fields #[.ref t1, .none, .none, .none, .bool false, .none] } C none := ⟨k _ _ ho, rfl, rfl, trivial⟩
  have hI : Looks (model P w) h' (isInstance (.ref a) (.type "ValueError")) true := IA.type.andThen (looks_subIn I2.kIn F.sub)
  refine kxs_getMethod kxs_ValueError e (looks_opaque I2.kIn F.opq) (l₀ := .ref C :: bm) (fun A Q E s k q => wpAny_bind ((looks_clsIn I2.kIn hcl) A _ E s k (wpAny_pure q))) rfl I2.kIn hsup hI (ks_ne I2.kIn IA hcl) rfl ?_
  have kp : ∀ b o, h'.get? b = some o → (h'.push (kxs_mw "ValueError.__init__" a)).get? b = some o := fun b o z => Heap.get?_push_of_some _ z
  have I3 := I2.kept (t' := s.toks + (ps.zip us).length + 1) kp
  have I4 : Inv (cxS P w K mg base ps qual scope f (.ref cda) cc A outer s H E) [(h'.objs.size, kxs_mw "ValueError.__init__" a)] (L2.start ps vs) H _ := I3.pins_of (pins' := [(h'.objs.size, kxs_mw "ValueError.__init__" a)]) fun p hp => by
    rw [List.mem_singleton.mp hp]
    refine ⟨Heap.get?_push_at rfl rfl, I2.hok.fresh (Nat.le_refl _), Nat.ne_of_gt I2.lt, I2.nofs (Nat.le_refl _), fun v z => by cases z⟩
  refine hargs A outer s H E _ _ _ _ _ _ a h'.objs.size p3 I4 (by simp) ht (fun vs' us' H1 s1 J r' z => ?_)
  obtain ⟨hl', ea', q'⟩ := z
  refine mw_call F.oex J ((J.pin _ (List.mem_append_right _ (List.mem_singleton.mpr rfl))).1) ea' ?_ (fun s2 J2 => ?_)
  · rw [← r'.length, sizeLine_eq]
    omega
  refine _root_.PySem.wpAt_of_wpAny (wpAny_mono ((hrest A outer s H E).run [] s2 _ H1 _ (J2.pins_of fun p hp => absurd hp (by simp)) q') (fun fl s' hs' => ?_) fun _ _ z => z)
  cases fl with
  | ret u =>
    obtain ⟨v, σ', H', J, rv, q⟩ := hs'
    exact fin J rv q
  | next =>
    obtain ⟨σ', H', J, q⟩ := hs'
    exact fin (v := V.non) (u := Value.none) J rfl q
  | brk =>
    obtain ⟨_, _, _, q⟩ := hs'
    exact False.elim q
  | cont =>
    obtain ⟨_, _, _, q⟩ := hs'
    exact False.elim q
end
end Rw

set_option Elab.async false
set_option linter.all false
set_option maxRecDepth 100000
namespace Rw
open PySem PySem.Spec L2
/-! ### raising -/
/-- the promise of an __init__ of n values, of which the first is kept as fld -/
def spI (C : Addr) (n : Nat) (fld : Str) : Sp := fun vs H Q E => ∃ a ys, vs = .ref a :: ys ∧ ys.length = n ∧ H a = some (exo a C none) ∧
  ∀ dx fs H2, H dx = none → dx ≠ a → (∀ y, ys[0]? = some y → fs.lookup fld = some y) → H2 a = some (exo a C (some dx)) → H2 dx = some (exd dx fs) → (∀ b, b ≠ a → b ≠ dx → H2 b = H b) → Q .non H2
structure XF (P : Program) (w : World) (K : PySem.W.Frag) (mg : Str → Option Value) (base : Heap) (cl : String → Option Addr) (x : String) (n : Nat) (fld : Str) : Prop where
  ex : ∃ (C fI : Addr) (fd : FuncData) (ps : List Str), mg (Str.ofString x) = some (.ref C) ∧ cl x = some C ∧ OexC K C ∧ PySem.W.findIn K (.ref C) "__init__" = some (some (.ref fI)) ∧ PySem.W.typeIn K (.ref fI) = some (.type "function") ∧
    FnOk P w K mg base (L2.CX P w) 1 fI fd ps (spI C n fld) ∧ Binds K fd ps []
/-- C(), C's own __init__ -/
theorem pmk_oex0 {X : Cx} {x : Str} {C fI : Addr} {k : Nat} {fd : FuncData} {ps : List Str} {sp : Sp} {p pos : Pos} (T : OexC X.K C) (iC : PySem.W.findIn X.K (.ref C) "__init__" = some (some (.ref fI))) (tI : PySem.W.typeIn X.K (.ref fI) = some (.type "function"))
    (F1 : FnOk X.prog X.w X.K X.mg X.base (L2.CX X.prog X.w) k fI fd ps sp) (hr : Room (k + 1) X.A) (hb : Binds X.K fd ps []) (hg : Gl X x) (hm : X.mg x = some (.ref C))
    (hdb : (x == ("__debug__" : Str)) = false := by decide) : PMk X (.Call (.Name x p) [] [] pos) (tMkO C sp [] tNil) := by
  intro pins s0 σ H Q I wish
  rcases T.cls with ⟨n1, n2, ns, b1, chain, l1, l2, l3, l4, l5, w0, w1, w2, w3, w5, atC, okC⟩
  refine wpAny_Call_Name_kw (ld_glob I hg hm (PySem.W.callWith_K0 I.kIn T.kC (show wpAny _ _ (call (.ref C) []) _ _ _ from ?_)) hdb)
  rcases s0 with ⟨hp, gens, drawn, toks, os⟩
  -- the new one stands at the second place behind all
  let a : Addr := hp.objs.size + 1
  have big : hp.objs.size ≤ a := Nat.le_add_right _ 1
  have free : H a = none := I.hok.fresh big
  have goal := wish.2 a free
  let hp2 := (hp.push (PySem.W.kdv_tup [])).push (PySem.HandSPX.excO C hp.objs.size)
  have keep : ∀ b o, hp.get? b = some o → hp2.get? b = some o := fun b o at_ => Heap.get?_push_of_some _ (Heap.get?_push_of_some _ at_)
  have there : hp2.get? a = some (PySem.HandSPX.excO C hp.objs.size) := by
    show ((hp.push (PySem.W.kdv_tup [])).push (PySem.HandSPX.excO C hp.objs.size)).get? (hp.objs.size + 1) = _
    heap_get
  have J : Inv X pins σ (upd H a (exo a C none)) ⟨hp2, gens, drawn, toks, os⟩ := I.laid (t' := toks) (a := a) (o := exo a C none) (h' := hp2) keep big (exo_ok there)
  have vals : Vals [V.ref a] [Value.ref a] := .cons rfl .nil
  have len1 : ([Value.ref a] ++ []).length = ps.length := vals.length.symm.trans (F1.len _ _ _ _ goal)
  have run := F1.run _ X.stack _ _ ⟨[Value.ref a], []⟩ [Value.ref a] _ _ (fun _ _ _ => False) (hr.make C [] []) (J.env0.make C [] []) (hb _ [Value.ref a] J.kIn len1) vals goal
  refine wpAny_call (PySem.HandSPX.call_own F.excBase_ValueError (fun Y => PySem.HandSPX.refsVE_contains Y chain okC) (I.kIn _ _ atC) (PySem.W.looks_findIn I.kIn iC) (fun self => PySem.W.bind_fn I.kIn self tI) (Nat.zero_le sizeLine) (codeAny_mono run fun r s1 res => ?_))
  rcases r with x | fl
  · obtain ⟨_, _, _, _, _, _, _, _, _, _, _, _, no⟩ := res
    exact no.elim
  rcases fl with _ | _ | _ | u
  case ret =>
    rcases s1 with ⟨h2, g2, d2, t2, os'⟩
    obtain ⟨v, H2, eos, eg, un2, ok2, rel, rfl, dx, fs, x1, x2, x3, fin⟩ := res
    exact ⟨rel, mk_end (raises_own T.exC T.tyC) I big keep un2 ok2 eos eg x1 x2 x3 fin⟩
  all_goals exact False.elim res
section
variable {X : Cx} {B : Bs} {W : WX} {p pos pos' : Pos}
theorem xd_new {F0 F H : Hp} {K : PySem.W.Frag} {v : Ev} {σ : L2.St} {d : Addr} {o : HO} (S : SR K B F0 v F σ H) (n : H d = none) : SR K B F0 v F σ (upd H d o) := by
  have sm : Same H (upd H d o) := fun b y e => by rw [upd_ne (ne_of_none e n)]; exact e
  exact S.gr ⟨fun _ _ e => e, sm, fun b hb => .inl hb⟩ (fun b y e => sm b y (S.sub b y e))
theorem mkH {H H2 : Hp} {a dx C : Addr} {fs : List (Str × V)} (hn : H a = none) (hd : dx ≠ a) (k : ∀ b, b ≠ a → b ≠ dx → H2 b = upd H a (exo a C none) b) : upd (del H2 a) dx (.xd fs) = upd H dx (.xd fs) := by
  funext b
  by_cases h : b = dx
  · subst h; rw [upd_same, upd_same]
  · rw [upd_ne h, upd_ne h]
    by_cases h2 : b = a
    · subst h2; rw [del_same, hn]
    · rw [del_ne h2, k b h2 h, upd_ne h2]
theorem ds_raise0 {x : String} {fld : Str} (T : XF X.prog X.w X.K X.mg X.base B.cl x 0 fld) (tk : Takes X W) (hr : Room 2 X.A) (hc : X.calm = true := by rfl) (hg : Gl X (Str.ofString x) := by rfl) (hdb : (Str.ofString x == ("__debug__" : Str)) = false := by decide) :
    DS X B W (.Raise (some (.Call (.Name (Str.ofString x) p) [] [] pos)) none pos') (sRaise0 x) := by
  obtain ⟨C, fI, fd, ps, hm, hcl, T1, iC, tI, F1, b⟩ := T.ex
  refine ⟨PS.imp (L2.ps_raise hc tk (pmk_oex0 T1 iC tI F1 hr b hg hm hdb)) fun D σ H ⟨F0, v, F, P, S, cp, q⟩ => ?_, fun v P P' le q => le.ex v _ q⟩
  refine ⟨by decide, fun a hn => ⟨a, [], rfl, rfl, upd_same, fun dx fs H2 hdx hda _ ha hd k => ⟨rfl, dx, fs, ha, hd, ?_, ?_⟩⟩⟩
  · rw [upd_ne hda] at hdx; exact hdx
  · have hdx' : H dx = none := by rw [upd_ne hda] at hdx; exact hdx
    rw [mkH hn hda k]
    exact cp.ex v _ _ _ F σ _ (xd_new S hdx') ⟨C, dx, fs, hcl, rfl, rfl, upd_same, fun n e z => by cases z⟩ q
theorem ds_raise1 {x : String} {fld : String} {e : Expr} {f : ET} (T : XF X.prog X.w X.K X.mg X.base B.cl x 1 (Str.ofString fld)) (tk : Takes X W) (hr : Room 2 X.A) (h : DE X B W .bo e f) (hc : X.calm = true := by rfl) (hg : Gl X (Str.ofString x) := by rfl) (hdb : (Str.ofString x == ("__debug__" : Str)) = false := by decide)
    (he : starEach [e] X.env = (false, eval e X.env) :: starEach [] X.env := by rfl) :
    DS X B W (.Raise (some (.Call (.Name (Str.ofString x) p) [e] [] pos)) none pos') (sRaise1 x fld f) := by
  obtain ⟨C, fI, fd, ps, hm, hcl, T1, iC, tI, F1, b⟩ := T.ex
  refine ⟨PS.imp (L2.ps_raise hc tk (pmk_oex (CX := L2.CX X.prog X.w) T1 iC tI F1 hr b .nil passL hg hm (pa_cons h.pe pa_nil he) hdb he rfl)) fun D σ H ⟨F0, v, F, P, S, cp, q⟩ => ?_, fun v P P' le q => h.mono v _ _ _ _ (fun d z => le.ex v _ z) (le.ex v) q⟩
  refine rdE.mk h.mono S (cp.xok S) q fun d k y F' H1 g s r => ?_
  refine ⟨by simp, fun a hn => ⟨a, [y], rfl, rfl, upd_same, fun dx fs H2 hdx hda hy ha hd k2 => ⟨rfl, dx, fs, ha, hd, ?_, ?_⟩⟩⟩
  · rw [upd_ne hda] at hdx; exact hdx
  · have hdx' : H1 dx = none := by rw [upd_ne hda] at hdx; exact hdx
    rw [mkH hn hda k2]
    refine cp.ex v _ _ _ F' σ _ (xd_new (S.gr g s) hdx') ⟨C, dx, fs, hcl, rfl, rfl, upd_same, fun n e z => ?_⟩ k
    cases hf : flatD d with
    | false => rw [hf] at z; cases z
    | true =>
      rw [hf] at z
      by_cases hn2 : n = fld
      · subst hn2
        simp [List.lookup] at z
        subst z
        exact ⟨y, hy y rfl, MB.flatS r hf⟩
      · have e2 : (n == fld) = false := by simpa using hn2
        simp [List.lookup, e2] at z
end
theorem ds_bad {X : Cx} {B : Bs} {W : WX} {st : Stmt} : DS X B W st sBad := ⟨⟨fun pins s σ H D I ⟨_, _, _, _, _, _, q⟩ => q.elim⟩, fun _ _ _ _ q => q.elim⟩
end Rw

set_option Elab.async false
set_option linter.all false
set_option maxRecDepth 100000
namespace Rw
open PySem PySem.Spec L2
/-! ### try with several clauses, with and without a name -/
structure Hc where
  c : Value
  i : Option Nat
  ts : Addr → Value → Option Addr → TS
def suiteW (D : Ends) (cls : Value) (d : Option Addr) (σ : L2.St) (H : Hp) (ts : Addr → Value → Option Addr → TS) (a : Addr) : Option Nat → Prop
  | none => ts a cls d D σ H
  | some i => ts a cls d { nx := fun σ' H' => D.nx (σ'.set i none) H', rt := D.rt, bk := fun σ' H' => D.bk (σ'.set i none) H', ct := fun σ' H' => D.ct (σ'.set i none) H' } (σ.set i (some (.ref a))) H
def wK (K : PySem.W.Frag) (Wout : WX) (D : Ends) : List Hc → WX
  | [] => Wout
  | h :: r => fun cls d σ H => ∃ b, PySem.W.exmOne K cls h.c = some b ∧ (b = true → ∀ a, H a = none → suiteW D cls d σ H h.ts a h.i) ∧ (b = false → wK K Wout D r cls d σ H)
inductive HdsK (X : Cx) : List ExceptHandler → List Hc → Prop
  | nil : HdsK X [] []
  | cons {x : Str} {c : Value} {ts : Addr → Value → Option Addr → TS} {b₀ : Stmt} {suite : List Stmt} {np pos' : Pos} {hds : List ExceptHandler} {l : List Hc} (hc : Names X x c)
      (hsu : ∀ (a : Addr) (oe : Obj) (cls : Value) (d : Option Addr) (pn : List (Addr × Obj)), Zc cls d oe → (∃ vs, oe.data = .fields vs) → PSs (X.suite a ((a, oe) :: pn)) (b₀ :: suite) (ts a cls d)) (r : HdsK X hds l) :
      HdsK X (.ExceptHandler (some (.Name x np)) none (b₀ :: suite) pos' :: hds) (⟨c, none, ts⟩ :: l)
  | asn {x n : Str} {i : Nat} {c : Value} {ts : Addr → Value → Option Addr → TS} {b₀ : Stmt} {suite : List Stmt} {np pos' : Pos} {hds : List ExceptHandler} {l : List Hc} (hN : X.N.Nodup) (hi : X.N[i]? = some n) (hln : X.env.kindOf n = some .local) (hc : Names X x c)
      (hsu : ∀ (a : Addr) (oe : Obj) (cls : Value) (d : Option Addr) (pn : List (Addr × Obj)), Zc cls d oe → (∃ vs, oe.data = .fields vs) → PSs (X.suite a ((a, oe) :: pn)) (b₀ :: suite) (ts a cls d)) (r : HdsK X hds l) :
      HdsK X (.ExceptHandler (some (.Name x np)) (some n) (b₀ :: suite) pos' :: hds) (⟨c, some i, ts⟩ :: l)
/-- an exception e that lies caught over the ground G: sA is the state without it, sB the state now -/
structure Cau (X : Cx) (pins : List (Addr × Obj)) (σ : L2.St) (H : Hp) (e : Addr) (G : Heap) (cls : Value) (d : Option Addr) (sA sB : Shared) : Prop where
  whole : Inv X pins σ H sA
  ground : ∀ b o, sA.heap.get? b = some o → b ∉ frs X.stack → G.get? b = some o
  slots : sA.heap.UpToSlots sB.heap
  fly : HandSPX.FlyingZ G (X.env :: X.outer) e (Zc cls d) sB.heap
  new : H e = none
  files : sB.os = sA.os
  gens : PyProof.Rows.AllBare sB.gens
section
variable {X : Cx} {pins : List (Addr × Obj)} {σ : L2.St} {H : Hp} {e : Addr} {G : Heap} {cls : Value} {d : Option Addr} {sA sB : Shared}
theorem Cau.inv (C : Cau X pins σ H e G cls d sA sB) : Inv X pins σ H sB := C.whole.landed C.ground C.fly.1 C.slots C.files C.gens
theorem Cau.obj (C : Cau X pins σ H e G cls d sA sB) : ∃ rec flds, sB.heap.get? e = some rec ∧ Zc cls d rec ∧ rec.data = .fields flds := by
  obtain ⟨rec, flds, at_, z, dat⟩ := C.fly.there
  exact ⟨rec, flds, at_, z, dat⟩
theorem Cau.out (C : Cau X pins σ H e G cls d sA sB) : e ∉ frs (X.env :: X.outer) := fun inside => by
  obtain ⟨rec, flds, at_, _, dat⟩ := C.obj
  obtain ⟨_, o2, at2, nof⟩ := C.fly.2.2.1.mem inside
  cases at_.symm.trans at2
  exact nof flds dat
theorem Cau.noL (C : Cau X pins σ H e G cls d sA sB) (fr : X.env.frame = some X.env.locals) : e ≠ X.env.locals := fun q =>
  C.out (List.mem_filterMap.mpr ⟨X.env, .head _, fr.trans (congrArg some q.symm)⟩)
theorem Cau.noF (C : Cau X pins σ H e G cls d sA sB) : e ∉ X.fs := fun inside => by
  obtain ⟨v, mem, q⟩ := List.mem_filterMap.mp inside
  exact C.out (List.mem_filterMap.mpr ⟨v, .tail _ mem, q⟩)
theorem Cau.within (C : Cau X pins σ H e G cls d sA sB) (fr : X.env.frame = some X.env.locals) {rec : Obj} {flds : Array Value} (at_ : sB.heap.get? e = some rec) (dat : rec.data = .fields flds) :
    Inv (X.suite e ((e, rec) :: (X.pn ++ pins))) [] σ H sB := C.inv.suite at_ dat C.new (C.noL fr) C.noF
theorem Cau.move (C : Cau X pins σ H e G cls d sA sB) {h2 : Heap} (f2 : HandSPX.FlyingZ G (X.env :: X.outer) e (Zc cls d) h2) (u2 : sB.heap.UpToSlots h2) : Cau X pins σ H e G cls d sA { sB with heap := h2 } :=
  ⟨C.whole, C.ground, C.slots.trans u2, f2, C.new, C.files, C.gens⟩
/-- the class behind «except» is read -/
theorem Cau.read (C : Cau X pins σ H e G cls d sA sB) (fr : X.env.frame = some X.env.locals) {x : Str} {np : Pos} {c : Value} (hc : Names X x c) {Q E : Value → Shared → Prop} (q : Q c sB) :
    wpAny (model X.prog X.w) (X.A.mark (some (.ref e))) (eval (.Name x np) X.env) Q E sB := by
  obtain ⟨rec, flds, at_, _, dat⟩ := C.obj
  have inside := C.within fr at_ dat
  rcases hc with ⟨gl, nd, own | ⟨no, blt, nn⟩⟩
  · exact ld_glob (X := X.suite e ((e, rec) :: (X.pn ++ pins))) inside gl own q nd
  · exact ld_blt (X := X.suite e ((e, rec) :: (X.pn ++ pins))) inside gl no blt q nn nd
/-- no clause takes it: it flies on -/
theorem Cau.pass (C : Cau X pins σ H e G cls d sA sB) (st : X.stack = X.env :: X.outer) (fr : X.env.frame = some X.env.locals) {Wout : WX} (tk : Takes X Wout) (hw : Wout cls d σ H) {Q : Flow → Shared → Prop} :
    wpAny (model X.prog X.w) X.A (handleBy (.ref e) X.env []) Q X.xe sB := by
  refine wpAny_handleBy_nil ?_
  obtain ⟨rec, flds, tr, _, _, at_, _, dat, one, _⟩ := id C.fly.2.2.2
  have go : wpAny (model X.prog X.w) X.A (setFlight (.ref e) X.env.frame) (fun _ s4 => wpAny (model X.prog X.w) X.A (throw (.ref e) : Sem Flow) Q X.xe s4) X.xe sB := by
    rw [fr]
    refine HandSPX.setFlight_upZ C.fly fun h4 held u4 => wpAny_throw (tk _ _ ⟨e, G, sA, pins, σ, H, cls, d, rfl, C.whole, C.ground, C.slots.trans u4, .inr (.inr (st ▸ held)), C.new, C.files, C.gens, hw⟩)
  unfold PySem.passOn
  refine wpAny_bind (wpAny_field at_ dat one ?_)
  rw [if_neg (show (Value.ref tr == Value.none) ≠ true by simp)]
  first | exact wpAny_bind go | exact wpAny_bind (wpAny_pure (wpAny_bind go))
/-- a clause without a name -/
theorem Cau.bare (C : Cau X pins σ H e G cls d sA sB) (fr : X.env.frame = some X.env.locals) {ts : Addr → Value → Option Addr → TS} {b₀ : Stmt} {rest : List Stmt} {D : Ends} {E1 E2 : Value → Shared → Prop} {A1 : Around}
    (hsu : ∀ (a : Addr) (oe : Obj) (cls : Value) (d : Option Addr) (pn : List (Addr × Obj)), Zc cls d oe → (∃ vs, oe.data = .fields vs) → PSs (X.suite a ((a, oe) :: pn)) (b₀ :: rest) (ts a cls d)) (w : ts e cls d D σ H) :
    wpAny (model X.prog X.w) A1 (setFlight (.ref e) none) (fun _ s2 => wpAny (model X.prog X.w) (X.A.mark (some (.ref e))) (execs (b₀ :: rest) X.env) (SP X pins D) E2 s2) E1 sB := by
  refine HandSPX.lands_againZ C.fly fun h4 f4 u4 => ?_
  have C4 := C.move f4 u4
  obtain ⟨rec, flds, at_, z, dat⟩ := C4.obj
  have ok := C.whole.ok
  refine wpAny_mono ((hsu e rec cls d (X.pn ++ pins) z ⟨_, dat⟩).run [] _ _ H _ (C4.within fr at_ dat) w) (fun fl s6 r => ?_) (fun _ _ z => False.elim z)
  rcases fl with _ | _ | _ | u
  case ret =>
    obtain ⟨v6, σ6, H6, S6, r6, q6⟩ := r
    exact ⟨v6, σ6, H6, S6.unsuite ok, r6, q6⟩
  all_goals
    obtain ⟨σ6, H6, S6, q6⟩ := r
    exact ⟨σ6, H6, S6.unsuite ok, q6⟩
/-- a clause with a name: the name takes the exception, and goes behind the suite -/
theorem Cau.named (C : Cau X pins σ H e G cls d sA sB) (fr : X.env.frame = some X.env.locals) {n : Str} {i : Nat} (nd : X.N.Nodup) (slot : X.N[i]? = some n) (lc : X.env.kindOf n = some .local) {ts : Addr → Value → Option Addr → TS} {b₀ : Stmt} {rest : List Stmt} {D : Ends} {E1 E2 E3 : Value → Shared → Prop} {A1 : Around} {pos : Pos}
    (hsu : ∀ (a : Addr) (oe : Obj) (cls : Value) (d : Option Addr) (pn : List (Addr × Obj)), Zc cls d oe → (∃ vs, oe.data = .fields vs) → PSs (X.suite a ((a, oe) :: pn)) (b₀ :: rest) (ts a cls d)) (w : suiteW D cls d σ H ts e (some i)) :
    wpAny (model X.prog X.w) A1 (setFlight (.ref e) none) (fun _ s2 => wpAny (model X.prog X.w) (X.A.mark (some (.ref e))) (storeName X.env n (.ref e)) (fun _ s3 => wpAny (model X.prog X.w) (X.A.mark (some (.ref e))) (execs (b₀ :: rest) X.env)
      (fun fl s4 => wpAny (model X.prog X.w) X.A (do bindName X.env n .none; unbindBehindTheSuite X.env n pos) (fun _ s5 => SP X pins D fl s5) X.xe s4) E3 s3) E2 s2) E1 sB := by
  refine HandSPX.lands_againZ C.fly fun h4 f4 u4 => ?_
  have C4 := C.move f4 u4
  obtain ⟨rec, flds, at_, z, dat⟩ := C4.obj
  have ok := C.whole.ok
  refine store_ok (X := X.suite e ((e, rec) :: (X.pn ++ pins))) (v := .ref e) (C4.within fr at_ dat) nd slot (.inl lc) rfl (fun s5 S5 => ?_) (.inr lc)
  refine wpAny_mono ((hsu e rec cls d (X.pn ++ pins) z ⟨_, dat⟩).run [] s5 _ H _ S5 w) (fun fl s6 r => ?_) (fun _ _ no => no.elim)
  rcases fl with _ | _ | _ | u
  case ret =>
    obtain ⟨v6, σ6, H6, S6, r6, q6⟩ := r
    exact gone_ok (S6.unsuite ok) nd slot lc fun s7 J7 => ⟨v6, _, H6, J7, r6, q6⟩
  all_goals
    obtain ⟨σ6, H6, S6, q6⟩ := r
    exact gone_ok (S6.unsuite ok) nd slot lc fun s7 J7 => ⟨_, H6, J7, q6⟩
/-- all clauses, one after the other -/
theorem Cau.all (C : Cau X pins σ H e G cls d sA sB) (st : X.stack = X.env :: X.outer) (fr : X.env.frame = some X.env.locals) {Wout : WX} (tk : Takes X Wout) {D : Ends} {hds : List ExceptHandler} {l : List Hc} (k : HdsK X hds l) :
    wK X.K Wout D l cls d σ H → wpAny (model X.prog X.w) X.A (handleBy (.ref e) X.env hds) (SP X pins D) X.xe sB := by
  have KI := C.inv.kIn
  have typ : PySem.W.Looks (model X.prog X.w) sB.heap (typeOf (.ref e)) cls := by
    obtain ⟨rec, _, at_, z, _⟩ := C.obj
    exact fun A Q E s keep q => wpAny_typeOf_ref (keep _ _ at_) (by rw [z.1]; exact q)
  induction k with
  | nil => exact fun w => C.pass st fr tk w
  | cons hc hsu _ ih =>
    rintro ⟨b, eb, yes, no⟩
    refine wpAny_handleBy_cons (codeAny_handlers_test (C.read fr hc ((PySem.W.exm_one (M := model X.prog X.w) KI typ eb).here ?_))) nofun
    rcases b with _ | _
    · exact ih (no rfl)
    · exact codeAny_handlers_suite (C.bare fr hsu (yes rfl e C.new))
  | asn hN hi hln hc hsu _ ih =>
    rintro ⟨b, eb, yes, no⟩
    refine wpAny_handleBy_cons (codeAny_handlers_test (C.read fr hc ((PySem.W.exm_one (M := model X.prog X.w) KI typ eb).here ?_))) nofun
    rcases b with _ | _
    · exact ih (no rfl)
    · exact codeAny_handlers_suite_as (C.named fr hN hi hln hsu (yes rfl e C.new))
end
section
variable {X : Cx} {body : List Stmt} {h₀ : ExceptHandler} {hds : List ExceptHandler} {l : List Hc} {pos : Pos} {tb : WX → TS} {Wout : WX}
theorem ps_tryK (st : X.stack = X.env :: X.outer) (fr : X.env.frame = some X.env.locals) (tk : Takes X Wout)
    (inner : ∀ (W : WX) (pn : List (Addr × Obj)) (xe : Value → Shared → Prop), Takes (X.tr pn xe) W → PassesOwn (model X.prog X.w) X.A X.env xe → PSs (X.tr pn xe) body (tb W))
    (k : HdsK X (h₀ :: hds) l) : PS X (.Try body (h₀ :: hds) [] [] pos) (fun D σ H => tb (wK X.K Wout D l) D σ H) := by
  constructor
  intro pins s σ H D I q
  have ok := I.ok
  have frames : X.A.frames = some (X.env :: X.outer) := ok.frames.trans (congrArg some st)
  refine wpAny_Try_except (wpAny_mono ((inner (wK X.K Wout D l) (X.pn ++ pins) (fun x s1 => wpAny (model X.prog X.w) X.A (noteFrame x X.env) (fun _ s2 => wpAny (model X.prog X.w) X.A (setFlight x none) (fun _ s3 =>
    wpAny (model X.prog X.w) X.A (handleBy x X.env (h₀ :: hds)) (SP X pins D) X.xe s3) X.xe s2) X.xe s1) ?caught PassesOwn.looking).run [] s σ H D (I.toTry _) q) ?behind (fun _ _ z => z))
  case caught =>
    rintro _ s1 ⟨e, G, sA, _, σ1, H1, cls, d, rfl, J, ground, slots, sky, new, files, gens, w⟩
    refine Sky.land Zc.steady frames fr (by rw [← st]; exact sky) fun h3 f3 u3 => ?_
    exact (Cau.mk (sB := { s1 with heap := h3 }) (J.ofTry ok) ground (slots.trans u3) f3 new files gens).all st fr tk k w
  case behind =>
    intro fl s1 r
    rcases fl with _ | _ | _ | u
    case ret =>
      obtain ⟨v, σ1, H1, J, r1, q1⟩ := r
      exact ⟨v, σ1, H1, J.ofTry ok, r1, q1⟩
    case next =>
      obtain ⟨σ1, H1, J, q1⟩ := r
      exact wpAny_execs_nil ⟨σ1, H1, J.ofTry ok, q1⟩
    all_goals
      obtain ⟨σ1, H1, J, q1⟩ := r
      exact ⟨σ1, H1, J.ofTry ok, q1⟩
end
end Rw

set_option Elab.async false
set_option linter.all false
set_option maxRecDepth 100000
namespace Rw
open PySem PySem.Spec L2
/-- which class's clause catches which class -/
def EmOk (K : PySem.W.Frag) (cl : String → Option Addr) : Prop := ∀ x C c C', cl x = some C → cl c = some C' → PySem.W.exmOne K (.ref C) (.ref C') = some (x == c || c == "RingError")
inductive HdD (X : Cx) (B : Bs) : List ExceptHandler → List (String × (DX → ST)) → Prop
  | nil : HdD X B [] []
  | cons {c : String} {C : Addr} {s : ST} {b₀ : Stmt} {suite : List Stmt} {np pos' : Pos} {hds : List ExceptHandler} {l : List (String × (DX → ST))} (hcl : B.cl c = some C) (hc : Names X (Str.ofString c) (.ref C))
      (hs : ∀ (a : Addr) (oe : Obj) (pn : List (Addr × Obj)), DSs (X.suite a ((a, oe) :: pn)) B (fun _ _ _ _ => False) (b₀ :: suite) s) (m : MonoS s) (r : HdD X B hds l) :
      HdD X B (.ExceptHandler (some (.Name (Str.ofString c) np)) none (b₀ :: suite) pos' :: hds) ((c, fun _ => s) :: l)
  | asn {c : String} {C : Addr} {n : Str} {i : Nat} {txt : Str} {fld : String} {j k} {p1 p2 p3 p4 p5 : Pos} {np pos' : Pos} {hds : List ExceptHandler} {l : List (String × (DX → ST))} (hN : X.N.Nodup) (hi : X.N[i]? = some n) (hln : X.env.scope.names.lookup n = some .local)
      (hcl : B.cl c = some C) (hc : Names X (Str.ofString c) (.ref C)) (hne : (c == "RingError") = false) (xf : XfC X.K C) (hno : PySem.W.findIn X.K (.ref C) (Str.ofString fld) = some none)
      (hd : (n == ("__debug__" : Str)) = false) (hcd : (n == ("__classdict__" : Str)) = false)
      (hb : attributeBase (.Name n p2) (Str.ofString fld) X.env (eval (.Name n p2) X.env) = eval (.Name n p2) X.env) (r : HdD X B hds l) :
      HdD X B (.ExceptHandler (some (.Name (Str.ofString c) np)) (some n) [.Return (some (.Tuple [.Constant (.str txt) j p1, .Attribute (.Name n p2) (Str.ofString fld) p3] k p4)) p5] pos' :: hds) ((c, sHRet i txt fld) :: l)
section
variable {X : Cx} {B : Bs}
theorem mono_hdl {hds : List ExceptHandler} {hs : List (String × (DX → ST))} (h : HdD X B hds hs) : ∀ (x : DX) (v : Ev) (P P' : Post), PLe P P' → hdl hs x v P → hdl hs x v P' := by
  induction h with
  | nil => intro x v P P' le q; exact le.ex v x q
  | cons hcl hc hs m r ih =>
    intro x v P P' le q
    unfold hdl at q ⊢
    split at q
    · rename_i e
      rw [if_pos e]
      exact m v { P with ex := fun _ _ => False } { P' with ex := fun _ _ => False } ⟨le.nx, le.rt, le.bk, le.ct, fun _ _ z => z⟩ q
    · rename_i e
      rw [if_neg e]
      exact ih x v P P' le q
  | asn hN hi hln hcl hc hne xf hno hd hcd hb r ih =>
    intro x v P P' le q
    unfold hdl at q ⊢
    split at q
    · rename_i e
      rw [if_pos e]
      obtain ⟨hi, d, hl, z⟩ := q
      exact ⟨hi, d, hl, le.rt _ z⟩
    · rename_i e
      rw [if_neg e]
      exact ih x v P P' le q
theorem hd_of {hds : List ExceptHandler} {hs : List (String × (DX → ST))} (em : EmOk X.K B.cl) (h : HdD X B hds hs) : ∃ l, HdsK X hds l ∧ ∀ (W : WX) (D : Ends) (P : Post) (F0 : Hp), Cp X.K B F0 W D P →
    ∀ v x cls dd F σ H, SR X.K B F0 v F σ H → RepX B x cls dd H → hdl hs x v P → wK X.K W D l cls dd σ H := by
  induction h with
  | nil => exact ⟨[], .nil, fun W D P F0 cp v x cls dd F σ H S r q => cp.ex v x cls dd F σ H S r q⟩
  | @cons c C s b₀ suite np pos' hds l hcl hc hs m r ih =>
    obtain ⟨l', hk, ih⟩ := ih
    refine ⟨⟨.ref C, none, fun a cls d => rdS X.K B (fun _ _ _ _ => False) s⟩ :: l', .cons hc (fun a oe cls d pn hz hf => (hs a oe pn).pss) hk, fun W D P F0 cp v x cls dd F σ H S r q => ?_⟩
    obtain ⟨C1, d1, fs, e1, e2, e3, e4, e5⟩ := id r
    subst e2
    refine ⟨_, em x.cls C1 c C e1 hcl, fun hb a na => ?_, fun hb => ?_⟩
    · unfold hdl at q
      rw [if_pos hb] at q
      exact ⟨F0, v, F, { P with ex := fun _ _ => False }, S, ⟨cp.nx, cp.bk, cp.ct, cp.rt, fun _ _ _ _ _ _ _ _ _ (z : False) => z.elim⟩, q⟩
    · unfold hdl at q
      rw [if_neg (by rw [hb]; decide)] at q
      exact ih W D P F0 cp v x _ dd F σ H S r q
  | @asn c C n i txt fld j k p1 p2 p3 p4 p5 np pos' hds l hN hi hln hcl hc hne xf hno hd hcd hb r ih =>
    obtain ⟨l', hk, ih⟩ := ih
    refine ⟨⟨.ref C, some i, fun a cls d D σ H => tTup (tCons (tC (.str txt)) (tCons (tXf a cls d C (Str.ofString fld) (tVar i)) tNil)) σ H (fun x H' => D.rt x H')⟩ :: l', .asn hN hi hln hc (fun a oe cls d pn hz hf => ?_) hk, fun W D P F0 cp v x cls dd F σ H S r q => ?_⟩
    · exact pss_one (ps_ret (pe_tup (pa_cons pe_str (pa_cons (pe_xf xf hno hz hf (pe_var (X := X.suite a ((a, oe) :: pn)) hi (.inl hln) hd hcd) hb) pa_nil))))
    · obtain ⟨C1, d1, fs, e1, e2, e3, e4, e5⟩ := id r
      subst e2
      refine ⟨_, em x.cls C1 c C e1 hcl, fun hb a na => ?_, fun hb => ?_⟩
      · unfold hdl at q
        rw [if_pos hb] at q
        obtain ⟨hil, d, hl, hq⟩ := q
        rw [hne, Bool.or_false] at hb
        have hcc : x.cls = c := by simpa using hb
        rw [hcc, hcl] at e1
        cases e1
        obtain ⟨y, hy, ry⟩ := e5 _ _ hl
        have hlen : i < σ.length := by rw [← S.len]; exact hil
        refine ⟨.ref a, by rw [List.getElem?_set_self hlen], rfl, rfl, d1, fs, y, e3, e4, hy, by simp [sizeLine_eq], fun p np => ?_⟩
        obtain ⟨g2, s2, m2⟩ := fresh_tup (K := X.K) (ds := [.str txt, d]) S.sub np (.cons (.str txt) (.cons (ry X.K F) .nil))
        exact cp.rt _ _ _ _ (S.gr g2 s2).out s2 m2 hq
      · unfold hdl at q
        rw [if_neg (by rw [hb]; decide)] at q
        exact ih W D P F0 cp v x _ dd F σ H S r q
theorem ds_try {W : WX} {body : List Stmt} {h₀ : ExceptHandler} {hds : List ExceptHandler} {pos : Pos} {fb : ST} {hs : List (String × (DX → ST))} (em : EmOk X.K B.cl) (tk : Takes X W)
    (hb : ∀ (W' : WX) (pn : List (Addr × Obj)) (xe : Value → Shared → Prop), Takes (X.tr pn xe) W' → PassesOwn (model X.prog X.w) X.A X.env xe → DSs (X.tr pn xe) B W' body fb)
    (hh : HdD X B (h₀ :: hds) hs) (hst : X.stack = X.env :: X.outer := by rfl) (hf : X.env.frame = some X.env.locals := by rfl) : DS X B W (.Try body (h₀ :: hds) [] [] pos) (sTry fb hs) := by
  have m : MonoS fb := (hb (fun _ _ _ _ => False) [] (fun _ _ => False) takes0 PassesOwn.never).mono
  obtain ⟨l, hk, hl⟩ := hd_of em hh
  refine ⟨PS.imp (ps_tryK (tb := fun W' => rdS X.K B W' fb) hst hf tk (fun W' pn xe tk' po => (hb W' pn xe tk' po).pss) hk) fun D σ H ⟨F0, v, F, P, S, cp, q⟩ => ?_, fun v P P' le q => ?_⟩
  · exact ⟨F0, v, F, { P with ex := fun v' x => hdl hs x v' P }, S, ⟨cp.nx, cp.bk, cp.ct, cp.rt, fun v' x cls dd F' σ' H' S' r q' => hl W D P F0 cp v' x cls dd F' σ' H' S' r q'⟩, q⟩
  · exact m v { P with ex := fun v' x => hdl hs x v' P } { P' with ex := fun v' x => hdl hs x v' P' } ⟨le.nx, le.rt, le.bk, le.ct, fun v' x z => mono_hdl hh x v' P P' le z⟩ q
theorem de_gc {X : Cx} {B : Bs} {W : WX} {x : Str} {d : D} {pos : Pos} (h : ∃ a : Addr, X.mg x = some (.ref a) ∧ ∀ F, Rep X.K F (.ref a) d) (hg : Gl X x := by rfl) (hd : (x == ("__debug__" : Str)) = false := by decide) : DE X B W .fz (.Name x pos) (eC d) := by
  obtain ⟨a, hm, r⟩ := h
  exact de_g (y := .ref a) (u := .ref a) hm rfl r hg hd
structure YF (K : PySem.W.Frag) (mg : Str → Option Value) (cl : String → Option Addr) (c : String) : Prop where
  ex : ∃ C, cl c = some C ∧ mg (Str.ofString c) = some (.ref C)
structure YV (K : PySem.W.Frag) (mg : Str → Option Value) (cl : String → Option Addr) (c fld : String) : Prop where
  ex : ∃ C, cl c = some C ∧ mg (Str.ofString c) = some (.ref C) ∧ XfC K C ∧ PySem.W.findIn K (.ref C) (Str.ofString fld) = some none
theorem hdd_cons {c : String} {s : ST} {b₀ : Stmt} {suite : List Stmt} {np pos' : Pos} {hds : List ExceptHandler} {l : List (String × (DX → ST))} (T : YF X.K X.mg B.cl c)
    (hs : ∀ (a : Addr) (oe : Obj) (pn : List (Addr × Obj)), DSs (X.suite a ((a, oe) :: pn)) B (fun _ _ _ _ => False) (b₀ :: suite) s) (r : HdD X B hds l)
    (hg : Gl X (Str.ofString c) := by rfl) (hdb : (Str.ofString c == ("__debug__" : Str)) = false := by decide) :
    HdD X B (.ExceptHandler (some (.Name (Str.ofString c) np)) none (b₀ :: suite) pos' :: hds) ((c, fun _ => s) :: l) := by
  obtain ⟨C, h1, h2⟩ := T.ex
  exact .cons h1 ⟨hg, hdb, .inl h2⟩ hs (hs 0 { cls := .none, data := .fields #[] } []).mono r
theorem hdd_asn (i : Nat) {c : String} {n : Str} {txt : Str} {fld : String} {j k} {p1 p2 p3 p4 p5 : Pos} {np pos' : Pos} {hds : List ExceptHandler} {l : List (String × (DX → ST))} (T : YV X.K X.mg B.cl c fld) (hN : X.N.Nodup) (r : HdD X B hds l)
    (hi : X.N[i]? = some n := by rfl) (hln : X.env.scope.names.lookup n = some .local := by rfl) (hne : (c == "RingError") = false := by decide)
    (hd : (n == ("__debug__" : Str)) = false := by decide) (hcd : (n == ("__classdict__" : Str)) = false := by decide) (hb : attributeBase (.Name n p2) (Str.ofString fld) X.env (eval (.Name n p2) X.env) = eval (.Name n p2) X.env := by rfl)
    (hg : Gl X (Str.ofString c) := by rfl) (hdb : (Str.ofString c == ("__debug__" : Str)) = false := by decide) :
    HdD X B (.ExceptHandler (some (.Name (Str.ofString c) np)) (some n) [.Return (some (.Tuple [.Constant (.str txt) j p1, .Attribute (.Name n p2) (Str.ofString fld) p3] k p4)) p5] pos' :: hds) ((c, sHRet i txt fld) :: l) := by
  obtain ⟨C, h1, h2, xf, hno⟩ := T.ex
  exact .asn hN hi hln h1 ⟨hg, hdb, .inl h2⟩ hne xf hno hd hcd hb r
end
end Rw

set_option Elab.async false
set_option linter.all false
set_option maxRecDepth 100000
namespace Rw
open PySem PySem.Spec PySem.W L2
/-! ### what the top has written -/
section
variable {P : Program} {w : World} {K : PySem.W.Frag} {h : Heap} {mg : Str → Option Value} {base : Heap} {cl : String → Option Addr}
theorem df_at (X : K.In h) (G : h.Ns mainGlobals mg) {x : Str} {st : Stmt} {ps : List Str} {k : Nat} {gg : DSp} {f : Addr} {od an : Option Addr} {sl : Array (Option Value)} {oc kV dc pm cd ct : Value}
    (a : PySem.W.nsIn K mainGlobals x = some (some (.ref f))) (l : K.lookup f = some ⟨oc, od, .func (PySem.W.fnOf x x (defArgs st) (defBody st) (defScope st) .none kV dc pm an cd ct), sl⟩) (c : PySem.W.codeIn K cd x = true) (kp : PySem.W.keepIn K (.ref f) = true)
    (hb : ∀ (kV doc pm : Value) (an : Option Addr) (cdv ct : Value) (us : List Value), us.length = ps.length → bindArgs (PySem.W.fnOf x x (defArgs st) (defBody st) (defScope st) .none kV doc pm an cdv ct) ⟨us, []⟩ = pure (ps.zip us))
    (wk : ∀ {f : Addr} {fd : FuncData}, Fun K x x st f fd → mg x = some (.ref f) → Binds K fd ps [] → Df P w K mg base cl k x gg) : Df P w K mg base cl k x gg :=
  have F := fun_mk l c kp
  wk F (PySem.W.mg_of X G a) (F.binds hb)
structure XA (P : Program) (K : PySem.W.Frag) (x : String) (C : Addr) (st : Stmt) (ps : List Str) : Prop where
  at_ : PySem.W.nsIn K mainGlobals (Str.ofString x) = some (some (.ref C))
  oex : OexC K C
  si : ∃ (fI : Addr) (fd : FuncData) (qual : Str) (cda cc : Addr), PySem.W.findIn K (.ref C) "__init__" = some (some (.ref fI)) ∧ PySem.W.typeIn K (.ref fI) = some (.type "function") ∧
    (∀ mg, mg ("super" : Str) = none → SI P K mg C fI fd qual (defArgs st) (defBody st) (defScope st) cda cc) ∧ Binds K fd ps []
theorem xa_mk {x : String} {C R fI cda cc : Addr} {st : Stmt} {ps : List Str} {nm q nmR qR qual : Str} {N NR : Addr} {bs bsR sub subR : List Value} {sn snR : List Str} {ab abR hdR : Bool} {col colR : Option Bool} {dd ddR od an cdd cld : Option Addr} {m0 m1 m2 m3 m5 r0 r1 r2 r3 r5 : Option Value} {nwR : String}
    {oc kV doc pm ct ccl cll : Value} {osl ccs csl : Array (Option Value)} {vs : Array Value} {file : Str} {tf : Tok}
    (aC : PySem.W.nsIn K mainGlobals (Str.ofString x) = some (some (.ref C)))
    (xC : K.lookup C = some (excClassObj nm q C N bs (.ref R :: PySem.HandSPX.veTail) true sn sub ab col dd m0 m1 m2 m3 m5 "ValueError.__new__"))
    (sa : PySem.W.findIn K (.ref C) "__setattr__" = some (some (.builtin "object.__setattr__"))) (eC : PySem.W.subIn K (.ref C) (.type "BaseException") = some true) (tC : PySem.W.typeIn K (.ref C) = some (.type "type")) (kC : PySem.W.keepIn K (.ref C) = true)
    (iC : PySem.W.findIn K (.ref C) "__init__" = some (some (.ref fI))) (tI : PySem.W.typeIn K (.ref fI) = some (.type "function"))
    (lI : K.lookup fI = some ⟨oc, od, .func (ksFn "__init__" qual (defArgs st) (defBody st) (defScope st) .none kV doc pm an (.ref cda) ct cc), osl⟩) (cI : PySem.W.codeIn K (.ref cda) qual = true)
    (lc : K.lookup cda = some ⟨ccl, cdd, .fields vs, ccs⟩) (hv : vs[2]? = some (.str file tf)) (hfile : ((P.main.file : Str) == file) = true) (lcc : K.lookup cc = some ⟨cll, cld, .cell (some (.ref C)), csl⟩)
    (mC : PySem.W.mroIn K C (.ref C) = some true) (xR : K.lookup R = some (excClassObj nmR qR R NR bsR PySem.HandSPX.veTail hdR snR subR abR colR ddR r0 r1 r2 r3 r5 nwR)) (fR : PySem.W.findIn K (.ref R) "__init__" = some (some (.builtin "ValueError.__init__")))
    (sV : PySem.W.subIn K (.ref C) (.type "ValueError") = some true) (opq : PySem.W.nsIn K cStatics "thirdparty.any" = some none) (top : (P.main.scope.names.lookup ("super" : Str)).isSome = false)
    (hb : ∀ (kV doc pm : Value) (an : Option Addr) (cda : Value) (ct : Value) (cc : Addr) (us : List Value), us.length = ps.length → bindArgs (ksFn "__init__" qual (defArgs st) (defBody st) (defScope st) .none kV doc pm an cda ct cc) ⟨us, []⟩ = pure (ps.zip us)) :
    XA P K x C st ps := by
  have ox : OexC K C := ⟨⟨nm, q, N, bs, _, sn, sub, ab, col, dd, m0, m1, m2, m3, m5, xC, rfl⟩, sa, eC, tC, kC⟩
  refine ⟨aC, ox, fI, _, qual, cda, cc, iC, tI, fun mg hs => ⟨⟨oc, od, kV, doc, pm, an, ct, osl, rfl, lI⟩, cI, ⟨ccl, cdd, vs, ccs, file, tf, lc, hv, hfile⟩, ⟨cll, cld, csl, lcc⟩, ox, mC, ?_, sV, opq, hs, top⟩, .all (hb kV doc pm an (.ref cda) ct cc)⟩
  have hcl : PySem.W.clsIn K C = some { name := nm, bases := bs, mro := .ref C :: .ref R :: PySem.HandSPX.veTail, ns := N, qualname := q, hasDict := true, slotNames := sn, subclasses := sub, abstract := ab, collection := col, hasDel := false } := by unfold PySem.W.clsIn; rw [xC] <;> rfl
  unfold ks_superIn
  rw [hcl]
  show alongIn K "__init__" (((Value.ref C :: Value.ref R :: PySem.HandSPX.veTail).dropWhile (· != .ref C)).drop 1) = _
  have e : ((Value.ref C :: Value.ref R :: PySem.HandSPX.veTail).dropWhile (· != .ref C)).drop 1 = .ref R :: PySem.HandSPX.veTail := by simp [List.dropWhile]
  rw [e]
  simp only [PySem.W.findIn, xR] at fR
  exact fR
theorem sup_line {p0 p1 p2 p3 : Pos} {args : List Expr} (hli : (p2.endLine == p3.line) = true) (hf : ∀ env, methodCallForm args.length (backTo p3 (starEach args env)) [] = true) (env : Env) : eval (.Call (.Attribute (.Call (.Name "super" p0) [] [] p1) "__init__" p2) args [] p3) env = (do
      let ov ← attributeBase (.Call (.Name "super" p0) [] [] p1) "__init__" env (eval (.Call (.Name "super" p0) [] [] p1) env)
      standAt p2.atName
      let (f, first) ← holding [ov] (getMethod ov "__init__" (plainOf (.Call (.Name "super" p0) [] [] p1) env))
      callWith p3 f first (backTo p3 (starEach args env)) []) :=
  congrArg (attributeBase (.Call (.Name "super" p0) [] [] p1) "__init__" env (eval (.Call (.Name "super" p0) [] [] p1) env) >>= ·) (funext fun ov => congrArg (standAt p2.atName >>= ·) (funext fun _ => mcall_line (hf env) hli))
theorem spI_len {C : Addr} {n : Nat} {fld : Str} : ∀ vs H Q E, spI C n fld vs H Q E → vs.length = n + 1 := fun vs H Q E ⟨a, ys, e, l, _⟩ => by rw [e, List.length_cons, l]
theorem xf_mk0 {x : String} {C : Addr} {st : Stmt} {p0 p1 p2 p3 p4 a1 a2 a3 a4 : Pos} {s : Str} {j} {ar : Arg} (KX : K.In h) (G : h.Ns mainGlobals mg) (A : XA P K x C st ["self"]) (hcl : cl x = some C) (su : PySem.W.nsIn K mainGlobals "super" = some none) (S : SScope ["self"] (defScope st))
    (nl : PySem.W.findIn K (.ref C) "label" = some none)
    (hbd : defBody st = [.Expr (.Call (.Attribute (.Call (.Name "super" p0) [] [] p1) "__init__" p2) [] [] p3) p4, .Assign [.Attribute (.Name "self" a1) "label" a2] (.Constant (.str s) j a3) a4])
    (hp : ((defArgs st).posonlyargs ++ (defArgs st).args).head? = some ar) (h0 : ar.arg = "self") (hli : (p2.endLine == p3.line) = true) {fld : Str} : XF P w K mg base cl x 0 fld := by
  obtain ⟨fI, fd, qual, cda, cc, iC, tI, si, b⟩ := A.si
  refine ⟨C, fI, fd, ["self"], PySem.W.mg_of KX G A.at_, hcl, A.oex, iC, tI, ?_, b⟩
  refine fn_super (k := 0) (si mg (PySem.W.mg_none_of KX G su)) hbd S spI_len hp (by rw [h0]; rfl) (fun _ => rfl) (plainOf (.Call (.Name "super" p0) [] [] p1)) (sup_line hli (fun _ => rfl)) tNil
    (tOst K "label" (tVar 0) (tC (.str s))) (fun A outer s H E => pk_nil) (fun A outer s2 H E => pss_one (ps_ost (pv 0 (hv := .inl (S.par _ (by simp)))) pe_str)) ?_
  rintro vs H Q E ⟨a, ys, rfl, hl, ha, k⟩
  cases ys with
  | cons y ys => cases hl
  | nil =>
    refine ⟨a, rfl, ha, by simp [sizeLine_eq], ha, .ref a, rfl, a, C, rfl, A.oex, nl, .inl ⟨ha, fun dx hn hne => ?_⟩⟩
    refine k dx [("label", .str s)] _ hn hne (fun y z => by cases z) upd_same ?_ (fun b hb hb2 => ?_)
    · rw [upd_ne hne, upd_same]
    · rw [upd_ne hb, upd_ne hb2]
theorem xf_mk1 {x : String} {C : Addr} {st : Stmt} {p0 p1 p2 p3 p4 a1 a2 a3 a4 b1 b2 b3 b4 b5 : Pos} {s : Str} {j} {ar : Arg} {fld : Str} (KX : K.In h) (G : h.Ns mainGlobals mg) (A : XA P K x C st ["self", fld]) (hcl : cl x = some C) (su : PySem.W.nsIn K mainGlobals "super" = some none) (S : SScope ["self", fld] (defScope st))
    (nl : PySem.W.findIn K (.ref C) "label" = some none) (nf : PySem.W.findIn K (.ref C) fld = some none)
    (hbd : defBody st = [.Expr (.Call (.Attribute (.Call (.Name "super" p0) [] [] p1) "__init__" p2) [.Name fld b1] [] p3) p4, .Assign [.Attribute (.Name "self" a1) "label" a2] (.Constant (.str s) j a3) a4, .Assign [.Attribute (.Name "self" b2) fld b3] (.Name fld b4) b5])
    (hp : ((defArgs st).posonlyargs ++ (defArgs st).args).head? = some ar) (h0 : ar.arg = "self") (hli : (p2.endLine == p3.line) = true) (hd : (fld == ("__debug__" : Str)) = false := by decide) (hcd : (fld == ("__classdict__" : Str)) = false := by decide) : XF P w K mg base cl x 1 fld := by
  obtain ⟨fI, fd, qual, cda, cc, iC, tI, si, b⟩ := A.si
  refine ⟨C, fI, fd, ["self", fld], PySem.W.mg_of KX G A.at_, hcl, A.oex, iC, tI, ?_, b⟩
  have v0 := S.par "self" (by simp)
  have v1 := S.par fld (by simp)
  refine fn_super (k := 0) (si mg (PySem.W.mg_none_of KX G su)) hbd S spI_len hp (by rw [h0]; rfl) (fun _ => rfl) (plainOf (.Call (.Name "super" p0) [] [] p1)) (sup_line hli (fun _ => rfl)) (tCons (tVar 1) tNil)
    (tSeq (tOst K "label" (tVar 0) (tC (.str s))) (tOst K fld (tVar 0) (tVar 1))) (fun A outer s H E => pk_cons (pa_cons (pv 1 (hv := .inl v1) (hd := hd) (hcd := hcd)) pa_nil) rfl (fun _ => rfl)) (fun A outer s2 H E => pss_cons (ps_ost (pv 0 (hv := .inl v0)) pe_str) (pss_one (ps_ost (pv 0 (hv := .inl v0)) (pv 1 (hv := .inl v1) (hd := hd) (hcd := hcd))))) ?_
  rintro vs H Q E ⟨a, ys, rfl, hl, ha, k⟩
  match ys, hl with
  | [y], _ =>
    refine ⟨a, rfl, ha, y, rfl, by simp [sizeLine_eq], ha, .ref a, rfl, a, C, rfl, A.oex, nl, .inl ⟨ha, fun dx hn hne => ?_⟩⟩
    refine ⟨y, rfl, .ref a, rfl, a, C, rfl, A.oex, nf, .inr ⟨dx, [("label", .str s)], upd_same, by rw [upd_ne hne, upd_same], by simp, ?_⟩⟩
    refine k dx ((fld, y) :: [("label", .str s)]) _ hn hne (fun y' z => ?_) ?_ upd_same (fun b hb hb2 => ?_)
    · cases z; simp [List.lookup]
    · rw [upd_ne (Ne.symm hne), upd_same]
    · rw [upd_ne hb2, upd_ne hb, upd_ne hb2]
/-- which clause catches what, from the written part -/
theorem exm_of {C C' : Addr} {b : Bool} (h1 : PySem.W.subIn K (.ref C') (.type "BaseException") = some true) (h2 : PySem.W.isClsIn K C' = true) (h3 : PySem.W.typeIn K (.ref C') = some (.type "type")) (h4 : PySem.W.subIn K (.ref C) (.ref C') = some b) :
    PySem.W.exmOne K (.ref C) (.ref C') = some b := by
  have e1 : (PySem.W.subIn K (.ref C') (.type "BaseException") == some true) = true := by rw [h1] <;> rfl
  have e2 : ((PySem.W.clsIn K C').isSome && PySem.W.typeIn K (.ref C') == some (.type "type")) = true := by
    have h2' : (PySem.W.clsIn K C').isSome = true := h2
    rw [h2', h3] <;> rfl
  show (if (PySem.W.subIn K (.ref C') (.type "BaseException") == some true) = true then (if ((PySem.W.clsIn K C').isSome && PySem.W.typeIn K (.ref C') == some (.type "type")) = true then PySem.W.subIn K (.ref C) (.ref C') else none) else none) = some b
  rw [if_pos e1, if_pos e2]
  exact h4
theorem def_D2 {x qual : Str} {st : Stmt} {f : Addr} {fd : FuncData} {N ps : List Str} {k kp n : Nat} {body : ST} (F : Fun K x qual st f fd) (S : FnScope N ps (defScope st)) (hps : kp = ps.length) (hn : n = N.length) (hm : mg x = some (.ref f)) (b : Binds K fd ps []) (hk : Room (k + 1) PySem.callerA)
    (hb : ∀ (cdv : Value) (A : Around) (outer : List Env) (s : Shared) (H : Hp) (E : XK), Room k (A.deeper (PyProof.Rows.envOfC qual (defScope st) s.heap.objs.size f cdv)) →
      Takes (cxOf (L2.CX P w) P w K mg base N qual (defScope st) f cdv A outer s H E) (fun cls d _ H' => E cls d H') →
      PassesOwn (model P w) (A.deeper (PyProof.Rows.envOfC qual (defScope st) s.heap.objs.size f cdv)) (PyProof.Rows.envOfC qual (defScope st) s.heap.objs.size f cdv) (cxOf (L2.CX P w) P w K mg base N qual (defScope st) f cdv A outer s H E).xe →
      DSs (cxOf (L2.CX P w) P w K mg base N qual (defScope st) f cdv A outer s H E) ⟨H, cl⟩ (fun cls d _ H' => E cls d H') (defBody st) body) : FnOk P w K mg base (L2.CX P w) (k + 1) f fd ps (spD K cl (sem kp n body)) ∧ MonoG (sem kp n body) := by
  have mono : MonoS body := (hb .none PySem.callerA [] ({} : Shared) (fun _ => none) (fun _ _ _ => False) (hk.deeper _) (takes_of rfl rfl rfl rfl) (passes_of rfl)).mono
  exact ⟨fn_D F S hps hn hb mono, mono_sem mono⟩
theorem law_got {P : Program} {lvl : Nat} {sp : Sp} {fa : Addr} (hmg : mg "law" = some (.ref fa)) (h : ∃ fd : FuncData, ∃ fa : Addr, mg "law" = some (.ref fa) ∧ (∀ (s : Shared) (u : Value), BindsTo s fd ⟨[u], []⟩ [("script", u)]) ∧ ∀ base : Heap, K.In base → base.Ns mainGlobals mg → FnOk P w K mg base (L2.CX P w) lvl fa fd ["script"] sp) :
    ∃ fd : FuncData, (∀ (s : Shared) (u : Value), BindsTo s fd ⟨[u], []⟩ [("script", u)]) ∧ ∀ base : Heap, K.In base → base.Ns mainGlobals mg → FnOk P w K mg base (L2.CX P w) lvl fa fd ["script"] sp := by
  obtain ⟨fd, fb, e, h⟩ := h
  cases hmg.symm.trans e
  exact ⟨fd, h⟩
theorem reps_ints (F : Hp) : ∀ ns : List Int, Reps K F (ns.map V.int) (ns.map PySem.PyData.int)
  | [] => .nil
  | n :: ns => .cons (.int n) (reps_ints F ns)
theorem law_start {H : Hp} {a : Addr} {ns : List Int} {G : DSp} (hS : SqL K H a (ns.map V.int)) (h : ∀ (KK : D → Prop) (X : KX), KK (.bool true) → G [.list (ns.map .int)] KK X) : spD K cl G [.ref a] H (fun v _ => v = .bl true) fun _ _ _ => False := by
  refine ⟨[.list (ns.map .int)], H, fun _ _ e => e, .cons (.lst hS (reps_ints H ns)) .nil, h _ _ fun v F' H' _ _ r => ?_⟩
  exact r.bool_inv
end
end Rw

set_option linter.all false
namespace Rw
open PySem
def k_BASES : D := .tuple [.int 2, .int 3, .int 5, .int 7, .int 11, .int 13, .int 17, .int 19, .int 23, .int 29, .int 31, .int 37, .int 41, .int 43, .int 47, .int 53, .int 59, .int 61, .int 67, .int 71]
def d_check_between : ST := (sIf (tNot (tV (eChn oLe oLe (eV 1) (eV 0) (eV 2))))
    (sRaise1 "OutOfRange" "value" (eV 0))
    sNil)
@[irreducible] def G_check_between : DSp := sem 3 3 d_check_between

def d_check_from : ST := (sIf (tV (e2 oLt (eV 0) (eV 1)))
    (sRaise1 "OutOfRange" "value" (eV 0))
    sNil)
@[irreducible] def G_check_from : DSp := sem 2 2 d_check_from

def d_to_power : ST := (sSeq (sSet 2 (eI 1))
    (sSeq (sSet 3 (eV 0))
    (sSeq (sSet 4 (eV 1))
    (sSeq (sWhile (tV (e2 oGt (eV 4) (eI 0)))
    (sSeq (sIf (tV (e2 oEq (e2 oMod (eV 4) (eI 2)) (eI 1)))
    (sAug 2 oMul (eV 3))
    sNil)
    (sSeq (sAug 3 oMul (eV 3))
    (sAug 4 oDiv (eI 2)))))
    (sRet (eV 2))))))
@[irreducible] def G_to_power : DSp := sem 2 5 d_to_power

def d_sign_of : ST := (sRet (e2 oSub (e2 oGt (eV 0) (eI 0)) (e2 oLt (eV 0) (eI 0))))
@[irreducible] def G_sign_of : DSp := sem 1 1 d_sign_of

def d_common : ST := (sSeq (sPar [0, 1] (aCons (e1 oAbs (eV 0)) (aCons (e1 oAbs (eV 1)) aNil)))
    (sSeq (sWhile (tV (e2 oGt (eV 1) (eI 0)))
    (sPar [0, 1] (aCons (eV 1) (aCons (e2 oMod (eV 0) (eV 1)) aNil))))
    (sRet (eV 0))))
@[irreducible] def G_common : DSp := sem 2 2 d_common

def d_common_of : ST := (sSeq (sSet 1 (eI 0))
    (sSeq (sFor (iE (eV 0)) (gN 2)
    (sSet 1 (eCall G_common (aCons (eV 1) (aCons (eV 2) aNil)))))
    (sRet (eV 1))))
@[irreducible] def G_common_of : DSp := sem 1 3 d_common_of

def d_multiple : ST := (sRet (eIf (tOr (tV (e2 oEq (eV 0) (eI 0))) (tV (e2 oEq (eV 1) (eI 0)))) (eI 0) (e2 oDiv (e1 oAbs (e2 oMul (eV 0) (eV 1))) (eCall G_common (aCons (eV 0) (aCons (eV 1) aNil))))))
@[irreducible] def G_multiple : DSp := sem 2 2 d_multiple

def d_bezout : ST := (sSeq (sPar [2, 3] (aCons (eTup (aCons (eV 0) (aCons (eI 1) (aCons (eI 0) aNil)))) (aCons (eTup (aCons (eV 1) (aCons (eI 0) (aCons (eI 1) aNil)))) aNil)))
    (sSeq (sWhile (tV (e2 oNe (e2 oIx (eV 3) (eI 0)) (eI 0)))
    (sSeq (sSet 4 (e2 oDiv (e2 oIx (eV 2) (eI 0)) (e2 oIx (eV 3) (eI 0))))
    (sPar [2, 3] (aCons (eV 3) (aCons (e1 oTupOf (eComp (iZip (eV 2) (eV 3)) [5, 6] (gT [(gN 5), (gN 6)]) tY (e2 oSub (eV 5) (e2 oMul (eV 4) (eV 6))))) aNil)))))
    (sRet (eIf (tV (e2 oGe (e2 oIx (eV 2) (eI 0)) (eI 0))) (eV 2) (e1 oTupOf (eComp (iE (eV 2)) [5] (gN 5) tY (e1 oNeg (eV 5))))))))
@[irreducible] def G_bezout : DSp := sem 2 7 d_bezout

def d_power_mod : ST := (sSeq (sSet 3 (e2 oMod (eI 1) (eV 2)))
    (sSeq (sAug 0 oMod (eV 2))
    (sSeq (sWhile (tV (e2 oGt (eV 1) (eI 0)))
    (sSeq (sIf (tV (e2 oEq (e2 oMod (eV 1) (eI 2)) (eI 1)))
    (sSet 3 (e2 oMod (e2 oMul (eV 3) (eV 0)) (eV 2)))
    sNil)
    (sSeq (sSet 0 (e2 oMod (e2 oMul (eV 0) (eV 0)) (eV 2)))
    (sAug 1 oDiv (eI 2)))))
    (sRet (eV 3)))))
@[irreducible] def G_power_mod : DSp := sem 3 4 d_power_mod

def d_times_of : ST := (sSeq (sSet 2 (eI 0))
    (sSeq (sWhile (tV (e2 oEq (e2 oMod (eV 0) (eV 1)) (eI 0)))
    (sSeq (sAug 0 oDiv (eV 1))
    (sAug 2 oAdd (eI 1))))
    (sRet (eV 2))))
@[irreducible] def G_times_of : DSp := sem 2 3 d_times_of

def d_root_of_power : ST := (sSeq (sIf (tV (e2 oLt (eV 0) (eI 2)))
    (sRet (eV 0))
    sNil)
    (sSeq (sGet (gT [(gN 2), (gN 3)]) (eTup (aCons (eI 1) (aCons (eI 2) aNil))))
    (sSeq (sWhile (tV (e2 oLe (eCall G_to_power (aCons (eV 3) (aCons (eV 1) aNil))) (eV 0)))
    (sPar [2, 3] (aCons (eV 3) (aCons (e2 oMul (eI 2) (eV 3)) aNil))))
    (sSeq (sWhile (tV (e2 oGt (e2 oSub (eV 3) (eV 2)) (eI 1)))
    (sSeq (sSet 4 (e2 oDiv (e2 oAdd (eV 2) (eV 3)) (eI 2)))
    (sIf (tV (e2 oLe (eCall G_to_power (aCons (eV 4) (aCons (eV 1) aNil))) (eV 0)))
    (sSet 2 (eV 4))
    (sSet 3 (eV 4)))))
    (sRet (eV 2))))))
@[irreducible] def G_root_of_power : DSp := sem 2 5 d_root_of_power

def d_square_root : ST := (sRet (eCall G_root_of_power (aCons (eV 0) (aCons (eI 2) aNil))))
@[irreducible] def G_square_root : DSp := sem 1 1 d_square_root

def d_is_square_number : ST := (sRet (eAnd (e2 oGe (eV 0) (eI 0)) (e2 oEq (e2 oPow (eCall G_square_root (aCons (eV 0) aNil)) (eI 2)) (eV 0))))
@[irreducible] def G_is_square_number : DSp := sem 1 1 d_is_square_number

def d_is_strong : ST := (sSeq (sSet 2 (eCall G_times_of (aCons (e2 oSub (eV 0) (eI 1)) (aCons (eI 2) aNil))))
    (sSeq (sSet 3 (eCall G_power_mod (aCons (eV 1) (aCons (e2 oDiv (e2 oSub (eV 0) (eI 1)) (eCall G_to_power (aCons (eI 2) (aCons (eV 2) aNil)))) (aCons (eV 0) aNil)))))
    (sSeq (sIf (tV (e2 oIn (eV 3) (eTup (aCons (eI 1) (aCons (e2 oSub (eV 0) (eI 1)) aNil)))))
    (sRet eT)
    sNil)
    (sSeq (sFor (iR1 (e2 oSub (eV 2) (eI 1))) (gN 4)
    (sSeq (sSet 3 (e2 oMod (e2 oMul (eV 3) (eV 3)) (eV 0)))
    (sIf (tV (e2 oEq (eV 3) (e2 oSub (eV 0) (eI 1))))
    (sRet eT)
    sNil)))
    (sRet eF)))))
@[irreducible] def G_is_strong : DSp := sem 2 5 d_is_strong

def d_is_prime_number : ST := (sSeq (sIf (tV (e2 oLt (eV 0) (eI 2)))
    (sRet eF)
    sNil)
    (sSeq (sFor (iE (eC k_BASES)) (gN 1)
    (sIf (tV (e2 oEq (e2 oMod (eV 0) (eV 1)) (eI 0)))
    (sRet (e2 oEq (eV 0) (eV 1)))
    sNil))
    (sSeq (sIf (tV (e2 oLt (eV 0) (e2 oMul (eI 73) (eI 73))))
    (sRet eT)
    sNil)
    (sRet (e2 oNotIn eF (eComp (iE (eC k_BASES)) [1] (gN 1) tY (eCall G_is_strong (aCons (eV 0) (aCons (eV 1) aNil)))))))))
@[irreducible] def G_is_prime_number : DSp := sem 1 2 d_is_prime_number

def d_parted : ST := (sSeq (sIf (tV (e2 oGt (eV 0) (eI 1000000000000)))
    (sRaise0 "TooLarge")
    sNil)
    (sSeq (sOwn 1 (eLst aNil))
    (sSeq (sSet 2 (eI 2))
    (sSeq (sWhile (tV (e2 oLe (e2 oMul (eV 2) (eV 2)) (eV 0)))
    (sSeq (sIf (tV (e2 oEq (e2 oMod (eV 0) (eV 2)) (eI 0)))
    (sSeq (sSet 3 (eCall G_times_of (aCons (eV 0) (aCons (eV 2) aNil))))
    (sSeq (sApp 1 (eTup (aCons (eV 2) (aCons (eV 3) aNil))))
    (sSeq (sAug 0 oDiv (eCall G_to_power (aCons (eV 2) (aCons (eV 3) aNil))))
    (sIf (tAnd (tV (e2 oGt (eV 0) (e2 oPow (eI 10) (eI 6)))) (tV (eCall G_is_prime_number (aCons (eV 0) aNil))))
    sBrk
    sNil))))
    sNil)
    (sAug 2 oAdd (eIf (tV (e2 oEq (eV 2) (eI 2))) (eI 1) (eI 2)))))
    (sSeq (sIf (tV (e2 oGt (eV 0) (eI 1)))
    (sApp 1 (eTup (aCons (eV 0) (aCons (eI 1) aNil))))
    sNil)
    (sFrz 1 (sRet (eV 1))))))))
@[irreducible] def G_parted : DSp := sem 1 4 d_parted

def d_lowest : ST := (sSeq (sSet 2 (eCall G_common (aCons (eV 0) (aCons (eV 1) aNil))))
    (sSeq (sIf (tV (e2 oLt (eV 1) (eI 0)))
    (sSet 2 (e1 oNeg (eV 2)))
    sNil)
    (sRet (eTup (aCons (e2 oDiv (eV 0) (eV 2)) (aCons (e2 oDiv (eV 1) (eV 2)) aNil))))))
@[irreducible] def G_lowest : DSp := sem 2 3 d_lowest

def d_is_ratio : ST := (sSeq (sIf (tOr (tNot (tV (e1 (oIsi isTup) (eV 0)))) (tV (e2 oNe (e1 oLen (eV 0)) (eI 2))))
    (sRet eF)
    sNil)
    (sSeq (sIf (tV (e2 oIn eF (eComp (iE (eV 0)) [1] (gN 1) tY (e1 (oIsi isInt) (eV 1)))))
    (sRet eF)
    sNil)
    (sRet (eAnd (e2 oGt (e2 oIx (eV 0) (eI 1)) (eI 0)) (e2 oEq (eCall G_common (aCons (e2 oIx (eV 0) (eI 0)) (aCons (e2 oIx (eV 0) (eI 1)) aNil))) (eI 1))))))
@[irreducible] def G_is_ratio : DSp := sem 1 2 d_is_ratio

def d_check_ratio : ST := (sIf (tNot (tV (eCall G_is_ratio (aCons (eV 0) aNil))))
    (sRaise0 "BadRatio")
    sNil)
@[irreducible] def G_check_ratio : DSp := sem 1 1 d_check_ratio

def d_plus : ST := (sRet (eCall G_lowest (aCons (e2 oAdd (e2 oMul (e2 oIx (eV 0) (eI 0)) (e2 oIx (eV 1) (eI 1))) (e2 oMul (e2 oIx (eV 1) (eI 0)) (e2 oIx (eV 0) (eI 1)))) (aCons (e2 oMul (e2 oIx (eV 0) (eI 1)) (e2 oIx (eV 1) (eI 1))) aNil))))
@[irreducible] def G_plus : DSp := sem 2 2 d_plus

def d_by : ST := (sRet (eCall G_lowest (aCons (e2 oMul (e2 oIx (eV 0) (eI 0)) (e2 oIx (eV 1) (eI 0))) (aCons (e2 oMul (e2 oIx (eV 0) (eI 1)) (e2 oIx (eV 1) (eI 1))) aNil))))
@[irreducible] def G_by : DSp := sem 2 2 d_by

def d_is_below : ST := (sRet (e2 oLt (e2 oMul (e2 oIx (eV 0) (eI 0)) (e2 oIx (eV 1) (eI 1))) (e2 oMul (e2 oIx (eV 1) (eI 0)) (e2 oIx (eV 0) (eI 1)))))
@[irreducible] def G_is_below : DSp := sem 2 2 d_is_below

def d_divide : ST := (sSeq (sIf (tV (e2 oEq (eV 1) (eI 0)))
    (sRaise0 "NoDivision")
    sNil)
    (sSeq (sSet 2 (e2 oMod (eV 0) (e1 oAbs (eV 1))))
    (sRet (eTup (aCons (e2 oDiv (e2 oSub (eV 0) (eV 2)) (eV 1)) (aCons (eV 2) aNil))))))
@[irreducible] def G_divide : DSp := sem 2 3 d_divide

def d_divides : ST := (sRet (eIf (tV (e2 oEq (eV 0) (eI 0))) (e2 oEq (eV 1) (eI 0)) (e2 oEq (e2 oMod (eV 1) (eV 0)) (eI 0))))
@[irreducible] def G_divides : DSp := sem 2 2 d_divides

def d_gcd : ST := (sRet (eCall G_common (aCons (eV 0) (aCons (eV 1) aNil))))
@[irreducible] def G_gcd : DSp := sem 2 2 d_gcd

def d_gcd_paper : ST := (sSeq (sIf (tV (e2 oEq (eV 1) (eI 0)))
    (sRet (eTup (aCons (e1 oAbs (eV 0)) (aCons (eCall G_sign_of (aCons (eV 0) aNil)) (aCons (eI 0) aNil)))))
    sNil)
    (sSeq (sSet 2 (eCall G_common (aCons (eV 0) (aCons (eV 1) aNil))))
    (sSeq (sSet 3 (e2 oDiv (e1 oAbs (eV 1)) (eV 2)))
    (sSeq (sSet 4 (e2 oMod (e2 oIx (eCall G_bezout (aCons (e2 oDiv (eV 0) (eV 2)) (aCons (eV 3) aNil))) (eI 1)) (eV 3)))
    (sRet (eTup (aCons (eV 2) (aCons (eV 4) (aCons (e2 oDiv (e2 oSub (eV 2) (e2 oMul (eV 4) (eV 0))) (eV 1)) aNil)))))))))
@[irreducible] def G_gcd_paper : DSp := sem 2 5 d_gcd_paper

def d_gcd_steps : ST := (sSeq (sIf (tV (e2 oEq (eV 1) (eI 0)))
    (sRaise0 "NoDivision")
    sNil)
    (sSeq (sOwn 2 (eLst aNil))
    (sSeq (sWhile (tV (e2 oNe (eV 1) (eI 0)))
    (sSeq (sGet (gT [(gN 3), (gN 4)]) (eCall G_divide (aCons (eV 0) (aCons (eV 1) aNil))))
    (sSeq (sApp 2 (eV 3))
    (sPar [0, 1] (aCons (eV 1) (aCons (eV 4) aNil))))))
    (sFrz 2 (sRet (eV 2))))))
@[irreducible] def G_gcd_steps : DSp := sem 2 5 d_gcd_steps

def d_gcd_of : ST := (sRet (eCall G_common_of (aCons (eV 0) aNil)))
@[irreducible] def G_gcd_of : DSp := sem 1 1 d_gcd_of

def d_lcm_of : ST := (sSeq (sSet 1 (eI 1))
    (sSeq (sFor (iE (eV 0)) (gN 2)
    (sSet 1 (eCall G_multiple (aCons (eV 1) (aCons (eV 2) aNil)))))
    (sRet (eV 1))))
@[irreducible] def G_lcm_of : DSp := sem 1 3 d_lcm_of

def d_gcd_row : ST := (sSeq (sSet 1 (eLst aNil))
    (sSeq (sSet 2 (eI 0))
    (sSeq (sFor (iE (eV 0)) (gN 3)
    (sSeq (sGet (gT [(gN 2), (gN 4), (gN 5)]) (eCall G_bezout (aCons (eV 2) (aCons (eV 3) aNil))))
    (sSet 1 (e2 oCat (eComp (iE (eV 1)) [6] (gN 6) tY (e2 oMul (eV 6) (eV 4))) (eLst (aCons (eV 5) aNil))))))
    (sRet (eV 1)))))
@[irreducible] def G_gcd_row : DSp := sem 1 7 d_gcd_row

def d_digits : ST := (sSeq (sExp (eCall G_check_from (aCons (eV 0) (aCons (eI 0) aNil))))
    (sSeq (sExp (eCall G_check_between (aCons (eV 1) (aCons (eI 2) (aCons (eI 100) aNil)))))
    (sSeq (sOwn 2 (eLst aNil))
    (sSeq (sWhile (tV (e2 oGt (eV 0) (eI 0)))
    (sSeq (sApp 2 (e2 oMod (eV 0) (eV 1)))
    (sAug 0 oDiv (eV 1))))
    (sFrz 2 (sRet (eV 2)))))))
@[irreducible] def G_digits : DSp := sem 2 3 d_digits

def d_from_digits : ST := (sSeq (sExp (eCall G_check_between (aCons (eV 1) (aCons (eI 2) (aCons (eI 100) aNil)))))
    (sSeq (sSet 2 (eI 0))
    (sSeq (sFor (iE (eV 0)) (gN 3)
    (sExp (eCall G_check_between (aCons (eV 3) (aCons (eI 0) (aCons (e2 oSub (eV 1) (eI 1)) aNil))))))
    (sSeq (sFor (iE (eRev (eV 0))) (gN 3)
    (sSet 2 (e2 oAdd (e2 oMul (eV 2) (eV 1)) (eV 3))))
    (sRet (eV 2))))))
@[irreducible] def G_from_digits : DSp := sem 2 4 d_from_digits

def d_times_in : ST := (sSeq (sIf (tV (e2 oEq (eV 0) (eI 0)))
    (sRaise1 "OutOfRange" "value" (eV 0))
    sNil)
    (sSeq (sExp (eCall G_check_from (aCons (eV 1) (aCons (eI 2) aNil))))
    (sRet (eCall G_times_of (aCons (eV 0) (aCons (eV 1) aNil))))))
@[irreducible] def G_times_in : DSp := sem 2 2 d_times_in

def d_root_below : ST := (sSeq (sExp (eCall G_check_from (aCons (eV 0) (aCons (eI 0) aNil))))
    (sSeq (sExp (eCall G_check_between (aCons (eV 1) (aCons (eI 1) (aCons (eI 60) aNil)))))
    (sRet (eCall G_root_of_power (aCons (eV 0) (aCons (eV 1) aNil))))))
@[irreducible] def G_root_below : DSp := sem 2 2 d_root_below

def d_power_form : ST := (sSeq (sExp (eCall G_check_from (aCons (eV 0) (aCons (eI 2) aNil))))
    (sSeq (sSet 1 (eI 1))
    (sSeq (sWhile (tV (e2 oLe (eCall G_to_power (aCons (eI 2) (aCons (e2 oAdd (eV 1) (eI 1)) aNil))) (eV 0)))
    (sAug 1 oAdd (eI 1)))
    (sSeq (sWhile (tV (e2 oNe (eCall G_to_power (aCons (eCall G_root_of_power (aCons (eV 0) (aCons (eV 1) aNil))) (aCons (eV 1) aNil))) (eV 0)))
    (sAug 1 oSubI (eI 1)))
    (sRet (eTup (aCons (eCall G_root_of_power (aCons (eV 0) (aCons (eV 1) aNil))) (aCons (eV 1) aNil))))))))
@[irreducible] def G_power_form : DSp := sem 1 2 d_power_form

def d_is_square : ST := (sRet (eCall G_is_square_number (aCons (eV 0) aNil)))
@[irreducible] def G_is_square : DSp := sem 1 1 d_is_square

def d_square_part : ST := (sSeq (sIf (tV (e2 oEq (eV 0) (eI 0)))
    (sRaise1 "OutOfRange" "value" (eV 0))
    sNil)
    (sSeq (sPar [1, 2] (aCons (eI 1) (aCons (eCall G_sign_of (aCons (eV 0) aNil)) aNil)))
    (sSeq (sFor (iE (eCall G_parted (aCons (e1 oAbs (eV 0)) aNil))) (gT [(gN 3), (gN 4)])
    (sSeq (sAug 1 oMul (eCall G_to_power (aCons (eV 3) (aCons (e2 oDiv (eV 4) (eI 2)) aNil))))
    (sAug 2 oMul (eCall G_to_power (aCons (eV 3) (aCons (e2 oMod (eV 4) (eI 2)) aNil))))))
    (sRet (eTup (aCons (eV 1) (aCons (eV 2) aNil)))))))
@[irreducible] def G_square_part : DSp := sem 1 5 d_square_part

def d_ratio_sum : ST := (sSeq (sExp (eCall G_check_ratio (aCons (eV 0) aNil)))
    (sSeq (sExp (eCall G_check_ratio (aCons (eV 1) aNil)))
    (sRet (eCall G_plus (aCons (eV 0) (aCons (eV 1) aNil))))))
@[irreducible] def G_ratio_sum : DSp := sem 2 2 d_ratio_sum

def d_ratio_times : ST := (sSeq (sExp (eCall G_check_ratio (aCons (eV 0) aNil)))
    (sSeq (sExp (eCall G_check_ratio (aCons (eV 1) aNil)))
    (sRet (eCall G_by (aCons (eV 0) (aCons (eV 1) aNil))))))
@[irreducible] def G_ratio_times : DSp := sem 2 2 d_ratio_times

def d_ratio_below : ST := (sSeq (sExp (eCall G_check_ratio (aCons (eV 0) aNil)))
    (sSeq (sExp (eCall G_check_ratio (aCons (eV 1) aNil)))
    (sRet (eCall G_is_below (aCons (eV 0) (aCons (eV 1) aNil))))))
@[irreducible] def G_ratio_below : DSp := sem 2 2 d_ratio_below

def d_check_gcd : ST := (sSeq (sIf (tOr (tNot (tV (e1 (oIsi isLst) (eV 1)))) (tOr (tV (e2 oNe (e1 oLen (eV 1)) (e1 oLen (eV 0)))) (tV (e2 oLt (eV 2) (eI 0)))))
    (sRet eF)
    sNil)
    (sSeq (sIf (tV (e2 oIn eF (eComp (iE (eV 0)) [3] (gN 3) tY (eIf (tV (e2 oEq (eV 2) (eI 0))) (e2 oEq (eV 3) (eI 0)) (e2 oEq (e2 oMod (eV 3) (eV 2)) (eI 0))))))
    (sRet eF)
    sNil)
    (sRet (e2 oEq (e1 oSum (eComp (iZip (eV 0) (eV 1)) [4, 5] (gT [(gN 4), (gN 5)]) tY (e2 oMul (eV 4) (eV 5)))) (eV 2)))))
@[irreducible] def G_check_gcd : DSp := sem 3 6 d_check_gcd

def d__law_cell : ST := (sSeq (sIf (tV (e2 oLt (eV 1) (e1 oLen (eV 0))))
    (sRet (e2 oIx (eV 0) (eV 1)))
    sNil)
    (sRet (eI 0)))
@[irreducible] def G__law_cell : DSp := sem 2 2 d__law_cell

def d__law_draw : ST := (sSeq (sOwn 2 (eLst aNil))
    (sSeq (sSet 3 (e1 oAbs (eV 0)))
    (sSeq (sSet 4 (e2 oGe (eV 3) (eI 1000000000000000000)))
    (sSeq (sFor (iR1 (e1 oLen (eV 1))) (gN 5)
    (sIf (tAnd (tV (eV 4)) (tV (e2 oGe (eV 3) (e2 oIx (eV 1) (eV 5)))))
    (sSeq (sApp 2 (e2 oMod (e1 oInt (eV 3)) (e2 oIx (eV 1) (eV 5))))
    (sSet 3 (e2 oDiv (eV 3) (e2 oIx (eV 1) (eV 5)))))
    (sSeq (sSet 6 (e2 oMod (e1 oInt (e2 oAdd (e2 oMul (e1 oAbs (eV 0)) (eI 48271)) (e2 oMul (e2 oAdd (eV 5) (eI 1)) (eI 69621)))) (eI 2147483647)))
    (sSeq (sSet 6 (e2 oMod (e1 oInt (e2 oAdd (e2 oMul (eV 6) (e2 oAdd (e2 oAdd (eV 6) (e2 oMul (eI 2) (eV 5))) (eI 1))) (eI 40692))) (eI 2147483399)))
    (sSeq (sSet 6 (e2 oMod (e1 oInt (e2 oAdd (e2 oMul (eV 6) (eI 16807)) (e2 oMul (e2 oAdd (eV 5) (eI 1)) (eI 40692)))) (eI 2147483399)))
    (sApp 2 (e2 oMod (e1 oInt (eV 6)) (e2 oIx (eV 1) (eV 5)))))))))
    (sFrz 2 (sRet (eV 2)))))))
@[irreducible] def G__law_draw : DSp := sem 2 7 d__law_draw

def d__law_gcd : ST := (sSeq (sSet 0 (e1 oAbs (eV 0)))
    (sSeq (sSet 1 (e1 oAbs (eV 1)))
    (sSeq (sFor (iR1 (eI 400)) (gN 2)
    (sIf (tV (e2 oNe (eV 1) (eI 0)))
    (sSeq (sSet 3 (e2 oMod (e1 oInt (eV 0)) (e1 oInt (eV 1))))
    (sSeq (sSet 0 (eV 1))
    (sSet 1 (eV 3))))
    sNil))
    (sRet (eV 0)))))
@[irreducible] def G__law_gcd : DSp := sem 2 4 d__law_gcd

def d__law_ratio : ST := (sSeq (sSet 2 (eCall G__law_gcd (aCons (eV 0) (aCons (eV 1) aNil))))
    (sSeq (sIf (tV (e2 oLt (eV 1) (eI 0)))
    (sSet 2 (e1 oNeg (eV 2)))
    sNil)
    (sRet (eTup (aCons (e2 oDiv (eV 0) (eV 2)) (aCons (e2 oDiv (eV 1) (eV 2)) aNil))))))
@[irreducible] def G__law_ratio : DSp := sem 2 3 d__law_ratio

def d__law_told : ST := (sTry (sSeq (sIf (tV (e2 oEq (eV 0) (eI 0)))
    (sRet (eTup (aCons (eS "value") (aCons (eCall G_divide (aCons (eV 1) (aCons (eV 2) aNil))) aNil))))
    sNil)
    (sSeq (sIf (tV (e2 oEq (eV 0) (eI 1)))
    (sRet (eTup (aCons (eS "value") (aCons (eCall G_digits (aCons (eV 1) (aCons (eV 2) aNil))) aNil))))
    sNil)
    (sSeq (sIf (tV (e2 oEq (eV 0) (eI 2)))
    (sRet (eTup (aCons (eS "value") (aCons (eCall G_root_below (aCons (eV 1) (aCons (eV 2) aNil))) aNil))))
    sNil)
    (sSeq (sIf (tV (e2 oEq (eV 0) (eI 3)))
    (sRet (eTup (aCons (eS "value") (aCons (eCall G_ratio_sum (aCons (eV 1) (aCons (eV 2) aNil))) aNil))))
    sNil)
    (sSeq (sIf (tV (e2 oEq (eV 0) (eI 4)))
    (sRet (eTup (aCons (eS "value") (aCons (eCall G_from_digits (aCons (eV 1) (aCons (eV 2) aNil))) aNil))))
    sNil)
    (sRet (eTup (aCons (eS "value") (aCons (eCall G_power_form (aCons (eV 1) aNil)) aNil))))))))) [("NoDivision", fun _ => (sRet (eTup (aCons (eS "none") (aCons (eI 0) aNil))))), ("OutOfRange", sHRet 3 (Str.ofString "range") "value"), ("BadRatio", fun _ => (sRet (eTup (aCons (eS "ratio") (aCons (eI 0) aNil))))), ("RingError", fun _ => (sRet (eTup (aCons (eS "other") (aCons (eI 0) aNil)))))])
@[irreducible] def G__law_told : DSp := sem 3 4 d__law_told

def d__law_divide : ST := (sSeq (sSet 2 (e2 oMod (e1 oInt (eV 0)) (e1 oAbs (eV 1))))
    (sRet (eTup (aCons (e2 oDiv (e2 oSub (eV 0) (eV 2)) (eV 1)) (aCons (eV 2) aNil)))))
@[irreducible] def G__law_divide : DSp := sem 2 3 d__law_divide

def d__law_pair : ST := (sSeq (sIf (tV (e2 oNe (eV 1) (eI 0)))
    (sSeq (sSet 2 (eCall G__law_divide (aCons (eV 0) (aCons (eV 1) aNil))))
    (sSeq (sIf (tV (e2 oNe (e1 oTupOf (eCall G_divide (aCons (eV 0) (aCons (eV 1) aNil)))) (eV 2)))
    (sRet eF)
    sNil)
    (sSeq (sOwn 3 (eLst aNil))
    (sSeq (sSet 4 (eTup (aCons (eV 0) (aCons (eV 1) aNil))))
    (sSeq (sFor (iR1 (eI 40)) (gN 5)
    (sIf (tV (e2 oNe (e2 oIx (eV 4) (eI 1)) (eI 0)))
    (sSeq (sSet 6 (eCall G__law_divide (aCons (e2 oIx (eV 4) (eI 0)) (aCons (e2 oIx (eV 4) (eI 1)) aNil))))
    (sSeq (sApp 3 (e2 oIx (eV 6) (eI 0)))
    (sSet 4 (eTup (aCons (e2 oIx (eV 4) (eI 1)) (aCons (e2 oIx (eV 6) (eI 1)) aNil))))))
    sNil))
    (sIf (tV (e2 oNe (eCall G_gcd_steps (aCons (eV 0) (aCons (eV 1) aNil))) (eB 3)))
    (sRet eF)
    sNil))))))
    sNil)
    (sSeq (sSet 7 (eCall G__law_gcd (aCons (eV 0) (aCons (eV 1) aNil))))
    (sSeq (sSet 8 (eCall G_gcd_paper (aCons (eV 0) (aCons (eV 1) aNil))))
    (sSeq (sIf (tOr (tV (e2 oNe (eCall G_gcd (aCons (eV 0) (aCons (eV 1) aNil))) (eV 7))) (tOr (tV (e2 oNe (eCall G_divides (aCons (eV 1) (aCons (eV 0) aNil))) (eOr (eAnd (e2 oEq (eV 1) (eI 0)) (e2 oEq (eV 0) (eI 0))) (eAnd (e2 oNe (eV 1) (eI 0)) (e2 oEq (e2 oMod (e1 oInt (eV 0)) (eV 1)) (eI 0)))))) (tOr (tV (e2 oNe (e2 oIx (eV 8) (eI 0)) (eV 7))) (tV (e2 oNe (e2 oAdd (e2 oMul (e2 oIx (eV 8) (eI 1)) (eV 0)) (e2 oMul (e2 oIx (eV 8) (eI 2)) (eV 1))) (eV 7))))))
    (sRet eF)
    sNil)
    (sSeq (sIf (tAnd (tV (e2 oNe (eV 1) (eI 0))) (tAnd (tNot (tV (eChn oLe oLt (eI 0) (e2 oMul (e2 oIx (eV 8) (eI 1)) (eV 7)) (e2 oMax2 (e1 oAbs (eV 1)) (eV 7))))) (tNot (tAnd (tV (e2 oEq (e1 oAbs (eV 1)) (eV 7))) (tV (e2 oEq (e2 oIx (eV 8) (eI 1)) (eI 0)))))))
    (sRet eF)
    sNil)
    (sRet (eOr (e2 oNe (eV 1) (eI 0)) (e2 oEq (eTup (aCons (e2 oIx (eV 8) (eI 1)) (aCons (e2 oIx (eV 8) (eI 2)) aNil))) (eTup (aCons (e2 oSub (e1 oInt (e2 oGt (eV 0) (eI 0))) (e1 oInt (e2 oLt (eV 0) (eI 0)))) (aCons (eI 0) aNil)))))))))))
@[irreducible] def G__law_pair : DSp := sem 2 9 d__law_pair

def d__law_one : ST := (sSeq (sFor (iE (eLst (aCons (eI 2) (aCons (eI 7) (aCons (eI 10) aNil))))) (gN 1)
    (sSeq (sOwn 2 (eLst aNil))
    (sSeq (sSet 3 (eV 0))
    (sSeq (sFor (iR1 (eI 200)) (gN 4)
    (sIf (tV (e2 oGt (eV 3) (eI 0)))
    (sSeq (sApp 2 (e2 oMod (e1 oInt (eV 3)) (eV 1)))
    (sSet 3 (e2 oDiv (eV 3) (eV 1))))
    sNil))
    (sFrz 2 (sIf (tOr (tV (e2 oNe (eCall G_digits (aCons (eV 0) (aCons (eV 1) aNil))) (eB 2))) (tV (e2 oNe (eCall G_from_digits (aCons (eV 2) (aCons (eV 1) aNil))) (eV 0))))
    (sRet eF)
    sNil))))))
    (sSeq (sFor (iE (eLst (aCons (eI 1) (aCons (eI 2) (aCons (eI 3) (aCons (eI 5) aNil)))))) (gN 5)
    (sSeq (sSet 6 (eCall G_root_below (aCons (eV 0) (aCons (eV 5) aNil))))
    (sSeq (sSet 7 (eI 1))
    (sSeq (sSet 8 (eI 1))
    (sSeq (sFor (iR1 (eV 5)) (gN 4)
    (sSeq (sSet 7 (e2 oMul (eV 7) (eV 6)))
    (sSet 8 (e2 oMul (eV 8) (e2 oAdd (eV 6) (eI 1))))))
    (sIf (tNot (tV (eChn oLe oLt (eV 7) (eV 0) (eV 8))))
    (sRet eF)
    sNil))))))
    (sSeq (sSet 9 (eCall G_root_below (aCons (eV 0) (aCons (eI 2) aNil))))
    (sRet (e2 oEq (eCall G_is_square (aCons (eV 0) aNil)) (e2 oEq (e2 oMul (eV 9) (eV 9)) (eV 0)))))))
@[irreducible] def G__law_one : DSp := sem 1 10 d__law_one

def d_law : ST := (sSeq (sFor (iR1 (eI 6)) (gN 1)
    (sSeq (sSet 2 (e2 oAdd (e1 oAbs (eCall G__law_cell (aCons (eV 0) (aCons (eV 1) aNil)))) (e2 oMul (eI 31) (eV 1))))
    (sSeq (sSet 3 (eCall G__law_draw (aCons (eV 2) (aCons (eLst (aCons (eI 800) (aCons (eI 800) (aCons (eI 400) (aCons (eI 30) aNil))))) aNil))))
    (sSeq (sSet 4 (e2 oSub (e1 oInt (e2 oIx (eV 3) (eI 0))) (eI 400)))
    (sSeq (sSet 5 (e2 oSub (e1 oInt (e2 oIx (eV 3) (eI 1))) (eI 400)))
    (sSeq (sSet 6 (e1 oInt (e2 oIx (eV 3) (eI 2))))
    (sSeq (sIf (tOr (tNot (tV (eCall G__law_pair (aCons (eV 4) (aCons (eV 5) aNil))))) (tOr (tNot (tV (eCall G__law_pair (aCons (eV 4) (aCons (eI 0) aNil))))) (tOr (tNot (tV (eCall G__law_pair (aCons (eI 0) (aCons (eV 5) aNil))))) (tOr (tNot (tV (eCall G__law_one (aCons (eV 6) aNil)))) (tNot (tV (eCall G__law_one (aCons (e2 oAdd (e2 oMul (e2 oMul (eV 6) (eI 1000003)) (eI 1000003)) (e2 oMod (e1 oInt (eV 2)) (eI 1000000007))) aNil))))))))
    (sRet eF)
    sNil)
    (sSeq (sSet 7 (eLst (aCons (eV 4) (aCons (eV 5) (aCons (eV 6) (aCons (e2 oMul (eI 6) (e1 oInt (e2 oIx (eV 3) (eI 3)))) aNil))))))
    (sSeq (sSet 8 (eCall G__law_gcd (aCons (eCall G__law_gcd (aCons (eV 4) (aCons (eV 5) aNil))) (aCons (eCall G__law_gcd (aCons (eV 6) (aCons (e2 oMul (eI 6) (e1 oInt (e2 oIx (eV 3) (eI 3)))) aNil))) aNil))))
    (sSeq (sSet 9 (eCall G_gcd_row (aCons (eV 7) aNil)))
    (sSeq (sIf (tOr (tV (e2 oNe (eCall G_gcd_of (aCons (eV 7) aNil)) (eV 8))) (tOr (tV (e2 oNe (e1 oSum (eComp (iR1 (eI 4)) [10] (gN 10) tY (e2 oMul (e2 oIx (eV 9) (eV 10)) (e2 oIx (eV 7) (eV 10))))) (eV 8))) (tOr (tV (e1 (oNotB true) (eCall G_check_gcd (aCons (eV 7) (aCons (eV 9) (aCons (eV 8) aNil)))))) (tV (e2 oNe (eCall G_check_gcd (aCons (eV 7) (aCons (e2 oCat (eLst (aCons (e2 oAdd (e2 oIx (eV 9) (eI 0)) (eI 1)) aNil)) (eCut (e1 oLstOf (eV 9)) (pAt (eI 1)) pNo)) (aCons (eV 8) aNil)))) (e2 oEq (eV 4) (eI 0)))))))
    (sRet eF)
    sNil)
    (sSeq (sSet 11 (eI 1))
    (sSeq (sFor (iE (eV 7)) (gN 12)
    (sIf (tOr (tV (e2 oEq (eV 12) (eI 0))) (tV (e2 oEq (eV 11) (eI 0))))
    (sSet 11 (eI 0))
    (sSet 11 (e2 oDiv (e1 oAbs (e2 oMul (eV 11) (eV 12))) (eCall G__law_gcd (aCons (eV 11) (aCons (eV 12) aNil)))))))
    (sSeq (sIf (tV (e2 oNe (eCall G_lcm_of (aCons (eV 7) aNil)) (eV 11)))
    (sRet eF)
    sNil)
    (sSeq (sFor (iE (eLst (aCons (eI 2) (aCons (eI 3) (aCons (eI 10) aNil))))) (gN 13)
    (sSeq (sSet 14 (eI 0))
    (sSeq (sSet 15 (e2 oAdd (eV 6) (eI 1)))
    (sSeq (sFor (iR1 (eI 20)) (gN 16)
    (sIf (tV (e2 oEq (e2 oMod (e1 oInt (eV 15)) (eV 13)) (eI 0)))
    (sSeq (sSet 15 (e2 oDiv (eV 15) (eV 13)))
    (sSet 14 (e2 oAdd (eV 14) (eI 1))))
    sNil))
    (sIf (tV (e2 oNe (eCall G_times_in (aCons (e2 oAdd (eV 6) (eI 1)) (aCons (eV 13) aNil))) (eV 14)))
    (sRet eF)
    sNil)))))
    (sSeq (sIf (tV (e2 oNe (eV 4) (eI 0)))
    (sSeq (sSet 17 (eCall G_square_part (aCons (eV 4) aNil)))
    (sIf (tOr (tV (e2 oNe (e2 oMul (e2 oMul (e2 oIx (eV 17) (eI 0)) (e2 oIx (eV 17) (eI 0))) (e2 oIx (eV 17) (eI 1))) (eV 4))) (tOr (tV (e2 oLt (e2 oIx (eV 17) (eI 0)) (eI 1))) (tV (e2 oGt (e1 oLen (eComp (iR2 (eI 2) (eI 30)) [18] (gN 18) (tV (e2 oEq (e2 oMod (e1 oInt (e2 oIx (eV 17) (eI 1))) (e2 oMul (eV 18) (eV 18))) (eI 0))) (eV 18))) (eI 0)))))
    (sRet eF)
    sNil))
    sNil)
    (sSeq (sSet 19 (e2 oAdd (eV 6) (eI 2)))
    (sSeq (sOwn 20 (eLst aNil))
    (sSeq (sFor (iR2 (eI 2) (e2 oAdd (eV 19) (eI 1))) (gN 21)
    (sSeq (sSet 22 (eI 1))
    (sFor (iR2 (eI 1) (eI 10)) (gN 14)
    (sSeq (sSet 22 (e2 oMul (eV 22) (eV 21)))
    (sIf (tV (e2 oEq (eV 22) (eV 19)))
    (sApp 20 (eTup (aCons (eV 14) (aCons (eV 21) aNil))))
    sNil)))))
    (sSeq (sIf (tV (e2 oNe (e1 oTupOf (eCall G_power_form (aCons (eV 19) aNil))) (eTup (aCons (e2 oIx (e1 oMaxP (eB 20)) (eI 1)) (aCons (e2 oIx (e1 oMaxP (eB 20)) (eI 0)) aNil)))))
    (sRet eF)
    sNil)
    (sSeq (sSet 23 (eCall G__law_ratio (aCons (eV 4) (aCons (e2 oAdd (eV 6) (eI 1)) aNil))))
    (sSeq (sSet 24 (eCall G__law_ratio (aCons (eV 5) (aCons (eV 19) aNil))))
    (sSeq (sIf (tOr (tV (e2 oNe (e1 oTupOf (eCall G_ratio_sum (aCons (eV 23) (aCons (eV 24) aNil)))) (eCall G__law_ratio (aCons (e2 oAdd (e2 oMul (e2 oIx (eV 23) (eI 0)) (e2 oIx (eV 24) (eI 1))) (e2 oMul (e2 oIx (eV 24) (eI 0)) (e2 oIx (eV 23) (eI 1)))) (aCons (e2 oMul (e2 oIx (eV 23) (eI 1)) (e2 oIx (eV 24) (eI 1))) aNil))))) (tV (e2 oNe (e1 oTupOf (eCall G_ratio_times (aCons (eV 23) (aCons (eV 24) aNil)))) (eCall G__law_ratio (aCons (e2 oMul (e2 oIx (eV 23) (eI 0)) (e2 oIx (eV 24) (eI 0))) (aCons (e2 oMul (e2 oIx (eV 23) (eI 1)) (e2 oIx (eV 24) (eI 1))) aNil))))))
    (sRet eF)
    sNil)
    (sIf (tV (e2 oNe (eCall G_ratio_below (aCons (eV 23) (aCons (eV 24) aNil))) (e2 oLt (e2 oMul (e2 oIx (eV 23) (eI 0)) (e2 oIx (eV 24) (eI 1))) (e2 oMul (e2 oIx (eV 24) (eI 0)) (e2 oIx (eV 23) (eI 1))))))
    (sRet eF)
    sNil))))))))))))))))))))))))
    (sSeq (sIf (tNot (tAnd (tV (e2 oEq (eCall G__law_told (aCons (eI 0) (aCons (eI 3) (aCons (eI 0) aNil)))) (eTup (aCons (eS "none") (aCons (eI 0) aNil))))) (tAnd (tV (e2 oEq (eCall G__law_told (aCons (eI 1) (aCons (eI 3) (aCons (eI 1) aNil)))) (eTup (aCons (eS "range") (aCons (eI 1) aNil))))) (tAnd (tV (e2 oEq (eCall G__law_told (aCons (eI 1) (aCons (e1 oNeg (eI 1)) (aCons (eI 2) aNil)))) (eTup (aCons (eS "range") (aCons (e1 oNeg (eI 1)) aNil))))) (tV (e2 oEq (eCall G__law_told (aCons (eI 2) (aCons (eI 3) (aCons (eI 61) aNil)))) (eTup (aCons (eS "range") (aCons (eI 61) aNil)))))))))
    (sRet eF)
    sNil)
    (sSeq (sIf (tNot (tAnd (tV (e2 oEq (eCall G__law_told (aCons (eI 3) (aCons (eTup (aCons (eI 2) (aCons (eI 4) aNil))) (aCons (eTup (aCons (eI 1) (aCons (eI 2) aNil))) aNil)))) (eTup (aCons (eS "ratio") (aCons (eI 0) aNil))))) (tAnd (tV (e2 oEq (eCall G__law_told (aCons (eI 4) (aCons (eLst (aCons (eI 2) aNil)) (aCons (eI 2) aNil)))) (eTup (aCons (eS "range") (aCons (eI 2) aNil))))) (tAnd (tV (e2 oEq (eCall G__law_told (aCons (eI 5) (aCons (eI 1) (aCons (eI 0) aNil)))) (eTup (aCons (eS "range") (aCons (eI 1) aNil))))) (tV (e2 oEq (eCall G_lcm_of (aCons (eLst aNil) aNil)) (eI 1)))))))
    (sRet eF)
    sNil)
    (sRet (eAnd (e2 oEq (eCall G_gcd_of (aCons (eLst aNil) aNil)) (eI 0)) (e2 oEq (eCall G_digits (aCons (eI 0) (aCons (eI 2) aNil))) (eLst aNil)))))))
@[irreducible] def G_law : DSp := sem 1 25 d_law
end Rw

set_option Elab.async false
set_option linter.all false
set_option maxRecDepth 100000
set_option maxHeartbeats 1000000
namespace Rw
open PySem PySem.Spec L2
def topS (i : Nat) : Stmt := PySem.Challenge.pw_ringweir_k00_division.main.body.getD i (.Pass ⟨0, 0, 0, 0⟩)
structure Tx (P : Program) (w : World) (K : PySem.W.Frag) (mg : Str → Option Value) (base : Heap) (cl : String → Option Addr) : Prop where
  b_abs : mg "abs" = none
  b_int : mg "int" = none
  b_isinstance : mg "isinstance" = none
  b_len : mg "len" = none
  b_list : mg "list" = none
  b_max : mg "max" = none
  b_range : mg "range" = none
  b_sum : mg "sum" = none
  b_tuple : mg "tuple" = none
  b_zip : mg "zip" = none
  c_BASES : ∃ a, mg "BASES" = some (.ref a) ∧ ∀ F, Rep K F (.ref a) k_BASES
  c_MOST_BASE : ∃ t, mg "MOST_BASE" = some (.int 100 t)
  c_MOST_PARTED : ∃ t, mg "MOST_PARTED" = some (.int 1000000000000 t)
  c_MOST_ROOT : ∃ t, mg "MOST_ROOT" = some (.int 60 t)
  x_BadRatio : XF P w K mg base cl "BadRatio" 0 (Str.ofString "label")
  x_NoDivision : XF P w K mg base cl "NoDivision" 0 (Str.ofString "label")
  x_OutOfRange : XF P w K mg base cl "OutOfRange" 1 (Str.ofString "value")
  x_TooLarge : XF P w K mg base cl "TooLarge" 0 (Str.ofString "label")
  em : EmOk K cl
  y_BadRatio : YF K mg cl "BadRatio"
  y_NoDivision : YF K mg cl "NoDivision"
  y_RingError : YF K mg cl "RingError"
  v_OutOfRange_value : YV K mg cl "OutOfRange" "value"
section
variable {P : Program} {w : World} {K : PySem.W.Frag} {mg : Str → Option Value} {base : Heap} {cl : String → Option Addr}
abbrev s_check_between : Stmt := topS 7
theorem sc_check_between : FnScope ["value", "least", "most"] ["value", "least", "most"] (defScope s_check_between) := ⟨rfl, rfl, rfl, by decide +kernel, rfl, by decide +kernel, by decide +kernel⟩
theorem w_check_between {f : Addr} {fd : FuncData} (T : Tx P w K mg base cl) (F : Fun K "check_between" "check_between" s_check_between f fd) (hm : mg "check_between" = some (.ref f)) (b : Binds K fd ["value", "least", "most"] []) : Df P w K mg base cl 3 "check_between" G_check_between := by
  unfold G_check_between d_check_between
  have nd := sc_check_between.nd
  exact def_D F sc_check_between rfl rfl hm b ⟨rfl, by decide, by decide⟩ (fun cdv A outer s H E hr tk hp =>
    (ds_one (ds_if (dt_not (dt_chn op_le op_le b_le b_le m_le m_le (DE.bo (de_v 1)) (DE.bo (de_v 0)) (DE.bo (de_v 2))))
    (ds_one (ds_raise1 T.x_OutOfRange tk (hr.mono (by decide)) (DE.bo (de_v 0))))
    ds_nil)))

abbrev s_check_from : Stmt := topS 8
theorem sc_check_from : FnScope ["value", "least"] ["value", "least"] (defScope s_check_from) := ⟨rfl, rfl, rfl, by decide +kernel, rfl, by decide +kernel, by decide +kernel⟩
theorem w_check_from {f : Addr} {fd : FuncData} (T : Tx P w K mg base cl) (F : Fun K "check_from" "check_from" s_check_from f fd) (hm : mg "check_from" = some (.ref f)) (b : Binds K fd ["value", "least"] []) : Df P w K mg base cl 3 "check_from" G_check_from := by
  unfold G_check_from d_check_from
  have nd := sc_check_from.nd
  exact def_D F sc_check_from rfl rfl hm b ⟨rfl, by decide, by decide⟩ (fun cdv A outer s H E hr tk hp =>
    (ds_one (ds_if (dt_lt (DE.bo (de_v 0)) (DE.bo (de_v 1)))
    (ds_one (ds_raise1 T.x_OutOfRange tk (hr.mono (by decide)) (DE.bo (de_v 0))))
    ds_nil)))

abbrev s_to_power : Stmt := topS 10
theorem sc_to_power : FnScope ["a", "n", "found", "base", "left"] ["a", "n"] (defScope s_to_power) := ⟨rfl, rfl, rfl, by decide +kernel, rfl, by decide +kernel, by decide +kernel⟩
theorem w_to_power {f : Addr} {fd : FuncData} (T : Tx P w K mg base cl) (F : Fun K "to_power" "to_power" s_to_power f fd) (hm : mg "to_power" = some (.ref f)) (b : Binds K fd ["a", "n"] []) : Df P w K mg base cl 1 "to_power" G_to_power := by
  unfold G_to_power d_to_power
  have nd := sc_to_power.nd
  exact def_D F sc_to_power rfl rfl hm b ⟨rfl, by decide, by decide⟩ (fun cdv A outer s H E hr tk hp =>
    (ds_cons (ds_set 2 nd de_int)
    (ds_cons (ds_set 3 nd (de_v 0))
    (ds_cons (ds_set 4 nd (de_v 1))
    (ds_cons (ds_while hp (dt_gt (DE.bo (de_v 4)) (DE.bo de_int))
    (ds_cons (ds_if (dt_eq hr (DE.bo (de_mod (DE.bo (de_v 4)) (DE.bo de_int))) (DE.bo de_int))
    (ds_one (ds_mulA 2 nd (DE.bo (de_v 3))))
    ds_nil)
    (ds_cons (ds_mulA 3 nd (DE.bo (de_v 3)))
    (ds_one (ds_divA 4 nd (DE.bo de_int))))))
    (ds_one (ds_ret (de_v 2))))))))

abbrev s_sign_of : Stmt := topS 14
theorem sc_sign_of : FnScope ["n"] ["n"] (defScope s_sign_of) := ⟨rfl, rfl, rfl, by decide +kernel, rfl, by decide +kernel, by decide +kernel⟩
theorem w_sign_of {f : Addr} {fd : FuncData} (T : Tx P w K mg base cl) (F : Fun K "sign_of" "sign_of" s_sign_of f fd) (hm : mg "sign_of" = some (.ref f)) (b : Binds K fd ["n"] []) : Df P w K mg base cl 1 "sign_of" G_sign_of := by
  unfold G_sign_of d_sign_of
  have nd := sc_sign_of.nd
  exact def_D F sc_sign_of rfl rfl hm b ⟨rfl, by decide, by decide⟩ (fun cdv A outer s H E hr tk hp =>
    (ds_one (ds_ret (de_sub (DE.bo (de_gt (DE.bo (de_v 0)) (DE.bo de_int))) (DE.bo (de_lt (DE.bo (de_v 0)) (DE.bo de_int)))))))

abbrev s_common : Stmt := topS 15
theorem sc_common : FnScope ["a", "b"] ["a", "b"] (defScope s_common) := ⟨rfl, rfl, rfl, by decide +kernel, rfl, by decide +kernel, by decide +kernel⟩
theorem w_common {f : Addr} {fd : FuncData} (T : Tx P w K mg base cl) (F : Fun K "common" "common" s_common f fd) (hm : mg "common" = some (.ref f)) (b : Binds K fd ["a", "b"] []) : Df P w K mg base cl 1 "common" G_common := by
  unfold G_common d_common
  have nd := sc_common.nd
  exact def_D F sc_common rfl rfl hm b ⟨rfl, by decide, by decide⟩ (fun cdv A outer s H E hr tk hp =>
    (ds_cons (ds_par (i := 0) (j := 1) rfl nd (da_z (de_abs T.b_abs (DE.bo (de_v 0))) (da_z (de_abs T.b_abs (DE.bo (de_v 1))) da_nil)) (by rfl))
    (ds_cons (ds_while hp (dt_gt (DE.bo (de_v 1)) (DE.bo de_int))
    (ds_one (ds_par (i := 0) (j := 1) rfl nd (da_z (de_v 1) (da_z (de_mod (DE.bo (de_v 0)) (DE.bo (de_v 1))) da_nil)) (by rfl))))
    (ds_one (ds_ret (de_v 0))))))

abbrev s_common_of : Stmt := topS 16
theorem sc_common_of : FnScope ["numbers", "found", "n"] ["numbers"] (defScope s_common_of) := ⟨rfl, rfl, rfl, by decide +kernel, rfl, by decide +kernel, by decide +kernel⟩
theorem w_common_of {f : Addr} {fd : FuncData} (T : Tx P w K mg base cl) (F : Fun K "common_of" "common_of" s_common_of f fd) (hm : mg "common_of" = some (.ref f)) (b : Binds K fd ["numbers"] []) (D_common : Df P w K mg base cl 1 "common" G_common) : Df P w K mg base cl 2 "common_of" G_common_of := by
  unfold G_common_of d_common_of
  have nd := sc_common_of.nd
  exact def_D F sc_common_of rfl rfl hm b ⟨rfl, by decide, by decide⟩ (fun cdv A outer s H E hr tk hp =>
    (ds_cons (ds_set 1 nd de_int)
    (ds_cons (ds_for hp rfl (di_e (de_v 0)) (dg_n 2 nd)
    (ds_one (ds_set 1 nd (de_call D_common tk (hr.mono (by decide)) (da_z (de_v 1) (da_z (de_v 2) da_nil))))))
    (ds_one (ds_ret (de_v 1))))))

abbrev s_multiple : Stmt := topS 17
theorem sc_multiple : FnScope ["a", "b"] ["a", "b"] (defScope s_multiple) := ⟨rfl, rfl, rfl, by decide +kernel, rfl, by decide +kernel, by decide +kernel⟩
theorem w_multiple {f : Addr} {fd : FuncData} (T : Tx P w K mg base cl) (F : Fun K "multiple" "multiple" s_multiple f fd) (hm : mg "multiple" = some (.ref f)) (b : Binds K fd ["a", "b"] []) (D_common : Df P w K mg base cl 1 "common" G_common) : Df P w K mg base cl 2 "multiple" G_multiple := by
  unfold G_multiple d_multiple
  have nd := sc_multiple.nd
  exact def_D F sc_multiple rfl rfl hm b ⟨rfl, by decide, by decide⟩ (fun cdv A outer s H E hr tk hp =>
    (ds_one (ds_ret (de_if (DW.dt (dw_or (dt_eq hr (DE.bo (de_v 0)) (DE.bo de_int)) (dw_or1 (dt_eq hr (DE.bo (de_v 1)) (DE.bo de_int))))) de_int (de_div (DE.bo (de_abs T.b_abs (DE.bo (de_mul (DE.bo (de_v 0)) (DE.bo (de_v 1)))))) (DE.bo (de_call D_common tk (hr.mono (by decide)) (da_z (de_v 0) (da_z (de_v 1) da_nil)))))))))

abbrev s_bezout : Stmt := topS 18
theorem sc_bezout : FnScope ["a", "b", "old", "new", "q", "one", "other"] ["a", "b"] (defScope s_bezout) := ⟨rfl, rfl, rfl, by decide +kernel, rfl, by decide +kernel, by decide +kernel⟩
theorem w_bezout {f : Addr} {fd : FuncData} (T : Tx P w K mg base cl) (F : Fun K "bezout" "bezout" s_bezout f fd) (hm : mg "bezout" = some (.ref f)) (b : Binds K fd ["a", "b"] []) : Df P w K mg base cl 1 "bezout" G_bezout := by
  unfold G_bezout d_bezout
  have nd := sc_bezout.nd
  exact def_D F sc_bezout rfl rfl hm b ⟨rfl, by decide, by decide⟩ (fun cdv A outer s H E hr tk hp =>
    (ds_cons (ds_par (i := 2) (j := 3) rfl nd (da_z (de_tup (da_z (de_v 0) (da_z de_int (da_z de_int da_nil)))) (da_z (de_tup (da_z (de_v 1) (da_z de_int (da_z de_int da_nil)))) da_nil)) (by rfl))
    (ds_cons (ds_while hp (dt_ne hr (DE.bo (de_ix (fun _ _ => rfl) (DE.bo (de_v 3)) (DE.bo de_int))) (DE.bo de_int))
    (ds_cons (ds_set 4 nd (de_div (DE.bo (de_ix (fun _ _ => rfl) (DE.bo (de_v 2)) (DE.bo de_int))) (DE.bo (de_ix (fun _ _ => rfl) (DE.bo (de_v 3)) (DE.bo de_int)))))
    (ds_one (ds_par (i := 2) (j := 3) rfl nd (da_z (de_v 3) (da_z (de_tuple T.b_tuple (DE.bo (de_comp rfl nd (by exact (di_zip T.b_zip (de_v 2) (de_v 3))) (blkOk_by (own := [("one", 5), ("other", 6)]) (by show blkC ["a", "b", "old", "new", "q", "one", "other"] (defScope s_bezout) _ _ = true; decide +kernel)) (fun _ _ _ _ _ => (dg_t rfl (dgs_cons (dg_n 5 nd) (dgs_cons (dg_n 6 nd) dgs_nil)))) (fun _ _ _ _ _ => dts_nil) (fun _ _ _ _ _ => (de_sub (DE.bo (de_v 5)) (DE.bo (de_mul (DE.bo (de_v 4)) (DE.bo (de_v 6))))))))) da_nil)) (by rfl)))))
    (ds_one (ds_ret (de_if (dt_ge (DE.bo (de_ix (fun _ _ => rfl) (DE.bo (de_v 2)) (DE.bo de_int))) (DE.bo de_int)) (de_v 2) (de_tuple T.b_tuple (DE.bo (de_comp rfl nd (by exact (di_e (de_v 2))) (blkOk_by (own := [("one", 5)]) (by show blkC ["a", "b", "old", "new", "q", "one", "other"] (defScope s_bezout) _ _ = true; decide +kernel)) (fun _ _ _ _ _ => (dg_n 5 nd)) (fun _ _ _ _ _ => dts_nil) (fun _ _ _ _ _ => (de_neg (DE.bo (de_v 5)))))))))))))

abbrev s_power_mod : Stmt := topS 19
theorem sc_power_mod : FnScope ["a", "n", "m", "found"] ["a", "n", "m"] (defScope s_power_mod) := ⟨rfl, rfl, rfl, by decide +kernel, rfl, by decide +kernel, by decide +kernel⟩
theorem w_power_mod {f : Addr} {fd : FuncData} (T : Tx P w K mg base cl) (F : Fun K "power_mod" "power_mod" s_power_mod f fd) (hm : mg "power_mod" = some (.ref f)) (b : Binds K fd ["a", "n", "m"] []) : Df P w K mg base cl 1 "power_mod" G_power_mod := by
  unfold G_power_mod d_power_mod
  have nd := sc_power_mod.nd
  exact def_D F sc_power_mod rfl rfl hm b ⟨rfl, by decide, by decide⟩ (fun cdv A outer s H E hr tk hp =>
    (ds_cons (ds_set 3 nd (de_mod (DE.bo de_int) (DE.bo (de_v 2))))
    (ds_cons (ds_modA 0 nd (DE.bo (de_v 2)))
    (ds_cons (ds_while hp (dt_gt (DE.bo (de_v 1)) (DE.bo de_int))
    (ds_cons (ds_if (dt_eq hr (DE.bo (de_mod (DE.bo (de_v 1)) (DE.bo de_int))) (DE.bo de_int))
    (ds_one (ds_set 3 nd (de_mod (DE.bo (de_mul (DE.bo (de_v 3)) (DE.bo (de_v 0)))) (DE.bo (de_v 2)))))
    ds_nil)
    (ds_cons (ds_set 0 nd (de_mod (DE.bo (de_mul (DE.bo (de_v 0)) (DE.bo (de_v 0)))) (DE.bo (de_v 2))))
    (ds_one (ds_divA 1 nd (DE.bo de_int))))))
    (ds_one (ds_ret (de_v 3)))))))

abbrev s_times_of : Stmt := topS 20
theorem sc_times_of : FnScope ["n", "p", "count"] ["n", "p"] (defScope s_times_of) := ⟨rfl, rfl, rfl, by decide +kernel, rfl, by decide +kernel, by decide +kernel⟩
theorem w_times_of {f : Addr} {fd : FuncData} (T : Tx P w K mg base cl) (F : Fun K "times_of" "times_of" s_times_of f fd) (hm : mg "times_of" = some (.ref f)) (b : Binds K fd ["n", "p"] []) : Df P w K mg base cl 1 "times_of" G_times_of := by
  unfold G_times_of d_times_of
  have nd := sc_times_of.nd
  exact def_D F sc_times_of rfl rfl hm b ⟨rfl, by decide, by decide⟩ (fun cdv A outer s H E hr tk hp =>
    (ds_cons (ds_set 2 nd de_int)
    (ds_cons (ds_while hp (dt_eq hr (DE.bo (de_mod (DE.bo (de_v 0)) (DE.bo (de_v 1)))) (DE.bo de_int))
    (ds_cons (ds_divA 0 nd (DE.bo (de_v 1)))
    (ds_one (ds_addA 2 nd (DE.bo de_int)))))
    (ds_one (ds_ret (de_v 2))))))

abbrev s_root_of_power : Stmt := topS 21
theorem sc_root_of_power : FnScope ["n", "k", "low", "high", "middle"] ["n", "k"] (defScope s_root_of_power) := ⟨rfl, rfl, rfl, by decide +kernel, rfl, by decide +kernel, by decide +kernel⟩
theorem w_root_of_power {f : Addr} {fd : FuncData} (T : Tx P w K mg base cl) (F : Fun K "root_of_power" "root_of_power" s_root_of_power f fd) (hm : mg "root_of_power" = some (.ref f)) (b : Binds K fd ["n", "k"] []) (D_to_power : Df P w K mg base cl 1 "to_power" G_to_power) : Df P w K mg base cl 2 "root_of_power" G_root_of_power := by
  unfold G_root_of_power d_root_of_power
  have nd := sc_root_of_power.nd
  exact def_D F sc_root_of_power rfl rfl hm b ⟨rfl, by decide, by decide⟩ (fun cdv A outer s H E hr tk hp =>
    (ds_cons (ds_if (dt_lt (DE.bo (de_v 0)) (DE.bo de_int))
    (ds_one (ds_ret (de_v 0)))
    ds_nil)
    (ds_cons (ds_get (dg_t rfl (dgs_cons (dg_n 2 nd) (dgs_cons (dg_n 3 nd) dgs_nil))) (de_tup (da_z de_int (da_z de_int da_nil))))
    (ds_cons (ds_while hp (dt_le (DE.bo (de_call D_to_power tk (hr.mono (by decide)) (da_z (de_v 3) (da_z (de_v 1) da_nil)))) (DE.bo (de_v 0)))
    (ds_one (ds_par (i := 2) (j := 3) rfl nd (da_z (de_v 3) (da_z (de_mul (DE.bo de_int) (DE.bo (de_v 3))) da_nil)) (by rfl))))
    (ds_cons (ds_while hp (dt_gt (DE.bo (de_sub (DE.bo (de_v 3)) (DE.bo (de_v 2)))) (DE.bo de_int))
    (ds_cons (ds_set 4 nd (de_div (DE.bo (de_add (DE.bo (de_v 2)) (DE.bo (de_v 3)))) (DE.bo de_int)))
    (ds_one (ds_if (dt_le (DE.bo (de_call D_to_power tk (hr.mono (by decide)) (da_z (de_v 4) (da_z (de_v 1) da_nil)))) (DE.bo (de_v 0)))
    (ds_one (ds_set 2 nd (de_v 4)))
    (ds_one (ds_set 3 nd (de_v 4)))))))
    (ds_one (ds_ret (de_v 2))))))))

abbrev s_square_root : Stmt := topS 22
theorem sc_square_root : FnScope ["n"] ["n"] (defScope s_square_root) := ⟨rfl, rfl, rfl, by decide +kernel, rfl, by decide +kernel, by decide +kernel⟩
theorem w_square_root {f : Addr} {fd : FuncData} (T : Tx P w K mg base cl) (F : Fun K "square_root" "square_root" s_square_root f fd) (hm : mg "square_root" = some (.ref f)) (b : Binds K fd ["n"] []) (D_root_of_power : Df P w K mg base cl 2 "root_of_power" G_root_of_power) : Df P w K mg base cl 3 "square_root" G_square_root := by
  unfold G_square_root d_square_root
  have nd := sc_square_root.nd
  exact def_D F sc_square_root rfl rfl hm b ⟨rfl, by decide, by decide⟩ (fun cdv A outer s H E hr tk hp =>
    (ds_one (ds_ret (de_call D_root_of_power tk (hr.mono (by decide)) (da_z (de_v 0) (da_z de_int da_nil))))))

abbrev s_is_square_number : Stmt := topS 23
theorem sc_is_square_number : FnScope ["n"] ["n"] (defScope s_is_square_number) := ⟨rfl, rfl, rfl, by decide +kernel, rfl, by decide +kernel, by decide +kernel⟩
theorem w_is_square_number {f : Addr} {fd : FuncData} (T : Tx P w K mg base cl) (F : Fun K "is_square_number" "is_square_number" s_is_square_number f fd) (hm : mg "is_square_number" = some (.ref f)) (b : Binds K fd ["n"] []) (D_square_root : Df P w K mg base cl 3 "square_root" G_square_root) : Df P w K mg base cl 4 "is_square_number" G_is_square_number := by
  unfold G_is_square_number d_is_square_number
  have nd := sc_is_square_number.nd
  exact def_D F sc_is_square_number rfl rfl hm b ⟨rfl, by decide, by decide⟩ (fun cdv A outer s H E hr tk hp =>
    (ds_one (ds_ret (de_and (de_ge (DE.bo (de_v 0)) (DE.bo de_int)) (de_one (de_eq hr (DE.bo (de_pow (DE.bo (de_call D_square_root tk (hr.mono (by decide)) (da_z (de_v 0) da_nil))) (DE.bo de_int))) (DE.bo (de_v 0))))))))

abbrev s_is_strong : Stmt := topS 24
theorem sc_is_strong : FnScope ["n", "a", "s", "here", "_"] ["n", "a"] (defScope s_is_strong) := ⟨rfl, rfl, rfl, by decide +kernel, rfl, by decide +kernel, by decide +kernel⟩
theorem w_is_strong {f : Addr} {fd : FuncData} (T : Tx P w K mg base cl) (F : Fun K "is_strong" "is_strong" s_is_strong f fd) (hm : mg "is_strong" = some (.ref f)) (b : Binds K fd ["n", "a"] []) (D_times_of : Df P w K mg base cl 1 "times_of" G_times_of) (D_power_mod : Df P w K mg base cl 1 "power_mod" G_power_mod) (D_to_power : Df P w K mg base cl 1 "to_power" G_to_power) : Df P w K mg base cl 2 "is_strong" G_is_strong := by
  unfold G_is_strong d_is_strong
  have nd := sc_is_strong.nd
  exact def_D F sc_is_strong rfl rfl hm b ⟨rfl, by decide, by decide⟩ (fun cdv A outer s H E hr tk hp =>
    (ds_cons (ds_set 2 nd (de_call D_times_of tk (hr.mono (by decide)) (da_z (de_sub (DE.bo (de_v 0)) (DE.bo de_int)) (da_z de_int da_nil))))
    (ds_cons (ds_set 3 nd (de_call D_power_mod tk (hr.mono (by decide)) (da_z (de_v 1) (da_z (de_div (DE.bo (de_sub (DE.bo (de_v 0)) (DE.bo de_int))) (DE.bo (de_call D_to_power tk (hr.mono (by decide)) (da_z de_int (da_z (de_v 2) da_nil))))) (da_z (de_v 0) da_nil)))))
    (ds_cons (ds_if (dt_in hr (DE.bo (de_v 3)) (DE.bo (de_tup (da_z de_int (da_z (de_sub (DE.bo (de_v 0)) (DE.bo de_int)) da_nil)))))
    (ds_one (ds_ret de_tt))
    ds_nil)
    (ds_cons (ds_for hp rfl (di_r1 T.b_range (DE.bo (de_sub (DE.bo (de_v 2)) (DE.bo de_int)))) (dg_n 4 nd)
    (ds_cons (ds_set 3 nd (de_mod (DE.bo (de_mul (DE.bo (de_v 3)) (DE.bo (de_v 3)))) (DE.bo (de_v 0))))
    (ds_one (ds_if (dt_eq hr (DE.bo (de_v 3)) (DE.bo (de_sub (DE.bo (de_v 0)) (DE.bo de_int))))
    (ds_one (ds_ret de_tt))
    ds_nil))))
    (ds_one (ds_ret de_ff)))))))

abbrev s_is_prime_number : Stmt := topS 25
theorem sc_is_prime_number : FnScope ["n", "p"] ["n"] (defScope s_is_prime_number) := ⟨rfl, rfl, rfl, by decide +kernel, rfl, by decide +kernel, by decide +kernel⟩
theorem w_is_prime_number {f : Addr} {fd : FuncData} (T : Tx P w K mg base cl) (F : Fun K "is_prime_number" "is_prime_number" s_is_prime_number f fd) (hm : mg "is_prime_number" = some (.ref f)) (b : Binds K fd ["n"] []) (D_is_strong : Df P w K mg base cl 2 "is_strong" G_is_strong) : Df P w K mg base cl 3 "is_prime_number" G_is_prime_number := by
  unfold G_is_prime_number d_is_prime_number
  have nd := sc_is_prime_number.nd
  exact def_D F sc_is_prime_number rfl rfl hm b ⟨rfl, by decide, by decide⟩ (fun cdv A outer s H E hr tk hp =>
    (ds_cons (ds_if (dt_lt (DE.bo (de_v 0)) (DE.bo de_int))
    (ds_one (ds_ret de_ff))
    ds_nil)
    (ds_cons (ds_for hp rfl (di_e (de_gc T.c_BASES)) (dg_n 1 nd)
    (ds_one (ds_if (dt_eq hr (DE.bo (de_mod (DE.bo (de_v 0)) (DE.bo (de_v 1)))) (DE.bo de_int))
    (ds_one (ds_ret (de_eq hr (DE.bo (de_v 0)) (DE.bo (de_v 1)))))
    ds_nil)))
    (ds_cons (ds_if (dt_lt (DE.bo (de_v 0)) (DE.bo (de_mul (DE.bo de_int) (DE.bo de_int))))
    (ds_one (ds_ret de_tt))
    ds_nil)
    (ds_one (ds_ret (de_notIn hr (DE.bo de_ff) (DE.bo (de_comp rfl nd (by exact (di_e (de_gc T.c_BASES))) (blkOk_by (own := [("p", 1)]) (by show blkC ["n", "p"] (defScope s_is_prime_number) _ _ = true; decide +kernel)) (fun _ _ _ _ _ => (dg_n 1 nd)) (fun _ _ _ _ _ => dts_nil) (fun _ _ _ _ _ => (de_call D_is_strong takes0 (hr.mono (by decide)) (da_z (de_v 0) (da_z (de_v 1) da_nil)))))))))))))

abbrev s_parted : Stmt := topS 26
theorem sc_parted : FnScope ["n", "found", "p", "count"] ["n"] (defScope s_parted) := ⟨rfl, rfl, rfl, by decide +kernel, rfl, by decide +kernel, by decide +kernel⟩
theorem w_parted {f : Addr} {fd : FuncData} (T : Tx P w K mg base cl) (F : Fun K "parted" "parted" s_parted f fd) (hm : mg "parted" = some (.ref f)) (b : Binds K fd ["n"] []) (D_times_of : Df P w K mg base cl 1 "times_of" G_times_of) (D_to_power : Df P w K mg base cl 1 "to_power" G_to_power) (D_is_prime_number : Df P w K mg base cl 3 "is_prime_number" G_is_prime_number) : Df P w K mg base cl 4 "parted" G_parted := by
  unfold G_parted d_parted
  have nd := sc_parted.nd
  exact def_D F sc_parted rfl rfl hm b ⟨rfl, by decide, by decide⟩ (fun cdv A outer s H E hr tk hp =>
    (ds_cons (ds_if (dt_gt (DE.bo (de_v 0)) (DE.bo (de_gi T.c_MOST_PARTED.choose_spec)))
    (ds_one (ds_raise0 T.x_TooLarge tk (hr.mono (by decide))))
    ds_nil)
    (ds_cons (ds_own 1 nd (de_lst da_nil))
    (ds_cons (ds_set 2 nd de_int)
    (ds_cons (ds_while hp (dt_le (DE.bo (de_mul (DE.bo (de_v 2)) (DE.bo (de_v 2)))) (DE.bo (de_v 0)))
    (ds_cons (ds_if (dt_eq hr (DE.bo (de_mod (DE.bo (de_v 0)) (DE.bo (de_v 2)))) (DE.bo de_int))
    (ds_cons (ds_set 3 nd (de_call D_times_of tk (hr.mono (by decide)) (da_z (de_v 0) (da_z (de_v 2) da_nil))))
    (ds_cons (ds_app 1 (de_tup (da_z (de_v 2) (da_z (de_v 3) da_nil))))
    (ds_cons (ds_divA 0 nd (DE.bo (de_call D_to_power tk (hr.mono (by decide)) (da_z (de_v 2) (da_z (de_v 3) da_nil)))))
    (ds_one (ds_if (DW.dt (dw_and (dt_gt (DE.bo (de_v 0)) (DE.bo (de_pow (DE.bo de_int) (DE.bo de_int)))) (dw_and1 (dt_v (by intro _; rfl) (de_call D_is_prime_number tk (hr.mono (by decide)) (da_z (de_v 0) da_nil))))))
    (ds_one ds_brk)
    ds_nil)))))
    ds_nil)
    (ds_one (ds_addA 2 nd (DE.bo (de_if (dt_eq hr (DE.bo (de_v 2)) (DE.bo de_int)) de_int de_int))))))
    (ds_cons (ds_if (dt_gt (DE.bo (de_v 0)) (DE.bo de_int))
    (ds_one (ds_app 1 (de_tup (da_z (de_v 0) (da_z de_int da_nil)))))
    ds_nil)
    (ds_one (ds_frz 1 (ds_ret (de_v 1))))))))))

abbrev s_lowest : Stmt := topS 27
theorem sc_lowest : FnScope ["top", "bottom", "g"] ["top", "bottom"] (defScope s_lowest) := ⟨rfl, rfl, rfl, by decide +kernel, rfl, by decide +kernel, by decide +kernel⟩
theorem w_lowest {f : Addr} {fd : FuncData} (T : Tx P w K mg base cl) (F : Fun K "lowest" "lowest" s_lowest f fd) (hm : mg "lowest" = some (.ref f)) (b : Binds K fd ["top", "bottom"] []) (D_common : Df P w K mg base cl 1 "common" G_common) : Df P w K mg base cl 2 "lowest" G_lowest := by
  unfold G_lowest d_lowest
  have nd := sc_lowest.nd
  exact def_D F sc_lowest rfl rfl hm b ⟨rfl, by decide, by decide⟩ (fun cdv A outer s H E hr tk hp =>
    (ds_cons (ds_set 2 nd (de_call D_common tk (hr.mono (by decide)) (da_z (de_v 0) (da_z (de_v 1) da_nil))))
    (ds_cons (ds_if (dt_lt (DE.bo (de_v 1)) (DE.bo de_int))
    (ds_one (ds_set 2 nd (de_neg (DE.bo (de_v 2)))))
    ds_nil)
    (ds_one (ds_ret (de_tup (da_z (de_div (DE.bo (de_v 0)) (DE.bo (de_v 2))) (da_z (de_div (DE.bo (de_v 1)) (DE.bo (de_v 2))) da_nil))))))))

abbrev s_is_ratio : Stmt := topS 28
theorem sc_is_ratio : FnScope ["told", "one"] ["told"] (defScope s_is_ratio) := ⟨rfl, rfl, rfl, by decide +kernel, rfl, by decide +kernel, by decide +kernel⟩
theorem w_is_ratio {f : Addr} {fd : FuncData} (T : Tx P w K mg base cl) (F : Fun K "is_ratio" "is_ratio" s_is_ratio f fd) (hm : mg "is_ratio" = some (.ref f)) (b : Binds K fd ["told"] []) (D_common : Df P w K mg base cl 1 "common" G_common) : Df P w K mg base cl 2 "is_ratio" G_is_ratio := by
  unfold G_is_ratio d_is_ratio
  have nd := sc_is_ratio.nd
  exact def_D F sc_is_ratio rfl rfl hm b ⟨rfl, by decide, by decide⟩ (fun cdv A outer s H E hr tk hp =>
    (ds_cons (ds_if (DW.dt (dw_or (dt_not (dt_v (by intro _; rfl) (de_isTup T.b_isinstance T.b_tuple (DE.bo (de_v 0))))) (dw_or1 (dt_ne hr (DE.bo (de_len T.b_len (DE.bo (de_v 0)))) (DE.bo de_int)))))
    (ds_one (ds_ret de_ff))
    ds_nil)
    (ds_cons (ds_if (dt_in hr (DE.bo de_ff) (DE.bo (de_comp rfl nd (by exact (di_e (de_v 0))) (blkOk_by (own := [("one", 1)]) (by show blkC ["told", "one"] (defScope s_is_ratio) _ _ = true; decide +kernel)) (fun _ _ _ _ _ => (dg_n 1 nd)) (fun _ _ _ _ _ => dts_nil) (fun _ _ _ _ _ => (de_isInt T.b_isinstance T.b_int (DE.bo (de_v 1)))))))
    (ds_one (ds_ret de_ff))
    ds_nil)
    (ds_one (ds_ret (de_and (de_gt (DE.bo (de_ix (fun _ _ => rfl) (DE.bo (de_v 0)) (DE.bo de_int))) (DE.bo de_int)) (de_one (de_eq hr (DE.bo (de_call D_common tk (hr.mono (by decide)) (da_z (de_ix (fun _ _ => rfl) (DE.bo (de_v 0)) (DE.bo de_int)) (da_z (de_ix (fun _ _ => rfl) (DE.bo (de_v 0)) (DE.bo de_int)) da_nil)))) (DE.bo de_int)))))))))

abbrev s_check_ratio : Stmt := topS 29
theorem sc_check_ratio : FnScope ["told"] ["told"] (defScope s_check_ratio) := ⟨rfl, rfl, rfl, by decide +kernel, rfl, by decide +kernel, by decide +kernel⟩
theorem w_check_ratio {f : Addr} {fd : FuncData} (T : Tx P w K mg base cl) (F : Fun K "check_ratio" "check_ratio" s_check_ratio f fd) (hm : mg "check_ratio" = some (.ref f)) (b : Binds K fd ["told"] []) (D_is_ratio : Df P w K mg base cl 2 "is_ratio" G_is_ratio) : Df P w K mg base cl 3 "check_ratio" G_check_ratio := by
  unfold G_check_ratio d_check_ratio
  have nd := sc_check_ratio.nd
  exact def_D F sc_check_ratio rfl rfl hm b ⟨rfl, by decide, by decide⟩ (fun cdv A outer s H E hr tk hp =>
    (ds_one (ds_if (dt_not (dt_v (by intro _; rfl) (de_call D_is_ratio tk (hr.mono (by decide)) (da_z (de_v 0) da_nil))))
    (ds_one (ds_raise0 T.x_BadRatio tk (hr.mono (by decide))))
    ds_nil)))

abbrev s_plus : Stmt := topS 30
theorem sc_plus : FnScope ["one", "other"] ["one", "other"] (defScope s_plus) := ⟨rfl, rfl, rfl, by decide +kernel, rfl, by decide +kernel, by decide +kernel⟩
theorem w_plus {f : Addr} {fd : FuncData} (T : Tx P w K mg base cl) (F : Fun K "plus" "plus" s_plus f fd) (hm : mg "plus" = some (.ref f)) (b : Binds K fd ["one", "other"] []) (D_lowest : Df P w K mg base cl 2 "lowest" G_lowest) : Df P w K mg base cl 3 "plus" G_plus := by
  unfold G_plus d_plus
  have nd := sc_plus.nd
  exact def_D F sc_plus rfl rfl hm b ⟨rfl, by decide, by decide⟩ (fun cdv A outer s H E hr tk hp =>
    (ds_one (ds_ret (de_call D_lowest tk (hr.mono (by decide)) (da_z (de_add (DE.bo (de_mul (DE.bo (de_ix (fun _ _ => rfl) (DE.bo (de_v 0)) (DE.bo de_int))) (DE.bo (de_ix (fun _ _ => rfl) (DE.bo (de_v 1)) (DE.bo de_int))))) (DE.bo (de_mul (DE.bo (de_ix (fun _ _ => rfl) (DE.bo (de_v 1)) (DE.bo de_int))) (DE.bo (de_ix (fun _ _ => rfl) (DE.bo (de_v 0)) (DE.bo de_int)))))) (da_z (de_mul (DE.bo (de_ix (fun _ _ => rfl) (DE.bo (de_v 0)) (DE.bo de_int))) (DE.bo (de_ix (fun _ _ => rfl) (DE.bo (de_v 1)) (DE.bo de_int)))) da_nil))))))

abbrev s_by : Stmt := topS 31
theorem sc_by : FnScope ["one", "other"] ["one", "other"] (defScope s_by) := ⟨rfl, rfl, rfl, by decide +kernel, rfl, by decide +kernel, by decide +kernel⟩
theorem w_by {f : Addr} {fd : FuncData} (T : Tx P w K mg base cl) (F : Fun K "by" "by" s_by f fd) (hm : mg "by" = some (.ref f)) (b : Binds K fd ["one", "other"] []) (D_lowest : Df P w K mg base cl 2 "lowest" G_lowest) : Df P w K mg base cl 3 "by" G_by := by
  unfold G_by d_by
  have nd := sc_by.nd
  exact def_D F sc_by rfl rfl hm b ⟨rfl, by decide, by decide⟩ (fun cdv A outer s H E hr tk hp =>
    (ds_one (ds_ret (de_call D_lowest tk (hr.mono (by decide)) (da_z (de_mul (DE.bo (de_ix (fun _ _ => rfl) (DE.bo (de_v 0)) (DE.bo de_int))) (DE.bo (de_ix (fun _ _ => rfl) (DE.bo (de_v 1)) (DE.bo de_int)))) (da_z (de_mul (DE.bo (de_ix (fun _ _ => rfl) (DE.bo (de_v 0)) (DE.bo de_int))) (DE.bo (de_ix (fun _ _ => rfl) (DE.bo (de_v 1)) (DE.bo de_int)))) da_nil))))))

abbrev s_is_below : Stmt := topS 32
theorem sc_is_below : FnScope ["one", "other"] ["one", "other"] (defScope s_is_below) := ⟨rfl, rfl, rfl, by decide +kernel, rfl, by decide +kernel, by decide +kernel⟩
theorem w_is_below {f : Addr} {fd : FuncData} (T : Tx P w K mg base cl) (F : Fun K "is_below" "is_below" s_is_below f fd) (hm : mg "is_below" = some (.ref f)) (b : Binds K fd ["one", "other"] []) : Df P w K mg base cl 1 "is_below" G_is_below := by
  unfold G_is_below d_is_below
  have nd := sc_is_below.nd
  exact def_D F sc_is_below rfl rfl hm b ⟨rfl, by decide, by decide⟩ (fun cdv A outer s H E hr tk hp =>
    (ds_one (ds_ret (de_lt (DE.bo (de_mul (DE.bo (de_ix (fun _ _ => rfl) (DE.bo (de_v 0)) (DE.bo de_int))) (DE.bo (de_ix (fun _ _ => rfl) (DE.bo (de_v 1)) (DE.bo de_int))))) (DE.bo (de_mul (DE.bo (de_ix (fun _ _ => rfl) (DE.bo (de_v 1)) (DE.bo de_int))) (DE.bo (de_ix (fun _ _ => rfl) (DE.bo (de_v 0)) (DE.bo de_int)))))))))

abbrev s_divide : Stmt := topS 36
theorem sc_divide : FnScope ["a", "b", "r"] ["a", "b"] (defScope s_divide) := ⟨rfl, rfl, rfl, by decide +kernel, rfl, by decide +kernel, by decide +kernel⟩
theorem w_divide {f : Addr} {fd : FuncData} (T : Tx P w K mg base cl) (F : Fun K "divide" "divide" s_divide f fd) (hm : mg "divide" = some (.ref f)) (b : Binds K fd ["a", "b"] []) : Df P w K mg base cl 3 "divide" G_divide := by
  unfold G_divide d_divide
  have nd := sc_divide.nd
  exact def_D F sc_divide rfl rfl hm b ⟨rfl, by decide, by decide⟩ (fun cdv A outer s H E hr tk hp =>
    (ds_cons (ds_if (dt_eq hr (DE.bo (de_v 1)) (DE.bo de_int))
    (ds_one (ds_raise0 T.x_NoDivision tk (hr.mono (by decide))))
    ds_nil)
    (ds_cons (ds_set 2 nd (de_mod (DE.bo (de_v 0)) (DE.bo (de_abs T.b_abs (DE.bo (de_v 1))))))
    (ds_one (ds_ret (de_tup (da_z (de_div (DE.bo (de_sub (DE.bo (de_v 0)) (DE.bo (de_v 2)))) (DE.bo (de_v 1))) (da_z (de_v 2) da_nil))))))))

abbrev s_divides : Stmt := topS 37
theorem sc_divides : FnScope ["b", "a"] ["b", "a"] (defScope s_divides) := ⟨rfl, rfl, rfl, by decide +kernel, rfl, by decide +kernel, by decide +kernel⟩
theorem w_divides {f : Addr} {fd : FuncData} (T : Tx P w K mg base cl) (F : Fun K "divides" "divides" s_divides f fd) (hm : mg "divides" = some (.ref f)) (b : Binds K fd ["b", "a"] []) : Df P w K mg base cl 1 "divides" G_divides := by
  unfold G_divides d_divides
  have nd := sc_divides.nd
  exact def_D F sc_divides rfl rfl hm b ⟨rfl, by decide, by decide⟩ (fun cdv A outer s H E hr tk hp =>
    (ds_one (ds_ret (de_if (dt_eq hr (DE.bo (de_v 0)) (DE.bo de_int)) (de_eq hr (DE.bo (de_v 1)) (DE.bo de_int)) (de_eq hr (DE.bo (de_mod (DE.bo (de_v 1)) (DE.bo (de_v 0)))) (DE.bo de_int))))))

abbrev s_gcd : Stmt := topS 38
theorem sc_gcd : FnScope ["a", "b"] ["a", "b"] (defScope s_gcd) := ⟨rfl, rfl, rfl, by decide +kernel, rfl, by decide +kernel, by decide +kernel⟩
theorem w_gcd {f : Addr} {fd : FuncData} (T : Tx P w K mg base cl) (F : Fun K "gcd" "gcd" s_gcd f fd) (hm : mg "gcd" = some (.ref f)) (b : Binds K fd ["a", "b"] []) (D_common : Df P w K mg base cl 1 "common" G_common) : Df P w K mg base cl 2 "gcd" G_gcd := by
  unfold G_gcd d_gcd
  have nd := sc_gcd.nd
  exact def_D F sc_gcd rfl rfl hm b ⟨rfl, by decide, by decide⟩ (fun cdv A outer s H E hr tk hp =>
    (ds_one (ds_ret (de_call D_common tk (hr.mono (by decide)) (da_z (de_v 0) (da_z (de_v 1) da_nil))))))

abbrev s_gcd_paper : Stmt := topS 39
theorem sc_gcd_paper : FnScope ["a", "b", "g", "size", "u"] ["a", "b"] (defScope s_gcd_paper) := ⟨rfl, rfl, rfl, by decide +kernel, rfl, by decide +kernel, by decide +kernel⟩
theorem w_gcd_paper {f : Addr} {fd : FuncData} (T : Tx P w K mg base cl) (F : Fun K "gcd_paper" "gcd_paper" s_gcd_paper f fd) (hm : mg "gcd_paper" = some (.ref f)) (b : Binds K fd ["a", "b"] []) (D_sign_of : Df P w K mg base cl 1 "sign_of" G_sign_of) (D_common : Df P w K mg base cl 1 "common" G_common) (D_bezout : Df P w K mg base cl 1 "bezout" G_bezout) : Df P w K mg base cl 2 "gcd_paper" G_gcd_paper := by
  unfold G_gcd_paper d_gcd_paper
  have nd := sc_gcd_paper.nd
  exact def_D F sc_gcd_paper rfl rfl hm b ⟨rfl, by decide, by decide⟩ (fun cdv A outer s H E hr tk hp =>
    (ds_cons (ds_if (dt_eq hr (DE.bo (de_v 1)) (DE.bo de_int))
    (ds_one (ds_ret (de_tup (da_z (de_abs T.b_abs (DE.bo (de_v 0))) (da_z (de_call D_sign_of tk (hr.mono (by decide)) (da_z (de_v 0) da_nil)) (da_z de_int da_nil))))))
    ds_nil)
    (ds_cons (ds_set 2 nd (de_call D_common tk (hr.mono (by decide)) (da_z (de_v 0) (da_z (de_v 1) da_nil))))
    (ds_cons (ds_set 3 nd (de_div (DE.bo (de_abs T.b_abs (DE.bo (de_v 1)))) (DE.bo (de_v 2))))
    (ds_cons (ds_set 4 nd (de_mod (DE.bo (de_ix (fun _ _ => rfl) (DE.bo (de_call D_bezout tk (hr.mono (by decide)) (da_z (de_div (DE.bo (de_v 0)) (DE.bo (de_v 2))) (da_z (de_v 3) da_nil)))) (DE.bo de_int))) (DE.bo (de_v 3))))
    (ds_one (ds_ret (de_tup (da_z (de_v 2) (da_z (de_v 4) (da_z (de_div (DE.bo (de_sub (DE.bo (de_v 2)) (DE.bo (de_mul (DE.bo (de_v 4)) (DE.bo (de_v 0)))))) (DE.bo (de_v 1))) da_nil)))))))))))

abbrev s_gcd_steps : Stmt := topS 40
theorem sc_gcd_steps : FnScope ["a", "b", "found", "q", "r"] ["a", "b"] (defScope s_gcd_steps) := ⟨rfl, rfl, rfl, by decide +kernel, rfl, by decide +kernel, by decide +kernel⟩
theorem w_gcd_steps {f : Addr} {fd : FuncData} (T : Tx P w K mg base cl) (F : Fun K "gcd_steps" "gcd_steps" s_gcd_steps f fd) (hm : mg "gcd_steps" = some (.ref f)) (b : Binds K fd ["a", "b"] []) (D_divide : Df P w K mg base cl 3 "divide" G_divide) : Df P w K mg base cl 4 "gcd_steps" G_gcd_steps := by
  unfold G_gcd_steps d_gcd_steps
  have nd := sc_gcd_steps.nd
  exact def_D F sc_gcd_steps rfl rfl hm b ⟨rfl, by decide, by decide⟩ (fun cdv A outer s H E hr tk hp =>
    (ds_cons (ds_if (dt_eq hr (DE.bo (de_v 1)) (DE.bo de_int))
    (ds_one (ds_raise0 T.x_NoDivision tk (hr.mono (by decide))))
    ds_nil)
    (ds_cons (ds_own 2 nd (de_lst da_nil))
    (ds_cons (ds_while hp (dt_ne hr (DE.bo (de_v 1)) (DE.bo de_int))
    (ds_cons (ds_get (dg_t rfl (dgs_cons (dg_n 3 nd) (dgs_cons (dg_n 4 nd) dgs_nil))) (de_call D_divide tk (hr.mono (by decide)) (da_z (de_v 0) (da_z (de_v 1) da_nil))))
    (ds_cons (ds_app 2 (de_v 3))
    (ds_one (ds_par (i := 0) (j := 1) rfl nd (da_z (de_v 1) (da_z (de_v 4) da_nil)) (by rfl))))))
    (ds_one (ds_frz 2 (ds_ret (de_v 2))))))))

abbrev s_gcd_of : Stmt := topS 41
theorem sc_gcd_of : FnScope ["numbers"] ["numbers"] (defScope s_gcd_of) := ⟨rfl, rfl, rfl, by decide +kernel, rfl, by decide +kernel, by decide +kernel⟩
theorem w_gcd_of {f : Addr} {fd : FuncData} (T : Tx P w K mg base cl) (F : Fun K "gcd_of" "gcd_of" s_gcd_of f fd) (hm : mg "gcd_of" = some (.ref f)) (b : Binds K fd ["numbers"] []) (D_common_of : Df P w K mg base cl 2 "common_of" G_common_of) : Df P w K mg base cl 3 "gcd_of" G_gcd_of := by
  unfold G_gcd_of d_gcd_of
  have nd := sc_gcd_of.nd
  exact def_D F sc_gcd_of rfl rfl hm b ⟨rfl, by decide, by decide⟩ (fun cdv A outer s H E hr tk hp =>
    (ds_one (ds_ret (de_call D_common_of tk (hr.mono (by decide)) (da_z (de_v 0) da_nil)))))

abbrev s_lcm_of : Stmt := topS 42
theorem sc_lcm_of : FnScope ["numbers", "found", "n"] ["numbers"] (defScope s_lcm_of) := ⟨rfl, rfl, rfl, by decide +kernel, rfl, by decide +kernel, by decide +kernel⟩
theorem w_lcm_of {f : Addr} {fd : FuncData} (T : Tx P w K mg base cl) (F : Fun K "lcm_of" "lcm_of" s_lcm_of f fd) (hm : mg "lcm_of" = some (.ref f)) (b : Binds K fd ["numbers"] []) (D_multiple : Df P w K mg base cl 2 "multiple" G_multiple) : Df P w K mg base cl 3 "lcm_of" G_lcm_of := by
  unfold G_lcm_of d_lcm_of
  have nd := sc_lcm_of.nd
  exact def_D F sc_lcm_of rfl rfl hm b ⟨rfl, by decide, by decide⟩ (fun cdv A outer s H E hr tk hp =>
    (ds_cons (ds_set 1 nd de_int)
    (ds_cons (ds_for hp rfl (di_e (de_v 0)) (dg_n 2 nd)
    (ds_one (ds_set 1 nd (de_call D_multiple tk (hr.mono (by decide)) (da_z (de_v 1) (da_z (de_v 2) da_nil))))))
    (ds_one (ds_ret (de_v 1))))))

abbrev s_gcd_row : Stmt := topS 43
theorem sc_gcd_row : FnScope ["numbers", "found", "g", "n", "u", "v", "one"] ["numbers"] (defScope s_gcd_row) := ⟨rfl, rfl, rfl, by decide +kernel, rfl, by decide +kernel, by decide +kernel⟩
theorem w_gcd_row {f : Addr} {fd : FuncData} (T : Tx P w K mg base cl) (F : Fun K "gcd_row" "gcd_row" s_gcd_row f fd) (hm : mg "gcd_row" = some (.ref f)) (b : Binds K fd ["numbers"] []) (D_bezout : Df P w K mg base cl 1 "bezout" G_bezout) : Df P w K mg base cl 2 "gcd_row" G_gcd_row := by
  unfold G_gcd_row d_gcd_row
  have nd := sc_gcd_row.nd
  exact def_D F sc_gcd_row rfl rfl hm b ⟨rfl, by decide, by decide⟩ (fun cdv A outer s H E hr tk hp =>
    (ds_cons (ds_set 1 nd (DE.fz (de_lst da_nil)))
    (ds_cons (ds_set 2 nd de_int)
    (ds_cons (ds_for hp rfl (di_e (de_v 0)) (dg_n 3 nd)
    (ds_cons (ds_get (dg_t rfl (dgs_cons (dg_n 2 nd) (dgs_cons (dg_n 4 nd) (dgs_cons (dg_n 5 nd) dgs_nil)))) (de_call D_bezout tk (hr.mono (by decide)) (da_z (de_v 2) (da_z (de_v 3) da_nil))))
    (ds_one (ds_set 1 nd (DE.fz (de_cat (DE.bo (de_comp rfl nd (by exact (di_e (de_v 1))) (blkOk_by (own := [("one", 6)]) (by show blkC ["numbers", "found", "g", "n", "u", "v", "one"] (defScope s_gcd_row) _ _ = true; decide +kernel)) (fun _ _ _ _ _ => (dg_n 6 nd)) (fun _ _ _ _ _ => dts_nil) (fun _ _ _ _ _ => (de_mul (DE.bo (de_v 6)) (DE.bo (de_v 4)))))) (DE.bo (de_lst (da_z (de_v 5) da_nil)))))))))
    (ds_one (ds_ret (de_v 1)))))))

abbrev s_digits : Stmt := topS 44
theorem sc_digits : FnScope ["n", "base", "found"] ["n", "base"] (defScope s_digits) := ⟨rfl, rfl, rfl, by decide +kernel, rfl, by decide +kernel, by decide +kernel⟩
theorem w_digits {f : Addr} {fd : FuncData} (T : Tx P w K mg base cl) (F : Fun K "digits" "digits" s_digits f fd) (hm : mg "digits" = some (.ref f)) (b : Binds K fd ["n", "base"] []) (D_check_from : Df P w K mg base cl 3 "check_from" G_check_from) (D_check_between : Df P w K mg base cl 3 "check_between" G_check_between) : Df P w K mg base cl 4 "digits" G_digits := by
  unfold G_digits d_digits
  have nd := sc_digits.nd
  exact def_D F sc_digits rfl rfl hm b ⟨rfl, by decide, by decide⟩ (fun cdv A outer s H E hr tk hp =>
    (ds_cons (ds_exp (DE.bo (de_call D_check_from tk (hr.mono (by decide)) (da_z (de_v 0) (da_z de_int da_nil)))))
    (ds_cons (ds_exp (DE.bo (de_call D_check_between tk (hr.mono (by decide)) (da_z (de_v 1) (da_z de_int (da_z (de_gi T.c_MOST_BASE.choose_spec) da_nil))))))
    (ds_cons (ds_own 2 nd (de_lst da_nil))
    (ds_cons (ds_while hp (dt_gt (DE.bo (de_v 0)) (DE.bo de_int))
    (ds_cons (ds_app 2 (de_mod (DE.bo (de_v 0)) (DE.bo (de_v 1))))
    (ds_one (ds_divA 0 nd (DE.bo (de_v 1))))))
    (ds_one (ds_frz 2 (ds_ret (de_v 2)))))))))

abbrev s_from_digits : Stmt := topS 45
theorem sc_from_digits : FnScope ["told", "base", "n", "digit"] ["told", "base"] (defScope s_from_digits) := ⟨rfl, rfl, rfl, by decide +kernel, rfl, by decide +kernel, by decide +kernel⟩
theorem w_from_digits {f : Addr} {fd : FuncData} (T : Tx P w K mg base cl) (F : Fun K "from_digits" "from_digits" s_from_digits f fd) (hm : mg "from_digits" = some (.ref f)) (b : Binds K fd ["told", "base"] []) (D_check_between : Df P w K mg base cl 3 "check_between" G_check_between) : Df P w K mg base cl 4 "from_digits" G_from_digits := by
  unfold G_from_digits d_from_digits
  have nd := sc_from_digits.nd
  exact def_D F sc_from_digits rfl rfl hm b ⟨rfl, by decide, by decide⟩ (fun cdv A outer s H E hr tk hp =>
    (ds_cons (ds_exp (DE.bo (de_call D_check_between tk (hr.mono (by decide)) (da_z (de_v 1) (da_z de_int (da_z (de_gi T.c_MOST_BASE.choose_spec) da_nil))))))
    (ds_cons (ds_set 2 nd de_int)
    (ds_cons (ds_for hp rfl (di_e (de_v 0)) (dg_n 3 nd)
    (ds_one (ds_exp (DE.bo (de_call D_check_between tk (hr.mono (by decide)) (da_z (de_v 3) (da_z de_int (da_z (de_sub (DE.bo (de_v 1)) (DE.bo de_int)) da_nil))))))))
    (ds_cons (ds_for hp rfl (di_e (DE.fz (de_rev (DE.bo (de_v 0))))) (dg_n 3 nd)
    (ds_one (ds_set 2 nd (de_add (DE.bo (de_mul (DE.bo (de_v 2)) (DE.bo (de_v 1)))) (DE.bo (de_v 3))))))
    (ds_one (ds_ret (de_v 2))))))))

abbrev s_times_in : Stmt := topS 46
theorem sc_times_in : FnScope ["n", "p"] ["n", "p"] (defScope s_times_in) := ⟨rfl, rfl, rfl, by decide +kernel, rfl, by decide +kernel, by decide +kernel⟩
theorem w_times_in {f : Addr} {fd : FuncData} (T : Tx P w K mg base cl) (F : Fun K "times_in" "times_in" s_times_in f fd) (hm : mg "times_in" = some (.ref f)) (b : Binds K fd ["n", "p"] []) (D_check_from : Df P w K mg base cl 3 "check_from" G_check_from) (D_times_of : Df P w K mg base cl 1 "times_of" G_times_of) : Df P w K mg base cl 4 "times_in" G_times_in := by
  unfold G_times_in d_times_in
  have nd := sc_times_in.nd
  exact def_D F sc_times_in rfl rfl hm b ⟨rfl, by decide, by decide⟩ (fun cdv A outer s H E hr tk hp =>
    (ds_cons (ds_if (dt_eq hr (DE.bo (de_v 0)) (DE.bo de_int))
    (ds_one (ds_raise1 T.x_OutOfRange tk (hr.mono (by decide)) (DE.bo (de_v 0))))
    ds_nil)
    (ds_cons (ds_exp (DE.bo (de_call D_check_from tk (hr.mono (by decide)) (da_z (de_v 1) (da_z de_int da_nil)))))
    (ds_one (ds_ret (de_call D_times_of tk (hr.mono (by decide)) (da_z (de_v 0) (da_z (de_v 1) da_nil))))))))

abbrev s_root_below : Stmt := topS 47
theorem sc_root_below : FnScope ["n", "k"] ["n", "k"] (defScope s_root_below) := ⟨rfl, rfl, rfl, by decide +kernel, rfl, by decide +kernel, by decide +kernel⟩
theorem w_root_below {f : Addr} {fd : FuncData} (T : Tx P w K mg base cl) (F : Fun K "root_below" "root_below" s_root_below f fd) (hm : mg "root_below" = some (.ref f)) (b : Binds K fd ["n", "k"] []) (D_check_from : Df P w K mg base cl 3 "check_from" G_check_from) (D_check_between : Df P w K mg base cl 3 "check_between" G_check_between) (D_root_of_power : Df P w K mg base cl 2 "root_of_power" G_root_of_power) : Df P w K mg base cl 4 "root_below" G_root_below := by
  unfold G_root_below d_root_below
  have nd := sc_root_below.nd
  exact def_D F sc_root_below rfl rfl hm b ⟨rfl, by decide, by decide⟩ (fun cdv A outer s H E hr tk hp =>
    (ds_cons (ds_exp (DE.bo (de_call D_check_from tk (hr.mono (by decide)) (da_z (de_v 0) (da_z de_int da_nil)))))
    (ds_cons (ds_exp (DE.bo (de_call D_check_between tk (hr.mono (by decide)) (da_z (de_v 1) (da_z de_int (da_z (de_gi T.c_MOST_ROOT.choose_spec) da_nil))))))
    (ds_one (ds_ret (de_call D_root_of_power tk (hr.mono (by decide)) (da_z (de_v 0) (da_z (de_v 1) da_nil))))))))

abbrev s_power_form : Stmt := topS 48
theorem sc_power_form : FnScope ["n", "k"] ["n"] (defScope s_power_form) := ⟨rfl, rfl, rfl, by decide +kernel, rfl, by decide +kernel, by decide +kernel⟩
theorem w_power_form {f : Addr} {fd : FuncData} (T : Tx P w K mg base cl) (F : Fun K "power_form" "power_form" s_power_form f fd) (hm : mg "power_form" = some (.ref f)) (b : Binds K fd ["n"] []) (D_check_from : Df P w K mg base cl 3 "check_from" G_check_from) (D_to_power : Df P w K mg base cl 1 "to_power" G_to_power) (D_root_of_power : Df P w K mg base cl 2 "root_of_power" G_root_of_power) : Df P w K mg base cl 4 "power_form" G_power_form := by
  unfold G_power_form d_power_form
  have nd := sc_power_form.nd
  exact def_D F sc_power_form rfl rfl hm b ⟨rfl, by decide, by decide⟩ (fun cdv A outer s H E hr tk hp =>
    (ds_cons (ds_exp (DE.bo (de_call D_check_from tk (hr.mono (by decide)) (da_z (de_v 0) (da_z de_int da_nil)))))
    (ds_cons (ds_set 1 nd de_int)
    (ds_cons (ds_while hp (dt_le (DE.bo (de_call D_to_power tk (hr.mono (by decide)) (da_z de_int (da_z (de_add (DE.bo (de_v 1)) (DE.bo de_int)) da_nil)))) (DE.bo (de_v 0)))
    (ds_one (ds_addA 1 nd (DE.bo de_int))))
    (ds_cons (ds_while hp (dt_ne hr (DE.bo (de_call D_to_power tk (hr.mono (by decide)) (da_z (de_call D_root_of_power tk (hr.mono (by decide)) (da_z (de_v 0) (da_z (de_v 1) da_nil))) (da_z (de_v 1) da_nil)))) (DE.bo (de_v 0)))
    (ds_one (ds_subA 1 nd (DE.bo de_int))))
    (ds_one (ds_ret (de_tup (da_z (de_call D_root_of_power tk (hr.mono (by decide)) (da_z (de_v 0) (da_z (de_v 1) da_nil))) (da_z (de_v 1) da_nil))))))))))

abbrev s_is_square : Stmt := topS 49
theorem sc_is_square : FnScope ["n"] ["n"] (defScope s_is_square) := ⟨rfl, rfl, rfl, by decide +kernel, rfl, by decide +kernel, by decide +kernel⟩
theorem w_is_square {f : Addr} {fd : FuncData} (T : Tx P w K mg base cl) (F : Fun K "is_square" "is_square" s_is_square f fd) (hm : mg "is_square" = some (.ref f)) (b : Binds K fd ["n"] []) (D_is_square_number : Df P w K mg base cl 4 "is_square_number" G_is_square_number) : Df P w K mg base cl 5 "is_square" G_is_square := by
  unfold G_is_square d_is_square
  have nd := sc_is_square.nd
  exact def_D F sc_is_square rfl rfl hm b ⟨rfl, by decide, by decide⟩ (fun cdv A outer s H E hr tk hp =>
    (ds_one (ds_ret (de_call D_is_square_number tk (hr.mono (by decide)) (da_z (de_v 0) da_nil)))))

abbrev s_square_part : Stmt := topS 50
theorem sc_square_part : FnScope ["n", "s", "f", "p", "count"] ["n"] (defScope s_square_part) := ⟨rfl, rfl, rfl, by decide +kernel, rfl, by decide +kernel, by decide +kernel⟩
theorem w_square_part {f : Addr} {fd : FuncData} (T : Tx P w K mg base cl) (F : Fun K "square_part" "square_part" s_square_part f fd) (hm : mg "square_part" = some (.ref f)) (b : Binds K fd ["n"] []) (D_sign_of : Df P w K mg base cl 1 "sign_of" G_sign_of) (D_parted : Df P w K mg base cl 4 "parted" G_parted) (D_to_power : Df P w K mg base cl 1 "to_power" G_to_power) : Df P w K mg base cl 5 "square_part" G_square_part := by
  unfold G_square_part d_square_part
  have nd := sc_square_part.nd
  exact def_D F sc_square_part rfl rfl hm b ⟨rfl, by decide, by decide⟩ (fun cdv A outer s H E hr tk hp =>
    (ds_cons (ds_if (dt_eq hr (DE.bo (de_v 0)) (DE.bo de_int))
    (ds_one (ds_raise1 T.x_OutOfRange tk (hr.mono (by decide)) (DE.bo (de_v 0))))
    ds_nil)
    (ds_cons (ds_par (i := 1) (j := 2) rfl nd (da_z de_int (da_z (de_call D_sign_of tk (hr.mono (by decide)) (da_z (de_v 0) da_nil)) da_nil)) (by rfl))
    (ds_cons (ds_for hp rfl (di_e (de_call D_parted tk (hr.mono (by decide)) (da_z (de_abs T.b_abs (DE.bo (de_v 0))) da_nil))) (dg_t rfl (dgs_cons (dg_n 3 nd) (dgs_cons (dg_n 4 nd) dgs_nil)))
    (ds_cons (ds_mulA 1 nd (DE.bo (de_call D_to_power tk (hr.mono (by decide)) (da_z (de_v 3) (da_z (de_div (DE.bo (de_v 4)) (DE.bo de_int)) da_nil)))))
    (ds_one (ds_mulA 2 nd (DE.bo (de_call D_to_power tk (hr.mono (by decide)) (da_z (de_v 3) (da_z (de_mod (DE.bo (de_v 4)) (DE.bo de_int)) da_nil))))))))
    (ds_one (ds_ret (de_tup (da_z (de_v 1) (da_z (de_v 2) da_nil)))))))))

abbrev s_ratio_sum : Stmt := topS 51
theorem sc_ratio_sum : FnScope ["first", "second"] ["first", "second"] (defScope s_ratio_sum) := ⟨rfl, rfl, rfl, by decide +kernel, rfl, by decide +kernel, by decide +kernel⟩
theorem w_ratio_sum {f : Addr} {fd : FuncData} (T : Tx P w K mg base cl) (F : Fun K "ratio_sum" "ratio_sum" s_ratio_sum f fd) (hm : mg "ratio_sum" = some (.ref f)) (b : Binds K fd ["first", "second"] []) (D_check_ratio : Df P w K mg base cl 3 "check_ratio" G_check_ratio) (D_plus : Df P w K mg base cl 3 "plus" G_plus) : Df P w K mg base cl 4 "ratio_sum" G_ratio_sum := by
  unfold G_ratio_sum d_ratio_sum
  have nd := sc_ratio_sum.nd
  exact def_D F sc_ratio_sum rfl rfl hm b ⟨rfl, by decide, by decide⟩ (fun cdv A outer s H E hr tk hp =>
    (ds_cons (ds_exp (DE.bo (de_call D_check_ratio tk (hr.mono (by decide)) (da_z (de_v 0) da_nil))))
    (ds_cons (ds_exp (DE.bo (de_call D_check_ratio tk (hr.mono (by decide)) (da_z (de_v 1) da_nil))))
    (ds_one (ds_ret (de_call D_plus tk (hr.mono (by decide)) (da_z (de_v 0) (da_z (de_v 1) da_nil))))))))

abbrev s_ratio_times : Stmt := topS 52
theorem sc_ratio_times : FnScope ["first", "second"] ["first", "second"] (defScope s_ratio_times) := ⟨rfl, rfl, rfl, by decide +kernel, rfl, by decide +kernel, by decide +kernel⟩
theorem w_ratio_times {f : Addr} {fd : FuncData} (T : Tx P w K mg base cl) (F : Fun K "ratio_times" "ratio_times" s_ratio_times f fd) (hm : mg "ratio_times" = some (.ref f)) (b : Binds K fd ["first", "second"] []) (D_check_ratio : Df P w K mg base cl 3 "check_ratio" G_check_ratio) (D_by : Df P w K mg base cl 3 "by" G_by) : Df P w K mg base cl 4 "ratio_times" G_ratio_times := by
  unfold G_ratio_times d_ratio_times
  have nd := sc_ratio_times.nd
  exact def_D F sc_ratio_times rfl rfl hm b ⟨rfl, by decide, by decide⟩ (fun cdv A outer s H E hr tk hp =>
    (ds_cons (ds_exp (DE.bo (de_call D_check_ratio tk (hr.mono (by decide)) (da_z (de_v 0) da_nil))))
    (ds_cons (ds_exp (DE.bo (de_call D_check_ratio tk (hr.mono (by decide)) (da_z (de_v 1) da_nil))))
    (ds_one (ds_ret (de_call D_by tk (hr.mono (by decide)) (da_z (de_v 0) (da_z (de_v 1) da_nil))))))))

abbrev s_ratio_below : Stmt := topS 53
theorem sc_ratio_below : FnScope ["first", "second"] ["first", "second"] (defScope s_ratio_below) := ⟨rfl, rfl, rfl, by decide +kernel, rfl, by decide +kernel, by decide +kernel⟩
theorem w_ratio_below {f : Addr} {fd : FuncData} (T : Tx P w K mg base cl) (F : Fun K "ratio_below" "ratio_below" s_ratio_below f fd) (hm : mg "ratio_below" = some (.ref f)) (b : Binds K fd ["first", "second"] []) (D_check_ratio : Df P w K mg base cl 3 "check_ratio" G_check_ratio) (D_is_below : Df P w K mg base cl 1 "is_below" G_is_below) : Df P w K mg base cl 4 "ratio_below" G_ratio_below := by
  unfold G_ratio_below d_ratio_below
  have nd := sc_ratio_below.nd
  exact def_D F sc_ratio_below rfl rfl hm b ⟨rfl, by decide, by decide⟩ (fun cdv A outer s H E hr tk hp =>
    (ds_cons (ds_exp (DE.bo (de_call D_check_ratio tk (hr.mono (by decide)) (da_z (de_v 0) da_nil))))
    (ds_cons (ds_exp (DE.bo (de_call D_check_ratio tk (hr.mono (by decide)) (da_z (de_v 1) da_nil))))
    (ds_one (ds_ret (de_call D_is_below tk (hr.mono (by decide)) (da_z (de_v 0) (da_z (de_v 1) da_nil))))))))

abbrev s_check_gcd : Stmt := topS 55
theorem sc_check_gcd : FnScope ["numbers", "told", "g", "n", "a", "b"] ["numbers", "told", "g"] (defScope s_check_gcd) := ⟨rfl, rfl, rfl, by decide +kernel, rfl, by decide +kernel, by decide +kernel⟩
theorem w_check_gcd {f : Addr} {fd : FuncData} (T : Tx P w K mg base cl) (F : Fun K "check_gcd" "check_gcd" s_check_gcd f fd) (hm : mg "check_gcd" = some (.ref f)) (b : Binds K fd ["numbers", "told", "g"] []) : Df P w K mg base cl 1 "check_gcd" G_check_gcd := by
  unfold G_check_gcd d_check_gcd
  have nd := sc_check_gcd.nd
  exact def_D F sc_check_gcd rfl rfl hm b ⟨rfl, by decide, by decide⟩ (fun cdv A outer s H E hr tk hp =>
    (ds_cons (ds_if (DW.dt (dw_or (dt_not (dt_v (by intro _; rfl) (de_isLst T.b_isinstance T.b_list (DE.bo (de_v 1))))) (dw_or (dt_ne hr (DE.bo (de_len T.b_len (DE.bo (de_v 1)))) (DE.bo (de_len T.b_len (DE.bo (de_v 0))))) (dw_or1 (dt_lt (DE.bo (de_v 2)) (DE.bo de_int))))))
    (ds_one (ds_ret de_ff))
    ds_nil)
    (ds_cons (ds_if (dt_in hr (DE.bo de_ff) (DE.bo (de_comp rfl nd (by exact (di_e (de_v 0))) (blkOk_by (own := [("n", 3)]) (by show blkC ["numbers", "told", "g", "n", "a", "b"] (defScope s_check_gcd) _ _ = true; decide +kernel)) (fun _ _ _ _ _ => (dg_n 3 nd)) (fun _ _ _ _ _ => dts_nil) (fun _ _ _ _ _ => (de_if (dt_eq hr (DE.bo (de_v 2)) (DE.bo de_int)) (de_eq hr (DE.bo (de_v 3)) (DE.bo de_int)) (de_eq hr (DE.bo (de_mod (DE.bo (de_v 3)) (DE.bo (de_v 2)))) (DE.bo de_int)))))))
    (ds_one (ds_ret de_ff))
    ds_nil)
    (ds_one (ds_ret (de_eq hr (DE.bo (de_sum T.b_sum (DE.bo (de_comp rfl nd (by exact (di_zip T.b_zip (de_v 0) (de_v 1))) (blkOk_by (own := [("a", 4), ("b", 5)]) (by show blkC ["numbers", "told", "g", "n", "a", "b"] (defScope s_check_gcd) _ _ = true; decide +kernel)) (fun _ _ _ _ _ => (dg_t rfl (dgs_cons (dg_n 4 nd) (dgs_cons (dg_n 5 nd) dgs_nil)))) (fun _ _ _ _ _ => dts_nil) (fun _ _ _ _ _ => (de_mul (DE.bo (de_v 4)) (DE.bo (de_v 5)))))))) (DE.bo (de_v 2))))))))

abbrev s__law_cell : Stmt := topS 57
theorem sc__law_cell : FnScope ["script", "k"] ["script", "k"] (defScope s__law_cell) := ⟨rfl, rfl, rfl, by decide +kernel, rfl, by decide +kernel, by decide +kernel⟩
theorem w__law_cell {f : Addr} {fd : FuncData} (T : Tx P w K mg base cl) (F : Fun K "_law_cell" "_law_cell" s__law_cell f fd) (hm : mg "_law_cell" = some (.ref f)) (b : Binds K fd ["script", "k"] []) : Df P w K mg base cl 1 "_law_cell" G__law_cell := by
  unfold G__law_cell d__law_cell
  have nd := sc__law_cell.nd
  exact def_D F sc__law_cell rfl rfl hm b ⟨rfl, by decide, by decide⟩ (fun cdv A outer s H E hr tk hp =>
    (ds_cons (ds_if (dt_lt (DE.bo (de_v 1)) (DE.bo (de_len T.b_len (DE.bo (de_v 0)))))
    (ds_one (ds_ret (de_ix (fun _ _ => rfl) (DE.bo (de_v 0)) (DE.bo (de_v 1)))))
    ds_nil)
    (ds_one (ds_ret de_int))))

abbrev s__law_draw : Stmt := topS 58
theorem sc__law_draw : FnScope ["cell", "limits", "picks", "rest", "great", "k", "blend"] ["cell", "limits"] (defScope s__law_draw) := ⟨rfl, rfl, rfl, by decide +kernel, rfl, by decide +kernel, by decide +kernel⟩
theorem w__law_draw {f : Addr} {fd : FuncData} (T : Tx P w K mg base cl) (F : Fun K "_law_draw" "_law_draw" s__law_draw f fd) (hm : mg "_law_draw" = some (.ref f)) (b : Binds K fd ["cell", "limits"] []) : Df P w K mg base cl 1 "_law_draw" G__law_draw := by
  unfold G__law_draw d__law_draw
  have nd := sc__law_draw.nd
  exact def_D F sc__law_draw rfl rfl hm b ⟨rfl, by decide, by decide⟩ (fun cdv A outer s H E hr tk hp =>
    (ds_cons (ds_own 2 nd (de_lst da_nil))
    (ds_cons (ds_set 3 nd (de_abs T.b_abs (DE.bo (de_v 0))))
    (ds_cons (ds_set 4 nd (de_ge (DE.bo (de_v 3)) (DE.bo de_int)))
    (ds_cons (ds_for hp rfl (di_r1 T.b_range (DE.bo (de_len T.b_len (DE.bo (de_v 1))))) (dg_n 5 nd)
    (ds_one (ds_if (DW.dt (dw_and (dt_v (by intro _; rfl) (de_v 4)) (dw_and1 (dt_ge (DE.bo (de_v 3)) (DE.bo (de_ix (fun _ _ => rfl) (DE.bo (de_v 1)) (DE.bo (de_v 5))))))))
    (ds_cons (ds_app 2 (de_mod (DE.bo (de_toint T.b_int (DE.bo (de_v 3)))) (DE.bo (de_ix (fun _ _ => rfl) (DE.bo (de_v 1)) (DE.bo (de_v 5))))))
    (ds_one (ds_set 3 nd (de_div (DE.bo (de_v 3)) (DE.bo (de_ix (fun _ _ => rfl) (DE.bo (de_v 1)) (DE.bo (de_v 5))))))))
    (ds_cons (ds_set 6 nd (de_mod (DE.bo (de_toint T.b_int (DE.bo (de_add (DE.bo (de_mul (DE.bo (de_abs T.b_abs (DE.bo (de_v 0)))) (DE.bo de_int))) (DE.bo (de_mul (DE.bo (de_add (DE.bo (de_v 5)) (DE.bo de_int))) (DE.bo de_int))))))) (DE.bo de_int)))
    (ds_cons (ds_set 6 nd (de_mod (DE.bo (de_toint T.b_int (DE.bo (de_add (DE.bo (de_mul (DE.bo (de_v 6)) (DE.bo (de_add (DE.bo (de_add (DE.bo (de_v 6)) (DE.bo (de_mul (DE.bo de_int) (DE.bo (de_v 5)))))) (DE.bo de_int))))) (DE.bo de_int))))) (DE.bo de_int)))
    (ds_cons (ds_set 6 nd (de_mod (DE.bo (de_toint T.b_int (DE.bo (de_add (DE.bo (de_mul (DE.bo (de_v 6)) (DE.bo de_int))) (DE.bo (de_mul (DE.bo (de_add (DE.bo (de_v 5)) (DE.bo de_int))) (DE.bo de_int))))))) (DE.bo de_int)))
    (ds_one (ds_app 2 (de_mod (DE.bo (de_toint T.b_int (DE.bo (de_v 6)))) (DE.bo (de_ix (fun _ _ => rfl) (DE.bo (de_v 1)) (DE.bo (de_v 5)))))))))))))
    (ds_one (ds_frz 2 (ds_ret (de_v 2)))))))))

abbrev s__law_gcd : Stmt := topS 59
theorem sc__law_gcd : FnScope ["a", "b", "lap", "rest"] ["a", "b"] (defScope s__law_gcd) := ⟨rfl, rfl, rfl, by decide +kernel, rfl, by decide +kernel, by decide +kernel⟩
theorem w__law_gcd {f : Addr} {fd : FuncData} (T : Tx P w K mg base cl) (F : Fun K "_law_gcd" "_law_gcd" s__law_gcd f fd) (hm : mg "_law_gcd" = some (.ref f)) (b : Binds K fd ["a", "b"] []) : Df P w K mg base cl 1 "_law_gcd" G__law_gcd := by
  unfold G__law_gcd d__law_gcd
  have nd := sc__law_gcd.nd
  exact def_D F sc__law_gcd rfl rfl hm b ⟨rfl, by decide, by decide⟩ (fun cdv A outer s H E hr tk hp =>
    (ds_cons (ds_set 0 nd (de_abs T.b_abs (DE.bo (de_v 0))))
    (ds_cons (ds_set 1 nd (de_abs T.b_abs (DE.bo (de_v 1))))
    (ds_cons (ds_for hp rfl (di_r1 T.b_range (DE.bo de_int)) (dg_n 2 nd)
    (ds_one (ds_if (dt_ne hr (DE.bo (de_v 1)) (DE.bo de_int))
    (ds_cons (ds_set 3 nd (de_mod (DE.bo (de_toint T.b_int (DE.bo (de_v 0)))) (DE.bo (de_toint T.b_int (DE.bo (de_v 1))))))
    (ds_cons (ds_set 0 nd (de_v 1))
    (ds_one (ds_set 1 nd (de_v 3)))))
    ds_nil)))
    (ds_one (ds_ret (de_v 0)))))))

abbrev s__law_ratio : Stmt := topS 60
theorem sc__law_ratio : FnScope ["a", "b", "share"] ["a", "b"] (defScope s__law_ratio) := ⟨rfl, rfl, rfl, by decide +kernel, rfl, by decide +kernel, by decide +kernel⟩
theorem w__law_ratio {f : Addr} {fd : FuncData} (T : Tx P w K mg base cl) (F : Fun K "_law_ratio" "_law_ratio" s__law_ratio f fd) (hm : mg "_law_ratio" = some (.ref f)) (b : Binds K fd ["a", "b"] []) (D__law_gcd : Df P w K mg base cl 1 "_law_gcd" G__law_gcd) : Df P w K mg base cl 2 "_law_ratio" G__law_ratio := by
  unfold G__law_ratio d__law_ratio
  have nd := sc__law_ratio.nd
  exact def_D F sc__law_ratio rfl rfl hm b ⟨rfl, by decide, by decide⟩ (fun cdv A outer s H E hr tk hp =>
    (ds_cons (ds_set 2 nd (de_call D__law_gcd tk (hr.mono (by decide)) (da_z (de_v 0) (da_z (de_v 1) da_nil))))
    (ds_cons (ds_if (dt_lt (DE.bo (de_v 1)) (DE.bo de_int))
    (ds_one (ds_set 2 nd (de_neg (DE.bo (de_v 2)))))
    ds_nil)
    (ds_one (ds_ret (de_tup (da_z (de_div (DE.bo (de_v 0)) (DE.bo (de_v 2))) (da_z (de_div (DE.bo (de_v 1)) (DE.bo (de_v 2))) da_nil))))))))

abbrev s__law_told : Stmt := topS 61
theorem sc__law_told : FnScope ["way", "a", "b", "e"] ["way", "a", "b"] (defScope s__law_told) := ⟨rfl, rfl, rfl, by decide +kernel, rfl, by decide +kernel, by decide +kernel⟩
theorem w__law_told {f : Addr} {fd : FuncData} (T : Tx P w K mg base cl) (F : Fun K "_law_told" "_law_told" s__law_told f fd) (hm : mg "_law_told" = some (.ref f)) (b : Binds K fd ["way", "a", "b"] []) (D_divide : Df P w K mg base cl 3 "divide" G_divide) (D_digits : Df P w K mg base cl 4 "digits" G_digits) (D_root_below : Df P w K mg base cl 4 "root_below" G_root_below) (D_ratio_sum : Df P w K mg base cl 4 "ratio_sum" G_ratio_sum) (D_from_digits : Df P w K mg base cl 4 "from_digits" G_from_digits) (D_power_form : Df P w K mg base cl 4 "power_form" G_power_form) : Df P w K mg base cl 5 "_law_told" G__law_told := by
  unfold G__law_told d__law_told
  have nd := sc__law_told.nd
  exact def_D F sc__law_told rfl rfl hm b ⟨rfl, by decide, by decide⟩ (fun cdv A outer s H E hr tk hp =>
    (ds_one (ds_try T.em tk (fun _ _ _ tk hp => (ds_cons (ds_if (dt_eq hr (DE.bo (de_v 0)) (DE.bo de_int))
    (ds_one (ds_ret (de_tup (da_z (de_str rfl) (da_z (de_call D_divide tk (hr.mono (by decide)) (da_z (de_v 1) (da_z (de_v 2) da_nil))) da_nil)))))
    ds_nil)
    (ds_cons (ds_if (dt_eq hr (DE.bo (de_v 0)) (DE.bo de_int))
    (ds_one (ds_ret (de_tup (da_z (de_str rfl) (da_z (de_call D_digits tk (hr.mono (by decide)) (da_z (de_v 1) (da_z (de_v 2) da_nil))) da_nil)))))
    ds_nil)
    (ds_cons (ds_if (dt_eq hr (DE.bo (de_v 0)) (DE.bo de_int))
    (ds_one (ds_ret (de_tup (da_z (de_str rfl) (da_z (de_call D_root_below tk (hr.mono (by decide)) (da_z (de_v 1) (da_z (de_v 2) da_nil))) da_nil)))))
    ds_nil)
    (ds_cons (ds_if (dt_eq hr (DE.bo (de_v 0)) (DE.bo de_int))
    (ds_one (ds_ret (de_tup (da_z (de_str rfl) (da_z (de_call D_ratio_sum tk (hr.mono (by decide)) (da_z (de_v 1) (da_z (de_v 2) da_nil))) da_nil)))))
    ds_nil)
    (ds_cons (ds_if (dt_eq hr (DE.bo (de_v 0)) (DE.bo de_int))
    (ds_one (ds_ret (de_tup (da_z (de_str rfl) (da_z (de_call D_from_digits tk (hr.mono (by decide)) (da_z (de_v 1) (da_z (de_v 2) da_nil))) da_nil)))))
    ds_nil)
    (ds_one (ds_ret (de_tup (da_z (de_str rfl) (da_z (de_call D_power_form tk (hr.mono (by decide)) (da_z (de_v 1) da_nil)) da_nil)))))))))))
    (hdd_cons T.y_NoDivision (fun _ _ _ => (ds_one (ds_ret (de_tup (da_z (de_str rfl) (da_z de_int da_nil))))))
    (hdd_asn 3 T.v_OutOfRange_value nd (hdd_cons T.y_BadRatio (fun _ _ _ => (ds_one (ds_ret (de_tup (da_z (de_str rfl) (da_z de_int da_nil))))))
    (hdd_cons T.y_RingError (fun _ _ _ => (ds_one (ds_ret (de_tup (da_z (de_str rfl) (da_z de_int da_nil))))))
    HdD.nil)))))))

abbrev s__law_divide : Stmt := topS 62
theorem sc__law_divide : FnScope ["a", "b", "r"] ["a", "b"] (defScope s__law_divide) := ⟨rfl, rfl, rfl, by decide +kernel, rfl, by decide +kernel, by decide +kernel⟩
theorem w__law_divide {f : Addr} {fd : FuncData} (T : Tx P w K mg base cl) (F : Fun K "_law_divide" "_law_divide" s__law_divide f fd) (hm : mg "_law_divide" = some (.ref f)) (b : Binds K fd ["a", "b"] []) : Df P w K mg base cl 1 "_law_divide" G__law_divide := by
  unfold G__law_divide d__law_divide
  have nd := sc__law_divide.nd
  exact def_D F sc__law_divide rfl rfl hm b ⟨rfl, by decide, by decide⟩ (fun cdv A outer s H E hr tk hp =>
    (ds_cons (ds_set 2 nd (de_mod (DE.bo (de_toint T.b_int (DE.bo (de_v 0)))) (DE.bo (de_abs T.b_abs (DE.bo (de_v 1))))))
    (ds_one (ds_ret (de_tup (da_z (de_div (DE.bo (de_sub (DE.bo (de_v 0)) (DE.bo (de_v 2)))) (DE.bo (de_v 1))) (da_z (de_v 2) da_nil)))))))

abbrev s__law_pair : Stmt := topS 63
theorem sc__law_pair : FnScope ["a", "b", "told", "steps", "here", "lap", "one", "g", "paper"] ["a", "b"] (defScope s__law_pair) := ⟨rfl, rfl, rfl, by decide +kernel, rfl, by decide +kernel, by decide +kernel⟩
theorem w__law_pair {f : Addr} {fd : FuncData} (T : Tx P w K mg base cl) (F : Fun K "_law_pair" "_law_pair" s__law_pair f fd) (hm : mg "_law_pair" = some (.ref f)) (b : Binds K fd ["a", "b"] []) (D__law_divide : Df P w K mg base cl 1 "_law_divide" G__law_divide) (D_divide : Df P w K mg base cl 3 "divide" G_divide) (D_gcd_steps : Df P w K mg base cl 4 "gcd_steps" G_gcd_steps) (D__law_gcd : Df P w K mg base cl 1 "_law_gcd" G__law_gcd) (D_gcd_paper : Df P w K mg base cl 2 "gcd_paper" G_gcd_paper) (D_gcd : Df P w K mg base cl 2 "gcd" G_gcd) (D_divides : Df P w K mg base cl 1 "divides" G_divides) : Df P w K mg base cl 5 "_law_pair" G__law_pair := by
  unfold G__law_pair d__law_pair
  have nd := sc__law_pair.nd
  exact def_D F sc__law_pair rfl rfl hm b ⟨rfl, by decide, by decide⟩ (fun cdv A outer s H E hr tk hp =>
    (ds_cons (ds_if (dt_ne hr (DE.bo (de_v 1)) (DE.bo de_int))
    (ds_cons (ds_set 2 nd (de_call D__law_divide tk (hr.mono (by decide)) (da_z (de_v 0) (da_z (de_v 1) da_nil))))
    (ds_cons (ds_if (dt_ne hr (DE.bo (de_tuple T.b_tuple (DE.bo (de_call D_divide tk (hr.mono (by decide)) (da_z (de_v 0) (da_z (de_v 1) da_nil)))))) (DE.bo (de_v 2)))
    (ds_one (ds_ret de_ff))
    ds_nil)
    (ds_cons (ds_own 3 nd (de_lst da_nil))
    (ds_cons (ds_set 4 nd (de_tup (da_z (de_v 0) (da_z (de_v 1) da_nil))))
    (ds_cons (ds_for hp rfl (di_r1 T.b_range (DE.bo de_int)) (dg_n 5 nd)
    (ds_one (ds_if (dt_ne hr (DE.bo (de_ix (fun _ _ => rfl) (DE.bo (de_v 4)) (DE.bo de_int))) (DE.bo de_int))
    (ds_cons (ds_set 6 nd (de_call D__law_divide tk (hr.mono (by decide)) (da_z (de_ix (fun _ _ => rfl) (DE.bo (de_v 4)) (DE.bo de_int)) (da_z (de_ix (fun _ _ => rfl) (DE.bo (de_v 4)) (DE.bo de_int)) da_nil))))
    (ds_cons (ds_app 3 (de_ix (fun _ _ => rfl) (DE.bo (de_v 6)) (DE.bo de_int)))
    (ds_one (ds_set 4 nd (de_tup (da_z (de_ix (fun _ _ => rfl) (DE.bo (de_v 4)) (DE.bo de_int)) (da_z (de_ix (fun _ _ => rfl) (DE.bo (de_v 6)) (DE.bo de_int)) da_nil)))))))
    ds_nil)))
    (ds_one (ds_if (dt_ne hr (DE.bo (de_call D_gcd_steps tk (hr.mono (by decide)) (da_z (de_v 0) (da_z (de_v 1) da_nil)))) (de_b 3))
    (ds_one (ds_ret de_ff))
    ds_nil)))))))
    ds_nil)
    (ds_cons (ds_set 7 nd (de_call D__law_gcd tk (hr.mono (by decide)) (da_z (de_v 0) (da_z (de_v 1) da_nil))))
    (ds_cons (ds_set 8 nd (de_call D_gcd_paper tk (hr.mono (by decide)) (da_z (de_v 0) (da_z (de_v 1) da_nil))))
    (ds_cons (ds_if (DW.dt (dw_or (dt_ne hr (DE.bo (de_call D_gcd tk (hr.mono (by decide)) (da_z (de_v 0) (da_z (de_v 1) da_nil)))) (DE.bo (de_v 7))) (dw_or (dt_ne hr (DE.bo (de_call D_divides tk (hr.mono (by decide)) (da_z (de_v 1) (da_z (de_v 0) da_nil)))) (DE.bo (de_or (de_and (de_eq hr (DE.bo (de_v 1)) (DE.bo de_int)) (de_one (de_eq hr (DE.bo (de_v 0)) (DE.bo de_int)))) (de_one (de_and (de_ne hr (DE.bo (de_v 1)) (DE.bo de_int)) (de_one (de_eq hr (DE.bo (de_mod (DE.bo (de_toint T.b_int (DE.bo (de_v 0)))) (DE.bo (de_v 1)))) (DE.bo de_int)))))))) (dw_or (dt_ne hr (DE.bo (de_ix (fun _ _ => rfl) (DE.bo (de_v 8)) (DE.bo de_int))) (DE.bo (de_v 7))) (dw_or1 (dt_ne hr (DE.bo (de_add (DE.bo (de_mul (DE.bo (de_ix (fun _ _ => rfl) (DE.bo (de_v 8)) (DE.bo de_int))) (DE.bo (de_v 0)))) (DE.bo (de_mul (DE.bo (de_ix (fun _ _ => rfl) (DE.bo (de_v 8)) (DE.bo de_int))) (DE.bo (de_v 1)))))) (DE.bo (de_v 7))))))))
    (ds_one (ds_ret de_ff))
    ds_nil)
    (ds_cons (ds_if (DW.dt (dw_and (dt_ne hr (DE.bo (de_v 1)) (DE.bo de_int)) (dw_and (dt_not (dt_chn op_le op_lt b_le b_lt m_le m_lt (DE.bo de_int) (DE.bo (de_mul (DE.bo (de_ix (fun _ _ => rfl) (DE.bo (de_v 8)) (DE.bo de_int))) (DE.bo (de_v 7)))) (DE.bo (de_max2 T.b_max (DE.bo (de_abs T.b_abs (DE.bo (de_v 1)))) (DE.bo (de_v 7)))))) (dw_and1 (dt_not (DW.dt (dw_and (dt_eq hr (DE.bo (de_abs T.b_abs (DE.bo (de_v 1)))) (DE.bo (de_v 7))) (dw_and1 (dt_eq hr (DE.bo (de_ix (fun _ _ => rfl) (DE.bo (de_v 8)) (DE.bo de_int))) (DE.bo de_int))))))))))
    (ds_one (ds_ret de_ff))
    ds_nil)
    (ds_one (ds_ret (de_or (de_ne hr (DE.bo (de_v 1)) (DE.bo de_int)) (de_one (de_eq hr (DE.bo (de_tup (da_z (de_ix (fun _ _ => rfl) (DE.bo (de_v 8)) (DE.bo de_int)) (da_z (de_ix (fun _ _ => rfl) (DE.bo (de_v 8)) (DE.bo de_int)) da_nil)))) (DE.bo (de_tup (da_z (de_sub (DE.bo (de_toint T.b_int (DE.bo (de_gt (DE.bo (de_v 0)) (DE.bo de_int))))) (DE.bo (de_toint T.b_int (DE.bo (de_lt (DE.bo (de_v 0)) (DE.bo de_int)))))) (da_z de_int da_nil)))))))))))))))

abbrev s__law_one : Stmt := topS 64
theorem sc__law_one : FnScope ["n", "base", "told", "rest", "lap", "k", "root", "low", "high", "square"] ["n"] (defScope s__law_one) := ⟨rfl, rfl, rfl, by decide +kernel, rfl, by decide +kernel, by decide +kernel⟩
theorem w__law_one {f : Addr} {fd : FuncData} (T : Tx P w K mg base cl) (F : Fun K "_law_one" "_law_one" s__law_one f fd) (hm : mg "_law_one" = some (.ref f)) (b : Binds K fd ["n"] []) (D_digits : Df P w K mg base cl 4 "digits" G_digits) (D_from_digits : Df P w K mg base cl 4 "from_digits" G_from_digits) (D_root_below : Df P w K mg base cl 4 "root_below" G_root_below) (D_is_square : Df P w K mg base cl 5 "is_square" G_is_square) : Df P w K mg base cl 6 "_law_one" G__law_one := by
  unfold G__law_one d__law_one
  have nd := sc__law_one.nd
  exact def_D F sc__law_one rfl rfl hm b ⟨rfl, by decide, by decide⟩ (fun cdv A outer s H E hr tk hp =>
    (ds_cons (ds_for hp rfl (di_e (DE.fz (de_lst (da_z de_int (da_z de_int (da_z de_int da_nil)))))) (dg_n 1 nd)
    (ds_cons (ds_own 2 nd (de_lst da_nil))
    (ds_cons (ds_set 3 nd (de_v 0))
    (ds_cons (ds_for hp rfl (di_r1 T.b_range (DE.bo de_int)) (dg_n 4 nd)
    (ds_one (ds_if (dt_gt (DE.bo (de_v 3)) (DE.bo de_int))
    (ds_cons (ds_app 2 (de_mod (DE.bo (de_toint T.b_int (DE.bo (de_v 3)))) (DE.bo (de_v 1))))
    (ds_one (ds_set 3 nd (de_div (DE.bo (de_v 3)) (DE.bo (de_v 1))))))
    ds_nil)))
    (ds_one (ds_frz 2 (ds_if (DW.dt (dw_or (dt_ne hr (DE.bo (de_call D_digits tk (hr.mono (by decide)) (da_z (de_v 0) (da_z (de_v 1) da_nil)))) (de_b 2)) (dw_or1 (dt_ne hr (DE.bo (de_call D_from_digits tk (hr.mono (by decide)) (da_z (de_v 2) (da_z (de_v 1) da_nil)))) (DE.bo (de_v 0))))))
    (ds_one (ds_ret de_ff))
    ds_nil)))))))
    (ds_cons (ds_for hp rfl (di_e (DE.fz (de_lst (da_z de_int (da_z de_int (da_z de_int (da_z de_int da_nil))))))) (dg_n 5 nd)
    (ds_cons (ds_set 6 nd (de_call D_root_below tk (hr.mono (by decide)) (da_z (de_v 0) (da_z (de_v 5) da_nil))))
    (ds_cons (ds_set 7 nd de_int)
    (ds_cons (ds_set 8 nd de_int)
    (ds_cons (ds_for hp rfl (di_r1 T.b_range (DE.bo (de_v 5))) (dg_n 4 nd)
    (ds_cons (ds_set 7 nd (de_mul (DE.bo (de_v 7)) (DE.bo (de_v 6))))
    (ds_one (ds_set 8 nd (de_mul (DE.bo (de_v 8)) (DE.bo (de_add (DE.bo (de_v 6)) (DE.bo de_int))))))))
    (ds_one (ds_if (dt_not (dt_chn op_le op_lt b_le b_lt m_le m_lt (DE.bo (de_v 7)) (DE.bo (de_v 0)) (DE.bo (de_v 8))))
    (ds_one (ds_ret de_ff))
    ds_nil)))))))
    (ds_cons (ds_set 9 nd (de_call D_root_below tk (hr.mono (by decide)) (da_z (de_v 0) (da_z de_int da_nil))))
    (ds_one (ds_ret (de_eq hr (DE.bo (de_call D_is_square tk (hr.mono (by decide)) (da_z (de_v 0) da_nil))) (DE.bo (de_eq hr (DE.bo (de_mul (DE.bo (de_v 9)) (DE.bo (de_v 9)))) (DE.bo (de_v 0)))))))))))

abbrev s_law : Stmt := topS 65
theorem sc_law : FnScope ["script", "k", "cell", "d", "a", "b", "n", "numbers", "g", "row", "j", "many", "x", "p", "size", "rest", "lap", "part", "s", "m", "best", "base", "total", "one", "two"] ["script"] (defScope s_law) := ⟨rfl, rfl, rfl, by decide +kernel, rfl, by decide +kernel, by decide +kernel⟩
theorem ok_law {f : Addr} {fd : FuncData} (T : Tx P w K mg base cl) (F : Fun K "law" "law" s_law f fd) (hm : mg "law" = some (.ref f)) (b : Binds K fd ["script"] []) (D__law_cell : Df P w K mg base cl 1 "_law_cell" G__law_cell) (D__law_draw : Df P w K mg base cl 1 "_law_draw" G__law_draw) (D__law_pair : Df P w K mg base cl 5 "_law_pair" G__law_pair) (D__law_one : Df P w K mg base cl 6 "_law_one" G__law_one) (D__law_gcd : Df P w K mg base cl 1 "_law_gcd" G__law_gcd) (D_gcd_row : Df P w K mg base cl 2 "gcd_row" G_gcd_row) (D_gcd_of : Df P w K mg base cl 3 "gcd_of" G_gcd_of) (D_check_gcd : Df P w K mg base cl 1 "check_gcd" G_check_gcd) (D_lcm_of : Df P w K mg base cl 3 "lcm_of" G_lcm_of) (D_times_in : Df P w K mg base cl 4 "times_in" G_times_in) (D_square_part : Df P w K mg base cl 5 "square_part" G_square_part) (D_power_form : Df P w K mg base cl 4 "power_form" G_power_form) (D__law_ratio : Df P w K mg base cl 2 "_law_ratio" G__law_ratio) (D_ratio_sum : Df P w K mg base cl 4 "ratio_sum" G_ratio_sum) (D_ratio_times : Df P w K mg base cl 4 "ratio_times" G_ratio_times) (D_ratio_below : Df P w K mg base cl 4 "ratio_below" G_ratio_below) (D__law_told : Df P w K mg base cl 5 "_law_told" G__law_told) (D_digits : Df P w K mg base cl 4 "digits" G_digits) : FnOk P w K mg base (L2.CX P w) 7 f fd ["script"] (spD K cl G_law) ∧ MonoG G_law := by
  unfold G_law d_law
  have nd := sc_law.nd
  exact def_D2 F sc_law rfl rfl hm b ⟨rfl, by decide, by decide⟩ (fun cdv A outer s H E hr tk hp =>
    (ds_cons (ds_for hp rfl (di_r1 T.b_range (DE.bo de_int)) (dg_n 1 nd)
    (ds_cons (ds_set 2 nd (de_add (DE.bo (de_abs T.b_abs (DE.bo (de_call D__law_cell tk (hr.mono (by decide)) (da_z (de_v 0) (da_z (de_v 1) da_nil)))))) (DE.bo (de_mul (DE.bo de_int) (DE.bo (de_v 1))))))
    (ds_cons (ds_set 3 nd (de_call D__law_draw tk (hr.mono (by decide)) (da_z (de_v 2) (da_z (DE.fz (de_lst (da_z de_int (da_z de_int (da_z de_int (da_z de_int da_nil)))))) da_nil))))
    (ds_cons (ds_set 4 nd (de_sub (DE.bo (de_toint T.b_int (DE.bo (de_ix (fun _ _ => rfl) (DE.bo (de_v 3)) (DE.bo de_int))))) (DE.bo de_int)))
    (ds_cons (ds_set 5 nd (de_sub (DE.bo (de_toint T.b_int (DE.bo (de_ix (fun _ _ => rfl) (DE.bo (de_v 3)) (DE.bo de_int))))) (DE.bo de_int)))
    (ds_cons (ds_set 6 nd (de_toint T.b_int (DE.bo (de_ix (fun _ _ => rfl) (DE.bo (de_v 3)) (DE.bo de_int)))))
    (ds_cons (ds_if (DW.dt (dw_or (dt_not (dt_v (by intro _; rfl) (de_call D__law_pair tk (hr.mono (by decide)) (da_z (de_v 4) (da_z (de_v 5) da_nil))))) (dw_or (dt_not (dt_v (by intro _; rfl) (de_call D__law_pair tk (hr.mono (by decide)) (da_z (de_v 4) (da_z de_int da_nil))))) (dw_or (dt_not (dt_v (by intro _; rfl) (de_call D__law_pair tk (hr.mono (by decide)) (da_z de_int (da_z (de_v 5) da_nil))))) (dw_or (dt_not (dt_v (by intro _; rfl) (de_call D__law_one tk (hr.mono (by decide)) (da_z (de_v 6) da_nil)))) (dw_or1 (dt_not (dt_v (by intro _; rfl) (de_call D__law_one tk (hr.mono (by decide)) (da_z (de_add (DE.bo (de_mul (DE.bo (de_mul (DE.bo (de_v 6)) (DE.bo de_int))) (DE.bo de_int))) (DE.bo (de_mod (DE.bo (de_toint T.b_int (DE.bo (de_v 2)))) (DE.bo de_int)))) da_nil))))))))))
    (ds_one (ds_ret de_ff))
    ds_nil)
    (ds_cons (ds_set 7 nd (DE.fz (de_lst (da_z (de_v 4) (da_z (de_v 5) (da_z (de_v 6) (da_z (de_mul (DE.bo de_int) (DE.bo (de_toint T.b_int (DE.bo (de_ix (fun _ _ => rfl) (DE.bo (de_v 3)) (DE.bo de_int)))))) da_nil)))))))
    (ds_cons (ds_set 8 nd (de_call D__law_gcd tk (hr.mono (by decide)) (da_z (de_call D__law_gcd tk (hr.mono (by decide)) (da_z (de_v 4) (da_z (de_v 5) da_nil))) (da_z (de_call D__law_gcd tk (hr.mono (by decide)) (da_z (de_v 6) (da_z (de_mul (DE.bo de_int) (DE.bo (de_toint T.b_int (DE.bo (de_ix (fun _ _ => rfl) (DE.bo (de_v 3)) (DE.bo de_int)))))) da_nil))) da_nil))))
    (ds_cons (ds_set 9 nd (de_call D_gcd_row tk (hr.mono (by decide)) (da_z (de_v 7) da_nil)))
    (ds_cons (ds_if (DW.dt (dw_or (dt_ne hr (DE.bo (de_call D_gcd_of tk (hr.mono (by decide)) (da_z (de_v 7) da_nil))) (DE.bo (de_v 8))) (dw_or (dt_ne hr (DE.bo (de_sum T.b_sum (DE.bo (de_comp rfl nd (by exact (di_r1 T.b_range (DE.bo de_int))) (blkOk_by (own := [("j", 10)]) (by show blkC ["script", "k", "cell", "d", "a", "b", "n", "numbers", "g", "row", "j", "many", "x", "p", "size", "rest", "lap", "part", "s", "m", "best", "base", "total", "one", "two"] (defScope s_law) _ _ = true; decide +kernel)) (fun _ _ _ _ _ => (dg_n 10 nd)) (fun _ _ _ _ _ => dts_nil) (fun _ _ _ _ _ => (de_mul (DE.bo (de_ix (fun _ _ => rfl) (DE.bo (de_v 9)) (DE.bo (de_v 10)))) (DE.bo (de_ix (fun _ _ => rfl) (DE.bo (de_v 7)) (DE.bo (de_v 10)))))))))) (DE.bo (de_v 8))) (dw_or (dt_notB rfl (DE.bo (de_call D_check_gcd tk (hr.mono (by decide)) (da_z (de_v 7) (da_z (de_v 9) (da_z (de_v 8) da_nil)))))) (dw_or1 (dt_ne hr (DE.bo (de_call D_check_gcd tk (hr.mono (by decide)) (da_z (de_v 7) (da_z (DE.fz (de_cat (DE.bo (de_lst (da_z (de_add (DE.bo (de_ix (fun _ _ => rfl) (DE.bo (de_v 9)) (DE.bo de_int))) (DE.bo de_int)) da_nil))) (DE.bo (de_cut (DE.bo (de_list T.b_list (DE.bo (de_v 9)))) (dp_at (DE.bo de_int)) dp_no)))) (da_z (de_v 8) da_nil))))) (DE.bo (de_eq hr (DE.bo (de_v 4)) (DE.bo de_int)))))))))
    (ds_one (ds_ret de_ff))
    ds_nil)
    (ds_cons (ds_set 11 nd de_int)
    (ds_cons (ds_for hp rfl (di_e (de_v 7)) (dg_n 12 nd)
    (ds_one (ds_if (DW.dt (dw_or (dt_eq hr (DE.bo (de_v 12)) (DE.bo de_int)) (dw_or1 (dt_eq hr (DE.bo (de_v 11)) (DE.bo de_int)))))
    (ds_one (ds_set 11 nd de_int))
    (ds_one (ds_set 11 nd (de_div (DE.bo (de_abs T.b_abs (DE.bo (de_mul (DE.bo (de_v 11)) (DE.bo (de_v 12)))))) (DE.bo (de_call D__law_gcd tk (hr.mono (by decide)) (da_z (de_v 11) (da_z (de_v 12) da_nil))))))))))
    (ds_cons (ds_if (dt_ne hr (DE.bo (de_call D_lcm_of tk (hr.mono (by decide)) (da_z (de_v 7) da_nil))) (DE.bo (de_v 11)))
    (ds_one (ds_ret de_ff))
    ds_nil)
    (ds_cons (ds_for hp rfl (di_e (DE.fz (de_lst (da_z de_int (da_z de_int (da_z de_int da_nil)))))) (dg_n 13 nd)
    (ds_cons (ds_set 14 nd de_int)
    (ds_cons (ds_set 15 nd (de_add (DE.bo (de_v 6)) (DE.bo de_int)))
    (ds_cons (ds_for hp rfl (di_r1 T.b_range (DE.bo de_int)) (dg_n 16 nd)
    (ds_one (ds_if (dt_eq hr (DE.bo (de_mod (DE.bo (de_toint T.b_int (DE.bo (de_v 15)))) (DE.bo (de_v 13)))) (DE.bo de_int))
    (ds_cons (ds_set 15 nd (de_div (DE.bo (de_v 15)) (DE.bo (de_v 13))))
    (ds_one (ds_set 14 nd (de_add (DE.bo (de_v 14)) (DE.bo de_int)))))
    ds_nil)))
    (ds_one (ds_if (dt_ne hr (DE.bo (de_call D_times_in tk (hr.mono (by decide)) (da_z (de_add (DE.bo (de_v 6)) (DE.bo de_int)) (da_z (de_v 13) da_nil)))) (DE.bo (de_v 14)))
    (ds_one (ds_ret de_ff))
    ds_nil))))))
    (ds_cons (ds_if (dt_ne hr (DE.bo (de_v 4)) (DE.bo de_int))
    (ds_cons (ds_set 17 nd (de_call D_square_part tk (hr.mono (by decide)) (da_z (de_v 4) da_nil)))
    (ds_one (ds_if (DW.dt (dw_or (dt_ne hr (DE.bo (de_mul (DE.bo (de_mul (DE.bo (de_ix (fun _ _ => rfl) (DE.bo (de_v 17)) (DE.bo de_int))) (DE.bo (de_ix (fun _ _ => rfl) (DE.bo (de_v 17)) (DE.bo de_int))))) (DE.bo (de_ix (fun _ _ => rfl) (DE.bo (de_v 17)) (DE.bo de_int))))) (DE.bo (de_v 4))) (dw_or (dt_lt (DE.bo (de_ix (fun _ _ => rfl) (DE.bo (de_v 17)) (DE.bo de_int))) (DE.bo de_int)) (dw_or1 (dt_gt (DE.bo (de_len T.b_len (DE.bo (de_comp rfl nd (by exact (di_r2 T.b_range (DE.bo de_int) (DE.bo de_int))) (blkOk_by (own := [("s", 18)]) (by show blkC ["script", "k", "cell", "d", "a", "b", "n", "numbers", "g", "row", "j", "many", "x", "p", "size", "rest", "lap", "part", "s", "m", "best", "base", "total", "one", "two"] (defScope s_law) _ _ = true; decide +kernel)) (fun _ _ _ _ _ => (dg_n 18 nd)) (fun _ _ _ _ _ => (dts_one (dt_eq hr (DE.bo (de_mod (DE.bo (de_toint T.b_int (DE.bo (de_ix (fun _ _ => rfl) (DE.bo (de_v 17)) (DE.bo de_int))))) (DE.bo (de_mul (DE.bo (de_v 18)) (DE.bo (de_v 18)))))) (DE.bo de_int)))) (fun _ _ _ _ _ => (de_v 18)))))) (DE.bo de_int))))))
    (ds_one (ds_ret de_ff))
    ds_nil)))
    ds_nil)
    (ds_cons (ds_set 19 nd (de_add (DE.bo (de_v 6)) (DE.bo de_int)))
    (ds_cons (ds_own 20 nd (de_lst da_nil))
    (ds_cons (ds_for hp rfl (di_r2 T.b_range (DE.bo de_int) (DE.bo (de_add (DE.bo (de_v 19)) (DE.bo de_int)))) (dg_n 21 nd)
    (ds_cons (ds_set 22 nd de_int)
    (ds_one (ds_for hp rfl (di_r2 T.b_range (DE.bo de_int) (DE.bo de_int)) (dg_n 14 nd)
    (ds_cons (ds_set 22 nd (de_mul (DE.bo (de_v 22)) (DE.bo (de_v 21))))
    (ds_one (ds_if (dt_eq hr (DE.bo (de_v 22)) (DE.bo (de_v 19)))
    (ds_one (ds_app 20 (de_tup (da_z (de_v 14) (da_z (de_v 21) da_nil)))))
    ds_nil)))))))
    (ds_cons (ds_if (dt_ne hr (DE.bo (de_tuple T.b_tuple (DE.bo (de_call D_power_form tk (hr.mono (by decide)) (da_z (de_v 19) da_nil))))) (DE.bo (de_tup (da_z (de_ix (fun _ _ => rfl) (DE.bo (de_maxP hr T.b_max (de_b 20))) (DE.bo de_int)) (da_z (de_ix (fun _ _ => rfl) (DE.bo (de_maxP hr T.b_max (de_b 20))) (DE.bo de_int)) da_nil)))))
    (ds_one (ds_ret de_ff))
    ds_nil)
    (ds_cons (ds_set 23 nd (de_call D__law_ratio tk (hr.mono (by decide)) (da_z (de_v 4) (da_z (de_add (DE.bo (de_v 6)) (DE.bo de_int)) da_nil))))
    (ds_cons (ds_set 24 nd (de_call D__law_ratio tk (hr.mono (by decide)) (da_z (de_v 5) (da_z (de_v 19) da_nil))))
    (ds_cons (ds_if (DW.dt (dw_or (dt_ne hr (DE.bo (de_tuple T.b_tuple (DE.bo (de_call D_ratio_sum tk (hr.mono (by decide)) (da_z (de_v 23) (da_z (de_v 24) da_nil)))))) (DE.bo (de_call D__law_ratio tk (hr.mono (by decide)) (da_z (de_add (DE.bo (de_mul (DE.bo (de_ix (fun _ _ => rfl) (DE.bo (de_v 23)) (DE.bo de_int))) (DE.bo (de_ix (fun _ _ => rfl) (DE.bo (de_v 24)) (DE.bo de_int))))) (DE.bo (de_mul (DE.bo (de_ix (fun _ _ => rfl) (DE.bo (de_v 24)) (DE.bo de_int))) (DE.bo (de_ix (fun _ _ => rfl) (DE.bo (de_v 23)) (DE.bo de_int)))))) (da_z (de_mul (DE.bo (de_ix (fun _ _ => rfl) (DE.bo (de_v 23)) (DE.bo de_int))) (DE.bo (de_ix (fun _ _ => rfl) (DE.bo (de_v 24)) (DE.bo de_int)))) da_nil))))) (dw_or1 (dt_ne hr (DE.bo (de_tuple T.b_tuple (DE.bo (de_call D_ratio_times tk (hr.mono (by decide)) (da_z (de_v 23) (da_z (de_v 24) da_nil)))))) (DE.bo (de_call D__law_ratio tk (hr.mono (by decide)) (da_z (de_mul (DE.bo (de_ix (fun _ _ => rfl) (DE.bo (de_v 23)) (DE.bo de_int))) (DE.bo (de_ix (fun _ _ => rfl) (DE.bo (de_v 24)) (DE.bo de_int)))) (da_z (de_mul (DE.bo (de_ix (fun _ _ => rfl) (DE.bo (de_v 23)) (DE.bo de_int))) (DE.bo (de_ix (fun _ _ => rfl) (DE.bo (de_v 24)) (DE.bo de_int)))) da_nil))))))))
    (ds_one (ds_ret de_ff))
    ds_nil)
    (ds_one (ds_if (dt_ne hr (DE.bo (de_call D_ratio_below tk (hr.mono (by decide)) (da_z (de_v 23) (da_z (de_v 24) da_nil)))) (DE.bo (de_lt (DE.bo (de_mul (DE.bo (de_ix (fun _ _ => rfl) (DE.bo (de_v 23)) (DE.bo de_int))) (DE.bo (de_ix (fun _ _ => rfl) (DE.bo (de_v 24)) (DE.bo de_int))))) (DE.bo (de_mul (DE.bo (de_ix (fun _ _ => rfl) (DE.bo (de_v 24)) (DE.bo de_int))) (DE.bo (de_ix (fun _ _ => rfl) (DE.bo (de_v 23)) (DE.bo de_int))))))))
    (ds_one (ds_ret de_ff))
    ds_nil)))))))))))))))))))))))))
    (ds_cons (ds_if (dt_not (DW.dt (dw_and (dt_eq hr (DE.bo (de_call D__law_told tk (hr.mono (by decide)) (da_z de_int (da_z de_int (da_z de_int da_nil))))) (DE.bo (de_tup (da_z (de_str rfl) (da_z de_int da_nil))))) (dw_and (dt_eq hr (DE.bo (de_call D__law_told tk (hr.mono (by decide)) (da_z de_int (da_z de_int (da_z de_int da_nil))))) (DE.bo (de_tup (da_z (de_str rfl) (da_z de_int da_nil))))) (dw_and (dt_eq hr (DE.bo (de_call D__law_told tk (hr.mono (by decide)) (da_z de_int (da_z (de_neg (DE.bo de_int)) (da_z de_int da_nil))))) (DE.bo (de_tup (da_z (de_str rfl) (da_z (de_neg (DE.bo de_int)) da_nil))))) (dw_and1 (dt_eq hr (DE.bo (de_call D__law_told tk (hr.mono (by decide)) (da_z de_int (da_z de_int (da_z de_int da_nil))))) (DE.bo (de_tup (da_z (de_str rfl) (da_z de_int da_nil)))))))))))
    (ds_one (ds_ret de_ff))
    ds_nil)
    (ds_cons (ds_if (dt_not (DW.dt (dw_and (dt_eq hr (DE.bo (de_call D__law_told tk (hr.mono (by decide)) (da_z de_int (da_z (de_tup (da_z de_int (da_z de_int da_nil))) (da_z (de_tup (da_z de_int (da_z de_int da_nil))) da_nil))))) (DE.bo (de_tup (da_z (de_str rfl) (da_z de_int da_nil))))) (dw_and (dt_eq hr (DE.bo (de_call D__law_told tk (hr.mono (by decide)) (da_z de_int (da_z (DE.fz (de_lst (da_z de_int da_nil))) (da_z de_int da_nil))))) (DE.bo (de_tup (da_z (de_str rfl) (da_z de_int da_nil))))) (dw_and (dt_eq hr (DE.bo (de_call D__law_told tk (hr.mono (by decide)) (da_z de_int (da_z de_int (da_z de_int da_nil))))) (DE.bo (de_tup (da_z (de_str rfl) (da_z de_int da_nil))))) (dw_and1 (dt_eq hr (DE.bo (de_call D_lcm_of tk (hr.mono (by decide)) (da_z (DE.fz (de_lst da_nil)) da_nil))) (DE.bo de_int))))))))
    (ds_one (ds_ret de_ff))
    ds_nil)
    (ds_one (ds_ret (de_and (de_eq hr (DE.bo (de_call D_gcd_of tk (hr.mono (by decide)) (da_z (DE.fz (de_lst da_nil)) da_nil))) (DE.bo de_int)) (de_one (de_eq hr (DE.bo (de_call D_digits tk (hr.mono (by decide)) (da_z de_int (da_z de_int da_nil)))) (DE.bo (de_lst da_nil)))))))))))
end
end Rw

set_option Elab.async false
set_option linter.all false
set_option maxRecDepth 100000
set_option maxHeartbeats 1000000
namespace Rw
open PySem PySem.Spec L2
def clsB : Stmt → List Stmt
  | .ClassDef (body := b) .. => b
  | _ => []
abbrev i_BadRatio : Stmt := (clsB (topS 3)).getD 0 (.Pass ⟨0, 0, 0, 0⟩)
theorem sc_i_BadRatio : SScope ["self"] (defScope i_BadRatio) := ⟨rfl, rfl, rfl, by decide +kernel, by decide +kernel, by decide +kernel, by decide +kernel, rfl, rfl⟩
abbrev i_NoDivision : Stmt := (clsB (topS 4)).getD 0 (.Pass ⟨0, 0, 0, 0⟩)
theorem sc_i_NoDivision : SScope ["self"] (defScope i_NoDivision) := ⟨rfl, rfl, rfl, by decide +kernel, by decide +kernel, by decide +kernel, by decide +kernel, rfl, rfl⟩
abbrev i_OutOfRange : Stmt := (clsB (topS 2)).getD 0 (.Pass ⟨0, 0, 0, 0⟩)
theorem sc_i_OutOfRange : SScope ["self", "value"] (defScope i_OutOfRange) := ⟨rfl, rfl, rfl, by decide +kernel, by decide +kernel, by decide +kernel, by decide +kernel, rfl, rfl⟩
abbrev i_TooLarge : Stmt := (clsB (topS 5)).getD 0 (.Pass ⟨0, 0, 0, 0⟩)
theorem sc_i_TooLarge : SScope ["self"] (defScope i_TooLarge) := ⟨rfl, rfl, rfl, by decide +kernel, by decide +kernel, by decide +kernel, by decide +kernel, rfl, rfl⟩
def clOf (l : List (String × Addr)) : String → Option Addr := fun x => l.lookup x
structure FnAt (K : PySem.W.Frag) (x : Str) (st : Stmt) : Prop where
  ex : ∃ (f : Addr) (od an : Option Addr) (sl : Array (Option Value)) (oc kV dc pm cd ct : Value), PySem.W.nsIn K mainGlobals x = some (some (.ref f)) ∧ K.lookup f = some ⟨oc, od, .func (PySem.W.fnOf x x (defArgs st) (defBody st) (defScope st) .none kV dc pm an cd ct), sl⟩ ∧ PySem.W.codeIn K cd x = true ∧ PySem.W.keepIn K (.ref f) = true
theorem fnAt_mk {K : PySem.W.Frag} {x : Str} {st : Stmt} {f : Addr} {od an : Option Addr} {sl : Array (Option Value)} {oc kV dc pm cd ct : Value} (a : PySem.W.nsIn K mainGlobals x = some (some (.ref f))) (l : K.lookup f = some ⟨oc, od, .func (PySem.W.fnOf x x (defArgs st) (defBody st) (defScope st) .none kV dc pm an cd ct), sl⟩) (c : PySem.W.codeIn K cd x = true) (k : PySem.W.keepIn K (.ref f) = true) : FnAt K x st :=
  ⟨f, od, an, sl, oc, kV, dc, pm, cd, ct, a, l, c, k⟩
theorem FnAt.df {P : Program} {w : World} {K : PySem.W.Frag} {h : Heap} {mg : Str → Option Value} {base : Heap} {cl : String → Option Addr} {x : Str} {st : Stmt} {ps : List Str} {k : Nat} {gg : DSp} (A : FnAt K x st) (X : K.In h) (G : h.Ns mainGlobals mg)
    (hb : ∀ (kV doc pm : Value) (an : Option Addr) (cdv ct : Value) (us : List Value), us.length = ps.length → bindArgs (PySem.W.fnOf x x (defArgs st) (defBody st) (defScope st) .none kV doc pm an cdv ct) ⟨us, []⟩ = pure (ps.zip us))
    (wk : ∀ {f : Addr} {fd : FuncData}, Fun K x x st f fd → mg x = some (.ref f) → Binds K fd ps [] → Df P w K mg base cl k x gg) : Df P w K mg base cl k x gg :=
  let ⟨_, _, _, _, _, _, _, _, _, _, a, l, c, kp⟩ := A.ex
  df_at X G a l c kp hb wk
theorem lookup_mem' {x : String} {a : Addr} : ∀ {l : List (String × Addr)}, l.lookup x = some a → (x, a) ∈ l
  | [], h => by cases h
  | (y, b) :: l, h => by
    by_cases e : (x == y) = true
    · simp only [List.lookup, e] at h
      cases h
      have : x = y := by simpa using e
      subst this
      exact List.mem_cons_self
    · simp only [List.lookup, e] at h
      exact List.mem_cons_of_mem _ (lookup_mem' h)
theorem em_of {K : PySem.W.Frag} {l : List (String × Addr)} (h : ∀ p ∈ l, ∀ r ∈ l, PySem.W.exmOne K (.ref p.2) (.ref r.2) = some (p.1 == r.1 || r.1 == "RingError")) : EmOk K (clOf l) := fun x C c C' h1 h2 =>
  h _ (lookup_mem' h1) _ (lookup_mem' h2)
/-- all defs and classes of the text, from the written part -/
theorem all_defs {w : World} {K : PySem.W.Frag} {h : Heap} {mg : Str → Option Value} (KX : K.In h) (G : h.Ns mainGlobals mg) {C_BadRatio : Addr} {C_NoDivision : Addr} {C_OutOfRange : Addr} {C_TooLarge : Addr} {C_RingError : Addr} {a_BASES : Addr} {t_BASES0 t_BASES1 t_BASES2 t_BASES3 t_BASES4 t_BASES5 t_BASES6 t_BASES7 t_BASES8 t_BASES9 t_BASES10 t_BASES11 t_BASES12 t_BASES13 t_BASES14 t_BASES15 t_BASES16 t_BASES17 t_BASES18 t_BASES19 : Tok} {od_BASES : Option Addr} {sl_BASES : Array (Option Value)} {nn_BASES : Nat} {t_MOST_BASE : Tok} {t_MOST_PARTED : Tok} {t_MOST_ROOT : Tok}
    (n_BadRatio : PySem.W.nsIn K mainGlobals "BadRatio" = some (some (.ref C_BadRatio)))
    (n_NoDivision : PySem.W.nsIn K mainGlobals "NoDivision" = some (some (.ref C_NoDivision)))
    (n_OutOfRange : PySem.W.nsIn K mainGlobals "OutOfRange" = some (some (.ref C_OutOfRange)))
    (n_TooLarge : PySem.W.nsIn K mainGlobals "TooLarge" = some (some (.ref C_TooLarge)))
    (n_RingError : PySem.W.nsIn K mainGlobals "RingError" = some (some (.ref C_RingError)))
    (b_abs : PySem.W.nsIn K mainGlobals "abs" = some none)
    (b_int : PySem.W.nsIn K mainGlobals "int" = some none)
    (b_isinstance : PySem.W.nsIn K mainGlobals "isinstance" = some none)
    (b_len : PySem.W.nsIn K mainGlobals "len" = some none)
    (b_list : PySem.W.nsIn K mainGlobals "list" = some none)
    (b_max : PySem.W.nsIn K mainGlobals "max" = some none)
    (b_range : PySem.W.nsIn K mainGlobals "range" = some none)
    (b_sum : PySem.W.nsIn K mainGlobals "sum" = some none)
    (b_tuple : PySem.W.nsIn K mainGlobals "tuple" = some none)
    (b_zip : PySem.W.nsIn K mainGlobals "zip" = some none)
    (b_super : PySem.W.nsIn K mainGlobals "super" = some none)
    (c_BASES : PySem.W.nsIn K mainGlobals "BASES" = some (some (.ref a_BASES)))
    (l_BASES : K.lookup a_BASES = some ⟨.type "tuple", od_BASES, .seq #[.int 2 t_BASES0, .int 3 t_BASES1, .int 5 t_BASES2, .int 7 t_BASES3, .int 11 t_BASES4, .int 13 t_BASES5, .int 17 t_BASES6, .int 19 t_BASES7, .int 23 t_BASES8, .int 29 t_BASES9, .int 31 t_BASES10, .int 37 t_BASES11, .int 41 t_BASES12, .int 43 t_BASES13, .int 47 t_BASES14, .int 53 t_BASES15, .int 59 t_BASES16, .int 61 t_BASES17, .int 67 t_BASES18, .int 71 t_BASES19] nn_BASES, sl_BASES⟩)
    (c_MOST_BASE : PySem.W.nsIn K mainGlobals "MOST_BASE" = some (some (.int 100 t_MOST_BASE)))
    (c_MOST_PARTED : PySem.W.nsIn K mainGlobals "MOST_PARTED" = some (some (.int 1000000000000 t_MOST_PARTED)))
    (c_MOST_ROOT : PySem.W.nsIn K mainGlobals "MOST_ROOT" = some (some (.int 60 t_MOST_ROOT)))
    (x_BadRatio : XA PySem.Challenge.pw_ringweir_k00_division K "BadRatio" C_BadRatio i_BadRatio ["self"])
    (nl_BadRatio : PySem.W.findIn K (.ref C_BadRatio) "label" = some none)
    (x_NoDivision : XA PySem.Challenge.pw_ringweir_k00_division K "NoDivision" C_NoDivision i_NoDivision ["self"])
    (nl_NoDivision : PySem.W.findIn K (.ref C_NoDivision) "label" = some none)
    (x_OutOfRange : XA PySem.Challenge.pw_ringweir_k00_division K "OutOfRange" C_OutOfRange i_OutOfRange ["self", "value"])
    (nl_OutOfRange : PySem.W.findIn K (.ref C_OutOfRange) "label" = some none)
    (nf_OutOfRange : PySem.W.findIn K (.ref C_OutOfRange) "value" = some none)
    (x_TooLarge : XA PySem.Challenge.pw_ringweir_k00_division K "TooLarge" C_TooLarge i_TooLarge ["self"])
    (nl_TooLarge : PySem.W.findIn K (.ref C_TooLarge) "label" = some none)
    (bb_BadRatio : PySem.W.subIn K (.ref C_BadRatio) (.type "BaseException") = some true)
    (cc_BadRatio : PySem.W.isClsIn K C_BadRatio = true)
    (tt_BadRatio : PySem.W.typeIn K (.ref C_BadRatio) = some (.type "type"))
    (bb_NoDivision : PySem.W.subIn K (.ref C_NoDivision) (.type "BaseException") = some true)
    (cc_NoDivision : PySem.W.isClsIn K C_NoDivision = true)
    (tt_NoDivision : PySem.W.typeIn K (.ref C_NoDivision) = some (.type "type"))
    (bb_OutOfRange : PySem.W.subIn K (.ref C_OutOfRange) (.type "BaseException") = some true)
    (cc_OutOfRange : PySem.W.isClsIn K C_OutOfRange = true)
    (tt_OutOfRange : PySem.W.typeIn K (.ref C_OutOfRange) = some (.type "type"))
    (bb_TooLarge : PySem.W.subIn K (.ref C_TooLarge) (.type "BaseException") = some true)
    (cc_TooLarge : PySem.W.isClsIn K C_TooLarge = true)
    (tt_TooLarge : PySem.W.typeIn K (.ref C_TooLarge) = some (.type "type"))
    (bb_RingError : PySem.W.subIn K (.ref C_RingError) (.type "BaseException") = some true)
    (cc_RingError : PySem.W.isClsIn K C_RingError = true)
    (tt_RingError : PySem.W.typeIn K (.ref C_RingError) = some (.type "type"))
    (s_BadRatio_BadRatio : PySem.W.subIn K (.ref C_BadRatio) (.ref C_BadRatio) = some true)
    (s_BadRatio_NoDivision : PySem.W.subIn K (.ref C_BadRatio) (.ref C_NoDivision) = some false)
    (s_BadRatio_OutOfRange : PySem.W.subIn K (.ref C_BadRatio) (.ref C_OutOfRange) = some false)
    (s_BadRatio_TooLarge : PySem.W.subIn K (.ref C_BadRatio) (.ref C_TooLarge) = some false)
    (s_BadRatio_RingError : PySem.W.subIn K (.ref C_BadRatio) (.ref C_RingError) = some true)
    (s_NoDivision_BadRatio : PySem.W.subIn K (.ref C_NoDivision) (.ref C_BadRatio) = some false)
    (s_NoDivision_NoDivision : PySem.W.subIn K (.ref C_NoDivision) (.ref C_NoDivision) = some true)
    (s_NoDivision_OutOfRange : PySem.W.subIn K (.ref C_NoDivision) (.ref C_OutOfRange) = some false)
    (s_NoDivision_TooLarge : PySem.W.subIn K (.ref C_NoDivision) (.ref C_TooLarge) = some false)
    (s_NoDivision_RingError : PySem.W.subIn K (.ref C_NoDivision) (.ref C_RingError) = some true)
    (s_OutOfRange_BadRatio : PySem.W.subIn K (.ref C_OutOfRange) (.ref C_BadRatio) = some false)
    (s_OutOfRange_NoDivision : PySem.W.subIn K (.ref C_OutOfRange) (.ref C_NoDivision) = some false)
    (s_OutOfRange_OutOfRange : PySem.W.subIn K (.ref C_OutOfRange) (.ref C_OutOfRange) = some true)
    (s_OutOfRange_TooLarge : PySem.W.subIn K (.ref C_OutOfRange) (.ref C_TooLarge) = some false)
    (s_OutOfRange_RingError : PySem.W.subIn K (.ref C_OutOfRange) (.ref C_RingError) = some true)
    (s_TooLarge_BadRatio : PySem.W.subIn K (.ref C_TooLarge) (.ref C_BadRatio) = some false)
    (s_TooLarge_NoDivision : PySem.W.subIn K (.ref C_TooLarge) (.ref C_NoDivision) = some false)
    (s_TooLarge_OutOfRange : PySem.W.subIn K (.ref C_TooLarge) (.ref C_OutOfRange) = some false)
    (s_TooLarge_TooLarge : PySem.W.subIn K (.ref C_TooLarge) (.ref C_TooLarge) = some true)
    (s_TooLarge_RingError : PySem.W.subIn K (.ref C_TooLarge) (.ref C_RingError) = some true)
    (s_RingError_BadRatio : PySem.W.subIn K (.ref C_RingError) (.ref C_BadRatio) = some false)
    (s_RingError_NoDivision : PySem.W.subIn K (.ref C_RingError) (.ref C_NoDivision) = some false)
    (s_RingError_OutOfRange : PySem.W.subIn K (.ref C_RingError) (.ref C_OutOfRange) = some false)
    (s_RingError_TooLarge : PySem.W.subIn K (.ref C_RingError) (.ref C_TooLarge) = some false)
    (s_RingError_RingError : PySem.W.subIn K (.ref C_RingError) (.ref C_RingError) = some true)
    (ga_OutOfRange : PySem.W.findIn K (.ref C_OutOfRange) "__getattribute__" = some (some (.builtin "BaseException.__getattribute__")))
    (gg_OutOfRange : PySem.W.findIn K (.ref C_OutOfRange) "__getattr__" = some none)
    (hd_OutOfRange : PySem.W.hasDictIn K C_OutOfRange = true)
    (d_check_between : FnAt K "check_between" s_check_between)
    (d_check_from : FnAt K "check_from" s_check_from)
    (d_to_power : FnAt K "to_power" s_to_power)
    (d_sign_of : FnAt K "sign_of" s_sign_of)
    (d_common : FnAt K "common" s_common)
    (d_common_of : FnAt K "common_of" s_common_of)
    (d_multiple : FnAt K "multiple" s_multiple)
    (d_bezout : FnAt K "bezout" s_bezout)
    (d_power_mod : FnAt K "power_mod" s_power_mod)
    (d_times_of : FnAt K "times_of" s_times_of)
    (d_root_of_power : FnAt K "root_of_power" s_root_of_power)
    (d_square_root : FnAt K "square_root" s_square_root)
    (d_is_square_number : FnAt K "is_square_number" s_is_square_number)
    (d_is_strong : FnAt K "is_strong" s_is_strong)
    (d_is_prime_number : FnAt K "is_prime_number" s_is_prime_number)
    (d_parted : FnAt K "parted" s_parted)
    (d_lowest : FnAt K "lowest" s_lowest)
    (d_is_ratio : FnAt K "is_ratio" s_is_ratio)
    (d_check_ratio : FnAt K "check_ratio" s_check_ratio)
    (d_plus : FnAt K "plus" s_plus)
    (d_by : FnAt K "by" s_by)
    (d_is_below : FnAt K "is_below" s_is_below)
    (d_divide : FnAt K "divide" s_divide)
    (d_divides : FnAt K "divides" s_divides)
    (d_gcd : FnAt K "gcd" s_gcd)
    (d_gcd_paper : FnAt K "gcd_paper" s_gcd_paper)
    (d_gcd_steps : FnAt K "gcd_steps" s_gcd_steps)
    (d_gcd_of : FnAt K "gcd_of" s_gcd_of)
    (d_lcm_of : FnAt K "lcm_of" s_lcm_of)
    (d_gcd_row : FnAt K "gcd_row" s_gcd_row)
    (d_digits : FnAt K "digits" s_digits)
    (d_from_digits : FnAt K "from_digits" s_from_digits)
    (d_times_in : FnAt K "times_in" s_times_in)
    (d_root_below : FnAt K "root_below" s_root_below)
    (d_power_form : FnAt K "power_form" s_power_form)
    (d_is_square : FnAt K "is_square" s_is_square)
    (d_square_part : FnAt K "square_part" s_square_part)
    (d_ratio_sum : FnAt K "ratio_sum" s_ratio_sum)
    (d_ratio_times : FnAt K "ratio_times" s_ratio_times)
    (d_ratio_below : FnAt K "ratio_below" s_ratio_below)
    (d_check_gcd : FnAt K "check_gcd" s_check_gcd)
    (d__law_cell : FnAt K "_law_cell" s__law_cell)
    (d__law_draw : FnAt K "_law_draw" s__law_draw)
    (d__law_gcd : FnAt K "_law_gcd" s__law_gcd)
    (d__law_ratio : FnAt K "_law_ratio" s__law_ratio)
    (d__law_told : FnAt K "_law_told" s__law_told)
    (d__law_divide : FnAt K "_law_divide" s__law_divide)
    (d__law_pair : FnAt K "_law_pair" s__law_pair)
    (d__law_one : FnAt K "_law_one" s__law_one)
    (d_law : FnAt K "law" s_law) :
    ∃ fd : FuncData, ∃ fa : Addr, mg "law" = some (.ref fa) ∧ (∀ (s : Shared) (u : Value), BindsTo s fd ⟨[u], []⟩ [("script", u)]) ∧ ∀ base : Heap, K.In base → base.Ns mainGlobals mg → FnOk PySem.Challenge.pw_ringweir_k00_division w K mg base (L2.CX PySem.Challenge.pw_ringweir_k00_division w) 7 fa fd ["script"] (fun vs H Q E => ∀ cl, spD K cl G_law vs H Q E) := by
  obtain ⟨f, od, an, sl, oc, kV, dc, pm, cd, ct, aL, lL, cL, kL⟩ := d_law.ex
  have FL := fun_mk lL cL kL
  refine ⟨PySem.W.fnOf "law" "law" (defArgs s_law) (defBody s_law) (defScope s_law) .none kV dc pm an cd ct, f, PySem.W.mg_of KX G aL, fun s u => .of_eq rfl, fun base KB GB => ?_⟩
  have T : Tx PySem.Challenge.pw_ringweir_k00_division w K mg base (clOf [("BadRatio", C_BadRatio), ("NoDivision", C_NoDivision), ("OutOfRange", C_OutOfRange), ("TooLarge", C_TooLarge), ("RingError", C_RingError)]) := {
    b_abs := PySem.W.mg_none_of KX G b_abs,
    b_int := PySem.W.mg_none_of KX G b_int,
    b_isinstance := PySem.W.mg_none_of KX G b_isinstance,
    b_len := PySem.W.mg_none_of KX G b_len,
    b_list := PySem.W.mg_none_of KX G b_list,
    b_max := PySem.W.mg_none_of KX G b_max,
    b_range := PySem.W.mg_none_of KX G b_range,
    b_sum := PySem.W.mg_none_of KX G b_sum,
    b_tuple := PySem.W.mg_none_of KX G b_tuple,
    b_zip := PySem.W.mg_none_of KX G b_zip,
    c_BASES := ⟨a_BASES, PySem.W.mg_of KX G c_BASES, fun F => .tup (xs := [V.int 2, V.int 3, V.int 5, V.int 7, V.int 11, V.int 13, V.int 17, V.int 19, V.int 23, V.int 29, V.int 31, V.int 37, V.int 41, V.int 43, V.int 47, V.int 53, V.int 59, V.int 61, V.int 67, V.int 71]) (.inr ⟨_, _, _, l_BASES, rfl, rfl, (show _ ≤ sizeLine from by rw [sizeLine_eq]; exact Nat.le_of_ble_eq_true rfl), (.cons ⟨_, rfl⟩ (.cons ⟨_, rfl⟩ (.cons ⟨_, rfl⟩ (.cons ⟨_, rfl⟩ (.cons ⟨_, rfl⟩ (.cons ⟨_, rfl⟩ (.cons ⟨_, rfl⟩ (.cons ⟨_, rfl⟩ (.cons ⟨_, rfl⟩ (.cons ⟨_, rfl⟩ (.cons ⟨_, rfl⟩ (.cons ⟨_, rfl⟩ (.cons ⟨_, rfl⟩ (.cons ⟨_, rfl⟩ (.cons ⟨_, rfl⟩ (.cons ⟨_, rfl⟩ (.cons ⟨_, rfl⟩ (.cons ⟨_, rfl⟩ (.cons ⟨_, rfl⟩ (.cons ⟨_, rfl⟩ .nil))))))))))))))))))))⟩) ((.cons (.int 2) (.cons (.int 3) (.cons (.int 5) (.cons (.int 7) (.cons (.int 11) (.cons (.int 13) (.cons (.int 17) (.cons (.int 19) (.cons (.int 23) (.cons (.int 29) (.cons (.int 31) (.cons (.int 37) (.cons (.int 41) (.cons (.int 43) (.cons (.int 47) (.cons (.int 53) (.cons (.int 59) (.cons (.int 61) (.cons (.int 67) (.cons (.int 71) .nil)))))))))))))))))))))⟩,
    c_MOST_BASE := ⟨_, PySem.W.mg_of KX G c_MOST_BASE⟩,
    c_MOST_PARTED := ⟨_, PySem.W.mg_of KX G c_MOST_PARTED⟩,
    c_MOST_ROOT := ⟨_, PySem.W.mg_of KX G c_MOST_ROOT⟩,
    x_BadRatio := xf_mk0 (p0 := _) KX G x_BadRatio rfl b_super sc_i_BadRatio nl_BadRatio rfl rfl rfl rfl,
    x_NoDivision := xf_mk0 (p0 := _) KX G x_NoDivision rfl b_super sc_i_NoDivision nl_NoDivision rfl rfl rfl rfl,
    x_OutOfRange := xf_mk1 KX G x_OutOfRange rfl b_super sc_i_OutOfRange nl_OutOfRange nf_OutOfRange rfl rfl rfl rfl,
    x_TooLarge := xf_mk0 (p0 := _) KX G x_TooLarge rfl b_super sc_i_TooLarge nl_TooLarge rfl rfl rfl rfl,
    em := em_of (List.forall_mem_cons.mpr ⟨List.forall_mem_cons.mpr ⟨(exm_of bb_BadRatio cc_BadRatio tt_BadRatio s_BadRatio_BadRatio).trans (by show some _ = some ("BadRatio" == "BadRatio" || "BadRatio" == "RingError"); decide), List.forall_mem_cons.mpr ⟨(exm_of bb_NoDivision cc_NoDivision tt_NoDivision s_BadRatio_NoDivision).trans (by show some _ = some ("BadRatio" == "NoDivision" || "NoDivision" == "RingError"); decide), List.forall_mem_cons.mpr ⟨(exm_of bb_OutOfRange cc_OutOfRange tt_OutOfRange s_BadRatio_OutOfRange).trans (by show some _ = some ("BadRatio" == "OutOfRange" || "OutOfRange" == "RingError"); decide), List.forall_mem_cons.mpr ⟨(exm_of bb_TooLarge cc_TooLarge tt_TooLarge s_BadRatio_TooLarge).trans (by show some _ = some ("BadRatio" == "TooLarge" || "TooLarge" == "RingError"); decide), List.forall_mem_cons.mpr ⟨(exm_of bb_RingError cc_RingError tt_RingError s_BadRatio_RingError).trans (by show some _ = some ("BadRatio" == "RingError" || "RingError" == "RingError"); decide), (fun _ h => nomatch h)⟩⟩⟩⟩⟩, List.forall_mem_cons.mpr ⟨List.forall_mem_cons.mpr ⟨(exm_of bb_BadRatio cc_BadRatio tt_BadRatio s_NoDivision_BadRatio).trans (by show some _ = some ("NoDivision" == "BadRatio" || "BadRatio" == "RingError"); decide), List.forall_mem_cons.mpr ⟨(exm_of bb_NoDivision cc_NoDivision tt_NoDivision s_NoDivision_NoDivision).trans (by show some _ = some ("NoDivision" == "NoDivision" || "NoDivision" == "RingError"); decide), List.forall_mem_cons.mpr ⟨(exm_of bb_OutOfRange cc_OutOfRange tt_OutOfRange s_NoDivision_OutOfRange).trans (by show some _ = some ("NoDivision" == "OutOfRange" || "OutOfRange" == "RingError"); decide), List.forall_mem_cons.mpr ⟨(exm_of bb_TooLarge cc_TooLarge tt_TooLarge s_NoDivision_TooLarge).trans (by show some _ = some ("NoDivision" == "TooLarge" || "TooLarge" == "RingError"); decide), List.forall_mem_cons.mpr ⟨(exm_of bb_RingError cc_RingError tt_RingError s_NoDivision_RingError).trans (by show some _ = some ("NoDivision" == "RingError" || "RingError" == "RingError"); decide), (fun _ h => nomatch h)⟩⟩⟩⟩⟩, List.forall_mem_cons.mpr ⟨List.forall_mem_cons.mpr ⟨(exm_of bb_BadRatio cc_BadRatio tt_BadRatio s_OutOfRange_BadRatio).trans (by show some _ = some ("OutOfRange" == "BadRatio" || "BadRatio" == "RingError"); decide), List.forall_mem_cons.mpr ⟨(exm_of bb_NoDivision cc_NoDivision tt_NoDivision s_OutOfRange_NoDivision).trans (by show some _ = some ("OutOfRange" == "NoDivision" || "NoDivision" == "RingError"); decide), List.forall_mem_cons.mpr ⟨(exm_of bb_OutOfRange cc_OutOfRange tt_OutOfRange s_OutOfRange_OutOfRange).trans (by show some _ = some ("OutOfRange" == "OutOfRange" || "OutOfRange" == "RingError"); decide), List.forall_mem_cons.mpr ⟨(exm_of bb_TooLarge cc_TooLarge tt_TooLarge s_OutOfRange_TooLarge).trans (by show some _ = some ("OutOfRange" == "TooLarge" || "TooLarge" == "RingError"); decide), List.forall_mem_cons.mpr ⟨(exm_of bb_RingError cc_RingError tt_RingError s_OutOfRange_RingError).trans (by show some _ = some ("OutOfRange" == "RingError" || "RingError" == "RingError"); decide), (fun _ h => nomatch h)⟩⟩⟩⟩⟩, List.forall_mem_cons.mpr ⟨List.forall_mem_cons.mpr ⟨(exm_of bb_BadRatio cc_BadRatio tt_BadRatio s_TooLarge_BadRatio).trans (by show some _ = some ("TooLarge" == "BadRatio" || "BadRatio" == "RingError"); decide), List.forall_mem_cons.mpr ⟨(exm_of bb_NoDivision cc_NoDivision tt_NoDivision s_TooLarge_NoDivision).trans (by show some _ = some ("TooLarge" == "NoDivision" || "NoDivision" == "RingError"); decide), List.forall_mem_cons.mpr ⟨(exm_of bb_OutOfRange cc_OutOfRange tt_OutOfRange s_TooLarge_OutOfRange).trans (by show some _ = some ("TooLarge" == "OutOfRange" || "OutOfRange" == "RingError"); decide), List.forall_mem_cons.mpr ⟨(exm_of bb_TooLarge cc_TooLarge tt_TooLarge s_TooLarge_TooLarge).trans (by show some _ = some ("TooLarge" == "TooLarge" || "TooLarge" == "RingError"); decide), List.forall_mem_cons.mpr ⟨(exm_of bb_RingError cc_RingError tt_RingError s_TooLarge_RingError).trans (by show some _ = some ("TooLarge" == "RingError" || "RingError" == "RingError"); decide), (fun _ h => nomatch h)⟩⟩⟩⟩⟩, List.forall_mem_cons.mpr ⟨List.forall_mem_cons.mpr ⟨(exm_of bb_BadRatio cc_BadRatio tt_BadRatio s_RingError_BadRatio).trans (by show some _ = some ("RingError" == "BadRatio" || "BadRatio" == "RingError"); decide), List.forall_mem_cons.mpr ⟨(exm_of bb_NoDivision cc_NoDivision tt_NoDivision s_RingError_NoDivision).trans (by show some _ = some ("RingError" == "NoDivision" || "NoDivision" == "RingError"); decide), List.forall_mem_cons.mpr ⟨(exm_of bb_OutOfRange cc_OutOfRange tt_OutOfRange s_RingError_OutOfRange).trans (by show some _ = some ("RingError" == "OutOfRange" || "OutOfRange" == "RingError"); decide), List.forall_mem_cons.mpr ⟨(exm_of bb_TooLarge cc_TooLarge tt_TooLarge s_RingError_TooLarge).trans (by show some _ = some ("RingError" == "TooLarge" || "TooLarge" == "RingError"); decide), List.forall_mem_cons.mpr ⟨(exm_of bb_RingError cc_RingError tt_RingError s_RingError_RingError).trans (by show some _ = some ("RingError" == "RingError" || "RingError" == "RingError"); decide), (fun _ h => nomatch h)⟩⟩⟩⟩⟩, (fun _ h => nomatch h)⟩⟩⟩⟩⟩),
    y_BadRatio := ⟨C_BadRatio, rfl, PySem.W.mg_of KX G n_BadRatio⟩,
    y_NoDivision := ⟨C_NoDivision, rfl, PySem.W.mg_of KX G n_NoDivision⟩,
    y_RingError := ⟨C_RingError, rfl, PySem.W.mg_of KX G n_RingError⟩,
    v_OutOfRange_value := ⟨C_OutOfRange, rfl, PySem.W.mg_of KX G n_OutOfRange, ⟨ga_OutOfRange, gg_OutOfRange, bb_OutOfRange, hd_OutOfRange⟩, nf_OutOfRange⟩ }
  have D_check_between := d_check_between.df (ps := ["value", "least", "most"]) KX G (fun _ _ _ _ _ _ us hl => match us, hl with | [_, _, _], _ => rfl) (fun F hm b => w_check_between (base := base) T F hm b)
  have D_check_from := d_check_from.df (ps := ["value", "least"]) KX G (fun _ _ _ _ _ _ us hl => match us, hl with | [_, _], _ => rfl) (fun F hm b => w_check_from (base := base) T F hm b)
  have D_to_power := d_to_power.df (ps := ["a", "n"]) KX G (fun _ _ _ _ _ _ us hl => match us, hl with | [_, _], _ => rfl) (fun F hm b => w_to_power (base := base) T F hm b)
  have D_sign_of := d_sign_of.df (ps := ["n"]) KX G (fun _ _ _ _ _ _ us hl => match us, hl with | [_], _ => rfl) (fun F hm b => w_sign_of (base := base) T F hm b)
  have D_common := d_common.df (ps := ["a", "b"]) KX G (fun _ _ _ _ _ _ us hl => match us, hl with | [_, _], _ => rfl) (fun F hm b => w_common (base := base) T F hm b)
  have D_common_of := d_common_of.df (ps := ["numbers"]) KX G (fun _ _ _ _ _ _ us hl => match us, hl with | [_], _ => rfl) (fun F hm b => w_common_of (base := base) T F hm b D_common)
  have D_multiple := d_multiple.df (ps := ["a", "b"]) KX G (fun _ _ _ _ _ _ us hl => match us, hl with | [_, _], _ => rfl) (fun F hm b => w_multiple (base := base) T F hm b D_common)
  have D_bezout := d_bezout.df (ps := ["a", "b"]) KX G (fun _ _ _ _ _ _ us hl => match us, hl with | [_, _], _ => rfl) (fun F hm b => w_bezout (base := base) T F hm b)
  have D_power_mod := d_power_mod.df (ps := ["a", "n", "m"]) KX G (fun _ _ _ _ _ _ us hl => match us, hl with | [_, _, _], _ => rfl) (fun F hm b => w_power_mod (base := base) T F hm b)
  have D_times_of := d_times_of.df (ps := ["n", "p"]) KX G (fun _ _ _ _ _ _ us hl => match us, hl with | [_, _], _ => rfl) (fun F hm b => w_times_of (base := base) T F hm b)
  have D_root_of_power := d_root_of_power.df (ps := ["n", "k"]) KX G (fun _ _ _ _ _ _ us hl => match us, hl with | [_, _], _ => rfl) (fun F hm b => w_root_of_power (base := base) T F hm b D_to_power)
  have D_square_root := d_square_root.df (ps := ["n"]) KX G (fun _ _ _ _ _ _ us hl => match us, hl with | [_], _ => rfl) (fun F hm b => w_square_root (base := base) T F hm b D_root_of_power)
  have D_is_square_number := d_is_square_number.df (ps := ["n"]) KX G (fun _ _ _ _ _ _ us hl => match us, hl with | [_], _ => rfl) (fun F hm b => w_is_square_number (base := base) T F hm b D_square_root)
  have D_is_strong := d_is_strong.df (ps := ["n", "a"]) KX G (fun _ _ _ _ _ _ us hl => match us, hl with | [_, _], _ => rfl) (fun F hm b => w_is_strong (base := base) T F hm b D_times_of D_power_mod D_to_power)
  have D_is_prime_number := d_is_prime_number.df (ps := ["n"]) KX G (fun _ _ _ _ _ _ us hl => match us, hl with | [_], _ => rfl) (fun F hm b => w_is_prime_number (base := base) T F hm b D_is_strong)
  have D_parted := d_parted.df (ps := ["n"]) KX G (fun _ _ _ _ _ _ us hl => match us, hl with | [_], _ => rfl) (fun F hm b => w_parted (base := base) T F hm b D_times_of D_to_power D_is_prime_number)
  have D_lowest := d_lowest.df (ps := ["top", "bottom"]) KX G (fun _ _ _ _ _ _ us hl => match us, hl with | [_, _], _ => rfl) (fun F hm b => w_lowest (base := base) T F hm b D_common)
  have D_is_ratio := d_is_ratio.df (ps := ["told"]) KX G (fun _ _ _ _ _ _ us hl => match us, hl with | [_], _ => rfl) (fun F hm b => w_is_ratio (base := base) T F hm b D_common)
  have D_check_ratio := d_check_ratio.df (ps := ["told"]) KX G (fun _ _ _ _ _ _ us hl => match us, hl with | [_], _ => rfl) (fun F hm b => w_check_ratio (base := base) T F hm b D_is_ratio)
  have D_plus := d_plus.df (ps := ["one", "other"]) KX G (fun _ _ _ _ _ _ us hl => match us, hl with | [_, _], _ => rfl) (fun F hm b => w_plus (base := base) T F hm b D_lowest)
  have D_by := d_by.df (ps := ["one", "other"]) KX G (fun _ _ _ _ _ _ us hl => match us, hl with | [_, _], _ => rfl) (fun F hm b => w_by (base := base) T F hm b D_lowest)
  have D_is_below := d_is_below.df (ps := ["one", "other"]) KX G (fun _ _ _ _ _ _ us hl => match us, hl with | [_, _], _ => rfl) (fun F hm b => w_is_below (base := base) T F hm b)
  have D_divide := d_divide.df (ps := ["a", "b"]) KX G (fun _ _ _ _ _ _ us hl => match us, hl with | [_, _], _ => rfl) (fun F hm b => w_divide (base := base) T F hm b)
  have D_divides := d_divides.df (ps := ["b", "a"]) KX G (fun _ _ _ _ _ _ us hl => match us, hl with | [_, _], _ => rfl) (fun F hm b => w_divides (base := base) T F hm b)
  have D_gcd := d_gcd.df (ps := ["a", "b"]) KX G (fun _ _ _ _ _ _ us hl => match us, hl with | [_, _], _ => rfl) (fun F hm b => w_gcd (base := base) T F hm b D_common)
  have D_gcd_paper := d_gcd_paper.df (ps := ["a", "b"]) KX G (fun _ _ _ _ _ _ us hl => match us, hl with | [_, _], _ => rfl) (fun F hm b => w_gcd_paper (base := base) T F hm b D_sign_of D_common D_bezout)
  have D_gcd_steps := d_gcd_steps.df (ps := ["a", "b"]) KX G (fun _ _ _ _ _ _ us hl => match us, hl with | [_, _], _ => rfl) (fun F hm b => w_gcd_steps (base := base) T F hm b D_divide)
  have D_gcd_of := d_gcd_of.df (ps := ["numbers"]) KX G (fun _ _ _ _ _ _ us hl => match us, hl with | [_], _ => rfl) (fun F hm b => w_gcd_of (base := base) T F hm b D_common_of)
  have D_lcm_of := d_lcm_of.df (ps := ["numbers"]) KX G (fun _ _ _ _ _ _ us hl => match us, hl with | [_], _ => rfl) (fun F hm b => w_lcm_of (base := base) T F hm b D_multiple)
  have D_gcd_row := d_gcd_row.df (ps := ["numbers"]) KX G (fun _ _ _ _ _ _ us hl => match us, hl with | [_], _ => rfl) (fun F hm b => w_gcd_row (base := base) T F hm b D_bezout)
  have D_digits := d_digits.df (ps := ["n", "base"]) KX G (fun _ _ _ _ _ _ us hl => match us, hl with | [_, _], _ => rfl) (fun F hm b => w_digits (base := base) T F hm b D_check_from D_check_between)
  have D_from_digits := d_from_digits.df (ps := ["told", "base"]) KX G (fun _ _ _ _ _ _ us hl => match us, hl with | [_, _], _ => rfl) (fun F hm b => w_from_digits (base := base) T F hm b D_check_between)
  have D_times_in := d_times_in.df (ps := ["n", "p"]) KX G (fun _ _ _ _ _ _ us hl => match us, hl with | [_, _], _ => rfl) (fun F hm b => w_times_in (base := base) T F hm b D_check_from D_times_of)
  have D_root_below := d_root_below.df (ps := ["n", "k"]) KX G (fun _ _ _ _ _ _ us hl => match us, hl with | [_, _], _ => rfl) (fun F hm b => w_root_below (base := base) T F hm b D_check_from D_check_between D_root_of_power)
  have D_power_form := d_power_form.df (ps := ["n"]) KX G (fun _ _ _ _ _ _ us hl => match us, hl with | [_], _ => rfl) (fun F hm b => w_power_form (base := base) T F hm b D_check_from D_to_power D_root_of_power)
  have D_is_square := d_is_square.df (ps := ["n"]) KX G (fun _ _ _ _ _ _ us hl => match us, hl with | [_], _ => rfl) (fun F hm b => w_is_square (base := base) T F hm b D_is_square_number)
  have D_square_part := d_square_part.df (ps := ["n"]) KX G (fun _ _ _ _ _ _ us hl => match us, hl with | [_], _ => rfl) (fun F hm b => w_square_part (base := base) T F hm b D_sign_of D_parted D_to_power)
  have D_ratio_sum := d_ratio_sum.df (ps := ["first", "second"]) KX G (fun _ _ _ _ _ _ us hl => match us, hl with | [_, _], _ => rfl) (fun F hm b => w_ratio_sum (base := base) T F hm b D_check_ratio D_plus)
  have D_ratio_times := d_ratio_times.df (ps := ["first", "second"]) KX G (fun _ _ _ _ _ _ us hl => match us, hl with | [_, _], _ => rfl) (fun F hm b => w_ratio_times (base := base) T F hm b D_check_ratio D_by)
  have D_ratio_below := d_ratio_below.df (ps := ["first", "second"]) KX G (fun _ _ _ _ _ _ us hl => match us, hl with | [_, _], _ => rfl) (fun F hm b => w_ratio_below (base := base) T F hm b D_check_ratio D_is_below)
  have D_check_gcd := d_check_gcd.df (ps := ["numbers", "told", "g"]) KX G (fun _ _ _ _ _ _ us hl => match us, hl with | [_, _, _], _ => rfl) (fun F hm b => w_check_gcd (base := base) T F hm b)
  have D__law_cell := d__law_cell.df (ps := ["script", "k"]) KX G (fun _ _ _ _ _ _ us hl => match us, hl with | [_, _], _ => rfl) (fun F hm b => w__law_cell (base := base) T F hm b)
  have D__law_draw := d__law_draw.df (ps := ["cell", "limits"]) KX G (fun _ _ _ _ _ _ us hl => match us, hl with | [_, _], _ => rfl) (fun F hm b => w__law_draw (base := base) T F hm b)
  have D__law_gcd := d__law_gcd.df (ps := ["a", "b"]) KX G (fun _ _ _ _ _ _ us hl => match us, hl with | [_, _], _ => rfl) (fun F hm b => w__law_gcd (base := base) T F hm b)
  have D__law_ratio := d__law_ratio.df (ps := ["a", "b"]) KX G (fun _ _ _ _ _ _ us hl => match us, hl with | [_, _], _ => rfl) (fun F hm b => w__law_ratio (base := base) T F hm b D__law_gcd)
  have D__law_told := d__law_told.df (ps := ["way", "a", "b"]) KX G (fun _ _ _ _ _ _ us hl => match us, hl with | [_, _, _], _ => rfl) (fun F hm b => w__law_told (base := base) T F hm b D_divide D_digits D_root_below D_ratio_sum D_from_digits D_power_form)
  have D__law_divide := d__law_divide.df (ps := ["a", "b"]) KX G (fun _ _ _ _ _ _ us hl => match us, hl with | [_, _], _ => rfl) (fun F hm b => w__law_divide (base := base) T F hm b)
  have D__law_pair := d__law_pair.df (ps := ["a", "b"]) KX G (fun _ _ _ _ _ _ us hl => match us, hl with | [_, _], _ => rfl) (fun F hm b => w__law_pair (base := base) T F hm b D__law_divide D_divide D_gcd_steps D__law_gcd D_gcd_paper D_gcd D_divides)
  have D__law_one := d__law_one.df (ps := ["n"]) KX G (fun _ _ _ _ _ _ us hl => match us, hl with | [_], _ => rfl) (fun F hm b => w__law_one (base := base) T F hm b D_digits D_from_digits D_root_below D_is_square)
  have bL : Binds K _ ["script"] [] := FL.binds fun _ _ _ _ _ _ us hl => match us, hl with | [_], _ => rfl
  exact (ok_law T FL (PySem.W.mg_of KX G aL) bL D__law_cell D__law_draw D__law_pair D__law_one D__law_gcd D_gcd_row D_gcd_of D_check_gcd D_lcm_of D_times_in D_square_part D_power_form D__law_ratio D_ratio_sum D_ratio_times D_ratio_below D__law_told D_digits).1.imp fun vs H Q E q => q _
end Rw

set_option linter.all false
namespace Rw
open PySem
/-! ### laws of the combinators -/
theorem while_i {t : TT} {b : ST} {v : Ev} {P : Post} (W : Nat → Ev → Prop) (m0 : Nat) (h0 : W m0 v)
    (step : ∀ m v, W m v → t v (fun c => br c (b v { P with nx := fun v' => ∃ m', m' < m ∧ W m' v', ct := fun v' => ∃ m', m' < m ∧ W m' v', bk := P.nx }) (P.nx v)) (P.ex v)) : sWhile t b v P := ⟨W, ⟨m0, h0⟩, step⟩
theorem forD_i {g : GT} {b : ST} {P : Post} (I : List D → Ev → Prop) (step : ∀ d rest v (N : Ev → Prop), I (d :: rest) v → (∀ v2, I rest v2 → N v2) → g d v fun v1 => b v1 { P with nx := N, ct := N, bk := P.nx })
    (hend : ∀ v, I [] v → P.nx v) : ∀ (ds : List D) (v : Ev), I ds v → forD g b ds v P
  | [], v, h => hend v h
  | d :: ds, v, h => step d ds v (fun v2 => forD g b ds v2 P) h (fun v2 h2 => forD_i I step hend ds v2 h2)
theorem br_true {c : Bool} {A B : Prop} (e : c = true) (h : A) : br c A B := by rw [e]; exact h
theorem br_false {c : Bool} {A B : Prop} (e : c = false) (h : B) : br c A B := by rw [e]; exact h
theorem kcast {α : Type} {K : α → Prop} {a b : α} (h : K a) (e : a = b) : K b := e ▸ h
/-- what * asks, for small numbers -/
theorem mulOk_l {i j : Int} (h : -(2 ^ 64) < i ∧ i < 2 ^ 64) : MulOk i j := .inl h
theorem mulOk_r {i j : Int} (h : -(2 ^ 64) < j ∧ j < 2 ^ 64) : MulOk i j := .inr (.inl h)

def sg (a : Int) : Int := b2n (decide (0 < a)) - b2n (decide (a < 0))
theorem p_sign_of (a : Int) {K : KD} {X : KX} (h : K (.int (sg a))) : G_sign_of [.int a] K X := by
  unfold G_sign_of d_sign_of
  exact ⟨rfl, h⟩
theorem p_check_between {v lo hi : Int} {K : KD} {X : KX} (h1 : lo ≤ v) (h2 : v ≤ hi) (h : K .none) : G_check_between [.int v, .int lo, .int hi] K X := by
  unfold G_check_between d_check_between
  refine ⟨rfl, ?_⟩
  refine br_true (c := decide (lo ≤ v)) (by simpa using h1) ?_
  refine br_false (c := !decide (v ≤ hi)) (by simpa using h2) ?_
  exact h
theorem p_check_from {v lo : Int} {K : KD} {X : KX} (h1 : lo ≤ v) (h : K .none) : G_check_from [.int v, .int lo] K X := by
  unfold G_check_from d_check_from
  refine ⟨rfl, ?_⟩
  refine br_false (c := decide (v < lo)) (by simpa using h1) ?_
  exact h
theorem fmod_gcd (a b : Int) (hb : b ≠ 0) : Int.gcd b (a.fmod b) = Int.gcd a b := by
  rw [Int.fmod_def, Int.sub_eq_add_neg, Int.gcd_comm a b]
  have : Int.gcd b (a + -(b * a.fdiv b)) = Int.gcd b a := by
    have := Int.gcd_add_mul_left_right b a (-(a.fdiv b))
    rw [show b * -(a.fdiv b) = -(b * a.fdiv b) by rw [Int.mul_neg]] at this
    exact this
  exact this
theorem p_common (a b : Int) {K : KD} {X : KX} (h : K (.int (Int.gcd a b))) : G_common [.int a, .int b] K X := by
  unfold G_common d_common
  refine ⟨rfl, rfl, ?_⟩
  refine while_i (fun m v => ∃ x y : Int, v = [.val (.int x), .val (.int y)] ∧ 0 ≤ x ∧ 0 ≤ y ∧ Int.gcd x y = Int.gcd a b ∧ y.toNat = m) (if b < 0 then -b else b).toNat ⟨(if a < 0 then -a else a), (if b < 0 then -b else b), rfl, by split <;> omega, by split <;> omega, ?_, rfl⟩ ?_
  · split <;> split <;> simp [Int.gcd_neg, Int.neg_gcd]
  · rintro m v ⟨x, y, rfl, hx, hy, hg, hm⟩
    refine br_dec (p := 0 < y) (fun c => ?_) (fun c => ?_)
    · refine ⟨by omega, rfl, ?_⟩
      have h1 := Int.fmod_nonneg_of_pos x c
      have h2 := Int.fmod_lt_of_pos x c
      exact ⟨(x.fmod y).toNat, by omega, y, x.fmod y, rfl, hy, h1, by rw [fmod_gcd x y (by omega), hg], rfl⟩
    · have e0 : y = 0 := by omega
      subst e0
      have e1 : x = ((Int.gcd a b : Nat) : Int) := by rw [← hg, Int.gcd_zero_right]; omega
      have h2 : K (.int x) := by rw [e1]; exact h
      exact h2
theorem p_gcd (a b : Int) {K : KD} {X : KX} (h : K (.int (Int.gcd a b))) : G_gcd [.int a, .int b] K X := by
  unfold G_gcd d_gcd
  exact ⟨rfl, p_common a b h⟩
theorem fmodN (a b : Nat) : (a : Int).fmod b = ((a % b : Nat) : Int) := by rw [Int.fmod_eq_emod_of_nonneg _ (by omega)]; rfl
theorem fdivN (a b : Nat) : (a : Int).fdiv b = ((a / b : Nat) : Int) := by rw [Int.fdiv_eq_ediv_of_nonneg _ (by omega)]; rfl
theorem pw_ok {a : Int} {e : Nat} (ha : a.natAbs ≤ 2 ^ 64) (he : e ≤ 6000) : (a ^ e).natAbs < 2 ^ 400000 := by
  rw [Int.natAbs_pow]
  refine Nat.lt_of_le_of_lt (Nat.pow_le_pow_left ha e) ?_
  rw [← Nat.pow_mul]
  exact Nat.pow_lt_pow_right (by omega) (by omega)
theorem p_to_power (a : Int) (n : Nat) (ha : a.natAbs ≤ 2 ^ 64) (hn : n ≤ 3000) {K : KD} {X : KX} (h : K (.int (a ^ n))) : G_to_power [.int a, .int n] K X := by
  unfold G_to_power d_to_power
  refine ⟨rfl, ?_⟩
  refine while_i (fun m v => ∃ (f b : Int) (l e j : Nat), v = [.val (.int a), .val (.int n), .val (.int f), .val (.int b), .val (.int l)] ∧ f = a ^ e ∧ b = a ^ j ∧ e + j * l = n ∧ 1 ≤ j ∧ l = m) n ⟨1, a, n, 0, 1, rfl, (Int.pow_zero a).symm, by rw [Int.pow_succ, Int.pow_zero, Int.one_mul], by omega, by omega, rfl⟩ ?_
  rintro m v ⟨f, b, l, e, j, rfl, rfl, rfl, hs, hj, rfl⟩
  refine br_dec (p := (0 : Int) < l) (fun c => ?_) (fun c => ?_)
  · have hl : 0 < l := by omega
    have hj2 : j ≤ n := by
      have := Nat.le_mul_of_pos_right j hl
      omega
    have e1 : (l : Int).fmod 2 = ((l % 2 : Nat) : Int) := fmodN l 2
    have e2 : (l : Int).fdiv 2 = ((l / 2 : Nat) : Int) := fdivN l 2
    have bb : MulOk (a ^ j) (a ^ j) := .inr (.inr ⟨pw_ok ha (by omega), pw_ok ha (by omega)⟩)
    have dv : DivOk (l : Int) 2 := ⟨by decide, .inl (by decide)⟩
    refine ⟨by decide, ?_⟩
    refine br_dec (p := (l : Int).fmod 2 = 1) (fun c1 => ?_) (fun c1 => ?_)
    · rw [e1] at c1
      refine ⟨.inr (.inr ⟨pw_ok ha (by omega), pw_ok ha (by omega)⟩), bb, dv, l / 2, by omega, a ^ e * a ^ j, a ^ j * a ^ j, l / 2, e + j, j + j, ?_, (Int.pow_add ..).symm, (Int.pow_add ..).symm, ?_, by omega, rfl⟩
      · show [_, _, _, _, Sl.val (.int ((l : Int).fdiv 2))] = _
        rw [e2]
      · have : l = 2 * (l / 2) + 1 := by omega
        have h3 : j * l = (j + j) * (l / 2) + j := by
          conv => lhs; rw [this]
          rw [Nat.mul_add, Nat.add_mul, ← Nat.mul_assoc, Nat.mul_comm j 2, Nat.two_mul, Nat.add_mul]; omega
        omega
    · rw [e1] at c1
      refine ⟨bb, dv, l / 2, by omega, a ^ e, a ^ j * a ^ j, l / 2, e, j + j, ?_, rfl, (Int.pow_add ..).symm, ?_, by omega, rfl⟩
      · show [_, _, _, _, Sl.val (.int ((l : Int).fdiv 2))] = _
        rw [e2]
      · have : l = 2 * (l / 2) := by omega
        have h3 : j * l = (j + j) * (l / 2) := by
          conv => lhs; rw [this]
          rw [← Nat.mul_assoc, Nat.mul_comm j 2, Nat.two_mul]
        omega
  · have h0 : l = 0 := by omega
    subst h0
    have : e = n := by omega
    subst this
    exact h
end Rw

set_option linter.all false
namespace Rw
open PySem
/-! ### roots -/
theorem castpow (h k : Nat) : ((h : Int) ^ k) = ((h ^ k : Nat) : Int) := by push_cast; rfl
theorem le_pow_self' {a k : Nat} (hk : 1 ≤ k) : a ≤ a ^ k := by
  cases k with
  | zero => omega
  | succ k =>
    cases a with
    | zero => omega
    | succ a =>
      rw [Nat.pow_succ]
      exact Nat.le_mul_of_pos_left _ (Nat.pow_pos (by omega))
theorem p_root_of_power (n k : Nat) (hk : 1 ≤ k) (hk2 : k ≤ 3000) (hn : n < 2 ^ 60) {K : KD} {X : KX} (h : ∀ r : Nat, r ^ k ≤ n → n < (r + 1) ^ k → K (.int r)) : G_root_of_power [.int n, .int k] K X := by
  unfold G_root_of_power d_root_of_power
  refine ⟨rfl, ?_⟩
  refine br_dec (p := (n : Int) < 2) (fun c => ?_) (fun c => ?_)
  · refine h n ?_ ?_
    · have h2 : n = 0 ∨ n = 1 := by omega
      rcases h2 with e | e
      · subst e; rw [Nat.zero_pow (by omega)]; exact Nat.le_refl _
      · subst e; rw [Nat.one_pow]; exact Nat.le_refl _
    · exact Nat.lt_of_lt_of_le (Nat.lt_succ_self n) (le_pow_self' hk)
  · refine ⟨rfl, ?_⟩
    have hn2 : 2 ≤ n := by omega
    have small : ∀ a : Nat, a ^ k ≤ n → a ≤ n := fun a ha => Nat.le_trans (le_pow_self' hk) ha
    refine while_i (fun m v => ∃ low : Nat, v = [.val (.int n), .val (.int k), .val (.int low), .val (.int ((2 * low : Nat) : Int)), .un] ∧ 1 ≤ low ∧ low ^ k ≤ n ∧ m + low = n + 1) n ⟨1, rfl, by omega, by rw [Nat.one_pow]; omega, rfl⟩ ?_
    rintro m v ⟨low, rfl, h1, h2, h3⟩
    have hlow := small low h2
    refine p_to_power ((2 * low : Nat) : Int) k (by rw [Int.natAbs_natCast]; omega) hk2 ?_
    refine br_dec (p := (((2 * low : Nat) : Int)) ^ k ≤ (n : Int)) (fun c1 => ?_) (fun c1 => ?_)
    · rw [castpow] at c1
      have c2 : (2 * low) ^ k ≤ n := by omega
      have := small _ c2
      refine ⟨mulOk_l (by decide), rfl, n + 1 - 2 * low, by omega, 2 * low, rfl, by omega, c2, by omega⟩
    · rw [castpow] at c1
      have c2 : n < (2 * low) ^ k := by omega
      refine while_i (fun m v => ∃ (lo hi : Nat) (mid : Sl), v = [.val (.int n), .val (.int k), .val (.int lo), .val (.int hi), mid] ∧ lo ^ k ≤ n ∧ n < hi ^ k ∧ lo < hi ∧ hi ≤ 2 * n ∧ m = hi - lo) (2 * low - low) ⟨low, 2 * low, .un, rfl, h2, c2, by omega, by omega, rfl⟩ ?_
      rintro m v ⟨lo, hi, mid, rfl, g1, g2, g3, g5, g4⟩
      refine br_dec (p := (1 : Int) < (hi : Int) - lo) (fun c3 => ?_) (fun c3 => ?_)
      · have e2 : ((lo : Int) + hi).fdiv 2 = (((lo + hi) / 2 : Nat) : Int) := by
          have := fdivN (lo + hi) 2
          rw [← this]; push_cast; rfl
        refine ⟨⟨by decide, .inl (by decide)⟩, ?_⟩
        show (eCall G_to_power (aCons (eV 4) (aCons (eV 1) aNil))) [.val (.int n), .val (.int k), .val (.int lo), .val (.int hi), .val (.int (((lo : Int) + hi).fdiv 2))] _ _
        rw [e2]
        refine p_to_power (((lo + hi) / 2 : Nat) : Int) k (by rw [Int.natAbs_natCast]; omega) hk2 ?_
        refine br_dec (p := ((((lo + hi) / 2 : Nat) : Int)) ^ k ≤ (n : Int)) (fun c4 => ?_) (fun c4 => ?_)
        · rw [castpow] at c4
          exact ⟨hi - (lo + hi) / 2, by omega, (lo + hi) / 2, hi, _, rfl, by omega, g2, by omega, g5, rfl⟩
        · rw [castpow] at c4
          exact ⟨(lo + hi) / 2 - lo, by omega, lo, (lo + hi) / 2, _, rfl, g1, by omega, by omega, by omega, rfl⟩
      · refine h lo g1 ?_
        have : hi = lo + 1 := by omega
        rw [← this]; exact g2
theorem p_root_below (n k : Nat) (hk : 1 ≤ k) (hk2 : k ≤ 60) (hn : n < 2 ^ 60) {K : KD} {X : KX} (h : ∀ r : Nat, r ^ k ≤ n → n < (r + 1) ^ k → K (.int r)) : G_root_below [.int n, .int k] K X := by
  unfold G_root_below d_root_below
  refine ⟨rfl, ?_⟩
  refine p_check_from (by omega) ?_
  refine p_check_between (by omega) (by omega) ?_
  exact p_root_of_power n k hk (by omega) hn h
theorem root_uniq {n k r s : Nat} (hk : 1 ≤ k) (h1 : r ^ k ≤ n) (h2 : n < (r + 1) ^ k) (h3 : s ^ k ≤ n) (h4 : n < (s + 1) ^ k) : r = s := by
  rcases Nat.lt_trichotomy r s with h | h | h
  · have := Nat.pow_le_pow_left (show r + 1 ≤ s from h) k; omega
  · exact h
  · have := Nat.pow_le_pow_left (show s + 1 ≤ r from h) k; omega
theorem p_square_root (n : Nat) (hn : n < 2 ^ 60) {K : KD} {X : KX} (h : ∀ r : Nat, r ^ 2 ≤ n → n < (r + 1) ^ 2 → K (.int r)) : G_square_root [.int n] K X := by
  unfold G_square_root d_square_root
  exact ⟨rfl, p_root_of_power n 2 (by omega) (by omega) hn h⟩
theorem p_is_square_number (n : Nat) (hn : n < 2 ^ 60) {K : KD} {X : KX} (h : ∀ r : Nat, r ^ 2 ≤ n → n < (r + 1) ^ 2 → K (.bool (decide ((r : Int) ^ 2 = n)))) : G_is_square_number [.int n] K X := by
  unfold G_is_square_number d_is_square_number
  refine ⟨rfl, ?_⟩
  refine br_dec (p := (0 : Int) ≤ n) (B := K (.bool false)) (fun _ => ?_) (fun c => absurd (show (0 : Int) ≤ n by omega) c)
  refine p_square_root n hn fun r h1 h2 => ?_
  refine ⟨⟨by decide, by decide, ?_⟩, ?_⟩
  · rw [Int.natAbs_natCast]
    have := le_pow_self' (a := r) (k := 2) (by omega)
    omega
  · exact h r h1 h2
theorem p_is_square (n : Nat) (hn : n < 2 ^ 60) {K : KD} {X : KX} (h : ∀ r : Nat, r ^ 2 ≤ n → n < (r + 1) ^ 2 → K (.bool (decide ((r : Int) ^ 2 = n)))) : G_is_square [.int n] K X := by
  unfold G_is_square d_is_square
  exact ⟨rfl, p_is_square_number n hn h⟩
/-! ### how often a prime divides -/
def vf : Nat → Nat → Nat → Nat
  | 0, _, _ => 0
  | f + 1, n, p => if n % p = 0 then vf f (n / p) p + 1 else 0
theorem vf_s (f n p : Nat) : vf (f + 1) n p = if n % p = 0 then vf f (n / p) p + 1 else 0 := rfl
theorem p_times_of (n p : Nat) (hn : 1 ≤ n) (hp : 2 ≤ p) (hp2 : p < 2 ^ 30) {K : KD} {X : KX} (h : K (.int (vf n n p))) : G_times_of [.int n, .int p] K X := by
  unfold G_times_of d_times_of
  refine ⟨rfl, ?_⟩
  refine while_i (fun m v => ∃ x c : Nat, v = [.val (.int x), .val (.int p), .val (.int c)] ∧ 1 ≤ x ∧ x ≤ m ∧ c + vf m x p = vf n n p) n ⟨n, 0, rfl, hn, Nat.le_refl _, by omega⟩ ?_
  rintro m v ⟨x, c, rfl, hx, hm, hc⟩
  refine ⟨by omega, ?_⟩
  refine br_dec (p := (x : Int).fmod p = 0) (fun c1 => ?_) (fun c1 => ?_)
  · rw [fmodN] at c1
    have c2 : x % p = 0 := by omega
    refine ⟨⟨by omega, .inl (by rw [Int.natAbs_natCast]; omega)⟩, ?_⟩
    have hd : x / p < x := Nat.div_lt_self (by omega) (by omega)
    have hpos : 1 ≤ x / p := Nat.div_pos (Nat.le_of_dvd (by omega) (Nat.dvd_of_mod_eq_zero c2)) (by omega)
    cases m with
    | zero => omega
    | succ m =>
      refine ⟨m, by omega, x / p, c + 1, ?_, hpos, by omega, ?_⟩
      · show [Sl.val (.int ((x : Int).fdiv p)), _, _] = _
        rw [fdivN]; push_cast; rfl
      · rw [vf_s, if_pos c2] at hc
        omega
  · rw [fmodN] at c1
    have c2 : ¬ x % p = 0 := by omega
    have e : vf m x p = 0 := by
      cases m with
      | zero => rfl
      | succ m => rw [vf_s, if_neg c2]
    have : c = vf n n p := by omega
    subst this
    exact h
theorem p_times_in (n p : Nat) (hn : 1 ≤ n) (hp : 2 ≤ p) (hp2 : p < 2 ^ 30) {K : KD} {X : KX} (h : K (.int (vf n n p))) : G_times_in [.int n, .int p] K X := by
  unfold G_times_in d_times_in
  refine ⟨rfl, ?_⟩
  refine br_false (c := decide ((n : Int) = 0)) (by simpa using (show n ≠ 0 by omega)) ?_
  refine p_check_from (by omega) ?_
  exact p_times_of n p hn hp hp2 h
/-! ### division -/
theorem p_divide (a b : Int) (hb : b ≠ 0) (hb2 : b.natAbs < 2 ^ 30) {K : KD} {X : KX} (h : K (.tuple [.int ((a - a.fmod b.natAbs).fdiv b), .int (a.fmod b.natAbs)])) : G_divide [.int a, .int b] K X := by
  unfold G_divide d_divide
  refine ⟨rfl, ?_⟩
  refine br_false (c := decide (b = 0)) (by simpa using hb) ?_
  have e : (if b < 0 then -b else b) = (b.natAbs : Int) := by split <;> omega
  refine ⟨by show (if b < 0 then -b else b) ≠ 0; rw [e]; omega, ⟨hb, .inl (by omega)⟩, ?_⟩
  show K (.tuple [.int ((a - a.fmod (if b < 0 then -b else b)).fdiv b), .int (a.fmod (if b < 0 then -b else b))])
  rw [e]
  exact h
theorem p_law_divide (a b : Int) (hb : b ≠ 0) (hb2 : b.natAbs < 2 ^ 30) {K : KD} {X : KX} (h : K (.tuple [.int ((a - a.fmod b.natAbs).fdiv b), .int (a.fmod b.natAbs)])) : G__law_divide [.int a, .int b] K X := by
  unfold G__law_divide d__law_divide
  have e : (if b < 0 then -b else b) = (b.natAbs : Int) := by split <;> omega
  refine ⟨rfl, by show (if b < 0 then -b else b) ≠ 0; rw [e]; omega, ⟨hb, .inl (by omega)⟩, ?_⟩
  show K (.tuple [.int ((a - a.fmod (if b < 0 then -b else b)).fdiv b), .int (a.fmod (if b < 0 then -b else b))])
  rw [e]
  exact h
theorem p_divides (b a : Int) {K : KD} {X : KX} (h : K (.bool (if b = 0 then decide (a = 0) else decide (a.fmod b = 0)))) : G_divides [.int b, .int a] K X := by
  unfold G_divides d_divides
  refine ⟨rfl, ?_⟩
  refine br_dec (p := b = 0) (fun c => ?_) (fun c => ?_)
  · rw [if_pos c] at h; exact h
  · rw [if_neg c] at h; exact ⟨c, h⟩
theorem p_multiple (a b : Int) (hb : -(2 ^ 64) < b ∧ b < 2 ^ 64) (hg : b.natAbs < 2 ^ 30) {K : KD} {X : KX} (h : K (.int (if a = 0 ∨ b = 0 then 0 else ((a * b).natAbs : Int).fdiv (Int.gcd a b)))) : G_multiple [.int a, .int b] K X := by
  unfold G_multiple d_multiple
  refine ⟨rfl, ?_⟩
  refine br_dec (p := a = 0) (fun c => ?_) (fun c => ?_)
  · rw [if_pos (.inl c)] at h; exact h
  refine br_dec (p := b = 0) (fun c' => ?_) (fun c' => ?_)
  · rw [if_pos (.inr c')] at h; exact h
  rw [if_neg (by omega)] at h
  refine ⟨mulOk_r hb, ?_⟩
  refine p_common a b ?_
  have g1 : Int.gcd a b ≠ 0 := fun z => c (Int.gcd_eq_zero_iff.mp z).1
  have g2 : Int.gcd a b ≤ b.natAbs := by
    have := Int.gcd_dvd_natAbs_right a b
    exact Nat.le_of_dvd (by omega) this
  refine ⟨⟨by omega, .inl (by rw [Int.natAbs_natCast]; omega)⟩, ?_⟩
  show K (.int ((if a * b < 0 then -(a * b) else a * b).fdiv (Int.gcd a b)))
  have e : (if a * b < 0 then -(a * b) else a * b) = ((a * b).natAbs : Int) := by split <;> omega
  rw [e]
  exact h
end Rw

set_option linter.all false
namespace Rw
open PySem
/-! ### the law's own gcd -/
def gfin : Nat → Nat → Nat → Prop
  | 0, _, y => y = 0
  | k + 1, x, y => y = 0 ∨ gfin k y (x % y)
theorem gfin_zero : ∀ (k x : Nat), gfin k x 0
  | 0, _ => rfl
  | _ + 1, _ => .inl rfl
theorem gfin_mono : ∀ (k x y : Nat), gfin k x y → gfin (k + 1) x y
  | 0, x, y, h => .inl h
  | k + 1, x, y, h => by
    rcases h with h | h
    · exact .inl h
    · exact .inr (gfin_mono k y (x % y) h)
theorem gfin_le {k x y : Nat} (h : gfin k x y) : ∀ j, k ≤ j → gfin j x y := by
  intro j hj
  induction hj with
  | refl => exact h
  | step _ ih => exact gfin_mono _ _ _ ih
theorem gfin_of : ∀ (t x y : Nat), y < 2 ^ t → gfin (2 * t + 1) x y
  | 0, x, y, h => .inl (by omega)
  | t + 1, x, y, h => by
    by_cases hy : y = 0
    · exact .inl hy
    refine .inr ?_
    show gfin (2 * t + 1 + 1) y (x % y)
    by_cases hr : x % y = 0
    · exact .inl hr
    refine .inr (gfin_of t _ _ ?_)
    have h1 : x % y < y := Nat.mod_lt _ (by omega)
    have h2 : y % (x % y) < x % y := Nat.mod_lt _ (by omega)
    have h3 := Nat.div_add_mod y (x % y)
    have h4 : 1 ≤ y / (x % y) := Nat.div_pos (by omega) (by omega)
    have h5 : (x % y) * 1 ≤ (x % y) * (y / (x % y)) := Nat.mul_le_mul_left _ h4
    rw [Nat.pow_succ] at h
    omega
theorem gcd_natAbs (a b : Int) : Int.gcd a b = Nat.gcd a.natAbs b.natAbs := rfl
theorem absN (a : Int) : (if a < 0 then -a else a) = (a.natAbs : Int) := by split <;> omega
theorem p_law_gcd (a b : Int) (hb : b.natAbs < 2 ^ 190) {K : KD} {X : KX} (h : K (.int (Int.gcd a b))) : G__law_gcd [.int a, .int b] K X := by
  unfold G__law_gcd d__law_gcd
  refine ⟨rfl, ⟨by decide, by decide⟩, ?_⟩
  refine forD_i (fun rest v => ∃ (x y : Nat) (s2 s3 : Sl), v = [.val (.int x), .val (.int y), s2, s3] ∧ Nat.gcd x y = Int.gcd a b ∧ gfin rest.length x y) ?_ ?_ _ _ ⟨a.natAbs, b.natAbs, .un, .un, ?_, rfl, ?_⟩
  · rintro d rest v N ⟨x, y, s2, s3, rfl, hg, hf⟩ hN
    refine br_ndec (p := (y : Int) = 0) (fun c => ?_) (fun c => ?_)
    · refine ⟨c, ?_⟩
      refine hN _ ⟨y, x % y, .val d, .val (.int ((x : Int).fmod y)), ?_, ?_, ?_⟩
      · show [_, Sl.val (.int ((x : Int).fmod y)), _, _] = _
        rw [fmodN]
      · rw [← hg, Nat.gcd_comm x y, Nat.gcd_rec y x, Nat.gcd_comm]
      · rcases hf with hf | hf
        · omega
        · exact hf
    · have : y = 0 := by omega
      subst this
      exact hN _ ⟨x, 0, _, s3, rfl, hg, gfin_zero _ _⟩
  · rintro v ⟨x, y, s2, s3, rfl, hg, hf⟩
    have hf : y = 0 := hf
    subst hf
    rw [Nat.gcd_zero_right] at hg
    have : K (.int x) := by rw [hg]; exact h
    exact this
  · show [Sl.val (.int (if a < 0 then -a else a)), Sl.val (.int (if b < 0 then -b else b)), _, _] = _
    rw [absN, absN]
  · have e : (rng 0 (400 : Int).toNat 1).length = 400 := by unfold rng; rw [List.length_map, List.length_range]; rfl
    rw [e]
    exact gfin_le (gfin_of 190 _ _ hb) _ (by decide)
/-! ### ratios -/
def shr (a b : Int) : Int := if b < 0 then -(Int.gcd a b : Int) else Int.gcd a b
theorem gcd_small {a b : Int} (hb : b ≠ 0) : Int.gcd a b ≤ b.natAbs := Nat.le_of_dvd (by omega) (Int.gcd_dvd_natAbs_right a b)
theorem gcd_pos' {a b : Int} (hb : b ≠ 0) : 0 < Int.gcd a b := Nat.pos_of_ne_zero fun z => hb (Int.gcd_eq_zero_iff.mp z).2
theorem p_law_ratio (a b : Int) (hb : b ≠ 0) (hb2 : b.natAbs < 2 ^ 30) {K : KD} {X : KX} (h : K (.tuple [.int (a.fdiv (shr a b)), .int (b.fdiv (shr a b))])) : G__law_ratio [.int a, .int b] K X := by
  unfold G__law_ratio d__law_ratio
  refine ⟨rfl, p_law_gcd a b (by omega) ?_⟩
  have h1 := gcd_small (a := a) hb
  have h2 := gcd_pos' (a := a) hb
  unfold shr at h
  refine br_dec (p := b < 0) (fun c => ?_) (fun c => ?_)
  · rw [if_pos c] at h
    exact ⟨⟨by omega, .inl (by omega)⟩, ⟨by omega, .inl (by omega)⟩, h⟩
  · rw [if_neg c] at h
    exact ⟨⟨by omega, .inl (by omega)⟩, ⟨by omega, .inl (by omega)⟩, h⟩
theorem p_lowest (a b : Int) (hb : b ≠ 0) (hb2 : b.natAbs < 2 ^ 30) {K : KD} {X : KX} (h : K (.tuple [.int (a.fdiv (shr a b)), .int (b.fdiv (shr a b))])) : G_lowest [.int a, .int b] K X := by
  unfold G_lowest d_lowest
  refine ⟨rfl, p_common a b ?_⟩
  have h1 := gcd_small (a := a) hb
  have h2 := gcd_pos' (a := a) hb
  unfold shr at h
  refine br_dec (p := b < 0) (fun c => ?_) (fun c => ?_)
  · rw [if_pos c] at h
    exact ⟨⟨by omega, .inl (by omega)⟩, ⟨by omega, .inl (by omega)⟩, h⟩
  · rw [if_neg c] at h
    exact ⟨⟨by omega, .inl (by omega)⟩, ⟨by omega, .inl (by omega)⟩, h⟩
theorem p_check_ratio (x y : Int) (hy : 0 < y) (hg : Int.gcd x y = 1) {K : KD} {X : KX} (h : K .none) : G_check_ratio [.tuple [.int x, .int y]] K X := by
  unfold G_check_ratio d_check_ratio
  refine ⟨rfl, ?_⟩
  show G_is_ratio [.tuple [.int x, .int y]] _ _
  unfold G_is_ratio d_is_ratio
  refine ⟨rfl, ?_⟩
  refine ⟨Nat.le_of_ble_eq_true rfl, ⟨rfl, Nat.le_of_ble_eq_true rfl⟩, ⟨rfl, Nat.le_of_ble_eq_true rfl⟩, ?_⟩
  refine br_dec (p := 0 < y) (fun _ => ?_) (fun c => absurd hy c)
  refine p_common x y ?_
  rw [hg]
  exact h
theorem p_plus (x y z w : Int) (h0 : y * w ≠ 0) (h1 : (y * w).natAbs < 2 ^ 30) (hy : y.natAbs < 2 ^ 30) (hw : w.natAbs < 2 ^ 30) {K : KD} {X : KX} (h : K (.tuple [.int ((x * w + z * y).fdiv (shr (x * w + z * y) (y * w))), .int ((y * w).fdiv (shr (x * w + z * y) (y * w)))])) :
    G_plus [.tuple [.int x, .int y], .tuple [.int z, .int w]] K X := by
  unfold G_plus d_plus
  refine ⟨rfl, mulOk_r (by omega), mulOk_r (by omega), mulOk_r (by omega), ?_⟩
  exact p_lowest _ _ h0 h1 h
theorem p_by (x y z w : Int) (h0 : y * w ≠ 0) (h1 : (y * w).natAbs < 2 ^ 30) (hz : z.natAbs < 2 ^ 30) (hw : w.natAbs < 2 ^ 30) {K : KD} {X : KX} (h : K (.tuple [.int ((x * z).fdiv (shr (x * z) (y * w))), .int ((y * w).fdiv (shr (x * z) (y * w)))])) :
    G_by [.tuple [.int x, .int y], .tuple [.int z, .int w]] K X := by
  unfold G_by d_by
  refine ⟨rfl, mulOk_r (by omega), mulOk_r (by omega), ?_⟩
  exact p_lowest _ _ h0 h1 h
theorem p_is_below (x y z w : Int) (hy : y.natAbs < 2 ^ 30) (hw : w.natAbs < 2 ^ 30) {K : KD} {X : KX} (h : K (.bool (decide (x * w < z * y)))) : G_is_below [.tuple [.int x, .int y], .tuple [.int z, .int w]] K X := by
  unfold G_is_below d_is_below
  exact ⟨rfl, mulOk_r (by omega), mulOk_r (by omega), h⟩
theorem ratio_ok (a b : Int) (hb : 0 < b) (hb2 : b.natAbs < 2 ^ 30) : 0 < b.fdiv (shr a b) ∧ Int.gcd (a.fdiv (shr a b)) (b.fdiv (shr a b)) = 1 ∧ (b.fdiv (shr a b)).natAbs ≤ b.natAbs ∧ (a.fdiv (shr a b)).natAbs ≤ a.natAbs := by
  have e : shr a b = Int.gcd a b := by unfold shr; rw [if_neg (by omega)]
  have h2 := gcd_pos' (a := a) (b := b) (by omega)
  rw [e, Int.fdiv_eq_ediv_of_nonneg _ (by omega), Int.fdiv_eq_ediv_of_nonneg _ (by omega)]
  have d1 : (Int.gcd a b : Int) ∣ a := Int.gcd_dvd_left a b
  have d2 : (Int.gcd a b : Int) ∣ b := Int.gcd_dvd_right a b
  refine ⟨Int.ediv_pos_of_pos_of_dvd hb (by omega) d2, Int.gcd_ediv_gcd_ediv_gcd_of_ne_zero_right (by omega), ?_, ?_⟩
  · rw [Int.natAbs_ediv_of_dvd d2]
    exact Nat.div_le_self _ _
  · rw [Int.natAbs_ediv_of_dvd d1]
    exact Nat.div_le_self _ _
/-! ### equality of what is alike -/
theorem eqvs_ints : ∀ ns : List Int, eqvs (ns.map .int) (ns.map .int) = true
  | [] => rfl
  | n :: ns => by
    show (eqv (.int n) (.int n) && eqvs (ns.map .int) (ns.map .int)) = true
    rw [eqvs_ints ns]
    simp [eqv]
theorem shps_ints : ∀ ns : List Int, shps (ns.map .int) = true
  | [] => rfl
  | n :: ns => shps_ints ns
theorem deps_ints : ∀ ns : List Int, deps (ns.map .int) = 0
  | [] => rfl
  | n :: ns => by
    show max 0 (deps (ns.map .int)) = 0
    rw [deps_ints ns]; rfl
theorem cmp_ints (ns : List Int) : cmpOk (.list (ns.map .int)) := ⟨shps_ints ns, by show deps (ns.map .int) + 1 ≤ 64; rw [deps_ints]; decide⟩
theorem cmp_tup (ns : List Int) : cmpOk (.tuple (ns.map .int)) := ⟨shps_ints ns, by show deps (ns.map .int) + 1 ≤ 64; rw [deps_ints]; decide⟩
theorem ne_list (ns : List Int) {K : KD} (h : K (.bool false)) : oNe (.list (ns.map .int)) (.list (ns.map .int)) K := by
  refine ⟨cmp_ints ns, cmp_ints ns, ?_⟩
  show K (.bool (!eqvs (ns.map .int) (ns.map .int)))
  rw [eqvs_ints]; exact h
theorem ne_tup (ns : List Int) {K : KD} (h : K (.bool false)) : oNe (.tuple (ns.map .int)) (.tuple (ns.map .int)) K := by
  refine ⟨cmp_tup ns, cmp_tup ns, ?_⟩
  show K (.bool (!eqvs (ns.map .int) (ns.map .int)))
  rw [eqvs_ints]; exact h
theorem ne_int (a : Int) {K : KD} (h : K (.bool false)) : oNe (.int a) (.int a) K := by
  show K (.bool (!decide (a = a)))
  rw [decide_eq_true rfl]; exact h
end Rw

set_option linter.all false
namespace Rw
open PySem
/-! ### the steps of a gcd -/
/-- the next pair's second: the rest; the quotient -/
def rst (a b : Int) : Int := a.fmod b.natAbs
def quo (a b : Int) : Int := (a - rst a b).fdiv b
def qs : Nat → Int → Int → List Int
  | 0, _, _ => []
  | k + 1, a, b => if b = 0 then [] else quo a b :: qs k b (rst a b)
/-- within k steps the second is 0 -/
def qfin : Nat → Int → Int → Prop
  | 0, _, b => b = 0
  | k + 1, a, b => b = 0 ∨ qfin k b (rst a b)
theorem qfin_zero : ∀ (k : Nat) (a : Int), qfin k a 0
  | 0, _ => rfl
  | _ + 1, _ => .inl rfl
theorem qfin_mono : ∀ (k : Nat) (x y : Int), qfin k x y → qfin (k + 1) x y
  | 0, x, y, h => .inl h
  | k + 1, x, y, h => by
    rcases h with h | h
    · exact .inl h
    · exact .inr (qfin_mono k y _ h)
theorem qfin_le {k : Nat} {x y : Int} (h : qfin k x y) : ∀ j, k ≤ j → qfin j x y := by
  intro j hj
  induction hj with
  | refl => exact h
  | step _ ih => exact qfin_mono _ _ _ ih
theorem qfin_nat : ∀ (k x y : Nat), gfin k x y → qfin k x y
  | 0, x, y, h => by have h : y = 0 := h; subst h; rfl
  | k + 1, x, y, h => by
    rcases h with h | h
    · subst h; exact .inl rfl
    · refine .inr ?_
      have e : rst (x : Int) y = ((x % y : Nat) : Int) := by unfold rst; rw [Int.natAbs_natCast, fmodN]
      rw [e]
      exact qfin_nat k y (x % y) h
theorem rst_nat (a b : Int) (hb : b ≠ 0) : ∃ r : Nat, rst a b = r ∧ r < b.natAbs := by
  have h1 := Int.fmod_nonneg_of_pos a (b := b.natAbs) (by omega)
  have h2 := Int.fmod_lt_of_pos a (b := b.natAbs) (by omega)
  exact ⟨(rst a b).toNat, by unfold rst; omega, by unfold rst; omega⟩
theorem qfin_of (a b : Int) (hb : b.natAbs < 2 ^ 15) : qfin 35 a b := by
  by_cases h : b = 0
  · rw [h]; exact qfin_zero _ _
  refine .inr ?_
  obtain ⟨r, e, hr⟩ := rst_nat a b h
  rw [e]
  by_cases h2 : r = 0
  · rw [h2]; exact qfin_zero _ _
  refine .inr ?_
  have e2 : rst b (r : Int) = ((rst b r).toNat : Int) := by
    obtain ⟨q, e3, _⟩ := rst_nat b r (by omega)
    rw [e3]; rfl
  obtain ⟨q, e3, hq⟩ := rst_nat b r (by omega)
  rw [e3]
  have hq : q < 2 ^ 15 := by omega
  exact qfin_le (qfin_nat _ r q (gfin_of 15 r q hq)) 33 (by decide)
theorem qs_len : ∀ (k : Nat) (a b : Int), (qs k a b).length ≤ k
  | 0, _, _ => Nat.le_refl _
  | k + 1, a, b => by
    unfold qs
    split
    · simp
    · have := qs_len k b (rst a b)
      simp only [List.length_cons]; omega
theorem qs_zero (k : Nat) (a : Int) : qs k a 0 = [] := by cases k <;> simp [qs]
theorem qs_s (k : Nat) (a b : Int) (hb : b ≠ 0) : qs (k + 1) a b = quo a b :: qs k b (rst a b) := by
  show (if b = 0 then _ else _) = _
  rw [if_neg hb]
theorem rst_abs (a b : Int) (hb : b ≠ 0) : (rst a b).natAbs < b.natAbs := by
  obtain ⟨r, e, hr⟩ := rst_nat a b hb
  rw [e, Int.natAbs_natCast]; exact hr
theorem p_gcd_steps (a b : Int) (hb : b ≠ 0) (hb2 : b.natAbs < 2 ^ 15) {K : KD} {X : KX} (h : K (.list ((qs 35 a b).map .int))) : G_gcd_steps [.int a, .int b] K X := by
  unfold G_gcd_steps d_gcd_steps
  refine ⟨rfl, ?_⟩
  refine br_false (c := decide (b = 0)) (by simpa using hb) ?_
  refine while_i (fun m v => ∃ (x y : Int) (acc : List Int) (s3 s4 : Sl), v = [.val (.int x), .val (.int y), .own (.list (acc.map .int)), s3, s4] ∧ y.natAbs < 2 ^ 15 ∧ qfin m x y ∧ acc ++ qs m x y = qs 35 a b ∧ acc.length + m = 35) 35 ⟨a, b, [], .un, .un, rfl, hb2, qfin_of a b hb2, rfl, rfl⟩ ?_
  rintro m v ⟨x, y, acc, s3, s4, rfl, hy, hf, he, hl⟩
  refine br_ndec (p := y = 0) (fun c => ?_) (fun c => ?_)
  · refine p_divide x y c (by omega) ?_
    refine ⟨rfl, ?_, rfl, ?_⟩
    · show (acc.map PyData.int).length < szl
      rw [List.length_map]
      show acc.length < 16777216
      omega
    · cases m with
      | zero => exact absurd hf c
      | succ m =>
        refine ⟨m, by omega, y, rst x y, acc ++ [quo x y], .val (.int (quo x y)), .val (.int (rst x y)), ?_, ?_, ?_, ?_, ?_⟩
        · show [_, _, Sl.own (.list (acc.map .int ++ [.int (quo x y)])), Sl.val (.int (quo x y)), Sl.val (.int (rst x y))] = _
          rw [List.map_append]; rfl
        · have := rst_abs x y c; omega
        · rcases hf with hf | hf
          · exact absurd hf c
          · exact hf
        · rw [qs_s _ _ _ c] at he
          rw [List.append_assoc]; exact he
        · rw [List.length_append]; simp only [List.length_singleton]; omega
  · subst c
    rw [qs_zero, List.append_nil] at he
    rw [he]
    exact h
/-- as the law takes them -/
theorem p_steps40 {P : Post} (a b : Int) (hb2 : b.natAbs < 2 ^ 15) (s0 s1 s2 s5 s6 s7 s8 : Sl)
    (h : ∀ s4 s5 s6, P.nx [s0, s1, s2, .own (.list ((qs 35 a b).map .int)), s4, s5, s6, s7, s8]) :
    sFor (iR1 (eI 40)) (gN 5)
    (sIf (tV (e2 oNe (e2 oIx (eV 4) (eI 1)) (eI 0)))
    (sSeq (sSet 6 (eCall G__law_divide (aCons (e2 oIx (eV 4) (eI 0)) (aCons (e2 oIx (eV 4) (eI 1)) aNil))))
    (sSeq (sApp 3 (e2 oIx (eV 6) (eI 0)))
    (sSet 4 (eTup (aCons (e2 oIx (eV 4) (eI 1)) (aCons (e2 oIx (eV 6) (eI 1)) aNil))))))
    sNil) [s0, s1, s2, .own (.list []), .val (.tuple [.int a, .int b]), s5, s6, s7, s8] P := by
  refine ⟨⟨by decide, by decide⟩, ?_⟩
  refine forD_i (fun rest v => ∃ (x y : Int) (acc : List Int) (s5 s6 : Sl) (j : Nat), v = [s0, s1, s2, .own (.list (acc.map .int)), .val (.tuple [.int x, .int y]), s5, s6, s7, s8] ∧ y.natAbs < 2 ^ 15 ∧ qfin j x y ∧ acc ++ qs j x y = qs 35 a b ∧ acc.length + j ≤ 35 ∧ j ≤ rest.length) ?_ ?_ _ _ ⟨a, b, [], s5, s6, 35, rfl, hb2, qfin_of a b hb2, rfl, by decide, ?_⟩
  · rintro d rest v N ⟨x, y, acc, s5, s6, j, rfl, hy, hf, he, hl, hj⟩ hN
    refine br_ndec (p := y = 0) (fun c => ?_) (fun c => ?_)
    · refine p_law_divide x y c (by omega) ?_
      refine ⟨?_, ?_⟩
      · show (acc.map PyData.int).length < szl
        rw [List.length_map]
        show acc.length < 16777216
        omega
      · cases j with
        | zero => exact absurd hf c
        | succ j =>
          refine hN _ ⟨y, rst x y, acc ++ [quo x y], .val d, .val (.tuple [.int (quo x y), .int (rst x y)]), j, ?_, ?_, ?_, ?_, ?_, ?_⟩
          · show [_, _, _, Sl.own (.list (acc.map .int ++ [.int (quo x y)])), Sl.val (.tuple [.int y, .int (rst x y)]), _, Sl.val (.tuple [.int (quo x y), .int (rst x y)]), _, _] = _
            rw [List.map_append]; rfl
          · have := rst_abs x y c; omega
          · rcases hf with hf | hf
            · exact absurd hf c
            · exact hf
          · rw [qs_s _ _ _ c] at he
            rw [List.append_assoc]; exact he
          · rw [List.length_append]; simp only [List.length_singleton]; omega
          · simp only [List.length_cons] at hj; omega
    · subst c
      rw [qs_zero, List.append_nil] at he
      exact hN _ ⟨x, 0, acc, _, s6, 0, rfl, by decide, rfl, by simpa [qs] using he, by omega, by omega⟩
  · rintro v ⟨x, y, acc, s5, s6, j, rfl, hy, hf, he, hl, hj⟩
    have : j = 0 := by simpa using hj
    subst this
    have he : acc ++ [] = qs 35 a b := he
    rw [List.append_nil] at he
    rw [he]
    exact h _ _ _
  · show 35 ≤ (rng 0 (40 : Int).toNat 1).length
    unfold rng; rw [List.length_map, List.length_range]; decide
/-! ### bezout -/
theorem natAbs_step (s0 s1 q : Int) (e : Nat) (h0 : s0.natAbs ≤ 2 ^ (10 * e)) (h1 : s1.natAbs ≤ 2 ^ (10 * e)) (hq : q.natAbs ≤ 1000) : (s0 - q * s1).natAbs ≤ 2 ^ (10 * (e + 1)) := by
  have h2 : (s0 - q * s1).natAbs ≤ s0.natAbs + (q * s1).natAbs := Int.natAbs_sub_le ..
  rw [Int.natAbs_mul] at h2
  have h3 : q.natAbs * s1.natAbs ≤ 1000 * 2 ^ (10 * e) := Nat.mul_le_mul hq h1
  have h4 : 2 ^ (10 * (e + 1)) = 2 ^ (10 * e) * 1024 := by rw [Nat.mul_add, Nat.pow_add]
  omega
theorem pow_mono10 {e f : Nat} (h : e ≤ f) : 2 ^ (10 * e) ≤ 2 ^ (10 * f) := Nat.pow_le_pow_right (by omega) (by omega)
theorem fmod_abs (a b : Int) (hb : b ≠ 0) : (a.fmod b).natAbs < b.natAbs := by
  rcases Int.lt_or_gt_of_ne hb with h | h
  · have e : a.fmod b = -((-a).fmod (-b)) := by
      have := Int.neg_fmod_neg (a := a) (b := b)
      omega
    have h1 := Int.fmod_nonneg_of_pos (-a) (b := -b) (by omega)
    have h2 := Int.fmod_lt_of_pos (-a) (b := -b) (by omega)
    omega
  · have h1 := Int.fmod_nonneg_of_pos a h
    have h2 := Int.fmod_lt_of_pos a h
    omega
@[irreducible] def big : Nat := 10010
theorem p_bezout (a b : Int) (ha : a.natAbs ≤ 1000) (hb : b.natAbs ≤ 1000) {K : KD} {X : KX} (h : ∀ u v : Int, u * a + v * b = Int.gcd a b → u.natAbs ≤ 2 ^ big → v.natAbs ≤ 2 ^ big → K (.tuple [.int (Int.gcd a b), .int u, .int v])) : G_bezout [.int a, .int b] K X := by
  unfold G_bezout d_bezout
  refine ⟨rfl, rfl, ?_⟩
  refine while_i (fun m v => ∃ (r0 s0 t0 r1 s1 t1 : Int) (e : Nat) (s4 s5 s6 : Sl), v = [.val (.int a), .val (.int b), .val (.tuple [.int r0, .int s0, .int t0]), .val (.tuple [.int r1, .int s1, .int t1]), s4, s5, s6] ∧
      s0 * a + t0 * b = r0 ∧ s1 * a + t1 * b = r1 ∧ Int.gcd r0 r1 = Int.gcd a b ∧ r0.natAbs ≤ 1000 ∧ r1.natAbs ≤ 1000 ∧ s0.natAbs ≤ 2 ^ (10 * e) ∧ t0.natAbs ≤ 2 ^ (10 * e) ∧ s1.natAbs ≤ 2 ^ (10 * e) ∧ t1.natAbs ≤ 2 ^ (10 * e) ∧ e + m ≤ 1001 ∧ r1.natAbs = m) b.natAbs
    ⟨a, 1, 0, b, 0, 1, 0, .un, .un, .un, rfl, by omega, by omega, rfl, ha, hb, by decide, by decide, by decide, by decide, by omega, rfl⟩ ?_
  rintro m v ⟨r0, s0, t0, r1, s1, t1, e, s4, s5, s6, rfl, e0, e1, hg, hr0, hr1, b1, b2, b3, b4, hm, rfl⟩
  refine br_ndec (p := r1 = 0) (fun c => ?_) (fun c => ?_)
  · have hq : (r0.fdiv r1).natAbs ≤ 1000 := Nat.le_trans (Int.natAbs_fdiv_le_natAbs r0 r1) hr0
    have mq : ∀ z : Int, MulOk (r0.fdiv r1) z := fun z => mulOk_l (by omega)
    have e2 : r0 - r0.fdiv r1 * r1 = r0.fmod r1 := by rw [Int.fmod_def, Int.mul_comm]
    have hf := fmod_abs r0 r1 c
    refine ⟨⟨c, .inl (by omega)⟩, Nat.le_of_ble_eq_true rfl, ⟨rfl, mq _, rfl, mq _, rfl, mq _, rfl, ?_⟩⟩
    refine ⟨(r0.fmod r1).natAbs, hf, r1, s1, t1, r0 - r0.fdiv r1 * r1, s0 - r0.fdiv r1 * s1, t0 - r0.fdiv r1 * t1, e + 1, _, _, _, rfl, e1, ?_, ?_, hr1, ?_, ?_, ?_, ?_, ?_, ?_, ?_⟩
    · rw [Int.sub_mul, Int.sub_mul, ← e0, ← e1, Int.mul_add, Int.mul_assoc, Int.mul_assoc]
      omega
    · rw [e2, fmod_gcd _ _ c, hg]
    · rw [e2]; omega
    · exact Nat.le_trans b3 (pow_mono10 (by omega))
    · exact Nat.le_trans b4 (pow_mono10 (by omega))
    · exact natAbs_step _ _ _ _ b1 b3 hq
    · exact natAbs_step _ _ _ _ b2 b4 hq
    · omega
    · rw [e2]
  · subst c
    rw [Int.gcd_zero_right] at hg
    have c1 : 2 ^ (10 * e) ≤ 2 ^ big := Nat.pow_le_pow_right (by omega) (by unfold big; omega)
    refine br_dec (p := (0 : Int) ≤ r0) (fun c => ?_) (fun c => ?_)
    · have e3 : r0 = (Int.gcd a b : Int) := by omega
      have := h s0 t0 (by omega) (Nat.le_trans b1 c1) (Nat.le_trans b2 c1)
      rw [← e3] at this
      exact this
    · have e3 : -r0 = (Int.gcd a b : Int) := by omega
      refine ⟨Nat.le_of_ble_eq_true rfl, ?_⟩
      have := h (-s0) (-t0) (by rw [Int.neg_mul, Int.neg_mul]; omega) (by rw [Int.natAbs_neg]; exact Nat.le_trans b1 c1) (by rw [Int.natAbs_neg]; exact Nat.le_trans b2 c1)
      rw [← e3] at this
      exact this
end Rw

set_option linter.all false
namespace Rw
open PySem
theorem eq_tup (ns : List Int) {K : KD} (h : K (.bool true)) : oEq (.tuple (ns.map .int)) (.tuple (ns.map .int)) K := by
  refine ⟨cmp_tup ns, cmp_tup ns, ?_⟩
  show K (.bool (eqvs (ns.map .int) (ns.map .int)))
  rw [eqvs_ints]; exact h
theorem p_gcd_paper0 (a : Int) {K : KD} {X : KX} (h : K (.tuple [.int a.natAbs, .int (sg a), .int 0])) : G_gcd_paper [.int a, .int 0] K X := by
  unfold G_gcd_paper d_gcd_paper
  refine ⟨rfl, ?_⟩
  refine p_sign_of a ?_
  show K (.tuple [.int (if a < 0 then -a else a), .int (sg a), .int 0])
  rw [absN]; exact h
theorem paper_core (a b g u0 v0 : Int) (g0 : 0 < g) (a' size : Int) (ea : a = g * a') (eb : (b.natAbs : Int) = g * size) (hs : 0 < size) (e : u0 * a' + v0 * size = 1) :
    b ∣ g - (u0.fmod size) * a ∧ 0 ≤ u0.fmod size ∧ u0.fmod size * g < b.natAbs := by
  have h1 := Int.fmod_nonneg_of_pos u0 hs
  have h2 := Int.fmod_lt_of_pos u0 hs
  refine ⟨?_, h1, ?_⟩
  · have e2 : g - (u0.fmod size) * a = (b.natAbs : Int) * (v0 + u0.fdiv size * a') := by
      rw [Int.fmod_def, eb, ea]
      have : g = g * (u0 * a' + v0 * size) := by rw [e, Int.mul_one]
      conv => lhs; lhs; rw [this]
      simp only [Int.mul_add, Int.add_mul, Int.sub_mul, Int.mul_sub]
      have a1 : u0 * (g * a') = g * (u0 * a') := by rw [Int.mul_left_comm]
      have a2 : size * u0.fdiv size * (g * a') = g * size * (u0.fdiv size * a') := by
        rw [Int.mul_assoc, Int.mul_assoc, Int.mul_left_comm (u0.fdiv size) g a', Int.mul_left_comm size g]
      have a3 : g * (v0 * size) = g * size * v0 := by rw [Int.mul_comm v0 size, Int.mul_assoc]
      rw [a1, a2, a3]; omega
    rw [e2]
    exact Int.dvd_trans (Int.dvd_natAbs_self) (Int.dvd_mul_right _ _)
  · rw [eb, Int.mul_comm]
    exact Int.mul_lt_mul_of_pos_left h2 g0
theorem p_gcd_paper (a b : Int) (hb : b ≠ 0) (ha : a.natAbs ≤ 1000) (hb2 : b.natAbs ≤ 1000) {K : KD} {X : KX}
    (h : ∀ u w : Int, u * a + w * b = Int.gcd a b → 0 ≤ u → u * Int.gcd a b < b.natAbs → K (.tuple [.int (Int.gcd a b), .int u, .int w])) : G_gcd_paper [.int a, .int b] K X := by
  unfold G_gcd_paper d_gcd_paper
  refine ⟨rfl, ?_⟩
  refine br_false (c := decide (b = 0)) (by simpa using hb) ?_
  refine p_common a b ?_
  have g1 := gcd_small (a := a) hb
  have g2 := gcd_pos' (a := a) hb
  have d1 : (Int.gcd a b : Int) ∣ a := Int.gcd_dvd_left a b
  have d2 : Int.gcd a b ∣ b.natAbs := Int.gcd_dvd_natAbs_right a b
  have dv : ∀ x : Int, DivOk x (Int.gcd a b) := fun x => ⟨by omega, .inl (by omega)⟩
  refine ⟨dv _, dv _, ?_⟩
  show G_bezout [.int (a.fdiv (Int.gcd a b)), .int ((if b < 0 then -b else b).fdiv (Int.gcd a b))] (fun d => _) _
  have es : (if b < 0 then -b else b).fdiv (Int.gcd a b) = ((b.natAbs / Int.gcd a b : Nat) : Int) := by rw [absN, fdivN]
  have ef : a.fdiv (Int.gcd a b) = a / (Int.gcd a b : Int) := Int.fdiv_eq_ediv_of_nonneg _ (by omega)
  have s1 : b.natAbs / Int.gcd a b ≤ b.natAbs := Nat.div_le_self _ _
  have s2 : 0 < b.natAbs / Int.gcd a b := Nat.div_pos g1 g2
  have s3 : Int.gcd a b * (b.natAbs / Int.gcd a b) = b.natAbs := Nat.mul_div_cancel' d2
  have c1 : Int.gcd (a.fdiv (Int.gcd a b)) ((b.natAbs / Int.gcd a b : Nat) : Int) = 1 := by
    rw [ef, gcd_natAbs, Int.natAbs_ediv_of_dvd d1, Int.natAbs_natCast, Int.natAbs_natCast, gcd_natAbs]
    exact Nat.gcd_div_gcd_div_gcd_of_pos_right (by omega)
  rw [es]
  refine p_bezout _ _ (Nat.le_trans (Int.natAbs_fdiv_le_natAbs _ _) ha) (by rw [Int.natAbs_natCast]; omega) fun u0 v0 e _ _ => ?_
  rw [c1] at e
  have ea : a = (Int.gcd a b : Int) * a.fdiv (Int.gcd a b) := by rw [ef, Int.mul_ediv_cancel' d1]
  have eb : (b.natAbs : Int) = (Int.gcd a b : Int) * ((b.natAbs / Int.gcd a b : Nat) : Int) := by
    have := congrArg (fun n : Nat => (n : Int)) s3
    simp only [Int.natCast_mul] at this
    exact this.symm
  obtain ⟨k1, k2, k3⟩ := paper_core a b (Int.gcd a b) u0 v0 (by omega) _ _ ea eb (by omega) e
  have hu := Int.fmod_lt_of_pos u0 (b := ((b.natAbs / Int.gcd a b : Nat) : Int)) (by omega)
  refine ⟨by omega, mulOk_r (by omega), ⟨hb, .inl (by omega)⟩, ?_⟩
  refine h _ _ ?_ k2 k3
  rw [Int.fdiv_eq_ediv_of_dvd k1, Int.ediv_mul_cancel k1]
  omega
/-! ### _law_pair -/
def pair_end : ST := (sSeq (sSet 7 (eCall G__law_gcd (aCons (eV 0) (aCons (eV 1) aNil))))
    (sSeq (sSet 8 (eCall G_gcd_paper (aCons (eV 0) (aCons (eV 1) aNil))))
    (sSeq (sIf (tOr (tV (e2 oNe (eCall G_gcd (aCons (eV 0) (aCons (eV 1) aNil))) (eV 7))) (tOr (tV (e2 oNe (eCall G_divides (aCons (eV 1) (aCons (eV 0) aNil))) (eOr (eAnd (e2 oEq (eV 1) (eI 0)) (e2 oEq (eV 0) (eI 0))) (eAnd (e2 oNe (eV 1) (eI 0)) (e2 oEq (e2 oMod (e1 oInt (eV 0)) (eV 1)) (eI 0)))))) (tOr (tV (e2 oNe (e2 oIx (eV 8) (eI 0)) (eV 7))) (tV (e2 oNe (e2 oAdd (e2 oMul (e2 oIx (eV 8) (eI 1)) (eV 0)) (e2 oMul (e2 oIx (eV 8) (eI 2)) (eV 1))) (eV 7))))))
    (sRet eF)
    sNil)
    (sSeq (sIf (tAnd (tV (e2 oNe (eV 1) (eI 0))) (tAnd (tNot (tV (eChn oLe oLt (eI 0) (e2 oMul (e2 oIx (eV 8) (eI 1)) (eV 7)) (e2 oMax2 (e1 oAbs (eV 1)) (eV 7))))) (tNot (tAnd (tV (e2 oEq (e1 oAbs (eV 1)) (eV 7))) (tV (e2 oEq (e2 oIx (eV 8) (eI 1)) (eI 0)))))))
    (sRet eF)
    sNil)
    (sRet (eOr (e2 oNe (eV 1) (eI 0)) (e2 oEq (eTup (aCons (e2 oIx (eV 8) (eI 1)) (aCons (e2 oIx (eV 8) (eI 2)) aNil))) (eTup (aCons (e2 oSub (e1 oInt (e2 oGt (eV 0) (eI 0))) (e1 oInt (e2 oLt (eV 0) (eI 0)))) (aCons (eI 0) aNil))))))))))
theorem pair_end_nz (a b : Int) (hb : b ≠ 0) (ha : a.natAbs ≤ 1000) (hb2 : b.natAbs ≤ 1000) (s2 s3 s4 s5 s6 s7 s8 : Sl) {P : Post} (h : P.rt (.bool true)) : pair_end [.val (.int a), .val (.int b), s2, s3, s4, s5, s6, s7, s8] P := by
  unfold pair_end
  have bz : decide (b = 0) = false := by simpa using hb
  refine p_law_gcd a b (Nat.lt_of_le_of_lt hb2 (by decide)) ?_
  refine p_gcd_paper a b hb ha hb2 fun u w e hu hlt => ?_
  have g1 := gcd_small (a := a) hb
  refine p_gcd a b ?_
  refine br_ndec (p := (Int.gcd a b : Int) = Int.gcd a b) (fun c => absurd rfl c) (fun _ => ?_)
  refine p_divides b a ?_
  rw [if_neg hb]
  refine br_false (c := decide (b = 0)) bz ?_
  refine br_true (c := !decide (b = 0)) (by rw [bz]; rfl) ?_
  refine ⟨hb, ?_⟩
  refine br_false (c := !(decide (a.fmod b = 0) == decide (a.fmod b = 0))) (by simp) ?_
  refine br_ndec (p := (Int.gcd a b : Int) = Int.gcd a b) (fun c => absurd rfl c) (fun _ => ?_)
  refine ⟨mulOk_r (by omega), mulOk_r (by omega), ?_⟩
  refine br_ndec (p := u * a + w * b = Int.gcd a b) (fun c => absurd e c) (fun _ => ?_)
  refine br_true (c := !decide (b = 0)) (by rw [bz]; rfl) ?_
  refine ⟨mulOk_r (by omega), ?_⟩
  have h0 : (0 : Int) ≤ u * Int.gcd a b := Int.mul_nonneg hu (by omega)
  refine br_true (c := decide ((0 : Int) ≤ u * Int.gcd a b)) (by simpa using h0) ?_
  refine br_false (c := !decide (u * Int.gcd a b < (if (Int.gcd a b : Int) > (if b < 0 then -b else b) then (Int.gcd a b : Int) else (if b < 0 then -b else b)))) ?_ ?_
  · rw [absN]
    have : u * (Int.gcd a b : Int) < (if (Int.gcd a b : Int) > (b.natAbs : Int) then (Int.gcd a b : Int) else (b.natAbs : Int)) := by
      split <;> omega
    rw [decide_eq_true this]; rfl
  refine br_true (c := !decide (b = 0)) (by rw [bz]; rfl) ?_
  exact h
theorem pair_end_z (a : Int) (ha : a.natAbs ≤ 1000) (s2 s3 s4 s5 s6 s7 s8 : Sl) {P : Post} (h : P.rt (.bool true)) : pair_end [.val (.int a), .val (.int 0), s2, s3, s4, s5, s6, s7, s8] P := by
  unfold pair_end
  refine p_law_gcd a 0 (by decide) ?_
  refine p_gcd_paper0 a ?_
  have g1 : (Int.gcd a 0 : Int) = a.natAbs := by rw [Int.gcd_zero_right]
  rw [g1]
  refine p_gcd a 0 ?_
  rw [g1]
  refine br_ndec (p := (a.natAbs : Int) = a.natAbs) (fun c => absurd rfl c) (fun _ => ?_)
  refine p_divides 0 a ?_
  rw [if_pos rfl]
  by_cases c0 : a = 0
  · subst c0
    refine ⟨mulOk_r (by decide), mulOk_r (by decide), ?_⟩
    refine eq_tup [0, 0] ?_
    exact h
  · have e1 : decide (a = 0) = false := by simpa using c0
    rw [e1]
    refine br_false (c := decide (a = 0)) e1 ?_
    refine br_ndec (p := (a.natAbs : Int) = a.natAbs) (fun c => absurd rfl c) (fun _ => ?_)
    refine ⟨mulOk_l (by unfold sg b2n; split <;> split <;> omega), mulOk_r (by decide), ?_⟩
    have e2 : sg a * a + 0 * 0 = (a.natAbs : Int) := by
      unfold sg
      rcases Int.lt_trichotomy a 0 with z | z | z
      · rw [decide_eq_false (by omega), decide_eq_true z]; show (0 - 1) * a + 0 * 0 = _; omega
      · exact absurd z c0
      · rw [decide_eq_true z, decide_eq_false (by omega)]; show (1 - 0) * a + 0 * 0 = _; omega
    refine br_ndec (p := sg a * a + 0 * 0 = (a.natAbs : Int)) (fun c => absurd e2 c) (fun _ => ?_)
    exact eq_tup [sg a, 0] h
end Rw

set_option linter.all false
namespace Rw
open PySem
theorem eqv_t (ns : List Int) : (!eqv (.tuple (ns.map .int)) (.tuple (ns.map .int))) = false := by
  show (!eqvs (ns.map .int) (ns.map .int)) = false
  rw [eqvs_ints]; rfl
theorem eqv_l (ns : List Int) : (!eqv (.list (ns.map .int)) (.list (ns.map .int))) = false := by
  show (!eqvs (ns.map .int) (ns.map .int)) = false
  rw [eqvs_ints]; rfl
theorem p_law_pair (a b : Int) (ha : a.natAbs ≤ 1000) (hb : b.natAbs ≤ 1000) {K : KD} {X : KX} (h : K (.bool true)) : G__law_pair [.int a, .int b] K X := by
  unfold G__law_pair d__law_pair
  refine ⟨rfl, ?_⟩
  refine br_ndec (p := b = 0) (fun c => ?_) (fun c => ?_)
  · refine p_law_divide a b c (by omega) ?_
    refine p_divide a b c (by omega) ?_
    refine ⟨cmp_tup [(a - a.fmod b.natAbs).fdiv b, a.fmod b.natAbs], cmp_tup [(a - a.fmod b.natAbs).fdiv b, a.fmod b.natAbs], br_false (c := !eqv (.tuple ([(a - a.fmod b.natAbs).fdiv b, a.fmod b.natAbs].map .int)) (.tuple ([(a - a.fmod b.natAbs).fdiv b, a.fmod b.natAbs].map .int))) (eqv_t _) ?_⟩
    refine p_steps40 a b (by omega) _ _ _ _ _ _ _ (fun s4 s5 s6 => ?_)
    refine p_gcd_steps a b c (by omega) ?_
    refine ⟨cmp_ints (qs 35 a b), cmp_ints (qs 35 a b), br_false (c := !eqv (.list ((qs 35 a b).map .int)) (.list ((qs 35 a b).map .int))) (eqv_l _) ?_⟩
    exact pair_end_nz a b c ha hb _ _ _ _ _ _ _ h
  · subst c
    exact pair_end_z a ha _ _ _ _ _ _ _ h
/-! ### digits -/
def dn : Nat → Nat → Nat → List Nat
  | 0, _, _ => []
  | k + 1, n, b => if n = 0 then [] else (n % b) :: dn k (n / b) b
theorem dn_zero (k b : Nat) : dn k 0 b = [] := by cases k <;> simp [dn]
theorem dn_s (k n b : Nat) (h : n ≠ 0) : dn (k + 1) n b = (n % b) :: dn k (n / b) b := by show (if n = 0 then _ else _) = _; rw [if_neg h]
def ci (l : List Nat) : List Int := l.map fun x : Nat => (x : Int)
theorem ci_app (l m : List Nat) : ci (l ++ m) = ci l ++ ci m := List.map_append
theorem ci_len (l : List Nat) : ((ci l).map PyData.int).length = l.length := by rw [List.length_map]; unfold ci; rw [List.length_map]
theorem p_digits (n b : Nat) (hb : 2 ≤ b) (hb2 : b ≤ 100) (hn : n < 2 ^ 60) {K : KD} {X : KX} (h : K (.list ((ci (dn 60 n b)).map .int))) : G_digits [.int n, .int b] K X := by
  unfold G_digits d_digits
  refine ⟨rfl, p_check_from (by omega) ?_⟩
  refine p_check_between (by omega) (by omega) ?_
  refine while_i (fun m v => ∃ (x : Nat) (acc : List Nat), v = [.val (.int x), .val (.int b), .own (.list ((ci acc).map .int))] ∧ x < 2 ^ m ∧ acc ++ dn m x b = dn 60 n b ∧ acc.length + m = 60) 60 ⟨n, [], rfl, hn, rfl, rfl⟩ ?_
  rintro m v ⟨x, acc, rfl, hx, he, hl⟩
  refine br_dec (p := (0 : Int) < x) (fun c => ?_) (fun c => ?_)
  · cases m with
    | zero => simp at hx; omega
    | succ m =>
      refine ⟨by omega, ?_, ⟨by omega, .inl (by rw [Int.natAbs_natCast]; omega)⟩, m, by omega, x / b, acc ++ [x % b], ?_, ?_, ?_, ?_⟩
      · show ((ci acc).map PyData.int).length < 16777216
        rw [ci_len]; omega
      · show [Sl.val (.int ((x : Int).fdiv b)), _, Sl.own (.list ((ci acc).map .int ++ [.int ((x : Int).fmod b)]))] = _
        rw [fdivN, fmodN, ci_app, List.map_append]; rfl
      · have h1 : x / b ≤ x / 2 := Nat.div_le_div_left hb (by omega)
        rw [Nat.pow_succ] at hx
        omega
      · rw [dn_s _ _ _ (by omega)] at he
        rw [List.append_assoc]; exact he
      · rw [List.length_append]; simp only [List.length_singleton]; omega
  · have : x = 0 := by omega
    subst this
    rw [dn_zero, List.append_nil] at he
    rw [he]; exact h
theorem dn_lt : ∀ (k n b : Nat), 2 ≤ b → ∀ x ∈ dn k n b, x < b
  | 0, _, _, _, x, h => by cases h
  | k + 1, n, b, hb, x, h => by
    unfold dn at h
    split at h
    · cases h
    · rcases List.mem_cons.mp h with e | e
      · rw [e]; exact Nat.mod_lt _ (by omega)
      · exact dn_lt k _ b hb x e
theorem dn_val : ∀ (k n b : Nat), 2 ≤ b → n < 2 ^ k → (dn k n b).foldr (fun x a => a * b + x) 0 = n
  | 0, n, _, _, h => by simp at h; subst h; rfl
  | k + 1, n, b, hb, h => by
    by_cases c : n = 0
    · subst c; rw [dn_zero]; rfl
    · rw [dn_s _ _ _ c, List.foldr_cons]
      have h1 : n / b ≤ n / 2 := Nat.div_le_div_left hb (by omega)
      rw [dn_val k (n / b) b hb (by rw [Nat.pow_succ] at h; omega), Nat.mul_comm]
      exact Nat.div_add_mod n b
theorem p_from_digits (n b : Nat) (hb : 2 ≤ b) (hb2 : b ≤ 100) (hn : n < 2 ^ 60) {K : KD} {X : KX} (h : K (.int n)) : G_from_digits [.list ((ci (dn 60 n b)).map .int), .int b] K X := by
  unfold G_from_digits d_from_digits
  refine ⟨rfl, p_check_between (by omega) (by omega) ?_⟩
  refine forD_i (fun rest v => (∃ s3, v = [.val (.list ((ci (dn 60 n b)).map .int)), .val (.int b), .val (.int 0), s3]) ∧ ∀ d ∈ rest, ∃ x : Nat, d = PyData.int x ∧ x < b) ?_ ?_ _ _ ⟨⟨_, rfl⟩, ?_⟩
  · rintro d rest v N ⟨⟨s3, rfl⟩, hr⟩ hN
    obtain ⟨x, rfl, hx⟩ := hr d List.mem_cons_self
    refine p_check_between (by omega) (by omega) ?_
    exact hN _ ⟨⟨_, rfl⟩, fun d hd => hr d (List.mem_cons_of_mem _ hd)⟩
  · rintro v ⟨⟨s3, rfl⟩, _⟩
    refine forD_i (fun rest v => ∃ (acc : Nat) (s3 : Sl) (xs : List Nat), v = [.val (.list ((ci (dn 60 n b)).map .int)), .val (.int b), .val (.int acc), s3] ∧ rest = (ci xs).map .int ∧ xs.foldl (fun a x => a * b + x) acc = n) ?_ ?_ _ _ ⟨0, s3, (dn 60 n b).reverse, rfl, ?_, ?_⟩
    · rintro d rest v N ⟨acc, s3, xs, rfl, he, hf⟩ hN
      cases xs with
      | nil => cases he
      | cons x xs =>
        have he : d :: rest = .int x :: (ci xs).map .int := he
        cases he
        refine ⟨mulOk_r (by omega), ?_⟩
        refine hN _ ⟨acc * b + x, .val (.int x), xs, ?_, rfl, hf⟩
        show [_, _, Sl.val (.int ((acc : Int) * b + x)), _] = _
        push_cast; rfl
    · rintro v ⟨acc, s3, xs, rfl, he, hf⟩
      cases xs with
      | cons x xs => cases he
      | nil =>
        have hf : acc = n := hf
        subst hf
        exact h
    · show ((ci (dn 60 n b)).map PyData.int).reverse = _
      unfold ci
      rw [← List.map_reverse, ← List.map_reverse]
    · rw [List.foldl_reverse]
      exact dn_val 60 n b hb hn
  · intro d hd
    obtain ⟨y, hy, rfl⟩ := List.mem_map.mp hd
    obtain ⟨x, hx, rfl⟩ := List.mem_map.mp hy
    exact ⟨x, rfl, dn_lt 60 n b hb x hx⟩
/-! ### _law_one -/
theorem p_law_one (n : Nat) (hn : n < 2 ^ 60) {K : KD} {X : KX} (h : K (.bool true)) : G__law_one [.int n] K X := by
  unfold G__law_one d__law_one
  refine ⟨rfl, ?_⟩
  refine forD_i (fun rest v => (∃ s1 s2 s3 s4 s5 s6 s7 s8 s9, v = [.val (.int n), s1, s2, s3, s4, s5, s6, s7, s8, s9]) ∧ ∀ d ∈ rest, ∃ b : Nat, d = PyData.int b ∧ 2 ≤ b ∧ b ≤ 100) ?_ ?_ _ _ ⟨⟨_, _, _, _, _, _, _, _, _, rfl⟩, ?_⟩
  · rintro d rest v N ⟨⟨s1, s2, s3, s4, s5, s6, s7, s8, s9, rfl⟩, hr⟩ hN
    obtain ⟨b, rfl, hb, hb2⟩ := hr d List.mem_cons_self
    refine ⟨⟨by decide, by decide⟩, ?_⟩
    refine forD_i (fun rest v => ∃ (x : Nat) (acc : List Nat) (s4 : Sl) (j : Nat), v = [.val (.int n), .val (.int b), .own (.list ((ci acc).map .int)), .val (.int x), s4, s5, s6, s7, s8, s9] ∧ x < 2 ^ j ∧ acc ++ dn j x b = dn 60 n b ∧ acc.length + j ≤ 60 ∧ j ≤ rest.length) ?_ ?_ _ _ ⟨n, [], s4, 60, rfl, hn, rfl, Nat.le_refl _, ?_⟩
    · rintro d rest v N ⟨x, acc, s4, j, rfl, hx, he, hl, hj⟩ hN
      refine br_dec (p := (0 : Int) < x) (fun c => ?_) (fun c => ?_)
      · cases j with
        | zero => simp at hx; omega
        | succ j =>
          refine ⟨by omega, ?_, ⟨by omega, .inl (by rw [Int.natAbs_natCast]; omega)⟩, hN _ ⟨x / b, acc ++ [x % b], .val d, j, ?_, ?_, ?_, ?_, ?_⟩⟩
          · show ((ci acc).map PyData.int).length < 16777216
            rw [ci_len]; omega
          · show [_, _, Sl.own (.list ((ci acc).map .int ++ [.int ((x : Int).fmod b)])), Sl.val (.int ((x : Int).fdiv b)), _, _, _, _, _, _] = _
            rw [fdivN, fmodN, ci_app, List.map_append]; rfl
          · have h1 : x / b ≤ x / 2 := Nat.div_le_div_left hb (by omega)
            rw [Nat.pow_succ] at hx
            omega
          · rw [dn_s _ _ _ (by omega)] at he
            rw [List.append_assoc]; exact he
          · rw [List.length_append]; simp only [List.length_singleton]; omega
          · simp only [List.length_cons] at hj; omega
      · have : x = 0 := by omega
        subst this
        rw [dn_zero] at he
        exact hN _ ⟨0, acc, .val d, 0, rfl, by decide, by rw [dn_zero]; exact he, by omega, by omega⟩
    · rintro v ⟨x, acc, s4, j, rfl, hx, he, hl, hj⟩
      have : j = 0 := by simpa using hj
      subst this
      have he : acc ++ [] = dn 60 n b := he
      rw [List.append_nil] at he
      subst he
      refine p_digits n b hb hb2 hn ?_
      refine ⟨cmp_ints (ci (dn 60 n b)), cmp_ints (ci (dn 60 n b)), br_false (c := !eqv (.list ((ci (dn 60 n b)).map .int)) (.list ((ci (dn 60 n b)).map .int))) (eqv_l _) ?_⟩
      refine p_from_digits n b hb hb2 hn ?_
      refine br_ndec (p := (n : Int) = n) (fun c => absurd rfl c) (fun _ => ?_)
      exact hN _ ⟨⟨_, _, _, _, _, _, _, _, _, rfl⟩, fun d hd => hr d (List.mem_cons_of_mem _ hd)⟩
    · show 60 ≤ (rng 0 (200 : Int).toNat 1).length
      unfold rng; rw [List.length_map, List.length_range]; decide
  · rintro v ⟨⟨s1, s2, s3, s4, s5, s6, s7, s8, s9, rfl⟩, _⟩
    refine forD_i (fun rest v => (∃ s1 s2 s3 s4 s5 s6 s7 s8 s9, v = [.val (.int n), s1, s2, s3, s4, s5, s6, s7, s8, s9]) ∧ ∀ d ∈ rest, ∃ k : Nat, d = PyData.int k ∧ 1 ≤ k ∧ k ≤ 60) ?_ ?_ _ _ ⟨⟨_, _, _, _, _, _, _, _, _, rfl⟩, ?_⟩
    · rintro d rest v N ⟨⟨s1, s2, s3, s4, s5, s6, s7, s8, s9, rfl⟩, hr⟩ hN
      obtain ⟨k, rfl, hk, hk2⟩ := hr d List.mem_cons_self
      refine p_root_below n k hk hk2 hn fun r h1 h2 => ?_
      have hrn : r ≤ n := Nat.le_trans (le_pow_self' hk) h1
      refine ⟨⟨by omega, by omega⟩, ?_⟩
      refine forD_i (fun rest v => ∃ (i : Nat) (s4 : Sl), v = [.val (.int n), s1, s2, s3, s4, .val (.int k), .val (.int r), .val (.int ((r : Int) ^ i)), .val (.int (((r : Int) + 1) ^ i)), s9] ∧ i + rest.length = k) ?_ ?_ _ _ ⟨0, s4, rfl, ?_⟩
      · rintro d rest v N ⟨i, s4, rfl, hi⟩ hN
        refine ⟨mulOk_r (by omega), mulOk_r (by omega), hN _ ⟨i + 1, .val d, ?_, by simp only [List.length_cons] at hi; omega⟩⟩
        rw [Int.pow_succ, Int.pow_succ]; rfl
      · rintro v ⟨i, s4, rfl, hi⟩
        have hi : i = k := by simpa using hi
        subst hi
        have q1 : (r : Int) ^ i ≤ n := by rw [castpow]; omega
        have q2 : (n : Int) < ((r : Int) + 1) ^ i := by
          have e5 : ((r : Int) + 1) ^ i = (((r + 1) ^ i : Nat) : Int) := by rw [← castpow]; push_cast; rfl
          rw [e5]; omega
        refine br_dec (p := (r : Int) ^ i ≤ n) (fun _ => ?_) (fun c => absurd q1 c)
        refine br_false (c := !decide ((n : Int) < ((r : Int) + 1) ^ i)) (by rw [decide_eq_true q2]; rfl) ?_
        exact hN _ ⟨⟨_, _, _, _, _, _, _, _, _, rfl⟩, fun d hd => hr d (List.mem_cons_of_mem _ hd)⟩
      · show 0 + (rng 0 (k : Int).toNat 1).length = k
        unfold rng; rw [List.length_map, List.length_range]; omega
    · rintro v ⟨⟨s1, s2, s3, s4, s5, s6, s7, s8, s9, rfl⟩, _⟩
      refine p_root_below n 2 (by omega) (by omega) hn fun r h1 h2 => ?_
      have hrn : r ≤ n := Nat.le_trans (le_pow_self' (k := 2) (by omega)) h1
      refine p_is_square n hn fun r' h3 h4 => ?_
      have e := root_uniq (by omega) h1 h2 h3 h4
      subst e
      refine ⟨mulOk_r (by omega), ?_⟩
      have e2 : (r : Int) ^ 2 = r * r := by rw [Int.pow_succ, Int.pow_succ, Int.pow_zero, Int.one_mul]
      rw [e2]
      show K (.bool (decide ((r : Int) * r = n) == decide ((r : Int) * r = n)))
      rw [beq_self_eq_true]
      exact h
    · intro d hd
      have : d = .int ((1 : Nat) : Int) ∨ d = .int ((2 : Nat) : Int) ∨ d = .int ((3 : Nat) : Int) ∨ d = .int ((5 : Nat) : Int) := by simpa using hd
      rcases this with e | e | e | e <;> exact ⟨_, e, by omega, by omega⟩
  · intro d hd
    have : d = .int ((2 : Nat) : Int) ∨ d = .int ((7 : Nat) : Int) ∨ d = .int ((10 : Nat) : Int) := by simpa using hd
    rcases this with e | e | e <;> exact ⟨_, e, by omega, by omega⟩
end Rw

set_option linter.all false
namespace Rw
open PySem
/-! ### lists of four numbers -/
def gcd4 (a b n d : Int) : Nat := Int.gcd (Int.gcd (Int.gcd (Int.gcd 0 a) b) n) d
theorem p_gcd_of4 (a b n d : Int) {K : KD} {X : KX} (h : K (.int (gcd4 a b n d))) : G_gcd_of [.list [.int a, .int b, .int n, .int d]] K X := by
  unfold G_gcd_of d_gcd_of
  refine ⟨rfl, ?_⟩
  show G_common_of [.list [.int a, .int b, .int n, .int d]] _ _
  unfold G_common_of d_common_of
  refine ⟨rfl, ?_⟩
  refine p_common _ _ (p_common _ _ (p_common _ _ (p_common _ _ ?_)))
  exact h
theorem p_gcd_of0 {K : KD} {X : KX} (h : K (.int 0)) : G_gcd_of [.list []] K X := by
  unfold G_gcd_of d_gcd_of
  refine ⟨rfl, ?_⟩
  show G_common_of [.list []] _ _
  unfold G_common_of d_common_of
  exact ⟨rfl, h⟩
def mulF (a b : Int) : Int := if a = 0 ∨ b = 0 then 0 else ((a * b).natAbs : Int).fdiv (Int.gcd a b)
theorem p_multiple' (a b : Int) (hb : b.natAbs ≤ 1000) {K : KD} {X : KX} (h : K (.int (mulF a b))) : G_multiple [.int a, .int b] K X :=
  p_multiple a b (by omega) (by omega) h
theorem p_lcm_of4 (a b n d : Int) (ha : a.natAbs ≤ 1000) (hb : b.natAbs ≤ 1000) (hn : n.natAbs ≤ 1000) (hd : d.natAbs ≤ 1000) {K : KD} {X : KX} (h : K (.int (mulF (mulF (mulF (mulF 1 a) b) n) d))) : G_lcm_of [.list [.int a, .int b, .int n, .int d]] K X := by
  unfold G_lcm_of d_lcm_of
  refine ⟨rfl, ?_⟩
  refine p_multiple' _ _ ha (p_multiple' _ _ hb (p_multiple' _ _ hn (p_multiple' _ _ hd ?_)))
  exact h
theorem p_lcm_of0 {K : KD} {X : KX} (h : K (.int 1)) : G_lcm_of [.list []] K X := by
  unfold G_lcm_of d_lcm_of
  exact ⟨rfl, h⟩
theorem gcd_max {a b : Int} (ha : a.natAbs ≤ 1000) (hb : b.natAbs ≤ 1000) : ((Int.gcd a b : Nat) : Int).natAbs ≤ 1000 := by
  rw [Int.natAbs_natCast]
  by_cases c : b = 0
  · rw [c, Int.gcd_zero_right]; exact ha
  · exact Nat.le_trans (gcd_small c) hb
theorem big1 {u : Int} {e : Nat} (h : u.natAbs ≤ 2 ^ e) (he : e < 400000) : u.natAbs < 2 ^ 400000 := Nat.lt_of_le_of_lt h (Nat.pow_lt_pow_right (by omega) he)
theorem big2 {u v : Int} {e f : Nat} (h : u.natAbs ≤ 2 ^ e) (h' : v.natAbs ≤ 2 ^ f) : (u * v).natAbs ≤ 2 ^ (e + f) := by
  rw [Int.natAbs_mul, Nat.pow_add]; exact Nat.mul_le_mul h h'
theorem bigOk {u v : Int} {e f : Nat} (h : u.natAbs ≤ 2 ^ e) (h' : v.natAbs ≤ 2 ^ f) (he : e < 400000) (hf : f < 400000) : MulOk u v := .inr (.inr ⟨big1 h he, big1 h' hf⟩)

theorem comp_mul (u : Int) (s0 s1 s2 s3 s5 s6 : Sl) {K : List D → Prop} : ∀ (xs : List Int) (acc : List D), (∀ x ∈ xs, MulOk x u) → K (acc ++ (xs.map (· * u)).map .int) →
    compD (gN 6) tY (e2 oMul (eV 6) (eV 4)) [s0, s1, s2, s3, .val (.int u), s5, s6] (xs.map .int) acc K
  | [], acc, _, h => by rw [List.map_nil, List.map_nil, List.append_nil] at h; exact h
  | x :: xs, acc, hx, h => by
    refine ⟨hx x List.mem_cons_self, ?_⟩
    refine comp_mul u s0 s1 s2 s3 s5 s6 xs (acc ++ [.int (x * u)]) (fun y hy => hx y (List.mem_cons_of_mem _ hy)) ?_
    rw [List.append_assoc]; exact h
def row_body : ST := (sSeq (sGet (gT [(gN 2), (gN 4), (gN 5)]) (eCall G_bezout (aCons (eV 2) (aCons (eV 3) aNil))))
    (sSet 1 (e2 oCat (eComp (iE (eV 1)) [6] (gN 6) tY (e2 oMul (eV 6) (eV 4))) (eLst (aCons (eV 5) aNil)))))
def sml (k : Nat) (x : Int) : Prop := x.natAbs ≤ 2 ^ (k * big)
theorem sml_ok {k : Nat} {x u : Int} (h : sml k x) (h' : sml 1 u) (hk : k ≤ 8) : MulOk x u := by
  have b : ∀ j, j ≤ 8 → j * big < 400000 := fun j hj => by unfold big; omega
  exact .inr (.inr ⟨Nat.lt_of_le_of_lt h (Nat.pow_lt_pow_right (by omega) (b k hk)), Nat.lt_of_le_of_lt h' (Nat.pow_lt_pow_right (by omega) (b 1 (by omega)))⟩)
theorem sml_mul {k : Nat} {x u : Int} (h : sml k x) (h' : sml 1 u) : sml (k + 1) (x * u) := by
  unfold sml at *
  rw [Int.natAbs_mul, Nat.add_mul, Nat.pow_add]; exact Nat.mul_le_mul h h'
theorem sml_le {k : Nat} {x : Int} (h : sml 1 x) (hk : 1 ≤ k) : sml k x := Nat.le_trans h (Nat.pow_le_pow_right (by omega) (Nat.mul_le_mul_right _ hk))
theorem sml_up {j k : Nat} {x : Int} (h : sml j x) (hk : j ≤ k) : sml k x := Nat.le_trans h (Nat.pow_le_pow_right (by omega) (Nat.mul_le_mul_right _ hk))
theorem row_step (s0 s4 s5 s6 : Sl) (xs : List Int) (g n : Int) (k : Nat) (hk : k ≤ 8) (hl : xs.length ≤ 10) (hx : ∀ x ∈ xs, sml k x) (hg : g.natAbs ≤ 1000) (hn : n.natAbs ≤ 1000) {P : Post}
    (h : ∀ u v s4 s5 s6, u * g + v * n = Int.gcd g n → sml 1 u → sml 1 v → P.nx [s0, .val (.list ((xs.map (· * u) ++ [v]).map .int)), .val (.int (Int.gcd g n)), .val (.int n), s4, s5, s6]) :
    row_body [s0, .val (.list (xs.map .int)), .val (.int g), .val (.int n), s4, s5, s6] P := by
  refine p_bezout g n hg hn fun u v e bu bv => ?_
  have hu : sml 1 u := by unfold sml; rw [Nat.one_mul]; exact bu
  have hv : sml 1 v := by unfold sml; rw [Nat.one_mul]; exact bv
  refine ⟨rfl, ?_, ?_⟩
  · show (xs.map PyData.int).length ≤ szl
    rw [List.length_map]
    exact Nat.le_trans hl (by decide)
  · refine comp_mul u _ _ _ _ _ _ xs [] (fun x hx' => sml_ok (hx x hx') hu hk) ?_
    refine ⟨?_, ?_⟩
    · show ([] ++ (xs.map (· * u)).map PyData.int).length + 1 ≤ szl
      rw [List.nil_append, List.length_map, List.length_map]
      exact Nat.le_trans (Nat.add_le_add_right hl 1) (by decide)
    · have := h u v (.val (.int u)) (.val (.int v)) s6 e hu hv
      rw [List.map_append] at this
      exact this
theorem p_gcd_row4 (a b n d : Int) (ha : a.natAbs ≤ 1000) (hb : b.natAbs ≤ 1000) (hn : n.natAbs ≤ 1000) (hd : d.natAbs ≤ 1000) {K : KD} {X : KX}
    (h : ∀ x1 x2 x3 x4 : Int, x1 * a + x2 * b + x3 * n + x4 * d = gcd4 a b n d → K (.list [.int x1, .int x2, .int x3, .int x4])) : G_gcd_row [.list [.int a, .int b, .int n, .int d]] K X := by
  unfold G_gcd_row d_gcd_row
  have g1 := gcd_max (a := 0) (b := a) (by decide) ha
  have g2 := gcd_max g1 hb
  have g3 := gcd_max g2 hn
  refine ⟨rfl, ?_⟩
  refine row_step _ _ _ _ [] 0 a 0 (by decide) (by decide) (fun x hx => nomatch hx) (by decide) ha fun u1 v1 s4 s5 s6 e1 bu1 bv1 => ?_
  refine row_step _ _ _ _ [v1] _ b 1 (by decide) (Nat.le_of_ble_eq_true rfl) (fun x hx => by rw [List.mem_singleton.mp hx]; exact bv1) g1 hb fun u2 v2 s4 s5 s6 e2 bu2 bv2 => ?_
  refine row_step _ _ _ _ [v1 * u2, v2] _ n 2 (by decide) (Nat.le_of_ble_eq_true rfl) ?_ g2 hn fun u3 v3 s4 s5 s6 e3 bu3 bv3 => ?_
  · intro x hx
    rcases List.mem_cons.mp hx with e | hx
    · rw [e]; exact sml_mul bv1 bu2
    · rw [List.mem_singleton.mp hx]; exact sml_le bv2 (by decide)
  refine row_step _ _ _ _ [v1 * u2 * u3, v2 * u3, v3] _ d 3 (by decide) (Nat.le_of_ble_eq_true rfl) ?_ g3 hd fun u4 v4 s4 s5 s6 e4 bu4 bv4 => ?_
  · intro x hx
    rcases List.mem_cons.mp hx with e | hx
    · rw [e]; exact sml_mul (sml_mul bv1 bu2) bu3
    rcases List.mem_cons.mp hx with e | hx
    · rw [e]; exact sml_up (sml_mul bv2 bu3) (by decide)
    · rw [List.mem_singleton.mp hx]; exact sml_le bv3 (by decide)
  refine h (v1 * u2 * u3 * u4) (v2 * u3 * u4) (v3 * u4) v4 ?_
  clear bu1 bv1 bu2 bv2 bu3 bv3 bu4 bv4
  have f1 : v1 * a = (Int.gcd 0 a : Int) := by omega
  have f2 : v1 * u2 * u3 * u4 * a + v2 * u3 * u4 * b = u4 * (u3 * (Int.gcd (Int.gcd 0 a) b : Int)) := by
    rw [← e2, ← f1]
    simp only [Int.mul_add]
    congr 1 <;> ac_rfl
  have f3 : u4 * (u3 * (Int.gcd (Int.gcd 0 a) b : Int)) + v3 * u4 * n = u4 * (Int.gcd (Int.gcd (Int.gcd 0 a) b) n : Int) := by
    rw [← e3]
    simp only [Int.mul_add]
    congr 1; ac_rfl
  rw [f2, f3, e4]; rfl
theorem p_check_gcd (a b n d x1 x2 x3 x4 g : Int) (hg : 0 ≤ g) (ha : a.natAbs ≤ 1000) (hb : b.natAbs ≤ 1000) (hn : n.natAbs ≤ 1000) (hd : d.natAbs ≤ 1000) (da : g ∣ a) (db : g ∣ b) (dn' : g ∣ n) (dd : g ∣ d)
    {K : KD} {X : KX} (h : K (.bool (decide (x1 * a + x2 * b + x3 * n + x4 * d = g)))) : G_check_gcd [.list [.int a, .int b, .int n, .int d], .list [.int x1, .int x2, .int x3, .int x4], .int g] K X := by
  unfold G_check_gcd d_check_gcd
  refine ⟨rfl, ?_⟩
  have e : a * x1 + (b * x2 + (n * x3 + (d * x4 + 0))) = x1 * a + x2 * b + x3 * n + x4 * d := by
    rw [Int.mul_comm a, Int.mul_comm b, Int.mul_comm n, Int.mul_comm d]; omega
  rw [← e] at h
  refine br_false (c := decide (g < 0)) (by simpa using hg) ?_
  have fz : ∀ z : Int, g ∣ z → g ≠ 0 → decide (z.fmod g = 0) = true := fun z hz _ => decide_eq_true (Int.fmod_eq_zero_of_dvd hz)
  have fin : ∀ {K' : KD}, K' (.bool (decide (a * x1 + (b * x2 + (n * x3 + (d * x4 + 0))) = g))) → ([PyData.tuple [.int a, .int x1], .tuple [.int b, .int x2], .tuple [.int n, .int x3], .tuple [.int d, .int x4]]).length ≤ szl ∧ [PyData.int a, .int x1].length = 2 ∧ MulOk a x1 ∧ [PyData.int b, .int x2].length = 2 ∧ MulOk b x2 ∧ [PyData.int n, .int x3].length = 2 ∧ MulOk n x3 ∧ [PyData.int d, .int x4].length = 2 ∧ MulOk d x4 ∧ K' (.bool (decide (a * x1 + (b * x2 + (n * x3 + (d * x4 + 0))) = g))) :=
    fun k => ⟨Nat.le_of_ble_eq_true rfl, rfl, mulOk_l (by omega), rfl, mulOk_l (by omega), rfl, mulOk_l (by omega), rfl, mulOk_l (by omega), k⟩
  by_cases c : g = 0
  · subst c
    have a0 : a = 0 := Int.zero_dvd.mp da
    have b0 : b = 0 := Int.zero_dvd.mp db
    have n0 : n = 0 := Int.zero_dvd.mp dn'
    have d0 : d = 0 := Int.zero_dvd.mp dd
    subst a0; subst b0; subst n0; subst d0
    refine ⟨Nat.le_of_ble_eq_true rfl, ⟨rfl, Nat.le_of_ble_eq_true rfl⟩, ⟨rfl, Nat.le_of_ble_eq_true rfl⟩, ?_⟩
    exact fin h
  · have c0 : decide (g = 0) = false := by simpa using c
    refine ⟨Nat.le_of_ble_eq_true rfl, ?_⟩
    refine br_false (c := decide (g = 0)) c0 ⟨c, ?_⟩
    refine br_false (c := decide (g = 0)) c0 ⟨c, ?_⟩
    refine br_false (c := decide (g = 0)) c0 ⟨c, ?_⟩
    refine br_false (c := decide (g = 0)) c0 ⟨c, ?_⟩
    refine ⟨⟨rfl, Nat.le_of_ble_eq_true rfl⟩, ⟨rfl, Nat.le_of_ble_eq_true rfl⟩, ?_⟩
    refine br_false (c := [PyData.bool (decide (a.fmod g = 0)), .bool (decide (b.fmod g = 0)), .bool (decide (n.fmod g = 0)), .bool (decide (d.fmod g = 0))].any fun z => eqv z (.bool false)) ?_ ?_
    · rw [fz a da c, fz b db c, fz n dn' c, fz d dd c]; rfl
    exact fin h
/-! ### the law's draws -/
theorem p_law_cell (ns : List Int) (k : Nat) {K : KD} {X : KX} (h : ∀ z : Int, K (.int z)) : G__law_cell [.list (ns.map .int), .int k] K X := by
  unfold G__law_cell d__law_cell
  refine ⟨rfl, ?_⟩
  refine br_dec (p := (k : Int) < ((ns.map PyData.int).length : Nat)) (fun c => ?_) (fun c => h 0)
  show getK (atD (ns.map PyData.int) (k : Int)) _
  have hk : k < ns.length := by rw [List.length_map] at c; omega
  have e : atD (ns.map PyData.int) (k : Int) = some (.int ns[k]) := by
    unfold atD
    rw [if_pos (by omega), Int.toNat_natCast, List.getElem?_map, List.getElem?_eq_getElem hk]; rfl
  rw [e]
  exact h _
theorem fmod_in (x : Int) {m : Int} (hm : 0 < m) : 0 ≤ x.fmod m ∧ x.fmod m < m := ⟨Int.fmod_nonneg_of_pos x hm, Int.fmod_lt_of_pos x hm⟩
def draw_body : ST := (sIf (tAnd (tV (eV 4)) (tV (e2 oGe (eV 3) (e2 oIx (eV 1) (eV 5)))))
    (sSeq (sApp 2 (e2 oMod (e1 oInt (eV 3)) (e2 oIx (eV 1) (eV 5))))
    (sSet 3 (e2 oDiv (eV 3) (e2 oIx (eV 1) (eV 5)))))
    (sSeq (sSet 6 (e2 oMod (e1 oInt (e2 oAdd (e2 oMul (e1 oAbs (eV 0)) (eI 48271)) (e2 oMul (e2 oAdd (eV 5) (eI 1)) (eI 69621)))) (eI 2147483647)))
    (sSeq (sSet 6 (e2 oMod (e1 oInt (e2 oAdd (e2 oMul (eV 6) (e2 oAdd (e2 oAdd (eV 6) (e2 oMul (eI 2) (eV 5))) (eI 1))) (eI 40692))) (eI 2147483399)))
    (sSeq (sSet 6 (e2 oMod (e1 oInt (e2 oAdd (e2 oMul (eV 6) (eI 16807)) (e2 oMul (e2 oAdd (eV 5) (eI 1)) (eI 40692)))) (eI 2147483399)))
    (sApp 2 (e2 oMod (e1 oInt (eV 6)) (e2 oIx (eV 1) (eV 5))))))))
theorem draw_step (c : Int) (i lim r : Int) (L acc : List D) (gr : Bool) (s6 : Sl) (hi : 0 ≤ i) (hi2 : i ≤ 10) (hl : 0 < lim) (hl2 : lim ≤ 1000) (hk : atD L i = some (.int lim)) (ha : acc.length ≤ 10) {P : Post}
    (h : ∀ (p r' : Int) (s6' : Sl), 0 ≤ p → p < lim → P.nx [.val (.int c), .val (.list L), .own (.list (acc ++ [.int p])), .val (.int r'), .val (.bool gr), .val (.int i), s6']) :
    draw_body [.val (.int c), .val (.list L), .own (.list acc), .val (.int r), .val (.bool gr), .val (.int i), s6] P := by
  have ix : ∀ {K : KD}, K (.int lim) → getK (atD L i) K := fun k => by rw [hk]; exact k
  have ac : acc.length < szl := Nat.lt_of_le_of_lt ha (by decide)
  have other : (sSeq (sSet 6 (e2 oMod (e1 oInt (e2 oAdd (e2 oMul (e1 oAbs (eV 0)) (eI 48271)) (e2 oMul (e2 oAdd (eV 5) (eI 1)) (eI 69621)))) (eI 2147483647)))
    (sSeq (sSet 6 (e2 oMod (e1 oInt (e2 oAdd (e2 oMul (eV 6) (e2 oAdd (e2 oAdd (eV 6) (e2 oMul (eI 2) (eV 5))) (eI 1))) (eI 40692))) (eI 2147483399)))
    (sSeq (sSet 6 (e2 oMod (e1 oInt (e2 oAdd (e2 oMul (eV 6) (eI 16807)) (e2 oMul (e2 oAdd (eV 5) (eI 1)) (eI 40692)))) (eI 2147483399)))
    (sApp 2 (e2 oMod (e1 oInt (eV 6)) (e2 oIx (eV 1) (eV 5))))))) [.val (.int c), .val (.list L), .own (.list acc), .val (.int r), .val (.bool gr), .val (.int i), s6] P := by
    refine ⟨mulOk_r (by decide), mulOk_r (by decide), by decide, ?_⟩
    obtain ⟨m1, m2⟩ := fmod_in ((if c < 0 then -c else c) * 48271 + (i + 1) * 69621) (m := 2147483647) (by decide)
    refine ⟨mulOk_l (by decide), mulOk_l (by omega), by decide, ?_⟩
    generalize (if c < 0 then -c else c) * 48271 + (i + 1) * 69621 = z1 at m1 m2 ⊢
    obtain ⟨m3, m4⟩ := fmod_in (z1.fmod 2147483647 * (z1.fmod 2147483647 + 2 * i + 1) + 40692) (m := 2147483399) (by decide)
    refine ⟨mulOk_r (by decide), mulOk_r (by decide), by decide, ?_⟩
    refine ix ?_
    refine ⟨by omega, ac, ?_⟩
    obtain ⟨p1, p2⟩ := fmod_in ((((z1.fmod 2147483647 * (z1.fmod 2147483647 + 2 * i + 1) + 40692).fmod 2147483399) * 16807 + (i + 1) * 40692).fmod 2147483399) hl
    exact h _ _ _ p1 p2
  cases gr with
  | false => exact other
  | true =>
    refine ix ?_
    refine br_dec (p := lim ≤ r) (fun _ => ?_) (fun _ => other)
    refine ix ?_
    refine ⟨by omega, ac, ?_⟩
    refine ix ?_
    refine ⟨⟨by omega, .inl (by omega)⟩, ?_⟩
    obtain ⟨p1, p2⟩ := fmod_in r hl
    exact h _ _ _ p1 p2
theorem p_law_draw (c : Int) {K : KD} {X : KX} (h : ∀ p0 p1 p2 p3 : Int, 0 ≤ p0 → p0 < 800 → 0 ≤ p1 → p1 < 800 → 0 ≤ p2 → p2 < 400 → 0 ≤ p3 → p3 < 30 → K (.list [.int p0, .int p1, .int p2, .int p3])) :
    G__law_draw [.int c, .list [.int 800, .int 800, .int 400, .int 30]] K X := by
  unfold G__law_draw d__law_draw
  refine ⟨rfl, ⟨by decide, by decide⟩, ?_⟩
  refine draw_step c 0 800 _ _ _ _ _ (by decide) (by decide) (by decide) (by decide) rfl (by decide) fun p0 r0 s0 a0 b0 => ?_
  refine draw_step c 1 800 _ _ _ _ _ (by decide) (by decide) (by decide) (by decide) rfl (Nat.le_of_ble_eq_true rfl) fun p1 r1 s1 a1 b1 => ?_
  refine draw_step c 2 400 _ _ _ _ _ (by decide) (by decide) (by decide) (by decide) rfl (Nat.le_of_ble_eq_true rfl) fun p2 r2 s2 a2 b2 => ?_
  refine draw_step c 3 30 _ _ _ _ _ (by decide) (by decide) (by decide) (by decide) rfl (Nat.le_of_ble_eq_true rfl) fun p3 r3 s3 a3 b3 => ?_
  exact h p0 p1 p2 p3 a0 b0 a1 b1 a2 b2 a3 b3
end Rw

set_option linter.all false
namespace Rw
open PySem
/-! ### the largest root that is whole -/
theorem base_ge2 {r k n : Nat} (hn : 2 ≤ n) (h : r ^ k = n) : 2 ≤ r := by
  rcases Nat.lt_or_ge r 2 with c | c
  · have : r = 0 ∨ r = 1 := by omega
    rcases this with e | e
    · subst e
      cases k with
      | zero => simp at h; omega
      | succ k => rw [Nat.zero_pow (by omega)] at h; omega
    · subst e; rw [Nat.one_pow] at h; omega
  · exact c
theorem p_power_form (n : Nat) (hn : 2 ≤ n) (hn2 : n < 2 ^ 60) {K : KD} {X : KX} (h : ∀ r k : Nat, r ^ k = n → 1 ≤ k → (∀ k' r', k < k' → r' ^ k' ≠ n) → K (.tuple [.int r, .int k])) : G_power_form [.int n] K X := by
  unfold G_power_form d_power_form
  refine ⟨rfl, p_check_from (by omega) ?_⟩
  refine while_i (fun m v => ∃ k : Nat, v = [.val (.int n), .val (.int k)] ∧ 1 ≤ k ∧ 2 ^ k ≤ n ∧ m + k = 60) 59 ⟨1, rfl, by omega, by omega, rfl⟩ ?_
  rintro m v ⟨k, rfl, hk, hp, hm⟩
  refine p_to_power 2 (k + 1) (by decide) (by omega) ?_
  have e2 : (2 : Int) ^ (k + 1) = ((2 ^ (k + 1) : Nat) : Int) := by push_cast; rfl
  refine br_dec (p := (2 : Int) ^ (k + 1) ≤ n) (fun c => ?_) (fun c => ?_)
  · rw [e2] at c
    have c : 2 ^ (k + 1) ≤ n := by omega
    have : k + 1 < 60 := by
      rcases Nat.lt_or_ge (k + 1) 60 with z | z
      · exact z
      · have := Nat.pow_le_pow_right (n := 2) (by omega) z; omega
    exact ⟨m - 1, by omega, k + 1, rfl, by omega, c, by omega⟩
  · rw [e2] at c
    have c : n < 2 ^ (k + 1) := by omega
    have hk60 : k ≤ 60 := by omega
    refine while_i (fun m v => ∃ j : Nat, v = [.val (.int n), .val (.int j)] ∧ 1 ≤ j ∧ j ≤ 60 ∧ (∀ k' r', j < k' → r' ^ k' ≠ n) ∧ m = j) k ⟨k, rfl, hk, hk60, fun k' r' hk' z => ?_, rfl⟩ ?_
    · have h1 := base_ge2 hn z
      have h2 : 2 ^ (k + 1) ≤ 2 ^ k' := Nat.pow_le_pow_right (by omega) hk'
      have h3 := Nat.pow_le_pow_left h1 k'
      omega
    · rintro m v ⟨j, rfl, hj, hj60, hno, hmj⟩
      refine p_root_of_power n j hj (by omega) hn2 fun r h1 h2 => ?_
      have hrn : r ≤ n := Nat.le_trans (le_pow_self' hj) h1
      refine p_to_power r j (by rw [Int.natAbs_natCast]; omega) (by omega) ?_
      refine br_ndec (p := (r : Int) ^ j = n) (fun c1 => ?_) (fun c1 => ?_)
      · rw [castpow] at c1
        have c1 : r ^ j ≠ n := by omega
        have hj1 : j ≠ 1 := by
          rintro rfl
          rw [Nat.pow_one] at c1 h1 h2; omega
        refine ⟨j - 1, by omega, j - 1, ?_, by omega, by omega, fun k' r' hk' z => ?_, rfl⟩
        · show [_, Sl.val (.int ((j : Int) - 1))] = _
          rw [show ((j : Int) - 1) = ((j - 1 : Nat) : Int) by omega]
        · rcases Nat.lt_or_ge j k' with w | w
          · exact hno k' r' w z
          · have : k' = j := by omega
            subst this
            have := root_uniq (r := r) (s := r') hj h1 h2 (by omega) (by rw [← z]; exact Nat.pow_lt_pow_left (by omega) (by omega))
            subst this
            exact c1 z
      · rw [castpow] at c1
        have c1 : r ^ j = n := by omega
        refine p_root_of_power n j hj (by omega) hn2 fun r' h3 h4 => ?_
        have e := root_uniq hj h1 h2 h3 h4
        subst e
        exact h r j c1 hj hno
/-! ### the greatest of pairs -/
def leP (a b : Int × Int) : Prop := a.1 < b.1 ∨ (a.1 = b.1 ∧ a.2 ≤ b.2)
theorem leP_trans {a b c : Int × Int} (h : leP a b) (h' : leP b c) : leP a c := by unfold leP at *; omega
theorem ltP_iff (a b : Int × Int) : ltP a b = true ↔ (a.1 < b.1 ∨ (a.1 = b.1 ∧ a.2 < b.2)) := by unfold ltP; simp
theorem maxP_spec : ∀ (xs : List (Int × Int)) (a : Int × Int), (maxP a xs = a ∨ maxP a xs ∈ xs) ∧ leP a (maxP a xs) ∧ ∀ y ∈ xs, leP y (maxP a xs)
  | [], a => ⟨.inl rfl, .inr ⟨rfl, Int.le_refl _⟩, fun _ h => nomatch h⟩
  | x :: xs, a => by
    have e : maxP a (x :: xs) = maxP (if ltP a x then x else a) xs := rfl
    rw [e]
    obtain ⟨h1, h2, h3⟩ := maxP_spec xs (if ltP a x then x else a)
    by_cases c : ltP a x = true
    · rw [if_pos c] at h1 h2 h3 ⊢
      have c' := (ltP_iff a x).mp c
      refine ⟨.inr ?_, leP_trans (by unfold leP; omega) h2, fun y hy => ?_⟩
      · rcases h1 with z | z
        · rw [z]; exact List.mem_cons_self
        · exact List.mem_cons_of_mem _ z
      · rcases List.mem_cons.mp hy with z | z
        · rw [z]; exact h2
        · exact h3 y z
    · rw [if_neg c] at h1 h2 h3 ⊢
      have c' : ¬ (a.1 < x.1 ∨ (a.1 = x.1 ∧ a.2 < x.2)) := fun z => c ((ltP_iff a x).mpr z)
      refine ⟨?_, h2, fun y hy => ?_⟩
      · rcases h1 with z | z
        · exact .inl z
        · exact .inr (List.mem_cons_of_mem _ z)
      · rcases List.mem_cons.mp hy with z | z
        · rw [z]; exact leP_trans (by unfold leP; omega) h2
        · exact h3 y z
def pD (p : Int × Int) : D := .tuple [.int p.1, .int p.2]
theorem pairs_pD : ∀ l : List (Int × Int), pairs? (l.map pD) = some l
  | [] => rfl
  | p :: l => by
    show (match pair? (pD p), pairs? (l.map pD) with | some p, some ps => some (p :: ps) | _, _ => none) = _
    rw [pairs_pD l]; rfl
theorem maxP_of (l : List (Int × Int)) (m : Int × Int) (hm : m ∈ l) (hle : ∀ y ∈ l, leP y m) {K : KD} (h : K (pD m)) : oMaxP (.list (l.map pD)) K := by
  cases l with
  | nil => cases hm
  | cons p ps =>
    show match pairs? ((p :: ps).map pD) with | some (p :: ps) => K (.tuple [.int (maxP p ps).1, .int (maxP p ps).2]) | _ => False
    rw [pairs_pD]
    obtain ⟨h1, h2, h3⟩ := maxP_spec ps p
    have hin : maxP p ps ∈ p :: ps := by
      rcases h1 with z | z
      · rw [z]; exact List.mem_cons_self
      · exact List.mem_cons_of_mem _ z
    have q1 := hle _ hin
    have q2 : leP m (maxP p ps) := by
      rcases List.mem_cons.mp hm with z | z
      · rw [z]; exact h2
      · exact h3 m z
    have e : maxP p ps = m := by
      unfold leP at q1 q2
      exact Prod.ext (by omega) (by omega)
    show K (.tuple [.int (maxP p ps).1, .int (maxP p ps).2])
    rw [e]; exact h
/-! ### parts -/
def pf : Nat → Nat → Nat → List (Nat × Nat) → Nat × List (Nat × Nat)
  | 0, n, _, acc => (n, acc)
  | f + 1, n, p, acc => if p * p ≤ n then (if n % p = 0 then pf f (n / p ^ vf n n p) (p + if p = 2 then 1 else 2) (acc ++ [(p, vf n n p)]) else pf f n (p + if p = 2 then 1 else 2) acc) else (n, acc)
def parts (n : Nat) : List (Nat × Nat) := let r := pf 21 n 2 []; if 1 < r.1 then r.2 ++ [(r.1, 1)] else r.2
def nD (p : Nat × Nat) : D := .tuple [.int p.1, .int p.2]
theorem pf_s (f n p : Nat) (acc : List (Nat × Nat)) : pf (f + 1) n p acc = if p * p ≤ n then (if n % p = 0 then pf f (n / p ^ vf n n p) (p + if p = 2 then 1 else 2) (acc ++ [(p, vf n n p)]) else pf f n (p + if p = 2 then 1 else 2) acc) else (n, acc) := rfl
theorem vf_dvd : ∀ (f n p : Nat), p ^ vf f n p ∣ n
  | 0, n, p => by show p ^ 0 ∣ n; rw [Nat.pow_zero]; exact Nat.one_dvd _
  | f + 1, n, p => by
    rw [vf_s]
    split
    · rename_i c
      rw [Nat.pow_succ, Nat.mul_comm]
      have h := vf_dvd f (n / p) p
      have d := Nat.dvd_of_mod_eq_zero c
      have := Nat.mul_dvd_mul_left p h
      rwa [Nat.mul_div_cancel' d] at this
    · rw [Nat.pow_zero]; exact Nat.one_dvd _
theorem p_parted (n : Nat) (hn : 1 ≤ n) (hn2 : n ≤ 400) {K : KD} {X : KX} (h : K (.list ((parts n).map nD))) : G_parted [.int n] K X := by
  unfold G_parted d_parted
  refine ⟨rfl, ?_⟩
  refine br_false (c := decide ((1000000000000 : Int) < n)) (by rw [decide_eq_false]; omega) ?_
  refine while_i (fun m v => ∃ (x p : Nat) (acc : List (Nat × Nat)) (s3 : Sl), v = [.val (.int x), .own (.list (acc.map nD)), .val (.int p), s3] ∧ 1 ≤ x ∧ x ≤ 400 ∧ 2 ≤ p ∧ p ≤ 30 ∧ 23 ≤ p + m ∧ acc.length + m ≤ 21 ∧ pf m x p acc = pf 21 n 2 []) 21 ⟨n, 2, [], .un, rfl, hn, hn2, by omega, by omega, by omega, by decide, rfl⟩ ?_
  rintro m v ⟨x, p, acc, s3, rfl, hx, hx2, hp, hp30, hm, hl, he⟩
  refine ⟨mulOk_l (by omega), ?_⟩
  refine br_dec (p := (p : Int) * p ≤ x) (fun c => ?_) (fun c => ?_)
  · have c : p * p ≤ x := by have := c; rw [← Int.natCast_mul] at this; omega
    have hp20 : p ≤ 20 := by
      rcases Nat.lt_or_ge 20 p with z | z
      · have := Nat.mul_le_mul z z; omega
      · exact z
    cases m with
    | zero => omega
    | succ m =>
      rw [pf_s, if_pos c] at he
      have nxt : ∀ (P : Post) (s3 : Sl) (y : Nat) (acc' : List (Nat × Nat)), 1 ≤ y → y ≤ 400 → acc'.length + m ≤ 21 → pf m y (p + if p = 2 then 1 else 2) acc' = pf 21 n 2 [] →
          (∀ v', (∃ m', m' < m + 1 ∧ ∃ (x p : Nat) (acc : List (Nat × Nat)) (s3 : Sl), v' = [.val (.int x), .own (.list (acc.map nD)), .val (.int p), s3] ∧ 1 ≤ x ∧ x ≤ 400 ∧ 2 ≤ p ∧ p ≤ 30 ∧ 23 ≤ p + m' ∧ acc.length + m' ≤ 21 ∧ pf m' x p acc = pf 21 n 2 []) → P.nx v') →
          (sAug 2 oAdd (eIf (tV (e2 oEq (eV 2) (eI 2))) (eI 1) (eI 2))) [.val (.int y), .own (.list (acc'.map nD)), .val (.int p), s3] P := by
        intro P s3 y acc' h1 h2 h3 h4 hP
        refine br_dec (p := (p : Int) = 2) (fun c1 => ?_) (fun c1 => ?_)
        · have c1 : p = 2 := by omega
          rw [if_pos c1] at h4
          exact hP _ ⟨m, by omega, y, p + 1, acc', s3, rfl, h1, h2, by omega, by omega, by omega, h3, h4⟩
        · have c1 : p ≠ 2 := by omega
          rw [if_neg c1] at h4
          exact hP _ ⟨m, by omega, y, p + 2, acc', s3, rfl, h1, h2, by omega, by omega, by omega, h3, h4⟩
      refine ⟨by omega, ?_⟩
      refine br_dec (p := (x : Int).fmod p = 0) (fun c1 => ?_) (fun c1 => ?_)
      · rw [fmodN] at c1
        have c1 : x % p = 0 := by omega
        rw [if_pos c1] at he
        refine p_times_of x p hx hp (by omega) ?_
        have d := vf_dvd x x p
        have hpos : 0 < p ^ vf x x p := Nat.pow_pos (by omega)
        have hle : p ^ vf x x p ≤ x := Nat.le_of_dvd (by omega) d
        have hvf : vf x x p ≤ 400 := by
          have : vf x x p < 2 ^ vf x x p := Nat.lt_two_pow_self
          have h9 := Nat.pow_le_pow_left hp (vf x x p)
          omega
        refine ⟨?_, ?_⟩
        · show (acc.map nD).length < 16777216
          rw [List.length_map]; omega
        · refine p_to_power p (vf x x p) (by rw [Int.natAbs_natCast]; omega) (by omega) ?_
          rw [castpow]
          refine ⟨⟨by omega, .inl (by rw [Int.natAbs_natCast]; omega)⟩, ?_⟩
          have e1 : (x : Int).fdiv ((p ^ vf x x p : Nat) : Int) = ((x / p ^ vf x x p : Nat) : Int) := fdivN _ _
          have q1 : 1 ≤ x / p ^ vf x x p := Nat.div_pos hle hpos
          have q2 : x / p ^ vf x x p ≤ x := Nat.div_le_self _ _
          refine ⟨⟨by decide, by decide, by decide⟩, ?_⟩
          refine br_false (c := decide ((10 : Int) ^ (6 : Int).toNat < (x : Int).fdiv ((p ^ vf x x p : Nat) : Int))) (by rw [e1, show (10 : Int) ^ (6 : Int).toNat = 1000000 by decide, decide_eq_false]; omega) ?_
          rw [e1]
          have q3 : (acc ++ [(p, vf x x p)]).length + m ≤ 21 := by rw [List.length_append]; simp only [List.length_singleton]; omega
          have e3 : (acc ++ [(p, vf x x p)]).map nD = acc.map nD ++ [.tuple [.int p, .int (vf x x p)]] := by rw [List.map_append]; rfl
          have nx2 := fun P => nxt P (.val (.int (vf x x p))) (x / p ^ vf x x p) (acc ++ [(p, vf x x p)]) q1 (by omega) q3 he
          rw [e3] at nx2
          exact nx2 _ (fun v' z => z)
      · rw [fmodN] at c1
        have c1 : ¬ x % p = 0 := by omega
        rw [if_neg c1] at he
        exact nxt _ s3 x acc hx hx2 (by omega) he (fun v' z => z)
  · have c : ¬ p * p ≤ x := by have := c; rw [← Int.natCast_mul] at this; omega
    have e : pf m x p acc = (x, acc) := by
      cases m with
      | zero => rfl
      | succ m => rw [pf_s, if_neg c]
    rw [e] at he
    have hparts : parts n = if 1 < x then acc ++ [(x, 1)] else acc := by unfold parts; rw [← he]
    rw [hparts] at h
    refine br_dec (p := (1 : Int) < x) (fun c1 => ?_) (fun c1 => ?_)
    · rw [if_pos (by omega), List.map_append] at h
      refine ⟨?_, h⟩
      show (acc.map nD).length < 16777216
      rw [List.length_map]; omega
    · rw [if_neg (by omega)] at h
      exact h
end Rw

set_option linter.all false
namespace Rw
open PySem
/-! ### squares within -/
def sqf : List (Nat × Nat) → Int → Int → Int × Int
  | [], s, f => (s, f)
  | q :: l, s, f => sqf l (s * (q.1 : Int) ^ (q.2 / 2)) (f * (q.1 : Int) ^ (q.2 % 2))
theorem sqf_neg : ∀ (l : List (Nat × Nat)) (s f : Int), sqf l s (-f) = ((sqf l s f).1, -(sqf l s f).2)
  | [], s, f => rfl
  | q :: l, s, f => by
    show sqf l _ (-f * _) = _
    rw [Int.neg_mul, sqf_neg l]; rfl
def smB (q : Nat × Nat) : Bool := decide (q.1 ≤ 400) && (decide (q.2 ≤ 400) && (decide (q.1 ^ (q.2 / 2) < 2 ^ 60) && decide (q.1 ^ (q.2 % 2) < 2 ^ 60)))
def sqB (n : Nat) : Bool := (parts n).all smB && (let r := sqf (parts n) 1 1; decide (r.1 * r.1 * r.2 = n) && (decide (1 ≤ r.1) && (decide (r.1 ≤ 1000) && (List.range 28).all fun i => !decide (r.2.natAbs % ((i + 2) * (i + 2)) = 0))))
theorem sqB_all : (List.range 400).all (fun i => sqB (i + 1)) = true := by decide +kernel
theorem sqB_of (n : Nat) (h1 : 1 ≤ n) (h2 : n ≤ 400) : sqB n = true := by
  have := List.all_eq_true.mp sqB_all (n - 1) (List.mem_range.mpr (by omega))
  rwa [Nat.sub_add_cancel h1] at this
def sqn (a : Int) : Int × Int := sqf (parts a.natAbs) 1 (sg a)
theorem p_square_part (a : Int) (h0 : a ≠ 0) (ha : a.natAbs ≤ 400) {K : KD} {X : KX} (h : K (.tuple [.int (sqn a).1, .int (sqn a).2])) : G_square_part [.int a] K X := by
  unfold G_square_part d_square_part
  refine ⟨rfl, ?_⟩
  refine br_false (c := decide (a = 0)) (by simpa using h0) ?_
  refine p_sign_of a ?_
  refine ⟨rfl, ?_⟩
  show G_parted [.int (if a < 0 then -a else a)] _ _
  rw [absN]
  refine p_parted a.natAbs (by omega) ha ?_
  have hB := sqB_of a.natAbs (by omega) ha
  unfold sqB at hB
  have hsm := List.all_eq_true.mp (Bool.and_eq_true_iff.mp hB).1
  refine forD_i (fun rest v => ∃ (s f : Int) (l : List (Nat × Nat)) (s3 s4 : Sl), v = [.val (.int a), .val (.int s), .val (.int f), s3, s4] ∧ rest = l.map nD ∧ (∀ q ∈ l, smB q = true) ∧ sqf l s f = sqn a) ?_ ?_ _ _ ⟨1, sg a, parts a.natAbs, .un, .un, rfl, rfl, hsm, rfl⟩
  · rintro d rest v N ⟨s, f, l, s3, s4, rfl, he, hl, hs⟩ hN
    cases l with
    | nil => cases he
    | cons q l =>
      have he : d :: rest = nD q :: l.map nD := he
      cases he
      have hq := hl q List.mem_cons_self
      unfold smB at hq
      simp only [Bool.and_eq_true, decide_eq_true_eq] at hq
      obtain ⟨q1, q2, q3, q4⟩ := hq
      refine ⟨rfl, ⟨by decide, .inl (by decide)⟩, ?_⟩
      have e1 : ((q.2 : Int)).fdiv 2 = ((q.2 / 2 : Nat) : Int) := fdivN q.2 2
      have e2 : ((q.2 : Int)).fmod 2 = ((q.2 % 2 : Nat) : Int) := fmodN q.2 2
      show G_to_power [.int (q.1 : Int), .int ((q.2 : Int).fdiv 2)] _ _
      rw [e1]
      refine p_to_power q.1 (q.2 / 2) (by rw [Int.natAbs_natCast]; omega) (by omega) ?_
      refine ⟨mulOk_r (by rw [castpow]; omega), by decide, ?_⟩
      show G_to_power [.int (q.1 : Int), .int ((q.2 : Int).fmod 2)] _ _
      rw [e2]
      refine p_to_power q.1 (q.2 % 2) (by rw [Int.natAbs_natCast]; omega) (by omega) ?_
      refine ⟨mulOk_r (by rw [castpow]; omega), ?_⟩
      exact hN _ ⟨_, _, l, _, _, rfl, rfl, fun q hq => hl q (List.mem_cons_of_mem _ hq), hs⟩
  · rintro v ⟨s, f, l, s3, s4, rfl, he, hl, hs⟩
    cases l with
    | cons q l => cases he
    | nil =>
      have hs : (s, f) = sqn a := hs
      rw [← hs] at h
      exact h
theorem sqn_ok (a : Int) (h0 : a ≠ 0) (ha : a.natAbs ≤ 400) : (sqn a).1 * (sqn a).1 * (sqn a).2 = a ∧ 1 ≤ (sqn a).1 ∧ (sqn a).1 ≤ 1000 ∧ ∀ i : Nat, i < 28 → (sqn a).2.fmod (((i + 2 : Nat) : Int) * ((i + 2 : Nat) : Int)) ≠ 0 := by
  have hB := sqB_of a.natAbs (by omega) ha
  unfold sqB at hB
  have h2 := (Bool.and_eq_true_iff.mp hB).2
  simp only [Bool.and_eq_true, decide_eq_true_eq] at h2
  obtain ⟨e, k1, k2, k3⟩ := h2
  have k3 := List.all_eq_true.mp k3
  have nodv : ∀ (F : Int), F.natAbs = (sqf (parts a.natAbs) 1 1).2.natAbs → ∀ i : Nat, i < 28 → F.fmod (((i + 2 : Nat) : Int) * ((i + 2 : Nat) : Int)) ≠ 0 := by
    intro F hF i hi z
    have d : (((i + 2 : Nat) : Int) * ((i + 2 : Nat) : Int)) ∣ F := Int.dvd_of_fmod_eq_zero z
    have d2 := Int.natAbs_dvd_natAbs.mpr d
    rw [Int.natAbs_mul, Int.natAbs_natCast, hF] at d2
    have := k3 i (List.mem_range.mpr hi)
    rw [decide_eq_true (Nat.mod_eq_zero_of_dvd d2)] at this
    cases this
  rcases Int.lt_trichotomy a 0 with z | z | z
  · have e1 : sg a = -1 := by unfold sg; rw [decide_eq_false (by omega), decide_eq_true z]; rfl
    have e2 : sqn a = ((sqf (parts a.natAbs) 1 1).1, -(sqf (parts a.natAbs) 1 1).2) := by unfold sqn; rw [e1, sqf_neg]
    rw [e2]
    refine ⟨?_, k1, k2, nodv _ (Int.natAbs_neg _)⟩
    show (sqf (parts a.natAbs) 1 1).1 * (sqf (parts a.natAbs) 1 1).1 * -(sqf (parts a.natAbs) 1 1).2 = a
    rw [Int.mul_neg, e]; omega
  · exact absurd z h0
  · have e1 : sg a = 1 := by unfold sg; rw [decide_eq_false (show ¬ a < 0 by omega), decide_eq_true z]; rfl
    have e2 : sqn a = sqf (parts a.natAbs) 1 1 := by unfold sqn; rw [e1]
    rw [e2]
    refine ⟨by rw [e]; omega, k1, k2, nodv _ rfl⟩
/-! ### what is refused -/
theorem r_between {v lo hi : Int} (h : ¬ (lo ≤ v ∧ v ≤ hi)) {K : KD} {X : KX} (hx : X ⟨"OutOfRange", [("value", .int v)]⟩) : G_check_between [.int v, .int lo, .int hi] K X := by
  unfold G_check_between d_check_between
  refine ⟨rfl, ?_⟩
  refine br_dec (p := lo ≤ v) (fun c => ?_) (fun c => hx)
  refine br_true (c := !decide (v ≤ hi)) (by rw [decide_eq_false (by omega)]; rfl) ?_
  exact hx
theorem r_from {v lo : Int} (h : v < lo) {K : KD} {X : KX} (hx : X ⟨"OutOfRange", [("value", .int v)]⟩) : G_check_from [.int v, .int lo] K X := by
  unfold G_check_from d_check_from
  refine ⟨rfl, ?_⟩
  exact br_true (c := decide (v < lo)) (decide_eq_true h) hx
/-! ### _law_told -/
theorem told0 {K : KD} {X : KX} (h : K (.tuple [.str (Str.ofString "none"), .int 0])) : G__law_told [.int 0, .int 3, .int 0] K X := by
  unfold G__law_told d__law_told
  refine ⟨rfl, ?_⟩
  show G_divide [.int 3, .int 0] _ _
  unfold G_divide d_divide
  exact ⟨rfl, h⟩
theorem told1 {K : KD} {X : KX} (h : K (.tuple [.str (Str.ofString "range"), .int 1])) : G__law_told [.int 1, .int 3, .int 1] K X := by
  unfold G__law_told d__law_told
  refine ⟨rfl, ?_⟩
  show G_digits [.int 3, .int 1] _ _
  unfold G_digits d_digits
  refine ⟨rfl, p_check_from (by decide) ?_⟩
  refine r_between (by decide) ?_
  exact ⟨by decide, .int 1, rfl, h⟩
theorem told2 {K : KD} {X : KX} (h : K (.tuple [.str (Str.ofString "range"), .int (-1)])) : G__law_told [.int 1, .int (-1), .int 2] K X := by
  unfold G__law_told d__law_told
  refine ⟨rfl, ?_⟩
  show G_digits [.int (-1), .int 2] _ _
  unfold G_digits d_digits
  refine ⟨rfl, r_from (by decide) ?_⟩
  exact ⟨by decide, .int (-1), rfl, h⟩
theorem told3 {K : KD} {X : KX} (h : K (.tuple [.str (Str.ofString "range"), .int 61])) : G__law_told [.int 2, .int 3, .int 61] K X := by
  unfold G__law_told d__law_told
  refine ⟨rfl, ?_⟩
  show G_root_below [.int 3, .int 61] _ _
  unfold G_root_below d_root_below
  refine ⟨rfl, p_check_from (by decide) ?_⟩
  refine r_between (by decide) ?_
  exact ⟨by decide, .int 61, rfl, h⟩
theorem told4 {K : KD} {X : KX} (h : K (.tuple [.str (Str.ofString "ratio"), .int 0])) : G__law_told [.int 3, .tuple [.int 2, .int 4], .tuple [.int 1, .int 2]] K X := by
  unfold G__law_told d__law_told
  refine ⟨rfl, ?_⟩
  show G_ratio_sum [.tuple [.int 2, .int 4], .tuple [.int 1, .int 2]] _ _
  unfold G_ratio_sum d_ratio_sum
  refine ⟨rfl, ?_⟩
  show G_check_ratio [.tuple [.int 2, .int 4]] _ _
  unfold G_check_ratio d_check_ratio
  refine ⟨rfl, ?_⟩
  show G_is_ratio [.tuple [.int 2, .int 4]] _ _
  unfold G_is_ratio d_is_ratio
  refine ⟨rfl, ?_⟩
  refine ⟨by decide, ⟨rfl, by decide⟩, ⟨rfl, by decide⟩, ?_⟩
  refine p_common 2 4 ?_
  exact h
theorem told5 {K : KD} {X : KX} (h : K (.tuple [.str (Str.ofString "range"), .int 2])) : G__law_told [.int 4, .list [.int 2], .int 2] K X := by
  unfold G__law_told d__law_told
  refine ⟨rfl, ?_⟩
  show G_from_digits [.list [.int 2], .int 2] _ _
  unfold G_from_digits d_from_digits
  refine ⟨rfl, p_check_between (by decide) (by decide) ?_⟩
  refine r_between (by decide) ?_
  exact ⟨by decide, .int 2, rfl, h⟩
theorem told6 {K : KD} {X : KX} (h : K (.tuple [.str (Str.ofString "range"), .int 1])) : G__law_told [.int 5, .int 1, .int 0] K X := by
  unfold G__law_told d__law_told
  refine ⟨rfl, ?_⟩
  show G_power_form [.int 1] _ _
  unfold G_power_form d_power_form
  refine ⟨rfl, r_from (by decide) ?_⟩
  exact ⟨by decide, .int 1, rfl, h⟩
theorem digits0 {K : KD} {X : KX} (h : K (.list [])) : G_digits [.int 0, .int 2] K X := p_digits 0 2 (by decide) (by decide) (by decide) h
theorem rng_cons (lo : Int) (n : Nat) : rng lo (n + 1) 1 = .int lo :: rng (lo + 1) n 1 := by
  unfold rng
  rw [List.range_succ_eq_map, List.map_cons, List.map_map]
  congr 1
  · simp
  · apply List.map_congr_left
    intro a _
    show PyData.int _ = PyData.int _
    congr 1
    simp; omega
end Rw

set_option linter.all false
namespace Rw
open PySem
theorem seq_i {s t : ST} {v : Ev} {P : Post} (h : s v { P with nx := fun v' => t v' P }) : sSeq s t v P := h
def L_5 : ST := (sIf (tOr (tNot (tV (eCall G__law_pair (aCons (eV 4) (aCons (eV 5) aNil))))) (tOr (tNot (tV (eCall G__law_pair (aCons (eV 4) (aCons (eI 0) aNil))))) (tOr (tNot (tV (eCall G__law_pair (aCons (eI 0) (aCons (eV 5) aNil))))) (tOr (tNot (tV (eCall G__law_one (aCons (eV 6) aNil)))) (tNot (tV (eCall G__law_one (aCons (e2 oAdd (e2 oMul (e2 oMul (eV 6) (eI 1000003)) (eI 1000003)) (e2 oMod (e1 oInt (eV 2)) (eI 1000000007))) aNil)))))))) (sRet eF) sNil)
def L_9 : ST := (sIf (tOr (tV (e2 oNe (eCall G_gcd_of (aCons (eV 7) aNil)) (eV 8))) (tOr (tV (e2 oNe (e1 oSum (eComp (iR1 (eI 4)) [10] (gN 10) tY (e2 oMul (e2 oIx (eV 9) (eV 10)) (e2 oIx (eV 7) (eV 10))))) (eV 8))) (tOr (tV (e1 (oNotB true) (eCall G_check_gcd (aCons (eV 7) (aCons (eV 9) (aCons (eV 8) aNil)))))) (tV (e2 oNe (eCall G_check_gcd (aCons (eV 7) (aCons (e2 oCat (eLst (aCons (e2 oAdd (e2 oIx (eV 9) (eI 0)) (eI 1)) aNil)) (eCut (e1 oLstOf (eV 9)) (pAt (eI 1)) pNo)) (aCons (eV 8) aNil)))) (e2 oEq (eV 4) (eI 0))))))) (sRet eF) sNil)
def L_11 : ST := (sFor (iE (eV 7)) (gN 12) (sIf (tOr (tV (e2 oEq (eV 12) (eI 0))) (tV (e2 oEq (eV 11) (eI 0)))) (sSet 11 (eI 0)) (sSet 11 (e2 oDiv (e1 oAbs (e2 oMul (eV 11) (eV 12))) (eCall G__law_gcd (aCons (eV 11) (aCons (eV 12) aNil)))))))
def L_12 : ST := (sIf (tV (e2 oNe (eCall G_lcm_of (aCons (eV 7) aNil)) (eV 11))) (sRet eF) sNil)
def L_13 : ST := (sFor (iE (eLst (aCons (eI 2) (aCons (eI 3) (aCons (eI 10) aNil))))) (gN 13) (sSeq (sSet 14 (eI 0)) (sSeq (sSet 15 (e2 oAdd (eV 6) (eI 1))) (sSeq (sFor (iR1 (eI 20)) (gN 16) (sIf (tV (e2 oEq (e2 oMod (e1 oInt (eV 15)) (eV 13)) (eI 0))) (sSeq (sSet 15 (e2 oDiv (eV 15) (eV 13))) (sSet 14 (e2 oAdd (eV 14) (eI 1)))) sNil)) (sIf (tV (e2 oNe (eCall G_times_in (aCons (e2 oAdd (eV 6) (eI 1)) (aCons (eV 13) aNil))) (eV 14))) (sRet eF) sNil)))))
def L_14 : ST := (sIf (tV (e2 oNe (eV 4) (eI 0))) (sSeq (sSet 17 (eCall G_square_part (aCons (eV 4) aNil))) (sIf (tOr (tV (e2 oNe (e2 oMul (e2 oMul (e2 oIx (eV 17) (eI 0)) (e2 oIx (eV 17) (eI 0))) (e2 oIx (eV 17) (eI 1))) (eV 4))) (tOr (tV (e2 oLt (e2 oIx (eV 17) (eI 0)) (eI 1))) (tV (e2 oGt (e1 oLen (eComp (iR2 (eI 2) (eI 30)) [18] (gN 18) (tV (e2 oEq (e2 oMod (e1 oInt (e2 oIx (eV 17) (eI 1))) (e2 oMul (eV 18) (eV 18))) (eI 0))) (eV 18))) (eI 0))))) (sRet eF) sNil)) sNil)
def L_17 : ST := (sFor (iR2 (eI 2) (e2 oAdd (eV 19) (eI 1))) (gN 21) (sSeq (sSet 22 (eI 1)) (sFor (iR2 (eI 1) (eI 10)) (gN 14) (sSeq (sSet 22 (e2 oMul (eV 22) (eV 21))) (sIf (tV (e2 oEq (eV 22) (eV 19))) (sApp 20 (eTup (aCons (eV 14) (aCons (eV 21) aNil)))) sNil)))))
def L_18 : ST := (sIf (tV (e2 oNe (e1 oTupOf (eCall G_power_form (aCons (eV 19) aNil))) (eTup (aCons (e2 oIx (e1 oMaxP (eB 20)) (eI 1)) (aCons (e2 oIx (e1 oMaxP (eB 20)) (eI 0)) aNil))))) (sRet eF) sNil)
def L_21 : ST := (sIf (tOr (tV (e2 oNe (e1 oTupOf (eCall G_ratio_sum (aCons (eV 23) (aCons (eV 24) aNil)))) (eCall G__law_ratio (aCons (e2 oAdd (e2 oMul (e2 oIx (eV 23) (eI 0)) (e2 oIx (eV 24) (eI 1))) (e2 oMul (e2 oIx (eV 24) (eI 0)) (e2 oIx (eV 23) (eI 1)))) (aCons (e2 oMul (e2 oIx (eV 23) (eI 1)) (e2 oIx (eV 24) (eI 1))) aNil))))) (tV (e2 oNe (e1 oTupOf (eCall G_ratio_times (aCons (eV 23) (aCons (eV 24) aNil)))) (eCall G__law_ratio (aCons (e2 oMul (e2 oIx (eV 23) (eI 0)) (e2 oIx (eV 24) (eI 0))) (aCons (e2 oMul (e2 oIx (eV 23) (eI 1)) (e2 oIx (eV 24) (eI 1))) aNil)))))) (sRet eF) sNil)
def L_22 : ST := (sIf (tV (e2 oNe (eCall G_ratio_below (aCons (eV 23) (aCons (eV 24) aNil))) (e2 oLt (e2 oMul (e2 oIx (eV 23) (eI 0)) (e2 oIx (eV 24) (eI 1))) (e2 oMul (e2 oIx (eV 24) (eI 0)) (e2 oIx (eV 23) (eI 1)))))) (sRet eF) sNil)
theorem c5 (t0 t1 t3 t7 t8 t9 t10 t11 t12 t13 t14 t15 t16 t17 t18 t19 t20 t21 t22 t23 t24 : Sl) (a b c : Int) (n : Nat) (ha : a.natAbs ≤ 1000) (hb : b.natAbs ≤ 1000) (hn : n ≤ 1000) {P : Post} (h : P.nx [t0, t1, .val (.int c), t3, .val (.int a), .val (.int b), .val (.int (n : Int)), t7, t8, t9, t10, t11, t12, t13, t14, t15, t16, t17, t18, t19, t20, t21, t22, t23, t24]) : L_5 [t0, t1, .val (.int c), t3, .val (.int a), .val (.int b), .val (.int (n : Int)), t7, t8, t9, t10, t11, t12, t13, t14, t15, t16, t17, t18, t19, t20, t21, t22, t23, t24] P := by
  have m1 : (n : Int) * 1000003 * 1000003 + c.fmod 1000000007 = ((n * 1000003 * 1000003 + (c.fmod 1000000007).toNat : Nat) : Int) := by
    have := fmod_in c (m := 1000000007) (by decide)
    omega
  have m2 := fmod_in c (m := 1000000007) (by decide)
  refine p_law_pair a b ha hb ?_
  refine p_law_pair a 0 ha (by decide) ?_
  refine p_law_pair 0 b (by decide) hb ?_
  refine p_law_one n (by omega) ?_
  refine ⟨mulOk_r (by decide), mulOk_r (by decide), by decide, ?_⟩
  show G__law_one [.int ((n : Int) * 1000003 * 1000003 + c.fmod 1000000007)] _ _
  rw [m1]
  refine p_law_one _ (by omega) ?_
  exact h
theorem c9 (t0 t1 t2 t3 t5 t6 t10 t11 t12 t13 t14 t15 t16 t17 t18 t19 t20 t21 t22 t23 t24 : Sl) (a b n d x1 x2 x3 x4 g : Int) (hg4 : g = gcd4 a b n d) (ha : a.natAbs ≤ 1000) (hb : b.natAbs ≤ 1000) (hn : n.natAbs ≤ 1000) (hd : d.natAbs ≤ 1000) (e : x1 * a + x2 * b + x3 * n + x4 * d = gcd4 a b n d) (da : g ∣ a) (db : g ∣ b) (dn' : g ∣ n) (dd : g ∣ d) {P : Post} (h : P.nx [t0, t1, t2, t3, .val (.int a), t5, t6, .val (.list [.int a, .int b, .int n, .int d]), .val (.int g), .val (.list [.int x1, .int x2, .int x3, .int x4]), t10, t11, t12, t13, t14, t15, t16, t17, t18, t19, t20, t21, t22, t23, t24]) : L_9 [t0, t1, t2, t3, .val (.int a), t5, t6, .val (.list [.int a, .int b, .int n, .int d]), .val (.int g), .val (.list [.int x1, .int x2, .int x3, .int x4]), t10, t11, t12, t13, t14, t15, t16, t17, t18, t19, t20, t21, t22, t23, t24] P := by
  have hg : 0 ≤ g := by omega
  rw [← hg4] at e
  refine p_gcd_of4 a b n d ?_
  rw [← hg4]
  refine br_ndec (p := g = g) (fun c => absurd rfl c) (fun _ => ?_)
  refine ⟨⟨by decide, by decide⟩, Nat.le_of_ble_eq_true rfl, mulOk_r (by omega), mulOk_r (by omega), mulOk_r (by omega), mulOk_r (by omega), ?_⟩
  refine br_ndec (p := x1 * a + (x2 * b + (x3 * n + (x4 * d + 0))) = g) (fun c => absurd (by omega) c) (fun _ => ?_)
  refine p_check_gcd a b n d x1 x2 x3 x4 g hg ha hb hn hd da db dn' dd ?_
  rw [decide_eq_true e]
  refine ⟨Nat.le_of_ble_eq_true rfl, ?_⟩
  refine p_check_gcd a b n d (x1 + 1) x2 x3 x4 g hg ha hb hn hd da db dn' dd ?_
  have e2 : decide ((x1 + 1) * a + x2 * b + x3 * n + x4 * d = g) = decide (a = 0) := by
    rw [Int.add_mul]
    by_cases c : a = 0
    · rw [decide_eq_true c, decide_eq_true]; omega
    · rw [decide_eq_false c, decide_eq_false]; omega
  rw [e2]
  refine br_false (c := !(decide (a = 0) == decide (a = 0))) (by simp) ?_
  exact h
def many_body : ST := (sIf (tOr (tV (e2 oEq (eV 12) (eI 0))) (tV (e2 oEq (eV 11) (eI 0)))) (sSet 11 (eI 0)) (sSet 11 (e2 oDiv (e1 oAbs (e2 oMul (eV 11) (eV 12))) (eCall G__law_gcd (aCons (eV 11) (aCons (eV 12) aNil))))))
theorem many_step (t0 t1 t2 t3 t4 t5 t6 t7 t8 t9 t10 t13 t14 t15 t16 t17 t18 t19 t20 t21 t22 t23 t24 : Sl) (m x : Int) (hx : x.natAbs ≤ 1000) {P : Post} (h : P.nx [t0, t1, t2, t3, t4, t5, t6, t7, t8, t9, t10, .val (.int (mulF m x)), .val (.int x), t13, t14, t15, t16, t17, t18, t19, t20, t21, t22, t23, t24]) : many_body [t0, t1, t2, t3, t4, t5, t6, t7, t8, t9, t10, .val (.int m), .val (.int x), t13, t14, t15, t16, t17, t18, t19, t20, t21, t22, t23, t24] P := by
  unfold mulF at h
  refine br_dec (p := x = 0) (fun c => ?_) (fun c => ?_)
  · rw [if_pos (.inr c)] at h; exact h
  refine br_dec (p := m = 0) (fun c' => ?_) (fun c' => ?_)
  · rw [if_pos (.inl c')] at h; exact h
  rw [if_neg (by omega)] at h
  refine ⟨mulOk_r (by omega), ?_⟩
  refine p_law_gcd m x (Nat.lt_of_le_of_lt hx (by decide)) ?_
  have g1 := gcd_small (a := m) c
  have g2 := gcd_pos' (a := m) c
  refine ⟨⟨by omega, .inl (by omega)⟩, ?_⟩
  rw [← absN] at h
  exact h
theorem c11 (t0 t1 t2 t3 t4 t5 t6 t8 t9 t10 t12 t13 t14 t15 t16 t17 t18 t19 t20 t21 t22 t23 t24 : Sl) (a b n d : Int) (ha : a.natAbs ≤ 1000) (hb : b.natAbs ≤ 1000) (hn : n.natAbs ≤ 1000) (hd : d.natAbs ≤ 1000) {P : Post} (h : P.nx [t0, t1, t2, t3, t4, t5, t6, .val (.list [.int a, .int b, .int n, .int d]), t8, t9, t10, .val (.int (mulF (mulF (mulF (mulF 1 a) b) n) d)), .val (.int d), t13, t14, t15, t16, t17, t18, t19, t20, t21, t22, t23, t24]) : L_11 [t0, t1, t2, t3, t4, t5, t6, .val (.list [.int a, .int b, .int n, .int d]), t8, t9, t10, .val (.int 1), t12, t13, t14, t15, t16, t17, t18, t19, t20, t21, t22, t23, t24] P := by
  refine many_step _ _ _ _ _ _ _ _ _ _ _ _ _ _ _ _ _ _ _ _ _ _ _  1 a ha ?_
  refine many_step _ _ _ _ _ _ _ _ _ _ _ _ _ _ _ _ _ _ _ _ _ _ _  _ b hb ?_
  refine many_step _ _ _ _ _ _ _ _ _ _ _ _ _ _ _ _ _ _ _ _ _ _ _  _ n hn ?_
  refine many_step _ _ _ _ _ _ _ _ _ _ _ _ _ _ _ _ _ _ _ _ _ _ _  _ d hd ?_
  exact h
theorem c12 (t0 t1 t2 t3 t4 t5 t6 t8 t9 t10 t12 t13 t14 t15 t16 t17 t18 t19 t20 t21 t22 t23 t24 : Sl) (a b n d : Int) (ha : a.natAbs ≤ 1000) (hb : b.natAbs ≤ 1000) (hn : n.natAbs ≤ 1000) (hd : d.natAbs ≤ 1000) {P : Post} (h : P.nx [t0, t1, t2, t3, t4, t5, t6, .val (.list [.int a, .int b, .int n, .int d]), t8, t9, t10, .val (.int (mulF (mulF (mulF (mulF 1 a) b) n) d)), t12, t13, t14, t15, t16, t17, t18, t19, t20, t21, t22, t23, t24]) : L_12 [t0, t1, t2, t3, t4, t5, t6, .val (.list [.int a, .int b, .int n, .int d]), t8, t9, t10, .val (.int (mulF (mulF (mulF (mulF 1 a) b) n) d)), t12, t13, t14, t15, t16, t17, t18, t19, t20, t21, t22, t23, t24] P := by
  refine p_lcm_of4 a b n d ha hb hn hd ?_
  refine br_ndec (p := mulF (mulF (mulF (mulF 1 a) b) n) d = mulF (mulF (mulF (mulF 1 a) b) n) d) (fun c => absurd rfl c) (fun _ => ?_)
  exact h
theorem vf20 : ∀ n : Nat, n < 400 → ∀ p, p = 2 ∨ p = 3 ∨ p = 10 → vf 20 (n + 1) p = vf (n + 1) (n + 1) p := by
  have key : (List.range 400).all (fun n => decide (vf 20 (n + 1) 2 = vf (n + 1) (n + 1) 2) && (decide (vf 20 (n + 1) 3 = vf (n + 1) (n + 1) 3) && decide (vf 20 (n + 1) 10 = vf (n + 1) (n + 1) 10))) = true := by decide +kernel
  intro n hn p hp
  have k := List.all_eq_true.mp key n (List.mem_range.mpr hn)
  simp only [Bool.and_eq_true, decide_eq_true_eq] at k
  rcases hp with e | e | e <;> subst e
  · exact k.1
  · exact k.2.1
  · exact k.2.2
theorem vf_no (f x p : Nat) (h : ¬ x % p = 0) : vf f x p = 0 := by
  cases f with
  | zero => rfl
  | succ f => rw [vf_s, if_neg h]
theorem c13 (t0 t1 t2 t3 t4 t5 t7 t8 t9 t10 t11 t12 t13 t14 t15 t16 t17 t18 t19 t20 t21 t22 t23 t24 : Sl) (n : Nat) (hn : n < 400) {P : Post} (h : ∀ t13 t14 t15 t16, P.nx [t0, t1, t2, t3, t4, t5, .val (.int (n : Int)), t7, t8, t9, t10, t11, t12, t13, t14, t15, t16, t17, t18, t19, t20, t21, t22, t23, t24]) : L_13 [t0, t1, t2, t3, t4, t5, .val (.int (n : Int)), t7, t8, t9, t10, t11, t12, t13, t14, t15, t16, t17, t18, t19, t20, t21, t22, t23, t24] P := by
  refine forD_i (fun rest v => (∃ t13 t14 t15 t16, v = [t0, t1, t2, t3, t4, t5, .val (.int (n : Int)), t7, t8, t9, t10, t11, t12, t13, t14, t15, t16, t17, t18, t19, t20, t21, t22, t23, t24]) ∧ ∀ d ∈ rest, ∃ p : Nat, d = PyData.int p ∧ (p = 2 ∨ p = 3 ∨ p = 10)) ?_ ?_ _ _ ⟨⟨t13, t14, t15, t16, rfl⟩, ?_⟩
  · rintro d rest v N ⟨⟨t13, t14, t15, t16, rfl⟩, hr⟩ hN
    obtain ⟨p, rfl, hp⟩ := hr d List.mem_cons_self
    refine ⟨⟨by decide, by decide⟩, ?_⟩
    refine forD_i (fun rest v => ∃ (x c : Nat) (t16 : Sl), v = [t0, t1, t2, t3, t4, t5, .val (.int (n : Int)), t7, t8, t9, t10, t11, t12, .val (.int (p : Int)), .val (.int (c : Int)), .val (.int (x : Int)), t16, t17, t18, t19, t20, t21, t22, t23, t24] ∧ 1 ≤ x ∧ c + vf rest.length x p = vf 20 (n + 1) p) ?_ ?_ _ _ ⟨n + 1, 0, t16, ?_, by omega, ?_⟩
    · rintro d rest v N ⟨x, c, t16, rfl, hx, hc⟩ hN
      refine ⟨by omega, ?_⟩
      refine br_dec (p := (x : Int).fmod p = 0) (fun c1 => ?_) (fun c1 => ?_)
      · rw [fmodN] at c1
        have c1 : x % p = 0 := by omega
        refine ⟨⟨by omega, .inl (by rw [Int.natAbs_natCast]; omega)⟩, hN _ ⟨x / p, c + 1, .val d, ?_, ?_, ?_⟩⟩
        · show [t0, t1, t2, t3, t4, t5, _, t7, t8, t9, t10, t11, t12, _, Sl.val (.int ((c : Int) + 1)), Sl.val (.int ((x : Int).fdiv p)), _, t17, t18, t19, t20, t21, t22, t23, t24] = _
          rw [fdivN]; push_cast; rfl
        · exact Nat.div_pos (Nat.le_of_dvd (by omega) (Nat.dvd_of_mod_eq_zero c1)) (by omega)
        · have hc : c + vf (rest.length + 1) x p = _ := hc
          rw [vf_s, if_pos c1] at hc
          omega
      · rw [fmodN] at c1
        have c1 : ¬ x % p = 0 := by omega
        rw [vf_no _ _ _ c1] at hc
        exact hN _ ⟨x, c, .val d, rfl, hx, by rw [vf_no _ _ _ c1]; exact hc⟩
    · rintro v ⟨x, c, t16, rfl, hx, hc⟩
      have hc : c = vf 20 (n + 1) p := hc
      rw [vf20 n hn p hp] at hc
      show G_times_in [.int ((n : Int) + 1), .int p] _ _
      rw [show ((n : Int) + 1) = ((n + 1 : Nat) : Int) by omega]
      refine p_times_in (n + 1) p (by omega) (by omega) (by omega) ?_
      rw [← hc]
      refine br_ndec (p := (c : Int) = c) (fun c => absurd rfl c) (fun _ => ?_)
      exact hN _ ⟨⟨_, _, _, _, rfl⟩, fun d hd => hr d (List.mem_cons_of_mem _ hd)⟩
    · show [t0, t1, t2, t3, t4, t5, _, t7, t8, t9, t10, t11, t12, _, Sl.val (.int 0), Sl.val (.int ((n : Int) + 1)), _, t17, t18, t19, t20, t21, t22, t23, t24] = _
      rw [show ((n : Int) + 1) = ((n + 1 : Nat) : Int) by omega]; rfl
    · have e : (rng 0 (20 : Int).toNat 1).length = 20 := by unfold rng; rw [List.length_map, List.length_range]; rfl
      rw [e, Nat.zero_add]
  · rintro v ⟨⟨t13, t14, t15, t16, rfl⟩, _⟩
    exact h _ _ _ _
  · intro d hd
    have : d = .int ((2 : Nat) : Int) ∨ d = .int ((3 : Nat) : Int) ∨ d = .int ((10 : Nat) : Int) := by simpa using hd
    rcases this with e | e | e <;> exact ⟨_, e, by omega⟩
theorem comp_no (t0 t1 t2 t3 t4 t5 t6 t7 t8 t9 t10 t11 t12 t13 t14 t15 t16 t18 t19 t20 t21 t22 t23 t24 : Sl) (S F : Int) {K : List D → Prop} (h : K []) : ∀ (k : Nat) (lo : Nat), (∀ i, i < k → F.fmod (((lo + i : Nat) : Int) * ((lo + i : Nat) : Int)) ≠ 0) → 1 ≤ lo → lo + k ≤ 1000 →
    compD (gN 18) (tV (e2 oEq (e2 oMod (e1 oInt (e2 oIx (eV 17) (eI 1))) (e2 oMul (eV 18) (eV 18))) (eI 0))) (eV 18) [t0, t1, t2, t3, t4, t5, t6, t7, t8, t9, t10, t11, t12, t13, t14, t15, t16, .val (.tuple [.int S, .int F]), t18, t19, t20, t21, t22, t23, t24] (rng (lo : Int) k 1) [] K
  | 0, lo, _, _, _ => h
  | k + 1, lo, hf, hl, hk => by
    rw [rng_cons]
    refine ⟨mulOk_l (by omega), ?_, ?_⟩
    · have := Int.mul_pos (show (0 : Int) < lo by omega) (show (0 : Int) < lo by omega)
      omega
    have h0 := hf 0 (by omega)
    rw [Nat.add_zero] at h0
    refine br_false (c := decide (F.fmod ((lo : Int) * lo) = 0)) (decide_eq_false h0) ?_
    rw [show ((lo : Int) + 1) = ((lo + 1 : Nat) : Int) by omega]
    exact comp_no t0 t1 t2 t3 t4 t5 t6 t7 t8 t9 t10 t11 t12 t13 t14 t15 t16 t18 t19 t20 t21 t22 t23 t24 S F h k (lo + 1) (fun i hi => by have := hf (i + 1) (by omega); rwa [show lo + (i + 1) = lo + 1 + i by omega] at this) (by omega) (by omega)
theorem c14 (t0 t1 t2 t3 t5 t6 t7 t8 t9 t10 t11 t12 t13 t14 t15 t16 t17 t18 t19 t20 t21 t22 t23 t24 : Sl) (a : Int) (ha : a.natAbs ≤ 400) {P : Post} (h : ∀ t17, P.nx [t0, t1, t2, t3, .val (.int a), t5, t6, t7, t8, t9, t10, t11, t12, t13, t14, t15, t16, t17, t18, t19, t20, t21, t22, t23, t24]) : L_14 [t0, t1, t2, t3, .val (.int a), t5, t6, t7, t8, t9, t10, t11, t12, t13, t14, t15, t16, t17, t18, t19, t20, t21, t22, t23, t24] P := by
  refine br_ndec (p := a = 0) (fun c => ?_) (fun c => h t17)
  refine p_square_part a c ha ?_
  obtain ⟨k1, k2, k3, k4⟩ := sqn_ok a c ha
  generalize hS : (sqn a).1 = S at k1 k2 k3
  generalize hF : (sqn a).2 = F at k1 k4
  refine ⟨mulOk_l (by omega), mulOk_l (by have := Int.mul_le_mul k3 k3 (by omega) (by omega); have := Int.mul_nonneg (show 0 ≤ S by omega) (show 0 ≤ S by omega); omega), ?_⟩
  refine br_ndec (p := S * S * F = a) (fun c => absurd k1 c) (fun _ => ?_)
  refine br_false (c := decide (S < 1)) (by rw [decide_eq_false]; omega) ?_
  refine ⟨⟨⟨by decide, by decide⟩, ⟨by decide, by decide⟩⟩, ?_, ?_⟩
  · show (rng 2 ((30 : Int) - 2).toNat 1).length ≤ szl
    unfold rng; rw [List.length_map, List.length_range]; decide
  refine comp_no _ _ _ _ _ _ _ _ _ _ _ _ _ _ _ _ _ _ _ _ _ _ _ _  S F ?_ 28 2 (fun i hi => ?_) (by omega) (by omega)
  · exact h _
  · rw [Nat.add_comm]; exact k4 i hi
end Rw

set_option linter.all false
namespace Rw
open PySem
def good (m : Nat) (l : List (Int × Int)) : Prop := ∀ q ∈ l, ∃ s b : Nat, q = ((s : Int), (b : Int)) ∧ b ^ s = m ∧ 1 ≤ s
theorem good_app {m s b : Nat} {l : List (Int × Int)} (h : good m l) (e : b ^ s = m) (hs : 1 ≤ s) : good m (l ++ [((s : Int), (b : Int))]) := fun q hq => by
  rcases List.mem_append.mp hq with z | z
  · exact h q z
  · exact ⟨s, b, List.mem_singleton.mp z, e, hs⟩
theorem c17 (t0 t1 t2 t3 t4 t5 t6 t7 t8 t9 t10 t11 t12 t13 t14 t15 t16 t17 t18 t21 t22 t23 t24 : Sl) (m : Nat) (hm : 2 ≤ m) (hm2 : m ≤ 500) {P : Post} (h : ∀ (l : List (Int × Int)) (t14 t21 t22 : Sl), good m l → (∀ b s : Nat, 2 ≤ b → b ≤ m → 1 ≤ s → s ≤ 9 → b ^ s = m → ((s : Int), (b : Int)) ∈ l) → P.nx [t0, t1, t2, t3, t4, t5, t6, t7, t8, t9, t10, t11, t12, t13, t14, t15, t16, t17, t18, .val (.int (m : Int)), .own (.list (l.map pD)), t21, t22, t23, t24]) : L_17 [t0, t1, t2, t3, t4, t5, t6, t7, t8, t9, t10, t11, t12, t13, t14, t15, t16, t17, t18, .val (.int (m : Int)), .own (.list []), t21, t22, t23, t24] P := by
  refine ⟨⟨⟨by decide, by decide⟩, ⟨by omega, by omega⟩⟩, ?_⟩
  refine forD_i (fun rest v => ∃ (b k : Nat) (l : List (Int × Int)) (t14 t21 t22 : Sl), v = [t0, t1, t2, t3, t4, t5, t6, t7, t8, t9, t10, t11, t12, t13, t14, t15, t16, t17, t18, .val (.int (m : Int)), .own (.list (l.map pD)), t21, t22, t23, t24] ∧ rest = rng (b : Int) k 1 ∧ b + k = m + 1 ∧ 2 ≤ b ∧ good m l ∧ (∀ b' s : Nat, 2 ≤ b' → b' < b → 1 ≤ s → s ≤ 9 → b' ^ s = m → ((s : Int), (b' : Int)) ∈ l) ∧ l.length ≤ 9 * b) ?_ ?_ _ _
    ⟨2, m - 1, [], t14, t21, t22, rfl, ?_, by omega, by omega, (fun q hq => nomatch hq), (fun b' s h1 h2 => by omega), Nat.zero_le _⟩
  · rintro d rest v N ⟨b, k, l, t14, t21, t22, rfl, he, hk, hb, hg, hin, hl⟩ hN
    cases k with
    | zero => cases he
    | succ k_outer =>
      rw [rng_cons] at he
      cases he
      refine ⟨⟨⟨by decide, by decide⟩, ⟨by decide, by decide⟩⟩, ?_⟩
      refine forD_i (fun rest v => ∃ (i k : Nat) (l : List (Int × Int)) (t14 : Sl), v = [t0, t1, t2, t3, t4, t5, t6, t7, t8, t9, t10, t11, t12, t13, t14, t15, t16, t17, t18, .val (.int (m : Int)), .own (.list (l.map pD)), .val (.int (b : Int)), .val (.int ((b : Int) ^ i)), t23, t24] ∧ rest = rng ((i + 1 : Nat) : Int) k 1 ∧ i + k = 9 ∧ good m l ∧ (∀ b' s : Nat, 2 ≤ b' → b' < b → 1 ≤ s → s ≤ 9 → b' ^ s = m → ((s : Int), (b' : Int)) ∈ l) ∧ (∀ s : Nat, 1 ≤ s → s ≤ i → b ^ s = m → ((s : Int), (b : Int)) ∈ l) ∧ l.length ≤ 9 * b + i) ?_ ?_ _ _
        ⟨0, 9, l, t14, rfl, rfl, rfl, hg, hin, fun s h1 h2 => by omega, hl⟩
      · rintro d rest v N ⟨i, k, l, t14, rfl, he, hk', hg, hin, hin2, hl⟩ hN
        cases k with
        | zero => cases he
        | succ k =>
          rw [rng_cons] at he
          cases he
          have e1 : (b : Int) ^ i * b = ((b ^ (i + 1) : Nat) : Int) := by rw [← castpow, Int.pow_succ]
          refine ⟨mulOk_r (by omega), ?_⟩
          have e2 : (((i + 1 : Nat) : Int) + 1) = ((i + 1 + 1 : Nat) : Int) := by omega
          refine br_dec (p := (b : Int) ^ i * b = m) (fun c => ?_) (fun c => ?_)
          · have c2 : b ^ (i + 1) = m := by rw [e1] at c; omega
            refine ⟨?_, hN _ ⟨i + 1, k, l ++ [(((i + 1 : Nat) : Int), (b : Int))], .val (.int ((i + 1 : Nat) : Int)), ?_, by rw [e2], by omega, good_app hg c2 (by omega), ?_, ?_, ?_⟩⟩
            · show (l.map pD).length < 16777216
              rw [List.length_map]; omega
            · rw [List.map_append, Int.pow_succ]; rfl
            · intro b' s h1 h2 h3 h4 h5
              exact List.mem_append_left _ (hin b' s h1 h2 h3 h4 h5)
            · intro s h1 h2 h3
              by_cases z : s = i + 1
              · subst z; exact List.mem_append_right _ List.mem_cons_self
              · exact List.mem_append_left _ (hin2 s h1 (by omega) h3)
            · rw [List.length_append]; simp only [List.length_singleton]; omega
          · refine hN _ ⟨i + 1, k, l, .val (.int ((i + 1 : Nat) : Int)), ?_, by rw [e2], by omega, hg, hin, ?_, by omega⟩
            · rw [Int.pow_succ]; rfl
            · intro s h1 h2 h3
              by_cases z : s = i + 1
              · subst z
                exact absurd (by rw [e1]; omega) c
              · exact hin2 s h1 (by omega) h3
      · rintro v ⟨i, k, l, t14, rfl, he, hk', hg, hin, hin2, hl⟩
        have hk0 : k = 0 := by
          cases k with
          | zero => rfl
          | succ k => rw [rng_cons] at he; cases he
        have hi : i = 9 := by omega
        subst hi
        refine hN _ ⟨b + 1, k_outer, l, t14, _, _, rfl, ?_, by omega, by omega, hg, ?_, by omega⟩
        · rw [show ((b + 1 : Nat) : Int) = (b : Int) + 1 by omega]
        · intro b' s h1 h2 h3 h4 h5
          by_cases z : b' = b
          · subst z; exact hin2 s h3 h4 h5
          · exact hin b' s h1 (by omega) h3 h4 h5
  · rintro v ⟨b, k, l, t14, t21, t22, rfl, he, hk, hb, hg, hin, hl⟩
    have hk0 : k = 0 := by
      cases k with
      | zero => rfl
      | succ k => rw [rng_cons] at he; cases he
    exact h l t14 t21 t22 hg (fun b s h1 h2 h3 h4 h5 => hin b s h1 (by omega) h3 h4 h5)
  · show rng 2 ((m : Int) + 1 - 2).toNat 1 = _
    rw [show ((m : Int) + 1 - 2).toNat = m - 1 by omega]; rfl
theorem tup2_i {a b : ET} {v : Ev} {K : KD} {X : KX} (h : a v (fun x => b v (fun y => K (.tuple [x, y])) X) X) : eTup (aCons a (aCons b aNil)) v K X := h
theorem e2_i {op : O2} {a b : ET} {v : Ev} {K : KD} {X : KX} (h : a v (fun x => b v (fun y => op x y K) X) X) : e2 op a b v K X := h
theorem e1_i {op : O1} {a : ET} {v : Ev} {K : KD} {X : KX} (h : a v (fun x => op x K) X) : e1 op a v K X := h
theorem eB_i {i : Nat} {v : Ev} {d : D} {K : KD} {X : KX} (e : v[i]? = some (.own d)) (h : K d) : eB i v K X := by unfold eB; rw [e]; exact h
theorem eC_i {d : D} {v : Ev} {K : KD} {X : KX} (h : K d) : eC d v K X := h
theorem ix1 {a b : Int} {K : KD} (h : K (.int b)) : oIx (pD (a, b)) (.int 1) K := h
theorem tup_i {ds : List D} {K : KD} (h : K (.tuple ds)) : oTupOf (.tuple ds) K := h
theorem c18 (t0 t1 t2 t3 t4 t5 t6 t7 t8 t9 t10 t11 t12 t13 t14 t15 t16 t17 t18 t21 t22 t23 t24 : Sl) (m : Nat) (l : List (Int × Int)) (hm : 2 ≤ m) (hm2 : m ≤ 500) (hg : good m l) (hin : ∀ b s : Nat, 2 ≤ b → b ≤ m → 1 ≤ s → s ≤ 9 → b ^ s = m → ((s : Int), (b : Int)) ∈ l) {P : Post} (h : P.nx [t0, t1, t2, t3, t4, t5, t6, t7, t8, t9, t10, t11, t12, t13, t14, t15, t16, t17, t18, .val (.int (m : Int)), .own (.list (l.map pD)), t21, t22, t23, t24]) : L_18 [t0, t1, t2, t3, t4, t5, t6, t7, t8, t9, t10, t11, t12, t13, t14, t15, t16, t17, t18, .val (.int (m : Int)), .own (.list (l.map pD)), t21, t22, t23, t24] P := by
  refine p_power_form m hm (by omega) fun r k e hk hno => ?_
  have hr := base_ge2 hm e
  have k9 : k ≤ 9 := by
    rcases Nat.lt_or_ge 9 k with z | z
    · have h1 := Nat.pow_le_pow_left hr k
      have h2 := Nat.pow_le_pow_right (n := 2) (by omega) z
      omega
    · exact z
  have hrm : r ≤ m := by rw [← e]; exact le_pow_self' hk
  have mem := hin r k hr hrm hk k9 e
  have hle : ∀ y ∈ l, leP y ((k : Int), (r : Int)) := by
    intro y hy
    obtain ⟨s, b, rfl, e2, hs⟩ := hg y hy
    rcases Nat.lt_trichotomy s k with z | z | z
    · exact .inl (by show (s : Int) < k; omega)
    · subst z
      refine .inr ⟨rfl, ?_⟩
      rcases Nat.lt_or_ge r b with w | w
      · have := Nat.pow_lt_pow_left w (show s ≠ 0 by omega); omega
      · show (b : Int) ≤ r; omega
    · exact absurd e2 (hno s b z)
  refine tup_i ?_
  refine tup2_i (e2_i (e1_i (eB_i (d := .list (l.map pD)) rfl ?_)))
  refine maxP_of l _ mem hle ?_
  refine eC_i (ix1 ?_)
  refine e2_i (e1_i (eB_i (d := .list (l.map pD)) rfl ?_))
  refine maxP_of l _ mem hle ?_
  refine ⟨cmp_tup [(r : Int), k], cmp_tup [(r : Int), k], br_false (c := !eqv (.tuple ([(r : Int), k].map .int)) (.tuple ([(r : Int), k].map .int))) (eqv_t _) ?_⟩
  exact h
theorem yw_ok {y w : Int} (hy : 0 < y) (hw : 0 < w) (hy2 : y ≤ 1000) (hw2 : w ≤ 1000) : y * w ≠ 0 ∧ (y * w).natAbs < 2 ^ 30 := by
  have h1 := Int.mul_pos hy hw
  have h2 := Int.mul_le_mul hy2 hw2 (by omega) (by omega)
  omega
theorem p_ratio_sum (x y z w : Int) (hy : 0 < y) (hw : 0 < w) (hy2 : y ≤ 1000) (hw2 : w ≤ 1000) (hx2 : x.natAbs ≤ 1000) (hz2 : z.natAbs ≤ 1000) (g1 : Int.gcd x y = 1) (g2 : Int.gcd z w = 1) {K : KD} {X : KX} (h : K (.tuple [.int ((x * w + z * y).fdiv (shr (x * w + z * y) (y * w))), .int ((y * w).fdiv (shr (x * w + z * y) (y * w)))])) : G_ratio_sum [.tuple [.int x, .int y], .tuple [.int z, .int w]] K X := by
  unfold G_ratio_sum d_ratio_sum
  obtain ⟨n0, n1⟩ := yw_ok hy hw hy2 hw2
  refine ⟨rfl, p_check_ratio x y hy g1 ?_⟩
  refine p_check_ratio z w hw g2 ?_
  exact p_plus x y z w n0 n1 (by omega) (by omega) h
theorem p_ratio_times (x y z w : Int) (hy : 0 < y) (hw : 0 < w) (hy2 : y ≤ 1000) (hw2 : w ≤ 1000) (hx2 : x.natAbs ≤ 1000) (hz2 : z.natAbs ≤ 1000) (g1 : Int.gcd x y = 1) (g2 : Int.gcd z w = 1) {K : KD} {X : KX} (h : K (.tuple [.int ((x * z).fdiv (shr (x * z) (y * w))), .int ((y * w).fdiv (shr (x * z) (y * w)))])) : G_ratio_times [.tuple [.int x, .int y], .tuple [.int z, .int w]] K X := by
  unfold G_ratio_times d_ratio_times
  obtain ⟨n0, n1⟩ := yw_ok hy hw hy2 hw2
  refine ⟨rfl, p_check_ratio x y hy g1 ?_⟩
  refine p_check_ratio z w hw g2 ?_
  exact p_by x y z w n0 n1 (by omega) (by omega) h
theorem p_ratio_below (x y z w : Int) (hy : 0 < y) (hw : 0 < w) (hy2 : y ≤ 1000) (hw2 : w ≤ 1000) (hx2 : x.natAbs ≤ 1000) (hz2 : z.natAbs ≤ 1000) (g1 : Int.gcd x y = 1) (g2 : Int.gcd z w = 1) {K : KD} {X : KX} (h : K (.bool (decide (x * w < z * y)))) : G_ratio_below [.tuple [.int x, .int y], .tuple [.int z, .int w]] K X := by
  unfold G_ratio_below d_ratio_below
  refine ⟨rfl, p_check_ratio x y hy g1 ?_⟩
  refine p_check_ratio z w hw g2 ?_
  exact p_is_below x y z w (by omega) (by omega) h
theorem c21 (t0 t1 t2 t3 t4 t5 t6 t7 t8 t9 t10 t11 t12 t13 t14 t15 t16 t17 t18 t19 t20 t21 t22 : Sl) (x y z w : Int) (hy : 0 < y) (hw : 0 < w) (hy2 : y ≤ 1000) (hw2 : w ≤ 1000) (hx2 : x.natAbs ≤ 1000) (hz2 : z.natAbs ≤ 1000) (g1 : Int.gcd x y = 1) (g2 : Int.gcd z w = 1) {P : Post} (h : P.nx [t0, t1, t2, t3, t4, t5, t6, t7, t8, t9, t10, t11, t12, t13, t14, t15, t16, t17, t18, t19, t20, t21, t22, .val (.tuple [.int x, .int y]), .val (.tuple [.int z, .int w])]) : L_21 [t0, t1, t2, t3, t4, t5, t6, t7, t8, t9, t10, t11, t12, t13, t14, t15, t16, t17, t18, t19, t20, t21, t22, .val (.tuple [.int x, .int y]), .val (.tuple [.int z, .int w])] P := by
  obtain ⟨n0, n1⟩ := yw_ok hy hw hy2 hw2
  refine p_ratio_sum x y z w hy hw hy2 hw2 hx2 hz2 g1 g2 ?_
  refine ⟨mulOk_r (by omega), mulOk_r (by omega), mulOk_r (by omega), ?_⟩
  refine p_law_ratio _ _ n0 n1 ?_
  generalize (x * w + z * y).fdiv (shr (x * w + z * y) (y * w)) = A
  generalize (y * w).fdiv (shr (x * w + z * y) (y * w)) = B
  refine ⟨cmp_tup [A, B], cmp_tup [A, B], br_false (c := !eqv (.tuple ([A, B].map .int)) (.tuple ([A, B].map .int))) (eqv_t _) ?_⟩
  refine p_ratio_times x y z w hy hw hy2 hw2 hx2 hz2 g1 g2 ?_
  refine ⟨mulOk_r (by omega), mulOk_r (by omega), ?_⟩
  refine p_law_ratio _ _ n0 n1 ?_
  generalize (x * z).fdiv (shr (x * z) (y * w)) = A
  generalize (y * w).fdiv (shr (x * z) (y * w)) = B
  refine ⟨cmp_tup [A, B], cmp_tup [A, B], br_false (c := !eqv (.tuple ([A, B].map .int)) (.tuple ([A, B].map .int))) (eqv_t _) ?_⟩
  exact h
theorem c22 (t0 t1 t2 t3 t4 t5 t6 t7 t8 t9 t10 t11 t12 t13 t14 t15 t16 t17 t18 t19 t20 t21 t22 : Sl) (x y z w : Int) (hy : 0 < y) (hw : 0 < w) (hy2 : y ≤ 1000) (hw2 : w ≤ 1000) (hx2 : x.natAbs ≤ 1000) (hz2 : z.natAbs ≤ 1000) (g1 : Int.gcd x y = 1) (g2 : Int.gcd z w = 1) {P : Post} (h : P.nx [t0, t1, t2, t3, t4, t5, t6, t7, t8, t9, t10, t11, t12, t13, t14, t15, t16, t17, t18, t19, t20, t21, t22, .val (.tuple [.int x, .int y]), .val (.tuple [.int z, .int w])]) : L_22 [t0, t1, t2, t3, t4, t5, t6, t7, t8, t9, t10, t11, t12, t13, t14, t15, t16, t17, t18, t19, t20, t21, t22, .val (.tuple [.int x, .int y]), .val (.tuple [.int z, .int w])] P := by
  refine p_ratio_below x y z w hy hw hy2 hw2 hx2 hz2 g1 g2 ?_
  refine ⟨mulOk_r (by omega), mulOk_r (by omega), ?_⟩
  refine br_false (c := !(decide (x * w < z * y) == decide (x * w < z * y))) (by simp) ?_
  exact h
end Rw

set_option linter.all false
namespace Rw
open PySem
def L_0 : ST := (sSet 2 (e2 oAdd (e1 oAbs (eCall G__law_cell (aCons (eV 0) (aCons (eV 1) aNil)))) (e2 oMul (eI 31) (eV 1))))
def L_1 : ST := (sSet 3 (eCall G__law_draw (aCons (eV 2) (aCons (eLst (aCons (eI 800) (aCons (eI 800) (aCons (eI 400) (aCons (eI 30) aNil))))) aNil))))
def L_2 : ST := (sSet 4 (e2 oSub (e1 oInt (e2 oIx (eV 3) (eI 0))) (eI 400)))
def L_3 : ST := (sSet 5 (e2 oSub (e1 oInt (e2 oIx (eV 3) (eI 1))) (eI 400)))
def L_4 : ST := (sSet 6 (e1 oInt (e2 oIx (eV 3) (eI 2))))
def L_6 : ST := (sSet 7 (eLst (aCons (eV 4) (aCons (eV 5) (aCons (eV 6) (aCons (e2 oMul (eI 6) (e1 oInt (e2 oIx (eV 3) (eI 3)))) aNil))))))
def L_7 : ST := (sSet 8 (eCall G__law_gcd (aCons (eCall G__law_gcd (aCons (eV 4) (aCons (eV 5) aNil))) (aCons (eCall G__law_gcd (aCons (eV 6) (aCons (e2 oMul (eI 6) (e1 oInt (e2 oIx (eV 3) (eI 3)))) aNil))) aNil))))
def L_8 : ST := (sSet 9 (eCall G_gcd_row (aCons (eV 7) aNil)))
def L_10 : ST := (sSet 11 (eI 1))
def L_15 : ST := (sSet 19 (e2 oAdd (eV 6) (eI 2)))
def L_16 : ST := (sOwn 20 (eLst aNil))
def L_19 : ST := (sSet 23 (eCall G__law_ratio (aCons (eV 4) (aCons (e2 oAdd (eV 6) (eI 1)) aNil))))
def L_20 : ST := (sSet 24 (eCall G__law_ratio (aCons (eV 5) (aCons (eV 19) aNil))))
theorem st0 (t2 t3 t4 t5 t6 t7 t8 t9 t10 t11 t12 t13 t14 t15 t16 t17 t18 t19 t20 t21 t22 t23 t24 : Sl) (ns : List Int) (k : Nat) {P : Post} (h : ∀ c : Int, P.nx [.val (.list (ns.map .int)), .val (.int (k : Int)), .val (.int c), t3, t4, t5, t6, t7, t8, t9, t10, t11, t12, t13, t14, t15, t16, t17, t18, t19, t20, t21, t22, t23, t24]) : L_0 [.val (.list (ns.map .int)), .val (.int (k : Int)), t2, t3, t4, t5, t6, t7, t8, t9, t10, t11, t12, t13, t14, t15, t16, t17, t18, t19, t20, t21, t22, t23, t24] P := p_law_cell ns k fun z => ⟨mulOk_l (by decide), h _⟩
theorem st1 (t0 t1 t3 t4 t5 t6 t7 t8 t9 t10 t11 t12 t13 t14 t15 t16 t17 t18 t19 t20 t21 t22 t23 t24 : Sl) (c : Int) {P : Post} (h : ∀ p0 p1 p2 p3 : Int, 0 ≤ p0 → p0 < 800 → 0 ≤ p1 → p1 < 800 → 0 ≤ p2 → p2 < 400 → 0 ≤ p3 → p3 < 30 → P.nx [t0, t1, .val (.int c), .val (.list [.int p0, .int p1, .int p2, .int p3]), t4, t5, t6, t7, t8, t9, t10, t11, t12, t13, t14, t15, t16, t17, t18, t19, t20, t21, t22, t23, t24]) : L_1 [t0, t1, .val (.int c), t3, t4, t5, t6, t7, t8, t9, t10, t11, t12, t13, t14, t15, t16, t17, t18, t19, t20, t21, t22, t23, t24] P := p_law_draw c h
theorem st2 (t0 t1 t2 t4 t5 t6 t7 t8 t9 t10 t11 t12 t13 t14 t15 t16 t17 t18 t19 t20 t21 t22 t23 t24 : Sl) (p0 p1 p2 p3 : Int) {P : Post} (h : P.nx [t0, t1, t2, .val (.list [.int p0, .int p1, .int p2, .int p3]), .val (.int (p0 - 400)), t5, t6, t7, t8, t9, t10, t11, t12, t13, t14, t15, t16, t17, t18, t19, t20, t21, t22, t23, t24]) : L_2 [t0, t1, t2, .val (.list [.int p0, .int p1, .int p2, .int p3]), t4, t5, t6, t7, t8, t9, t10, t11, t12, t13, t14, t15, t16, t17, t18, t19, t20, t21, t22, t23, t24] P := h
theorem st3 (t0 t1 t2 t4 t5 t6 t7 t8 t9 t10 t11 t12 t13 t14 t15 t16 t17 t18 t19 t20 t21 t22 t23 t24 : Sl) (p0 p1 p2 p3 : Int) {P : Post} (h : P.nx [t0, t1, t2, .val (.list [.int p0, .int p1, .int p2, .int p3]), t4, .val (.int (p1 - 400)), t6, t7, t8, t9, t10, t11, t12, t13, t14, t15, t16, t17, t18, t19, t20, t21, t22, t23, t24]) : L_3 [t0, t1, t2, .val (.list [.int p0, .int p1, .int p2, .int p3]), t4, t5, t6, t7, t8, t9, t10, t11, t12, t13, t14, t15, t16, t17, t18, t19, t20, t21, t22, t23, t24] P := h
theorem st4 (t0 t1 t2 t4 t5 t6 t7 t8 t9 t10 t11 t12 t13 t14 t15 t16 t17 t18 t19 t20 t21 t22 t23 t24 : Sl) (p0 p1 p2 p3 : Int) {P : Post} (h : P.nx [t0, t1, t2, .val (.list [.int p0, .int p1, .int p2, .int p3]), t4, t5, .val (.int p2), t7, t8, t9, t10, t11, t12, t13, t14, t15, t16, t17, t18, t19, t20, t21, t22, t23, t24]) : L_4 [t0, t1, t2, .val (.list [.int p0, .int p1, .int p2, .int p3]), t4, t5, t6, t7, t8, t9, t10, t11, t12, t13, t14, t15, t16, t17, t18, t19, t20, t21, t22, t23, t24] P := h
theorem st6 (t0 t1 t2 t7 t8 t9 t10 t11 t12 t13 t14 t15 t16 t17 t18 t19 t20 t21 t22 t23 t24 : Sl) (p0 p1 p2 p3 a b n : Int) {P : Post} (h : P.nx [t0, t1, t2, .val (.list [.int p0, .int p1, .int p2, .int p3]), .val (.int a), .val (.int b), .val (.int n), .val (.list [.int a, .int b, .int n, .int (6 * p3)]), t8, t9, t10, t11, t12, t13, t14, t15, t16, t17, t18, t19, t20, t21, t22, t23, t24]) : L_6 [t0, t1, t2, .val (.list [.int p0, .int p1, .int p2, .int p3]), .val (.int a), .val (.int b), .val (.int n), t7, t8, t9, t10, t11, t12, t13, t14, t15, t16, t17, t18, t19, t20, t21, t22, t23, t24] P := ⟨mulOk_l (by decide), h⟩
theorem st7 (t0 t1 t2 t7 t8 t9 t10 t11 t12 t13 t14 t15 t16 t17 t18 t19 t20 t21 t22 t23 t24 : Sl) (p0 p1 p2 p3 a b n : Int) (hb : b.natAbs ≤ 1000) (hd : (6 * p3).natAbs ≤ 1000) (hn : n.natAbs ≤ 1000) {P : Post} (h : P.nx [t0, t1, t2, .val (.list [.int p0, .int p1, .int p2, .int p3]), .val (.int a), .val (.int b), .val (.int n), t7, .val (.int ((Int.gcd (Int.gcd a b : Int) (Int.gcd n (6 * p3) : Int) : Nat) : Int)), t9, t10, t11, t12, t13, t14, t15, t16, t17, t18, t19, t20, t21, t22, t23, t24]) : L_7 [t0, t1, t2, .val (.list [.int p0, .int p1, .int p2, .int p3]), .val (.int a), .val (.int b), .val (.int n), t7, t8, t9, t10, t11, t12, t13, t14, t15, t16, t17, t18, t19, t20, t21, t22, t23, t24] P := p_law_gcd a b (Nat.lt_of_le_of_lt hb (by decide)) ⟨mulOk_l (by decide), p_law_gcd n (6 * p3) (Nat.lt_of_le_of_lt hd (by decide)) (p_law_gcd _ _ (Nat.lt_of_le_of_lt (gcd_max hn hd) (by decide)) h)⟩
theorem st8 (t0 t1 t2 t3 t4 t5 t6 t8 t9 t10 t11 t12 t13 t14 t15 t16 t17 t18 t19 t20 t21 t22 t23 t24 : Sl) (a b n d : Int) (ha : a.natAbs ≤ 1000) (hb : b.natAbs ≤ 1000) (hn : n.natAbs ≤ 1000) (hd : d.natAbs ≤ 1000) {P : Post} (h : ∀ x1 x2 x3 x4 : Int, x1 * a + x2 * b + x3 * n + x4 * d = gcd4 a b n d → P.nx [t0, t1, t2, t3, t4, t5, t6, .val (.list [.int a, .int b, .int n, .int d]), t8, .val (.list [.int x1, .int x2, .int x3, .int x4]), t10, t11, t12, t13, t14, t15, t16, t17, t18, t19, t20, t21, t22, t23, t24]) : L_8 [t0, t1, t2, t3, t4, t5, t6, .val (.list [.int a, .int b, .int n, .int d]), t8, t9, t10, t11, t12, t13, t14, t15, t16, t17, t18, t19, t20, t21, t22, t23, t24] P := p_gcd_row4 a b n d ha hb hn hd h
theorem st10 (t0 t1 t2 t3 t4 t5 t6 t7 t8 t9 t10 t11 t12 t13 t14 t15 t16 t17 t18 t19 t20 t21 t22 t23 t24 : Sl)  {P : Post} (h : P.nx [t0, t1, t2, t3, t4, t5, t6, t7, t8, t9, t10, .val (.int 1), t12, t13, t14, t15, t16, t17, t18, t19, t20, t21, t22, t23, t24]) : L_10 [t0, t1, t2, t3, t4, t5, t6, t7, t8, t9, t10, t11, t12, t13, t14, t15, t16, t17, t18, t19, t20, t21, t22, t23, t24] P := h
theorem st15 (t0 t1 t2 t3 t4 t5 t7 t8 t9 t10 t11 t12 t13 t14 t15 t16 t17 t18 t19 t20 t21 t22 t23 t24 : Sl) (n : Nat) {P : Post} (h : P.nx [t0, t1, t2, t3, t4, t5, .val (.int (n : Int)), t7, t8, t9, t10, t11, t12, t13, t14, t15, t16, t17, t18, .val (.int ((n + 2 : Nat) : Int)), t20, t21, t22, t23, t24]) : L_15 [t0, t1, t2, t3, t4, t5, .val (.int (n : Int)), t7, t8, t9, t10, t11, t12, t13, t14, t15, t16, t17, t18, t19, t20, t21, t22, t23, t24] P := h
theorem st16 (t0 t1 t2 t3 t4 t5 t6 t7 t8 t9 t10 t11 t12 t13 t14 t15 t16 t17 t18 t19 t20 t21 t22 t23 t24 : Sl)  {P : Post} (h : P.nx [t0, t1, t2, t3, t4, t5, t6, t7, t8, t9, t10, t11, t12, t13, t14, t15, t16, t17, t18, t19, .own (.list []), t21, t22, t23, t24]) : L_16 [t0, t1, t2, t3, t4, t5, t6, t7, t8, t9, t10, t11, t12, t13, t14, t15, t16, t17, t18, t19, t20, t21, t22, t23, t24] P := h
theorem st19 (t0 t1 t2 t3 t5 t7 t8 t9 t10 t11 t12 t13 t14 t15 t16 t17 t18 t19 t20 t21 t22 t23 t24 : Sl) (a : Int) (n : Nat) (hn : n ≤ 1000) {P : Post} (h : P.nx [t0, t1, t2, t3, .val (.int a), t5, .val (.int (n : Int)), t7, t8, t9, t10, t11, t12, t13, t14, t15, t16, t17, t18, t19, t20, t21, t22, .val (.tuple [.int (a.fdiv (shr a ((n : Int) + 1))), .int (((n : Int) + 1).fdiv (shr a ((n : Int) + 1)))]), t24]) : L_19 [t0, t1, t2, t3, .val (.int a), t5, .val (.int (n : Int)), t7, t8, t9, t10, t11, t12, t13, t14, t15, t16, t17, t18, t19, t20, t21, t22, t23, t24] P := p_law_ratio a ((n : Int) + 1) (by omega) (by omega) h
theorem st20 (t0 t1 t2 t3 t4 t6 t7 t8 t9 t10 t11 t12 t13 t14 t15 t16 t17 t18 t20 t21 t22 t23 t24 : Sl) (b : Int) (m : Nat) (hm : 1 ≤ m) (hm2 : m ≤ 1000) {P : Post} (h : P.nx [t0, t1, t2, t3, t4, .val (.int b), t6, t7, t8, t9, t10, t11, t12, t13, t14, t15, t16, t17, t18, .val (.int (m : Int)), t20, t21, t22, t23, .val (.tuple [.int (b.fdiv (shr b (m : Int))), .int ((m : Int).fdiv (shr b (m : Int)))])]) : L_20 [t0, t1, t2, t3, t4, .val (.int b), t6, t7, t8, t9, t10, t11, t12, t13, t14, t15, t16, t17, t18, .val (.int (m : Int)), t20, t21, t22, t23, t24] P := p_law_ratio b (m : Int) (by omega) (by omega) h
theorem nx_i {f : Ev → Prop} {r : D → Prop} {b c : Ev → Prop} {e : Ev → DX → Prop} {v : Ev} (h : f v) : ({ nx := f, rt := r, bk := b, ct := c, ex := e } : Post).nx v := h
theorem gn_i {i : Nat} {d : D} {v : Ev} {K : Ev → Prop} (h : K (v.set i (.val d))) : gN i d v K := h
theorem gcd4_eq (a b n d : Int) : (gcd4 a b n d : Int) = ((Int.gcd (Int.gcd a b : Int) (Int.gcd n d : Int) : Nat) : Int) := by
  unfold gcd4
  rw [Int.gcd_zero_left]
  simp only [gcd_natAbs, Int.natAbs_natCast]
  rw [Nat.gcd_assoc]
theorem law_plain (ns : List Int) (hl : ns.length ≤ 63) : ∀ (KK : D → Prop) (X : KX), KK (.bool true) → G_law [.list (ns.map .int)] KK X := by
  intro KK X hK
  unfold G_law d_law
  refine ⟨rfl, ⟨by decide, by decide⟩, ?_⟩
  refine forD_i (fun rest v => (∃ t1 t2 t3 t4 t5 t6 t7 t8 t9 t10 t11 t12 t13 t14 t15 t16 t17 t18 t19 t20 t21 t22 t23 t24, v = [.val (.list (ns.map .int)), t1, t2, t3, t4, t5, t6, t7, t8, t9, t10, t11, t12, t13, t14, t15, t16, t17, t18, t19, t20, t21, t22, t23, t24]) ∧ ∀ d ∈ rest, ∃ k : Nat, d = PyData.int k) ?_ ?_ _ _ ⟨⟨_, _, _, _, _, _, _, _, _, _, _, _, _, _, _, _, _, _, _, _, _, _, _, _, rfl⟩, ?_⟩
  · rintro d rest v N ⟨⟨t1, t2, t3, t4, t5, t6, t7, t8, t9, t10, t11, t12, t13, t14, t15, t16, t17, t18, t19, t20, t21, t22, t23, t24, rfl⟩, hr⟩ hN
    obtain ⟨k, rfl⟩ := hr d List.mem_cons_self
    refine gn_i ?_
    refine seq_i (st0 _ _ _ _ _ _ _ _ _ _ _ _ _ _ _ _ _ _ _ _ _ _ _  ns k fun c => ?_)
    refine nx_i (seq_i (st1 _ _ _ _ _ _ _ _ _ _ _ _ _ _ _ _ _ _ _ _ _ _ _ _  c fun p0 p1 p2 p3 a0 a1 b0 b1 c0 c1 d0 d1 => ?_))
    obtain ⟨n, rfl⟩ : ∃ n : Nat, p2 = n := ⟨p2.toNat, by omega⟩
    refine nx_i (seq_i (st2 _ _ _ _ _ _ _ _ _ _ _ _ _ _ _ _ _ _ _ _ _ _ _ _  p0 p1 n p3 ?_))
    refine nx_i (seq_i (st3 _ _ _ _ _ _ _ _ _ _ _ _ _ _ _ _ _ _ _ _ _ _ _ _  p0 p1 n p3 ?_))
    refine nx_i (seq_i (st4 _ _ _ _ _ _ _ _ _ _ _ _ _ _ _ _ _ _ _ _ _ _ _ _  p0 p1 n p3 ?_))
    have ha : (p0 - 400).natAbs ≤ 400 := by omega
    have hb : (p1 - 400).natAbs ≤ 400 := by omega
    generalize p0 - 400 = a at ha ⊢
    generalize p1 - 400 = b at hb ⊢
    refine nx_i (seq_i (c5 _ _ _ _ _ _ _ _ _ _ _ _ _ _ _ _ _ _ _ _ _  a b c n (by omega) (by omega) (by omega) ?_))
    refine nx_i (seq_i (st6 _ _ _ _ _ _ _ _ _ _ _ _ _ _ _ _ _ _ _ _ _  p0 p1 n p3 a b n ?_))
    refine nx_i (seq_i (st7 _ _ _ _ _ _ _ _ _ _ _ _ _ _ _ _ _ _ _ _ _  p0 p1 n p3 a b n (by omega) (by omega) (by omega) ?_))
    have hd : (6 * p3).natAbs ≤ 1000 := by omega
    generalize 6 * p3 = dd at hd ⊢
    refine nx_i (seq_i (st8 _ _ _ _ _ _ _ _ _ _ _ _ _ _ _ _ _ _ _ _ _ _ _ _  a b n dd (by omega) (by omega) (by omega) hd fun x1 x2 x3 x4 e => ?_))
    have g0 := gcd4_eq a b n dd
    have da : ((gcd4 a b n dd : Nat) : Int) ∣ a := by
      rw [g0]; exact Int.dvd_trans (Int.gcd_dvd_left _ _) (Int.gcd_dvd_left a b)
    have db : ((gcd4 a b n dd : Nat) : Int) ∣ b := by
      rw [g0]; exact Int.dvd_trans (Int.gcd_dvd_left _ _) (Int.gcd_dvd_right a b)
    have dn' : ((gcd4 a b n dd : Nat) : Int) ∣ (n : Int) := by
      rw [g0]; exact Int.dvd_trans (Int.gcd_dvd_right _ _) (Int.gcd_dvd_left (n : Int) dd)
    have ddd : ((gcd4 a b n dd : Nat) : Int) ∣ dd := by
      rw [g0]; exact Int.dvd_trans (Int.gcd_dvd_right _ _) (Int.gcd_dvd_right (n : Int) dd)
    rw [← g0]
    refine nx_i (seq_i (c9 _ _ _ _ _ _ _ _ _ _ _ _ _ _ _ _ _ _ _ _ _  a b n dd x1 x2 x3 x4 _ rfl (by omega) (by omega) (by omega) hd e da db dn' ddd ?_))
    refine nx_i (seq_i (st10 _ _ _ _ _ _ _ _ _ _ _ _ _ _ _ _ _ _ _ _ _ _ _ _ _  ?_))
    refine nx_i (seq_i (c11 _ _ _ _ _ _ _ _ _ _ _ _ _ _ _ _ _ _ _ _ _ _ _  a b n dd (by omega) (by omega) (by omega) hd ?_))
    refine nx_i (seq_i (c12 _ _ _ _ _ _ _ _ _ _ _ _ _ _ _ _ _ _ _ _ _ _ _  a b n dd (by omega) (by omega) (by omega) hd ?_))
    refine nx_i (seq_i (c13 _ _ _ _ _ _ _ _ _ _ _ _ _ _ _ _ _ _ _ _ _ _ _ _  n (by omega) fun t13 t14 t15 t16 => ?_))
    refine nx_i (seq_i (c14 _ _ _ _ _ _ _ _ _ _ _ _ _ _ _ _ _ _ _ _ _ _ _ _  a ha fun t17 => ?_))
    refine nx_i (seq_i (st15 _ _ _ _ _ _ _ _ _ _ _ _ _ _ _ _ _ _ _ _ _ _ _ _  n ?_))
    refine nx_i (seq_i (st16 _ _ _ _ _ _ _ _ _ _ _ _ _ _ _ _ _ _ _ _ _ _ _ _ _  ?_))
    refine nx_i (seq_i (c17 _ _ _ _ _ _ _ _ _ _ _ _ _ _ _ _ _ _ _ _ _ _ _  (n + 2) (by omega) (by omega) fun l t14 t21 t22 hg hin => ?_))
    refine nx_i (seq_i (c18 _ _ _ _ _ _ _ _ _ _ _ _ _ _ _ _ _ _ _ _ _ _ _  (n + 2) l (by omega) (by omega) hg hin ?_))
    refine nx_i (seq_i (st19 _ _ _ _ _ _ _ _ _ _ _ _ _ _ _ _ _ _ _ _ _ _ _  a n (by omega) ?_))
    refine nx_i (seq_i (st20 _ _ _ _ _ _ _ _ _ _ _ _ _ _ _ _ _ _ _ _ _ _ _  b (n + 2) (by omega) (by omega) ?_))
    obtain ⟨y0, y1, y2, y3⟩ := ratio_ok a ((n : Int) + 1) (by omega) (by omega)
    obtain ⟨w0, w1, w2, w3⟩ := ratio_ok b ((n + 2 : Nat) : Int) (by omega) (by omega)
    refine nx_i (seq_i (c21 _ _ _ _ _ _ _ _ _ _ _ _ _ _ _ _ _ _ _ _ _ _ _  _ _ _ _ y0 w0 (by omega) (by omega) (by omega) (by omega) y1 w1 ?_))
    refine nx_i (c22 _ _ _ _ _ _ _ _ _ _ _ _ _ _ _ _ _ _ _ _ _ _ _  _ _ _ _ y0 w0 (by omega) (by omega) (by omega) (by omega) y1 w1 ?_)
    exact hN _ ⟨⟨_, _, _, _, _, _, _, _, _, _, _, _, _, _, _, _, _, _, _, _, _, _, _, _, rfl⟩, fun d hd => hr d (List.mem_cons_of_mem _ hd)⟩
  · rintro v ⟨⟨t1, t2, t3, t4, t5, t6, t7, t8, t9, t10, t11, t12, t13, t14, t15, t16, t17, t18, t19, t20, t21, t22, t23, t24, rfl⟩, _⟩
    refine nx_i (seq_i ?_)
    refine told0 ?_
    refine ⟨⟨by decide +kernel, by decide +kernel⟩, ⟨by decide +kernel, by decide +kernel⟩, ?_⟩
    refine told1 ?_
    refine ⟨⟨by decide +kernel, by decide +kernel⟩, ⟨by decide +kernel, by decide +kernel⟩, ?_⟩
    refine told2 ?_
    refine ⟨⟨by decide +kernel, by decide +kernel⟩, ⟨by decide +kernel, by decide +kernel⟩, ?_⟩
    refine told3 ?_
    refine ⟨⟨by decide +kernel, by decide +kernel⟩, ⟨by decide +kernel, by decide +kernel⟩, ?_⟩
    refine told4 ?_
    refine ⟨⟨by decide +kernel, by decide +kernel⟩, ⟨by decide +kernel, by decide +kernel⟩, ?_⟩
    refine told5 ?_
    refine ⟨⟨by decide +kernel, by decide +kernel⟩, ⟨by decide +kernel, by decide +kernel⟩, ?_⟩
    refine told6 ?_
    refine ⟨⟨by decide +kernel, by decide +kernel⟩, ⟨by decide +kernel, by decide +kernel⟩, ?_⟩
    refine p_lcm_of0 ?_
    refine p_gcd_of0 ?_
    refine digits0 ?_
    exact ⟨⟨rfl, by decide⟩, ⟨rfl, by decide⟩, hK⟩
  · intro d hd
    obtain ⟨i, hi, rfl⟩ := List.mem_map.mp hd
    exact ⟨i, by show PyData.int _ = PyData.int _; congr 1; omega⟩
end Rw

set_option Elab.async false
set_option linter.all false
set_option maxRecDepth 100000
open PySem PySem.W PyProof.Rows
set_option maxHeartbeats 0 in
theorem PySem.Challenge.cw_ringweir_k00_division_holds : PySem.Challenge.rw_ringweir_k00_division.Holds := by
  w_on; o_law; k_head; (case hw => w_witness2)
  k_fill
  refine L2.walk_of (l := PySem.Challenge.rw_ringweir_k00_division) (n := 63) (k := 7) (x := "script") (CX := fun w => L2.CX PySem.Challenge.pw_ringweir_k00_division w) (sp := fun w => fun vs H Q E => ∀ cl, Rw.spD _ cl Rw.G_law vs H Q E) rfl (by decide) rfl ⟨rfl, by decide, by decide⟩ (fun w h Y => PySem.W.kIn_of Y) ?F (fun _ H a ns hl _ hS cl => Rw.law_start hS (Rw.law_plain ns hl)) (fun _ _ _ _ _ h => by obtain ⟨_, _, _, _, _, _, _, _, _, _, _, _, z⟩ := h; exact z.elim)
  case F =>
    intro w mg fa h KX G hmg
    refine' Rw.law_got hmg (Rw.all_defs KX G ?n_BadRatio ?n_NoDivision ?n_OutOfRange ?n_TooLarge ?n_RingError ?b_abs ?b_int ?b_isinstance ?b_len ?b_list ?b_max ?b_range ?b_sum ?b_tuple ?b_zip ?b_super ?c_BASES ?l_BASES ?c_MOST_BASE ?c_MOST_PARTED ?c_MOST_ROOT ?x_BadRatio ?nl_BadRatio ?x_NoDivision ?nl_NoDivision ?x_OutOfRange ?nl_OutOfRange ?nf_OutOfRange ?x_TooLarge ?nl_TooLarge ?bb_BadRatio ?cc_BadRatio ?tt_BadRatio ?bb_NoDivision ?cc_NoDivision ?tt_NoDivision ?bb_OutOfRange ?cc_OutOfRange ?tt_OutOfRange ?bb_TooLarge ?cc_TooLarge ?tt_TooLarge ?bb_RingError ?cc_RingError ?tt_RingError ?s_BadRatio_BadRatio ?s_BadRatio_NoDivision ?s_BadRatio_OutOfRange ?s_BadRatio_TooLarge ?s_BadRatio_RingError ?s_NoDivision_BadRatio ?s_NoDivision_NoDivision ?s_NoDivision_OutOfRange ?s_NoDivision_TooLarge ?s_NoDivision_RingError ?s_OutOfRange_BadRatio ?s_OutOfRange_NoDivision ?s_OutOfRange_OutOfRange ?s_OutOfRange_TooLarge ?s_OutOfRange_RingError ?s_TooLarge_BadRatio ?s_TooLarge_NoDivision ?s_TooLarge_OutOfRange ?s_TooLarge_TooLarge ?s_TooLarge_RingError ?s_RingError_BadRatio ?s_RingError_NoDivision ?s_RingError_OutOfRange ?s_RingError_TooLarge ?s_RingError_RingError ?ga_OutOfRange ?gg_OutOfRange ?hd_OutOfRange ?d_check_between ?d_check_from ?d_to_power ?d_sign_of ?d_common ?d_common_of ?d_multiple ?d_bezout ?d_power_mod ?d_times_of ?d_root_of_power ?d_square_root ?d_is_square_number ?d_is_strong ?d_is_prime_number ?d_parted ?d_lowest ?d_is_ratio ?d_check_ratio ?d_plus ?d_by ?d_is_below ?d_divide ?d_divides ?d_gcd ?d_gcd_paper ?d_gcd_steps ?d_gcd_of ?d_lcm_of ?d_gcd_row ?d_digits ?d_from_digits ?d_times_in ?d_root_below ?d_power_form ?d_is_square ?d_square_part ?d_ratio_sum ?d_ratio_times ?d_ratio_below ?d_check_gcd ?d__law_cell ?d__law_draw ?d__law_gcd ?d__law_ratio ?d__law_told ?d__law_divide ?d__law_pair ?d__law_one ?d_law)
    (case n_BadRatio => k_is)
    (case n_NoDivision => k_is)
    (case n_OutOfRange => k_is)
    (case n_TooLarge => k_is)
    (case n_RingError => k_is)
    (case b_abs => k_is)
    (case b_int => k_is)
    (case b_isinstance => k_is)
    (case b_len => k_is)
    (case b_list => k_is)
    (case b_max => k_is)
    (case b_range => k_is)
    (case b_sum => k_is)
    (case b_tuple => k_is)
    (case b_zip => k_is)
    (case b_super => k_is)
    (case c_BASES => k_is)
    (case l_BASES => k_is)
    (case c_MOST_BASE => k_is)
    (case c_MOST_PARTED => k_is)
    (case c_MOST_ROOT => k_is)
    (case x_BadRatio => (refine' Rw.xa_mk (P := PySem.Challenge.pw_ringweir_k00_division) ?aC ?xC ?sa ?eC ?tC ?kC ?iC ?tI ?lI ?cI ?lc ?hv ?hfile ?lcc ?mC ?xR ?fR ?sV ?opq ?top ?hb; (case aC => k_is); (case xC => k_is); (case sa => k_is); (case eC => k_is); (case tC => k_is); (case kC => k_is); (case iC => k_is); (case tI => k_is); (case lI => k_is); (case cI => k_is); (case lc => k_is); (case hv => rfl); (case hfile => decide +kernel); (case lcc => k_is); (case mC => k_is); (case xR => k_is); (case fR => k_is); (case sV => k_is); (case opq => k_is); (case top => decide +kernel); (case hb => exact fun _ _ _ _ _ _ _ us hl => match us, hl with | [_], _ => rfl)))
    (case nl_BadRatio => k_is)
    (case x_NoDivision => (refine' Rw.xa_mk (P := PySem.Challenge.pw_ringweir_k00_division) ?aC ?xC ?sa ?eC ?tC ?kC ?iC ?tI ?lI ?cI ?lc ?hv ?hfile ?lcc ?mC ?xR ?fR ?sV ?opq ?top ?hb; (case aC => k_is); (case xC => k_is); (case sa => k_is); (case eC => k_is); (case tC => k_is); (case kC => k_is); (case iC => k_is); (case tI => k_is); (case lI => k_is); (case cI => k_is); (case lc => k_is); (case hv => rfl); (case hfile => decide +kernel); (case lcc => k_is); (case mC => k_is); (case xR => k_is); (case fR => k_is); (case sV => k_is); (case opq => k_is); (case top => decide +kernel); (case hb => exact fun _ _ _ _ _ _ _ us hl => match us, hl with | [_], _ => rfl)))
    (case nl_NoDivision => k_is)
    (case x_OutOfRange => (refine' Rw.xa_mk (P := PySem.Challenge.pw_ringweir_k00_division) ?aC ?xC ?sa ?eC ?tC ?kC ?iC ?tI ?lI ?cI ?lc ?hv ?hfile ?lcc ?mC ?xR ?fR ?sV ?opq ?top ?hb; (case aC => k_is); (case xC => k_is); (case sa => k_is); (case eC => k_is); (case tC => k_is); (case kC => k_is); (case iC => k_is); (case tI => k_is); (case lI => k_is); (case cI => k_is); (case lc => k_is); (case hv => rfl); (case hfile => decide +kernel); (case lcc => k_is); (case mC => k_is); (case xR => k_is); (case fR => k_is); (case sV => k_is); (case opq => k_is); (case top => decide +kernel); (case hb => exact fun _ _ _ _ _ _ _ us hl => match us, hl with | [_, _], _ => rfl)))
    (case nl_OutOfRange => k_is)
    (case nf_OutOfRange => k_is)
    (case x_TooLarge => (refine' Rw.xa_mk (P := PySem.Challenge.pw_ringweir_k00_division) ?aC ?xC ?sa ?eC ?tC ?kC ?iC ?tI ?lI ?cI ?lc ?hv ?hfile ?lcc ?mC ?xR ?fR ?sV ?opq ?top ?hb; (case aC => k_is); (case xC => k_is); (case sa => k_is); (case eC => k_is); (case tC => k_is); (case kC => k_is); (case iC => k_is); (case tI => k_is); (case lI => k_is); (case cI => k_is); (case lc => k_is); (case hv => rfl); (case hfile => decide +kernel); (case lcc => k_is); (case mC => k_is); (case xR => k_is); (case fR => k_is); (case sV => k_is); (case opq => k_is); (case top => decide +kernel); (case hb => exact fun _ _ _ _ _ _ _ us hl => match us, hl with | [_], _ => rfl)))
    (case nl_TooLarge => k_is)
    (case bb_BadRatio => k_is)
    (case cc_BadRatio => k_is)
    (case tt_BadRatio => k_is)
    (case bb_NoDivision => k_is)
    (case cc_NoDivision => k_is)
    (case tt_NoDivision => k_is)
    (case bb_OutOfRange => k_is)
    (case cc_OutOfRange => k_is)
    (case tt_OutOfRange => k_is)
    (case bb_TooLarge => k_is)
    (case cc_TooLarge => k_is)
    (case tt_TooLarge => k_is)
    (case bb_RingError => k_is)
    (case cc_RingError => k_is)
    (case tt_RingError => k_is)
    (case s_BadRatio_BadRatio => k_is)
    (case s_BadRatio_NoDivision => k_is)
    (case s_BadRatio_OutOfRange => k_is)
    (case s_BadRatio_TooLarge => k_is)
    (case s_BadRatio_RingError => k_is)
    (case s_NoDivision_BadRatio => k_is)
    (case s_NoDivision_NoDivision => k_is)
    (case s_NoDivision_OutOfRange => k_is)
    (case s_NoDivision_TooLarge => k_is)
    (case s_NoDivision_RingError => k_is)
    (case s_OutOfRange_BadRatio => k_is)
    (case s_OutOfRange_NoDivision => k_is)
    (case s_OutOfRange_OutOfRange => k_is)
    (case s_OutOfRange_TooLarge => k_is)
    (case s_OutOfRange_RingError => k_is)
    (case s_TooLarge_BadRatio => k_is)
    (case s_TooLarge_NoDivision => k_is)
    (case s_TooLarge_OutOfRange => k_is)
    (case s_TooLarge_TooLarge => k_is)
    (case s_TooLarge_RingError => k_is)
    (case s_RingError_BadRatio => k_is)
    (case s_RingError_NoDivision => k_is)
    (case s_RingError_OutOfRange => k_is)
    (case s_RingError_TooLarge => k_is)
    (case s_RingError_RingError => k_is)
    (case ga_OutOfRange => k_is)
    (case gg_OutOfRange => k_is)
    (case hd_OutOfRange => k_is)
    (case d_check_between => (refine' Rw.fnAt_mk ?a ?l ?c ?k; (case a => k_is); (case l => k_is); (case c => k_is); (case k => k_is)))
    (case d_check_from => (refine' Rw.fnAt_mk ?a ?l ?c ?k; (case a => k_is); (case l => k_is); (case c => k_is); (case k => k_is)))
    (case d_to_power => (refine' Rw.fnAt_mk ?a ?l ?c ?k; (case a => k_is); (case l => k_is); (case c => k_is); (case k => k_is)))
    (case d_sign_of => (refine' Rw.fnAt_mk ?a ?l ?c ?k; (case a => k_is); (case l => k_is); (case c => k_is); (case k => k_is)))
    (case d_common => (refine' Rw.fnAt_mk ?a ?l ?c ?k; (case a => k_is); (case l => k_is); (case c => k_is); (case k => k_is)))
    (case d_common_of => (refine' Rw.fnAt_mk ?a ?l ?c ?k; (case a => k_is); (case l => k_is); (case c => k_is); (case k => k_is)))
    (case d_multiple => (refine' Rw.fnAt_mk ?a ?l ?c ?k; (case a => k_is); (case l => k_is); (case c => k_is); (case k => k_is)))
    (case d_bezout => (refine' Rw.fnAt_mk ?a ?l ?c ?k; (case a => k_is); (case l => k_is); (case c => k_is); (case k => k_is)))
    (case d_power_mod => (refine' Rw.fnAt_mk ?a ?l ?c ?k; (case a => k_is); (case l => k_is); (case c => k_is); (case k => k_is)))
    (case d_times_of => (refine' Rw.fnAt_mk ?a ?l ?c ?k; (case a => k_is); (case l => k_is); (case c => k_is); (case k => k_is)))
    (case d_root_of_power => (refine' Rw.fnAt_mk ?a ?l ?c ?k; (case a => k_is); (case l => k_is); (case c => k_is); (case k => k_is)))
    (case d_square_root => (refine' Rw.fnAt_mk ?a ?l ?c ?k; (case a => k_is); (case l => k_is); (case c => k_is); (case k => k_is)))
    (case d_is_square_number => (refine' Rw.fnAt_mk ?a ?l ?c ?k; (case a => k_is); (case l => k_is); (case c => k_is); (case k => k_is)))
    (case d_is_strong => (refine' Rw.fnAt_mk ?a ?l ?c ?k; (case a => k_is); (case l => k_is); (case c => k_is); (case k => k_is)))
    (case d_is_prime_number => (refine' Rw.fnAt_mk ?a ?l ?c ?k; (case a => k_is); (case l => k_is); (case c => k_is); (case k => k_is)))
    (case d_parted => (refine' Rw.fnAt_mk ?a ?l ?c ?k; (case a => k_is); (case l => k_is); (case c => k_is); (case k => k_is)))
    (case d_lowest => (refine' Rw.fnAt_mk ?a ?l ?c ?k; (case a => k_is); (case l => k_is); (case c => k_is); (case k => k_is)))
    (case d_is_ratio => (refine' Rw.fnAt_mk ?a ?l ?c ?k; (case a => k_is); (case l => k_is); (case c => k_is); (case k => k_is)))
    (case d_check_ratio => (refine' Rw.fnAt_mk ?a ?l ?c ?k; (case a => k_is); (case l => k_is); (case c => k_is); (case k => k_is)))
    (case d_plus => (refine' Rw.fnAt_mk ?a ?l ?c ?k; (case a => k_is); (case l => k_is); (case c => k_is); (case k => k_is)))
    (case d_by => (refine' Rw.fnAt_mk ?a ?l ?c ?k; (case a => k_is); (case l => k_is); (case c => k_is); (case k => k_is)))
    (case d_is_below => (refine' Rw.fnAt_mk ?a ?l ?c ?k; (case a => k_is); (case l => k_is); (case c => k_is); (case k => k_is)))
    (case d_divide => (refine' Rw.fnAt_mk ?a ?l ?c ?k; (case a => k_is); (case l => k_is); (case c => k_is); (case k => k_is)))
    (case d_divides => (refine' Rw.fnAt_mk ?a ?l ?c ?k; (case a => k_is); (case l => k_is); (case c => k_is); (case k => k_is)))
    (case d_gcd => (refine' Rw.fnAt_mk ?a ?l ?c ?k; (case a => k_is); (case l => k_is); (case c => k_is); (case k => k_is)))
    (case d_gcd_paper => (refine' Rw.fnAt_mk ?a ?l ?c ?k; (case a => k_is); (case l => k_is); (case c => k_is); (case k => k_is)))
    (case d_gcd_steps => (refine' Rw.fnAt_mk ?a ?l ?c ?k; (case a => k_is); (case l => k_is); (case c => k_is); (case k => k_is)))
    (case d_gcd_of => (refine' Rw.fnAt_mk ?a ?l ?c ?k; (case a => k_is); (case l => k_is); (case c => k_is); (case k => k_is)))
    (case d_lcm_of => (refine' Rw.fnAt_mk ?a ?l ?c ?k; (case a => k_is); (case l => k_is); (case c => k_is); (case k => k_is)))
    (case d_gcd_row => (refine' Rw.fnAt_mk ?a ?l ?c ?k; (case a => k_is); (case l => k_is); (case c => k_is); (case k => k_is)))
    (case d_digits => (refine' Rw.fnAt_mk ?a ?l ?c ?k; (case a => k_is); (case l => k_is); (case c => k_is); (case k => k_is)))
    (case d_from_digits => (refine' Rw.fnAt_mk ?a ?l ?c ?k; (case a => k_is); (case l => k_is); (case c => k_is); (case k => k_is)))
    (case d_times_in => (refine' Rw.fnAt_mk ?a ?l ?c ?k; (case a => k_is); (case l => k_is); (case c => k_is); (case k => k_is)))
    (case d_root_below => (refine' Rw.fnAt_mk ?a ?l ?c ?k; (case a => k_is); (case l => k_is); (case c => k_is); (case k => k_is)))
    (case d_power_form => (refine' Rw.fnAt_mk ?a ?l ?c ?k; (case a => k_is); (case l => k_is); (case c => k_is); (case k => k_is)))
    (case d_is_square => (refine' Rw.fnAt_mk ?a ?l ?c ?k; (case a => k_is); (case l => k_is); (case c => k_is); (case k => k_is)))
    (case d_square_part => (refine' Rw.fnAt_mk ?a ?l ?c ?k; (case a => k_is); (case l => k_is); (case c => k_is); (case k => k_is)))
    (case d_ratio_sum => (refine' Rw.fnAt_mk ?a ?l ?c ?k; (case a => k_is); (case l => k_is); (case c => k_is); (case k => k_is)))
    (case d_ratio_times => (refine' Rw.fnAt_mk ?a ?l ?c ?k; (case a => k_is); (case l => k_is); (case c => k_is); (case k => k_is)))
    (case d_ratio_below => (refine' Rw.fnAt_mk ?a ?l ?c ?k; (case a => k_is); (case l => k_is); (case c => k_is); (case k => k_is)))
    (case d_check_gcd => (refine' Rw.fnAt_mk ?a ?l ?c ?k; (case a => k_is); (case l => k_is); (case c => k_is); (case k => k_is)))
    (case d__law_cell => (refine' Rw.fnAt_mk ?a ?l ?c ?k; (case a => k_is); (case l => k_is); (case c => k_is); (case k => k_is)))
    (case d__law_draw => (refine' Rw.fnAt_mk ?a ?l ?c ?k; (case a => k_is); (case l => k_is); (case c => k_is); (case k => k_is)))
    (case d__law_gcd => (refine' Rw.fnAt_mk ?a ?l ?c ?k; (case a => k_is); (case l => k_is); (case c => k_is); (case k => k_is)))
    (case d__law_ratio => (refine' Rw.fnAt_mk ?a ?l ?c ?k; (case a => k_is); (case l => k_is); (case c => k_is); (case k => k_is)))
    (case d__law_told => (refine' Rw.fnAt_mk ?a ?l ?c ?k; (case a => k_is); (case l => k_is); (case c => k_is); (case k => k_is)))
    (case d__law_divide => (refine' Rw.fnAt_mk ?a ?l ?c ?k; (case a => k_is); (case l => k_is); (case c => k_is); (case k => k_is)))
    (case d__law_pair => (refine' Rw.fnAt_mk ?a ?l ?c ?k; (case a => k_is); (case l => k_is); (case c => k_is); (case k => k_is)))
    (case d__law_one => (refine' Rw.fnAt_mk ?a ?l ?c ?k; (case a => k_is); (case l => k_is); (case c => k_is); (case k => k_is)))
    (case d_law => (refine' Rw.fnAt_mk ?a ?l ?c ?k; (case a => k_is); (case l => k_is); (case c => k_is); (case k => k_is)))

