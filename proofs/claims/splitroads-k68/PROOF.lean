import PyProof.Rows.All
import Wide.All
import OpenK.AllK
import Wide.FinOn
import HandS.ForMost
import HandS.Gcd
import HandS.Wide
import HandS.Zip
import HandS.Walk
import HandS.TupSets
import PyProof.ReprRoads
import KE.SortData
import HandS.TupAny
import HandS.Style
import HandS.TupLe
import HandS.Deep
import HandS.RaiseMore
import HandS.TupMul
import HandS.SortInts
import KE.DataMinMax
import HandS.IsInst
import KE.GoesMore
import HandS.Conv
import HandS.NoneIn
import HandS.Words
import HandS.EndBits
import PySem.Challenge.RW_splitroads_k68_whole_enough_and_lowered
set_option Elab.async false
set_option linter.all false
set_option maxRecDepth 100000
namespace Rf
open PySem PySem.Spec PyProof.Rows L2

/-! ### pure data -/
inductive D where
  | non | bl (b : Bool) | int (i : Int) | str (x : Str) | tup (ds : List D) | lst (ds : List D)
  deriving Inhabited

mutual
def D.py : D → PyData
  | .non => .none
  | .bl b => .bool b
  | .int i => .int i
  | .str x => .str x
  | .tup ds => .tuple (D.pys ds)
  | .lst ds => .list (D.pys ds)
def D.pys : List D → List PyData
  | [] => []
  | d :: ds => d.py :: D.pys ds
end

mutual
/-- == -/
def D.eq : D → D → Bool
  | .non, .non => true
  | .bl a, .bl b => a == b
  | .bl a, .int j => (if a then 1 else 0) == j
  | .int i, .bl b => i == (if b then 1 else 0)
  | .int i, .int j => decide (i = j)
  | .str x, .str y => decide (x = y)
  | .tup xs, .tup ys => D.eqs xs ys
  | .lst xs, .lst ys => D.eqs xs ys
  | _, _ => false
def D.eqs : List D → List D → Bool
  | [], [] => true
  | x :: xs, y :: ys => D.eq x y && D.eqs xs ys
  | _, _ => false
end
mutual
/-- the same datum -/
def D.same : D → D → Bool
  | .non, .non => true
  | .bl a, .bl b => a == b
  | .int i, .int j => decide (i = j)
  | .str x, .str y => decide (x = y)
  | .tup xs, .tup ys => D.sames xs ys
  | .lst xs, .lst ys => D.sames xs ys
  | _, _ => false
def D.sames : List D → List D → Bool
  | [], [] => true
  | x :: xs, y :: ys => D.same x y && D.sames xs ys
  | _, _ => false
end
mutual
theorem D.same_self : ∀ d : D, d.same d = true
  | .non => rfl
  | .bl b => by simp [D.same]
  | .int i => by simp [D.same]
  | .str x => by simp [D.same]
  | .tup ds => by simp only [D.same]; exact D.sames_self ds
  | .lst ds => by simp only [D.same]; exact D.sames_self ds
theorem D.sames_self : ∀ ds : List D, D.sames ds ds = true
  | [] => rfl
  | d :: ds => by simp [D.sames, D.same_self d, D.sames_self ds]
end
mutual
theorem D.of_same : ∀ {d e : D}, d.same e = true → d = e
  | .non, e, h => by cases e <;> simp_all [D.same]
  | .bl b, e, h => by cases e <;> simp_all [D.same]
  | .int i, e, h => by cases e <;> simp_all [D.same]
  | .str x, e, h => by cases e <;> simp_all [D.same]
  | .tup ds, e, h => by
    cases e with
    | tup es => simp only [D.same] at h; rw [D.of_sames h]
    | _ => simp [D.same] at h
  | .lst ds, e, h => by
    cases e with
    | lst es => simp only [D.same] at h; rw [D.of_sames h]
    | _ => simp [D.same] at h
theorem D.of_sames : ∀ {ds es : List D}, D.sames ds es = true → ds = es
  | [], [], _ => rfl
  | [], _ :: _, h => by simp [D.sames] at h
  | _ :: _, [], h => by simp [D.sames] at h
  | d :: ds, e :: es, h => by
    simp only [D.sames, Bool.and_eq_true] at h
    rw [D.of_same h.1, D.of_sames h.2]
end

/-! ### the store, results -/
/-- what a name holds: a datum, a cell, a range, a cell's row -/
inductive RV where
  | d (d : D) | c (n : Nat) | g (i j : Int) | r (n i : Nat)
/-- an item of a list that holds lists of its own -/
inductive MX where
  | a (d : D) | l (ds : List D)
def MX.dat : MX → D
  | .a y => y
  | .l ds => .lst ds
/-- a list of data, a list that is frozen, a list that holds lists of its own -/
inductive Cell where
  | lst (ds : List D)
  | fz (ds : List D)
  | mx (es : List MX)
abbrev Store := List Cell
/-- what an expression gives: a datum, a cell, a fresh list, a fresh list of lists, a range, a row -/
inductive RX where
  | d (d : D) | c (n : Nat) | f (ds : List D) | fm (es : List MX) | g (i j : Int) | r (n i : Nat) | tc (d0 : D) (n : Nat) | tf (d0 : D) (ds : List D)
structure Exn where
  cls : Str
  flds : List (Str × D)
inductive Res (α : Type) where
  | ok (a : α) (S : Store)
  | exc (x : Exn) (S : Store)
  | stuck
def Res.bind {α β : Type} : Res α → (α → Store → Res β) → Res β
  | .ok a S, k => k a S
  | .exc x S, _ => .exc x S
  | .stuck, _ => .stuck
abbrev Env := List (Option RV)
abbrev Mir := List RV → Store → Res RX

@[simp] theorem Res.bind_ok {α β : Type} (a : α) (S : Store) (k : α → Store → Res β) : (Res.ok a S).bind k = k a S := rfl
@[simp] theorem Res.bind_exc {α β : Type} (a : Exn) (S : Store) (k : α → Store → Res β) : (Res.exc a S : Res α).bind k = .exc a S := rfl
@[simp] theorem Res.bind_stuck {α β : Type} (k : α → Store → Res β) : (Res.stuck : Res α).bind k = .stuck := rfl

/-- what a cell of data holds -/
def cellAt (S : Store) (n : Nat) : Option (List D) := match S[n]? with
  | some (.lst ds) => some ds
  | some (.fz ds) => some ds
  | _ => none
/-- what a cell of lists holds -/
def mxAt (S : Store) (n : Nat) : Option (List MX) := match S[n]? with
  | some (.mx es) => some es
  | _ => none
/-- a row -/
def rowAt (S : Store) (n i : Nat) : Option (List D) := (mxAt S n).bind fun es => match es[i]? with
  | some (.l ds) => some ds
  | _ => none
/-- the datum that is read -/
def rdV (S : Store) : RV → Option D
  | .d d => some d
  | .c n => (cellAt S n).map .lst
  | .g _ _ => none
  | .r n i => (rowAt S n i).map .lst
def rdVs (S : Store) : List RV → Option (List D)
  | [] => some []
  | v :: vs => (rdV S v).bind fun x => (rdVs S vs).map (x :: ·)
/-- the datum that is looked at, whole, at once -/
def rdW (S : Store) : RV → Option D
  | .c n => match S[n]? with
    | some (.lst ds) => some (.lst ds)
    | some (.fz ds) => some (.lst ds)
    | some (.mx es) => some (.lst (es.map MX.dat))
    | none => none
  | v => rdV S v
def rdWs (S : Store) : List RV → Option (List D)
  | [] => some []
  | v :: vs => (rdW S v).bind fun x => (rdWs S vs).map (x :: ·)
/-- how a result is kept -/
inductive Md where
  | dat | cel | rd | mxl
def conv (m : Md) (r : RX) (S : Store) : Res RV := match m, r with
  | _, .d d => .ok (.d d) S
  | _, .g i j => .ok (.g i j) S
  | .cel, .f ds => .ok (.c S.length) (S ++ [.lst ds])
  | .mxl, .f ds => .ok (.c S.length) (S ++ [.mx (ds.map .a)])
  | _, .f ds => .ok (.d (.lst ds)) S
  | .cel, .fm es => .ok (.c S.length) (S ++ [.mx es])
  | .mxl, .fm es => .ok (.c S.length) (S ++ [.mx es])
  | _, .fm es => .ok (.d (.lst (es.map MX.dat))) S
  | _, .tf d0 ds => .ok (.d (.tup [d0, .lst ds])) S
  | _, .tc _ _ => .stuck
  | .dat, .c n => match S[n]? with
    | some (.lst ds) => .ok (.d (.lst ds)) (S.set n (.fz ds))
    | some (.fz ds) => .ok (.d (.lst ds)) S
    | some (.mx es) => .ok (.d (.lst (es.map MX.dat))) (S.set n (.fz (es.map MX.dat)))
    | none => .stuck
  | _, .c n => .ok (.c n) S
  | .dat, .r _ _ => .stuck
  | _, .r n i => .ok (.r n i) S

/-! ### operations on data -/
def line : Nat := 16777216
def mulOk (i j : Int) : Bool := decide (i.natAbs < 18446744073709551616) || decide (j.natAbs < 18446744073709551616) || decide (i.natAbs.log2 + j.natAbs.log2 < 1000000)
def repD (ds : List D) (k : Int) : List D := (List.replicate k.toNat ds).flatten
def binD : Operator → D → D → Option RX
  | .Add, .int i, .int j => some (.d (.int (i + j)))
  | .Add, .str x, .str y => if x.length + y.length ≤ line then some (.d (.str (x ++ y))) else none
  | .Add, .tup xs, .tup ys => if xs.length + ys.length ≤ line then some (.d (.tup (xs ++ ys))) else none
  | .Add, .lst xs, .lst ys => if xs.length + ys.length ≤ line then some (.f (xs ++ ys)) else none
  | .Sub, .int i, .int j => some (.d (.int (i - j)))
  | .Mult, .int i, .int j => if mulOk i j then some (.d (.int (i * j))) else none
  | .Mult, .lst xs, .int k => if -9223372036854775808 ≤ k ∧ k < 9223372036854775808 ∧ xs.length * k.toNat ≤ line then some (.f (repD xs k)) else none
  | .Mult, .tup xs, .int k => if xs ≠ [] ∧ 2 ≤ k ∧ k ≤ 1000 ∧ xs.length ≤ 1000 then some (.d (.tup (repD xs k))) else none
  | .FloorDiv, .int i, .int j => if j ≠ 0 ∧ j.natAbs.log2 < 9000 then some (.d (.int (i.fdiv j))) else none
  | .Mod, .int i, .int j => if j ≠ 0 then some (.d (.int (i.fmod j))) else none
  | .Pow, .int i, .int j => if 0 ≤ j ∧ j ≤ 1000000 ∧ i.natAbs < 18446744073709551616 then some (.d (.int (i ^ j.toNat))) else none
  | _, _, _ => none

mutual
def D.okc : D → Bool
  | .str x => PyData.strOk x
  | .tup ds => D.okcs ds
  | .lst ds => D.okcs ds
  | _ => true
def D.okcs : List D → Bool
  | [] => true
  | d :: ds => d.okc && D.okcs ds
end
mutual
def D.dep : D → Nat
  | .tup ds => D.deps ds + 1
  | .lst ds => D.deps ds + 1
  | _ => 0
def D.deps : List D → Nat
  | [] => 0
  | d :: ds => max d.dep (D.deps ds)
end
mutual
/-- there is no list in it -/
def D.nol : D → Bool
  | .non | .bl _ | .int _ | .str _ => true
  | .tup ds => D.nols ds
  | .lst _ => false
def D.nols : List D → Bool
  | [] => true
  | d :: ds => d.nol && D.nols ds
end
def D.scal : D → Bool
  | .non | .bl _ | .int _ | .str _ => true
  | _ => false
/-- == may be asked -/
def eqOk (a b : D) : Bool := (a.scal && b.scal) || (a.okc && b.okc && decide (a.dep ≤ 64) && decide (b.dep ≤ 64))
def intsOf : List D → Option (List Int)
  | [] => some []
  | .int i :: r => (intsOf r).map (i :: ·)
  | _ :: _ => none
def bls : List D → Option (List Bool)
  | [] => some []
  | .bl i :: r => (bls r).map (i :: ·)
  | _ :: _ => none
def strL : List D → Option (List Str)
  | [] => some []
  | .str i :: r => (strL r).map (i :: ·)
  | _ :: _ => none
def D.flat : D → Bool
  | .non | .bl _ | .int _ | .str _ => true
  | _ => false
def memD (x : D) (xs : List D) : Bool := xs.any fun y => D.eq y x
def memOk (x : D) (xs : List D) : Bool := (x.flat && xs.all D.flat)
def deepOk (x : D) (xs : List D) : Bool := x.okc && D.okcs xs && decide (x.dep ≤ 64) && decide (D.deps xs < 64)
def cmpD : CmpOp → D → D → Option Bool
  | .Lt, .int i, .int j => some (decide (i < j))
  | .LtE, .int i, .int j => some (decide (i ≤ j))
  | .Gt, .int i, .int j => some (decide (j < i))
  | .GtE, .int i, .int j => some (decide (j ≤ i))
  | .Eq, a, b => if eqOk a b then some (D.eq a b) else none
  | .NotEq, a, b => if eqOk a b then some (!D.eq a b) else none
  | .Lt, .tup xs, .tup ys => match intsOf xs, intsOf ys with
    | some a, some b => some (HT.lexLt a b)
    | _, _ => none
  | .Lt, .str x, .str y => some (decide (x.cps.toList < y.cps.toList))
  | .Is, .bl a, .bl b => some (decide (a = b))
  | .IsNot, .bl a, .bl b => some (!decide (a = b))
  | .Is, a, .non => some (match a with | .non => true | _ => false)
  | .IsNot, a, .non => some (match a with | .non => false | _ => true)
  | .In, x, .lst xs => if memOk x xs || deepOk x xs then some (memD x xs) else none
  | .In, x, .tup xs => if memOk x xs then some (memD x xs) else none
  | .In, .str x, .str y => some (!(Builtin.Str.occurrences y x 0 y.length 1).isEmpty)
  | .NotIn, x, .lst xs => if memOk x xs || deepOk x xs then some (!memD x xs) else none
  | .NotIn, x, .tup xs => if memOk x xs then some (!memD x xs) else none
  | .NotIn, .str x, .str y => some (!(!(Builtin.Str.occurrences y x 0 y.length 1).isEmpty))
  | _, _, _ => none
/-- x[i] -/
def idxD : D → D → Option D
  | .lst xs, .int i => atI xs i
  | .tup xs, .int i => atI xs i
  | .str z, .int i => if z.length ≤ line then (atI z.cps.toList i).map fun c => .str ⟨#[c]⟩ else none
  | _, _ => none
def cutD (xs : List D) (lo hi : Option Int) : List D := (xs.drop (HT.sIx xs.length 0 lo)).take (HT.sIx xs.length xs.length hi - HT.sIx xs.length 0 lo)
def partD : Option D → Option (Option Int)
  | none => some none
  | some (.int i) => some (some i)
  | some _ => none
def sliceD : D → Option Int → Option Int → Option RX
  | .lst xs, lo, hi => some (.f (cutD xs lo hi))
  | .tup xs, lo, hi => some (.d (.tup (cutD xs lo hi)))
  | .str z, lo, hi => if z.length ≤ line then some (.d (.str (cutS z lo hi))) else none
  | _, _, _ => none
def revD : D → Option RX
  | .lst xs => some (.f xs.reverse)
  | .tup xs => some (.d (.tup xs.reverse))
  | _ => none

inductive Ty where
  | int | bool | str | list | tuple
  deriving DecidableEq
def isD : D → Ty → Bool
  | .bl _, .bool => true
  | .bl _, .int => true
  | .int _, .int => true
  | .str _, .str => true
  | .tup _, .tuple => true
  | .lst _, .list => true
  | _, _ => false

/-- built-in functions on data -/
inductive Bf where
  | len | abs | int | max2 | min2 | maxL | minL | sum | all | any | tuple | list | repr | gcd | divmod | sorted | str
  deriving DecidableEq
mutual
/-- a bound of a repr's length -/
def D.wt : D → Nat
  | .non => 8
  | .bl _ => 8
  | .int _ => 2000
  | .str x => 12 * x.length + 8
  | .tup ds => D.wts ds + 8
  | .lst ds => D.wts ds + 8
def D.wts : List D → Nat
  | [] => 0
  | d :: ds => d.wt + 2 + D.wts ds
end
mutual
/-- its ints are below 2 ^ 1920 -/
def D.shw : D → Bool
  | .int i => decide (i.natAbs.log2 < 1920)
  | .tup ds => D.shws ds
  | .lst ds => D.shws ds
  | _ => true
def D.shws : List D → Bool
  | [] => true
  | d :: ds => d.shw && D.shws ds
end
/-- its repr may be asked -/
def D.rpOk (d : D) : Bool := d.okc && d.shw && decide (d.dep ≤ 64) && decide (d.wt ≤ line)
def maxI : List Int → Int
  | [] => 0
  | x :: r => r.foldl (fun a b => if b > a then b else a) x
def minI : List Int → Int
  | [] => 0
  | x :: r => r.foldl (fun a b => if b < a then b else a) x
def insI (x : Int) : List Int → List Int
  | [] => [x]
  | y :: r => if x ≤ y then x :: y :: r else y :: insI x r
def sortI : List Int → List Int
  | [] => []
  | x :: r => insI x (sortI r)
def tupsOf : List D → Option (List (List Int))
  | [] => some []
  | .tup ds :: r => (intsOf ds).bind fun n => (tupsOf r).map (n :: ·)
  | _ :: _ => none
/-- tuples of ints, sorted by their code -/
def tBd : Int := 1048576
def insT (x : List Int) : List (List Int) → List (List Int)
  | [] => [x]
  | y :: r => if TS.code tBd x ≤ TS.code tBd y then x :: y :: r else y :: insT x r
def sortT : List (List Int) → List (List Int)
  | [] => []
  | x :: r => insT x (sortT r)
def tOk : List (List Int) → Bool
  | [] => false
  | n :: r => decide (1 ≤ n.length) && decide ((n :: r).length < 64) && (n :: r).all fun m => decide (m.length = n.length) && m.all fun z => decide (0 ≤ z) && decide (z < tBd)
def tupD (n : List Int) : D := .tup (n.map .int)
mutual
def D.ak : D → D → Bool
  | .int _, .int _ => true
  | .str _, .str _ => true
  | .tup xs, .tup ys => D.aks xs ys
  | .lst xs, .lst ys => D.aks xs ys
  | _, _ => false
def D.aks : List D → List D → Bool
  | x :: xs, y :: ys => D.ak x y && D.aks xs ys
  | [], _ => true
  | _ :: _, [] => true
end
mutual
def D.lt : D → D → Bool
  | .int i, .int j => decide (i < j)
  | .str x, .str y => decide (x.cps.toList < y.cps.toList)
  | .tup xs, .tup ys => D.lts xs ys
  | .lst xs, .lst ys => D.lts xs ys
  | _, _ => false
def D.lts : List D → List D → Bool
  | [], [] => false
  | [], _ :: _ => true
  | _ :: _, [] => false
  | x :: xs, y :: ys => if D.eq x y then D.lts xs ys else D.lt x y
end
def D.le (a b : D) : Bool := !D.lt b a
def D.tup1 : D → Bool
  | .tup (_ :: _) => true
  | _ => false
def D.ntup : D → Bool
  | .tup _ => false
  | .non => false
  | _ => true
def D.isNon : D → Bool
  | .non => true
  | _ => false
def gOk (xs : List D) : Bool := (xs.all fun a => xs.all fun b => D.ak a b) && (xs.all D.tup1 || xs.all D.ntup || (decide (xs.length ≤ 1) && xs.all fun d => !d.isNon)) && xs.all fun a => decide (a.dep ≤ 64)

/-- how many unlike ints -/
def dcnt (ns : List Int) : Nat := (PyProof.Rows.firstMet (fun i => ns.getD i 0) ns.length).length
/-- the first of the least of any data of one kind -/
def mOk (xs : List D) : Bool := (xs.all fun a => xs.all fun b => D.ak a b) && xs.all fun a => decide (a.dep ≤ 64)
def minDD (x : D) (xs : List D) : D := xs.foldl (fun a y => if D.lt y a then y else a) x
def minG : List D → Option RX
  | [] => none
  | x :: xs => if mOk (x :: xs) then some (.d (minDD x xs)) else none
/-- any data of one kind, sorted -/
def sortG (xs : List D) : Option RX := if gOk xs then some (.f (xs.mergeSort D.le)) else none
def itemsD : D → Option (List D)
  | .lst xs => some xs
  | .tup xs => some xs
  | _ => none
def bltD : Bf → List D → Option RX
  | .len, [.lst xs] => some (.d (.int xs.length))
  | .len, [.tup xs] => some (.d (.int xs.length))
  | .len, [.str x] => if x.length ≤ line then some (.d (.int x.length)) else none
  | .abs, [.int i] => some (.d (.int (if i < 0 then -i else i)))
  | .int, [.int i] => some (.d (.int i))
  | .int, [.bl b] => some (.d (.int (if b then 1 else 0)))
  | .int, [.str x] => match PySem.intText? x with
    | some n => if x.length ≤ 640 then some (.d (.int n)) else none
    | none => none
  | .max2, [.int i, .int j] => some (.d (.int (if j > i then j else i)))
  | .min2, [.int i, .int j] => some (.d (.int (if j < i then j else i)))
  | .maxL, [.lst xs] => match intsOf xs with
    | some (n :: ns) => some (.d (.int (maxI (n :: ns))))
    | _ => none
  | .minL, [.lst xs] => match intsOf xs with
    | some (n :: ns) => some (.d (.int (minI (n :: ns))))
    | _ => minG xs
  | .sum, [.lst xs] => (intsOf xs).map fun ns => .d (.int ns.sum)
  | .all, [.lst xs] => (bls xs).map fun bs => .d (.bl (bs.all id))
  | .any, [.lst xs] => (bls xs).map fun bs => .d (.bl (bs.any id))
  | .tuple, [.lst xs] => some (.d (.tup xs))
  | .tuple, [.tup xs] => some (.d (.tup xs))
  | .list, [.lst xs] => some (.f xs)
  | .list, [.tup xs] => some (.f xs)
  | .repr, [d] => if d.rpOk then some (.d (.str d.py.shown)) else none
  | .gcd, [.int a, .int b] => some (.d (.int ((Nat.gcd a.natAbs b.natAbs : Nat) : Int)))
  | .divmod, [.int i, .int j] => if 0 < j ∧ j < 1073741824 then some (.d (.tup [.int (i / j), .int (i % j)])) else none
  | .sorted, [.lst xs] => match intsOf xs with
    | some ns => some (.f ((sortI ns).map .int))
    | none => (match tupsOf xs with
      | some tss => if tOk tss then some (.f ((sortT tss).map tupD)) else sortG xs
      | none => sortG xs)
  | .str, [.int i] => if i.natAbs.log2 < 1920 then some (.d (.str (toString i))) else none
  | _, _ => none
/-- methods of data -/
inductive Mf where
  | split | join | index | count
  deriving DecidableEq
def mthD : Mf → D → List D → Option RX
  | .split, .str x, [.str y] => if y.length ≠ 0 ∧ x.length + 2 ≤ line then some (.f ((Txt.split x y).map .str)) else none
  | .join, .str x, [.lst ys] => match strL ys with
    | some zs => if (zs.map (·.length)).sum + zs.length * x.length ≤ line then some (.d (.str (Txt.join x zs))) else none
    | none => none
  | _, _, _ => none

/-! ### the small language -/
mutual
/-- a target: a name, targets in brackets -/
inductive Tg where
  | n (i : Nat) | t (ts : Tgs)
inductive Tgs where
  | nil | cons (t : Tg) (ts : Tgs)
end
mutual
inductive E where
  | var (i : Nat)
  | lit (d : D)
  | con (k : Nat)
  | tup (es : Es)
  | lst (es : Es)
  | bin (op : Operator) (a b : E)
  | neg (a : E)
  | nt (a : E)
  | cmp (op : CmpOp) (a b : E)
  | ch2 (o1 o2 : CmpOp) (a b c : E)
  | ch3 (o1 o2 o3 : CmpOp) (a b c d : E)
  | and (a b : E)
  | or (a b : E)
  | ite (c a b : E)
  | idx (a i : E)
  | sl (a : E) (lo hi : Eo)
  | rev (a : E)
  | call (f : Nat) (es : Es)
  | kall (f : Nat) (ps ks : Es) (perm : List Nat)
  | blt (f : Bf) (es : Es)
  | mth (m : Mf) (o : E) (es : Es)
  | pop (i : Nat)
  | isi (a : E) (ts : List Ty)
  | nev
  | comp (elt : E) (tg : Tg) (it : I) (cond : Eo) (own : List Nat)
  | compx (elt : E) (tg : Tg) (it : I) (cond : Eo) (own : List Nat)
  | lsx (es : Es)
  | rngv (es : Es)
  | lrng (es : Es)
  | trng (es : Es)
  | ixo (o x : E)
  | pk (f : Nat) (es : Es)
  | frz (e : E)
  | slen (e : E)
  | tpc (es : Es)
  | tix (e : E)
inductive Eo where
  | no | yes (e : E)
inductive Es where
  | nil | cons (m : Md) (e : E) (es : Es)
inductive I where
  | seq (e : E)
  | rng (es : Es)
  | enum (e : E)
  | zip (a b : E)
end
mutual
inductive T where
  | set (i : Nat) (m : Md) (e : E)
  | unp (is : List Nat) (e : E)
  | par (is : List Nat) (es : Es)
  | sub (o i : E) (e : E)
  | dvm (o i : E) (j : Nat) (e : E)
  | aug (i : Nat) (op : Operator) (e : E)
  | exp (e : E)
  | app (i : Nat) (e : E)
  | apx (o e : E)
  | ext (i : Nat) (e : E)
  | ret (e : E)
  | retN
  | ite (c : E) (a b : Ts)
  | fr (tg : Tg) (it : I) (body : Ts)
  | wh (fuel : Nat) (c : E) (body : Ts)
  | brk | cnt | pass
  | rais (cls : Str) (flds : List Str) (es : Es)
  | nev
inductive Ts where
  | nil | cons (t : T) (ts : Ts)
  | bld (i j : Nat) (e : E) (body rest : Ts)
end
def Ts.len : Ts → Nat
  | .nil => 0
  | .cons _ ts => ts.len + 1
  | .bld _ _ _ body rest => body.len + rest.len + 2

/-- the names of cells from m on forgotten -/
def keepR (m : Nat) : Option RV → Option RV
  | some (.c k) => if k < m then some (.c k) else none
  | some (.r k h) => if k < m then some (.r k h) else none
  | x => x
def wipeC (m : Nat) (ρ : Env) : Env := ρ.map (keepR m)
/-- the slots of a block's own names forgotten -/
def wipeE (ρ : Env) : List Nat → Env
  | [] => ρ
  | v :: vs => (wipeE ρ vs).set v none
mutual
def Tg.slots : Tg → List Nat
  | .n i => [i]
  | .t ts => ts.slots
def Tgs.slots : Tgs → List Nat
  | .nil => []
  | .cons t ts => t.slots ++ ts.slots
end
def Tgs.len : Tgs → Nat
  | .nil => 0
  | .cons _ ts => ts.len + 1
mutual
/-- a target's store -/
def bindT : Tg → D → Env → Option Env
  | .n i, d, ρ => some (ρ.set i (some (.d d)))
  | .t ts, .tup ds, ρ => bindTs ts ds ρ
  | .t _, _, _ => none
def bindTs : Tgs → List D → Env → Option Env
  | .nil, [], ρ => some ρ
  | .cons t ts, d :: ds, ρ => (bindT t d ρ).bind fun ρ1 => bindTs ts ds ρ1
  | _, _, _ => none
end
/-- a source that is a cell must stay as it is -/
def srcOk (src : List (Nat × List D)) (S : Store) : Bool := src.all fun p => match cellAt S p.1 with
  | some ds => D.sames ds p.2
  | none => false
/-- a comprehension's turns: the new list is cell n -/
def compGo (src : List (Nat × List D)) (f : D → Store → Res (Option D)) (n : Nat) : List D → Store → Res Unit
  | [], S => if srcOk src S then .ok () S else .stuck
  | d :: ds, S => if srcOk src S then (f d S).bind fun o S1 => match o with
      | none => compGo src f n ds S1
      | some x => (match S1[n]? with
        | some (.lst acc) => if acc.length < line then compGo src f n ds ((S1.set n (.lst (acc ++ [x]))).take (n + 1)) else .stuck
        | _ => .stuck)
    else .stuck
/-- .. the new list holds lists of its own -/
def compGx (src : List (Nat × List D)) (f : D → Store → Res (Option MX)) (n : Nat) : List D → Store → Res Unit
  | [], S => if srcOk src S then .ok () S else .stuck
  | d :: ds, S => if srcOk src S then (f d S).bind fun o S1 => match o with
      | none => compGx src f n ds S1
      | some x => (match S1[n]? with
        | some (.mx acc) => if acc.length < line then compGx src f n ds (S1.set n (.mx (acc ++ [x]))) else .stuck
        | _ => .stuck)
    else .stuck
/-- nothing that is raised leaves a comprehension -/
def Res.nox {α : Type} : Res α → Res α
  | .exc _ _ => .stuck
  | r => r
@[simp] theorem Res.nox_ok {α : Type} (a : α) (S : Store) : (Res.ok a S).nox = .ok a S := rfl
@[simp] theorem Res.nox_stuck {α : Type} : (Res.stuck : Res α).nox = .stuck := rfl
def ofOpt {α : Type} (o : Option α) (S : Store) : Res α := match o with
  | some a => .ok a S
  | none => .stuck
def strItems (x : Str) : List D := x.cps.toList.map fun c => .str ⟨#[c]⟩
def rngD (a : Int) (n : Nat) : List D := (List.range n).map fun i => .int (a + (i : Nat))
def rangeD : List D → Option (List D)
  | [.int j] => if -4611686018427387904 ≤ j ∧ j < 4611686018427387904 then some (rngD 0 j.toNat) else none
  | [.int i, .int j] => if -4611686018427387904 ≤ i ∧ i < 4611686018427387904 ∧ -4611686018427387904 ≤ j ∧ j < 4611686018427387904 then some (rngD i (j - i).toNat) else none
  | _ => none
def enumD (k : Nat) : List D → List D
  | [] => []
  | d :: ds => .tup [.int (k : Int), d] :: enumD (k + 1) ds
def zipD : List D → List D → List D
  | a :: as, b :: bs => .tup [a, b] :: zipD as bs
  | _, _ => []
def boolV : RX → Option Bool
  | .d (.bl b) => some b
  | _ => none
def asD (r : RX) (S : Store) : Res D := (conv .dat r S).bind fun v S1 => match v with
  | .d d => .ok d S1
  | _ => .stuck
def permV (perm : List Nat) (vs : List RV) : Option (List RV) := perm.mapM fun i => vs[i]?

/-- what a built-in function looks at -/
def rdF (f : Bf) (S : Store) (vs : List RV) : Option (List D) := match f with
  | .len => rdWs S vs
  | .repr => rdWs S vs
  | _ => rdVs S vs
/-- x.index(y) -/
def ixGo (y : D) : List D → Nat → Option Nat
  | [], _ => none
  | x :: r, k => if D.eq x y then some k else ixGo y r (k + 1)
def isLs : RV → Bool
  | .c _ => true
  | .r _ _ => true
  | .d (.lst _) => true
  | _ => false
def ixoD : D → D → Option RX
  | .lst xs, y => if deepOk y xs then (ixGo y xs 0).map fun k => .d (.int (k : Nat)) else none
  | _, _ => none
/-- the cell behind the first n; what lies behind it is forgotten -/
def lastL (n : Nat) (S : Store) : Res RX := if n < S.length then (match S[n]? with
  | some (.lst ds) => .ok (.f ds) (S.take n)
  | _ => .stuck) else .stuck
def lastX (n : Nat) (S : Store) : Res RX := if n < S.length then (match S[n]? with
  | some (.mx es) => .ok (.fm es) (S.take n)
  | _ => .stuck) else .stuck
/-- an item that keeps a fresh list -/
def asX (r : RX) (S : Store) : Res MX := match r with
  | .f ds => .ok (.l ds) S
  | r => (asD r S).bind fun d S1 => .ok (.a d) S1
/-- items whose fresh lists are the newest cells, from k on -/
def gath (k : Nat) (S : Store) : List RV → Option (List MX)
  | [] => if S.length = k then some [] else none
  | .d x :: vs => (gath k S vs).map (MX.a x :: ·)
  | .c n :: vs => if n = k then (match S[n]? with
    | some (.lst ds) => (gath (k + 1) S vs).map (MX.l ds :: ·)
    | _ => none) else none
  | _ :: _ => none
/-- a cell that nobody changes meanwhile -/
def Cell.fzn : Cell → Cell
  | .lst ds => .fz ds
  | .fz ds => .fz ds
  | .mx es => .fz (es.map MX.dat)
/-- a call that changes nothing and gives a plain datum -/
def peek (m : Mir) (vs : List RV) (S : Store) : Res RX := match rdWs S vs with
  | some ds => (match m (ds.map .d) (S.map Cell.fzn) with
    | .ok (.d d) _ => if d.nol then .ok (.d d) S else .stuck
    | _ => .stuck)
  | none => .stuck
/-- a plain datum, found where nothing could be changed -/
def frzR (r : Res RX) (S : Store) : Res RX := match r with
  | .ok (.d d) _ => if d.nol then .ok (.d d) S else .stuck
  | _ => .stuck
/-- to be read at once -/
def Res.rv (r : Res RX) : Res RV := r.bind fun x S1 => conv .rd x S1
section
variable (G : List Mir) (C : List D)
mutual
def ev : E → Env → Store → Res RX
  | .var i, ρ, S => match ρ[i]? with
    | some (some (.d d)) => .ok (.d d) S
    | some (some (.c n)) => .ok (.c n) S
    | some (some (.g a b)) => .ok (.g a b) S
    | some (some (.r a b)) => .ok (.r a b) S
    | _ => .stuck
  | .lit d, _, S => .ok (.d d) S
  | .con k, _, S => match C[k]? with
    | some d => .ok (.d d) S
    | none => .stuck
  | .tup es, ρ, S => (evs es ρ S).bind fun vs S1 => match rdVs [] vs with
    | some ds => if ds.length ≤ line then .ok (.d (.tup ds)) S1 else .stuck
    | none => .stuck
  | .lst es, ρ, S => (evs es ρ S).bind fun vs S1 => match rdVs [] vs with
    | some ds => if ds.length ≤ line then .ok (.f ds) S1 else .stuck
    | none => .stuck
  | .bin op a b, ρ, S => (ev a ρ S).rv.bind fun x S1 => (ev b ρ S1).rv.bind fun y S2 => match rdV S2 x, rdV S2 y with
    | some d, some e => ofOpt (binD op d e) S2
    | _, _ => .stuck
  | .neg a, ρ, S => (ev a ρ S).rv.bind fun x S1 => match x with
    | .d (.int i) => .ok (.d (.int (-i))) S1
    | _ => .stuck
  | .nt a, ρ, S => (ev a ρ S).bind fun x S1 => match boolV x with
    | some b => .ok (.d (.bl (!b))) S1
    | none => .stuck
  | .cmp op a b, ρ, S => (ev a ρ S).rv.bind fun x S1 => (ev b ρ S1).rv.bind fun y S2 => match rdW S2 x, rdW S2 y with
    | some d, some e => (ofOpt (cmpD op d e) S2).bind fun b S3 => .ok (.d (.bl b)) S3
    | _, _ => .stuck
  | .ch2 o1 o2 a b c, ρ, S => (ev a ρ S).rv.bind fun x S1 => (ev b ρ S1).rv.bind fun y S2 => match rdW S2 x, rdW S2 y with
    | some d, some e => (ofOpt (cmpD o1 d e) S2).bind fun k S3 => if k then (ev c ρ S3).rv.bind fun z S4 => match rdW S4 y, rdW S4 z with
        | some e, some g => (ofOpt (cmpD o2 e g) S4).bind fun b S5 => .ok (.d (.bl b)) S5
        | _, _ => .stuck
      else .ok (.d (.bl false)) S3
    | _, _ => .stuck
  | .ch3 o1 o2 o3 a b c d, ρ, S => (ev a ρ S).rv.bind fun x S1 => (ev b ρ S1).rv.bind fun y S2 => match rdW S2 x, rdW S2 y with
    | some v1, some v2 => (ofOpt (cmpD o1 v1 v2) S2).bind fun k S3 => if k then (ev c ρ S3).rv.bind fun z S4 => match rdW S4 y, rdW S4 z with
        | some v2, some v3 => (ofOpt (cmpD o2 v2 v3) S4).bind fun k2 S5 => if k2 then (ev d ρ S5).rv.bind fun w S6 => match rdW S6 z, rdW S6 w with
            | some v3, some v4 => (ofOpt (cmpD o3 v3 v4) S6).bind fun b S7 => .ok (.d (.bl b)) S7
            | _, _ => .stuck
          else .ok (.d (.bl false)) S5
        | _, _ => .stuck
      else .ok (.d (.bl false)) S3
    | _, _ => .stuck
  | .and a b, ρ, S => (ev a ρ S).bind fun x S1 => match boolV x with
    | some true => ev b ρ S1
    | some false => .ok (.d (.bl false)) S1
    | none => .stuck
  | .or a b, ρ, S => (ev a ρ S).bind fun x S1 => match boolV x with
    | some true => .ok (.d (.bl true)) S1
    | some false => ev b ρ S1
    | none => .stuck
  | .ite c a b, ρ, S => (ev c ρ S).bind fun x S1 => match boolV x with
    | some true => ev a ρ S1
    | some false => ev b ρ S1
    | none => .stuck
  | .idx a i, ρ, S => (ev a ρ S).rv.bind fun x S1 => (ev i ρ S1).rv.bind fun y S2 => (match rdV S2 x, rdV S2 y with
    | some d, some e => (ofOpt (idxD d e) S2).bind fun r S3 => .ok (.d r) S3
    | none, some (.int k) => (match x with
      | .c n => (match mxAt S2 n with
        | some es => (match ixN es.length k with
          | some j => (match es[j]? with
            | some (.a d) => .ok (.d d) S2
            | some (.l _) => .ok (.r n j) S2
            | none => .stuck)
          | none => .stuck)
        | none => .stuck)
      | _ => .stuck)
    | _, _ => .stuck)
  | .sl a lo hi, ρ, S => (ev a ρ S).rv.bind fun x S1 => (evo lo ρ S1).bind fun l S2 => (evo hi ρ S2).bind fun h S3 => match rdV S3 x with
    | some d => ofOpt (sliceD d l h) S3
    | none => .stuck
  | .rev a, ρ, S => (ev a ρ S).rv.bind fun x S1 => match rdV S1 x with
    | some d => ofOpt (revD d) S1
    | none => .stuck
  | .call f es, ρ, S => (evs es ρ S).bind fun vs S1 => match G[f]? with
    | some m => m vs S1
    | none => .stuck
  | .kall f ps ks perm, ρ, S => (evs ps ρ S).bind fun vs S1 => (evs ks ρ S1).bind fun ws S2 => match G[f]?, permV perm (vs ++ ws) with
    | some m, some zs => m zs S2
    | _, _ => .stuck
  | .blt f es, ρ, S => (evs es ρ S).bind fun vs S1 => match rdF f S1 vs with
    | some ds => ofOpt (bltD f ds) S1
    | none => .stuck
  | .mth m o es, ρ, S => (ev o ρ S).bind fun x S1 => match x with
    | .d (.str z) => (evs es ρ S1).bind fun vs S2 => (match rdVs S2 vs with
      | some ds => ofOpt (mthD m (.str z) ds) S2
      | none => .stuck)
    | _ => .stuck
  | .pop i, ρ, S => match ρ[i]? with
    | some (some (.c n)) => (match S[n]? with
      | some (.lst ds) => (match ds.getLast? with
        | some d => .ok (.d d) (S.set n (.lst ds.dropLast))
        | none => .stuck)
      | _ => .stuck)
    | _ => .stuck
  | .nev, _, _ => .stuck
  | .isi a ts, ρ, S => (ev a ρ S).rv.bind fun x S1 => match rdW S1 x with
    | some d => .ok (.d (.bl (ts.any (isD d)))) S1
    | none => .stuck
  | .comp elt tg it cond own, ρ, S => (evi it ρ S).bind fun p S1 => (compGo p.1 (fun d S => match bindT tg d (wipeE ρ own) with
      | some ρ1 => (evc cond ρ1 S).bind fun b S2 => if b then (ev elt ρ1 S2).bind fun x S3 => (asD x S3).bind fun y S4 => .ok (some y) S4 else .ok none S2
      | none => .stuck) S1.length p.2 (S1 ++ [.lst []])).nox.bind fun _ S2 => lastL S1.length S2
  | .compx elt tg it cond own, ρ, S => (evi it ρ S).bind fun p S1 => (compGx p.1 (fun d S => match bindT tg d (wipeE ρ own) with
      | some ρ1 => (evc cond ρ1 S).bind fun b S2 => if b then (ev elt ρ1 S2).bind fun x S3 => (asX x S3).bind fun y S4 => .ok (some y) S4 else .ok none S2
      | none => .stuck) S1.length p.2 (S1 ++ [.mx []])).nox.bind fun _ S2 => lastX S1.length S2
  | .lsx es, ρ, S => (evs es ρ S).bind fun vs S1 => if vs.length ≤ line then (match gath S.length S1 vs with
    | some es => .ok (.fm es) (S1.take S.length)
    | none => .stuck) else .stuck
  | .rngv es, ρ, S => (evs es ρ S).bind fun vs S1 => match rdVs S1 vs with
    | some [.int i, .int j] => .ok (.g i j) S1
    | some [.int j] => .ok (.g 0 j) S1
    | _ => .stuck
  | .lrng es, ρ, S => (evs es ρ S).bind fun vs S1 => match rdVs S1 vs with
    | some ds => (match rangeD ds with
      | some r => if r.length ≤ line then .ok (.f r) S1 else .stuck
      | none => .stuck)
    | none => .stuck
  | .trng es, ρ, S => (evs es ρ S).bind fun vs S1 => match rdVs S1 vs with
    | some ds => (match rangeD ds with
      | some r => if r.length ≤ line then .ok (.d (.tup r)) S1 else .stuck
      | none => .stuck)
    | none => .stuck
  | .slen a, ρ, S => (ev a ρ S).rv.bind fun x S1 => match rdV S1 x with
    | some (.lst ds) => (match intsOf ds with
      | some ns => if ns.length ≤ 4000 then .ok (.d (.int ((dcnt ns : Nat) : Int))) S1 else .stuck
      | none => .stuck)
    | _ => .stuck
  | .tpc es, ρ, S => (evs es ρ S).bind fun vs S1 => match vs with
    | [.d d0, .c n] => .ok (.tc d0 n) S1
    | _ => .stuck
  | .tix a, ρ, S => (ev a ρ S).bind fun x S1 => match x with
    | .tf _ ds => .ok (.f ds) S1
    | _ => .stuck
  | .ixo o x, ρ, S => (ev o ρ S).rv.bind fun y S1 => if isLs y then (ev x ρ S1).rv.bind fun z S2 => (match rdW S2 y, rdW S2 z with
    | some d, some e => ofOpt (ixoD d e) S2
    | _, _ => .stuck) else .stuck
  | .pk f es, ρ, S => (evs es ρ S).bind fun vs S1 => match G[f]? with
    | some m => peek m vs S1
    | none => .stuck
  | .frz e, ρ, S => frzR (ev e ρ (S.map Cell.fzn)) S
def evo : Eo → Env → Store → Res (Option Int)
  | .no, _, S => .ok none S
  | .yes e, ρ, S => (ev e ρ S).bind fun x S1 => match x with
    | .d (.int i) => .ok (some i) S1
    | _ => .stuck
/-- a test that may be left out -/
def evc : Eo → Env → Store → Res Bool
  | .no, _, S => .ok true S
  | .yes e, ρ, S => (ev e ρ S).bind fun x S1 => match boolV x with
    | some b => .ok b S1
    | none => .stuck
def evs : Es → Env → Store → Res (List RV)
  | .nil, _, S => .ok [] S
  | .cons m e es, ρ, S => (ev e ρ S).bind fun x S1 => (conv m x S1).bind fun v S2 => (evs es ρ S2).bind fun vs S3 => .ok (v :: vs) S3
/-- what is walked: the cells it leans on, the items -/
def evi : I → Env → Store → Res (List (Nat × List D) × List D)
  | .seq e, ρ, S => (ev e ρ S).bind fun x S1 => (conv .rd x S1).bind fun v S2 => match v with
    | .d (.lst ds) => .ok ([], ds) S2
    | .d (.tup ds) => .ok ([], ds) S2
    | .d (.str x) => .ok ([], strItems x) S2
    | .g i j => if -4611686018427387904 ≤ i ∧ i < 4611686018427387904 ∧ -4611686018427387904 ≤ j ∧ j < 4611686018427387904 then .ok ([], rngD i (j - i).toNat) S2 else .stuck
    | .c n => (match cellAt S2 n with
      | some ds => .ok ([(n, ds)], ds) S2
      | none => (match mxAt S2 n with
        | some es => .ok ([], es.map MX.dat) (S2.set n (.fz (es.map MX.dat)))
        | none => .stuck))
    | _ => .stuck
  | .rng es, ρ, S => (evs es ρ S).bind fun vs S1 => match rdVs S1 vs with
    | some ds => (match rangeD ds with
      | some r => .ok ([], r) S1
      | none => .stuck)
    | none => .stuck
  | .enum e, ρ, S => (ev e ρ S).bind fun x S1 => (conv .rd x S1).bind fun v S2 => match v with
    | .d (.lst ds) => .ok ([], enumD 0 ds) S2
    | .d (.tup ds) => .ok ([], enumD 0 ds) S2
    | .c n => (match cellAt S2 n with
      | some ds => .ok ([(n, ds)], enumD 0 ds) S2
      | none => .stuck)
    | _ => .stuck
  | .zip a b, ρ, S => (ev a ρ S).bind fun x S1 => (conv .dat x S1).bind fun v S2 => (ev b ρ S2).bind fun y S3 => (conv .dat y S3).bind fun w S4 => match v, w with
    | .d (.lst ds), .d (.lst es) => .ok ([], zipD ds es) S4
    | .d (.tup ds), .d (.tup es) => .ok ([], zipD ds es) S4
    | _, _ => .stuck
end
end

/-! ### statements -/
inductive Out where
  | nx (ρ : Env) (S : Store)
  | ret (r : RX) (S : Store)
  | brk (ρ : Env) (S : Store)
  | cnt (ρ : Env) (S : Store)
  | exc (x : Exn) (S : Store)
  | stuck
def Out.then : Out → (Env → Store → Out) → Out
  | .nx ρ S, k => k ρ S
  | o, _ => o
/-- the list of name i, cell m, becomes a row of name j's list; cells from m on are gone -/
def bldM (m i j : Nat) (ρ : Env) (S : Store) : Out := match ρ[i]?, ρ[j]? with
  | some (some (.c k)), some (some (.c n)) => if k = m ∧ n < m then (match S[m]?, S[n]? with
    | some (.lst ds), some (.mx es) => if es.length < line then .nx (wipeC m ρ) ((S.take m).set n (.mx (es ++ [.l ds]))) else .stuck
    | _, _ => .stuck) else .stuck
  | _, _ => .stuck
def Res.out {α : Type} : Res α → (α → Store → Out) → Out
  | .ok a S, k => k a S
  | .exc x S, _ => .exc x S
  | .stuck, _ => .stuck
@[simp] theorem Res.out_ok {α : Type} (a : α) (S : Store) (k : α → Store → Out) : (Res.ok a S).out k = k a S := rfl
@[simp] theorem Res.out_exc {α : Type} (a : Exn) (S : Store) (k : α → Store → Out) : (Res.exc a S : Res α).out k = .exc a S := rfl
@[simp] theorem Res.out_stuck {α : Type} (k : α → Store → Out) : (Res.stuck : Res α).out k = .stuck := rfl
@[simp] theorem Out.then_nx (ρ : Env) (S : Store) (k : Env → Store → Out) : (Out.nx ρ S).then k = k ρ S := rfl
@[simp] theorem Out.then_ret (r : RX) (S : Store) (k : Env → Store → Out) : (Out.ret r S).then k = .ret r S := rfl
@[simp] theorem Out.then_brk (ρ : Env) (S : Store) (k : Env → Store → Out) : (Out.brk ρ S).then k = .brk ρ S := rfl
@[simp] theorem Out.then_cnt (ρ : Env) (S : Store) (k : Env → Store → Out) : (Out.cnt ρ S).then k = .cnt ρ S := rfl
@[simp] theorem Out.then_exc (x : Exn) (S : Store) (k : Env → Store → Out) : (Out.exc x S).then k = .exc x S := rfl
@[simp] theorem Out.then_stuck (k : Env → Store → Out) : Out.stuck.then k = .stuck := rfl
/-- a for's turns -/
def forGo (src : List (Nat × List D)) (f : D → Env → Store → Out) : List D → Env → Store → Out
  | [], ρ, S => if srcOk src S then .nx ρ S else .stuck
  | d :: ds, ρ, S => if srcOk src S then (match f d ρ S with
    | .nx ρ1 S1 => forGo src f ds ρ1 S1
    | .cnt ρ1 S1 => forGo src f ds ρ1 S1
    | .brk ρ1 S1 => .nx ρ1 S1
    | o => o) else .stuck
/-- a while's turns -/
def whGo (c : Env → Store → Res Bool) (f : Env → Store → Out) : Nat → Env → Store → Out
  | 0, _, _ => .stuck
  | n + 1, ρ, S => (c ρ S).out fun b S1 => if b then (match f ρ S1 with
    | .nx ρ1 S2 => whGo c f n ρ1 S2
    | .cnt ρ1 S2 => whGo c f n ρ1 S2
    | .brk ρ1 S2 => .nx ρ1 S2
    | o => o) else .nx ρ S1
def setsV : List Nat → List RV → Env → Env
  | i :: is, v :: vs, ρ => setsV is vs (ρ.set i (some v))
  | _, _, ρ => ρ

section
variable (G : List Mir) (C : List D)
mutual
def ex : T → Env → Store → Out
  | .set i m e, ρ, S => (ev G C e ρ S).out fun x S1 => (conv m x S1).out fun v S2 => .nx (ρ.set i (some v)) S2
  | .unp is e, ρ, S => (ev G C e ρ S).rv.out fun x S1 => match x with
    | .d (.tup ds) => if ds.length = is.length then .nx (setsV is (ds.map .d) ρ) S1 else .stuck
    | .d (.lst ds) => if ds.length = is.length then .nx (setsV is (ds.map .d) ρ) S1 else .stuck
    | _ => .stuck
  | .par is es, ρ, S => (evs G C es ρ S).out fun vs S1 => if vs.length = is.length then .nx (setsV is vs ρ) S1 else .stuck
  | .sub o i e, ρ, S => (ev G C e ρ S).out fun x S1 => (asD x S1).out fun d S2 => (ev G C o ρ S2).out fun y S3 => match y with
    | .c n => (ev G C i ρ S3).rv.out fun z S4 => (match z with
      | .d (.int k) => (match S4[n]? with
        | some (.lst ds) => (match ixN ds.length k with
          | some j => .nx ρ (S4.set n (.lst (ds.set j d)))
          | none => .stuck)
        | some (.mx es) => (match ixN es.length k with
          | some j => (match es[j]? with
            | some (.a _) => .nx ρ (S4.set n (.mx (es.set j (.a d))))
            | _ => .stuck)
          | none => .stuck)
        | _ => .stuck)
      | _ => .stuck)
    | .r n h => (ev G C i ρ S3).rv.out fun z S4 => (match z with
      | .d (.int k) => (match mxAt S4 n with
        | some es => (match es[h]? with
          | some (.l ds) => (match ixN ds.length k with
            | some j => .nx ρ (S4.set n (.mx (es.set h (.l (ds.set j d)))))
            | none => .stuck)
          | _ => .stuck)
        | none => .stuck)
      | _ => .stuck)
    | _ => .stuck
  | .dvm o i j e, ρ, S => (ev G C e ρ S).rv.out fun x S1 => match x with
    | .d (.tup [d, d2]) => (ev G C o ρ S1).out fun y S3 => (match y with
      | .c n => (ev G C i ρ S3).rv.out fun z S4 => (match z with
        | .d (.int k) => (match S4[n]? with
          | some (.lst ds) => (match ixN ds.length k with
            | some t => .nx (ρ.set j (some (.d d2))) (S4.set n (.lst (ds.set t d)))
            | none => .stuck)
          | _ => .stuck)
        | _ => .stuck)
      | _ => .stuck)
    | _ => .stuck
  | .aug i op e, ρ, S => match ρ[i]? with
    | some (some (.d (.int a))) => (ev G C e ρ S).out fun x S1 => (match x, op with
      | .d (.int b), .Add => .nx (ρ.set i (some (.d (.int (a + b))))) S1
      | .d (.int b), .Sub => .nx (ρ.set i (some (.d (.int (a - b))))) S1
      | _, _ => .stuck)
    | _ => .stuck
  | .exp e, ρ, S => (ev G C e ρ S).out fun _ S1 => .nx ρ S1
  | .app i e, ρ, S => match ρ[i]? with
    | some (some (.c n)) => (ev G C e ρ S).out fun x S1 => (asD x S1).out fun d S2 => (match S2[n]? with
      | some (.lst ds) => if ds.length < line then .nx ρ (S2.set n (.lst (ds ++ [d]))) else .stuck
      | _ => .stuck)
    | _ => .stuck
  | .apx o e, ρ, S => (ev G C o ρ S).out fun y S0 => (conv .cel y S0).out fun w S1 => match w with
    | .c n => (ev G C e ρ S1).out fun x S2 => (match S2[n]? with
      | some (.mx _) => (asX x S2).out fun v S3 => (match S3[n]? with
        | some (.mx es) => if es.length < line then .nx ρ (S3.set n (.mx (es ++ [v]))) else .stuck
        | _ => .stuck)
      | some (.lst _) => (asD x S2).out fun d S3 => (match S3[n]? with
        | some (.lst ds) => if ds.length < line then .nx ρ (S3.set n (.lst (ds ++ [d]))) else .stuck
        | _ => .stuck)
      | _ => .stuck)
    | .r n h => (ev G C e ρ S1).out fun x S2 => (asD x S2).out fun d S3 => (match mxAt S3 n with
      | some es => (match es[h]? with
        | some (.l ds) => if ds.length < line then .nx ρ (S3.set n (.mx (es.set h (.l (ds ++ [d]))))) else .stuck
        | _ => .stuck)
      | none => .stuck)
    | _ => .stuck
  | .ext i e, ρ, S => match ρ[i]? with
    | some (some (.c n)) => (ev G C e ρ S).rv.out fun x S1 => (match S1[n]?, rdV S1 x with
      | some (.lst ds), some (.lst es) => if ds.length + es.length ≤ line then .nx ρ (S1.set n (.lst (ds ++ es))) else .stuck
      | some (.lst ds), some (.tup es) => if ds.length + es.length ≤ line then .nx ρ (S1.set n (.lst (ds ++ es))) else .stuck
      | _, _ => .stuck)
    | _ => .stuck
  | .ret e, ρ, S => (ev G C e ρ S).out fun x S1 => .ret x S1
  | .retN, _, S => .ret (.d .non) S
  | .ite c a b, ρ, S => (ev G C c ρ S).out fun x S1 => match boolV x with
    | some true => exs a ρ S1
    | some false => exs b ρ S1
    | none => .stuck
  | .fr tg it body, ρ, S => (evi G C it ρ S).out fun p S1 => forGo p.1 (fun d ρ S => match bindT tg d ρ with
      | some ρ1 => exs body ρ1 S
      | none => .stuck) p.2 ρ S1
  | .wh n c body, ρ, S => whGo (fun ρ S => (ev G C c ρ S).bind fun x S1 => match boolV x with
      | some b => .ok b S1
      | none => .stuck) (fun ρ S => exs body ρ S) n ρ S
  | .brk, ρ, S => .brk ρ S
  | .cnt, ρ, S => .cnt ρ S
  | .pass, ρ, S => .nx ρ S
  | .nev, _, _ => .stuck
  | .rais cls flds es, ρ, S => (evs G C es ρ S).out fun vs S1 => match rdVs [] vs with
    | some ds => if ds.length = flds.length then .exc ⟨cls, flds.zip ds⟩ S1 else .stuck
    | none => .stuck
def exs : Ts → Env → Store → Out
  | .nil, ρ, S => .nx ρ S
  | .cons t ts, ρ, S => (ex t ρ S).then fun ρ1 S1 => exs ts ρ1 S1
  | .bld i j e body rest, ρ, S => (ev G C e ρ S).out fun x S1 => (conv .cel x S1).out fun v S2 => (exs body (ρ.set i (some v)) S2).then fun ρ2 S3 => (bldM S.length i j ρ2 S3).then fun ρ3 S4 => exs rest ρ3 S4
end
end

/-- a def's run: np parameters, nn names in all -/
def runD (G : List Mir) (C : List D) (np nn : Nat) (body : Ts) : Mir := fun vs S =>
  if vs.length = np then
    match exs G C body (vs.map some ++ List.replicate (nn - np) none) S with
    | .ret (.d d) S1 => .ok (.d d) (S1.take S.length)
    | .ret (.f ds) S1 => .ok (.f ds) (S1.take S.length)
    | .ret (.c n) S1 => if S.length ≤ n then (match S1[n]? with
      | some (.lst ds) => .ok (.f ds) (S1.take S.length)
      | some (.mx es) => .ok (.fm es) (S1.take S.length)
      | _ => .stuck) else .ok (.c n) (S1.take S.length)
    | .ret (.fm es) S1 => .ok (.fm es) (S1.take S.length)
    | .ret (.tf d0 ds) S1 => .ok (.tf d0 ds) (S1.take S.length)
    | .ret (.tc d0 n) S1 => if S.length ≤ n then (match S1[n]? with
      | some (.lst ds) => .ok (.tf d0 ds) (S1.take S.length)
      | _ => .stuck) else .stuck
    | .nx _ S1 => .ok (.d .non) (S1.take S.length)
    | .exc x S1 => .exc x (S1.take S.length)
    | _ => .stuck
  else .stuck
end Rf

set_option Elab.async false
set_option linter.all false
set_option maxRecDepth 100000
set_option maxHeartbeats 1000000
namespace Rf
open PySem PySem.Spec PyProof.Rows L2

/-! ### how data lie in the heap -/
/-- a list that nobody changes any more -/
def KLst (K : PySem.W.Frag) (a : Addr) (xs : List V) : Prop :=
  ∃ (its : Array Value) (n : Nat), K.lookup a = some { cls := .type "list", data := .seq its n } ∧ its.size ≤ sizeLine ∧ Vals xs its.toList
def Frz (K : PySem.W.Frag) (H : Hp) (L : Addr → Prop) (a : Addr) (xs : List V) : Prop :=
  (H a = some (.lst xs) ∧ ¬ L a) ∨ (∃ o, H a = some (.frz o (.lst xs))) ∨ KLst K a xs
/-- a list to be read -/
def SqE (K : PySem.W.Frag) (H : Hp) (a : Addr) (xs : List V) : Prop := H a = some (.lst xs) ∨ (∃ o, H a = some (.frz o (.lst xs))) ∨ KLst K a xs
theorem Frz.sqE {K : PySem.W.Frag} {H : Hp} {L : Addr → Prop} {a : Addr} {xs : List V} (h : Frz K H L a xs) : SqE K H a xs := by
  rcases h with ⟨h, _⟩ | h
  · exact .inl h
  · exact .inr h
theorem SqE.sq {K : PySem.W.Frag} {H : Hp} {a : Addr} {xs : List V} (h : SqE K H a xs) : SqL K H a xs := by
  rcases h with h | ⟨o, h⟩ | ⟨its, n, h, z, v⟩
  · exact .inl (.inl h)
  · exact .inl (.inr ⟨o, h⟩)
  · exact .inr ⟨_, its, n, h, rfl, rfl, rfl, z, v⟩
theorem Frz.sq {K : PySem.W.Frag} {H : Hp} {L : Addr → Prop} {a : Addr} {xs : List V} (h : Frz K H L a xs) : SqL K H a xs := h.sqE.sq
theorem lstE {X : Cx} {pins : List (Addr × Obj)} {σ : L2.St} {H : Hp} {s : Shared} {a : Addr} {xs : List V} (I : Inv X pins σ H s) (h : SqE X.K H a xs) :
    xs.length ≤ sizeLine ∧ ∃ (its : List Value) (n : Nat), Vals xs its ∧ xs.length = its.length ∧ s.heap.get? a = some { cls := .type "list", data := .seq its.toArray n } := by
  rcases h with h | ⟨o, h⟩ | ⟨its, n, h, z, v⟩
  · exact I.lstM h
  · obtain ⟨_, z, its, n, r, e⟩ := I.hok a _ h
    exact ⟨z, its, n, r, r.length, e⟩
  · have e := v.length
    simp only [Array.length_toList] at e
    exact ⟨by omega, its.toList, n, v, v.length, by simpa using I.kIn a _ h⟩
mutual
inductive Rp (K : PySem.W.Frag) (H : Hp) (L : Addr → Prop) : V → D → Prop
  | non : Rp K H L .non .non
  | bl (b : Bool) : Rp K H L (.bl b) (.bl b)
  | int (i : Int) : Rp K H L (.int i) (.int i)
  | str (x : Str) : Rp K H L (.str x) (.str x)
  | tup {a : Addr} {vs : List V} {ds : List D} : SqT K H a vs → Rps K H L vs ds → Rp K H L (.ref a) (.tup ds)
  | lst {a : Addr} {vs : List V} {ds : List D} : Frz K H L a vs → Rps K H L vs ds → Rp K H L (.ref a) (.lst ds)
inductive Rps (K : PySem.W.Frag) (H : Hp) (L : Addr → Prop) : List V → List D → Prop
  | nil : Rps K H L [] []
  | cons {v : V} {vs : List V} {d : D} {ds : List D} : Rp K H L v d → Rps K H L vs ds → Rps K H L (v :: vs) (d :: ds)
end
section
variable {K : PySem.W.Frag} {H H' : Hp} {L L' : Addr → Prop}
/-- what is not live stays -/
structure Ext (H H' : Hp) (L L' : Addr → Prop) : Prop where
  ext : ∀ b o, H b = some o → ¬ L b → H' b = some o
  lst : ∀ b, L b → ∃ xs, H b = some (.lst xs)
  lv : ∀ b, L' b → L b ∨ H b = none
theorem Ext.nl (e : Ext H H' L L') {b : Addr} {o : HO} (h : H b = some o) (n : ∀ xs, o ≠ .lst xs) : H' b = some o :=
  e.ext b o h fun l => by
    obtain ⟨xs, q⟩ := e.lst b l
    rw [h] at q
    exact n xs (Option.some.inj q)
theorem SqT.ext (e : Ext H H' L L') {a : Addr} {xs : List V} (h : SqT K H a xs) : SqT K H' a xs := by
  rcases h with (h | ⟨o, h⟩) | h
  · exact .inl (.inl (e.nl h fun _ z => nomatch z))
  · exact .inl (.inr ⟨o, e.nl h fun _ z => nomatch z⟩)
  · exact .inr h
theorem Frz.mono (e : Ext H H' L L') {a : Addr} {xs : List V} (h : Frz K H L a xs) : Frz K H' L' a xs := by
  rcases h with ⟨h, n⟩ | ⟨o, h⟩ | h
  · refine .inl ⟨e.ext a _ h n, fun l => ?_⟩
    rcases e.lv a l with z | z
    · exact n z
    · rw [h] at z; cases z
  · exact .inr (.inl ⟨o, e.nl h fun _ z => nomatch z⟩)
  · exact .inr (.inr h)
mutual
theorem Rp.mono (e : Ext H H' L L') : ∀ {v : V} {d : D}, Rp K H L v d → Rp K H' L' v d
  | _, _, .non => .non
  | _, _, .bl b => .bl b
  | _, _, .int i => .int i
  | _, _, .str x => .str x
  | _, _, .tup h r => .tup (SqT.ext e h) (Rps.mono e r)
  | _, _, .lst h r => .lst (Frz.mono e h) (Rps.mono e r)
theorem Rps.mono (e : Ext H H' L L') : ∀ {vs : List V} {ds : List D}, Rps K H L vs ds → Rps K H' L' vs ds
  | _, _, .nil => .nil
  | _, _, .cons h r => .cons (Rp.mono e h) (Rps.mono e r)
end
theorem Frz.weak (k : ∀ b, L' b → L b) {a : Addr} {xs : List V} (h : Frz K H L a xs) : Frz K H L' a xs := by
  rcases h with ⟨h, n⟩ | h
  · exact .inl ⟨h, fun z => n (k a z)⟩
  · exact .inr h
mutual
theorem Rp.weak (k : ∀ b, L' b → L b) : ∀ {v : V} {d : D}, Rp K H L v d → Rp K H L' v d
  | _, _, .non => .non
  | _, _, .bl b => .bl b
  | _, _, .int i => .int i
  | _, _, .str x => .str x
  | _, _, .tup h r => .tup h (Rps.weak k r)
  | _, _, .lst h r => .lst (h.weak k) (Rps.weak k r)
theorem Rps.weak (k : ∀ b, L' b → L b) : ∀ {vs : List V} {ds : List D}, Rps K H L vs ds → Rps K H L' vs ds
  | _, _, .nil => .nil
  | _, _, .cons h r => .cons (Rp.weak k h) (Rps.weak k r)
end
theorem Rps.length : ∀ {vs : List V} {ds : List D}, Rps K H L vs ds → vs.length = ds.length
  | _, _, .nil => rfl
  | _, _, .cons _ r => by simp [Rps.length r]
theorem Rps.get : ∀ {vs : List V} {ds : List D} {i : Nat} {d : D}, Rps K H L vs ds → ds[i]? = some d → ∃ v, vs[i]? = some v ∧ Rp K H L v d
  | _, _, _, _, .nil, e => by simp at e
  | _, _, 0, _, .cons h _, e => by simp at e; subst e; exact ⟨_, rfl, h⟩
  | _, _, i + 1, d, .cons _ r, e => by
    obtain ⟨v, q, z⟩ := Rps.get (i := i) r (by simpa using e)
    exact ⟨v, by simpa using q, z⟩
theorem Rps.get' : ∀ {vs : List V} {ds : List D} {i : Nat} {v : V}, Rps K H L vs ds → vs[i]? = some v → ∃ d, ds[i]? = some d ∧ Rp K H L v d
  | _, _, _, _, .nil, e => by simp at e
  | _, _, 0, _, .cons h _, e => by simp at e; subst e; exact ⟨_, rfl, h⟩
  | _, _, i + 1, d, .cons _ r, e => by
    obtain ⟨v, q, z⟩ := Rps.get' (i := i) r (by simpa using e)
    exact ⟨v, by simpa using q, z⟩
theorem Rps.append : ∀ {vs ws : List V} {ds es : List D}, Rps K H L vs ds → Rps K H L ws es → Rps K H L (vs ++ ws) (ds ++ es)
  | _, _, _, _, .nil, s => s
  | _, _, _, _, .cons h r, s => .cons h (Rps.append r s)
theorem Rps.take : ∀ {vs : List V} {ds : List D} (n : Nat), Rps K H L vs ds → Rps K H L (vs.take n) (ds.take n)
  | _, _, 0, _ => .nil
  | _, _, _ + 1, .nil => .nil
  | _, _, n + 1, .cons h r => .cons h (Rps.take n r)
theorem Rps.drop : ∀ {vs : List V} {ds : List D} (n : Nat), Rps K H L vs ds → Rps K H L (vs.drop n) (ds.drop n)
  | _, _, 0, h => h
  | _, _, _ + 1, .nil => .nil
  | _, _, n + 1, .cons _ r => Rps.drop n r
theorem Rps.set {v : V} {d : D} (q : Rp K H L v d) : ∀ {vs : List V} {ds : List D} (n : Nat), Rps K H L vs ds → Rps K H L (vs.set n v) (ds.set n d)
  | _, _, _, .nil => .nil
  | _, _, 0, .cons _ r => .cons q r
  | _, _, n + 1, .cons h r => .cons h (Rps.set q n r)
theorem Rps.reverse {vs : List V} {ds : List D} (h : Rps K H L vs ds) : Rps K H L vs.reverse ds.reverse := by
  induction vs generalizing ds with
  | nil => cases h; exact .nil
  | cons v vs ih =>
    cases h with
    | cons h r =>
      rw [List.reverse_cons, List.reverse_cons]
      exact (ih r).append (.cons h .nil)
theorem Rps.dropLast {vs : List V} {ds : List D} (h : Rps K H L vs ds) : Rps K H L vs.dropLast ds.dropLast := by
  rw [List.dropLast_eq_take, List.dropLast_eq_take, h.length]
  exact h.take _
theorem Rps.rep {vs : List V} {ds : List D} (h : Rps K H L vs ds) : ∀ n : Nat, Rps K H L (List.replicate n vs).flatten (List.replicate n ds).flatten
  | 0 => .nil
  | n + 1 => by
    rw [List.replicate_succ, List.replicate_succ, List.flatten_cons, List.flatten_cons]
    exact h.append (Rps.rep h n)
mutual
/-- as the layer's own reading has it -/
theorem Rp.dp : ∀ {v : V} {d : D}, Rp K H L v d → Dp K H v d.py
  | _, _, .non => .non
  | _, _, .bl b => .bl b
  | _, _, .int i => .int i
  | _, _, .str x => .str x
  | _, _, .tup h r => .tup h (Rps.dp r)
  | _, _, .lst h r => .lst h.sq (Rps.dp r)
theorem Rps.dp : ∀ {vs : List V} {ds : List D}, Rps K H L vs ds → DpAll K H vs (D.pys ds)
  | _, _, .nil => .nil
  | _, _, .cons h r => .cons (Rp.dp h) (Rps.dp r)
end
end

/-! ### the store in the heap -/
/-- where a cell's list lies, and its rows -/
abbrev CA := Addr × List (Option Addr)
def Cell.live : Cell → Bool
  | .lst _ => true
  | .fz _ => false
  | .mx _ => true
def Own (cm : List CA) (n : Nat) (b : Addr) : Prop := ∃ (a : Addr) (os : List (Option Addr)), cm[n]? = some (a, os) ∧ (b = a ∨ some b ∈ os)
def Lv (cm : List CA) (S : Store) (b : Addr) : Prop := ∃ (n : Nat) (c : Cell), Own cm n b ∧ S[n]? = some c ∧ c.live = true
def Pre (cm cm' : List CA) : Prop := ∀ (n : Nat) (a : Addr) (os : List (Option Addr)), cm[n]? = some (a, os) → ∃ more, cm'[n]? = some (a, os ++ more)
theorem Pre.refl {cm : List CA} : Pre cm cm := fun n a os h => ⟨[], by simpa using h⟩
theorem Pre.trans {cm cm1 cm' : List CA} (h : Pre cm cm1) (h' : Pre cm1 cm') : Pre cm cm' := fun n a os e => by
  obtain ⟨m, e1⟩ := h n a os e
  obtain ⟨m', e2⟩ := h' n a _ e1
  exact ⟨m ++ m', by rw [e2, List.append_assoc]⟩
theorem Pre.app {cm more : List CA} : Pre cm (cm ++ more) := fun n a os h => ⟨[], by rw [List.getElem?_append_left (List.getElem?_eq_some_iff.mp h).1, h, List.append_nil]⟩
theorem Pre.len {cm cm' : List CA} (h : Pre cm cm') : cm.length ≤ cm'.length := by
  cases e : cm.length with
  | zero => omega
  | succ k =>
    have hk : k < cm.length := by omega
    obtain ⟨m, q⟩ := h k cm[k].1 cm[k].2 (List.getElem?_eq_getElem hk)
    have := (List.getElem?_eq_some_iff.mp q).1
    omega
theorem Pre.take {cm cm' : List CA} (h : Pre cm cm') {n : Nat} (hn : cm.length ≤ n) : Pre cm (cm'.take n) := fun k a os e => by
  obtain ⟨m, q⟩ := h k a os e
  have hk := (List.getElem?_eq_some_iff.mp e).1
  exact ⟨m, by rw [List.getElem?_take_of_lt (by omega)]; exact q⟩
theorem Pre.left {cm cm' : List CA} (h : Pre cm cm') {more : List CA} : Pre cm (cm' ++ more) := h.trans Pre.app
theorem Own.pre {cm cm' : List CA} (h : Pre cm cm') {n : Nat} {b : Addr} (o : Own cm n b) : Own cm' n b := by
  obtain ⟨a, os, e, q⟩ := o
  obtain ⟨m, e'⟩ := h n a os e
  exact ⟨a, _, e', q.elim .inl fun z => .inr (List.mem_append_left _ z)⟩
/-- the items of a list that holds lists -/
inductive MxOk (K : PySem.W.Frag) (H : Hp) (L : Addr → Prop) : List V → List (Option Addr) → List MX → Prop
  | nil : MxOk K H L [] [] []
  | a {v : V} {d : D} {vs : List V} {os : List (Option Addr)} {es : List MX} : Rp K H L v d → MxOk K H L vs os es → MxOk K H L (v :: vs) (none :: os) (.a d :: es)
  | l {b : Addr} {ws : List V} {ds : List D} {vs : List V} {os : List (Option Addr)} {es : List MX} : H b = some (.lst ws) → Rps K H L ws ds → MxOk K H L vs os es → MxOk K H L (.ref b :: vs) (some b :: os) (.l ds :: es)
def COk (K : PySem.W.Frag) (H : Hp) (L : Addr → Prop) (vs : List V) (os : List (Option Addr)) : Cell → Prop
  | .lst ds => os = [] ∧ Rps K H L vs ds
  | .fz ds => Rps K H L vs ds
  | .mx es => MxOk K H L vs os es
def VOk (K : PySem.W.Frag) (H : Hp) (cm : List CA) (S : Store) (v : V) : RV → Prop
  | .d y => Rp K H (Lv cm S) v y
  | .c n => ∃ a os, v = .ref a ∧ cm[n]? = some (a, os)
  | .g i j => ∃ a, v = .ref a ∧ H a = some (.rng i j)
  | .r n i => ∃ a os b, v = .ref b ∧ cm[n]? = some (a, os) ∧ os[i]? = some (some b)
structure SR (K : PySem.W.Frag) (H : Hp) (cm : List CA) (S : Store) : Prop where
  len : cm.length = S.length
  inj : ∀ (n m : Nat) (b : Addr), Own cm n b → Own cm m b → n = m
  rin : ∀ (n : Nat) (a : Addr) (os : List (Option Addr)), cm[n]? = some (a, os) → some a ∉ os ∧ ∀ (i j : Nat) (b : Addr), os[i]? = some (some b) → os[j]? = some (some b) → i = j
  trk : ∀ (n : Nat) (b : Addr), Own cm n b → ∃ xs, H b = some (.lst xs)
  ok : ∀ (n : Nat) (a : Addr) (os : List (Option Addr)) (c : Cell), cm[n]? = some (a, os) → S[n]? = some c → ∃ vs, H a = some (.lst vs) ∧ COk K H (Lv cm S) vs os c
/-- from one state to a later one -/
structure Tr (H : Hp) (cm : List CA) (S : Store) (H' : Hp) (cm' : List CA) (S' : Store) : Prop where
  ext : ∀ b o, H b = some o → ¬ Lv cm S b → H' b = some o
  pre : Pre cm cm'
  lv : ∀ b, Lv cm' S' b → Lv cm S b ∨ H b = none
section
variable {K : PySem.W.Frag} {H H1 H' : Hp} {L L' : Addr → Prop} {cm cm1 cm' : List CA} {S S1 S' : Store}
theorem MxOk.length : ∀ {vs : List V} {os : List (Option Addr)} {es : List MX}, MxOk K H L vs os es → vs.length = es.length ∧ os.length = es.length
  | _, _, _, .nil => ⟨rfl, rfl⟩
  | _, _, _, .a _ r => by simp [MxOk.length r]
  | _, _, _, .l _ _ r => by simp [MxOk.length r]
/-- where nothing of a row is written -/
theorem MxOk.mono {os : List (Option Addr)} (e : Ext H H' L L') (k : ∀ b ws, H b = some (.lst ws) → some b ∈ os → H' b = some (.lst ws)) : ∀ {vs : List V} {es : List MX}, MxOk K H L vs os es → MxOk K H' L' vs os es := by
  induction os with
  | nil => intro vs es h; cases h; exact .nil
  | cons o os ih =>
    intro vs es h
    cases h with
    | a h r => exact .a (Rp.mono e h) (ih (fun b ws q z => k b ws q (List.mem_cons_of_mem _ z)) r)
    | l h q r => exact .l (k _ _ h List.mem_cons_self) (Rps.mono e q) (ih (fun b ws q z => k b ws q (List.mem_cons_of_mem _ z)) r)
theorem COk.mono (e : Ext H H' L L') {os : List (Option Addr)} (k : ∀ b ws, H b = some (.lst ws) → some b ∈ os → H' b = some (.lst ws)) {vs : List V} {c : Cell} (h : COk K H L vs os c) : COk K H' L' vs os c := by
  cases c with
  | lst ds => exact ⟨h.1, Rps.mono e h.2⟩
  | fz ds => exact Rps.mono e h
  | mx es => exact MxOk.mono e k h
theorem MxOk.app : ∀ {vs ws : List V} {os ps : List (Option Addr)} {es fs : List MX}, MxOk K H L vs os es → MxOk K H L ws ps fs → MxOk K H L (vs ++ ws) (os ++ ps) (es ++ fs)
  | _, _, _, _, _, _, .nil, q => q
  | _, _, _, _, _, _, .a h r, q => .a h (MxOk.app r q)
  | _, _, _, _, _, _, .l h h' r, q => .l h h' (MxOk.app r q)
theorem MxOk.get : ∀ {vs : List V} {os : List (Option Addr)} {es : List MX} {i : Nat} {e : MX}, MxOk K H L vs os es → es[i]? = some e → ∃ v o, vs[i]? = some v ∧ os[i]? = some o ∧ MxOk K H L [v] [o] [e]
  | _, _, _, _, _, .nil, h => by simp at h
  | _, _, _, 0, _, .a h r, e => by simp at e; subst e; exact ⟨_, _, rfl, rfl, .a h .nil⟩
  | _, _, _, 0, _, .l h h' r, e => by simp at e; subst e; exact ⟨_, _, rfl, rfl, .l h h' .nil⟩
  | _, _, _, i + 1, _, .a h r, e => by obtain ⟨v, o, a, b, c⟩ := MxOk.get (i := i) r (by simpa using e); exact ⟨v, o, by simpa using a, by simpa using b, c⟩
  | _, _, _, i + 1, _, .l h h' r, e => by obtain ⟨v, o, a, b, c⟩ := MxOk.get (i := i) r (by simpa using e); exact ⟨v, o, by simpa using a, by simpa using b, c⟩
theorem MxOk.ofR : ∀ {vs : List V} {ds : List D}, Rps K H L vs ds → MxOk K H L vs (ds.map fun _ => none) (ds.map .a)
  | _, _, .nil => .nil
  | _, _, .cons h r => .a h (MxOk.ofR r)
/-- .. no longer to be changed, or looked at -/
theorem MxOk.rps {P : Addr → Prop} (hp : ∀ b, P b → L b) : ∀ {vs : List V} {os : List (Option Addr)} {es : List MX}, MxOk K H L vs os es → (∀ b, some b ∈ os → ¬ P b) → Rps K H P vs (es.map MX.dat)
  | _, _, _, .nil, _ => .nil
  | _, _, _, .a h r, k => .cons (Rp.weak hp h) (MxOk.rps hp r fun b z => k b (List.mem_cons_of_mem _ z))
  | _, _, _, .l h h' r, k => .cons (.lst (.inl ⟨h, k _ List.mem_cons_self⟩) (Rps.weak hp h')) (MxOk.rps hp r fun b z => k b (List.mem_cons_of_mem _ z))
theorem MxOk.at_row {vs : List V} {os : List (Option Addr)} {es : List MX} (h : MxOk K H L vs os es) {i : Nat} {ds : List D} (e : es[i]? = some (.l ds)) : ∃ b ws, vs[i]? = some (.ref b) ∧ os[i]? = some (some b) ∧ H b = some (.lst ws) ∧ Rps K H L ws ds := by
  obtain ⟨v, o, a, b, c⟩ := h.get e
  cases c with
  | l h1 h2 _ => exact ⟨_, _, a, b, h1, h2⟩
theorem MxOk.at_a {vs : List V} {os : List (Option Addr)} {es : List MX} (h : MxOk K H L vs os es) {i : Nat} {d : D} (e : es[i]? = some (.a d)) : ∃ v, vs[i]? = some v ∧ os[i]? = some none ∧ Rp K H L v d := by
  obtain ⟨v, o, a, b, c⟩ := h.get e
  cases c with
  | a h1 _ => exact ⟨_, a, b, h1⟩
theorem MxOk.set_a {v : V} {d : D} (q : Rp K H L v d) : ∀ {vs : List V} {os : List (Option Addr)} {es : List MX} (i : Nat) (_ : os[i]? = some none), MxOk K H L vs os es → MxOk K H L (vs.set i v) os (es.set i (.a d))
  | _, _, _, _, h, .nil => by simp at h
  | _, _, _, 0, h, .a _ r => .a q r
  | _, _, _, 0, h, .l _ _ r => by simp at h
  | _, _, _, i + 1, h, .a z r => .a z (MxOk.set_a q i (by simpa using h) r)
  | _, _, _, i + 1, h, .l z z' r => .l z z' (MxOk.set_a q i (by simpa using h) r)
/-- a row is written -/
theorem MxOk.set_row {b : Addr} {ws : List V} {ds : List D} (e : Ext H H' L L') (hb : H' b = some (.lst ws)) (q : Rps K H' L' ws ds) : ∀ {vs : List V} {os : List (Option Addr)} {es : List MX} (i : Nat), os[i]? = some (some b) →
    (∀ j c xs, j ≠ i → os[j]? = some (some c) → H c = some (.lst xs) → H' c = some (.lst xs)) → MxOk K H L vs os es → MxOk K H' L' vs os (es.set i (.l ds))
  | _, _, _, _, h, _, .nil => by simp at h
  | _, _, _, 0, h, k, .a _ r => by simp at h
  | _, _, _, 0, h, k, .l z z' r => by
    simp only [List.getElem?_cons_zero, Option.some.injEq] at h
    subst h
    exact .l hb q (r.mono e fun c xs q' z => by
      obtain ⟨j, hj⟩ := List.mem_iff_getElem?.mp z
      exact k (j + 1) c xs (by omega) (by simpa using hj) q')
  | _, _, _, i + 1, h, k, .a z r => .a (Rp.mono e z) (MxOk.set_row e hb q i (by simpa using h) (fun j c xs n h1 h2 => k (j + 1) c xs (by omega) (by simpa using h1) h2) r)
  | _, _, _, i + 1, h, k, .l z z' r => .l (k 0 _ _ (by omega) rfl z) (Rps.mono e z') (MxOk.set_row e hb q i (by simpa using h) (fun j c xs n h1 h2 => k (j + 1) c xs (by omega) (by simpa using h1) h2) r)
theorem Own.at_ {n : Nat} {a : Addr} {os : List (Option Addr)} (h : cm[n]? = some (a, os)) : Own cm n a := ⟨a, os, h, .inl rfl⟩
theorem Own.row {n i : Nat} {a b : Addr} {os : List (Option Addr)} (h : cm[n]? = some (a, os)) (e : os[i]? = some (some b)) : Own cm n b := ⟨a, os, h, .inr (List.mem_of_getElem? e)⟩
theorem Own.mrow {n : Nat} {a b : Addr} {os : List (Option Addr)} (h : cm[n]? = some (a, os)) (e : some b ∈ os) : Own cm n b := ⟨a, os, h, .inr e⟩
theorem SR.okL (r : SR K H cm S) {n : Nat} {a : Addr} {os : List (Option Addr)} {ds : List D} (h1 : cm[n]? = some (a, os)) (h2 : S[n]? = some (.lst ds)) : ∃ vs, H a = some (.lst vs) ∧ Rps K H (Lv cm S) vs ds := by
  obtain ⟨vs, e, q⟩ := r.ok n a os _ h1 h2
  exact ⟨vs, e, q.2⟩
theorem SR.okF (r : SR K H cm S) {n : Nat} {a : Addr} {os : List (Option Addr)} {ds : List D} (h1 : cm[n]? = some (a, os)) (h2 : S[n]? = some (.fz ds)) : ∃ vs, H a = some (.lst vs) ∧ Rps K H (Lv cm S) vs ds := by
  obtain ⟨vs, e, q⟩ := r.ok n a os _ h1 h2
  exact ⟨vs, e, q⟩
theorem SR.okM (r : SR K H cm S) {n : Nat} {a : Addr} {os : List (Option Addr)} {es : List MX} (h1 : cm[n]? = some (a, os)) (h2 : S[n]? = some (.mx es)) : ∃ vs, H a = some (.lst vs) ∧ MxOk K H (Lv cm S) vs os es := r.ok n a os _ h1 h2
theorem SR.lst (r : SR K H cm S) : ∀ b, Lv cm S b → ∃ xs, H b = some (.lst xs) := fun b ⟨n, _, o, _, _⟩ => r.trk n b o
theorem Tr.refl : Tr H cm S H cm S := ⟨fun _ _ h _ => h, Pre.refl, fun _ h => .inl h⟩
theorem Tr.trans (a : Tr H cm S H1 cm1 S1) (b : Tr H1 cm1 S1 H' cm' S') : Tr H cm S H' cm' S' where
  ext := fun c o h n => b.ext c o (a.ext c o h n) fun l => by
    rcases a.lv c l with z | z
    · exact n z
    · rw [h] at z; cases z
  pre := a.pre.trans b.pre
  lv := fun c l => by
    rcases b.lv c l with z | z
    · exact a.lv c z
    · cases q : H c with
      | none => exact .inr rfl
      | some o =>
        by_cases n : Lv cm S c
        · exact .inl n
        · rw [a.ext c o q n] at z; cases z
theorem Tr.toExt (t : Tr H cm S H' cm' S') (r : SR K H cm S) : Ext H H' (Lv cm S) (Lv cm' S') := ⟨t.ext, r.lst, t.lv⟩
/-- a new tracked object that is no cell -/
theorem Tr.new (r : SR K H cm S) {p : Addr} {o : HO} (h : H p = none) : Tr H cm S (upd H p o) cm S :=
  ⟨fun b u e _ => by rw [upd_ne (ne_of_none e h)]; exact e, Pre.refl, fun _ l => .inl l⟩
theorem Ext.new {L : Addr → Prop} (hl : ∀ b, L b → ∃ xs, H b = some (.lst xs)) {p : Addr} {o : HO} (h : H p = none) : Ext H (upd H p o) L L :=
  ⟨fun b u e _ => by rw [upd_ne (ne_of_none e h)]; exact e, hl, fun _ l => .inl l⟩
theorem SR.new (r : SR K H cm S) {p : Addr} {o : HO} (h : H p = none) : SR K (upd H p o) cm S where
  len := r.len
  inj := r.inj
  rin := r.rin
  trk := fun n b q => let ⟨xs, e⟩ := r.trk n b q; ⟨xs, by rw [upd_ne (ne_of_none e h)]; exact e⟩
  ok := fun n a os c h1 h2 => by
    obtain ⟨vs, e, q⟩ := r.ok n a os c h1 h2
    exact ⟨vs, by rw [upd_ne (ne_of_none e h)]; exact e, q.mono (Ext.new r.lst h) fun b ws q _ => by rw [upd_ne (ne_of_none q h)]; exact q⟩
theorem SR.notin (r : SR K H cm S) {p : Addr} (h : H p = none) (n : Nat) : ¬ Own cm n p := fun o => by
  obtain ⟨xs, e⟩ := r.trk n p o
  rw [h] at e; cases e
theorem SR.cell (r : SR K H cm S) {n : Nat} {c : Cell} (h : S[n]? = some c) : ∃ a os, cm[n]? = some (a, os) ∧ ∃ vs, H a = some (.lst vs) ∧ COk K H (Lv cm S) vs os c := by
  have hl : n < cm.length := by rw [r.len]; exact (List.getElem?_eq_some_iff.mp h).1
  exact ⟨cm[n].1, cm[n].2, List.getElem?_eq_getElem hl, r.ok n _ _ c (List.getElem?_eq_getElem hl) h⟩
theorem Own.lt {n : Nat} {b : Addr} (o : Own cm n b) : n < cm.length := by
  obtain ⟨a, os, e, _⟩ := o
  exact (List.getElem?_eq_some_iff.mp e).1
theorem SR.live (r : SR K H cm S) {n : Nat} {b : Addr} (o : Own cm n b) {c : Cell} (h : S[n]? = some c) : Lv cm S b ↔ c.live = true := by
  constructor
  · rintro ⟨m, c', o', h', l⟩
    have := r.inj n m b o o'
    subst this
    rw [h] at h'; cases h'
    exact l
  · exact fun l => ⟨n, c, o, h, l⟩
/-- cells of the same places with other contents -/
theorem Lv.set {n : Nat} {c c' : Cell} (h2 : S[n]? = some c) (hl : c'.live = true → c.live = true) {b : Addr} (h : Lv cm (S.set n c') b) : Lv cm S b := by
  obtain ⟨m, x, o, e, l⟩ := h
  by_cases hm : m = n
  · subst hm
    have hn : m < S.length := (List.getElem?_eq_some_iff.mp h2).1
    rw [List.getElem?_set_self hn] at e; cases e
    exact ⟨m, c, o, h2, hl l⟩
  · rw [List.getElem?_set_ne (Ne.symm hm)] at e
    exact ⟨m, x, o, e, l⟩
/-- an address of a live cell is written, its cell changed -/
theorem wrC_tr (r : SR K H cm S) {n : Nat} {b : Addr} {c c' : Cell} (h1 : Own cm n b) (h2 : S[n]? = some c) (hl : c.live = true) (o : HO) : Tr H cm S (upd H b o) cm (S.set n c') where
  ext := fun d u e nl => by
    rw [upd_ne (fun z => nl (by rw [z]; exact ⟨n, c, h1, h2, hl⟩))]; exact e
  pre := Pre.refl
  lv := fun d l => .inl (l.set h2 fun _ => hl)
theorem wrC_sr (r : SR K H cm S) {n : Nat} {a b : Addr} {os : List (Option Addr)} {c c' : Cell} {ws : List V} (ha : cm[n]? = some (a, os)) (h1 : Own cm n b) (h2 : S[n]? = some c) (hl : c.live = true)
    (q : ∃ vs, upd H b (.lst ws) a = some (.lst vs) ∧ COk K (upd H b (.lst ws)) (Lv cm (S.set n c')) vs os c') : SR K (upd H b (.lst ws)) cm (S.set n c') := by
  have t := wrC_tr (c' := c') r h1 h2 hl (.lst ws)
  have hn : n < S.length := (List.getElem?_eq_some_iff.mp h2).1
  refine ⟨by rw [List.length_set]; exact r.len, r.inj, r.rin, fun m d o => ?_, fun m d ps cc e1 e2 => ?_⟩
  · by_cases hd : d = b
    · subst hd; exact ⟨ws, upd_same⟩
    · obtain ⟨xs, e⟩ := r.trk m d o
      exact ⟨xs, by rw [upd_ne hd]; exact e⟩
  · by_cases hm : m = n
    · subst hm
      rw [ha] at e1; cases e1
      rw [List.getElem?_set_self hn] at e2; cases e2
      exact q
    · rw [List.getElem?_set_ne (Ne.symm hm)] at e2
      obtain ⟨vs, e, z⟩ := r.ok m d ps cc e1 e2
      have nb : ∀ x, Own cm m x → x ≠ b := fun x o z => hm (r.inj m n x o (by rw [z]; exact h1))
      exact ⟨vs, by rw [upd_ne (nb d (.at_ e1))]; exact e, z.mono (t.toExt r) fun x ws' q z => by rw [upd_ne (nb x (.mrow e1 z))]; exact q⟩
/-- the live cell n is written -/
theorem wr_tr (r : SR K H cm S) {n : Nat} {a : Addr} {os : List (Option Addr)} {ds es : List D} (h1 : cm[n]? = some (a, os)) (h2 : S[n]? = some (.lst ds)) (o : HO) : Tr H cm S (upd H a o) cm (S.set n (.lst es)) := wrC_tr r (.at_ h1) h2 rfl o
theorem wr_sr (r : SR K H cm S) {n : Nat} {a : Addr} {os : List (Option Addr)} {ds es : List D} {ws : List V} (h1 : cm[n]? = some (a, os)) (h2 : S[n]? = some (.lst ds)) (q : Rps K H (Lv cm S) ws es) : SR K (upd H a (.lst ws)) cm (S.set n (.lst es)) := by
  obtain ⟨_, _, z⟩ := r.ok n a os _ h1 h2
  exact wrC_sr r h1 (.at_ h1) h2 rfl ⟨ws, upd_same, z.1, q.mono ((wr_tr (es := es) r h1 h2 (.lst ws)).toExt r)⟩
/-- an item of a list of lists -/
theorem wm_tr (r : SR K H cm S) {n : Nat} {a : Addr} {os : List (Option Addr)} {es fs : List MX} (h1 : cm[n]? = some (a, os)) (h2 : S[n]? = some (.mx es)) (o : HO) : Tr H cm S (upd H a o) cm (S.set n (.mx fs)) := wrC_tr r (.at_ h1) h2 rfl o
theorem wm_sr (r : SR K H cm S) {n : Nat} {a : Addr} {os : List (Option Addr)} {es fs : List MX} {ws : List V} (h1 : cm[n]? = some (a, os)) (h2 : S[n]? = some (.mx es)) (q : MxOk K H (Lv cm S) ws os fs) : SR K (upd H a (.lst ws)) cm (S.set n (.mx fs)) :=
  wrC_sr r h1 (.at_ h1) h2 rfl ⟨ws, upd_same, MxOk.mono ((wm_tr (fs := fs) r h1 h2 (.lst ws)).toExt r) (fun b xs q z => by
    have hb : b ≠ a := fun e => (r.rin n a os h1).1 (by rw [← e]; exact z)
    rw [upd_ne hb]; exact q) q⟩
/-- a row is written -/
theorem wrow_tr (r : SR K H cm S) {n i : Nat} {a b : Addr} {os : List (Option Addr)} {es fs : List MX} (h1 : cm[n]? = some (a, os)) (h2 : S[n]? = some (.mx es)) (hb : os[i]? = some (some b)) (o : HO) : Tr H cm S (upd H b o) cm (S.set n (.mx fs)) := wrC_tr r (.row h1 hb) h2 rfl o
theorem wrow_sr (r : SR K H cm S) {n i : Nat} {a b : Addr} {os : List (Option Addr)} {es : List MX} {ws : List V} {ds : List D} (h1 : cm[n]? = some (a, os)) (h2 : S[n]? = some (.mx es)) (hb : os[i]? = some (some b)) (q : Rps K H (Lv cm S) ws ds) : SR K (upd H b (.lst ws)) cm (S.set n (.mx (es.set i (.l ds)))) := by
  obtain ⟨vs, e, z⟩ := r.okM h1 h2
  have t := wrow_tr (fs := es.set i (.l ds)) r h1 h2 hb (.lst ws)
  have hab : a ≠ b := fun z => (r.rin n a os h1).1 (by rw [z]; exact List.mem_of_getElem? hb)
  exact wrC_sr r h1 (.row h1 hb) h2 rfl ⟨vs, by rw [upd_ne hab]; exact e, MxOk.set_row (t.toExt r) upd_same (q.mono (t.toExt r)) i hb (fun j c xs hj hc e => by
    rw [upd_ne fun z => hj ((r.rin n a os h1).2 j i b (by rw [← z]; exact hc) hb)]; exact e) z⟩
/-- a cell is frozen -/
theorem fzC_tr (r : SR K H cm S) {n : Nat} {c : Cell} {ds : List D} (h2 : S[n]? = some c) : Tr H cm S H cm (S.set n (.fz ds)) :=
  ⟨fun _ _ h _ => h, Pre.refl, fun b l => .inl (l.set h2 fun z => by cases z)⟩
theorem fzC_sr (r : SR K H cm S) {n : Nat} {c : Cell} {ds : List D} (h2 : S[n]? = some c) (q : ∀ a os vs, cm[n]? = some (a, os) → COk K H (Lv cm S) vs os c → Rps K H (Lv cm (S.set n (.fz ds))) vs ds) : SR K H cm (S.set n (.fz ds)) := by
  have hn : n < S.length := (List.getElem?_eq_some_iff.mp h2).1
  have t := fzC_tr (ds := ds) r h2
  refine ⟨by rw [List.length_set]; exact r.len, r.inj, r.rin, r.trk, fun m b os cc e1 e2 => ?_⟩
  by_cases hm : m = n
  · subst hm
    rw [List.getElem?_set_self hn] at e2; cases e2
    obtain ⟨vs, e, z⟩ := r.ok m b os _ e1 h2
    exact ⟨vs, e, q b os vs e1 z⟩
  · rw [List.getElem?_set_ne (Ne.symm hm)] at e2
    obtain ⟨vs, e, z⟩ := r.ok m b os cc e1 e2
    exact ⟨vs, e, z.mono (t.toExt r) fun _ _ q _ => q⟩
theorem fz_tr (r : SR K H cm S) {n : Nat} {ds : List D} (h2 : S[n]? = some (.lst ds)) : Tr H cm S H cm (S.set n (.fz ds)) := fzC_tr r h2
theorem fz_sr (r : SR K H cm S) {n : Nat} {ds : List D} (h2 : S[n]? = some (.lst ds)) : SR K H cm (S.set n (.fz ds)) := fzC_sr r h2 fun a os vs _ q => q.2.mono ((fz_tr r h2).toExt r)
theorem fz_own (r : SR K H cm S) {n : Nat} {b : Addr} {ds : List D} (o : Own cm n b) (h2 : S[n]? = some (.fz ds)) : ¬ Lv cm S b := fun l => by
  have z := (r.live o h2).mp l
  cases z
theorem fz_dead (r : SR K H cm S) {n : Nat} {a : Addr} {os : List (Option Addr)} {ds : List D} (h1 : cm[n]? = some (a, os)) (h2 : S[n]? = some (.fz ds)) : ¬ Lv cm S a := fz_own r (.at_ h1) h2
theorem fm_tr (r : SR K H cm S) {n : Nat} {es : List MX} (h2 : S[n]? = some (.mx es)) : Tr H cm S H cm (S.set n (.fz (es.map MX.dat))) := fzC_tr r h2
theorem fm_sr (r : SR K H cm S) {n : Nat} {es : List MX} (h2 : S[n]? = some (.mx es)) : SR K H cm (S.set n (.fz (es.map MX.dat))) := by
  have hn : n < S.length := (List.getElem?_eq_some_iff.mp h2).1
  refine fzC_sr r h2 fun a os vs h1 q => MxOk.rps (fun b l => l.set h2 fun z => by cases z) q fun b hb l => ?_
  obtain ⟨m, c, o, e, l⟩ := l
  have := r.inj n m b (.mrow h1 hb) o
  subst this
  rw [List.getElem?_set_self hn] at e; cases e; cases l
theorem app_at {p : CA} {n : Nat} {a : Addr} {os : List (Option Addr)} (e : (cm ++ [p])[n]? = some (a, os)) : cm[n]? = some (a, os) ∨ (n = cm.length ∧ p = (a, os)) := by
  by_cases hm : n < cm.length
  · rw [List.getElem?_append_left hm] at e; exact .inl e
  · have hm' : n < (cm ++ [p]).length := (List.getElem?_eq_some_iff.mp e).1
    have : n = cm.length := by simp at hm'; omega
    subst this
    simp at e
    exact .inr ⟨rfl, e⟩
theorem Own.app {p : CA} {n : Nat} {b : Addr} (o : Own (cm ++ [p]) n b) : Own cm n b ∨ (n = cm.length ∧ (b = p.1 ∨ some b ∈ p.2)) := by
  obtain ⟨a, os, e, q⟩ := o
  rcases app_at e with e | ⟨e1, rfl⟩
  · exact .inl ⟨a, os, e, q⟩
  · exact .inr ⟨e1, q⟩
theorem Own.new {p : CA} {b : Addr} (h : b = p.1 ∨ some b ∈ p.2) : Own (cm ++ [p]) cm.length b := ⟨p.1, p.2, by simp, h⟩
theorem Lv.app {c : Cell} {p : CA} (hl : cm.length = S.length) {b : Addr} (h : Lv (cm ++ [p]) (S ++ [c]) b) : Lv cm S b ∨ ((b = p.1 ∨ some b ∈ p.2) ∧ c.live = true) := by
  obtain ⟨m, x, o, e, l⟩ := h
  rcases o.app with o | ⟨rfl, q⟩
  · have := o.lt
    rw [List.getElem?_append_left (by omega)] at e
    exact .inl ⟨m, x, o, e, l⟩
  · rw [hl] at e
    simp at e
    subst e
    exact .inr ⟨q, l⟩
theorem Lv.left {c : Cell} {p : CA} (hl : cm.length = S.length) {b : Addr} (h : Lv cm S b) : Lv (cm ++ [p]) (S ++ [c]) b := by
  obtain ⟨m, x, o, e, l⟩ := h
  exact ⟨m, x, o.pre Pre.app, by rw [List.getElem?_append_left (by have := o.lt; omega)]; exact e, l⟩
theorem Lv.newc {c : Cell} {p : CA} (hl : cm.length = S.length) (hc : c.live = true) {b : Addr} (h : b = p.1 ∨ some b ∈ p.2) : Lv (cm ++ [p]) (S ++ [c]) b := ⟨cm.length, c, .new h, by rw [hl]; simp, hc⟩
/-- a new cell: of a new list, rows that nobody else has -/
theorem app_srC (hl : cm.length = S.length) (inj : ∀ n m b, Own cm n b → Own cm m b → n = m) (rin : ∀ (n : Nat) (a : Addr) (os : List (Option Addr)), cm[n]? = some (a, os) → some a ∉ os ∧ ∀ (i j : Nat) (b : Addr), os[i]? = some (some b) → os[j]? = some (some b) → i = j)
    {p : CA} {vs : List V} {cc : Cell} (hc : cc.live = true) (hp : ∀ n b, (b = p.1 ∨ some b ∈ p.2) → ¬ Own cm n b) (hr : some p.1 ∉ p.2 ∧ ∀ (i j : Nat) (b : Addr), p.2[i]? = some (some b) → p.2[j]? = some (some b) → i = j)
    (trk : ∀ n b, Own cm n b → ∃ xs, H b = some (.lst xs)) (trp : ∀ b, some b ∈ p.2 → ∃ xs, H b = some (.lst xs))
    (old : ∀ (n : Nat) (a : Addr) (os : List (Option Addr)) (c : Cell), cm[n]? = some (a, os) → S[n]? = some c → ∃ ws, H a = some (.lst ws) ∧ COk K H (fun b => Lv cm S b ∨ (b = p.1 ∨ some b ∈ p.2)) ws os c)
    (new : H p.1 = some (.lst vs)) (q : COk K H (fun b => Lv cm S b ∨ (b = p.1 ∨ some b ∈ p.2)) vs p.2 cc) : SR K H (cm ++ [p]) (S ++ [cc]) := by
  have ex : Ext H H (fun b => Lv cm S b ∨ (b = p.1 ∨ some b ∈ p.2)) (Lv (cm ++ [p]) (S ++ [cc])) := ⟨fun _ _ h _ => h, fun b h => by
      rcases h with ⟨n, c, o, _⟩ | rfl | h
      · exact trk n b o
      · exact ⟨_, new⟩
      · exact trp b h, fun b h => .inl ((Lv.app hl h).elim .inl fun z => .inr z.1)⟩
  refine ⟨by simp [hl], fun n m b o o' => ?_, fun n a os e => ?_, fun n b o => ?_, fun n a os c e1 e2 => ?_⟩
  · rcases o.app with o | ⟨rfl, z⟩ <;> rcases o'.app with o' | ⟨rfl, z'⟩
    · exact inj n m b o o'
    · exact absurd o (hp n b z')
    · exact absurd o' (hp m b z)
    · rfl
  · rcases app_at e with e | ⟨_, rfl⟩
    · exact rin n a os e
    · exact hr
  · rcases o.app with o | ⟨_, rfl | z⟩
    · exact trk n b o
    · exact ⟨_, new⟩
    · exact trp b z
  · rcases app_at e1 with e1 | ⟨rfl, rfl⟩
    · have hm := (List.getElem?_eq_some_iff.mp e1).1
      rw [List.getElem?_append_left (by rw [← hl]; exact hm)] at e2
      obtain ⟨ws, e, z⟩ := old n a os c e1 e2
      exact ⟨ws, e, z.mono ex fun _ _ q _ => q⟩
    · rw [hl] at e2
      simp at e2
      subst e2
      exact ⟨vs, new, q.mono ex fun _ _ q _ => q⟩
/-- a new list -/
theorem fr_mkC {p : Addr} {vs : List V} {cc : Cell} {os : List (Option Addr)} (ho : ∀ b, some b ∉ os) (hc : cc.live = true) (r : SR K H cm S) (hp : H p = none) (q : COk K H (Lv cm S) vs os cc) :
    SR K (upd H p (.lst vs)) (cm ++ [(p, os)]) (S ++ [cc]) ∧ Tr H cm S (upd H p (.lst vs)) (cm ++ [(p, os)]) (S ++ [cc]) := by
  have ex : Ext H (upd H p (.lst vs)) (Lv cm S) (fun b => Lv cm S b ∨ (b = p ∨ some b ∈ os)) :=
    ⟨fun b u e _ => by rw [upd_ne (ne_of_none e hp)]; exact e, r.lst, fun b h => by
      rcases h with h | rfl | h
      · exact .inl h
      · exact .inr hp
      · exact absurd h (ho b)⟩
  have kp : ∀ {b : Addr} {xs}, H b = some (.lst xs) → upd H p (.lst vs) b = some (.lst xs) := fun {b xs} e => by rw [upd_ne (ne_of_none e hp)]; exact e
  refine ⟨app_srC r.len r.inj r.rin hc (fun n b h => ?_) ⟨ho p, fun i j b e _ => absurd (List.mem_of_getElem? e) (ho b)⟩ (fun n b o => let ⟨xs, e⟩ := r.trk n b o; ⟨xs, kp e⟩) (fun b z => absurd z (ho b)) (fun n a ps c e1 e2 => ?_) upd_same (q.mono ex fun b _ _ z => absurd z (ho b)), ex.ext, Pre.app, fun b l => ex.lv b ((Lv.app r.len l).elim .inl fun z => .inr z.1)⟩
  · rcases h with h | z
    · have h : b = p := h
      subst h; exact r.notin hp n
    · exact absurd z (ho b)
  · obtain ⟨ws, e, z⟩ := r.ok n a ps c e1 e2
    exact ⟨ws, kp e, z.mono ex fun b xs q _ => kp q⟩
theorem fr_mk {p : Addr} {vs : List V} {ds : List D} (r : SR K H cm S) (hp : H p = none) (q : Rps K H (Lv cm S) vs ds) :
    SR K (upd H p (.lst vs)) (cm ++ [(p, [])]) (S ++ [.lst ds]) ∧ Tr H cm S (upd H p (.lst vs)) (cm ++ [(p, [])]) (S ++ [.lst ds]) := fr_mkC (by simp) rfl r hp ⟨rfl, q⟩
end
end Rf

set_option Elab.async false
set_option linter.all false
set_option maxRecDepth 100000
set_option maxHeartbeats 1000000
namespace Rf
open PySem PySem.Spec PyProof.Rows L2

/-! ### readings -/
abbrev Mg := Str → Option Value
def PV (K : PySem.W.Frag) (H : Hp) (cm : List CA) (S : Store) (v : V) (r : RV) (H' : Hp) (cm' : List CA) (S' : Store) : Prop :=
  Tr H cm S H' cm' S' ∧ SR K H' cm' S' ∧ VOk K H' cm' S' v r
def PX (K : PySem.W.Frag) (H : Hp) (cm : List CA) (S : Store) (v : V) (r : RX) (H' : Hp) (cm' : List CA) (S' : Store) : Prop := match r with
  | .d d => Tr H cm S H' cm' S' ∧ SR K H' cm' S' ∧ Rp K H' (Lv cm' S') v d
  | .c n => Tr H cm S H' cm' S' ∧ SR K H' cm' S' ∧ VOk K H' cm' S' v (.c n)
  | .g i j => Tr H cm S H' cm' S' ∧ SR K H' cm' S' ∧ VOk K H' cm' S' v (.g i j)
  | .r n i => Tr H cm S H' cm' S' ∧ SR K H' cm' S' ∧ VOk K H' cm' S' v (.r n i)
  | .f ds => ∃ p, v = .ref p ∧ Pre cm cm' ∧ Tr H cm S H' (cm' ++ [(p, [])]) (S' ++ [.lst ds]) ∧ SR K H' (cm' ++ [(p, [])]) (S' ++ [.lst ds])
  | .fm es => ∃ p os, v = .ref p ∧ Pre cm cm' ∧ Tr H cm S H' (cm' ++ [(p, os)]) (S' ++ [.mx es]) ∧ SR K H' (cm' ++ [(p, os)]) (S' ++ [.mx es])
  | .tc d0 n => Tr H cm S H' cm' S' ∧ SR K H' cm' S' ∧ ∃ b w0 a os, v = .ref b ∧ SqT K H' b [w0, .ref a] ∧ Rp K H' (Lv cm' S') w0 d0 ∧ cm'[n]? = some (a, os)
  | .tf d0 ds => ∃ p b w0, v = .ref b ∧ SqT K H' b [w0, .ref p] ∧ Rp K H' (Lv cm' S') w0 d0 ∧ Pre cm cm' ∧ Tr H cm S H' (cm' ++ [(p, [])]) (S' ++ [.lst ds]) ∧ SR K H' (cm' ++ [(p, [])]) (S' ++ [.lst ds])
def PD (K : PySem.W.Frag) (H : Hp) (cm : List CA) (S : Store) (v : V) (d : D) (H' : Hp) (cm' : List CA) (S' : Store) : Prop :=
  Tr H cm S H' cm' S' ∧ SR K H' cm' S' ∧ Rp K H' (Lv cm' S') v d
def PB (K : PySem.W.Frag) (H : Hp) (cm : List CA) (S : Store) (b : Bool) (a : Bool) (H' : Hp) (cm' : List CA) (S' : Store) : Prop :=
  Tr H cm S H' cm' S' ∧ SR K H' cm' S' ∧ b = a
inductive VsOk (K : PySem.W.Frag) (H : Hp) (cm : List CA) (S : Store) : List V → List RV → Prop
  | nil : VsOk K H cm S [] []
  | cons {v : V} {r : RV} {vs : List V} {rs : List RV} : VOk K H cm S v r → VsOk K H cm S vs rs → VsOk K H cm S (v :: vs) (r :: rs)
def PVs (K : PySem.W.Frag) (H : Hp) (cm : List CA) (S : Store) (vs : List V) (rs : List RV) (H' : Hp) (cm' : List CA) (S' : Store) : Prop :=
  Tr H cm S H' cm' S' ∧ SR K H' cm' S' ∧ VsOk K H' cm' S' vs rs
/-- an exception lies so -/
def XO (K : PySem.W.Frag) (mg : Mg) (H : Hp) (cm : List CA) (S : Store) (x : Exn) (cls : Value) (d : Option Addr) : Prop :=
  mg x.cls = some cls ∧ ∃ a fs, d = some a ∧ H a = some (.xd fs) ∧ fs.map (·.1) = x.flds.map (·.1) ∧ Rps K H (Lv cm S) (fs.map (·.2)) (x.flds.map (·.2))
def RE (K : PySem.W.Frag) (mg : Mg) (E : XK) (H : Hp) (cm : List CA) (S : Store) (x : Exn) (S' : Store) : Prop :=
  ∀ cls d H' cm', Tr H cm S H' cm' S' → SR K H' cm' S' → XO K mg H' cm' S' x cls d → E cls d H'
abbrev Post (α β : Type) := Hp → List CA → Store → β → α → Hp → List CA → Store → Prop
def okG {α β : Type} (K : PySem.W.Frag) (mg : Mg) (E : XK) (P : Post α β) (Q : β → Hp → Prop) (H : Hp) (cm : List CA) (S : Store) : Res α → Prop
  | .ok a S' => ∀ b H' cm', P H cm S b a H' cm' S' → Q b H'
  | .exc x S' => RE K mg E H cm S x S'
  | .stuck => False
structure ER (K : PySem.W.Frag) (H : Hp) (cm : List CA) (S : Store) (ρ : Rf.Env) (σ : L2.St) : Prop where
  len : ρ.length = σ.length
  at' : ∀ (i : Nat) (r : RV), ρ[i]? = some (some r) → ∃ v, σ[i]? = some (some v) ∧ VOk K H cm S v r
abbrev Rd' (α : Type) := Rf.Env → Store → Res α
def tG {α β : Type} (K : PySem.W.Frag) (mg : Mg) (E : XK) (P : Post α β) (f : Rd' α) : L2.St → Hp → (β → Hp → Prop) → Prop := fun σ H Q =>
  ∃ ρ cm S, SR K H cm S ∧ ER K H cm S ρ σ ∧ okG K mg E P Q H cm S (f ρ S)
abbrev tX (K : PySem.W.Frag) (mg : Mg) (E : XK) (f : Rd' RX) : TE := tG K mg E (PX K) f
abbrev tV (K : PySem.W.Frag) (mg : Mg) (E : XK) (f : Rd' RV) : TE := tG K mg E (PV K) f
abbrev tD (K : PySem.W.Frag) (mg : Mg) (E : XK) (f : Rd' D) : TE := tG K mg E (PD K) f
abbrev tB (K : PySem.W.Frag) (mg : Mg) (E : XK) (f : Rd' Bool) : TT := tG K mg E (PB K) f
abbrev tA (K : PySem.W.Frag) (mg : Mg) (E : XK) (f : Rd' (List RV)) : TA := tG K mg E (PVs K) f

section
variable {K : PySem.W.Frag} {mg : Mg} {E : XK} {H H1 H' : Hp} {cm cm1 cm' : List CA} {S S1 S' : Store} {ρ : Rf.Env} {σ : L2.St}
theorem VOk.mono (t : Tr H cm S H' cm' S') (r : SR K H cm S) {v : V} : ∀ {x : RV}, VOk K H cm S v x → VOk K H' cm' S' v x
  | .d _, h => Rp.mono (t.toExt r) h
  | .c n, ⟨a, os, e, h⟩ => by
    obtain ⟨m, h'⟩ := t.pre n a os h
    exact ⟨a, _, e, h'⟩
  | .g i j, ⟨a, e, h⟩ => ⟨a, e, (t.toExt r).nl h fun _ z => nomatch z⟩
  | .r n i, ⟨a, os, b, e, h, h2⟩ => by
    obtain ⟨m, h'⟩ := t.pre n a os h
    exact ⟨a, _, b, e, h', by rw [List.getElem?_append_left (List.getElem?_eq_some_iff.mp h2).1]; exact h2⟩
theorem VsOk.mono (t : Tr H cm S H' cm' S') (r : SR K H cm S) : ∀ {vs : List V} {rs : List RV}, VsOk K H cm S vs rs → VsOk K H' cm' S' vs rs
  | _, _, .nil => .nil
  | _, _, .cons h q => .cons (h.mono t r) (VsOk.mono t r q)
theorem VsOk.length : ∀ {vs : List V} {rs : List RV}, VsOk K H cm S vs rs → vs.length = rs.length
  | _, _, .nil => rfl
  | _, _, .cons _ q => by simp [VsOk.length q]
theorem VsOk.get : ∀ {vs : List V} {rs : List RV} {i : Nat} {r : RV}, VsOk K H cm S vs rs → rs[i]? = some r → ∃ v, vs[i]? = some v ∧ VOk K H cm S v r
  | _, _, _, _, .nil, h => by simp at h
  | _, _, 0, _, .cons h q, e => by simp at e; subst e; exact ⟨_, rfl, h⟩
  | _, _, i + 1, _, .cons h q, e => by simp at e; obtain ⟨v, a, b⟩ := VsOk.get q e; exact ⟨v, by simpa using a, b⟩
theorem VsOk.append : ∀ {vs ws : List V} {rs us : List RV}, VsOk K H cm S vs rs → VsOk K H cm S ws us → VsOk K H cm S (vs ++ ws) (rs ++ us)
  | _, _, _, _, .nil, q => q
  | _, _, _, _, .cons h q, r => .cons h (VsOk.append q r)
theorem ER.mono (t : Tr H cm S H' cm' S') (r : SR K H cm S) (e : ER K H cm S ρ σ) : ER K H' cm' S' ρ σ :=
  ⟨e.len, fun i x h => let ⟨v, a, b⟩ := e.at' i x h; ⟨v, a, VOk.mono t r b⟩⟩
theorem ER.set (e : ER K H cm S ρ σ) {i : Nat} {v : V} {r : RV} (h : VOk K H cm S v r) : ER K H cm S (ρ.set i (some r)) (σ.set i (some v)) := by
  refine ⟨by simp [e.len], fun j x hx => ?_⟩
  by_cases hj : i = j
  · subst hj
    by_cases hl : i < ρ.length
    · rw [List.getElem?_set_self hl] at hx
      cases hx
      exact ⟨v, List.getElem?_set_self (by rw [← e.len]; exact hl), h⟩
    · rw [List.getElem?_eq_none (by simpa using hl)] at hx; cases hx
  · rw [List.getElem?_set_ne hj] at hx
    obtain ⟨w, a, b⟩ := e.at' j x hx
    exact ⟨w, by rw [List.getElem?_set_ne hj]; exact a, b⟩
theorem ER.none (e : ER K H cm S ρ σ) {i : Nat} : ER K H cm S (ρ.set i none) (σ.set i none) := by
  refine ⟨by simp [e.len], fun j x hx => ?_⟩
  by_cases hj : i = j
  · subst hj
    by_cases hl : i < ρ.length
    · rw [List.getElem?_set_self hl] at hx; cases hx
    · rw [List.getElem?_eq_none (by simpa using hl)] at hx; cases hx
  · rw [List.getElem?_set_ne hj] at hx
    obtain ⟨w, a, b⟩ := e.at' j x hx
    exact ⟨w, by rw [List.getElem?_set_ne hj]; exact a, b⟩
theorem ER.wipe (e : ER K H cm S ρ σ) : ∀ vs : List Nat, ER K H cm S (wipeE ρ vs) (L2.wipe σ vs)
  | [] => e
  | v :: vs => by unfold wipeE L2.wipe; exact (ER.wipe e vs).none

/-! what may be forgotten -/
theorem PX.tr {v : V} {r : RX} (h : PX K H cm S v r H' cm' S') (t : Tr H1 cm1 S1 H cm S) : PX K H1 cm1 S1 v r H' cm' S' := by
  cases r with
  | f ds =>
    obtain ⟨p, a, q, b, c⟩ := h
    exact ⟨p, a, t.pre.trans q, t.trans b, c⟩
  | fm ds =>
    obtain ⟨p, os, a, q, b, c⟩ := h
    exact ⟨p, os, a, t.pre.trans q, t.trans b, c⟩
  | tf d0 ds =>
    obtain ⟨p, b, w0, e, ht, hw, q, t1, r1⟩ := h
    exact ⟨p, b, w0, e, ht, hw, t.pre.trans q, t.trans t1, r1⟩
  | _ => exact ⟨t.trans h.1, h.2⟩
class Trs {α β : Type} (P : Post α β) : Prop where
  tr : ∀ {H H1 H' : Hp} {cm cm1 cm' : List CA} {S S1 S' : Store} {b : β} {a : α}, Tr H1 cm1 S1 H cm S → P H cm S b a H' cm' S' → P H1 cm1 S1 b a H' cm' S'
instance : Trs (PX K) := ⟨fun t h => h.tr t⟩
instance : Trs (PV K) := ⟨fun t h => ⟨t.trans h.1, h.2⟩⟩
instance : Trs (PD K) := ⟨fun t h => ⟨t.trans h.1, h.2⟩⟩
instance : Trs (PB K) := ⟨fun t h => ⟨t.trans h.1, h.2⟩⟩
instance : Trs (PVs K) := ⟨fun t h => ⟨t.trans h.1, h.2⟩⟩
theorem RE.step (t : Tr H cm S H1 cm1 S1) {x : Exn} (h : RE K mg E H cm S x S') : RE K mg E H1 cm1 S1 x S' := fun cls d H' cm' t' r' o => h cls d H' cm' (t.trans t') r' o
theorem okG.step {α β : Type} {P : Post α β} [Trs P] {Q : β → Hp → Prop} (t : Tr H cm S H1 cm1 S1) {r : Res α} (h : okG K mg E P Q H cm S r) : okG K mg E P Q H1 cm1 S1 r := by
  cases r with
  | ok a S' => exact fun b H' cm' p => h b H' cm' (Trs.tr t p)
  | exc x S' => exact RE.step t h
  | stuck => exact h
/-- a wish of some later state, that an exception may end -/
structure Zok (K : PySem.W.Frag) (mg : Mg) (E : XK) {β : Type} (exc : Exn → Store → β) (stuck : β) (Z : Hp → List CA → Store → β → Prop) : Prop where
  ex : ∀ {H cm S x S'}, Z H cm S (exc x S') → RE K mg E H cm S x S'
  st : ∀ {H cm S}, ¬ Z H cm S stuck
  step : ∀ {H cm S H1 cm1 S1 r}, Tr H cm S H1 cm1 S1 → Z H cm S r → Z H1 cm1 S1 r
theorem okG.zok {α β : Type} {P : Post α β} [Trs P] {Q : β → Hp → Prop} : Zok K mg E (Res.exc (α := α)) .stuck (okG K mg E P Q) := ⟨fun h => h, fun h => h, fun t h => okG.step t h⟩
theorem tG_bind {α β γ : Type} {P : Post α β} {f : Rd' α} {k : α → Store → Res γ} {Z : Hp → List CA → Store → Res γ → Prop} (z : Zok K mg E .exc .stuck Z) {Q : β → Hp → Prop}
    (hs : SR K H cm S) (he : ER K H cm S ρ σ) (h : Z H cm S ((f ρ S).bind k)) (hk : ∀ a S1 b H1 cm1, f ρ S = .ok a S1 → P H cm S b a H1 cm1 S1 → Z H cm S (k a S1) → Q b H1) : tG K mg E P f σ H Q := by
  refine ⟨ρ, cm, S, hs, he, ?_⟩
  cases e : f ρ S with
  | ok a S1 =>
    rw [e] at h
    exact fun b H' cm' p => hk a S1 b H' cm' e p h
  | exc x S1 =>
    rw [e] at h
    exact z.ex h
  | stuck =>
    rw [e] at h
    exact z.st h
theorem tG_out {α β : Type} {P : Post α β} {f : Rd' α} {k : α → Store → Out} {Z : Hp → List CA → Store → Out → Prop} (z : Zok K mg E .exc .stuck Z) {Q : β → Hp → Prop}
    (hs : SR K H cm S) (he : ER K H cm S ρ σ) (h : Z H cm S ((f ρ S).out k)) (hk : ∀ a S1 b H1 cm1, f ρ S = .ok a S1 → P H cm S b a H1 cm1 S1 → Z H cm S (k a S1) → Q b H1) : tG K mg E P f σ H Q := by
  refine ⟨ρ, cm, S, hs, he, ?_⟩
  cases e : f ρ S with
  | ok a S1 =>
    rw [e] at h
    exact fun b H' cm' p => hk a S1 b H' cm' e p h
  | exc x S1 =>
    rw [e] at h
    exact z.ex h
  | stuck =>
    rw [e] at h
    exact z.st h

/-! ### fresh lists -/
/-- a fresh list that nobody will change -/
theorem fr_tr {p : CA} {c : Cell} (hl : cm'.length = S'.length) (t : Tr H cm S H' (cm' ++ [p]) (S' ++ [c])) (h : Pre cm cm') : Tr H cm S H' cm' S' :=
  ⟨t.ext, h, fun b l => t.lv b (l.left hl)⟩
theorem fr_len {p : CA} {c : Cell} (r : SR K H' (cm' ++ [p]) (S' ++ [c])) : cm'.length = S'.length := by
  have := r.len
  simpa using this
theorem fr_dead {p : CA} {c : Cell} (r : SR K H' (cm' ++ [p]) (S' ++ [c])) {b : Addr} (hb : b = p.1 ∨ some b ∈ p.2) : ¬ Lv cm' S' b := fun ⟨n, _, o, _, _⟩ => by
  have := r.inj n cm'.length b (o.pre Pre.app) (.new hb)
  have := o.lt
  omega
/-- some of the cells -/
structure SubC (cm : List CA) (S : Store) (cm2 : List CA) (S2 : Store) : Prop where
  len : cm2.length = S2.length
  ix : ∃ f : Nat → Nat, (∀ n m, n < cm2.length → m < cm2.length → f n = f m → n = m) ∧ ∀ n, n < cm2.length → cm2[n]? = cm[f n]? ∧ S2[n]? = S[f n]?
theorem SubC.own (s : SubC cm S cm' S') : ∃ f : Nat → Nat, (∀ n m, n < cm'.length → m < cm'.length → f n = f m → n = m) ∧ (∀ n, n < cm'.length → cm'[n]? = cm[f n]? ∧ S'[n]? = S[f n]?) ∧ ∀ n b, Own cm' n b → Own cm (f n) b := by
  obtain ⟨f, h1, h2⟩ := s.ix
  refine ⟨f, h1, h2, fun n b o => ?_⟩
  have hn := o.lt
  obtain ⟨a, os, e, q⟩ := o
  exact ⟨a, os, by rw [← (h2 n hn).1]; exact e, q⟩
theorem SubC.lv (s : SubC cm S cm' S') {b : Addr} (h : Lv cm' S' b) : Lv cm S b := by
  obtain ⟨f, _, h2, h3⟩ := s.own
  obtain ⟨n, c, o, e, l⟩ := h
  exact ⟨f n, c, h3 n b o, by rw [← (h2 n o.lt).2]; exact e, l⟩
theorem SubC.ext (s : SubC cm S cm' S') (r : SR K H cm S) : Ext H H (Lv cm S) (Lv cm' S') := ⟨fun _ _ h _ => h, r.lst, fun b l => .inl (s.lv l)⟩
theorem SubC.sr (s : SubC cm S cm' S') (r : SR K H cm S) : SR K H cm' S' := by
  obtain ⟨f, h1, h2, h3⟩ := s.own
  refine ⟨s.len, fun n m b o o' => h1 n m o.lt o'.lt (r.inj _ _ b (h3 n b o) (h3 m b o')), fun n a os e => ?_, fun n b o => r.trk _ b (h3 n b o), fun n a os c e1 e2 => ?_⟩
  · have hn := (List.getElem?_eq_some_iff.mp e).1
    exact r.rin (f n) a os (by rw [← (h2 n hn).1]; exact e)
  · have hn := (List.getElem?_eq_some_iff.mp e1).1
    obtain ⟨vs, e, q⟩ := r.ok (f n) a os c (by rw [← (h2 n hn).1]; exact e1) (by rw [← (h2 n hn).2]; exact e2)
    exact ⟨vs, e, q.mono (s.ext r) fun _ _ q _ => q⟩
theorem SubC.tr {H0 : Hp} {cm0 : List CA} {S0 : Store} (s : SubC cm S cm' S') (t : Tr H0 cm0 S0 H cm S) (hp : Pre cm0 cm') : Tr H0 cm0 S0 H cm' S' := ⟨t.ext, hp, fun b l => t.lv b (s.lv l)⟩
theorem sub_take (r : SR K H cm S) (n : Nat) : SubC cm S (cm.take n) (S.take n) :=
  ⟨by rw [List.length_take, List.length_take, r.len], id, fun _ _ _ _ h => h, fun m hm => by
    rw [List.length_take] at hm
    exact ⟨List.getElem?_take_of_lt (by omega), List.getElem?_take_of_lt (by omega)⟩⟩
theorem fr_sr {p : CA} {c : Cell} (r : SR K H' (cm' ++ [p]) (S' ++ [c])) : SR K H' cm' S' := by
  have hl := fr_len r
  have s := sub_take r cm'.length
  rw [List.take_left' rfl, List.take_left' hl.symm] at s
  exact s.sr r
theorem fr_lst {p : Addr} {ds : List D} (r : SR K H' (cm' ++ [(p, [])]) (S' ++ [.lst ds])) : Rp K H' (Lv cm' S') (.ref p) (.lst ds) := by
  have hl := fr_len r
  obtain ⟨vs, e, q⟩ := r.okL (n := cm'.length) (a := p) (os := []) (ds := ds) (by simp) (by rw [hl]; simp)
  exact .lst (.inl ⟨e, fr_dead r (.inl rfl)⟩) (q.weak fun b l => l.left hl)
theorem fr_mx {p : Addr} {os : List (Option Addr)} {es : List MX} (r : SR K H' (cm' ++ [(p, os)]) (S' ++ [.mx es])) : Rp K H' (Lv cm' S') (.ref p) (.lst (es.map MX.dat)) := by
  have hl := fr_len r
  obtain ⟨vs, e, q⟩ := r.okM (n := cm'.length) (a := p) (os := os) (es := es) (by simp) (by rw [hl]; simp)
  exact .lst (.inl ⟨e, fr_dead r (.inl rfl)⟩) (q.rps (fun b l => l.left hl) fun b hb => fr_dead r (.inr hb))
theorem fr_new {p : CA} {c : Cell} (hc : c.live = true) (r : SR K H' (cm' ++ [p]) (S' ++ [c])) (t : Tr H cm S H' (cm' ++ [p]) (S' ++ [c])) (hp : Pre cm cm') {b : Addr} (hb : b = p.1 ∨ some b ∈ p.2) : H b = none := by
  have hl := fr_len r
  rcases t.lv b (.newc hl hc hb) with ⟨n, c, o, _⟩ | z
  · have := r.inj n cm'.length b ((o.pre hp).pre Pre.app) (.new hb)
    have := (o.pre hp).lt
    omega
  · exact z
theorem mk_mxl {p : Addr} {ds : List D} {vs : List V} (hl : cm'.length = S'.length) (s : SR K H' (cm' ++ [(p, [])]) (S' ++ [.lst ds])) (t : Tr H cm S H' (cm' ++ [(p, [])]) (S' ++ [.lst ds])) (pre : Pre cm cm') (hH : H' p = some (.lst vs)) (hr : Rps K H' (Lv (cm' ++ [(p, [])]) (S' ++ [.lst ds])) vs ds) :
    PV K H cm S (.ref p) (.c S'.length) H' (cm' ++ [(p, ds.map fun _ => none)]) (S' ++ [.mx (ds.map .a)]) := by
  have no : ∀ b, some b ∉ ds.map fun _ => (none : Option Addr) := fun b z => by
    obtain ⟨_, _, e⟩ := List.mem_map.mp z
    cases e
  have s1 := fr_sr s
  have lvE : ∀ b, (Lv cm' S' b ∨ (b = p ∨ some b ∈ ds.map fun _ => (none : Option Addr))) → Lv (cm' ++ [(p, [])]) (S' ++ [.lst ds]) b := fun b h => by
    rcases h with h | h | h
    · exact h.left hl
    · exact .newc hl rfl (.inl h)
    · exact absurd h (no b)
  refine ⟨⟨t.ext, pre.left, fun b l => t.lv b ?_⟩, app_srC hl s1.inj s1.rin rfl (fun n b h o => ?_) ⟨no p, fun i j b e _ => absurd (List.mem_of_getElem? e) (no b)⟩ s1.trk (fun b z => absurd z (no b)) (fun n a os c e1 e2 => ?_) hH ?_, p, ds.map fun _ => none, rfl, by rw [← hl]; simp⟩
  · rcases Lv.app hl l with l | l
    · exact l.left hl
    · exact lvE b (.inr l.1)
  · rcases h with h | z
    · have h : b = p := h
      subst h
      have := s.inj n cm'.length b (o.pre Pre.app) (.new (.inl rfl))
      have := o.lt
      omega
    · exact absurd z (no b)
  · have h1 := (List.getElem?_eq_some_iff.mp e1).1
    obtain ⟨ws, e, q⟩ := s.ok n a os c (by rw [List.getElem?_append_left h1]; exact e1) (by rw [List.getElem?_append_left (by omega)]; exact e2)
    exact ⟨ws, e, q.mono ⟨fun _ _ h _ => h, s.lst, fun b h => .inl (lvE b h)⟩ fun _ _ q _ => q⟩
  · exact MxOk.ofR (hr.weak lvE)
/-- what a result becomes -/
theorem PX.conv {v : V} {r : RX} (hs : SR K H cm S) (hp : PX K H cm S v r H' cm' S') {m : Md} {x : RV} {S2 : Store} (e : conv m r S' = .ok x S2) :
    ∃ cm2, PV K H cm S v x H' cm2 S2 := by
  cases r with
  | d d => cases m <;> (cases e; exact ⟨cm', hp⟩)
  | g d => cases m <;> (cases e; exact ⟨cm', hp⟩)
  | r n i => cases m <;> first | (cases e; exact ⟨cm', hp⟩) | (simp [Rf.conv] at e; done)
  | c n =>
    cases m with
    | cel => cases e; exact ⟨cm', hp⟩
    | rd => cases e; exact ⟨cm', hp⟩
    | mxl => cases e; exact ⟨cm', hp⟩
    | dat =>
      obtain ⟨t, s, a, os, ev, ea⟩ := hp
      cases q : S'[n]? with
      | none => simp [Rf.conv, q] at e
      | some c =>
        cases c with
        | lst ds =>
          simp only [Rf.conv, q, Res.ok.injEq] at e
          obtain ⟨rfl, rfl⟩ := e
          have s2 := fz_sr s q
          have hn : n < S'.length := (List.getElem?_eq_some_iff.mp q).1
          obtain ⟨vs, e2, z⟩ := s2.okF ea (List.getElem?_set_self hn)
          exact ⟨cm', t.trans (fz_tr s q), s2, by subst ev; exact .lst (.inl ⟨e2, fz_dead s2 ea (List.getElem?_set_self hn)⟩) z⟩
        | fz ds =>
          simp only [Rf.conv, q, Res.ok.injEq] at e
          obtain ⟨rfl, rfl⟩ := e
          obtain ⟨vs, e2, z⟩ := s.okF ea q
          exact ⟨cm', t, s, by subst ev; exact .lst (.inl ⟨e2, fz_dead s ea q⟩) z⟩
        | mx es =>
          simp only [Rf.conv, q, Res.ok.injEq] at e
          obtain ⟨rfl, rfl⟩ := e
          have s2 := fm_sr s q
          have hn : n < S'.length := (List.getElem?_eq_some_iff.mp q).1
          obtain ⟨vs, e2, z⟩ := s2.okF ea (List.getElem?_set_self hn)
          exact ⟨cm', t.trans (fm_tr s q), s2, by subst ev; exact .lst (.inl ⟨e2, fz_dead s2 ea (List.getElem?_set_self hn)⟩) z⟩
  | f ds =>
    obtain ⟨p, ev, pre, t, s⟩ := hp
    subst ev
    have hl := fr_len s
    have s1 := fr_sr s
    have q := fr_lst s
    cases m with
    | cel =>
      cases e
      exact ⟨cm' ++ [(p, [])], t, s, p, [], rfl, by rw [← hl]; simp⟩
    | mxl =>
      cases e
      have e1 : (S' ++ [Cell.lst ds])[S'.length]? = some (.lst ds) := by simp
      have e2 : (cm' ++ [((p, []) : CA)])[S'.length]? = some (p, []) := by rw [← hl]; simp
      obtain ⟨vs, hH, hr⟩ := s.okL e2 e1
      exact ⟨cm' ++ [(p, ds.map fun _ => none)], mk_mxl hl s t pre hH hr⟩
    | rd => cases e; exact ⟨cm', fr_tr hl t pre, s1, q⟩
    | dat => cases e; exact ⟨cm', fr_tr hl t pre, s1, q⟩
  | fm es =>
    obtain ⟨p, os, ev, pre, t, s⟩ := hp
    subst ev
    have hl := fr_len s
    have s1 := fr_sr s
    have q := fr_mx s
    cases m with
    | cel => cases e; exact ⟨cm' ++ [(p, os)], t, s, p, os, rfl, by rw [← hl]; simp⟩
    | mxl => cases e; exact ⟨cm' ++ [(p, os)], t, s, p, os, rfl, by rw [← hl]; simp⟩
    | rd => cases e; exact ⟨cm', fr_tr hl t pre, s1, q⟩
    | dat => cases e; exact ⟨cm', fr_tr hl t pre, s1, q⟩
  | tc d0 n => cases m <;> simp [Rf.conv] at e
  | tf d0 ds =>
    obtain ⟨p, b, w0, ev, ht, hw, pre, t, s⟩ := hp
    subst ev
    have hl := fr_len s
    have s1 := fr_sr s
    have q := fr_lst s
    cases m <;> (cases e; exact ⟨cm', fr_tr hl t pre, s1, .tup ht (.cons hw (.cons q .nil))⟩)
/-! ### a list of lists grows -/
theorem pre_set {n : Nat} {a : Addr} {os more : List (Option Addr)} (h : cm[n]? = some (a, os)) : Pre cm (cm.set n (a, os ++ more)) := fun m b ps e => by
  by_cases hm : m = n
  · subst hm
    rw [h] at e; cases e
    exact ⟨more, List.getElem?_set_self (List.getElem?_eq_some_iff.mp h).1⟩
  · exact ⟨[], by rw [List.getElem?_set_ne (Ne.symm hm), e, List.append_nil]⟩
theorem own_set {n m : Nat} {a b : Addr} {os more : List (Option Addr)} (h : cm[n]? = some (a, os)) (o : Own (cm.set n (a, os ++ more)) m b) : Own cm m b ∨ (m = n ∧ some b ∈ more) := by
  obtain ⟨c, ps, e, q⟩ := o
  by_cases hm : m = n
  · subst hm
    rw [List.getElem?_set_self (List.getElem?_eq_some_iff.mp h).1] at e; cases e
    rcases q with q | q
    · exact .inl ⟨a, os, h, .inl q⟩
    · rcases List.mem_append.mp q with q | q
      · exact .inl ⟨a, os, h, .inr q⟩
      · exact .inr ⟨rfl, q⟩
  · rw [List.getElem?_set_ne (Ne.symm hm)] at e
    exact .inl ⟨c, ps, e, q⟩
theorem adda_tr (r : SR K H cm S) {n : Nat} {a : Addr} {os : List (Option Addr)} {es fs : List MX} (h1 : cm[n]? = some (a, os)) (h2 : S[n]? = some (.mx es)) (o : HO) : Tr H cm S (upd H a o) (cm.set n (a, os ++ [none])) (S.set n (.mx fs)) where
  ext := fun b u e nl => by
    rw [upd_ne (fun z => nl (by rw [z]; exact ⟨n, _, .at_ h1, h2, rfl⟩))]; exact e
  pre := pre_set h1
  lv := fun b ⟨m, c, o, e, l⟩ => .inl (by
    have o1 := (own_set h1 o).elim id fun z => by simp at z
    by_cases hm : m = n
    · subst hm; exact ⟨m, _, o1, h2, rfl⟩
    · rw [List.getElem?_set_ne (Ne.symm hm)] at e; exact ⟨m, c, o1, e, l⟩)
theorem adda_sr (r : SR K H cm S) {n : Nat} {a : Addr} {os : List (Option Addr)} {es : List MX} {vs : List V} {v : V} {d : D} (h1 : cm[n]? = some (a, os)) (h2 : S[n]? = some (.mx es)) (hH : H a = some (.lst vs)) (q : Rp K H (Lv cm S) v d) :
    SR K (upd H a (.lst (vs ++ [v]))) (cm.set n (a, os ++ [none])) (S.set n (.mx (es ++ [.a d]))) := by
  have t := adda_tr (fs := es ++ [.a d]) r h1 h2 (.lst (vs ++ [v]))
  have hn := (List.getElem?_eq_some_iff.mp h1).1
  have hn2 := (List.getElem?_eq_some_iff.mp h2).1
  have own : ∀ {m b}, Own (cm.set n (a, os ++ [none])) m b → Own cm m b := fun {m b} o => (own_set h1 o).elim id fun z => by simp at z
  refine ⟨by rw [List.length_set, List.length_set]; exact r.len, fun m k b o o' => r.inj m k b (own o) (own o'), fun m b ps e => ?_, fun m b o => ?_, fun m b ps c e1 e2 => ?_⟩
  · by_cases hm : m = n
    · subst hm
      rw [List.getElem?_set_self hn] at e; cases e
      obtain ⟨z1, z2⟩ := r.rin m a os h1
      have lt : ∀ {i : Nat} {b : Addr}, (os ++ [none])[i]? = some (some b) → os[i]? = some (some b) := fun {i b} e => by
        by_cases hi : i < os.length
        · rw [List.getElem?_append_left hi] at e; exact e
        · have := (List.getElem?_eq_some_iff.mp e).1
          have hi' : i = os.length := by simp at this; omega
          subst hi'
          simp at e
      exact ⟨fun z => by simp at z; exact z1 z, fun i j b e e' => z2 i j b (lt e) (lt e')⟩
    · rw [List.getElem?_set_ne (Ne.symm hm)] at e
      exact r.rin m b ps e
  · by_cases hb : b = a
    · subst hb; exact ⟨_, upd_same⟩
    · obtain ⟨xs, e⟩ := r.trk m b (own o)
      exact ⟨xs, by rw [upd_ne hb]; exact e⟩
  · by_cases hm : m = n
    · subst hm
      rw [List.getElem?_set_self hn] at e1; cases e1
      rw [List.getElem?_set_self hn2] at e2; cases e2
      obtain ⟨us, e, z⟩ := r.okM h1 h2
      rw [hH] at e; cases e
      refine ⟨_, upd_same, MxOk.app (MxOk.mono (t.toExt r) (fun b xs q z => ?_) z) (.a (Rp.mono (t.toExt r) q) .nil)⟩
      have hb : b ≠ a := fun e => (r.rin m a os h1).1 (by rw [← e]; exact z)
      rw [upd_ne hb]; exact q
    · rw [List.getElem?_set_ne (Ne.symm hm)] at e1 e2
      obtain ⟨us, e, z⟩ := r.ok m b ps c e1 e2
      have nb : ∀ x, Own cm m x → x ≠ a := fun x o z => hm (r.inj m n x o (by rw [z]; exact .at_ h1))
      exact ⟨us, by rw [upd_ne (nb b (.at_ e1))]; exact e, z.mono (t.toExt r) fun x xs q z => by rw [upd_ne (nb x (.mrow e1 z))]; exact q⟩
section
variable {n : Nat} {a p : Addr} {os : List (Option Addr)} {es : List MX} {ds : List D}
theorem addrow_lv (hl : cm.length = S.length) (h1 : cm[n]? = some (a, os)) (h2 : S[n]? = some (.mx es)) {fs : List MX} {b : Addr} (h : Lv (cm.set n (a, os ++ [some p])) (S.set n (.mx fs)) b) : Lv (cm ++ [(p, [])]) (S ++ [.lst ds]) b := by
  obtain ⟨m, c, o, e, l⟩ := h
  rcases own_set h1 o with o1 | ⟨rfl, o1⟩
  · refine Lv.left hl ?_
    by_cases hm : m = n
    · subst hm; exact ⟨m, _, o1, h2, rfl⟩
    · rw [List.getElem?_set_ne (Ne.symm hm)] at e; exact ⟨m, c, o1, e, l⟩
  · simp at o1
    subst o1
    exact .newc hl rfl (.inl rfl)
theorem addrow_tr {H0 : Hp} {cm0 : List CA} {S0 : Store} (hl : cm.length = S.length) (h1 : cm[n]? = some (a, os)) (h2 : S[n]? = some (.mx es)) {fs : List MX} (o : HO) (t : Tr H0 cm0 S0 H (cm ++ [(p, [])]) (S ++ [.lst ds])) (pre : Pre cm0 cm) :
    Tr H0 cm0 S0 (upd H a o) (cm.set n (a, os ++ [some p])) (S.set n (.mx fs)) where
  ext := fun b u e nl => by
    have hb : b ≠ a := fun z => by
      subst z
      rcases t.lv b (Lv.left hl ⟨n, _, .at_ h1, h2, rfl⟩) with z | z
      · exact nl z
      · rw [e] at z; cases z
    rw [upd_ne hb]
    exact t.ext b u e nl
  pre := pre.trans (pre_set h1)
  lv := fun b l => t.lv b (addrow_lv hl h1 h2 l)
theorem addrow_sr {vs : List V} (r : SR K H (cm ++ [(p, [])]) (S ++ [.lst ds])) (h1 : cm[n]? = some (a, os)) (h2 : S[n]? = some (.mx es)) (hH : H a = some (.lst vs)) :
    SR K (upd H a (.lst (vs ++ [.ref p]))) (cm.set n (a, os ++ [some p])) (S.set n (.mx (es ++ [.l ds]))) := by
  have hl := fr_len r
  have hn := (List.getElem?_eq_some_iff.mp h1).1
  have hn2 := (List.getElem?_eq_some_iff.mp h2).1
  have np : ∀ m, ¬ Own cm m p := fun m o => by
    have := r.inj m cm.length p (o.pre Pre.app) (.new (.inl rfl))
    have := o.lt
    omega
  have hpa : p ≠ a := fun z => np n (by rw [z]; exact .at_ h1)
  have r1 := fr_sr r
  obtain ⟨ws, hHp, hw⟩ := r.okL (n := cm.length) (a := p) (os := []) (ds := ds) (by simp) (by rw [hl]; simp)
  have ex : Ext H (upd H a (.lst (vs ++ [.ref p]))) (Lv (cm ++ [(p, [])]) (S ++ [.lst ds])) (Lv (cm.set n (a, os ++ [some p])) (S.set n (.mx (es ++ [.l ds])))) :=
    ⟨fun b u e nl => by rw [upd_ne (fun z => nl (by rw [z]; exact Lv.left hl ⟨n, _, .at_ h1, h2, rfl⟩))]; exact e, r.lst, fun b l => .inl (addrow_lv hl h1 h2 l)⟩
  refine ⟨by rw [List.length_set, List.length_set]; exact hl, fun m k b o o' => ?_, fun m b ps e => ?_, fun m b o => ?_, fun m b ps c e1 e2 => ?_⟩
  · rcases own_set h1 o with o1 | ⟨hm, o1⟩ <;> rcases own_set h1 o' with o2 | ⟨hk, o2⟩
    · exact r1.inj m k b o1 o2
    · simp at o2; subst o2; exact absurd o1 (np m)
    · simp at o1; subst o1; exact absurd o2 (np k)
    · omega
  · by_cases hm : m = n
    · subst hm
      rw [List.getElem?_set_self hn] at e; cases e
      obtain ⟨z1, z2⟩ := r1.rin m a os h1
      have lt : ∀ {i : Nat} {b : Addr}, (os ++ [some p])[i]? = some (some b) → os[i]? = some (some b) ∨ (i = os.length ∧ b = p) := fun {i b} e => by
        by_cases hi : i < os.length
        · rw [List.getElem?_append_left hi] at e; exact .inl e
        · have := (List.getElem?_eq_some_iff.mp e).1
          have hi' : i = os.length := by simp at this; omega
          subst hi'
          simp at e
          exact .inr ⟨rfl, e.symm⟩
      refine ⟨fun z => ?_, fun i j b e e' => ?_⟩
      · rcases List.mem_append.mp z with z | z
        · exact z1 z
        · simp at z; exact hpa z.symm
      · rcases lt e with e1 | ⟨h3, h4⟩ <;> rcases lt e' with e2 | ⟨h5, h6⟩
        · exact z2 i j b e1 e2
        · rw [h6] at e1; exact absurd (Own.row h1 e1) (np m)
        · rw [h4] at e2; exact absurd (Own.row h1 e2) (np m)
        · omega
    · rw [List.getElem?_set_ne (Ne.symm hm)] at e
      exact r1.rin m b ps e
  · by_cases hb : b = a
    · subst hb; exact ⟨_, upd_same⟩
    · rcases own_set h1 o with o1 | ⟨_, o1⟩
      · obtain ⟨xs, e⟩ := r1.trk m b o1
        exact ⟨xs, by rw [upd_ne hb]; exact e⟩
      · simp at o1; subst o1
        exact ⟨ws, by rw [upd_ne hb]; exact hHp⟩
  · by_cases hm : m = n
    · subst hm
      rw [List.getElem?_set_self hn] at e1; cases e1
      rw [List.getElem?_set_self hn2] at e2; cases e2
      obtain ⟨us, e, z⟩ := r.okM (n := m) (by rw [List.getElem?_append_left hn]; exact h1) (by rw [List.getElem?_append_left hn2]; exact h2)
      rw [hH] at e; cases e
      refine ⟨_, upd_same, MxOk.app (MxOk.mono ex (fun b xs q z => ?_) z) (.l (by rw [upd_ne hpa]; exact hHp) (hw.mono ex) .nil)⟩
      have hb : b ≠ a := fun e => (r1.rin m a os h1).1 (by rw [← e]; exact z)
      rw [upd_ne hb]; exact q
    · rw [List.getElem?_set_ne (Ne.symm hm)] at e1 e2
      have hm1 := (List.getElem?_eq_some_iff.mp e1).1
      have hm2 := (List.getElem?_eq_some_iff.mp e2).1
      obtain ⟨us, e, z⟩ := r.ok m b ps c (by rw [List.getElem?_append_left hm1]; exact e1) (by rw [List.getElem?_append_left hm2]; exact e2)
      have nb : ∀ x, Own cm m x → x ≠ a := fun x o z => hm (r1.inj m n x o (by rw [z]; exact .at_ h1))
      exact ⟨us, by rw [upd_ne (nb b (.at_ e1))]; exact e, z.mono ex fun x xs q z => by rw [upd_ne (nb x (.mrow e1 z))]; exact q⟩
end
end
end Rf

set_option Elab.async false
set_option linter.all false
set_option maxRecDepth 100000
set_option maxHeartbeats 1000000
namespace Rf
open PySem PySem.Spec PyProof.Rows L2

theorem line_eq : line = sizeLine := by rw [sizeLine_eq]; rfl
/-! ### reading -/
def Rq (K : PySem.W.Frag) (H : Hp) (L : Addr → Prop) (v : V) (d : D) : Prop :=
  Rp K H L v d ∨ ∃ a vs ds, v = .ref a ∧ d = .lst ds ∧ SqE K H a vs ∧ Rps K H L vs ds
section
variable {K : PySem.W.Frag} {mg : Mg} {E : XK} {H H1 H' : Hp} {cm cm1 cm' : List CA} {S S1 S' : Store} {L : Addr → Prop} {v w : V} {d e : D}
theorem mxAt_some {n : Nat} {es : List MX} (h : mxAt S n = some es) : S[n]? = some (.mx es) := by
  unfold mxAt at h
  split at h
  · rename_i q; cases h; exact q
  · cases h
theorem cellAt_some {n : Nat} {ds : List D} (h : cellAt S n = some ds) : S[n]? = some (.lst ds) ∨ S[n]? = some (.fz ds) := by
  unfold cellAt at h
  split at h
  · rename_i q; cases h; exact .inl q
  · rename_i q; cases h; exact .inr q
  · cases h
theorem cellAt_ok (s : SR K H cm S) {n : Nat} {ds : List D} {ad : Addr} {os : List (Option Addr)} (h : cm[n]? = some (ad, os)) (e : cellAt S n = some ds) : ∃ vs, H ad = some (.lst vs) ∧ Rps K H (Lv cm S) vs ds := by
  rcases cellAt_some e with q | q
  · exact s.okL h q
  · exact s.okF h q
theorem rowAt_some {n i : Nat} {ds : List D} (h : rowAt S n i = some ds) : ∃ es, S[n]? = some (.mx es) ∧ es[i]? = some (.l ds) := by
  unfold rowAt at h
  simp only [Option.bind_eq_some_iff] at h
  obtain ⟨es, h1, h2⟩ := h
  refine ⟨es, mxAt_some h1, ?_⟩
  split at h2
  · rename_i q; cases h2; exact q
  · cases h2
theorem row_ok (s : SR K H cm S) {n i : Nat} {ds : List D} {a b : Addr} {os : List (Option Addr)} (h : cm[n]? = some (a, os)) (hb : os[i]? = some (some b)) (e : rowAt S n i = some ds) : ∃ ws, H b = some (.lst ws) ∧ Rps K H (Lv cm S) ws ds := by
  obtain ⟨es, e1, e2⟩ := rowAt_some e
  obtain ⟨vs, _, q⟩ := s.okM h e1
  obtain ⟨b', ws, _, h2, h3, h4⟩ := q.at_row e2
  rw [hb] at h2; cases h2
  exact ⟨ws, h3, h4⟩
theorem rd_ok (r : SR K H cm S) : ∀ {x : RV}, VOk K H cm S v x → rdV S x = some d → Rq K H (Lv cm S) v d
  | .d d', h, e => by cases e; exact .inl h
  | .g _ _, h, e => by cases e
  | .c n, ⟨a, os, ev, ea⟩, e => by
    simp only [rdV, Option.map_eq_some_iff] at e
    obtain ⟨ds, e1, rfl⟩ := e
    obtain ⟨vs, e2, z⟩ := cellAt_ok r ea e1
    exact .inr ⟨a, vs, ds, ev, rfl, .inl e2, z⟩
  | .r n i, ⟨a, os, b, ev, ea, eb⟩, e => by
    simp only [rdV, Option.map_eq_some_iff] at e
    obtain ⟨ds, e1, rfl⟩ := e
    obtain ⟨vs, e2, z⟩ := row_ok r ea eb e1
    exact .inr ⟨b, vs, ds, ev, rfl, .inl e2, z⟩
abbrev L0 : Addr → Prop := fun _ => False
theorem Rq.wk (h : Rq K H L v d) : Rp K H L0 v d := by
  rcases h with h | ⟨a, vs, ds, rfl, rfl, q, z⟩
  · exact h.weak fun _ z => z.elim
  · refine .lst ?_ (z.weak fun _ z => z.elim)
    rcases q with q | q
    · exact .inl ⟨q, fun z => z⟩
    · exact .inr q
theorem rdW_ok (r : SR K H cm S) : ∀ {x : RV}, VOk K H cm S v x → rdW S x = some d → Rp K H L0 v d
  | .d d', h, e => (rd_ok r h e).wk
  | .g _ _, h, e => by cases e
  | .r n i, h, e => (rd_ok (x := .r n i) r h e).wk
  | .c n, ⟨a, os, ev, ea⟩, e => by
    subst ev
    simp only [rdW] at e
    cases q : S[n]? with
    | none => rw [q] at e; cases e
    | some c =>
      rw [q] at e
      cases c with
      | lst ds =>
        cases e
        obtain ⟨vs, e2, z⟩ := r.okL ea q
        exact .lst (.inl ⟨e2, fun z => z⟩) (z.weak fun _ z => z.elim)
      | fz ds =>
        cases e
        obtain ⟨vs, e2, z⟩ := r.okF ea q
        exact .lst (.inl ⟨e2, fun z => z⟩) (z.weak fun _ z => z.elim)
      | mx es =>
        cases e
        obtain ⟨vs, e2, z⟩ := r.okM ea q
        exact .lst (.inl ⟨e2, fun z => z⟩) (z.rps (fun _ z => z.elim) fun _ _ z => z)
theorem Rq.non (h : Rq K H L v .non) : v = .non := by
  rcases h with h | ⟨_, _, _, _, e, _⟩
  · cases h; rfl
  · cases e
theorem Rq.bl {b : Bool} (h : Rq K H L v (.bl b)) : v = .bl b := by
  rcases h with h | ⟨_, _, _, _, e, _⟩
  · cases h; rfl
  · cases e
theorem Rq.int {b : Int} (h : Rq K H L v (.int b)) : v = .int b := by
  rcases h with h | ⟨_, _, _, _, e, _⟩
  · cases h; rfl
  · cases e
theorem Rq.str {b : Str} (h : Rq K H L v (.str b)) : v = .str b := by
  rcases h with h | ⟨_, _, _, _, e, _⟩
  · cases h; rfl
  · cases e
theorem Rq.tup {ds : List D} (h : Rq K H L v (.tup ds)) : ∃ a vs, v = .ref a ∧ SqT K H a vs ∧ Rps K H L vs ds := by
  rcases h with h | ⟨_, _, _, _, e, _⟩
  · cases h with | tup a b => exact ⟨_, _, rfl, a, b⟩
  · cases e
theorem Rq.lst {ds : List D} (h : Rq K H L v (.lst ds)) : ∃ a vs, v = .ref a ∧ SqE K H a vs ∧ Rps K H L vs ds := by
  rcases h with h | ⟨a, vs, ds', ev, e, q, z⟩
  · cases h with | lst a b => exact ⟨_, _, rfl, a.sqE, b⟩
  · cases e; exact ⟨a, vs, ev, q, z⟩
theorem Rq.dp (h : Rq K H L v d) : Dp K H v d.py := by
  rcases h with h | ⟨a, vs, ds, ev, e, q, z⟩
  · exact h.dp
  · subst ev e; exact .lst q.sq z.dp
/-! results -/
theorem mkD (r : SR K H cm S) {x : V} {a : D} (h : Rp K H (Lv cm S) x a) : PX K H cm S x (.d a) H cm S := ⟨Tr.refl, r, h⟩
theorem mkT (r : SR K H cm S) {p : Addr} {vs : List V} {ds : List D} (hp : H p = none) (q : Rps K H (Lv cm S) vs ds) : PX K H cm S (.ref p) (.d (.tup ds)) (upd H p (.tup vs)) cm S :=
  ⟨Tr.new r hp, r.new hp, .tup (.inl (.inl upd_same)) (q.mono (Ext.new r.lst hp))⟩
theorem mkF (r : SR K H cm S) {p : Addr} {vs : List V} {ds : List D} (hp : H p = none) (q : Rps K H (Lv cm S) vs ds) : PX K H cm S (.ref p) (.f ds) (upd H p (.lst vs)) cm S :=
  let ⟨a, b⟩ := fr_mk r hp q
  ⟨p, rfl, Pre.refl, b, a⟩
end

/-- what an operation's result is worth, the store being as it was -/
def RX1 (K : PySem.W.Frag) (H : Hp) (Q : VK) (cm : List CA) (S : Store) : Option RX → Prop
  | some r => ∀ v H' cm', PX K H cm S v r H' cm' S → Q v H'
  | none => False
section
variable {X : Cx}
def rB (K : PySem.W.Frag) (op : Operator) : R2 := fun x y H Q => ∃ cm S d e, SR K H cm S ∧ Rq K H (Lv cm S) x d ∧ Rq K H (Lv cm S) y e ∧ RX1 K H Q cm S (binD op d e)
theorem mulOk_ok {i j : Int} (h : mulOk i j = true) : IntMulOk i j := by
  unfold mulOk at h
  simp only [Bool.or_eq_true, decide_eq_true_eq] at h
  rcases h with (h | h) | h
  · exact CMul.ok (.inl ⟨by omega, by omega⟩)
  · exact CMul.ok (.inr ⟨by omega, by omega⟩)
  · exact CMulW.ok h
theorem op_fdivL : OpR X (binaryOp .FloorDiv) (rI (fun _ j => j ≠ 0 ∧ j.natAbs.log2 < 9000) fun i j => .int (i.fdiv j)) := opI fun _ _ _ _ _ _ _ hc q => floordiv_int hc.1 q (.inl (PyProof.noPylong_of_log2 hc.2))
theorem op_bin (op : Operator) : OpR X (binaryOp op) (rB X.K op) := by
  intro pins s σ H x y v u Q I rx ry h
  obtain ⟨cm, S, d, e, r, hx, hy, q⟩ := h
  cases op with
  | Add =>
    cases d with
    | int i => cases e with
      | int j =>
        have ex := hx.int; have ey := hy.int; subst ex ey
        exact op_add pins s σ H _ _ v u Q I rx ry ⟨i, j, rfl, rfl, q _ _ cm (mkD r (.int _))⟩
      | _ => exact q.elim
    | str a => cases e with
      | str b =>
        have ex := hx.str; have ey := hy.str; subst ex ey
        by_cases hz : a.length + b.length ≤ line
        · simp only [binD, if_pos hz] at q
          exact op_add_str pins s σ H _ _ v u Q I rx ry ⟨a, b, rfl, rfl, by rw [← line_eq]; exact hz, q _ _ cm (mkD r (.str _))⟩
        · simp only [binD, if_neg hz] at q; exact q.elim
      | _ => exact q.elim
    | tup xs => cases e with
      | tup ys =>
        obtain ⟨a, vs, rfl, ha, hva⟩ := hx.tup
        obtain ⟨b, ws, rfl, hb, hvb⟩ := hy.tup
        by_cases hz : xs.length + ys.length ≤ line
        · simp only [binD, if_pos hz] at q
          refine op_catA pins s σ H _ _ v u Q I rx ry ⟨a, b, vs, ws, rfl, rfl, ha, hb, by rw [hva.length, hvb.length, ← line_eq]; exact hz, fun z => ?_, fun z1 z2 => ?_, fun z1 z2 p hp => ?_⟩
          · subst z
            cases hva
            exact q _ _ cm (mkD r (.tup hb hvb))
          · subst z2
            cases hvb
            rw [List.append_nil] at q
            exact q _ _ cm (mkD r (.tup ha hva))
          · exact q _ _ cm (mkT r hp (hva.append hvb))
        · simp only [binD, if_neg hz] at q; exact q.elim
      | _ => exact q.elim
    | lst xs => cases e with
      | lst ys =>
        obtain ⟨a, vs, rfl, ha, hva⟩ := hx.lst
        obtain ⟨b, ws, rfl, hb, hvb⟩ := hy.lst
        by_cases hz : xs.length + ys.length ≤ line
        · simp only [binD, if_pos hz] at q
          cases rx
          cases ry
          obtain ⟨z, its, n, r1, hl, e⟩ := lstE I ha
          obtain ⟨z2, its2, n2, r2, hl2, e2⟩ := lstE I hb
          have hz' : its.length + its2.length ≤ sizeLine := by rw [← hl, ← hl2, hva.length, hvb.length, ← line_eq]; exact hz
          refine PySem.P.add_list e e2 ?_ (by rw [List.size_toArray, List.size_toArray]; exact hz')
          have ea : its.toArray ++ its2.toArray = (its ++ its2).toArray := by simp
          rw [ea]
          exact ⟨.ref _, _, I.lnew (t' := s.toks) (r1.append r2) (by rw [List.length_append]; omega), rfl, q _ _ cm (mkF r I.fresh (hva.append hvb))⟩
        · simp only [binD, if_neg hz] at q; exact q.elim
      | _ => exact q.elim
    | _ => exact q.elim
  | Sub =>
    cases d with
    | int i => cases e with
      | int j =>
        have ex := hx.int; have ey := hy.int; subst ex ey
        exact op_sub pins s σ H _ _ v u Q I rx ry ⟨i, j, rfl, rfl, q _ _ cm (mkD r (.int _))⟩
      | _ => exact q.elim
    | _ => exact q.elim
  | Mult =>
    cases d with
    | int i => cases e with
      | int j =>
        have ex := hx.int; have ey := hy.int; subst ex ey
        by_cases hz : mulOk i j = true
        · simp only [binD, if_pos hz] at q
          obtain ⟨t, rfl⟩ := rx
          obtain ⟨t', rfl⟩ := ry
          exact mul_int ⟨.int _, H, I.tok _, ⟨_, rfl⟩, q _ _ cm (mkD r (.int _))⟩ (mulOk_ok hz)
        · simp only [binD, if_neg hz] at q; exact q.elim
      | _ => exact q.elim
    | lst xs => cases e with
      | int k =>
        obtain ⟨a, vs, rfl, ha, hva⟩ := hx.lst
        have ey := hy.int; subst ey
        by_cases hz : -9223372036854775808 ≤ k ∧ k < 9223372036854775808 ∧ xs.length * k.toNat ≤ line
        · simp only [binD, if_pos hz] at q
          obtain ⟨h1, h2, hz⟩ := hz
          cases rx
          obtain ⟨t, rfl⟩ := ry
          obtain ⟨z, its, n, r1, hl, e⟩ := lstE I ha
          have hz3 : its.length * k.toNat ≤ sizeLine := by rw [← hl, hva.length, ← line_eq]; exact hz
          have hlen : its.toArray.size * k.toNat ≤ sizeLine := by rw [List.size_toArray]; exact hz3
          have hcap : ¬ its.toArray.size * k.toNat > (2 ^ 63 - 1) / 8 := by
            have : (sizeLine : Nat) ≤ (2 ^ 63 - 1) / 8 := by decide
            omega
          have hfit : ¬ (!Builtin.List.listFitsIndex k) = true := by
            rw [fitsIndex_both (by omega) (by omega)]
            exact Bool.false_ne_true
          have hlong : ¬ Builtin.List.listTooLong (its.toArray.size * k.toNat) = true := by
            rw [notLongL hlen]
            exact Bool.false_ne_true
          have hnew : List.foldl (fun x1 x2 => x1 ++ x2) #[] (List.replicate (if its.toArray.isEmpty = true then 0 else k.toNat) its.toArray) = (List.replicate k.toNat its).flatten.toArray := by
            have f0 : ∀ m : Nat, List.foldl (fun x1 x2 => x1 ++ x2) #[] (List.replicate m its.toArray) = (List.replicate m its).flatten.toArray := fun m => by
              have := foldl_rep its m []
              rw [List.nil_append] at this
              exact this
            rw [f0]
            cases its with
            | nil => simp
            | cons a r' => rw [if_neg (by simp)]
          refine wpAny_binaryOp_repeat_ref (T := "list") (U := "int") (by decide) ⟨_, e, rfl⟩ (fun s' => typeIs_int s' k t) noFill_list_mul F.fills_int_mul F.slot_int_rmul repeat_list F.slot_int_index.lookup
            (call_meets F.slot_int_rmul (typeIs_int s k t) F.entry_int_rmul (F.args_int_rmul_2 _ _) (int___rmul___int_list k t _ its.toArray n)
              ⟨e, rfl, ⟨_, e, rfl⟩, call_meets F.slot_list_mul ⟨_, e, rfl⟩ F.entry_list_mul (F.args_list_mul_2 _ _) (AutoListH.list___mul___list_int_3 _ its.toArray n k t hfit hcap hlong) ⟨e, ?_⟩⟩)
          rw [hnew]
          exact ⟨.ref _, _, I.lnew (t' := s.toks) (r1.rep k.toNat) (by rw [PyProof.Rows.lm_len_rep_flat, Nat.mul_comm, hl]; exact hz3), rfl, q _ _ cm (mkF r I.fresh (hva.rep _))⟩
        · simp only [binD, if_neg hz] at q; exact q.elim
      | _ => exact q.elim
    | tup xs => cases e with
      | int k =>
        obtain ⟨a, vs, rfl, ha, hva⟩ := hx.tup
        have ey := hy.int; subst ey
        by_cases hz : xs ≠ [] ∧ 2 ≤ k ∧ k ≤ 1000 ∧ xs.length ≤ 1000
        · simp only [binD, if_pos hz] at q
          obtain ⟨h0, h1, h2, h3⟩ := hz
          exact op_repT pins s σ H _ _ v u Q I rx ry ⟨a, k, vs, rfl, rfl, ha, fun e => h0 (by rw [e] at hva; cases hva; rfl), h1, h2, by rw [hva.length]; exact h3, fun p hp => q _ _ cm (mkT r hp (hva.rep _))⟩
        · simp only [binD, if_neg hz] at q; exact q.elim
      | _ => exact q.elim
    | _ => exact q.elim
  | FloorDiv =>
    cases d with
    | int i => cases e with
      | int j =>
        have ex := hx.int; have ey := hy.int; subst ex ey
        by_cases hz : j ≠ 0 ∧ j.natAbs.log2 < 9000
        · simp only [binD, if_pos hz] at q
          exact op_fdivL pins s σ H _ _ v u Q I rx ry ⟨i, j, rfl, rfl, hz, q _ _ cm (mkD r (.int _))⟩
        · simp only [binD, if_neg hz] at q; exact q.elim
      | _ => exact q.elim
    | _ => exact q.elim
  | Mod =>
    cases d with
    | int i => cases e with
      | int j =>
        have ex := hx.int; have ey := hy.int; subst ex ey
        by_cases hz : j ≠ 0
        · simp only [binD, if_pos hz] at q
          exact op_modN pins s σ H _ _ v u Q I rx ry ⟨i, j, rfl, rfl, hz, q _ _ cm (mkD r (.int _))⟩
        · simp only [binD, if_neg hz] at q; exact q.elim
      | _ => exact q.elim
    | _ => exact q.elim
  | Pow =>
    cases d with
    | int i => cases e with
      | int j =>
        have ex := hx.int; have ey := hy.int; subst ex ey
        by_cases hz : 0 ≤ j ∧ j ≤ 1000000 ∧ i.natAbs < 18446744073709551616
        · simp only [binD, if_pos hz] at q
          exact op_pow pins s σ H _ _ v u Q I rx ry ⟨i, j, rfl, rfl, ⟨hz.1, hz.2.1, hz.2.2⟩, q _ _ cm (mkD r (.int _))⟩
        · simp only [binD, if_neg hz] at q; exact q.elim
      | _ => exact q.elim
    | _ => exact q.elim
  | _ => cases d <;> (try exact q.elim) <;> cases e <;> exact q.elim
end
end Rf

set_option Elab.async false
set_option linter.all false
set_option maxRecDepth 100000
set_option maxHeartbeats 1000000
namespace Rf
open PySem PySem.Spec PyProof.Rows L2

/-! ### comparisons -/
mutual
theorem D.py_eq : ∀ a b : D, PyData.eqv a.py b.py = a.eq b
  | .non, b => by cases b <;> simp [D.py, PyData.eqv, D.eq]
  | .bl x, b => by cases b <;> simp [D.py, PyData.eqv, D.eq]
  | .int i, b => by
    cases b <;> simp [D.py, PyData.eqv, D.eq]
    rw [Bool.eq_iff_iff]; simp
  | .str x, b => by
    cases b <;> simp [D.py, PyData.eqv, D.eq]
    rw [Bool.eq_iff_iff]; simp
  | .tup xs, b => by
    cases b with
    | tup ys => simp only [D.py, PyData.eqv, D.eq]; exact D.pys_eq xs ys
    | _ => simp [D.py, PyData.eqv, D.eq]
  | .lst xs, b => by
    cases b with
    | lst ys => simp only [D.py, PyData.eqv, D.eq]; exact D.pys_eq xs ys
    | _ => simp [D.py, PyData.eqv, D.eq]
theorem D.pys_eq : ∀ a b : List D, PyData.eqvAll (D.pys a) (D.pys b) = D.eqs a b
  | [], [] => rfl
  | [], _ :: _ => rfl
  | _ :: _, [] => rfl
  | x :: xs, y :: ys => by
    simp only [D.pys, PyData.eqvAll, D.eqs]
    rw [D.py_eq x y, D.pys_eq xs ys]
end
mutual
theorem D.py_lay : ∀ a : D, a.py.canLay0 = a.okc
  | .non => by simp [D.py, PyData.canLay0, D.okc]
  | .bl x => by simp [D.py, PyData.canLay0, D.okc]
  | .int i => by simp [D.py, PyData.canLay0, D.okc]
  | .str x => by simp [D.py, PyData.canLay0, D.okc]
  | .tup xs => by simp only [D.py, PyData.canLay0, D.okc]; exact D.pys_lay xs
  | .lst xs => by simp only [D.py, PyData.canLay0, D.okc]; exact D.pys_lay xs
theorem D.pys_lay : ∀ a : List D, PyData.canLayAll0 (D.pys a) = D.okcs a
  | [] => rfl
  | x :: xs => by simp only [D.pys, PyData.canLayAll0, D.okcs]; rw [D.py_lay x, D.pys_lay xs]
end
mutual
theorem D.py_dep : ∀ a : D, a.py.depth = a.dep
  | .non => by simp [D.py, PyData.depth, D.dep]
  | .bl x => by simp [D.py, PyData.depth, D.dep]
  | .int i => by simp [D.py, PyData.depth, D.dep]
  | .str x => by simp [D.py, PyData.depth, D.dep]
  | .tup xs => by simp only [D.py, PyData.depth, D.dep]; rw [D.pys_dep xs]
  | .lst xs => by simp only [D.py, PyData.depth, D.dep]; rw [D.pys_dep xs]
theorem D.pys_dep : ∀ a : List D, PyData.depthAll (D.pys a) = D.deps a
  | [] => rfl
  | x :: xs => by simp only [D.pys, PyData.depthAll, D.deps]; rw [D.py_dep x, D.pys_dep xs]
end
theorem D.shaped {a : D} (h1 : a.okc = true) (h2 : a.dep ≤ 64) : SeqAt.shaped a.py = true := by
  unfold SeqAt.shaped
  rw [D.py_lay, D.py_dep, h1]
  simpa using h2
def okB (H : Hp) (Q : VK) : Option Bool → Prop
  | some b => Q (.bl b) H
  | none => False
section
variable {X : Cx} {K : PySem.W.Frag} {H : Hp} {L : Addr → Prop}
theorem flat_rq {x : V} {d : D} (h : Rq K H L x d) (f : d.flat = true) : flatV x = true := by
  cases d with
  | non => rw [h.non]; rfl
  | bl b => rw [h.bl]; rfl
  | int b => rw [h.int]; rfl
  | str b => rw [h.str]; rfl
  | _ => simp [D.flat] at f
theorem flat_eq {x y : V} {d e : D} (h : Rq K H L x d) (f : d.flat = true) (h' : Rq K H L y e) (f' : e.flat = true) : eqV x y = d.eq e := by
  cases d with
  | non => rw [h.non]; cases e with
    | non => rw [h'.non]; rfl
    | bl b => rw [h'.bl]; rfl
    | int b => rw [h'.int]; rfl
    | str b => rw [h'.str]; rfl
    | _ => simp [D.flat] at f'
  | bl b => rw [h.bl]; cases e with
    | non => rw [h'.non]; rfl
    | bl b => rw [h'.bl]; rfl
    | int b => rw [h'.int]; rfl
    | str b => rw [h'.str]; rfl
    | _ => simp [D.flat] at f'
  | int b => rw [h.int]; cases e with
    | non => rw [h'.non]; rfl
    | bl b => rw [h'.bl]; rfl
    | int b => rw [h'.int]; simp only [eqV, D.eq]; rw [Bool.eq_iff_iff]; simp
    | str b => rw [h'.str]; rfl
    | _ => simp [D.flat] at f'
  | str b => rw [h.str]; cases e with
    | non => rw [h'.non]; rfl
    | bl b => rw [h'.bl]; rfl
    | int b => rw [h'.int]; rfl
    | str b => rw [h'.str]; simp only [eqV, D.eq]; rw [Bool.eq_iff_iff]; simp
    | _ => simp [D.flat] at f'
  | _ => simp [D.flat] at f
theorem flats_rps : ∀ {vs : List V} {ds : List D}, Rps K H L vs ds → ds.all D.flat = true → vs.all flatV = true
  | _, _, .nil, _ => rfl
  | _, _, .cons h r, f => by
    rw [List.all_cons, Bool.and_eq_true] at f
    rw [List.all_cons, flat_rq (.inl h) f.1, flats_rps r f.2]; rfl
theorem mem_rps {x : V} {d : D} (h : Rq K H L x d) (f : d.flat = true) : ∀ {vs : List V} {ds : List D}, Rps K H L vs ds → ds.all D.flat = true → inV x vs = memD d ds
  | _, _, .nil, _ => rfl
  | _, _, .cons h' r, f' => by
    rw [List.all_cons, Bool.and_eq_true] at f'
    have ih := mem_rps h f r f'.2
    unfold inV memD at ih ⊢
    rw [List.any_cons, List.any_cons, flat_eq (.inl h') f'.1 h f, ih]
theorem ints_rps : ∀ {vs : List V} {ds : List D} {ns : List Int}, Rps K H L vs ds → intsOf ds = some ns → vs = ns.map V.int
  | _, [], ns, .nil, e => by simp [intsOf] at e; subst e; rfl
  | v :: vs, d :: ds, ns, .cons h r, e => by
    cases d with
    | int i =>
      simp only [intsOf, Option.map_eq_some_iff] at e
      obtain ⟨ms, e1, rfl⟩ := e
      cases h
      rw [ints_rps r e1]; rfl
    | _ => simp [intsOf] at e
theorem bls_rps : ∀ {vs : List V} {ds : List D} {ns : List Bool}, Rps K H L vs ds → bls ds = some ns → vs = ns.map V.bl
  | _, [], ns, .nil, e => by simp [bls] at e; subst e; rfl
  | v :: vs, d :: ds, ns, .cons h r, e => by
    cases d with
    | bl i =>
      simp only [bls, Option.map_eq_some_iff] at e
      obtain ⟨ms, e1, rfl⟩ := e
      cases h
      rw [bls_rps r e1]; rfl
    | _ => simp [bls] at e
theorem strs_rps : ∀ {vs : List V} {ds : List D} {ns : List Str}, Rps K H L vs ds → strL ds = some ns → vs = ns.map V.str
  | _, [], ns, .nil, e => by simp [strL] at e; subst e; rfl
  | v :: vs, d :: ds, ns, .cons h r, e => by
    cases d with
    | str i =>
      simp only [strL, Option.map_eq_some_iff] at e
      obtain ⟨ms, e1, rfl⟩ := e
      cases h
      rw [strs_rps r e1]; rfl
    | _ => simp [strL] at e
def rC (K : PySem.W.Frag) (op : CmpOp) : R2 := fun x y H Q => ∃ d e, Rq K H L0 x d ∧ Rq K H L0 y e ∧ okB H Q (cmpD op d e)
theorem pys_any (x : D) : ∀ xs : List D, ((D.pys xs).any fun z => PyData.eqv z x.py) = memD x xs
  | [] => rfl
  | y :: ys => by
    have ih := pys_any x ys
    unfold memD at ih ⊢
    rw [List.any_cons, ← ih, ← D.py_eq]
    rfl
theorem shapedL {x : D} {xs : List D} (h : deepOk x xs = true) : SeqAt.shaped x.py = true ∧ SeqAt.shaped (.list (D.pys xs)) = true := by
  unfold deepOk at h
  simp only [Bool.and_eq_true, decide_eq_true_eq] at h
  exact ⟨D.shaped h.1.1.1 h.1.2, D.shaped (a := .lst xs) h.1.1.2 (by simp only [D.dep]; omega)⟩
theorem eq_scal {x y : V} {d e : D} (hx : Rq K H L x d) (hy : Rq K H L y e) (h : (d.scal && e.scal) = true) (n : ¬ (d.okc = true ∧ e.okc = true)) : L2.scal x y = true ∧ decide (x = y) = d.eq e := by
  rw [Bool.and_eq_true] at h
  cases d with
  | non => cases e with
    | str b => rw [hx.non, hy.str]; exact ⟨rfl, rfl⟩
    | _ => first | exact absurd ⟨rfl, rfl⟩ n | simp [D.scal] at h
  | bl a => cases e with
    | str b => rw [hx.bl, hy.str]; exact ⟨rfl, rfl⟩
    | _ => first | exact absurd ⟨rfl, rfl⟩ n | simp [D.scal] at h
  | int a => cases e with
    | str b => rw [hx.int, hy.str]; exact ⟨rfl, rfl⟩
    | _ => first | exact absurd ⟨rfl, rfl⟩ n | simp [D.scal] at h
  | str a => cases e with
    | non => rw [hx.str, hy.non]; exact ⟨rfl, rfl⟩
    | bl b => rw [hx.str, hy.bl]; exact ⟨rfl, rfl⟩
    | int b => rw [hx.str, hy.int]; exact ⟨rfl, rfl⟩
    | str b => rw [hx.str, hy.str]; refine ⟨rfl, ?_⟩; simp only [D.eq]; rw [Bool.eq_iff_iff]; simp
    | _ => simp [D.scal] at h
  | _ => simp [D.scal] at h
theorem dep_scal {d : D} (h : d.scal = true) : d.dep ≤ 64 := by
  cases d <;> simp [D.scal, D.dep] at *
theorem op_cmpD (hu : X.A.units + 65 < cLine) (op : CmpOp) : OpR X (compareOp op) (rC X.K op) := by
  intro pins s σ H x y v u Q I rx ry h
  obtain ⟨d, e, hx, hy, q⟩ := h
  have neither : ∀ {p : Prop}, False → p := fun h => h.elim
  cases op with
  | Lt =>
    cases d with
    | int i => cases e with
      | int j =>
        have ex := hx.int; have ey := hy.int; subst ex ey
        exact op_lt pins s σ H _ _ v u Q I rx ry ⟨i, j, rfl, rfl, q⟩
      | _ => exact q.elim
    | str i => cases e with
      | str j =>
        have ex := hx.str; have ey := hy.str; subst ex ey
        exact op_lt_str pins s σ H _ _ v u Q I rx ry ⟨i, j, rfl, rfl, q⟩
      | _ => exact q.elim
    | tup xs => cases e with
      | tup ys =>
        obtain ⟨a, vs, rfl, ha, hva⟩ := hx.tup
        obtain ⟨b, ws, rfl, hb, hvb⟩ := hy.tup
        cases e1 : intsOf xs with
        | none => simp only [cmpD, e1] at q; exact q.elim
        | some ns => cases e2 : intsOf ys with
          | none => simp only [cmpD, e1, e2] at q; exact q.elim
          | some ms =>
            simp only [cmpD, e1, e2] at q
            have f1 := ints_rps hva e1; have f2 := ints_rps hvb e2; subst f1 f2
            exact op_ltT (by omega) pins s σ H _ _ v u Q I rx ry ⟨a, b, ns, ms, rfl, rfl, ha, hb, q⟩
      | _ => exact q.elim
    | _ => exact q.elim
  | LtE =>
    cases d with
    | int i => cases e with
      | int j =>
        have ex := hx.int; have ey := hy.int; subst ex ey
        exact op_le pins s σ H _ _ v u Q I rx ry ⟨i, j, rfl, rfl, q⟩
      | _ => exact q.elim
    | _ => exact q.elim
  | Gt =>
    cases d with
    | int i => cases e with
      | int j =>
        have ex := hx.int; have ey := hy.int; subst ex ey
        exact op_gt pins s σ H _ _ v u Q I rx ry ⟨i, j, rfl, rfl, q⟩
      | _ => exact q.elim
    | _ => exact q.elim
  | GtE =>
    cases d with
    | int i => cases e with
      | int j =>
        have ex := hx.int; have ey := hy.int; subst ex ey
        exact op_ge pins s σ H _ _ v u Q I rx ry ⟨i, j, rfl, rfl, q⟩
      | _ => exact q.elim
    | _ => exact q.elim
  | Eq =>
    by_cases h1 : d.okc = true ∧ e.okc = true ∧ d.dep ≤ 64 ∧ e.dep ≤ 64
    · have ok : eqOk d e = true := by unfold eqOk; simp [h1.1, h1.2.1, h1.2.2.1, h1.2.2.2]
      simp only [cmpD, if_pos ok] at q
      refine op_eqD (by omega) pins s σ H _ _ v u Q I rx ry ⟨_, _, hx.dp, hy.dp, D.shaped h1.1 h1.2.2.1, D.shaped h1.2.1 h1.2.2.2, ?_⟩
      rw [D.py_eq]; exact q
    · by_cases ok : eqOk d e = true
      · have h2 : (d.scal && e.scal) = true := by
          unfold eqOk at ok
          rw [Bool.or_eq_true] at ok
          rcases ok with ok | ok
          · exact ok
          · exfalso
            simp only [Bool.and_eq_true, decide_eq_true_eq] at ok
            exact h1 ⟨ok.1.1.1, ok.1.1.2, ok.1.2, ok.2⟩
        have h3 := Bool.and_eq_true_iff.mp h2
        obtain ⟨s1, s2⟩ := eq_scal hx hy h2 fun n => h1 ⟨n.1, n.2, dep_scal h3.1, dep_scal h3.2⟩
        simp only [cmpD, if_pos ok] at q
        exact op_eq pins s σ H _ _ v u Q I rx ry ⟨s1, by rw [s2]; exact q⟩
      · simp only [cmpD, if_neg ok] at q; exact q.elim
  | NotEq =>
    by_cases h1 : d.okc = true ∧ e.okc = true ∧ d.dep ≤ 64 ∧ e.dep ≤ 64
    · have ok : eqOk d e = true := by unfold eqOk; simp [h1.1, h1.2.1, h1.2.2.1, h1.2.2.2]
      simp only [cmpD, if_pos ok] at q
      refine op_neD (by omega) pins s σ H _ _ v u Q I rx ry ⟨_, _, hx.dp, hy.dp, D.shaped h1.1 h1.2.2.1, D.shaped h1.2.1 h1.2.2.2, ?_⟩
      rw [D.py_eq]; exact q
    · by_cases ok : eqOk d e = true
      · have h2 : (d.scal && e.scal) = true := by
          unfold eqOk at ok
          rw [Bool.or_eq_true] at ok
          rcases ok with ok | ok
          · exact ok
          · exfalso
            simp only [Bool.and_eq_true, decide_eq_true_eq] at ok
            exact h1 ⟨ok.1.1.1, ok.1.1.2, ok.1.2, ok.2⟩
        have h3 := Bool.and_eq_true_iff.mp h2
        obtain ⟨s1, s2⟩ := eq_scal hx hy h2 fun n => h1 ⟨n.1, n.2, dep_scal h3.1, dep_scal h3.2⟩
        simp only [cmpD, if_pos ok] at q
        exact op_ne pins s σ H _ _ v u Q I rx ry ⟨s1, by rw [s2]; exact q⟩
      · simp only [cmpD, if_neg ok] at q; exact q.elim
  | Is =>
    cases e with
    | non =>
      have ey := hy.non; subst ey
      refine op_isN pins s σ H _ _ v u Q I rx ry ⟨rfl, ?_⟩
      cases d with
      | non => rw [hx.non]; exact q
      | bl b => rw [hx.bl]; exact q
      | int b => rw [hx.int]; exact q
      | str b => rw [hx.str]; exact q
      | tup b => obtain ⟨a, vs, rfl, _⟩ := hx.tup; exact q
      | lst b => obtain ⟨a, vs, rfl, _⟩ := hx.lst; exact q
    | bl b => cases d with
      | bl a =>
        have ex := hx.bl; have ey := hy.bl; subst ex ey
        exact op_isBl pins s σ H _ _ v u Q I rx ry ⟨a, b, rfl, rfl, q⟩
      | _ => exact q.elim
    | _ => cases d <;> exact q.elim
  | IsNot =>
    cases e with
    | non =>
      have ey := hy.non; subst ey
      refine op_notN pins s σ H _ _ v u Q I rx ry ⟨rfl, ?_⟩
      cases d with
      | non => rw [hx.non]; exact q
      | bl b => rw [hx.bl]; exact q
      | int b => rw [hx.int]; exact q
      | str b => rw [hx.str]; exact q
      | tup b => obtain ⟨a, vs, rfl, _⟩ := hx.tup; exact q
      | lst b => obtain ⟨a, vs, rfl, _⟩ := hx.lst; exact q
    | bl b => cases d with
      | bl a =>
        have ex := hx.bl; have ey := hy.bl; subst ex ey
        exact op_notBl pins s σ H _ _ v u Q I rx ry ⟨a, b, rfl, rfl, q⟩
      | _ => exact q.elim
    | _ => cases d <;> exact q.elim
  | In =>
    cases e with
    | lst xs =>
      obtain ⟨b, ws, rfl, hb, hvb⟩ := hy.lst
      by_cases m : memOk d xs = true
      · have q' : Q (.bl (memD d xs)) H := by
          have : cmpD .In d (.lst xs) = some (memD d xs) := by cases d <;> simp [cmpD, m]
          rw [this] at q; exact q
        unfold memOk at m
        rw [Bool.and_eq_true] at m
        refine op_in_seq pins s σ H _ _ v u Q I rx ry ⟨b, ws, rfl, .inl hb.sq, flat_rq hx m.1, flats_rps hvb m.2, ?_⟩
        rw [mem_rps hx m.1 hvb m.2]; exact q'
      · by_cases m2 : deepOk d xs = true
        · have q' : Q (.bl (memD d xs)) H := by
            have : cmpD .In d (.lst xs) = some (memD d xs) := by cases d <;> simp [cmpD, m2]
            rw [this] at q; exact q
          obtain ⟨s1, s2⟩ := shapedL m2
          exact op_inD (by omega) pins s σ H _ _ v u Q I rx ry ⟨d.py, D.pys xs, hx.dp, .lst hb.sq hvb.dp, s1, s2, by rw [pys_any]; exact q'⟩
        · exfalso
          have : cmpD .In d (.lst xs) = none := by cases d <;> simp [cmpD, m, m2]
          rw [this] at q; exact q
    | tup xs =>
      obtain ⟨b, ws, rfl, hb, hvb⟩ := hy.tup
      by_cases m : memOk d xs = true
      · have q' : Q (.bl (memD d xs)) H := by
          have : cmpD .In d (.tup xs) = some (memD d xs) := by cases d <;> simp only [cmpD, if_pos m]
          rw [this] at q; exact q
        unfold memOk at m
        rw [Bool.and_eq_true] at m
        refine op_in_seq pins s σ H _ _ v u Q I rx ry ⟨b, ws, rfl, .inr hb, flat_rq hx m.1, flats_rps hvb m.2, ?_⟩
        rw [mem_rps hx m.1 hvb m.2]; exact q'
      · exfalso
        have : cmpD .In d (.tup xs) = none := by cases d <;> simp only [cmpD, if_neg m]
        rw [this] at q; exact q
    | str j => cases d with
      | str i =>
        have ex := hx.str; have ey := hy.str; subst ex ey
        exact op_in_str pins s σ H _ _ v u Q I rx ry ⟨i, j, rfl, rfl, q⟩
      | _ => exact q.elim
    | _ => cases d <;> exact q.elim
  | NotIn =>
    cases e with
    | lst xs =>
      obtain ⟨b, ws, rfl, hb, hvb⟩ := hy.lst
      by_cases m : memOk d xs = true
      · have q' : Q (.bl (!memD d xs)) H := by
          have : cmpD .NotIn d (.lst xs) = some (!memD d xs) := by cases d <;> simp [cmpD, m]
          rw [this] at q; exact q
        unfold memOk at m
        rw [Bool.and_eq_true] at m
        refine op_notIn_seq pins s σ H _ _ v u Q I rx ry ⟨b, ws, rfl, .inl hb.sq, flat_rq hx m.1, flats_rps hvb m.2, ?_⟩
        rw [mem_rps hx m.1 hvb m.2]; exact q'
      · by_cases m2 : deepOk d xs = true
        · have q' : Q (.bl (!memD d xs)) H := by
            have : cmpD .NotIn d (.lst xs) = some (!memD d xs) := by cases d <;> simp [cmpD, m2]
            rw [this] at q; exact q
          obtain ⟨s1, s2⟩ := shapedL m2
          exact op_notInD (by omega) pins s σ H _ _ v u Q I rx ry ⟨d.py, D.pys xs, hx.dp, .lst hb.sq hvb.dp, s1, s2, by rw [pys_any]; exact q'⟩
        · exfalso
          have : cmpD .NotIn d (.lst xs) = none := by cases d <;> simp [cmpD, m, m2]
          rw [this] at q; exact q
    | tup xs =>
      obtain ⟨b, ws, rfl, hb, hvb⟩ := hy.tup
      by_cases m : memOk d xs = true
      · have q' : Q (.bl (!memD d xs)) H := by
          have : cmpD .NotIn d (.tup xs) = some (!memD d xs) := by cases d <;> simp only [cmpD, if_pos m]
          rw [this] at q; exact q
        unfold memOk at m
        rw [Bool.and_eq_true] at m
        refine op_notIn_seq pins s σ H _ _ v u Q I rx ry ⟨b, ws, rfl, .inr hb, flat_rq hx m.1, flats_rps hvb m.2, ?_⟩
        rw [mem_rps hx m.1 hvb m.2]; exact q'
      · exfalso
        have : cmpD .NotIn d (.tup xs) = none := by cases d <;> simp only [cmpD, if_neg m]
        rw [this] at q; exact q
    | str j => cases d with
      | str i =>
        have ex := hx.str; have ey := hy.str; subst ex ey
        exact op_notin_str pins s σ H _ _ v u Q I rx ry ⟨i, j, rfl, rfl, q⟩
      | _ => exact q.elim
    | _ => cases d <;> exact q.elim
end
end Rf

set_option Elab.async false
set_option linter.all false
set_option maxRecDepth 100000
set_option maxHeartbeats 1000000
namespace Rf
open PySem PySem.Spec PyProof.Rows L2

/-! ### subscripts -/
section
variable {K : PySem.W.Frag} {H : Hp} {L : Addr → Prop}
theorem ixN_eq {n m : Nat} (h : n = m) (i : Int) : ixN n i = ixN m i := by rw [h]
theorem atI_rps {vs : List V} {ds : List D} (r : Rps K H L vs ds) {i : Int} {z : D} (h : atI ds i = some z) : ∃ v, atI vs i = some v ∧ Rp K H L v z := by
  unfold atI at h ⊢
  rw [r.length]
  cases e : ixN ds.length i with
  | none => rw [e] at h; cases h
  | some j =>
    rw [e] at h
    obtain ⟨v, a, b⟩ := r.get (i := j) h
    exact ⟨v, a, b⟩
theorem cut_rps {vs : List V} {ds : List D} (r : Rps K H L vs ds) (lo hi : Option Int) : Rps K H L (cutV vs lo hi) (cutD ds lo hi) := by
  unfold cutV cutD
  rw [r.length]
  exact (r.drop _).take _
end
def okD (K : PySem.W.Frag) (H : Hp) (Q : VK) (L : Addr → Prop) : Option D → Prop
  | some d => ∀ v, Rp K H L v d → Q v H
  | none => False
section
variable {X : Cx}
def rI' (K : PySem.W.Frag) : R2 := fun x y H Q => ∃ cm S d e, SR K H cm S ∧ Rq K H (Lv cm S) x d ∧ Rq K H (Lv cm S) y e ∧ okD K H Q (Lv cm S) (idxD d e)
theorem ix_D : IxR X (rI' X.K) := by
  intro value slice pins s σ H x y v u Q I rx ry h hs
  obtain ⟨cm, S, d, e, r, hx, hy, q⟩ := h
  cases d with
  | lst xs => cases e with
    | int i =>
      obtain ⟨a, vs, rfl, ha, hva⟩ := hx.lst
      have ey := hy.int; subst ey
      cases h : atI xs i with
      | none => simp only [idxD, h] at q; exact q.elim
      | some z =>
        simp only [idxD, h] at q
        obtain ⟨w, h1, h2⟩ := atI_rps hva h
        exact ix_list value slice pins s σ H _ _ v u Q I rx ry ⟨a, vs, i, w, rfl, rfl, ha.sq, h1, q w h2⟩ hs
    | _ => exact q.elim
  | tup xs => cases e with
    | int i =>
      obtain ⟨a, vs, rfl, ha, hva⟩ := hx.tup
      have ey := hy.int; subst ey
      cases h : atI xs i with
      | none => simp only [idxD, h] at q; exact q.elim
      | some z =>
        simp only [idxD, h] at q
        obtain ⟨w, h1, h2⟩ := atI_rps hva h
        exact ix_tup value slice pins s σ H _ _ v u Q I rx ry ⟨a, vs, i, w, rfl, rfl, ha, h1, q w h2⟩ hs
    | _ => exact q.elim
  | str z => cases e with
    | int i =>
      have ex := hx.str; have ey := hy.int; subst ex ey
      by_cases hz : z.length ≤ line
      · cases h : atI z.cps.toList i with
        | none => simp only [idxD, if_pos hz, h, Option.map_none] at q; exact q.elim
        | some c =>
          simp only [idxD, if_pos hz, h, Option.map_some] at q
          exact ix_str value slice pins s σ H _ _ v u Q I rx ry ⟨z, i, c, rfl, rfl, by rw [← line_eq]; exact hz, h, q _ (.str _)⟩ hs
      · simp only [idxD, if_neg hz] at q; exact q.elim
    | _ => exact q.elim
  | _ => exact q.elim
/-! ### slices -/
def rS (K : PySem.W.Frag) : V → Option Int → Option Int → Hp → VK → Prop := fun x lo hi H Q => ∃ cm S d, SR K H cm S ∧ Rq K H (Lv cm S) x d ∧ RX1 K H Q cm S (sliceD d lo hi)
theorem sl_D : SlR X (rS X.K) := by
  intro pins s σ H x v vl vu lo hi sl Q I rx hs pl pu h
  obtain ⟨cm, S, d, r, hx, q⟩ := h
  cases d with
  | lst xs =>
    obtain ⟨a, vs, rfl, ha, hva⟩ := hx.lst
    exact sl_list pins s σ H _ v vl vu lo hi sl Q I rx hs pl pu ⟨a, vs, rfl, ha.sq, fun p hp => q _ _ cm (mkF r hp (cut_rps hva lo hi))⟩
  | tup xs =>
    obtain ⟨a, vs, rfl, ha, hva⟩ := hx.tup
    refine sl_tupA pins s σ H _ v vl vu lo hi sl Q I rx hs pl pu ⟨a, vs, rfl, ha, fun z => ?_, fun _ p hp => q _ _ cm (mkT r hp (cut_rps hva lo hi))⟩
    have e : cutV vs lo hi = vs := by
      unfold cutV
      rw [z.1, z.2, List.drop_zero, Nat.sub_zero, List.take_length]
    have e2 := cut_rps hva lo hi
    rw [e] at e2
    exact q _ _ cm (mkD r (.tup ha e2))
  | str z =>
    have ex := hx.str; subst ex
    by_cases hz : z.length ≤ line
    · simp only [sliceD, if_pos hz] at q
      exact sl_str pins s σ H _ v vl vu lo hi sl Q I rx hs pl pu ⟨z, rfl, by rw [← line_eq]; exact hz, q _ _ cm (mkD r (.str _))⟩
    · simp only [sliceD, if_neg hz] at q; exact q.elim
  | _ => exact q.elim
/-! ### turned round -/
theorem rev_applied {prog : Program} {w : World} {A : Around} {E : Value → Shared → Prop} {s : Shared} {sl : Addr} {vl vu vs : Value} {n : Nat} {Q : Int × Int × Nat → Shared → Prop} (hs : s.heap.IsSliceOf sl vl vu vs) (pl : IsPart vl none) (pu : IsPart vu none) (ps : IsPart vs (some (-1)))
    (h : Q ((n : Int) - 1, -1, n) s) : wpAny (model prog w) A (Builtin.Slice.sliceApplied (.ref sl) (pure (n : Int))) Q E s := by
  obtain ⟨os, hos, hcs, hds⟩ := id hs
  unfold Builtin.Slice.sliceApplied Builtin.Slice.sliceFields
  refine wpAny_bind (wpAny_bind (wpAny_field hos hds (x := vl) rfl (wpAny_bind (wpAny_field hos hds (x := vu) rfl (wpAny_bind (wpAny_field hos hds (x := vs) rfl (wpAny_pure ?_)))))))
  refine wpAny_bind (HT.slicePart_ ps ?_)
  show wpAny _ _ (if ((-1 : Int) == 0) = true then _ else _) _ _ s
  rw [if_neg (by decide)]
  refine wpAny_bind (HT.slicePart_ pl (wpAny_bind (HT.slicePart_ pu (wpAny_bind (wpAny_pure ?_)))))
  show wpAny _ _ (match Builtin.Slice.sliceAdjust none none (-1) (n : Int) with | (lo, hi) => pure (lo, (-1 : Int), Builtin.Slice.slicePlaces lo hi (-1))) _ _ s
  have e1 : Builtin.Slice.sliceAdjust none none (-1) (n : Int) = ((n : Int) - 1, -1) := by
    unfold Builtin.Slice.sliceAdjust
    simp
  rw [e1]
  show wpAny _ _ (pure ((n : Int) - 1, (-1 : Int), Builtin.Slice.slicePlaces ((n : Int) - 1) (-1) (-1))) _ _ s
  have e2 : Builtin.Slice.slicePlaces ((n : Int) - 1) (-1) (-1) = n := by
    unfold Builtin.Slice.slicePlaces
    rw [if_neg (by decide)]
    have h2 : ((n : Int) - 1 - -1 - 1) / (- (-1 : Int)) = (n : Int) - 1 - -1 - 1 := by rw [show (- (-1 : Int)) = 1 by decide, Int.ediv_one]
    rw [h2]
    split <;> omega
  rw [e2]
  exact wpAny_pure h
theorem rev_pick (xs : Array Value) : ((List.range xs.size).filterMap fun (k : Nat) => xs[((xs.size : Int) - 1 + (k : Int) * -1).toNat]?).toArray = xs.toList.reverse.toArray := by
  have e : (List.range xs.size).filterMap (fun (k : Nat) => xs[((xs.size : Int) - 1 + (k : Int) * -1).toNat]?) = ((List.range xs.size).map (fun k => xs.size - 1 - k)).filterMap (xs[·]?) := by
    rw [List.filterMap_map]
    congr 1
    funext k
    have : ((xs.size : Int) - 1 + (k : Int) * -1).toNat = xs.size - 1 - k := by omega
    show xs[((xs.size : Int) - 1 + (k : Int) * -1).toNat]? = xs[xs.size - 1 - k]?
    rw [this]
  rw [e, PySem.W.krv_range, List.filterMap_reverse, PySem.W.krv_all]
theorem getItem_tuple_rev {prog : Program} {w : World} {A : Around} {E : Value → Shared → Prop} {s : Shared} {t sl : Addr} {items : Array Value} {vl vu vs : Value} {Q : Value → Shared → Prop} (ht : IsTup s.heap t items) (hs : s.heap.IsSliceOf sl vl vu vs) (pl : IsPart vl none) (pu : IsPart vu none) (ps : IsPart vs (some (-1)))
    (h : Q (.ref s.heap.objs.size) { s with heap := s.heap.push { cls := .type "tuple", data := .seq items.toList.reverse.toArray } }) (hsz : items.size ≤ sizeLine) : wpAny (model prog w) A (getItem (.ref t) (.ref sl)) Q E s := by
  have hok : sizeOk (.seq items.toList.reverse.toArray) := by
    show items.toList.reverse.toArray.size ≤ sizeLine
    rw [List.size_toArray, List.length_reverse, Array.length_toList]
    exact hsz
  obtain ⟨os, hos, hcs, hds⟩ := id hs
  have hTs : s.TypeIs (.ref sl) "slice" := ⟨os, hos, hcs⟩
  unfold getItem
  try with_reducible refine wpAny_holding ?_
  first | refine wpAny_bind (wpAny_pure ?_) | skip
  refine wpAny_bind (wpAny_sequenceKey ht.typeIs (by decide) ?_)
  refine wpAny_bind (wpAny_callSpecial?_slot (name := Str.ofString "__getitem__") ht.typeIs PyProof.Rows.slot_tuple_getitem
    (wpAny_call_entry PyProof.Rows.slot_tuple_getitem ht.typeIs entry_tuple_getitem ?_ (args_tuple_getitem _ _)))
  show wpAny _ _ (Builtin.Tuple.tupleItemsOf (.ref t) >>= _) _ _ s
  refine wpAny_bind (tupleItemsOf_ ht ?_)
  refine wpAny_bind (wpAny_typeOf hTs ?_)
  rw [if_pos (by decide)]
  refine wpAny_bind (rev_applied hs pl pu ps ?_)
  have hno : ¬ (((items.size : Int) - 1 == 0 && (-1 : Int) == 1 && items.size == items.size) = true) := by
    intro q
    rw [Bool.and_eq_true, Bool.and_eq_true] at q
    exact absurd q.1.2 (by decide)
  show wpAny _ _ (if ((items.size : Int) - 1 == 0 && (-1 : Int) == 1 && items.size == items.size) = true then _ else _) _ _ s
  rw [if_neg hno, rev_pick]
  first
    | exact wpAny_bind (m := Builtin.Tuple.tupleExact _) (wpAny_newObj_type (wpAny_pure ⟨_, rfl, wpAny_pure h⟩) hok)
    | exact wpAny_bind (wpAny_bind (m := Builtin.Tuple.tupleExact _) (wpAny_newObj_type (wpAny_pure ⟨_, rfl, wpAny_pure h⟩) hok))
    | exact wpAny_bind (wpAny_bind (m := Builtin.Tuple.tupleExact _) (wpAny_newObj_type (wpAny_pure (wpAny_pure ⟨_, rfl, wpAny_pure h⟩)) hok))
    | exact wpAny_bind (m := Builtin.Tuple.tupleExact _) (wpAny_newObj_type (wpAny_bind (wpAny_pure (wpAny_pure ⟨_, rfl, wpAny_pure h⟩))) hok)
end
end Rf

set_option Elab.async false
set_option linter.all false
set_option maxRecDepth 100000
set_option maxHeartbeats 1000000
namespace Rf
open PySem PySem.Spec PyProof.Rows L2
section
variable {X : Cx}
/-- a value turned round -/
def tRev (K : PySem.W.Frag) (te : TE) : TE := fun σ H Q => te σ H fun x H1 => ∃ cm S d, SR K H1 cm S ∧ Rq K H1 (Lv cm S) x d ∧ RX1 K H1 Q cm S (revD d)
theorem pe_rev {e : Expr} {te : TE} {k : Nat} {p1 p2 p3 pos : Pos} (he : PE X e te) : PE X (.Subscript e (.Slice none none (some (.UnaryOp .USub (.Constant (.int 1) k p1) p2)) p3) pos) (tRev X.K te) := by
  refine ⟨fun pins s σ H Q I h => ?_⟩
  refine Subscript_ (thn (he.run pins s σ H _ I h) fun v s1 ⟨x, H1, I1, r1, q1⟩ => ?_)
  obtain ⟨cm, S, d, r, hx, q⟩ := q1
  have hst : PO X (some (.UnaryOp .USub (.Constant (.int 1) k p1) p2)) (tPart (tUn (rU fun i => .int (-i)) (tC (.int 1)))) := po_some (pe_un un_neg pe_int)
  refine wpAny_Slice (thn (po_none.run pins s1 σ H1 (fun o H2 => o = none ∧ H2 = H1) I1 ⟨rfl, rfl⟩) fun vl s2 ⟨l, H2, I2, pl, el, e2⟩ => ?_)
  subst el e2
  refine thn (po_none.run pins s2 σ H2 (fun o H3 => o = none ∧ H3 = H2) I2 ⟨rfl, rfl⟩) fun vu s3 ⟨u, H3, I3, pu, eu, e3⟩ => ?_
  subst eu e3
  refine thn (hst.run pins s3 σ H3 (fun o H4 => o = some (-1) ∧ H4 = H3) I3 ⟨1, rfl, -1, rfl, rfl, rfl⟩) fun vs s4 ⟨o, H4, I4, ps, eo, e4⟩ => ?_
  subst eo e4
  have I5 : Inv X pins σ H4 { s4 with heap := s4.heap.push { cls := .type "slice", data := .fields #[vl, vu, vs] } } := I4.kept (t' := s4.toks) fun b ob q => Heap.get?_push_of_some _ q
  cases d with
  | lst xs =>
    obtain ⟨a, ws, rfl, ha, hva⟩ := hx.lst
    cases r1
    obtain ⟨its, rv, ht, hz⟩ := I5.list ha.sq
    have hlen := rv.length
    show wpAny (model X.prog X.w) X.A (subscriptTail e (.Slice none none (some (.UnaryOp .USub (.Constant (.int 1) k p1) p2)) p3) (.ref a) (.ref s4.heap.objs.size)) (EP X pins σ Q) X.xe { s4 with heap := s4.heap.push { cls := .type "slice", data := .fields #[vl, vu, vs] } }
    refine tail_any (ops := [.ref a, .ref s4.heap.objs.size]) ht.isList.typeIs (PySem.slot_list_getitem.lookup) ?_ (by with_unfolding_all rfl)
    refine wpAny_getItem_list_slice ht.isList (Heap.IsSliceOf.new _ vl vu vs) pl pu ps (by decide) ?_ (by rw [List.size_toArray]; omega)
    rw [PySem.W.krv_pick]
    refine ⟨.ref _, _, I5.laid (t' := s4.toks) (o := .lst ws.reverse) (fun b ob q => Heap.get?_push_of_some _ q) (Nat.le_refl _) ?_, rfl, q _ _ cm (mkF r (I5.hok.fresh (Nat.le_refl _)) hva.reverse)⟩
    exact ⟨by rw [List.length_reverse]; exact hz, _, 0, rv.reverse, Heap.get?_push_size _ rfl⟩
  | tup xs =>
    obtain ⟨a, ws, rfl, ha, hva⟩ := hx.tup
    cases r1
    obtain ⟨its, rv, ht, hz⟩ := I5.tuple ha
    have hlen := rv.length
    show wpAny (model X.prog X.w) X.A (subscriptTail e (.Slice none none (some (.UnaryOp .USub (.Constant (.int 1) k p1) p2)) p3) (.ref a) (.ref s4.heap.objs.size)) (EP X pins σ Q) X.xe { s4 with heap := s4.heap.push { cls := .type "slice", data := .fields #[vl, vu, vs] } }
    refine tail_any (ops := [.ref a, .ref s4.heap.objs.size]) ht.typeIs (PyProof.Rows.slot_tuple_getitem.lookup) ?_ (by with_unfolding_all rfl)
    refine getItem_tuple_rev ht (Heap.IsSliceOf.new _ vl vu vs) pl pu ps ?_ (by rw [List.size_toArray]; omega)
    refine ⟨.ref _, _, I5.laid (t' := s4.toks) (o := .tup ws.reverse) (fun b ob q => Heap.get?_push_of_some _ q) (Nat.le_refl _) ?_, rfl, q _ _ cm (mkT r (I5.hok.fresh (Nat.le_refl _)) hva.reverse)⟩
    exact ⟨by rw [List.length_reverse]; exact hz, its.reverse, rv.reverse, IsTup.new _ _⟩
  | _ => exact q.elim

/-! ### built-in functions -/
inductive Rqs (K : PySem.W.Frag) (H : Hp) (L : Addr → Prop) : List V → List D → Prop
  | nil : Rqs K H L [] []
  | cons {v : V} {vs : List V} {d : D} {ds : List D} : Rq K H L v d → Rqs K H L vs ds → Rqs K H L (v :: vs) (d :: ds)
theorem rds_ok {K : PySem.W.Frag} {H : Hp} {cm : List CA} {S : Store} (r : SR K H cm S) : ∀ {vs : List V} {rs : List RV} {ds : List D}, VsOk K H cm S vs rs → rdVs S rs = some ds → Rqs K H (Lv cm S) vs ds
  | _, [], ds, .nil, e => by simp [rdVs] at e; subst e; exact .nil
  | v :: vs, x :: rs, ds, .cons h q, e => by
    simp only [rdVs, Option.bind_eq_some_iff, Option.map_eq_some_iff] at e
    obtain ⟨d, e1, es, e2, rfl⟩ := e
    exact .cons (rd_ok r h e1) (rds_ok r q e2)
theorem rdWs_ok {K : PySem.W.Frag} {H : Hp} {cm : List CA} {S : Store} (r : SR K H cm S) : ∀ {vs : List V} {rs : List RV} {ds : List D}, VsOk K H cm S vs rs → rdWs S rs = some ds → Rqs K H L0 vs ds
  | _, [], ds, .nil, e => by simp [rdWs] at e; subst e; exact .nil
  | v :: vs, x :: rs, ds, .cons h q, e => by
    simp only [rdWs, Option.bind_eq_some_iff, Option.map_eq_some_iff] at e
    obtain ⟨d, e1, es, e2, rfl⟩ := e
    exact .cons (.inl (rdW_ok r h e1)) (rdWs_ok r q e2)
def Bf.wk : Bf → Bool
  | .len | .repr => true
  | _ => false
theorem rdF_ok {K : PySem.W.Frag} {H : Hp} {cm : List CA} {S : Store} (f : Bf) (r : SR K H cm S) {vs : List V} {rs : List RV} {ds : List D} (h : VsOk K H cm S vs rs) (e : rdF f S rs = some ds) : ∃ L, (L = Lv cm S ∨ f.wk = true) ∧ Rqs K H L vs ds := by
  cases f <;> first
    | exact ⟨_, .inl rfl, rds_ok r h e⟩
    | exact ⟨_, .inr rfl, rdWs_ok r h e⟩
def rF (K : PySem.W.Frag) (f : Bf) : List V → Hp → VK → Prop := fun vs H Q => ∃ cm S ds L, SR K H cm S ∧ (L = Lv cm S ∨ f.wk = true) ∧ Rqs K H L vs ds ∧ RX1 K H Q cm S (bltD f ds)
def Bf.val : Bf → Value
  | .len => .builtin "len"
  | .abs => .builtin "abs"
  | .int => .type "int"
  | .max2 => .builtin "max"
  | .min2 => .builtin "min"
  | .maxL => .builtin "max"
  | .minL => .builtin "min"
  | .sum => .builtin "sum"
  | .all => .builtin "all"
  | .any => .builtin "any"
  | .tuple => .type "tuple"
  | .list => .type "list"
  | .repr => .builtin "repr"
  | .gcd => .builtin "math.gcd"
  | .divmod => .builtin "divmod"
  | .sorted => .builtin "sorted"
  | .str => .type "str"
theorem foldl_max (l : List Int) : ∀ x : Int, x ≤ l.foldl (fun a b => if b > a then b else a) x ∧ (∀ y ∈ l, y ≤ l.foldl (fun a b => if b > a then b else a) x) ∧ (l.foldl (fun a b => if b > a then b else a) x = x ∨ l.foldl (fun a b => if b > a then b else a) x ∈ l) := by
  induction l with
  | nil => intro x; exact ⟨Int.le_refl _, fun y hy => by simp at hy, .inl rfl⟩
  | cons z l ih =>
    intro x
    rw [List.foldl_cons]
    obtain ⟨h1, h2, h3⟩ := ih (if z > x then z else x)
    generalize List.foldl (fun a b => if b > a then b else a) (if z > x then z else x) l = m at h1 h2 h3 ⊢
    refine ⟨by split at h1 <;> omega, fun y hy => ?_, ?_⟩
    · rcases List.mem_cons.mp hy with rfl | hy
      · split at h1 <;> omega
      · exact h2 y hy
    · rcases h3 with h3 | h3
      · split at h3
        · exact .inr (by rw [h3]; exact List.mem_cons_self)
        · exact .inl h3
      · exact .inr (List.mem_cons_of_mem _ h3)
theorem foldl_min (l : List Int) : ∀ x : Int, l.foldl (fun a b => if b < a then b else a) x ≤ x ∧ (∀ y ∈ l, l.foldl (fun a b => if b < a then b else a) x ≤ y) ∧ (l.foldl (fun a b => if b < a then b else a) x = x ∨ l.foldl (fun a b => if b < a then b else a) x ∈ l) := by
  induction l with
  | nil => intro x; exact ⟨Int.le_refl _, fun y hy => by simp at hy, .inl rfl⟩
  | cons z l ih =>
    intro x
    rw [List.foldl_cons]
    obtain ⟨h1, h2, h3⟩ := ih (if z < x then z else x)
    generalize List.foldl (fun a b => if b < a then b else a) (if z < x then z else x) l = m at h1 h2 h3 ⊢
    refine ⟨by split at h1 <;> omega, fun y hy => ?_, ?_⟩
    · rcases List.mem_cons.mp hy with rfl | hy
      · split at h1 <;> omega
      · exact h2 y hy
    · rcases h3 with h3 | h3
      · split at h3
        · exact .inr (by rw [h3]; exact List.mem_cons_self)
        · exact .inl h3
      · exact .inr (List.mem_cons_of_mem _ h3)
theorem maxI_is {n : Int} {ns : List Int} {m : Int} (h1 : m ∈ n :: ns) (h2 : ∀ y ∈ n :: ns, y ≤ m) : m = maxI (n :: ns) := by
  obtain ⟨a, b, c⟩ := foldl_max ns n
  show m = ns.foldl (fun a b => if b > a then b else a) n
  generalize List.foldl (fun a b => if b > a then b else a) n ns = z at a b c ⊢
  have u1 : z ≤ m := h2 z (by rcases c with rfl | c; exact List.mem_cons_self; exact List.mem_cons_of_mem _ c)
  have u2 : m ≤ z := by
    rcases List.mem_cons.mp h1 with rfl | h
    · exact a
    · exact b m h
  omega
theorem minI_is {n : Int} {ns : List Int} {m : Int} (h1 : m ∈ n :: ns) (h2 : ∀ y ∈ n :: ns, m ≤ y) : m = minI (n :: ns) := by
  obtain ⟨a, b, c⟩ := foldl_min ns n
  show m = ns.foldl (fun a b => if b < a then b else a) n
  generalize List.foldl (fun a b => if b < a then b else a) n ns = z at a b c ⊢
  have u1 : m ≤ z := h2 z (by rcases c with rfl | c; exact List.mem_cons_self; exact List.mem_cons_of_mem _ c)
  have u2 : z ≤ m := by
    rcases List.mem_cons.mp h1 with rfl | h
    · exact a
    · exact b m h
  omega
theorem insI_perm (x : Int) : ∀ l : List Int, (insI x l).Perm (x :: l)
  | [] => .refl _
  | y :: l => by
    unfold insI
    split
    · exact .refl _
    · exact ((insI_perm x l).cons y).trans (.swap _ _ _)
theorem sortI_perm : ∀ l : List Int, (sortI l).Perm l
  | [] => .refl _
  | x :: l => (insI_perm x (sortI l)).trans ((sortI_perm l).cons x)
theorem insI_pw (x : Int) : ∀ l : List Int, l.Pairwise (· ≤ ·) → (insI x l).Pairwise (· ≤ ·)
  | [], _ => by simp [insI]
  | y :: l, h => by
    unfold insI
    rw [List.pairwise_cons] at h
    split
    · rename_i hxy
      rw [List.pairwise_cons, List.pairwise_cons]
      refine ⟨fun z hz => ?_, h⟩
      rcases List.mem_cons.mp hz with rfl | hz
      · exact hxy
      · exact Int.le_trans hxy (h.1 z hz)
    · rename_i hxy
      rw [List.pairwise_cons]
      refine ⟨fun z hz => ?_, insI_pw x l h.2⟩
      rcases List.mem_cons.mp ((insI_perm x l).mem_iff.mp hz) with rfl | hz
      · omega
      · exact h.1 z hz
theorem sortI_pw : ∀ l : List Int, (sortI l).Pairwise (· ≤ ·)
  | [] => .nil
  | x :: l => insI_pw x _ (sortI_pw l)
theorem sortI_is {a b : List Int} (hp : a.Perm b) (ha : a.Pairwise (· ≤ ·)) : a = sortI b := PySem.W.ksm_same (hp.trans (sortI_perm b).symm) ha (sortI_pw b)
theorem tupsOf_eq : ∀ {xs : List D} {tss : List (List Int)}, tupsOf xs = some tss → xs = tss.map tupD
  | [], tss, h => by cases h; rfl
  | d :: xs, tss, h => by
    cases d with
    | tup ds =>
      simp only [tupsOf, Option.bind_eq_some_iff, Option.map_eq_some_iff] at h
      obtain ⟨n, h1, r, h2, rfl⟩ := h
      rw [List.map_cons, ← tupsOf_eq h2]
      have : ∀ {ds : List D} {n : List Int}, intsOf ds = some n → ds = n.map D.int := fun {ds} => by
        induction ds with
        | nil => intro n h; cases h; rfl
        | cons d ds ih =>
          intro n h
          cases d with
          | int i =>
            simp only [intsOf, Option.map_eq_some_iff] at h
            obtain ⟨r, h2, rfl⟩ := h
            rw [List.map_cons, ← ih h2]
          | _ => simp [intsOf] at h
      rw [this h1]; rfl
    | _ => simp [tupsOf] at h
theorem tOk_of {tss : List (List Int)} (h : tOk tss = true) : ∃ d, 1 ≤ d ∧ tss.length < 64 ∧ ∀ n ∈ tss, n.length = d ∧ TS.Bd tBd n := by
  cases tss with
  | nil => cases h
  | cons n r =>
    simp only [tOk, Bool.and_eq_true, decide_eq_true_eq, List.all_eq_true] at h
    exact ⟨n.length, h.1.1, h.1.2, fun m hm => ⟨(h.2 m hm).1, fun z hz => (h.2 m hm).2 z hz⟩⟩
theorem insT_perm (x : List Int) : ∀ l : List (List Int), (insT x l).Perm (x :: l)
  | [] => .refl _
  | y :: l => by
    unfold insT
    split
    · exact .refl _
    · exact ((insT_perm x l).cons y).trans (.swap _ _ _)
theorem sortT_perm : ∀ l : List (List Int), (sortT l).Perm l
  | [] => .refl _
  | x :: l => (insT_perm x (sortT l)).trans ((sortT_perm l).cons x)
theorem insT_pw (x : List Int) : ∀ l : List (List Int), l.Pairwise (fun a b => TS.code tBd a ≤ TS.code tBd b) → (insT x l).Pairwise (fun a b => TS.code tBd a ≤ TS.code tBd b)
  | [], _ => by simp [insT]
  | y :: l, h => by
    unfold insT
    have h' := List.pairwise_cons.mp h
    split
    · rename_i hc
      refine List.pairwise_cons.mpr ⟨fun z hz => ?_, h⟩
      rcases List.mem_cons.mp hz with rfl | hz
      · exact hc
      · exact Int.le_trans hc (h'.1 z hz)
    · rename_i hc
      refine List.pairwise_cons.mpr ⟨fun z hz => ?_, insT_pw x l h'.2⟩
      rcases List.mem_cons.mp ((insT_perm x l).mem_iff.mp hz) with rfl | hz
      · omega
      · exact h'.1 z hz
theorem sortT_pw : ∀ l : List (List Int), (sortT l).Pairwise (fun a b => TS.code tBd a ≤ TS.code tBd b)
  | [] => .nil
  | x :: l => insT_pw x _ (sortT_pw l)
theorem map_inj_on {g : List Int → Int} : ∀ {a c : List (List Int)}, (∀ x ∈ a, ∀ y ∈ c, g x = g y → x = y) → a.map g = c.map g → a = c
  | [], [], _, _ => rfl
  | [], _ :: _, _, h => by simp at h
  | _ :: _, [], _, h => by simp at h
  | x :: a, y :: c, h, e => by
    simp only [List.map_cons, List.cons.injEq] at e
    rw [h x List.mem_cons_self y List.mem_cons_self e.1, map_inj_on (fun u hu v hv => h u (List.mem_cons_of_mem _ hu) v (List.mem_cons_of_mem _ hv)) e.2]
theorem sortT_is {a b : List (List Int)} (hp : a.Perm b) (hw : a.Pairwise (fun x y => TS.code tBd x ≤ TS.code tBd y)) (inj : ∀ x ∈ b, ∀ y ∈ b, TS.code tBd x = TS.code tBd y → x = y) : a = sortT b := by
  refine map_inj_on (g := TS.code tBd) (fun x hx y hy => inj x (hp.mem_iff.mp hx) y ((sortT_perm b).mem_iff.mp hy)) ?_
  exact PySem.W.ksm_same ((hp.trans (sortT_perm b).symm).map _) (List.pairwise_map.mpr hw) (List.pairwise_map.mpr (sortT_pw b))
theorem code_inj : ∀ {n m : List Int}, TS.Bd tBd n → TS.Bd tBd m → n.length = m.length → TS.code tBd n = TS.code tBd m → n = m
  | [], [], _, _, _, _ => rfl
  | [], _ :: _, _, _, h, _ => by simp at h
  | _ :: _, [], _, _, h, _ => by simp at h
  | d :: r, e :: q, hn, hm, hl, he => by
    have hl' : r.length = q.length := by simpa using hl
    have h1 : d = e := by
      by_cases h : d < e
      · have := TS.code_lt hl' hn.tail hm.tail h; omega
      · by_cases h2 : e < d
        · have := TS.code_lt hl'.symm hm.tail hn.tail h2; omega
        · omega
    subst h1
    have h2 : TS.code tBd r = TS.code tBd q := by
      have k1 := (TS.code_same (B := tBd) (d := d) hl').mpr
      have k2 := (TS.code_same (B := tBd) (d := d) hl'.symm).mpr
      have a1 : ¬ TS.code tBd r < TS.code tBd q := fun z => by have := k1 z; omega
      have a2 : ¬ TS.code tBd q < TS.code tBd r := fun z => by have := k2 z; omega
      omega
    rw [code_inj hn.tail hm.tail hl' h2]
section
variable {K : PySem.W.Frag} {H : Hp} {L : Addr → Prop}
theorem rp_tupI {x : V} {n : List Int} (h : Rp K H L x (tupD n)) : TupI K H x n := by
  cases h with
  | tup hs hr =>
    refine ⟨_, rfl, ?_⟩
    have : ∀ {vs : List V} {n : List Int}, Rps K H L vs (n.map D.int) → vs = n.map V.int := fun {vs} => by
      induction vs with
      | nil => intro n h; cases n with
        | nil => rfl
        | cons a b => cases h
      | cons v vs ih => intro n h; cases n with
        | nil => cases h
        | cons a b =>
          cases h with
          | cons h1 h2 => cases h1; rw [List.map_cons, ← ih h2]
    rw [← this hr]
    exact hs
theorem rps_tup_mem : ∀ {ws : List V} {tss : List (List Int)} {x : V}, Rps K H L ws (tss.map tupD) → x ∈ ws → ∃ n ∈ tss, TupI K H x n
  | [], tss, x, _, h => by simp at h
  | w :: ws, [], x, h, _ => by cases h
  | w :: ws, n :: tss, x, .cons h1 h2, hx => by
    rcases List.mem_cons.mp hx with rfl | hx
    · exact ⟨n, List.mem_cons_self, rp_tupI h1⟩
    · obtain ⟨m, hm, e⟩ := rps_tup_mem h2 hx
      exact ⟨m, List.mem_cons_of_mem _ hm, e⟩
theorem rps_permT {ys xs : List V} (h : ys.Perm xs) : ∀ tss : List (List Int), Rps K H L xs (tss.map tupD) → ∃ tss' : List (List Int), tss'.Perm tss ∧ Rps K H L ys (tss'.map tupD) := by
  induction h with
  | nil => intro tss h; exact ⟨tss, .refl _, h⟩
  | cons x _ ih =>
    intro tss h
    cases tss with
    | nil => cases h
    | cons n t =>
      cases h with
      | cons h1 h2 =>
        obtain ⟨t', hp, hr⟩ := ih t h2
        exact ⟨n :: t', hp.cons n, .cons h1 hr⟩
  | swap x y l =>
    intro tss h
    match tss, h with
    | [], h => cases h
    | [_], .cons _ h => cases h
    | n :: m :: t, .cons h1 (.cons h2 h3) => exact ⟨m :: n :: t, .swap _ _ _, .cons h2 (.cons h1 h3)⟩
  | trans _ _ ih1 ih2 =>
    intro tss h
    obtain ⟨t1, p1, r1⟩ := ih2 tss h
    obtain ⟨t2, p2, r2⟩ := ih1 t1 r1
    exact ⟨t2, p2.trans p1, r2⟩
theorem rps_pw {R : V → V → Prop} {Z : List Int → List Int → Prop} : ∀ {ys : List V} {tss : List (List Int)}, Rps K H L ys (tss.map tupD) → ys.Pairwise R → (∀ x y n m, Rp K H L x (tupD n) → Rp K H L y (tupD m) → R x y → Z n m) → tss.Pairwise Z
  | [], [], _, _, _ => .nil
  | [], _ :: _, h, _, _ => by cases h
  | _ :: _, [], _, _, _ => .nil
  | y :: ys, n :: t, .cons h1 h2, hw, k => by
    have hw' := List.pairwise_cons.mp hw
    refine List.pairwise_cons.mpr ⟨fun m hm => ?_, rps_pw h2 hw'.2 k⟩
    obtain ⟨i, hi⟩ := List.mem_iff_getElem?.mp hm
    obtain ⟨v, hv, rv⟩ := h2.get (i := i) (d := tupD m) (by rw [List.getElem?_map, hi]; rfl)
    exact k y v n m h1 rv (hw'.1 v (List.mem_of_getElem? hv))
end
theorem rps_ints (K : PySem.W.Frag) (H : Hp) (L : Addr → Prop) : ∀ ns : List Int, Rps K H L (ns.map V.int) (ns.map D.int)
  | [] => .nil
  | n :: ns => .cons (.int n) (rps_ints K H L ns)
theorem rps_strs (K : PySem.W.Frag) (H : Hp) (L : Addr → Prop) : ∀ ns : List Str, Rps K H L (ns.map V.str) (ns.map D.str)
  | [] => .nil
  | n :: ns => .cons (.str n) (rps_strs K H L ns)
mutual
theorem D.py_show : ∀ a : D, a.py.showable = a.shw
  | .non => by simp [D.py, PyData.showable, D.shw]
  | .bl x => by simp [D.py, PyData.showable, D.shw]
  | .int i => by simp [D.py, PyData.showable, D.shw]
  | .str x => by simp [D.py, PyData.showable, D.shw]
  | .tup xs => by simp only [D.py, PyData.showable, D.shw]; exact D.pys_show xs
  | .lst xs => by simp only [D.py, PyData.showable, D.shw]; exact D.pys_show xs
theorem D.pys_show : ∀ a : List D, PyData.showableAll (D.pys a) = D.shws a
  | [] => rfl
  | x :: xs => by simp only [D.pys, PyData.showableAll, D.shws]; rw [D.py_show x, D.pys_show xs]
end
mutual
theorem D.py_nd : ∀ a : D, a.py.hasDict = false
  | .non => by simp [D.py, PyData.hasDict]
  | .bl x => by simp [D.py, PyData.hasDict]
  | .int i => by simp [D.py, PyData.hasDict]
  | .str x => by simp [D.py, PyData.hasDict]
  | .tup xs => by simp only [D.py, PyData.hasDict]; exact D.pys_nd xs
  | .lst xs => by simp only [D.py, PyData.hasDict]; exact D.pys_nd xs
theorem D.pys_nd : ∀ a : List D, PyData.hasDictAll (D.pys a) = false
  | [] => rfl
  | x :: xs => by simp only [D.pys, PyData.hasDictAll]; rw [D.py_nd x, D.pys_nd xs]; rfl
end
theorem textFrom_le : ∀ (ts : List Str) (k : Nat) (acc : Str), (textFrom k acc ts).length ≤ acc.length + (ts.map fun t => t.length + 2).sum
  | [], k, acc => by show acc.length ≤ _; simp
  | t :: r, k, acc => by
    have ih := textFrom_le r (k + 1) (acc ++ (if k > 0 then ", " else "" : String) ++ t)
    have e : (acc ++ (if k > 0 then ", " else "" : String) ++ t).length = acc.length + (if k > 0 then 2 else 0) + t.length := by
      rw [strLen_append, strLen_append]
      split <;> rfl
    rw [e] at ih
    show (textFrom (k + 1) _ r).length ≤ _
    rw [List.map_cons, List.sum_cons]
    have : (if k > 0 then 2 else 0 : Nat) ≤ 2 := by split <;> omega
    omega
theorem listText_le (ts : List Str) : (listText ts).length ≤ (ts.map fun t => t.length + 2).sum + 2 := by
  unfold listText
  have h := textFrom_le ts 0 "["
  rw [strLen_append]
  have e1 : (("[" : String) : Str).length = 1 := rfl
  have e2 : (("]" : String) : Str).length = 1 := rfl
  rw [e1] at h
  rw [e2]
  omega
theorem join_le : ∀ ts : List Str, (Str.join ", " ts).length ≤ (ts.map fun t => t.length + 2).sum
  | [] => by decide
  | [x] => by show x.length ≤ _; simp
  | x :: y :: r => by
    have ih := join_le (y :: r)
    show (x ++ ", " ++ Str.join ", " (y :: r)).length ≤ _
    have e2 : ((", " : String) : Str).length = 2 := rfl
    rw [strLen_append, strLen_append, e2, List.map_cons, List.sum_cons]
    omega
theorem tupleText_le (ts : List Str) : (tupleText ts).length ≤ (ts.map fun t => t.length + 2).sum + 4 := by
  unfold tupleText
  rw [strLen_append, strLen_append]
  have e1 : ((("(" : String) : Str)).length = 1 := rfl
  have e3 : (((if ts.length == 1 then ",)" else ")" : String) : Str)).length ≤ 2 := by split <;> decide
  have h := join_le ts
  omega
mutual
theorem D.wt_ok : ∀ a : D, a.okc = true → a.shw = true → a.py.shown.length ≤ a.wt
  | .non, _, _ => by simp only [D.py, PyData.shown, D.wt]; decide
  | .bl x, _, _ => by simp only [D.py, PyData.shown, D.wt]; cases x <;> decide
  | .int i, _, h => by
    simp only [D.shw, decide_eq_true_eq] at h
    simp only [D.py, PyData.shown, D.wt]
    have e := int_text_length_le (k := 1920) (by decide) h
    rw [PySem.ofString_length]; omega
  | .str x, h, _ => by
    simp only [D.py, PyData.shown, D.wt]
    simp only [D.okc] at h
    have := PySem.StrLaws.reprText_len x (fun c hc => by
      unfold PyData.strOk at h
      have h2 := Array.all_eq_true_iff_forall_mem.mp h c (by simpa using hc)
      have h3 := of_decide_eq_true h2
      omega)
    omega
  | .tup xs, h, h' => by
    simp only [D.py, PyData.shown, D.wt]
    simp only [D.okc, D.shw] at h h'
    have := D.wts_ok xs h h'
    have := tupleText_le (PyData.shownAll (D.pys xs))
    omega
  | .lst xs, h, h' => by
    simp only [D.py, PyData.shown, D.wt]
    simp only [D.okc, D.shw] at h h'
    have := D.wts_ok xs h h'
    have := listText_le (PyData.shownAll (D.pys xs))
    omega
theorem D.wts_ok : ∀ a : List D, D.okcs a = true → D.shws a = true → ((PyData.shownAll (D.pys a)).map fun t => t.length + 2).sum ≤ D.wts a
  | [], _, _ => by simp [D.pys, PyData.shownAll, D.wts]
  | x :: xs, h, h' => by
    simp only [D.okcs, D.shws, Bool.and_eq_true] at h h'
    simp only [D.pys, PyData.shownAll, D.wts, List.map_cons, List.sum_cons]
    have := D.wt_ok x h.1 h'.1
    have := D.wts_ok xs h.2 h'.2
    omega
end
end
section
variable {X : Cx}
theorem Dp.flatref {K : PySem.W.Frag} {H : Hp} {v : V} {d : PyData} (h : Dp K H v d) {a : Addr} (e : v = .ref a) : True := trivial
/-- repr of any datum -/
theorem call_reprD {k : Nat} (hr : Room k X.A) (hg : X.A.guards = some []) : CallR X (.builtin "repr") (rF X.K .repr) := by
  intro pins s σ H vs us Q I r h
  obtain ⟨cm, S, ds, L, rs, _, hq, q⟩ := h
  cases hq with
  | nil => exact q.elim
  | cons hv hr' =>
    rename_i v vs d ds
    cases hr' with
    | cons _ _ => exact q.elim
    | nil =>
      by_cases ok : d.rpOk = true
      · simp only [bltD, if_pos ok] at q
        unfold D.rpOk at ok
        simp only [Bool.and_eq_true, decide_eq_true_eq] at ok
        obtain ⟨⟨⟨o1, o2⟩, o3⟩, o4⟩ := ok
        obtain ⟨u, rfl, ru⟩ := vals1 r
        have un := hr.un
        have hz : d.py.shown.length ≤ sizeLine := by
          have := D.wt_ok d o1 o2
          rw [← line_eq]; omega
        have fin : ∀ (h' : Heap) (t' : Tok) (tk : Nat), (∀ b o, s.heap.get? b = some o → h'.get? b = some o) → EP X pins σ Q (.str d.py.shown t') { s with heap := h', toks := tk } := fun h' t' tk hk =>
          ⟨.str _, H, I.kept hk, ⟨_, rfl⟩, q _ _ cm (mkD rs (.str _))⟩
        have fin0 : ∀ (t' : Tok) (tk : Nat), EP X pins σ Q (.str d.py.shown t') { s with toks := tk } := fun t' tk => fin s.heap t' tk fun _ _ e => e
        obtain ⟨as, rd⟩ := Dp.reads I _ _ _ hv.dp ru
        cases d with
        | non => rw [hv.non] at ru; cases ru; exact PySem.P.repr_of_none (fin0 _ _)
        | bl b => rw [hv.bl] at ru; cases ru; exact PySem.P.repr_of_bool (by have := fin0 s.toks (s.toks + 1); simp only [D.py, PyData.shown] at this; cases b <;> exact this)
        | int i =>
          rw [hv.int] at ru; obtain ⟨t, rfl⟩ := ru
          simp only [D.shw, decide_eq_true_eq] at o2
          exact PySem.P.repr_of_int o2 (fin0 _ _)
        | str x => rw [hv.str] at ru; obtain ⟨t, rfl⟩ := ru; exact PySem.P.repr_of_str (fin0 _ _) hz
        | tup xs =>
          obtain ⟨a, ws, rfl, _⟩ := hv.tup
          cases ru
          exact repr_of_reads' rd (by rw [D.py_show]; exact o2) (fun z => by rw [D.py_nd] at z; cases z) hg (by rw [D.py_dep]; omega) (fun _ _ e => e) (fun h' u tk hk => fin h' u tk hk) hz
        | lst xs =>
          obtain ⟨a, ws, rfl, _⟩ := hv.lst
          cases ru
          exact repr_of_reads' rd (by rw [D.py_show]; exact o2) (fun z => by rw [D.py_nd] at z; cases z) hg (by rw [D.py_dep]; omega) (fun _ _ e => e) (fun h' u tk hk => fin h' u tk hk) hz
      · simp only [bltD, if_neg ok] at q; exact q.elim
end
/-! ### any data of one kind, sorted -/
mutual
theorem D.ak_py : ∀ a b : D, D.ak a b = true → PySem.W.alike a.py b.py = true
  | .non, b, h => by cases b <;> simp [D.ak] at h
  | .bl x, b, h => by cases b <;> simp [D.ak] at h
  | .int i, b, h => by cases b <;> simp [D.ak] at h <;> simp [D.py, PySem.W.alike]
  | .str x, b, h => by cases b <;> simp [D.ak] at h <;> simp [D.py, PySem.W.alike]
  | .tup xs, b, h => by
    cases b with
    | tup ys => simp only [D.ak] at h; simp only [D.py, PySem.W.alike]; exact D.aks_py xs ys h
    | _ => simp [D.ak] at h
  | .lst xs, b, h => by
    cases b with
    | lst ys => simp only [D.ak] at h; simp only [D.py, PySem.W.alike]; exact D.aks_py xs ys h
    | _ => simp [D.ak] at h
theorem D.aks_py : ∀ a b : List D, D.aks a b = true → PySem.W.alikeAll (D.pys a) (D.pys b) = true
  | [], b, h => by simp [D.pys, PySem.W.alikeAll]
  | x :: xs, [], h => by simp [D.pys, PySem.W.alikeAll]
  | x :: xs, y :: ys, h => by
    simp only [D.aks, Bool.and_eq_true] at h
    simp only [D.pys, PySem.W.alikeAll, Bool.and_eq_true]
    exact ⟨D.ak_py x y h.1, D.aks_py xs ys h.2⟩
end
mutual
theorem D.lt_py : ∀ a b : D, D.ak a b = true → PySem.W.dataLt a.py b.py = D.lt a b
  | .non, b, h => by cases b <;> simp [D.ak] at h
  | .bl x, b, h => by cases b <;> simp [D.ak] at h
  | .int i, b, h => by
    cases b <;> simp [D.ak] at h
    simp only [D.py, D.lt]
    exact PySem.W.dataLt_int _ _
  | .str x, b, h => by
    cases b <;> simp [D.ak] at h
    simp only [D.py, D.lt]
    exact PySem.W.dataLt_str _ _
  | .tup xs, b, h => by
    cases b with
    | tup ys =>
      simp only [D.ak] at h
      simp only [D.py, D.lt]
      rw [PySem.W.dataLt_tuple]
      exact D.lts_py xs ys h
    | _ => simp [D.ak] at h
  | .lst xs, b, h => by
    cases b with
    | lst ys =>
      simp only [D.ak] at h
      simp only [D.py, D.lt]
      rw [PySem.W.dataLt_list]
      exact D.lts_py xs ys h
    | _ => simp [D.ak] at h
theorem D.lts_py : ∀ a b : List D, D.aks a b = true → PySem.W.rowLt (D.pys a) (D.pys b) = D.lts a b
  | [], [], h => by
    simp only [D.pys, D.lts]
    exact PyProof.Rows.lex_irrefl _
  | [], y :: ys, h => by
    simp only [D.pys, D.lts]
    unfold PySem.W.rowLt
    rw [PySem.W.toks_all_cons]
    simp only [PySem.W.keyToksAll]
    rw [PyProof.Rows.lex_diff (O := PyProof.Rows.itemOrd) (by simp)]
    rfl
  | x :: xs, [], h => by
    simp only [D.pys, D.lts]
    unfold PySem.W.rowLt
    rw [PySem.W.toks_all_cons]
    simp only [PySem.W.keyToksAll]
    rw [PyProof.Rows.lex_diff (O := PyProof.Rows.itemOrd) (by simp)]
    rfl
  | x :: xs, y :: ys, h => by
    simp only [D.aks, Bool.and_eq_true] at h
    have e1 := D.lt_py x y h.1
    have e2 := D.lts_py xs ys h.2
    simp only [D.pys, D.lts]
    unfold PySem.W.rowLt at e2 ⊢
    rw [PySem.W.dataLt_cons (D.ak_py x y h.1), D.py_eq, e1, e2]
end
theorem D.le_py {a b : D} (h : D.ak b a = true) : (!PySem.W.dataLt b.py a.py) = D.le a b := by
  unfold D.le
  rw [D.lt_py b a h]

section
variable {K : PySem.W.Frag} {H : Hp} {L : Addr → Prop}
theorem srt_each : ∀ {ws : List V} {xs : List D} {its : List Value}, Rps K H L ws xs → Vals ws its → PySem.W.EachIs (fun v (b : V × D) => RelV b.1 v ∧ Rp K H L b.1 b.2) its (List.zip ws xs)
  | _, _, _, .nil, .nil => .nil
  | _, _, _, .cons h r, .cons v t => .cons ⟨v, h⟩ (srt_each r t)
theorem srt_back : ∀ {out : List Value} {zs : List (V × D)}, PySem.W.EachIs (fun v (b : V × D) => RelV b.1 v ∧ Rp K H L b.1 b.2) out zs → Vals (zs.map (·.1)) out ∧ Rps K H L (zs.map (·.1)) (zs.map (·.2))
  | _, _, .nil => ⟨.nil, .nil⟩
  | _, _, .cons h t => ⟨.cons h.1 (srt_back t).1, .cons h.2 (srt_back t).2⟩
theorem zip_snd {ws : List V} {xs : List D} (h : ws.length = xs.length) : (List.zip ws xs).map (·.2) = xs := List.map_snd_zip (by omega)
end
theorem gOk_ak {xs : List D} (h : gOk xs = true) {a b : D} (ha : a ∈ xs) (hb : b ∈ xs) : D.ak a b = true := by
  unfold gOk at h
  simp only [Bool.and_eq_true] at h
  exact List.all_eq_true.mp (List.all_eq_true.mp h.1.1 a ha) b hb
theorem gOk_dep {xs : List D} (h : gOk xs = true) {a : D} (ha : a ∈ xs) : a.dep ≤ 64 := by
  unfold gOk at h
  simp only [Bool.and_eq_true] at h
  exact of_decide_eq_true (List.all_eq_true.mp h.2 a ha)
/-- one value alone is sorted, whatever its kind -/
theorem SortsAt_one {prog : Program} {w : World} {A : Around} {s : Shared} {vs : List Value} {ds : List PyData} (hl : vs.length ≤ 1) (e : PySem.W.EachIs (fun v d => ∃ as, Reads s.heap v d as) vs ds) (hal : PySem.W.AllAlike ds) (hk : ∀ d, d ∈ ds → d ≠ .none) (hu : ∀ d, d ∈ ds → A.units + d.depth < cLine) : PySem.W.SortsAt prog w A s (PySem.W.dataKind s.heap ds) vs := by
  refine ⟨fun v hv => ?_, PyProof.Rows.general', ?_, fun h2 => absurd h2 (by omega)⟩
  · obtain ⟨d, hd, as, r⟩ := e.left v hv
    exact ⟨_, PySem.W.dataKind_some hal hd r⟩
  · intro E x y a b Q ha hb hq
    obtain ⟨d, as, hd, ra, rfl⟩ := PySem.W.dataKind_inv ha
    obtain ⟨d', as', hd', rb, rfl⟩ := PySem.W.dataKind_inv hb
    show wpAny (model prog w) A (PyProof.Rows.oneLt' false x y) Q E s
    exact PySem.W.oneLt_alike (fun z => nomatch z) ra rb (hal d hd d' hd') (hk d hd) (Nat.lt_of_le_of_lt (Nat.add_le_add_left (Nat.min_le_left _ _) _) (hu d hd)) hq
/-- sorted(xs), as KE's sorted_data, one value alone too -/
theorem sorted_data1 {prog : Program} {w : World} {A : Around} {E : Value → Shared → Prop} {s : Shared} {β : Type} {enc : β → PyData} {R : Value → β → Prop} {vs : List Value} {bs : List β} {l : Addr} {Q : Value → Shared → Prop} (hl : s.heap.IsList l vs.toArray) (e : PySem.W.EachIs R vs bs) (er : PySem.W.EachIs (fun v b => ∃ as, Reads s.heap v (enc b) as) vs bs) (hal : PySem.W.AllAlike (bs.map enc))
    (hk : PySem.W.Sortable (bs.map enc) ∨ (vs.length ≤ 1 ∧ ∀ d, d ∈ bs.map enc → d ≠ .none)) (hL : bs.length ≤ sizeLine)
    (hu : ∀ b, b ∈ bs → A.units + 2 + (enc b).depth < cLine) (h : ∀ out, out.length = bs.length → PySem.W.EachIs R out (bs.mergeSort (PySem.W.dataLe false enc)) → Q (.ref (s.heap.objs.size + 1)) { s with heap := PyProof.Rows.sortedAll s.heap vs (List.toArray out) }) :
    wpAny (model prog w) A (call (.builtin "sorted") [.ref l]) Q E s := by
  rcases hk with hk | ⟨h1, hk⟩
  · exact PySem.W.sorted_data hl e er hal hk hL hu h
  have er' : PySem.W.EachIs (fun v b => ∃ as, Reads (PySem.W.sortingHeap (PySem.W.copyHeap s.heap vs) (s.heap.objs.size + 1) vs) v (enc b) as) vs bs := er.mono fun _ _ ⟨as, r⟩ => ⟨as, PyProof.Rows.Reads.keeps (fun _ _ => PySem.W.sorting_copy_old) r⟩
  refine PySem.W.sorted_vals hl (SortsAt_one (s := { s with heap := PySem.W.sortingHeap (PySem.W.copyHeap s.heap vs) (s.heap.objs.size + 1) vs }) h1 (PySem.W.each_map (R := fun v d => ∃ as, Reads (PySem.W.sortingHeap (PySem.W.copyHeap s.heap vs) (s.heap.objs.size + 1) vs) v d as) enc er') hal hk (PySem.W.bound_map hu)) (by rw [e.length]; exact hL)
    (h _ (by rw [PySem.W.sortVals_length false rfl]; exact e.length) (PySem.W.sortVals_data false e er' hal))
theorem gOk_srt {xs : List D} (h : gOk xs = true) : PySem.W.Sortable (xs.map D.py) ∨ (xs.length ≤ 1 ∧ ∀ d, d ∈ xs.map D.py → d ≠ .none) := by
  unfold gOk at h
  simp only [Bool.and_eq_true, Bool.or_eq_true] at h
  rcases h.1.2 with (q | q) | q
  · refine .inl (.inl fun d hd => ?_)
    obtain ⟨x, hx, rfl⟩ := List.mem_map.mp hd
    have := List.all_eq_true.mp q x hx
    cases x with
    | tup ds => cases ds with
      | nil => cases this
      | cons y r => exact ⟨y.py, D.pys r, by simp only [D.py, D.pys]⟩
    | _ => cases this
  · refine .inl (.inr fun d hd => ?_)
    obtain ⟨x, hx, rfl⟩ := List.mem_map.mp hd
    have := List.all_eq_true.mp q x hx
    cases x <;> simp [D.ntup] at this <;> simp [D.py]
  · refine .inr ⟨of_decide_eq_true q.1, fun d hd => ?_⟩
    obtain ⟨x, hx, rfl⟩ := List.mem_map.mp hd
    have := List.all_eq_true.mp q.2 x hx
    cases x <;> simp [D.isNon] at this <;> simp [D.py]
def rSortG (K : PySem.W.Frag) : List V → Hp → VK → Prop := fun vs H Q => ∃ (L : Addr → Prop) (a : Addr) (ws : List V) (xs : List D), vs = [V.ref a] ∧ SqL K H a ws ∧ Rps K H L ws xs ∧ gOk xs = true ∧
  ∀ ys p, Rps K H L ys (xs.mergeSort D.le) → H p = none → Q (.ref p) (upd H p (.lst ys))
theorem cr_sortG {X : Cx} {k : Nat} (hr : Room k X.A) : CallR X (.builtin "sorted") (rSortG X.K) := by
  intro pins s σ H vs us Q I r h
  obtain ⟨L, a, ws, xs, rfl, hs, hd, hg, q⟩ := h
  obtain ⟨its, rv, hl, hz⟩ := I.list hs
  rw [Vals.ref1 r]
  have e := srt_each hd rv
  have el : ws.length = xs.length := hd.length
  have es := zip_snd el
  have mem : ∀ b ∈ List.zip ws xs, b.2 ∈ xs := fun b hb => by rw [← es]; exact List.mem_map.mpr ⟨b, hb, rfl⟩
  have zl : (List.zip ws xs).length = xs.length := by rw [← List.length_map (f := (·.2)), es]
  have un := hr.un
  refine sorted_data1 (enc := fun b : V × D => b.2.py) hl.isList e (e.mono fun v b ⟨h1, h2⟩ => Dp.reads I _ _ _ h2.dp h1) ?_ ?_ (by rw [zl, ← el]; exact hz) (fun b hb => ?_) fun out hlen eo => ?_
  · intro d hd d' hd'
    obtain ⟨b, hb, rfl⟩ := List.mem_map.mp hd
    obtain ⟨b', hb', rfl⟩ := List.mem_map.mp hd'
    exact D.ak_py _ _ (gOk_ak hg (mem b hb) (mem b' hb'))
  · have := gOk_srt hg
    rw [← es, List.map_map] at this
    rw [rv.length.symm.trans (el.trans zl.symm)]
    rw [List.length_map] at this
    exact this
  · have := gOk_dep hg (mem b hb)
    rw [D.py_dep]
    omega
  · obtain ⟨vo, ro⟩ := srt_back eo
    have em : ((List.zip ws xs).mergeSort (PySem.W.dataLe false fun b : V × D => b.2.py)).map (·.2) = xs.mergeSort D.le := by
      rw [List.map_mergeSort (s := D.le) (fun a ha b hb => ?_), es]
      exact D.le_py (gOk_ak hg (mem b hb) (mem a ha))
    rw [em] at ro
    obtain ⟨ep, he'⟩ := PyProof.Rows.sortedAll_at s.heap its (List.toArray out)
    have hlen' : (((List.zip ws xs).mergeSort (PySem.W.dataLe false fun b : V × D => b.2.py)).map (·.1)).length ≤ sizeLine := by
      rw [List.length_map, List.length_mergeSort, zl, ← el]
      exact hz
    refine ⟨.ref _, upd H (s.heap.objs.size + 1) (.lst _), I.laid (t' := s.toks) (fun _ _ => PyProof.Rows.sortedAll_old) (Nat.le_succ _) ⟨hlen', out, ep, vo, by simpa using he'⟩, rfl, q _ _ ro (I.hok.fresh (Nat.le_succ _))⟩
mutual
theorem D.py_inj : ∀ (a b : D), a.py = b.py → a = b
  | .tup xs, b, h => by
    cases b <;> simp only [D.py, reduceCtorEq] at h
    injection h with h
    rw [D.pys_inj _ _ h]
  | .lst xs, b, h => by
    cases b <;> simp only [D.py, reduceCtorEq] at h
    injection h with h
    rw [D.pys_inj _ _ h]
  | .int i, b, h => by
    cases b <;> simp only [D.py, reduceCtorEq] at h
    injection h with h
    rw [h]
  | .bl i, b, h => by
    cases b <;> simp only [D.py, reduceCtorEq] at h
    injection h with h
    rw [h]
  | .str i, b, h => by
    cases b <;> simp only [D.py, reduceCtorEq] at h
    injection h with h
    rw [h]
  | .non, b, h => by
    cases b <;> simp only [D.py, reduceCtorEq] at h
    rfl
theorem D.pys_inj : ∀ (a b : List D), D.pys a = D.pys b → a = b
  | [], b, h => by
    cases b with
    | nil => rfl
    | cons y b => simp [D.pys] at h
  | x :: a, b, h => by
    cases b with
    | nil => simp [D.pys] at h
    | cons y b =>
      simp only [D.pys] at h
      injection h with h1 h2
      rw [D.py_inj _ _ h1, D.pys_inj _ _ h2]
end
theorem mOk_ak {xs : List D} (h : mOk xs = true) {a b : D} (ha : a ∈ xs) (hb : b ∈ xs) : D.ak a b = true := by
  unfold mOk at h
  simp only [Bool.and_eq_true] at h
  exact List.all_eq_true.mp (List.all_eq_true.mp h.1 a ha) b hb
theorem mOk_dep {xs : List D} (h : mOk xs = true) {a : D} (ha : a ∈ xs) : a.dep ≤ 64 := by
  unfold mOk at h
  simp only [Bool.and_eq_true] at h
  exact of_decide_eq_true (List.all_eq_true.mp h.2 a ha)
theorem minDD_py : ∀ (xs : List D) (x : D) (ys : List D), (∀ a ∈ ys, ∀ b ∈ ys, D.ak a b = true) → x ∈ ys → (∀ y ∈ xs, y ∈ ys) → (minDD x xs).py = PySem.W.minD x.py (D.pys xs) ∧ minDD x xs ∈ ys
  | [], x, ys, _, hx, _ => ⟨rfl, hx⟩
  | y :: xs, x, ys, h, hx, hs => by
    have hy := hs y List.mem_cons_self
    have e := D.lt_py y x (h y hy x hx)
    have q : minDD x (y :: xs) = minDD (if D.lt y x then y else x) xs := rfl
    have q2 : PySem.W.minD x.py (D.pys (y :: xs)) = PySem.W.minD (if PySem.W.dataLt y.py x.py then y.py else x.py) (D.pys xs) := rfl
    rw [q, q2, e]
    cases D.lt y x with
    | true => exact minDD_py xs y ys h hy fun z hz => hs z (List.mem_cons_of_mem _ hz)
    | false => exact minDD_py xs x ys h hx fun z hz => hs z (List.mem_cons_of_mem _ hz)
theorem deps_all {k : Nat} : ∀ {xs : List D}, (∀ a ∈ xs, a.dep ≤ k) → PyData.depthAll (D.pys xs) ≤ k
  | [], _ => Nat.zero_le _
  | x :: xs, h => by
    show max x.py.depth (PyData.depthAll (D.pys xs)) ≤ k
    have := deps_all fun a ha => h a (List.mem_cons_of_mem _ ha)
    have hx := h x List.mem_cons_self
    rw [← D.py_dep] at hx
    omega
def rMinG (K : PySem.W.Frag) : List V → Hp → VK → Prop := fun vs H Q => ∃ (L : Addr → Prop) (a : Addr) (ws : List V) (x : D) (xs : List D), vs = [V.ref a] ∧ SqL K H a ws ∧ Rps K H L ws (x :: xs) ∧ mOk (x :: xs) = true ∧
  ∀ v, Rp K H L v (minDD x xs) → Q v H
theorem rps_at {K : PySem.W.Frag} {H : Hp} {L : Addr → Prop} : ∀ {ws : List V} {ds : List D} {us : List Value} {i : Nat} {u : Value}, Rps K H L ws ds → Vals ws us → us[i]? = some u → ∃ w d, RelV w u ∧ Rp K H L w d ∧ d ∈ ds
  | _, _, _, _, _, .nil, .nil, e => by simp at e
  | _, _, _, 0, _, .cons h r, .cons v t, e => by
    simp only [List.getElem?_cons_zero, Option.some.injEq] at e
    subst e
    exact ⟨_, _, v, h, List.mem_cons_self⟩
  | _, _, _, i + 1, _, .cons h r, .cons v t, e => by
    obtain ⟨w, d, a, b, c⟩ := rps_at r t (by simpa using e)
    exact ⟨w, d, a, b, List.mem_cons_of_mem _ c⟩
theorem cr_minG {X : Cx} {k : Nat} (hc : X.calm = true) (hr : Room k X.A) : CallR X (.builtin "min") (rMinG X.K) := by
  intro pins s σ H vs us Q I r h
  obtain ⟨L, a, ws, x, xs, rfl, hs, hd, hg, q⟩ := h
  obtain ⟨its, rv, hl, hz⟩ := I.list hs
  rw [Vals.ref1 r]
  obtain ⟨as, ra⟩ := Dp.readsAll I _ _ _ hd.dp rv
  have un := hr.un
  have ak := fun {a b : D} (ha : a ∈ x :: xs) (hb : b ∈ x :: xs) => D.ak_py a b (mOk_ak hg ha hb)
  have e1 : D.pys (x :: xs) = (x :: xs).map D.py := by
    clear q hg hd ra ak
    induction (x :: xs) with
    | nil => rfl
    | cons y ys ih => show y.py :: D.pys ys = _; rw [ih]; rfl
  have al : PySem.W.AlikeAll (D.pys (x :: xs)) := by
    rw [e1]
    refine ⟨fun d hd d' hd' => ?_, fun d hd z => ?_⟩
    · obtain ⟨b, hb, rfl⟩ := List.mem_map.mp hd
      obtain ⟨b', hb', rfl⟩ := List.mem_map.mp hd'
      exact ak hb hb'
    · obtain ⟨b, hb, rfl⟩ := List.mem_map.mp hd
      have := mOk_ak hg hb hb
      cases b <;> simp [D.py] at z
      simp [D.ak] at this
  have dp := deps_all (k := 64) (xs := x :: xs) fun a ha => mOk_dep hg ha
  refine PySem.W.min_list_data (x := x.py) (xs := D.pys xs) (I.ok.hd hc) hl.isList (by rw [List.toList_toArray]; exact ra) al (by show X.A.units + 1 + PyData.depthAll (D.pys (x :: xs)) < _; omega) fun i v h' tk bs hv hrd hk => ?_
  obtain ⟨w, d, r1, r2, hm⟩ := rps_at hd rv (by simpa using hv)
  obtain ⟨as2, rd2⟩ := Dp.reads I _ _ _ r2.dp r1
  obtain ⟨m1, m2⟩ := minDD_py xs x (x :: xs) (fun a ha b hb => mOk_ak hg ha hb) List.mem_cons_self fun y hy => List.mem_cons_of_mem _ hy
  have rd3 := PyProof.Rows.Reads.keeps hk rd2
  rw [← m1] at hrd
  have := PySem.W.alike_unique _ _ _ _ _ (ak hm m2) rd3 hrd
  have := D.py_inj _ _ this
  subst this
  exact ⟨w, H, I.kept hk, r1, q w r2⟩
section
variable {X : Cx}
theorem Rqs.one {K : PySem.W.Frag} {H : Hp} {L : Addr → Prop} {vs : List V} {d : D} (h : Rqs K H L vs [d]) : ∃ v, vs = [v] ∧ Rq K H L v d := by
  cases h with
  | cons h r => cases r; exact ⟨_, rfl, h⟩
theorem Rqs.two {K : PySem.W.Frag} {H : Hp} {L : Addr → Prop} {vs : List V} {d e : D} (h : Rqs K H L vs [d, e]) : ∃ v w, vs = [v, w] ∧ Rq K H L v d ∧ Rq K H L w e := by
  cases h with
  | cons h r => cases r with
    | cons h' r => cases r; exact ⟨_, _, rfl, h, h'⟩
theorem one_of {f : Bf} {r : RX} {ds : List D} (h : bltD f ds = some r) (n : f ≠ .max2 ∧ f ≠ .min2 ∧ f ≠ .gcd ∧ f ≠ .divmod) : ∃ d, ds = [d] := by
  match ds, h with
  | [d], _ => exact ⟨d, rfl⟩
  | [], h => cases f <;> simp [bltD] at h
  | a :: b :: c, h => cases f <;> (try simp at n) <;> simp [bltD] at h
theorem call_D {k : Nat} (hr : Room k X.A) (hg : X.A.guards = some []) (hc : X.calm = true) (f : Bf) : CallR X f.val (rF X.K f) := by
  by_cases hf : f = .repr
  · subst hf; exact call_reprD hr hg
  intro pins s σ H vs us Q I r h
  obtain ⟨cm, S, ds, L, rs, hL, hq, q⟩ := h
  cases e : bltD f ds with
  | none => rw [e] at q; exact q.elim
  | some res =>
    rw [e] at q
    cases f with
    | repr => exact absurd rfl hf
    | len =>
      obtain ⟨d, rfl⟩ := one_of e (by simp)
      obtain ⟨v, rfl, hv⟩ := hq.one
      cases d with
      | lst xs =>
        simp only [bltD, Option.some.injEq] at e; subst e
        obtain ⟨a, ws, rfl, ha, hva⟩ := hv.lst
        exact call_len_seq pins s σ H _ us Q I r ⟨a, ws, rfl, .inl ha.sq, by rw [hva.length]; exact q _ _ cm (mkD rs (.int _))⟩
      | tup xs =>
        simp only [bltD, Option.some.injEq] at e; subst e
        obtain ⟨a, ws, rfl, ha, hva⟩ := hv.tup
        exact call_len_seq pins s σ H _ us Q I r ⟨a, ws, rfl, .inr ha, by rw [hva.length]; exact q _ _ cm (mkD rs (.int _))⟩
      | str x =>
        have ex := hv.str; subst ex
        by_cases hz : x.length ≤ line
        · simp only [bltD, if_pos hz, Option.some.injEq] at e; subst e
          exact call_len_str pins s σ H _ us Q I r ⟨x, rfl, by rw [← line_eq]; exact hz, q _ _ cm (mkD rs (.int _))⟩
        · simp only [bltD, if_neg hz] at e; cases e
      | _ => simp [bltD] at e
    | abs =>
      obtain rfl : L = Lv cm S := hL.elim id fun z => nomatch z
      obtain ⟨d, rfl⟩ := one_of e (by simp)
      obtain ⟨v, rfl, hv⟩ := hq.one
      cases d with
      | int i =>
        simp only [bltD, Option.some.injEq] at e; subst e
        have ex := hv.int; subst ex
        exact call_abs pins s σ H _ us Q I r ⟨i, rfl, q _ _ cm (mkD rs (.int _))⟩
      | _ => simp [bltD] at e
    | int =>
      obtain rfl : L = Lv cm S := hL.elim id fun z => nomatch z
      obtain ⟨d, rfl⟩ := one_of e (by simp)
      obtain ⟨v, rfl, hv⟩ := hq.one
      cases d with
      | int i =>
        simp only [bltD, Option.some.injEq] at e; subst e
        have ex := hv.int; subst ex
        exact call_int1 pins s σ H _ us Q I r (.inl ⟨i, rfl, q _ _ cm (mkD rs (.int _))⟩)
      | bl i =>
        simp only [bltD, Option.some.injEq] at e; subst e
        have ex := hv.bl; subst ex
        exact call_int1 pins s σ H _ us Q I r (.inr ⟨i, rfl, q _ _ cm (mkD rs (.int _))⟩)
      | str x =>
        have ex := hv.str; subst ex
        cases hn : PySem.intText? x with
        | none => simp only [bltD, hn] at e; cases e
        | some n =>
          by_cases hz : x.length ≤ 640
          · simp only [bltD, hn, if_pos hz, Option.some.injEq] at e; subst e
            exact call_int_str pins s σ H _ us Q I r ⟨x, n, rfl, hn, hz, q _ _ cm (mkD rs (.int _))⟩
          · simp only [bltD, hn, if_neg hz] at e; cases e
      | _ => simp [bltD] at e
    | max2 =>
      obtain rfl : L = Lv cm S := hL.elim id fun z => nomatch z
      match ds, e with
      | [.int i, .int j], e =>
        simp only [bltD, Option.some.injEq] at e; subst e
        obtain ⟨v, w, rfl, hv, hw⟩ := hq.two
        have ex := hv.int; have ey := hw.int; subst ex ey
        exact call_max2 hc pins s σ H _ us Q I r ⟨i, j, rfl, q _ _ cm (mkD rs (.int _))⟩
    | min2 =>
      obtain rfl : L = Lv cm S := hL.elim id fun z => nomatch z
      match ds, e with
      | [.int i, .int j], e =>
        simp only [bltD, Option.some.injEq] at e; subst e
        obtain ⟨v, w, rfl, hv, hw⟩ := hq.two
        have ex := hv.int; have ey := hw.int; subst ex ey
        exact call_min2 hc pins s σ H _ us Q I r ⟨i, j, rfl, q _ _ cm (mkD rs (.int _))⟩
    | gcd =>
      obtain rfl : L = Lv cm S := hL.elim id fun z => nomatch z
      match ds, e with
      | [.int i, .int j], e =>
        simp only [bltD, Option.some.injEq] at e; subst e
        obtain ⟨v, w, rfl, hv, hw⟩ := hq.two
        have ex := hv.int; have ey := hw.int; subst ex ey
        exact cr_gcd pins s σ H _ us Q I r ⟨i, j, rfl, q _ _ cm (mkD rs (.int _))⟩
    | divmod =>
      obtain rfl : L = Lv cm S := hL.elim id fun z => nomatch z
      match ds, e with
      | [.int i, .int j], e =>
        obtain ⟨v, w, rfl, hv, hw⟩ := hq.two
        have ex := hv.int; have ey := hw.int; subst ex ey
        by_cases hz : 0 < j ∧ j < 1073741824
        · simp only [bltD, if_pos hz, Option.some.injEq] at e; subst e
          exact call_divmod pins s σ H _ us Q I r ⟨i, j, rfl, hz, fun p hp => q _ _ cm (mkT rs hp (.cons (.int _) (.cons (.int _) .nil)))⟩
        · simp only [bltD, if_neg hz] at e; cases e
    | maxL =>
      obtain rfl : L = Lv cm S := hL.elim id fun z => nomatch z
      obtain ⟨d, rfl⟩ := one_of e (by simp)
      obtain ⟨v, rfl, hv⟩ := hq.one
      cases d with
      | lst xs =>
        obtain ⟨a, ws, rfl, ha, hva⟩ := hv.lst
        cases hn : intsOf xs with
        | none => simp only [bltD, hn] at e; cases e
        | some ns => cases ns with
          | nil => simp only [bltD, hn] at e; cases e
          | cons n ns =>
            simp only [bltD, hn, Option.some.injEq] at e; subst e
            have f1 := ints_rps hva hn; subst f1
            exact cr_max hc pins s σ H _ us Q I r ⟨a, n :: ns, rfl, ha.sq, by simp, fun m h1 h2 => by rw [maxI_is h1 h2]; exact q _ _ cm (mkD rs (.int _))⟩
      | _ => simp [bltD] at e
    | minL =>
      obtain rfl : L = Lv cm S := hL.elim id fun z => nomatch z
      obtain ⟨d, rfl⟩ := one_of e (by simp)
      obtain ⟨v, rfl, hv⟩ := hq.one
      cases d with
      | lst xs =>
        obtain ⟨a, ws, rfl, ha, hva⟩ := hv.lst
        have mG : minG xs = some res → wpAny (model X.prog X.w) X.A (call (.builtin "min") us) (EP X pins σ Q) X.xe s := fun e => by
          cases xs with
          | nil => cases e
          | cons x xs =>
            have e : (if mOk (x :: xs) = true then some (RX.d (minDD x xs)) else none) = some res := e
            by_cases hg : mOk (x :: xs) = true
            · rw [if_pos hg] at e
              cases e
              exact cr_minG hc hr pins s σ H _ us Q I r ⟨_, a, ws, x, xs, rfl, ha.sq, hva, hg, fun v rp => q _ _ cm (mkD rs rp)⟩
            · rw [if_neg hg] at e; cases e
        cases hn : intsOf xs with
        | none => simp only [bltD, hn] at e; exact mG e
        | some ns => cases ns with
          | nil => simp only [bltD, hn] at e; exact mG e
          | cons n ns =>
            simp only [bltD, hn, Option.some.injEq] at e; subst e
            have f1 := ints_rps hva hn; subst f1
            exact cr_min hc pins s σ H _ us Q I r ⟨a, n :: ns, rfl, ha.sq, by simp, fun m h1 h2 => by rw [minI_is h1 h2]; exact q _ _ cm (mkD rs (.int _))⟩
      | _ => simp [bltD] at e
    | sum =>
      obtain rfl : L = Lv cm S := hL.elim id fun z => nomatch z
      obtain ⟨d, rfl⟩ := one_of e (by simp)
      obtain ⟨v, rfl, hv⟩ := hq.one
      cases d with
      | lst xs =>
        obtain ⟨a, ws, rfl, ha, hva⟩ := hv.lst
        simp only [bltD, Option.map_eq_some_iff] at e
        obtain ⟨ns, hn, rfl⟩ := e
        have f1 := ints_rps hva hn; subst f1
        exact cr_sum hc pins s σ H _ us Q I r ⟨a, ns, rfl, ha.sq, q _ _ cm (mkD rs (.int _))⟩
      | _ => simp [bltD] at e
    | all =>
      obtain rfl : L = Lv cm S := hL.elim id fun z => nomatch z
      obtain ⟨d, rfl⟩ := one_of e (by simp)
      obtain ⟨v, rfl, hv⟩ := hq.one
      cases d with
      | lst xs =>
        obtain ⟨a, ws, rfl, ha, hva⟩ := hv.lst
        simp only [bltD, Option.map_eq_some_iff] at e
        obtain ⟨ns, hn, rfl⟩ := e
        have f1 := bls_rps hva hn; subst f1
        exact cr_all hc pins s σ H _ us Q I r ⟨a, ns, rfl, ha.sq, q _ _ cm (mkD rs (.bl _))⟩
      | _ => simp [bltD] at e
    | any =>
      obtain rfl : L = Lv cm S := hL.elim id fun z => nomatch z
      obtain ⟨d, rfl⟩ := one_of e (by simp)
      obtain ⟨v, rfl, hv⟩ := hq.one
      cases d with
      | lst xs =>
        obtain ⟨a, ws, rfl, ha, hva⟩ := hv.lst
        simp only [bltD, Option.map_eq_some_iff] at e
        obtain ⟨ns, hn, rfl⟩ := e
        have f1 := bls_rps hva hn; subst f1
        exact cr_any hc pins s σ H _ us Q I r ⟨a, ns, rfl, ha.sq, q _ _ cm (mkD rs (.bl _))⟩
      | _ => simp [bltD] at e
    | tuple =>
      obtain rfl : L = Lv cm S := hL.elim id fun z => nomatch z
      obtain ⟨d, rfl⟩ := one_of e (by simp)
      obtain ⟨v, rfl, hv⟩ := hq.one
      cases d with
      | lst xs =>
        simp only [bltD, Option.some.injEq] at e; subst e
        obtain ⟨a, ws, rfl, ha, hva⟩ := hv.lst
        exact call_tuple_of pins s σ H _ us Q I r ⟨a, ws, rfl, .inl ⟨ha.sq, fun p hp => q _ _ cm (mkT rs hp hva)⟩⟩
      | tup xs =>
        simp only [bltD, Option.some.injEq] at e; subst e
        obtain ⟨a, ws, rfl, ha, hva⟩ := hv.tup
        exact call_tuple_of pins s σ H _ us Q I r ⟨a, ws, rfl, .inr ⟨ha, q _ _ cm (mkD rs (.tup ha hva))⟩⟩
      | _ => simp [bltD] at e
    | list =>
      obtain rfl : L = Lv cm S := hL.elim id fun z => nomatch z
      obtain ⟨d, rfl⟩ := one_of e (by simp)
      obtain ⟨v, rfl, hv⟩ := hq.one
      cases d with
      | lst xs =>
        simp only [bltD, Option.some.injEq] at e; subst e
        obtain ⟨a, ws, rfl, ha, hva⟩ := hv.lst
        exact call_list_of pins s σ H _ us Q I r ⟨a, ws, rfl, .inl ha.sq, fun p hp => q _ _ cm (mkF rs hp hva)⟩
      | tup xs =>
        simp only [bltD, Option.some.injEq] at e; subst e
        obtain ⟨a, ws, rfl, ha, hva⟩ := hv.tup
        exact call_list_of pins s σ H _ us Q I r ⟨a, ws, rfl, .inr ha, fun p hp => q _ _ cm (mkF rs hp hva)⟩
      | _ => simp [bltD] at e
    | sorted =>
      obtain rfl : L = Lv cm S := hL.elim id fun z => nomatch z
      obtain ⟨d, rfl⟩ := one_of e (by simp)
      obtain ⟨v, rfl, hv⟩ := hq.one
      cases d with
      | lst xs =>
        obtain ⟨a, ws, rfl, ha, hva⟩ := hv.lst
        have srtG : sortG xs = some res → wpAny (model X.prog X.w) X.A (call (.builtin "sorted") us) (EP X pins σ Q) X.xe s := fun e => by
          unfold sortG at e
          by_cases hg : gOk xs = true
          · rw [if_pos hg] at e
            cases e
            exact cr_sortG hr pins s σ H _ us Q I r ⟨_, a, ws, xs, rfl, ha.sq, hva, hg, fun ys p hr' hf => q _ _ cm (mkF rs hf hr')⟩
          · rw [if_neg hg] at e; cases e
        cases hn : intsOf xs with
        | none =>
          simp only [bltD, hn] at e
          cases ht : tupsOf xs with
          | none =>
            rw [ht] at e
            exact srtG e
          | some tss =>
            rw [ht] at e
            dsimp only at e
            by_cases hk : tOk tss = true
            · rw [if_pos hk] at e
              cases e
              have ex := tupsOf_eq ht
              subst ex
              obtain ⟨d, h1, h64, hall⟩ := tOk_of hk
              have hlen : ws.length < 64 := by rw [hva.length, List.length_map]; exact h64
              refine cr_sortT (d := d) (B := tBd) h1 pins s σ H _ us Q I r ⟨a, ws, rfl, ha.sq, hlen, fun x hx => ?_, fun ys p hp hpw hf => ?_⟩
              · obtain ⟨n, hn, e⟩ := rps_tup_mem hva hx
                exact ⟨n, e, (hall n hn).1, (hall n hn).2⟩
              · obtain ⟨tss', hp', hr'⟩ := rps_permT hp _ hva
                have es : tss' = sortT tss := sortT_is hp' (rps_pw hr' hpw fun x y n m hx hy h => h n m (rp_tupI hx) (rp_tupI hy)) fun x hx y hy e => code_inj (hall x hx).2 (hall y hy).2 ((hall x hx).1.trans (hall y hy).1.symm) e
                rw [es] at hr'
                exact q _ _ cm (mkF rs hf hr')
            · rw [if_neg hk] at e
              exact srtG e
        | some ns =>
          simp only [bltD, hn, Option.some.injEq] at e; subst e
          have f1 := ints_rps hva hn; subst f1
          exact cr_sortedI pins s σ H _ us Q I r ⟨a, ns, rfl, ha.sq, fun ns' p h1 h2 hp => by rw [sortI_is h1 h2]; exact q _ _ cm (mkF rs hp (rps_ints _ _ _ _))⟩
      | _ => simp [bltD] at e
    | str =>
      obtain rfl : L = Lv cm S := hL.elim id fun z => nomatch z
      obtain ⟨d, rfl⟩ := one_of e (by simp)
      obtain ⟨v, rfl, hv⟩ := hq.one
      cases d with
      | int i =>
        have ex := hv.int; subst ex
        by_cases hz : i.natAbs.log2 < 1920
        · simp only [bltD, if_pos hz, Option.some.injEq] at e; subst e
          exact call_str_int pins s σ H _ us Q I r ⟨i, rfl, hz, q _ _ cm (mkD rs (.str _))⟩
        · simp only [bltD, if_neg hz] at e; cases e
      | _ => simp [bltD] at e
end
end Rf

set_option Elab.async false
set_option linter.all false
set_option maxRecDepth 100000
set_option maxHeartbeats 1000000
namespace Rf
open PySem PySem.Spec PyProof.Rows L2

theorem PE.imp {X : Cx} {e : Expr} {t t' : TE} (h : PE X e t) (w : ∀ σ H Q, t' σ H Q → t σ H Q) : PE X e t' := ⟨fun pins s σ H Q I q => h.run pins s σ H Q I (w σ H Q q)⟩
theorem PT.imp {X : Cx} {e : Expr} {t t' : TT} (h : PT X e t) (w : ∀ σ H Q, t' σ H Q → t σ H Q) : PT X e t' := ⟨fun pins s σ H Q I q => h.run pins s σ H Q I (w σ H Q q)⟩
theorem PW.imp {X : Cx} {e : Expr} {t t' : TT} (h : PW X e t) (w : ∀ σ H Q, t' σ H Q → t σ H Q) : PW X e t' := ⟨fun wh pins s σ H Q I q => h.run wh pins s σ H Q I (w σ H Q q)⟩
theorem PA.imp {X : Cx} {es : List Expr} {t t' : L2.TA} (h : PA X es t) (w : ∀ σ H Q, t' σ H Q → t σ H Q) : PA X es t' := ⟨fun pos pins s σ H Q I q => h.run pos pins s σ H Q I (w σ H Q q)⟩
theorem PS.imp {X : Cx} {st : Stmt} {t t' : TS} (h : PS X st t) (w : ∀ D σ H, t' D σ H → t D σ H) : PS X st t' := ⟨fun pins s σ H D I q => h.run pins s σ H D I (w D σ H q)⟩
theorem PSs.imp {X : Cx} {st : List Stmt} {t t' : TS} (h : PSs X st t) (w : ∀ D σ H, t' D σ H → t D σ H) : PSs X st t' := ⟨fun pins s σ H D I q => h.run pins s σ H D I (w D σ H q)⟩
theorem PI.imp {X : Cx} {tg e : Expr} {t t' : TI} (h : PI X tg e t) (w : ∀ σ H R, t' σ H R → t σ H R) : PI X tg e t' := ⟨fun pins s σ H R I q => h.run pins s σ H R I (w σ H R q)⟩
theorem PG.imp {X : Cx} {tg : Expr} {t t' : TG} (h : PG X tg t) (w : ∀ v σ H Q, t' v σ H Q → t v σ H Q) : PG X tg t' := ⟨fun pins s σ H v u Q I r q => h.run pins s σ H v u Q I r (w v σ H Q q)⟩

/-! ### a def's promise, where no repr runs -/
structure FnG (P : Program) (w : World) (K : PySem.W.Frag) (mg : Mg) (base : Heap) (CX : CXT) (k : Nat) (f : Addr) (fd : FuncData) (ps : List Str) (sp : Sp) : Prop where
  len : ∀ vs H Q E, sp vs H Q E → vs.length = ps.length
  run : ∀ (A : Around) (outer : List PySem.Env) (s : Shared) (H : Hp) (args : Args) (us : List Value) (vs : List V) (Q : VK) (E : XK), A.guards = some [] → Room k A → Env0 P w K mg base A outer s H → BindsTo s fd args (ps.zip us) → Vals vs us → sp vs H Q E →
    codeAny (model P w) A (.call (.ref f) args) (CR CX outer P w H s Q E) s
theorem FnG.mono {P : Program} {w : World} {K : PySem.W.Frag} {mg : Mg} {base : Heap} {CX : CXT} {j k : Nat} {f : Addr} {fd : FuncData} {ps : List Str} {sp : Sp} (F : FnG P w K mg base CX j f fd ps sp) (h : j ≤ k) : FnG P w K mg base CX k f fd ps sp :=
  ⟨F.len, fun A outer s H args us vs Q E g hr => F.run A outer s H args us vs Q E g (hr.mono h)⟩
/-- mirror's promise -/
def spOf (K : PySem.W.Frag) (mg : Mg) (n : Nat) (m : Mir) : Sp := fun vs H Q E => ∃ rvs cm S, vs.length = n ∧ SR K H cm S ∧ VsOk K H cm S vs rvs ∧ okG K mg E (PX K) Q H cm S (m rvs S)
theorem fnG_of {P : Program} {w : World} {K : PySem.W.Frag} {mg : Mg} {base : Heap} {CX : CXT} {k : Nat} {x qual : Str} {st : Stmt} {f : Addr} {fd : FuncData} {N ps : List Str} {sp : Sp} (F : Fun K x qual st f fd) (S : FnScope N ps (defScope st)) (len : ∀ vs H Q E, sp vs H Q E → vs.length = ps.length)
    (body : ∀ (cdv : Value) (A : Around) (outer : List PySem.Env) (s : Shared) (H : Hp) (vs : List V) (Q : VK) (E : XK), A.guards = some [] → Room k (A.deeper (envOfC qual (defScope st) s.heap.objs.size f cdv)) → sp vs H Q E →
      ∃ t, PSs (cxOf CX P w K mg base N qual (defScope st) f cdv A outer s H E) (defBody st) t ∧ t { nx := fun _ H' => Q .non H', rt := Q } (start N vs) H) : FnG P w K mg base CX (k + 1) f fd ps sp := by
  obtain ⟨oc, od, kV, doc, pm, an, cdv, ct, osl, rfl, lk, hcd⟩ := F.ex
  refine ⟨len, fun A outer s H args us vs Q E g hr e0 hb r hsp => ?_⟩
  have h1 := len _ _ _ _ hsp
  have inK : K.In s.heap := e0.mod.kin.keeps fun b o e => (e0.bs b o e).1
  have lim : s.heap.NoLimit := e0.mod.nolimit.keeps fun b o e => (e0.bs b o e).1
  have kinds : ∀ y ∈ ps.zip us, (defScope st).names.lookup y.1 = some .local ∨ ((defScope st).names.lookup y.1 = some .cell ∧ ((cellsFrom (s.heap.objs.size + 1) (defScope st).names []).lookup y.1).isSome = true) := fun y hy => by
    obtain ⟨n, v⟩ := y
    rcases S.par n (List.of_mem_zip hy).1 with q | q
    · exact .inl q
    · exact .inr ⟨q, PySem.W.cellsFrom_some _ _ _ (.inl q)⟩
  refine codeAny_call_function hr.depth (inK _ _ lk) rfl S.co S.gen rfl (PySem.W.codeRec_of inK hcd) (hb _ _ _ _ ?_)
  refine wpAny_newFunctionEnv_cells S.kind kinds fun env he s1 x => ?_
  subst he
  refine ⟨lim.keeps x.toInCall.keep, codeAny_func ?_⟩
  obtain ⟨t, ht, hq⟩ := body cdv A outer s H vs Q E g (hr.deeper _) hsp
  have I : Inv (cxOf CX P w K mg base N qual (defScope st) f cdv A outer s H E) [] (start N vs) H s1 := inv_start S hr.hd e0 h1 r x
  refine wpAny_mono (ht.run [] s1 (start N vs) H _ I hq) (fun fl s' hs => ?_) fun e s' hs => hs
  cases fl with
  | ret u =>
    obtain ⟨v, σ', H', J, rv, q⟩ := hs
    exact ⟨v, H', J.os, J.bare, J.base, J.hok, rv, q⟩
  | next =>
    obtain ⟨σ', H', J, q⟩ := hs
    exact ⟨V.non, H', J.os, J.bare, J.base, J.hok, rfl, q⟩
  | brk => obtain ⟨_, _, _, q⟩ := hs; exact q.elim
  | cont => obtain ⟨_, _, _, q⟩ := hs; exact q.elim

/-! ### calls -/
section
variable {X : Cx} {CX : CXT} {k : Nat} {f : Addr} {fd : FuncData} {ps : List Str} {sp : Sp} {E : XK} {x : Str} {p pos : Pos}
theorem run_fnG {pins : List (Addr × Obj)} {σ : L2.St} {H : Hp} {s : Shared} {Q : VK} {args : Args} {us : List Value} {vs : List V} (F : FnG X.prog X.w X.K X.mg X.base CX k f fd ps sp) (g : X.A.guards = some []) (hr : Room k X.A) (hx : Passes CX X E)
    (I : Inv X pins σ H s) (hb : us.length = ps.length → BindsTo s fd args (ps.zip us)) (r : Vals vs us) (h : sp vs H Q E) : wpAny (model X.prog X.w) X.A (call (.ref f) args.pos args.kw) (EP X pins σ Q) X.xe s := by
  have hl : us.length = ps.length := by rw [← r.length]; exact F.len _ _ _ _ h
  refine wpAny_call (codeAny_mono (F.run X.A X.stack s H args us vs Q E g hr I.env0 (hb hl) r h) fun r s' hq => ?_)
  cases r with
  | error e => exact hx pins σ H s e s' I hq
  | ok fl =>
    cases fl with
    | ret u => exact I.after hq
    | next => exact False.elim hq
    | brk => exact False.elim hq
    | cont => exact False.elim hq
/-- the arguments are plain -/
def plainE : Expr → Bool
  | .Starred .. => false
  | _ => true
theorem star_cons {e : Expr} {es : List Expr} {env : PySem.Env} (h : plainE e = true) : starEach (e :: es) env = (false, eval e env) :: starEach es env := by
  cases e <;> first | rfl | (simp [plainE] at h)
theorem star_any {env : PySem.Env} {pos : Pos} : ∀ {es : List Expr}, es.all plainE = true → (backTo pos (starEach es env)).any (·.1) = false
  | [], _ => rfl
  | e :: es, h => by
    rw [List.all_cons, Bool.and_eq_true] at h
    rw [star_cons h.1]
    have ih := star_any (pos := pos) (env := env) h.2
    show (false || (backTo pos (starEach es env)).any (·.1)) = false
    rw [ih]; rfl
theorem pe_callG0 (F : FnG X.prog X.w X.K X.mg X.base CX k f fd ps sp) (g : X.A.guards = some []) (hr : Room k X.A) (hx : Passes CX X E) (hg : Gl X x) (hm : X.mg x = some (.ref f)) (hk : PySem.W.keepIn X.K (.ref f) = true) (hdb : (x == ("__debug__" : Str)) = false)
    (hb : ∀ us : List Value, us.length = ps.length → bindArgs fd ⟨us, []⟩ = pure (ps.zip us)) : PE X (.Call (.Name x p) [] [] pos) (fun σ H Q => sp [] H Q E) := by
  refine ⟨fun pins s σ H Q I h => ?_⟩
  refine wpAny_Call_Name_kw (ld_glob I hg hm ?_ hdb)
  exact PySem.W.callWith_K0 I.kIn hk (run_fnG (args := ⟨[], []⟩) F g hr hx I (fun hl => .of_eq (hb [] hl)) .nil h)
theorem pe_callG {e : Expr} {es : List Expr} {t : L2.TA} (F : FnG X.prog X.w X.K X.mg X.base CX k f fd ps sp) (g : X.A.guards = some []) (hr : Room k X.A) (hx : Passes CX X E) (hg : Gl X x) (hm : X.mg x = some (.ref f)) (hk : PySem.W.keepIn X.K (.ref f) = true) (hdb : (x == ("__debug__" : Str)) = false)
    (hb : ∀ us : List Value, us.length = ps.length → bindArgs fd ⟨us, []⟩ = pure (ps.zip us)) (ha : PA X (e :: es) t) (hp : (e :: es).all plainE = true) : PE X (.Call (.Name x p) (e :: es) [] pos) (fun σ H Q => t σ H fun vs H1 => sp vs H1 Q E) := by
  refine ⟨fun pins s σ H Q I h => ?_⟩
  refine wpAny_Call_Name_kw (ld_glob I hg hm ?_ hdb)
  rw [List.all_cons, Bool.and_eq_true] at hp
  refine PySem.W.callWith_K (h₀ := X.base) I.ok.mod.kin hk (thn (ha.run pos pins s σ H _ I h) fun us s1 ⟨vs, H1, I1, r, q⟩ => ⟨I1.kIn, ?_⟩) (star_cons hp.1) (star_any hp.2)
  exact run_fnG (args := ⟨us, []⟩) F g hr hx I1 (fun hl => .of_eq (hb us hl)) r q
/-! keywords -/
theorem kw_all {env : PySem.Env} {pos : Pos} : ∀ {kws : List Keyword}, kws.all (·.arg.isSome) = true → (backToKw pos (keywordEach kws env)).all (·.1.isSome) = true
  | [], _ => rfl
  | ⟨n, e, p⟩ :: kws, h => by
    rw [List.all_cons, Bool.and_eq_true] at h
    have ih := kw_all (pos := pos) (env := env) h.2
    show (n.isSome && (backToKw pos (keywordEach kws env)).all (·.1.isSome)) = true
    rw [ih, h.1]; rfl
theorem kw_any {env : PySem.Env} {pos : Pos} : ∀ {kws : List Keyword}, kws.all (·.arg.isSome) = true → (backToKw pos (keywordEach kws env)).any (·.1.isNone) = false
  | [], _ => rfl
  | ⟨n, e, p⟩ :: kws, h => by
    rw [List.all_cons, Bool.and_eq_true] at h
    have ih := kw_any (pos := pos) (env := env) h.2
    show (n.isNone || (backToKw pos (keywordEach kws env)).any (·.1.isNone)) = false
    rw [ih]
    cases n with
    | none => simp at h
    | some n => rfl
theorem kw_names {env : PySem.Env} {pos : Pos} : ∀ {kws : List Keyword}, (backToKw pos (keywordEach kws env)).filterMap (·.1) = kws.filterMap (·.arg)
  | [] => rfl
  | ⟨n, e, p⟩ :: kws => by
    have ih := kw_names (pos := pos) (env := env) (kws := kws)
    cases n with
    | none => exact ih
    | some n => exact congrArg (n :: ·) ih
/-- how keywords bind: the i-th parameter is what stands at perm's i-th place among the arguments as they are written -/
def KwOk (fd : FuncData) (ps : List Str) (np : Nat) (ks : List Str) (perm : List Nat) : Prop :=
  ∀ us ws : List Value, us.length = np → ws.length = ks.length → ∃ zs, perm.mapM (fun i => (us ++ ws)[i]?) = some zs ∧ bindArgs fd ⟨us, ks.zip ws⟩ = pure (ps.zip zs)
theorem perm_vals {xs : List V} {us : List Value} (r : Vals xs us) : ∀ {perm : List Nat} {zs : List Value}, perm.mapM (fun i => us[i]?) = some zs → ∃ ys, perm.mapM (fun i => xs[i]?) = some ys ∧ Vals ys zs
  | [], zs, e => by simp at e; subst e; exact ⟨[], rfl, .nil⟩
  | i :: perm, zs, e => by
    rw [List.mapM_cons] at e
    simp only [Option.pure_def, Option.bind_eq_bind, Option.bind_eq_some_iff, Option.some.injEq] at e
    obtain ⟨u, e1, zs', e2, rfl⟩ := e
    obtain ⟨ys, h1, h2⟩ := perm_vals r e2
    cases q : xs[i]? with
    | none => rw [r.none_of q] at e1; cases e1
    | some x =>
      obtain ⟨u', h3, h4⟩ := r.get q
      rw [e1] at h3; cases h3
      refine ⟨x :: ys, ?_, .cons h4 h2⟩
      rw [List.mapM_cons, q, h1]; rfl
def tKw (perm : List Nat) (sp : Sp) (E : XK) (vs : List V) (H : Hp) (Q : VK) : Prop := ∃ ys, perm.mapM (fun i => vs[i]?) = some ys ∧ sp ys H Q E
theorem pe_callKG {e : Expr} {es : List Expr} {kws : List Keyword} {perm : List Nat} {t tk : L2.TA} (F : FnG X.prog X.w X.K X.mg X.base CX k f fd ps sp) (g : X.A.guards = some []) (hr : Room k X.A) (hx : Passes CX X E) (hg : Gl X x) (hm : X.mg x = some (.ref f)) (hk : PySem.W.keepIn X.K (.ref f) = true) (hdb : (x == ("__debug__" : Str)) = false)
    (hb : KwOk fd ps (e :: es).length (kws.filterMap (·.arg)) perm) (ha : PA X (e :: es) t) (hkw : PK X kws tk) (hp : (e :: es).all plainE = true) (hn : kws.all (·.arg.isSome) = true)
    (hl1 : ∀ σ H Q, t σ H Q → t σ H fun vs H1 => vs.length = (e :: es).length ∧ Q vs H1) (hl2 : ∀ σ H Q, tk σ H Q → tk σ H fun vs H1 => vs.length = (kws.filterMap (·.arg)).length ∧ Q vs H1) :
    PE X (.Call (.Name x p) (e :: es) kws pos) (fun σ H Q => t σ H fun vs H1 => tk σ H1 fun zs H2 => tKw perm sp E (vs ++ zs) H2 Q) := by
  refine ⟨fun pins s σ H Q I h => ?_⟩
  refine wpAny_Call_Name_kw (ld_glob I hg hm ?_ hdb)
  have hp' := hp
  rw [List.all_cons, Bool.and_eq_true] at hp'
  refine PySem.W.callWith_KW (h₀ := X.base) I.ok.mod.kin hk (kw_all hn) (thn (ha.run pos pins s σ H _ I (hl1 _ _ _ h)) fun us s1 ⟨vs, H1, I1, r, lv, q⟩ => ?_) (by rw [star_any hp, kw_any hn]; rfl) (star_cons hp'.1)
  refine thn (hkw.run pos pins s1 σ H1 _ I1 (hl2 _ _ _ q)) fun ws s2 ⟨zs, H2, I2, rz, lz, ys, e1, q2⟩ => ⟨I2.kIn, ?_⟩
  rw [kw_names]
  obtain ⟨zs', h1, h2⟩ := hb us ws (by rw [← r.length]; exact lv) (by rw [← rz.length]; exact lz)
  obtain ⟨ys', h3, h4⟩ := perm_vals (r.append rz) h1
  rw [e1] at h3; cases h3
  exact run_fnG (args := ⟨us, (kws.filterMap (·.arg)).zip ws⟩) F g hr hx I2 (fun _ => .of_eq h2) h4 q2
theorem pe_callKG0 {kws : List Keyword} {perm : List Nat} {tk : L2.TA} (F : FnG X.prog X.w X.K X.mg X.base CX k f fd ps sp) (g : X.A.guards = some []) (hr : Room k X.A) (hx : Passes CX X E) (hg : Gl X x) (hm : X.mg x = some (.ref f)) (hk : PySem.W.keepIn X.K (.ref f) = true) (hdb : (x == ("__debug__" : Str)) = false)
    (hb : KwOk fd ps 0 (kws.filterMap (·.arg)) perm) (hkw : PK X kws tk) (hn : kws.all (·.arg.isSome) = true)
    (hl2 : ∀ σ H Q, tk σ H Q → tk σ H fun vs H1 => vs.length = (kws.filterMap (·.arg)).length ∧ Q vs H1) :
    PE X (.Call (.Name x p) [] kws pos) (fun σ H Q => tk σ H fun zs H2 => tKw perm sp E zs H2 Q) := by
  refine ⟨fun pins s σ H Q I h => ?_⟩
  refine wpAny_Call_Name_kw (ld_glob I hg hm ?_ hdb)
  refine PySem.W.callWith_KW0 (h₀ := X.base) I.ok.mod.kin hk (kw_all hn) (thn (hkw.run pos pins s σ H _ I (hl2 _ _ _ h)) fun ws s2 ⟨zs, H2, I2, rz, lz, ys, e1, q2⟩ => ⟨I2.kIn, ?_⟩) (by rw [kw_any hn]; rfl)
  rw [kw_names]
  obtain ⟨zs', h1, h2⟩ := hb [] ws rfl (by rw [← rz.length]; exact lz)
  obtain ⟨ys', h3, h4⟩ := perm_vals rz h1
  rw [e1] at h3; cases h3
  exact run_fnG (args := ⟨[], (kws.filterMap (·.arg)).zip ws⟩) F g hr hx I2 (fun _ => .of_eq h2) h4 q2
end
end Rf

set_option Elab.async false
set_option linter.all false
set_option maxRecDepth 100000
set_option maxHeartbeats 1000000
namespace Rf
open PySem PySem.Spec PyProof.Rows L2

/-! ### the text is of the small language's form -/
structure Ct where
  N : List Str
  sc : Scope
  fns : List (Str × List Str)
  kws : List (List (Nat × List Str × List Nat))
  cons : List Str
  gcd : Bool
  /-- names whose cells were made here -/
  fn : Str → Bool
def Ct.vis (c : Ct) (x : Str) : Bool := match c.sc.names.lookup x with
  | some .local | some .cell | some .free => true
  | _ => false
def Ct.loc (c : Ct) (x : Str) : Bool := match c.sc.names.lookup x with
  | some .local => true
  | some .cell => c.fn x
  | _ => false
def Ct.glb (c : Ct) (x : Str) : Bool := decide (c.sc.names.lookup x = some .globalImplicit)
def dbg : Str := "__debug__"
def cld : Str := "__classdict__"
def Ct.slot (c : Ct) (i : Nat) (x : Str) : Bool := decide (c.N[i]? = some x)
def chkK : Const → D → Bool
  | .none, .non => true
  | .bool a, .bl b => a == b
  | .int a, .int b => decide (a = b)
  | .str a, .str b => decide (a = b)
  | _, _ => false
def Bf.nm : Bf → Str
  | .len => "len"
  | .abs => "abs"
  | .int => "int"
  | .max2 => "max"
  | .min2 => "min"
  | .maxL => "max"
  | .minL => "min"
  | .sum => "sum"
  | .all => "all"
  | .any => "any"
  | .tuple => "tuple"
  | .list => "list"
  | .repr => "repr"
  | .gcd => "gcd"
  | .divmod => "divmod"
  | .sorted => "sorted"
  | .str => "str"
def Ty.nm : Ty → Str
  | .int => "int"
  | .bool => "bool"
  | .str => "str"
  | .list => "list"
  | .tuple => "tuple"
def Mf.nm : Mf → Str
  | .split => "split"
  | .join => "join"
  | .index => "index"
  | .count => "count"
def bltNames : List Str := ["len", "abs", "int", "max", "min", "sum", "all", "any", "tuple", "list", "repr", "divmod", "sorted", "str", "bool", "isinstance", "range", "enumerate", "zip", "set"]
def Es.isRd : Es → Bool
  | .nil => true
  | .cons .rd _ es => es.isRd
  | .cons _ _ _ => false
def Es.isDat : Es → Bool
  | .nil => true
  | .cons .dat _ es => es.isDat
  | .cons _ _ _ => false
def Es.len : Es → Nat
  | .nil => 0
  | .cons _ _ es => es.len + 1
def notSl : Expr → Bool
  | .Slice .. => false
  | _ => true
def notCall : Expr → Bool
  | .Call _ [] [] _ => false
  | _ => true
def notSet : Expr → Bool
  | .Set .. => false
  | _ => true
def chkTy (c : Ct) : Expr → Ty → Bool
  | .Name x _, t => decide (x = t.nm) && c.glb x
  | _, _ => false
def chkTys (c : Ct) : List Expr → List Ty → Bool
  | [], [] => true
  | e :: es, t :: ts => chkTy c e t && plainE e && chkTys c es ts
  | _, _ => false
/-- a target: names alone -/
def chkNs (c : Ct) : List Expr → List Nat → Bool
  | [], [] => true
  | .Name x _ :: es, i :: is => c.slot i x && c.loc x && chkNs c es is
  | _, _ => false
mutual
def chkTg (c : Ct) : Tg → Expr → Bool
  | .n i, e => (match e with
    | .Name x _ => c.slot i x && c.loc x
    | _ => false)
  | .t ts, e => (match e with
    | .Tuple es _ _ => chkTgs c ts es
    | _ => false)
def chkTgs (c : Ct) : Tgs → List Expr → Bool
  | .nil, es => es.isEmpty
  | .cons t ts, es => (match es with
    | e :: es => chkTg c t e && chkTgs c ts es
    | [] => false)
end
def I.plain : I → Bool
  | .seq _ => true
  | .rng _ => true
  | _ => false
def isTup : Expr → Bool
  | .Tuple .. => true
  | _ => false
mutual
def chkE (c : Ct) : E → Expr → Bool
  | .var i, e => (match e with
    | .Name x _ => c.slot i x && c.vis x && decide (x ≠ dbg) && decide (x ≠ cld)
    | _ => false)
  | .lit d, e => (match e with
    | .Constant k _ _ => chkK k d
    | _ => false)
  | .con i, e => (match e with
    | .Name x _ => decide (c.cons[i]? = some x) && c.glb x && decide (x ≠ dbg)
    | _ => false)
  | .tup ms, e => (match e with
    | .Tuple es _ _ => es.all plainE && chkEs c ms es
    | _ => false)
  | .lst ms, e => (match e with
    | .List es _ => es.all plainE && chkEs c ms es
    | _ => false)
  | .bin op a b, e => (match e with
    | .BinOp x op' y _ => decide (op' = op) && chkE c a x && chkE c b y
    | _ => false)
  | .neg a, e => (match e with
    | .UnaryOp .USub x _ => chkE c a x
    | _ => false)
  | .nt a, e => (match e with
    | .UnaryOp .Not x _ => chkE c a x
    | _ => false)
  | .cmp op a b, e => (match e with
    | .Compare x [op'] [y] _ => decide (op' = op) && notSet y && chkE c a x && chkE c b y
    | _ => false)
  | .ch2 o1 o2 a b d, e => (match e with
    | .Compare x [p1, p2] [y, z] _ => decide (p1 = o1) && decide (p2 = o2) && notSet z && chkE c a x && chkE c b y && chkE c d z
    | _ => false)
  | .ch3 o1 o2 o3 a b d f, e => (match e with
    | .Compare x [p1, p2, p3] [y, z, w] _ => decide (p1 = o1) && decide (p2 = o2) && decide (p3 = o3) && notSet w && chkE c a x && chkE c b y && chkE c d z && chkE c f w
    | _ => false)
  | .and a b, e => (match e with
    | .BoolOp .And [x, y] _ => chkE c a x && chkE c b y
    | .BoolOp .And (x :: y :: z :: r) p => chkE c a x && chkE c b (.BoolOp .And (y :: z :: r) p)
    | _ => false)
  | .or a b, e => (match e with
    | .BoolOp .Or [x, y] _ => chkE c a x && chkE c b y
    | .BoolOp .Or (x :: y :: z :: r) p => chkE c a x && chkE c b (.BoolOp .Or (y :: z :: r) p)
    | _ => false)
  | .ite t a b, e => (match e with
    | .IfExp x y z _ => chkE c t x && chkE c a y && chkE c b z
    | _ => false)
  | .idx a i, e => (match e with
    | .Subscript x y _ => notSl y && chkE c a x && chkE c i y
    | _ => false)
  | .sl a lo hi, e => (match e with
    | .Subscript x (.Slice l h none _) _ => chkE c a x && chkO c lo l && chkO c hi h
    | _ => false)
  | .rev a, e => (match e with
    | .Subscript x (.Slice none none (some (.UnaryOp .USub (.Constant (.int k) _ _) _)) _) _ => decide (k = 1) && chkE c a x
    | _ => false)
  | .call f ms, e => (match e with
    | .Call (.Name x _) es [] _ => (match c.fns[f]? with | some (y, ps) => decide (x = y) && decide (ms.len = ps.length) | none => false) && c.glb x && decide (x ≠ dbg) && es.all plainE && chkEs c ms es
    | _ => false)
  | .pk f ms, e => (match e with
    | .Call (.Name x _) es [] _ => (match c.fns[f]? with | some (y, ps) => decide (x = y) && decide (ms.len = ps.length) | none => false) && c.glb x && decide (x ≠ dbg) && es.all plainE && !es.isEmpty && chkEs c ms es
    | _ => false)
  | .frz a, e => (match e with
    | .Call f es ks p => chkE c a (.Call f es ks p)
    | _ => false)
  | .kall f ms ns perm, e => (match e with
    | .Call (.Name x _) es kws _ => (match c.fns[f]? with | some (y, ps) => decide (x = y) && decide (perm.length = ps.length) | none => false) && c.glb x && decide (x ≠ dbg) && es.all plainE && kws.all (·.arg.isSome) && decide ((es.length, kws.filterMap (·.arg), perm) ∈ (c.kws[f]?).getD []) && chkEs c ms es && chkKw c ns kws
    | _ => false)
  | .blt f ms, e => (match e with
    | .Call (.Name x _) es [] _ => decide (x = f.nm) && c.glb x && (decide (f ≠ .gcd) || c.gcd) && !es.isEmpty && es.all plainE && chkEs c ms es
    | _ => false)
  | .mth f o ms, e => (match e with
    | .Call (.Attribute y m ap) es [] cp => decide (f = .split ∨ f = .join) && decide (m = f.nm) && (ap.endLine == cp.line) && !es.isEmpty && decide (es.length < 9) && es.all plainE && notCall y && chkE c o y && chkEs c ms es
    | _ => false)
  | .pop i, e => (match e with
    | .Call (.Attribute (.Name x _) m ap) [] [] cp => decide (m = "pop") && (ap.endLine == cp.line) && c.slot i x && c.vis x && decide (x ≠ dbg) && decide (x ≠ cld)
    | _ => false)
  | .nev, _ => true
  | .isi a ts, e => (match e with
    | .Call (.Name x _) [y, .Tuple es _ _] [] _ => decide (x = "isinstance") && c.glb x && plainE y && chkE c a y && decide (es.length ≤ 16) && chkTys c es ts
    | .Call (.Name x _) [y, t] [] _ => decide (x = "isinstance") && c.glb x && plainE y && chkE c a y && (match ts with | [u] => chkTy c t u && plainE t | _ => false)
    | _ => false)
  | .comp elt tg it cond own, e => (match e with
    | .ListComp elt' [⟨tg', iter, ifs, 0⟩] scope _ =>
      blkC c.N c.sc scope (own.filterMap fun i => c.N[i]?.map fun x => (x, i)) && decide ((own.filterMap fun i => c.N[i]?.map fun x => (x, i)).map (·.2) = own) && tg.slots.all (own.contains ·) &&
      chkTg { c with sc := relS scope c.sc, fn := fun x => scope.names.lookup x == some .cell } tg tg' && notSet iter && chkI c it iter && (isTup tg' || it.plain) &&
      chkC { c with sc := relS scope c.sc, fn := fun x => scope.names.lookup x == some .cell } cond ifs && chkE { c with sc := relS scope c.sc, fn := fun x => scope.names.lookup x == some .cell } elt elt'
    | _ => false)
  | .compx elt tg it cond own, e => (match e with
    | .ListComp elt' [⟨tg', iter, ifs, 0⟩] scope _ =>
      blkC c.N c.sc scope (own.filterMap fun i => c.N[i]?.map fun x => (x, i)) && decide ((own.filterMap fun i => c.N[i]?.map fun x => (x, i)).map (·.2) = own) && tg.slots.all (own.contains ·) &&
      chkTg { c with sc := relS scope c.sc, fn := fun x => scope.names.lookup x == some .cell } tg tg' && notSet iter && chkI c it iter && (isTup tg' || it.plain) &&
      chkC { c with sc := relS scope c.sc, fn := fun x => scope.names.lookup x == some .cell } cond ifs && chkE { c with sc := relS scope c.sc, fn := fun x => scope.names.lookup x == some .cell } elt elt'
    | _ => false)
  | .lsx ms, e => (match e with
    | .List es _ => es.all plainE && chkEs c ms es
    | _ => false)
  | .rngv ms, e => (match e with
    | .Call (.Name x _) es [] _ => decide (x = "range") && c.glb x && es.all plainE && decide (es.length = 1 ∨ es.length = 2) && chkEs c ms es
    | _ => false)
  | .lrng ms, e => (match e with
    | .Call (.Name y _) [.Call (.Name x _) es [] _] [] _ => decide (y = "list") && c.glb y && decide (x = "range") && c.glb x && es.all plainE && decide (es.length = 1 ∨ es.length = 2) && chkEs c ms es
    | _ => false)
  | .trng ms, e => (match e with
    | .Call (.Name y _) [.Call (.Name x _) es [] _] [] _ => decide (y = "tuple") && c.glb y && decide (x = "range") && c.glb x && es.all plainE && decide (es.length = 1 ∨ es.length = 2) && chkEs c ms es
    | _ => false)
  | .slen a, e => (match e with
    | .Call (.Name y _) [.Call (.Name x _) [z] [] _] [] _ => decide (y = "len") && c.glb y && decide (x = "set") && c.glb x && plainE z && chkE c a z
    | _ => false)
  | .tpc ms, e => (match e with
    | .Tuple es _ _ => es.all plainE && chkEs c ms es
    | _ => false)
  | .tix a, e => (match e with
    | .Subscript x (.Constant (.int i) _ _) _ => decide (i = 1) && chkE c a x
    | _ => false)
  | .ixo o m, e => (match e with
    | .Call (.Attribute y a ap) [z] [] cp => decide (a = "index") && (ap.endLine == cp.line) && plainE z && notCall y && chkE c o y && chkE c m z
    | _ => false)
def chkO (c : Ct) : Eo → Option Expr → Bool
  | .no, e => e.isNone
  | .yes m, e => (match e with
    | some e => chkE c m e
    | none => false)
def chkC (c : Ct) : Eo → List Expr → Bool
  | .no, e => e.isEmpty
  | .yes m, e => (match e with
    | [e] => chkE c m e
    | _ => false)
def chkEs (c : Ct) : Es → List Expr → Bool
  | .nil, es => es.isEmpty
  | .cons _ m ms, es => (match es with
    | e :: es => chkE c m e && chkEs c ms es
    | [] => false)
def chkKw (c : Ct) : Es → List Keyword → Bool
  | .nil, es => es.isEmpty
  | .cons _ m ms, es => (match es with
    | ⟨_, e, _⟩ :: es => chkE c m e && chkKw c ms es
    | [] => false)
def chkI (c : Ct) : I → Expr → Bool
  | .seq m, e => chkE c m e
  | .rng ms, e => (match e with
    | .Call (.Name x _) es [] _ => decide (x = "range") && c.glb x && es.all plainE && decide (es.length = 1 ∨ es.length = 2) && chkEs c ms es
    | _ => false)
  | .enum m, e => (match e with
    | .Call (.Name x _) [y] [] _ => decide (x = "enumerate") && c.glb x && plainE y && chkE c m y
    | _ => false)
  | .zip m n, e => (match e with
    | .Call (.Name x _) [y, z] [] _ => decide (x = "zip") && c.glb x && plainE y && plainE z && chkE c m y && chkE c n z
    | _ => false)
end
end Rf

set_option Elab.async false
set_option linter.all false
set_option maxRecDepth 100000
set_option maxHeartbeats 1000000
namespace Rf
open PySem PySem.Spec PyProof.Rows L2

/-! ### what stands around -/
structure Top (P : Program) (w : World) (K : PySem.W.Frag) (mg : Mg) (base : Heap) (CX : CXT) (lv : Nat) (c : Ct) (G : List Mir) (C : List D) : Prop where
  fns : ∀ (i : Nat) (x : Str) (ps : List Str), c.fns[i]? = some (x, ps) → ∃ m f fd, G[i]? = some m ∧ mg x = some (.ref f) ∧ PySem.W.keepIn K (.ref f) = true ∧ (∀ us : List Value, us.length = ps.length → bindArgs fd ⟨us, []⟩ = pure (ps.zip us)) ∧
    (∀ np ks perm, (np, ks, perm) ∈ (c.kws[i]?).getD [] → KwOk fd ps np ks perm) ∧ FnG P w K mg base CX lv f fd ps (spOf K mg ps.length m)
  cons : ∀ (i : Nat) (x : Str), c.cons[i]? = some x → ∃ d v u, C[i]? = some d ∧ mg x = some u ∧ RelV v u ∧ ∀ H L, Rp K H L v d
  blt : ∀ x ∈ bltNames, mg x = none
  gcd : c.gcd = true → mg "gcd" = some (.builtin "math.gcd")
structure Gd (X : Cx) (CX : CXT) (E : XK) (lv : Nat) (c : Ct) (G : List Mir) (C : List D) : Prop where
  N : X.N = c.N
  nd : X.N.Nodup
  sc : X.env.scope = c.sc
  fn : ∀ x, c.fn x = true → X.fn x = true
  calm : X.calm = true
  room : Room lv X.A
  grd : X.A.guards = some []
  pass : Passes CX X E
  pass0 : ∀ X', Passes CX X' E0
  top : Top X.prog X.w X.K X.mg X.base CX lv c G C
section
variable {X : Cx} {CX : CXT} {E : XK} {lv : Nat} {c : Ct} {G : List Mir} {C : List D}
/-- a comprehension's block -/
theorem Gd.blk (g : Gd X CX E lv c G C) (s : Shared) (H : Hp) (scope : Scope) (C' : Addr) (cl : List (Str × Addr)) (fp : List Addr) :
    Gd (X.blk s H scope (compEnvC scope cl C' X.env) fp) CX E0 lv { c with sc := relS scope c.sc, fn := fun x => scope.names.lookup x == some .cell } G C where
  N := g.N
  nd := g.nd
  sc := by show relS scope X.env.scope = _; rw [g.sc]
  fn := fun x h => h
  calm := g.calm
  room := g.room
  grd := g.grd
  pass := g.pass0 _
  pass0 := g.pass0
  top := ⟨g.top.fns, g.top.cons, g.top.blt, g.top.gcd⟩
theorem Gd.slot (g : Gd X CX E lv c G C) {i : Nat} {x : Str} (h : c.slot i x = true) : X.N[i]? = some x := by
  rw [g.N]; exact of_decide_eq_true h
theorem Gd.vis (g : Gd X CX E lv c G C) {x : Str} (h : c.vis x = true) : Vis X.env.scope x := by
  unfold Ct.vis at h
  unfold L2.Vis
  rw [g.sc]
  split at h <;> simp_all
theorem Gd.loc (g : Gd X CX E lv c G C) {x : Str} (h : c.loc x = true) : Loc X.env.scope x ∧ (X.fn x = true ∨ X.env.scope.names.lookup x = some .local) := by
  unfold Ct.loc at h
  unfold L2.Loc
  rw [g.sc]
  split at h
  · rename_i e; exact ⟨.inl e, .inr e⟩
  · rename_i e; exact ⟨.inr e, .inl (g.fn x h)⟩
  · cases h
theorem Gd.glb (g : Gd X CX E lv c G C) {x : Str} (h : c.glb x = true) : Gl X x := by
  show X.env.scope.names.lookup x = some .globalImplicit
  rw [g.sc]; exact of_decide_eq_true h
theorem ndb {x : Str} (h : x ≠ dbg) : (x == ("__debug__" : Str)) = false := beq_eq_false_iff_ne.mpr h
theorem ncd {x : Str} (h : x ≠ cld) : (x == ("__classdict__" : Str)) = false := beq_eq_false_iff_ne.mpr h

/-! ### readings, bound together -/
variable {K : PySem.W.Frag} {mg : Mg}
theorem conv_noexc {m : Md} {r : RX} {S S2 : Store} {x : Exn} : conv m r S ≠ .exc x S2 := by
  cases r with
  | c n => cases m with
    | dat =>
      cases q : S[n]? with
      | none => simp [conv, q]
      | some c => cases c <;> simp [conv, q]
    | _ => simp [conv]
  | _ => cases m <;> simp [conv]
theorem pe_rv {f : Rd' RX} {e : Expr} (h : PE X e (tX K mg E f)) : PE X e (tV K mg E fun ρ S => (f ρ S).rv) := by
  refine PE.imp h fun σ H Q ⟨ρ, cm, S, hs, he, q⟩ => ?_
  refine tG_bind okG.zok hs he q fun r S1 v H1 cm1 _ p z => ?_
  cases e1 : conv .rd r S1 with
  | ok x S2 =>
    rw [e1] at z
    obtain ⟨cm2, pv⟩ := p.conv hs e1
    exact z v H1 cm2 pv
  | exc x S2 => exact absurd e1 conv_noexc
  | stuck => rw [e1] at z; exact z.elim
theorem pe_asD {f : Rd' RX} {e : Expr} (h : PE X e (tX K mg E f)) : PE X e (tD K mg E fun ρ S => (f ρ S).bind asD) := by
  refine PE.imp h fun σ H Q ⟨ρ, cm, S, hs, he, q⟩ => ?_
  refine tG_bind okG.zok hs he q fun r S1 v H1 cm1 _ p z => ?_
  unfold asD at z
  cases e1 : conv .dat r S1 with
  | ok x S2 =>
    rw [e1] at z
    obtain ⟨cm2, pv⟩ := p.conv hs e1
    cases x with
    | d d => exact z v H1 cm2 pv
    | _ => exact z.elim
  | exc x S2 => exact absurd e1 conv_noexc
  | stuck => rw [e1] at z; exact z.elim
/-- as a truth value -/
def Res.tru (r : Res RX) : Res Bool := r.bind fun x S => match boolV x with
  | some b => .ok b S
  | none => .stuck
/-- both readings of an expression -/
structure Snd (X : Cx) (e : Expr) (K : PySem.W.Frag) (mg : Mg) (E : XK) (f : Rd' RX) : Prop where
  pe : PE X e (tX K mg E f)
  pt : PT X e (tB K mg E fun ρ S => (f ρ S).tru)
/-- what a test is otherwise -/
def plainT : Expr → Bool
  | .UnaryOp .Not _ _ => false
  | .BoolOp .. => false
  | .IfExp .. => false
  | .Compare .. => false
  | _ => true
theorem plain_tru {e : Expr} (h : plainT e = true) {env : PySem.Env} (whole : Sem Value) : isTrue e env whole = (do let v ← whole; standAt e.pos; holding [v] (truthy v)) := by
  cases e with
  | UnaryOp op _ _ => cases op <;> first | rfl | simp [plainT] at h
  | _ => first | rfl | simp [plainT] at h
theorem Snd.of {e : Expr} {f : Rd' RX} (h : PE X e (tX K mg E f)) (hp : plainT e = true) : Snd X e K mg E f := by
  refine ⟨h, PT.imp (pt_val h fun whole => plain_tru hp whole) fun σ H Q ⟨ρ, cm, S, hs, he, q⟩ => ?_⟩
  refine tG_bind okG.zok hs he q fun r S1 v H1 cm1 _ p z => ?_
  cases r with
  | d d => cases d with
    | bl b =>
      obtain ⟨t, s, rp⟩ := p
      cases rp
      exact ⟨b, rfl, z b H1 cm1 ⟨t, s, rfl⟩⟩
    | _ => exact z.elim
  | _ => exact z.elim
/-- a comparison: its value is a bool -/
theorem pt_of_pe_bool {f : Rd' Bool} {g : Rd' RX} (hg : ∀ ρ S, g ρ S = (f ρ S).bind fun b S1 => .ok (.d (.bl b)) S1) (ρ : Rf.Env) (S : Store) : (g ρ S).tru = f ρ S := by
  rw [hg]
  cases f ρ S <;> rfl
theorem rds2 {H : Hp} {cm : List CA} {S : Store} (r : SR K H cm S) {v w : V} {x y : RV} (hv : VOk K H cm S v x) (hw : VOk K H cm S w y) {P : Prop} {β : Type} {k : D → D → Res β} {Z : Hp → List CA → Store → Res β → Prop} (z0 : ¬ Z H cm S .stuck)
    (z : Z H cm S (match rdV S x, rdV S y with | some d, some e => k d e | _, _ => .stuck)) (h : ∀ d e, Rq K H (Lv cm S) v d → Rq K H (Lv cm S) w e → Z H cm S (k d e) → P) : P := by
  cases e1 : rdV S x with
  | none => simp only [e1] at z; exact absurd z z0
  | some d => cases e2 : rdV S y with
    | none => simp only [e1, e2] at z; exact absurd z z0
    | some e => simp only [e1, e2] at z; exact h d e (rd_ok r hv e1) (rd_ok r hw e2) z
theorem rdw2 {H : Hp} {cm : List CA} {S : Store} (r : SR K H cm S) {v w : V} {x y : RV} (hv : VOk K H cm S v x) (hw : VOk K H cm S w y) {P : Prop} {β : Type} {k : D → D → Res β} {Z : Hp → List CA → Store → Res β → Prop} (z0 : ¬ Z H cm S .stuck)
    (z : Z H cm S (match rdW S x, rdW S y with | some d, some e => k d e | _, _ => .stuck)) (h : ∀ d e, Rq K H L0 v d → Rq K H L0 w e → Z H cm S (k d e) → P) : P := by
  cases e1 : rdW S x with
  | none => simp only [e1] at z; exact absurd z z0
  | some d => cases e2 : rdW S y with
    | none => simp only [e1, e2] at z; exact absurd z z0
    | some e => simp only [e1, e2] at z; exact h d e (.inl (rdW_ok r hv e1)) (.inl (rdW_ok r hw e2)) z
theorem rd_inv {r : Res RX} {x : RV} {S1 : Store} (h : r.rv = .ok x S1) : True := trivial
/-- two operands -/
theorem two_ops {fa fb : Rd' RX} {ρ : Rf.Env} {σ : L2.St} {H : Hp} {cm : List CA} {S : Store} {β : Type} {k : RV → RV → Store → Res β} {Z : Hp → List CA → Store → Res β → Prop} (zok : Zok K mg E .exc .stuck Z) (hs : SR K H cm S) (he : ER K H cm S ρ σ)
    (h : Z H cm S ((fa ρ S).rv.bind fun x S1 => (fb ρ S1).rv.bind fun y S2 => k x y S2)) {R : V → V → Hp → Prop}
    (hk : ∀ x y S2 v w H2 cm2, Tr H cm S H2 cm2 S2 → SR K H2 cm2 S2 → VOk K H2 cm2 S2 v x → VOk K H2 cm2 S2 w y → Z H2 cm2 S2 (k x y S2) → R v w H2) :
    (tV K mg E fun ρ S => (fa ρ S).rv) σ H fun v H1 => (tV K mg E fun ρ S => (fb ρ S).rv) σ H1 fun w H2 => R v w H2 := by
  refine tG_bind (f := fun ρ S => (fa ρ S).rv) zok hs he h fun x S1 v H1 cm1 _ p z => ?_
  obtain ⟨t1, s1, v1⟩ := p
  refine tG_bind (f := fun ρ S => (fb ρ S).rv) zok s1 (he.mono t1 hs) (zok.step t1 z) fun y S2 w H2 cm2 _ p2 z2 => ?_
  obtain ⟨t2, s2, v2⟩ := p2
  exact hk x y S2 v w H2 cm2 (t1.trans t2) s2 (v1.mono t2 s1) v2 (zok.step t2 z2)
theorem two_opsG {fa fb : Rd' RV} {ρ : Rf.Env} {σ : L2.St} {H : Hp} {cm : List CA} {S : Store} {β : Type} {k : RV → RV → Store → Res β} {Z : Hp → List CA → Store → Res β → Prop} (zok : Zok K mg E .exc .stuck Z) (hs : SR K H cm S) (he : ER K H cm S ρ σ)
    (h : Z H cm S ((fa ρ S).bind fun x S1 => (fb ρ S1).bind fun y S2 => k x y S2)) {R : V → V → Hp → Prop}
    (hk : ∀ x y S2 v w H2 cm2, Tr H cm S H2 cm2 S2 → SR K H2 cm2 S2 → VOk K H2 cm2 S2 v x → VOk K H2 cm2 S2 w y → Z H2 cm2 S2 (k x y S2) → R v w H2) :
    (tV K mg E fun ρ S => fa ρ S) σ H fun v H1 => (tV K mg E fun ρ S => fb ρ S) σ H1 fun w H2 => R v w H2 := by
  refine tG_bind (f := fun ρ S => fa ρ S) zok hs he h fun x S1 v H1 cm1 _ p z => ?_
  obtain ⟨t1, s1, v1⟩ := p
  refine tG_bind (f := fun ρ S => fb ρ S) zok s1 (he.mono t1 hs) (zok.step t1 z) fun y S2 w H2 cm2 _ p2 z2 => ?_
  obtain ⟨t2, s2, v2⟩ := p2
  exact hk x y S2 v w H2 cm2 (t1.trans t2) s2 (v1.mono t2 s1) v2 (zok.step t2 z2)
end
end Rf

set_option Elab.async false
set_option linter.all false
set_option maxRecDepth 100000
set_option maxHeartbeats 1000000
namespace Rf
open PySem PySem.Spec PyProof.Rows L2
theorem tru_bind {α : Type} {r : Res α} {k : α → Store → Res RX} : (r.bind k).tru = r.bind fun a S => (k a S).tru := by cases r <;> rfl
theorem bind_bind {α β γ : Type} {r : Res α} {k : α → Store → Res β} {l : β → Store → Res γ} : (r.bind k).bind l = r.bind fun a S => (k a S).bind l := by cases r <;> rfl
section
variable {X : Cx} {CX : CXT} {E : XK} {lv : Nat} {c : Ct} {G : List Mir} {C : List D} {a b d e : Expr} {fa fb fc fd : Rd' RX} {pos : Pos}
theorem sn_bin {op : Operator} (ha : PE X a (tX X.K X.mg E fa)) (hb : PE X b (tX X.K X.mg E fb)) : PE X (.BinOp a op b pos) (tX X.K X.mg E fun ρ S => (fa ρ S).rv.bind fun x S1 => (fb ρ S1).rv.bind fun y S2 => match rdV S2 x, rdV S2 y with
    | some d, some e => ofOpt (binD op d e) S2
    | _, _ => .stuck) :=
  PE.imp (pe_op (op_bin op) (pe_rv ha) (pe_rv hb)) fun σ H Q ⟨ρ, cm, S, hs, he, q⟩ => two_ops okG.zok hs he q fun x y S2 v w H2 cm2 t s vx vy z => rds2 s vx vy okG.zok.st z fun d e rd re z => ⟨cm2, S2, d, e, s, rd, re, by
    cases h : binD op d e with
    | none => rw [h] at z; exact z
    | some r => rw [h] at z; exact z⟩
theorem sn_neg (ha : PE X a (tX X.K X.mg E fa)) : PE X (.UnaryOp .USub a pos) (tX X.K X.mg E fun ρ S => (fa ρ S).rv.bind fun x S1 => match x with
    | .d (.int i) => .ok (.d (.int (-i))) S1
    | _ => .stuck) :=
  PE.imp (pe_un un_neg (pe_rv ha)) fun σ H Q ⟨ρ, cm, S, hs, he, q⟩ => tG_bind (f := fun ρ S => (fa ρ S).rv) okG.zok hs he q fun x S1 v H1 cm1 _ p z => by
    obtain ⟨t, s, vx⟩ := p
    cases x with
    | d d => cases d with
      | int i => cases vx; exact ⟨i, rfl, z _ H1 cm1 ⟨t, s, .int _⟩⟩
      | _ => exact z.elim
    | _ => exact z.elim
def fNt (fa : Rd' RX) : Rd' RX := fun ρ S => (fa ρ S).bind fun x S1 => match boolV x with
    | some b => .ok (.d (.bl (!b))) S1
    | none => .stuck
theorem sn_nt (ha : Snd X a X.K X.mg E fa) : Snd X (.UnaryOp .Not a pos) X.K X.mg E (fNt fa) := by
  constructor
  · refine PE.imp (pe_not ha.pe) fun σ H Q ⟨ρ, cm, S, hs, he, q⟩ => tG_bind okG.zok hs he q fun x S1 v H1 cm1 _ p z => ?_
    cases x with
    | d d => cases d with
      | bl b =>
        obtain ⟨t, s, vx⟩ := p
        cases vx
        exact ⟨b, rfl, z _ H1 cm1 ⟨t, s, .bl _⟩⟩
      | _ => exact z.elim
    | _ => exact z.elim
  · refine PT.imp (pt_not ha.pt) fun σ H Q ⟨ρ, cm, S, hs, he, q⟩ => ?_
    have e1 : (fNt fa ρ S).tru = (fa ρ S).tru.bind fun b S1 => .ok (!b) S1 := by
      unfold fNt Res.tru
      rw [bind_bind, bind_bind]
      congr 1
      funext x S1
      cases boolV x <;> rfl
    dsimp only at q
    rw [e1] at q
    exact tG_bind (f := fun ρ S => (fa ρ S).tru) okG.zok hs he q fun b S1 b' H1 cm1 _ p z => by
      obtain ⟨t, s, e⟩ := p
      subst e
      exact z _ H1 cm1 ⟨t, s, rfl⟩
def fCmp (op : CmpOp) (fa fb : Rd' RX) : Rd' RX := fun ρ S => (fa ρ S).rv.bind fun x S1 => (fb ρ S1).rv.bind fun y S2 => match rdW S2 x, rdW S2 y with
    | some d, some e => (ofOpt (cmpD op d e) S2).bind fun b S3 => .ok (.d (.bl b)) S3
    | _, _ => .stuck
def fCmpB (op : CmpOp) (fa fb : Rd' RX) : Rd' Bool := fun ρ S => (fa ρ S).rv.bind fun x S1 => (fb ρ S1).rv.bind fun y S2 => match rdW S2 x, rdW S2 y with
    | some d, some e => ofOpt (cmpD op d e) S2
    | _, _ => .stuck
theorem fCmp_tru {op : CmpOp} (ρ : Rf.Env) (S : Store) : (fCmp op fa fb ρ S).tru = fCmpB op fa fb ρ S := by
  unfold fCmp fCmpB
  rw [tru_bind]
  congr 1
  funext x S1
  rw [tru_bind]
  congr 1
  funext y S2
  cases rdW S2 x with
  | none => rfl
  | some d => cases rdW S2 y with
    | none => rfl
    | some e => cases h : cmpD op d e <;> simp [h, ofOpt, Res.tru, boolV]
theorem noSet {op : CmpOp} (h : notSet b = true) : behindInMarks op b = false := by
  cases b <;> first | rfl | simp [notSet] at h
theorem hu_room (g : Gd X CX E lv c G C) : X.A.units + 65 < cLine := by have := g.room.un; omega
theorem sn_cmp (g : Gd X CX E lv c G C) {op : CmpOp} (ha : PE X a (tX X.K X.mg E fa)) (hb : PE X b (tX X.K X.mg E fb)) (hn : notSet b = true) : Snd X (.Compare a [op] [b] pos) X.K X.mg E (fCmp op fa fb) := by
  constructor
  · refine PE.imp (pe_cmpR (op_cmpD (hu_room g) op) (pe_rv ha) (pe_rv hb) (noSet hn)) fun σ H Q ⟨ρ, cm, S, hs, he, q⟩ => two_ops okG.zok hs he q fun x y S2 v w H2 cm2 t s vx vy z => rdw2 s vx vy okG.zok.st z fun d e rd re z => ⟨d, e, rd, re, ?_⟩
    cases h : cmpD op d e with
    | none => rw [h] at z; exact z
    | some r => rw [h] at z; exact z _ H2 cm2 ⟨Tr.refl, s, .bl _⟩
  · refine PT.imp (pt_cmpR (op_cmpD (hu_room g) op) (pe_rv ha) (pe_rv hb) (noSet hn)) fun σ H Q ⟨ρ, cm, S, hs, he, q⟩ => ?_
    dsimp only at q
    rw [fCmp_tru] at q
    unfold fCmpB at q
    refine two_ops okG.zok hs he q fun x y S2 v w H2 cm2 t s vx vy z => rdw2 s vx vy okG.zok.st z fun d e rd re z => ⟨d, e, rd, re, ?_⟩
    cases h : cmpD op d e with
    | none => rw [h] at z; exact z
    | some r => rw [h] at z; exact ⟨r, rfl, z _ H2 cm2 ⟨Tr.refl, s, rfl⟩⟩
/-! and, or, if -/
def fAnd (fa fb : Rd' RX) : Rd' RX := fun ρ S => (fa ρ S).bind fun x S1 => match boolV x with
    | some true => fb ρ S1
    | some false => .ok (.d (.bl false)) S1
    | none => .stuck
def fOr (fa fb : Rd' RX) : Rd' RX := fun ρ S => (fa ρ S).bind fun x S1 => match boolV x with
    | some true => .ok (.d (.bl true)) S1
    | some false => fb ρ S1
    | none => .stuck
def fIte (fc fa fb : Rd' RX) : Rd' RX := fun ρ S => (fc ρ S).bind fun x S1 => match boolV x with
    | some true => fa ρ S1
    | some false => fb ρ S1
    | none => .stuck
theorem boolV_px {x : RX} {k : Bool} (h : boolV x = some k) : x = .d (.bl k) := by
  cases x with
  | d d => cases d with
    | bl b => simp [boolV] at h; rw [h]
    | _ => simp [boolV] at h
  | _ => simp [boolV] at h
theorem fAnd_tru (ρ : Rf.Env) (S : Store) : (fAnd fa fb ρ S).tru = (fa ρ S).tru.bind fun k S1 => if k then (fb ρ S1).tru else .ok false S1 := by
  unfold fAnd
  rw [tru_bind]
  unfold Res.tru
  rw [bind_bind]
  congr 1
  funext x S1
  cases boolV x with
  | none => rfl
  | some k => cases k <;> rfl
theorem fOr_tru (ρ : Rf.Env) (S : Store) : (fOr fa fb ρ S).tru = (fa ρ S).tru.bind fun k S1 => if k then .ok true S1 else (fb ρ S1).tru := by
  unfold fOr
  rw [tru_bind]
  unfold Res.tru
  rw [bind_bind]
  congr 1
  funext x S1
  cases boolV x with
  | none => rfl
  | some k => cases k <;> rfl
theorem fIte_tru (ρ : Rf.Env) (S : Store) : (fIte fc fa fb ρ S).tru = (fc ρ S).tru.bind fun k S1 => if k then (fa ρ S1).tru else (fb ρ S1).tru := by
  unfold fIte
  rw [tru_bind]
  unfold Res.tru
  rw [bind_bind]
  congr 1
  funext x S1
  cases boolV x with
  | none => rfl
  | some k => cases k <;> rfl
theorem rd_and {K : PySem.W.Frag} {mg : Mg} {σ : L2.St} {H : Hp} {Q : VK} (h : tX K mg E (fAnd fa fb) σ H Q) : tAndV (tX K mg E fa) (tX K mg E fb) σ H Q := by
  obtain ⟨ρ, cm, S, hs, he, q⟩ := h
  refine tG_bind okG.zok hs he q fun x S1 v H1 cm1 _ p z => ?_
  cases hb : boolV x with
  | none => rw [hb] at z; exact z.elim
  | some k =>
    have ex := boolV_px hb
    subst ex
    obtain ⟨t, s, vx⟩ := p
    cases vx
    refine ⟨k, rfl, ?_⟩
    cases k with
    | true => exact ⟨ρ, cm1, S1, s, he.mono t hs, okG.step t z⟩
    | false => exact z _ H1 cm1 ⟨t, s, .bl _⟩
theorem rd_or {K : PySem.W.Frag} {mg : Mg} {σ : L2.St} {H : Hp} {Q : VK} (h : tX K mg E (fOr fa fb) σ H Q) : tOrV (tX K mg E fa) (tX K mg E fb) σ H Q := by
  obtain ⟨ρ, cm, S, hs, he, q⟩ := h
  refine tG_bind okG.zok hs he q fun x S1 v H1 cm1 _ p z => ?_
  cases hb : boolV x with
  | none => rw [hb] at z; exact z.elim
  | some k =>
    have ex := boolV_px hb
    subst ex
    obtain ⟨t, s, vx⟩ := p
    cases vx
    refine ⟨k, rfl, ?_⟩
    cases k with
    | false => exact ⟨ρ, cm1, S1, s, he.mono t hs, okG.step t z⟩
    | true => exact z _ H1 cm1 ⟨t, s, .bl _⟩
theorem rd_andT {K : PySem.W.Frag} {mg : Mg} {σ : L2.St} {H : Hp} {Q : Bool → Hp → Prop} (h : tB K mg E (fun ρ S => (fAnd fa fb ρ S).tru) σ H Q) : tAnd (tB K mg E fun ρ S => (fa ρ S).tru) (tB K mg E fun ρ S => (fb ρ S).tru) σ H Q := by
  obtain ⟨ρ, cm, S, hs, he, q⟩ := h
  dsimp only at q
  rw [fAnd_tru] at q
  refine tG_bind (f := fun ρ S => (fa ρ S).tru) okG.zok hs he q fun k S1 v H1 cm1 _ p z => ?_
  obtain ⟨t, s, e⟩ := p
  subst e
  cases v with
  | true => exact ⟨ρ, cm1, S1, s, he.mono t hs, okG.step t z⟩
  | false => exact z _ H1 cm1 ⟨t, s, rfl⟩
theorem rd_orT {K : PySem.W.Frag} {mg : Mg} {σ : L2.St} {H : Hp} {Q : Bool → Hp → Prop} (h : tB K mg E (fun ρ S => (fOr fa fb ρ S).tru) σ H Q) : tOr (tB K mg E fun ρ S => (fa ρ S).tru) (tB K mg E fun ρ S => (fb ρ S).tru) σ H Q := by
  obtain ⟨ρ, cm, S, hs, he, q⟩ := h
  dsimp only at q
  rw [fOr_tru] at q
  refine tG_bind (f := fun ρ S => (fa ρ S).tru) okG.zok hs he q fun k S1 v H1 cm1 _ p z => ?_
  obtain ⟨t, s, e⟩ := p
  subst e
  cases v with
  | false => exact ⟨ρ, cm1, S1, s, he.mono t hs, okG.step t z⟩
  | true => exact z _ H1 cm1 ⟨t, s, rfl⟩
/-- .. with the test of a chain -/
structure SndW (X : Cx) (e : Expr) (K : PySem.W.Frag) (mg : Mg) (E : XK) (f : Rd' RX) : Prop extends Snd X e K mg E f where
  pw : ∀ op vs p, e = .BoolOp op vs p → PW X e (tB K mg E fun ρ S => (f ρ S).tru)
theorem Snd.w {f : Rd' RX} (h : Snd X e X.K X.mg E f) (n : ∀ op vs p, e ≠ .BoolOp op vs p) : SndW X e X.K X.mg E f := ⟨h, fun op vs p q => absurd q (n op vs p)⟩
theorem sn_and2 (ha : Snd X a X.K X.mg E fa) (hb : Snd X b X.K X.mg E fb) : SndW X (.BoolOp .And [a, b] pos) X.K X.mg E (fAnd fa fb) :=
  have w : PW X (.BoolOp .And [a, b] pos) (tB X.K X.mg E fun ρ S => (fAnd fa fb ρ S).tru) := PW.imp (pw_and ha.pt (pw_and1 hb.pt)) fun _ _ _ => rd_andT
  ⟨⟨PE.imp (pe_and ha.pe (pe_one hb.pe)) fun _ _ _ => rd_and, w.pt⟩, fun _ _ _ _ => w⟩
theorem sn_or2 (ha : Snd X a X.K X.mg E fa) (hb : Snd X b X.K X.mg E fb) : SndW X (.BoolOp .Or [a, b] pos) X.K X.mg E (fOr fa fb) :=
  have w : PW X (.BoolOp .Or [a, b] pos) (tB X.K X.mg E fun ρ S => (fOr fa fb ρ S).tru) := PW.imp (pw_or ha.pt (pw_or1 hb.pt)) fun _ _ _ => rd_orT
  ⟨⟨PE.imp (pe_or ha.pe (pe_one hb.pe)) fun _ _ _ => rd_or, w.pt⟩, fun _ _ _ _ => w⟩
theorem sn_and {r : List Expr} (ha : Snd X a X.K X.mg E fa) (hb : SndW X (.BoolOp .And (b :: r) pos) X.K X.mg E fb) : SndW X (.BoolOp .And (a :: b :: r) pos) X.K X.mg E (fAnd fa fb) :=
  have w : PW X (.BoolOp .And (a :: b :: r) pos) (tB X.K X.mg E fun ρ S => (fAnd fa fb ρ S).tru) := PW.imp (pw_and ha.pt (hb.pw _ _ _ rfl)) fun _ _ _ => rd_andT
  ⟨⟨PE.imp (pe_and ha.pe hb.pe) fun _ _ _ => rd_and, w.pt⟩, fun _ _ _ _ => w⟩
theorem sn_or {r : List Expr} (ha : Snd X a X.K X.mg E fa) (hb : SndW X (.BoolOp .Or (b :: r) pos) X.K X.mg E fb) : SndW X (.BoolOp .Or (a :: b :: r) pos) X.K X.mg E (fOr fa fb) :=
  have w : PW X (.BoolOp .Or (a :: b :: r) pos) (tB X.K X.mg E fun ρ S => (fOr fa fb ρ S).tru) := PW.imp (pw_or ha.pt (hb.pw _ _ _ rfl)) fun _ _ _ => rd_orT
  ⟨⟨PE.imp (pe_or ha.pe hb.pe) fun _ _ _ => rd_or, w.pt⟩, fun _ _ _ _ => w⟩
theorem rd_ite {α β : Type} {P : Post α β} [Trs P] {K : PySem.W.Frag} {mg : Mg} {ga gb : Rd' α} {σ : L2.St} {H : Hp} {Q : β → Hp → Prop} (h : tG K mg E P (fun ρ S => (fc ρ S).tru.bind fun k S1 => if k then ga ρ S1 else gb ρ S1) σ H Q) :
    (tB K mg E fun ρ S => (fc ρ S).tru) σ H fun k H1 => if k = true then tG K mg E P ga σ H1 Q else tG K mg E P gb σ H1 Q := by
  obtain ⟨ρ, cm, S, hs, he, q⟩ := h
  refine tG_bind (f := fun ρ S => (fc ρ S).tru) okG.zok hs he q fun k S1 v H1 cm1 _ p z => ?_
  obtain ⟨t, s, e⟩ := p
  subst e
  cases v with
  | true => exact ⟨ρ, cm1, S1, s, he.mono t hs, okG.step t z⟩
  | false => exact ⟨ρ, cm1, S1, s, he.mono t hs, okG.step t z⟩
theorem fIte_eq (ρ : Rf.Env) (S : Store) : fIte fc fa fb ρ S = (fc ρ S).tru.bind fun k S1 => if k then fa ρ S1 else fb ρ S1 := by
  unfold fIte Res.tru
  rw [bind_bind]
  congr 1
  funext x S1
  cases boolV x with
  | none => rfl
  | some k => cases k <;> rfl
theorem sn_ite (hc : Snd X d X.K X.mg E fc) (ha : Snd X a X.K X.mg E fa) (hb : Snd X b X.K X.mg E fb) : Snd X (.IfExp d a b pos) X.K X.mg E (fIte fc fa fb) := by
  constructor
  · refine PE.imp (pe_ifExp hc.pt ha.pe hb.pe) fun σ H Q h => rd_ite (P := PX X.K) ?_
    obtain ⟨ρ, cm, S, hs, he, q⟩ := h
    rw [fIte_eq] at q
    exact ⟨ρ, cm, S, hs, he, q⟩
  · refine ⟨fun pins s σ H Q I h => ?_⟩
    have h2 : (tB X.K X.mg E fun ρ S => (fc ρ S).tru) σ H fun k H1 => if k = true then (tB X.K X.mg E fun ρ S => (fa ρ S).tru) σ H1 Q else (tB X.K X.mg E fun ρ S => (fb ρ S).tru) σ H1 Q := by
      refine rd_ite (P := PB X.K) ?_
      obtain ⟨ρ, cm, S, hs, he, q⟩ := h
      dsimp only at q
      rw [fIte_tru] at q
      exact ⟨ρ, cm, S, hs, he, q⟩
    refine isTrue_IfExp (thn (hc.pt.run pins s σ H _ I h2) fun k s1 ⟨H1, I1, q1⟩ => ?_)
    cases k with
    | true => exact ha.pt.run pins s1 σ H1 Q I1 q1
    | false => exact hb.pt.run pins s1 σ H1 Q I1 q1
end
end Rf

set_option Elab.async false
set_option linter.all false
set_option maxRecDepth 100000
set_option maxHeartbeats 1000000
namespace Rf
open PySem PySem.Spec PyProof.Rows L2
/-! displays, arguments, subscripts, chains, calls -/
section
variable {K : PySem.W.Frag} {mg : Mg} {H : Hp} {cm : List CA} {S : Store}
theorem vs_d : ∀ {vs : List V} {rs : List RV} {ds : List D}, VsOk K H cm S vs rs → rdVs [] rs = some ds → Rps K H (Lv cm S) vs ds
  | _, [], ds, .nil, e => by simp [rdVs] at e; subst e; exact .nil
  | v :: vs, x :: rs, ds, .cons h q, e => by
    simp only [rdVs, Option.bind_eq_some_iff, Option.map_eq_some_iff] at e
    obtain ⟨d, e1, es, e2, rfl⟩ := e
    cases x with
    | c n => simp [rdV, cellAt] at e1
    | g i j => simp [rdV] at e1
    | r n i => simp [rdV, rowAt, mxAt] at e1
    | d d' => cases e1; exact .cons h (vs_d q e2)
end
section
variable {X : Cx} {CX : CXT} {E : XK} {lv : Nat} {c : Ct} {G : List Mir} {C : List D} {a b d e : Expr} {fa fb fc fd : Rd' RX} {pos : Pos} {es : List Expr}
theorem pe_conv {K : PySem.W.Frag} {mg : Mg} (m : Md) (h : PE X e (tX K mg E fa)) : PE X e (tV K mg E fun ρ S => (fa ρ S).bind (conv m)) := by
  refine PE.imp h fun σ H Q ⟨ρ, cm, S, hs, he, q⟩ => ?_
  refine tG_bind okG.zok hs he q fun r S1 v H1 cm1 _ p z => ?_
  cases e1 : conv m r S1 with
  | ok x S2 =>
    rw [e1] at z
    obtain ⟨cm2, pv⟩ := p.conv hs e1
    exact z v H1 cm2 pv
  | exc x S2 => exact absurd e1 conv_noexc
  | stuck => rw [e1] at z; exact z.elim
/-! arguments -/
def fNil : Rd' (List RV) := fun ρ S => .ok [] S
def fCons (m : Md) (fa : Rd' RX) (fs : Rd' (List RV)) : Rd' (List RV) := fun ρ S => (fa ρ S).bind fun x S1 => (conv m x S1).bind fun v S2 => (fs ρ S2).bind fun vs S3 => .ok (v :: vs) S3
theorem res_bind_assoc {α β γ : Type} {r : Res α} {k : α → Store → Res β} {l : β → Store → Res γ} : (r.bind k).bind l = r.bind fun a S => (k a S).bind l := bind_bind
theorem rd_nil {K : PySem.W.Frag} {mg : Mg} {σ : L2.St} {H : Hp} {Q : List V → Hp → Prop} (h : tA K mg E fNil σ H Q) : tNil σ H Q := by
  obtain ⟨ρ, cm, S, hs, he, q⟩ := h
  exact q [] H cm ⟨Tr.refl, hs, .nil⟩
theorem rd_cons {K : PySem.W.Frag} {mg : Mg} {m : Md} {fs : Rd' (List RV)} {σ : L2.St} {H : Hp} {Q : List V → Hp → Prop} (h : tA K mg E (fCons m fa fs) σ H Q) : tCons (tV K mg E fun ρ S => (fa ρ S).bind (conv m)) (tA K mg E fs) σ H Q := by
  obtain ⟨ρ, cm, S, hs, he, q⟩ := h
  unfold fCons at q
  rw [← res_bind_assoc] at q
  refine tG_bind (f := fun ρ S => (fa ρ S).bind (conv m)) okG.zok hs he q fun x S1 v H1 cm1 _ p z => ?_
  obtain ⟨t1, s1, v1⟩ := p
  refine tG_bind okG.zok s1 (he.mono t1 hs) (okG.step t1 z) fun vs S2 ws H2 cm2 _ p2 z2 => ?_
  obtain ⟨t2, s2, v2⟩ := p2
  exact z2 (v :: ws) H2 cm2 ⟨t2, s2, .cons (v1.mono t2 s1) v2⟩
theorem pa_nil' : PA X [] (tA X.K X.mg E fNil) := PA.imp pa_nil fun _ _ _ => rd_nil
theorem pa_cons' {m : Md} {fs : Rd' (List RV)} (ha : PE X e (tX X.K X.mg E fa)) (hr : PA X es (tA X.K X.mg E fs)) (hp : plainE e = true) : PA X (e :: es) (tA X.K X.mg E (fCons m fa fs)) :=
  PA.imp (pa_cons (pe_conv m ha) hr (star_cons hp)) fun _ _ _ => rd_cons
theorem pk_nil' : PK X [] (tA X.K X.mg E fNil) := ⟨fun pos pins s σ H Q I h => pk_nil.run pos pins s σ H Q I (rd_nil h)⟩
theorem pk_cons' {m : Md} {fs : Rd' (List RV)} {kws : List Keyword} {nm : Option Str} {kp : Pos} (ha : PE X e (tX X.K X.mg E fa)) (hr : PK X kws (tA X.K X.mg E fs)) : PK X (⟨nm, e, kp⟩ :: kws) (tA X.K X.mg E (fCons m fa fs)) :=
  ⟨fun pos pins s σ H Q I h => (pk_cons (pe_conv m ha) hr).run pos pins s σ H Q I (rd_cons h)⟩
/-! displays -/
theorem pe_tup' {fs : Rd' (List RV)} {k : Nat} (h : PA X es (tA X.K X.mg E fs)) : PE X (.Tuple es k pos) (tX X.K X.mg E fun ρ S => (fs ρ S).bind fun vs S1 => match rdVs [] vs with
    | some ds => if ds.length ≤ line then .ok (.d (.tup ds)) S1 else .stuck
    | none => .stuck) :=
  PE.imp (pe_tup h) fun σ H Q ⟨ρ, cm, S, hs, he, q⟩ => tG_bind okG.zok hs he q fun vs S1 ws H1 cm1 _ p z => by
    obtain ⟨t, s, vv⟩ := p
    cases e1 : rdVs [] vs with
    | none => rw [e1] at z; exact z.elim
    | some ds =>
      rw [e1] at z
      have r := vs_d vv e1
      dsimp only at z
      split at z
      · rename_i hl
        rw [line_eq] at hl
        refine ⟨by rw [r.length]; exact hl, fun p hp => z _ _ cm1 (PX.tr (mkT s hp r) t)⟩
      · exact z.elim
/-- a tuple of a datum and a live cell -/
theorem pe_tpc {fs : Rd' (List RV)} {k : Nat} (h : PA X es (tA X.K X.mg E fs)) : PE X (.Tuple es k pos) (tX X.K X.mg E fun ρ S => (fs ρ S).bind fun vs S1 => match vs with
    | [.d d0, .c n] => .ok (.tc d0 n) S1
    | _ => .stuck) :=
  PE.imp (pe_tup h) fun σ H Q ⟨ρ, cm, S, hs, he, q⟩ => tG_bind okG.zok hs he q fun vs S1 ws H1 cm1 _ p z => by
    obtain ⟨t, s, vv⟩ := p
    match vs, vv, z with
    | [.d d0, .c n], vv, z =>
      cases vv with
      | cons h0 vv =>
        cases vv with
        | cons h1 vv =>
          cases vv
          obtain ⟨a, os, e, ea⟩ := h1
          subst e
          refine ⟨by show 2 ≤ sizeLine; decide, fun p hp => z _ _ cm1 (PX.tr ⟨Tr.new s hp, s.new hp, p, _, a, os, rfl, .inl (.inl upd_same), Rp.mono (Ext.new s.lst hp) h0, ea⟩ t)⟩
    | [], _, z => exact z.elim
    | [_], _, z => exact (by cases ‹RV› <;> exact z.elim)
    | .c _ :: _ :: _, _, z => exact z.elim
    | .g _ _ :: _ :: _, _, z => exact z.elim
    | .r _ _ :: _ :: _, _, z => exact z.elim
    | .d _ :: .d _ :: _, _, z => exact z.elim
    | .d _ :: .g _ _ :: _, _, z => exact z.elim
    | .d _ :: .r _ _ :: _, _, z => exact z.elim
    | .d _ :: .c _ :: _ :: _, _, z => exact z.elim
/-- the fresh list in a tuple just told -/
theorem pe_tix {i j : _} (hi : i = (1 : Int)) {p2 : Pos} (ha : PE X a (tX X.K X.mg E fa)) : PE X (.Subscript a (.Constant (.int i) j p2) pos) (tX X.K X.mg E fun ρ S => (fa ρ S).bind fun x S1 => match x with
    | .tf _ ds => .ok (.f ds) S1
    | _ => .stuck) := by
  subst hi
  refine PE.imp (pe_ix ix_tup ha pe_int (fun _ _ => rfl)) fun σ H Q ⟨ρ, cm, S, hs, he, q⟩ => tG_bind okG.zok hs he q fun r S1 v H1 cm1 _ p z => ?_
  cases r with
  | tf d0 ds =>
    obtain ⟨p, b, w0, e, ht, hw, pre, t1, r1⟩ := p
    exact ⟨b, _, 1, .ref p, e, rfl, ht, rfl, z (.ref p) H1 cm1 ⟨p, rfl, pre, t1, r1⟩⟩
  | _ => exact z.elim
theorem pe_lst' {fs : Rd' (List RV)} (h : PA X es (tA X.K X.mg E fs)) : PE X (.List es pos) (tX X.K X.mg E fun ρ S => (fs ρ S).bind fun vs S1 => match rdVs [] vs with
    | some ds => if ds.length ≤ line then .ok (.f ds) S1 else .stuck
    | none => .stuck) :=
  PE.imp (pe_lst h) fun σ H Q ⟨ρ, cm, S, hs, he, q⟩ => tG_bind okG.zok hs he q fun vs S1 ws H1 cm1 _ p z => by
    obtain ⟨t, s, vv⟩ := p
    cases e1 : rdVs [] vs with
    | none => rw [e1] at z; exact z.elim
    | some ds =>
      rw [e1] at z
      have r := vs_d vv e1
      dsimp only at z
      split at z
      · rename_i hl
        rw [line_eq] at hl
        refine ⟨by rw [r.length]; exact hl, fun p hp => z _ _ cm1 (PX.tr (mkF s hp r) t)⟩
      · exact z.elim
/-- rows gathered -/
theorem gath_ok {K : PySem.W.Frag} {H : Hp} {cm : List CA} {S : Store} (s : SR K H cm S) : ∀ {vs : List RV} {ws : List V} {k : Nat} {es : List MX}, VsOk K H cm S ws vs → gath k S vs = some es → ∃ os, MxOk K H (Lv cm S) ws os es ∧ k ≤ S.length ∧
    (∀ b, some b ∈ os → ∃ n, k ≤ n ∧ Own cm n b ∧ cm[n]? = some (b, [])) ∧ (∀ (i j : Nat) (b : Addr), os[i]? = some (some b) → os[j]? = some (some b) → i = j)
  | [], ws, k, es, h, e => by
    cases h
    simp only [gath] at e
    split at e
    · rename_i hk
      cases e
      exact ⟨[], .nil, by omega, fun b z => by simp at z, fun i j b z => by simp at z⟩
    · cases e
  | x :: vs, ws, k, es, h, e => by
    cases h with
    | cons h q =>
      cases x with
      | d y =>
        simp only [gath, Option.map_eq_some_iff] at e
        obtain ⟨es', e1, rfl⟩ := e
        obtain ⟨os, a1, a2, a3, a4⟩ := gath_ok s q e1
        refine ⟨none :: os, .a h a1, a2, fun b z => ?_, fun i j b z z' => ?_⟩
        · rcases List.mem_cons.mp z with z | z
          · cases z
          · exact a3 b z
        · cases i with
          | zero => simp at z
          | succ i => cases j with
            | zero => simp at z'
            | succ j => exact congrArg (· + 1) (a4 i j b (by simpa using z) (by simpa using z'))
      | c n =>
        simp only [gath] at e
        split at e
        · rename_i hk
          subst hk
          cases hS : S[n]? with
          | none => rw [hS] at e; cases e
          | some c =>
            rw [hS] at e
            cases c with
            | lst ds =>
              simp only [Option.map_eq_some_iff] at e
              obtain ⟨es', e1, rfl⟩ := e
              obtain ⟨os, a1, a2, a3, a4⟩ := gath_ok s q e1
              obtain ⟨ad, os', rfl, ha⟩ := h
              obtain ⟨us, hH, hr, hu⟩ := s.ok n ad os' _ ha hS
              subst hr
              have nin : some ad ∉ os := fun z => by
                obtain ⟨m, hm, o, _⟩ := a3 ad z
                have := s.inj n m ad (.at_ ha) o
                omega
              refine ⟨some ad :: os, .l hH hu a1, by omega, fun b z => ?_, fun i j b z z' => ?_⟩
              · rcases List.mem_cons.mp z with z | z
                · cases z
                  exact ⟨n, Nat.le_refl _, .at_ ha, ha⟩
                · obtain ⟨m, hm, o⟩ := a3 b z
                  exact ⟨m, by omega, o⟩
              · cases i with
                | zero =>
                  simp at z
                  subst z
                  cases j with
                  | zero => rfl
                  | succ j => exact absurd (List.mem_of_getElem? (show os[j]? = some (some ad) by simpa using z')) nin
                | succ i =>
                  cases j with
                  | zero =>
                    simp at z'
                    subst z'
                    exact absurd (List.mem_of_getElem? (show os[i]? = some (some ad) by simpa using z)) nin
                  | succ j => exact congrArg (· + 1) (a4 i j b (by simpa using z) (by simpa using z'))
            | _ => cases e
        · cases e
      | g i j => simp [gath] at e
      | r n i => simp [gath] at e
theorem gath_live {K : PySem.W.Frag} {H : Hp} {cm : List CA} {S : Store} (s : SR K H cm S) : ∀ {vs : List RV} {ws : List V} {k : Nat} {es : List MX}, VsOk K H cm S ws vs → gath k S vs = some es → ∀ (n : Nat) (_ : k ≤ n) (h : n < S.length), (S[n]'h).live = true
  | [], ws, k, es, h, e, n, hk, hn => by
    simp only [gath] at e
    split at e
    · omega
    · cases e
  | x :: vs, ws, k, es, h, e, n, hk, hn => by
    cases h with
    | cons h q =>
      cases x with
      | d y =>
        simp only [gath, Option.map_eq_some_iff] at e
        obtain ⟨es', e1, rfl⟩ := e
        exact gath_live s q e1 n hk hn
      | c m =>
        simp only [gath] at e
        split at e
        · rename_i hm
          subst hm
          cases hS : S[m]? with
          | none => rw [hS] at e; cases e
          | some c =>
            rw [hS] at e
            cases c with
            | lst ds =>
              simp only [Option.map_eq_some_iff] at e
              obtain ⟨es', e1, rfl⟩ := e
              by_cases hn2 : n = m
              · subst hn2
                rw [List.getElem?_eq_getElem hn] at hS
                rw [Option.some.inj hS]; rfl
              · exact gath_live s q e1 n (by omega) hn
            | _ => cases e
        · cases e
      | g i j => simp [gath] at e
      | r n i => simp [gath] at e
theorem pe_lsx {fs : Rd' (List RV)} (h : PA X es (tA X.K X.mg E fs)) : PE X (.List es pos) (tX X.K X.mg E fun ρ S => (fs ρ S).bind fun vs S1 => if vs.length ≤ line then (match gath S.length S1 vs with
    | some es => .ok (.fm es) (S1.take S.length)
    | none => .stuck) else .stuck) :=
  PE.imp (pe_lst h) fun σ H Q ⟨ρ, cm, S, hs, he, q⟩ => tG_bind (f := fs) okG.zok hs he q fun vs S1 ws H1 cm1 _ p z => by
    obtain ⟨t, s, vv⟩ := p
    split at z
    · rename_i hl
      rw [line_eq] at hl
      refine ⟨by rw [vv.length]; exact hl, fun p hp => ?_⟩
      cases e1 : gath S.length S1 vs with
      | none => rw [e1] at z; exact z.elim
      | some es =>
        rw [e1] at z
        obtain ⟨os, a1, a2, a3, a4⟩ := gath_ok s vv e1
        have sub := sub_take s S.length
        have s0 := sub.sr s
        have hl' := s0.len
        have np : ∀ n, ¬ Own cm1 n p := s.notin hp
        have kp : ∀ {b : Addr} {xs}, H1 b = some (.lst xs) → upd H1 p (.lst ws) b = some (.lst xs) := fun {b xs} e => by rw [upd_ne (ne_of_none e hp)]; exact e
        have own : ∀ {n b}, Own (cm1.take S.length) n b → n < S.length ∧ Own cm1 n b := fun {n b} o => by
          obtain ⟨a, ps, e, q⟩ := o
          have hn := (List.getElem?_eq_some_iff.mp e).1
          rw [List.length_take] at hn
          exact ⟨by omega, a, ps, by rw [List.getElem?_take_of_lt (by omega)] at e; exact e, q⟩
        have lvE : ∀ b, (Lv (cm1.take S.length) (S1.take S.length) b ∨ (b = p ∨ some b ∈ os)) → Lv cm1 S1 b ∨ b = p := fun b h => by
          rcases h with h | h | h
          · exact .inl (sub.lv h)
          · exact .inr h
          · obtain ⟨n, hn, o, hc⟩ := a3 b h
            have : n < S1.length := by rw [← s.len]; exact o.lt
            obtain ⟨vs', _, hc'⟩ := s.ok n b [] S1[n] hc (List.getElem?_eq_getElem this)
            refine .inl ⟨n, S1[n], o, List.getElem?_eq_getElem this, ?_⟩
            obtain ⟨i, hi⟩ := List.mem_iff_getElem?.mp h
            exact gath_live s vv e1 n hn this
        have ex : Ext H1 (upd H1 p (.lst ws)) (Lv cm1 S1) (fun b => Lv (cm1.take S.length) (S1.take S.length) b ∨ (b = p ∨ some b ∈ os)) := ⟨fun b u e _ => by rw [upd_ne (ne_of_none e hp)]; exact e, s.lst, fun b h => by
          rcases lvE b h with h | rfl
          · exact .inl h
          · exact .inr hp⟩
        have sr : SR X.K (upd H1 p (.lst ws)) (cm1.take S.length ++ [(p, os)]) (S1.take S.length ++ [.mx es]) := by
          refine app_srC hl' s0.inj s0.rin rfl (fun n b h o => ?_) ⟨fun z => ?_, a4⟩ (fun n b o => ?_) (fun b z => ?_) (fun n a ps c e1 e2 => ?_) upd_same (a1.mono ex fun b xs q _ => kp q)
          · obtain ⟨h1, h2⟩ := own o
            rcases h with rfl | h
            · exact np n h2
            · obtain ⟨m, hm, o', _⟩ := a3 b h
              have := s.inj n m b h2 o'
              omega
          · obtain ⟨m, hm, o', _⟩ := a3 p z
            exact np m o'
          · obtain ⟨xs, e⟩ := s0.trk n b o
            exact ⟨xs, kp e⟩
          · obtain ⟨m, hm, o', _⟩ := a3 b z
            obtain ⟨xs, e⟩ := s.trk m b o'
            exact ⟨xs, kp e⟩
          · have hn := (List.getElem?_eq_some_iff.mp e1).1
            rw [List.length_take] at hn
            rw [List.getElem?_take_of_lt (by omega)] at e1 e2
            obtain ⟨us, e, q⟩ := s.ok n a ps c e1 e2
            exact ⟨us, kp e, q.mono ex fun b xs q _ => kp q⟩
        have pre : Pre cm (cm1.take S.length) := t.pre.take (Nat.le_of_eq hs.len)
        refine z _ _ (cm1.take S.length) ⟨p, os, rfl, pre, ⟨fun b o e n => ?_, pre.left, fun b l => ?_⟩, sr⟩
        · have e1 := t.ext b o e n
          rw [upd_ne (ne_of_none e1 hp)]; exact e1
        · rcases lvE b ((Lv.app hl' l).elim .inl fun z => .inr z.1) with l | rfl
          · exact t.lv b l
          · cases q : H b with
            | none => exact .inr rfl
            | some o =>
              by_cases n : Lv cm S b
              · exact .inl n
              · rw [t.ext b o q n] at hp; cases hp
    · exact z.elim
/-! subscripts -/
theorem plainIx_of {i : Expr} (h : notSl i = true) : PlainIx i := by
  cases i <;> first | (intro o i; rfl) | simp [notSl] at h
def rI2 (K : PySem.W.Frag) : R2 := fun x y H Q => rI' K x y H Q ∨ ∃ (a : Addr) (vs : List V) (k : Int) (w : V), x = .ref a ∧ y = .int k ∧ H a = some (.lst vs) ∧ atI vs k = some w ∧ Q w H
theorem ix_D2 : IxR X (rI2 X.K) := by
  intro value slice pins s σ H x y v u Q I rx ry h hs
  rcases h with h | ⟨a, vs, k, w, rfl, rfl, h1, h2, q⟩
  · exact ix_D value slice pins s σ H x y v u Q I rx ry h hs
  · exact ix_list value slice pins s σ H _ _ v u Q I rx ry ⟨a, vs, k, w, rfl, rfl, .of h1, h2, q⟩ hs
def fIdx (fa fi : Rd' RX) : Rd' RX := fun ρ S => (fa ρ S).rv.bind fun x S1 => (fi ρ S1).rv.bind fun y S2 => (match rdV S2 x, rdV S2 y with
    | some d, some e => (ofOpt (idxD d e) S2).bind fun r S3 => .ok (.d r) S3
    | none, some (.int k) => (match x with
      | .c n => (match mxAt S2 n with
        | some es => (match ixN es.length k with
          | some j => (match es[j]? with
            | some (.a d) => .ok (.d d) S2
            | some (.l _) => .ok (.r n j) S2
            | none => .stuck)
          | none => .stuck)
        | none => .stuck)
      | _ => .stuck)
    | _, _ => .stuck)
theorem pe_idx' {i : Expr} {fi : Rd' RX} (ha : PE X a (tX X.K X.mg E fa)) (hi : PE X i (tX X.K X.mg E fi)) (hn : notSl i = true) : PE X (.Subscript a i pos) (tX X.K X.mg E (fIdx fa fi)) :=
  PE.imp (pe_ix ix_D2 (pe_rv ha) (pe_rv hi) (plainIx_of hn)) fun σ H Q ⟨ρ, cm, S, hs, he, q⟩ => two_ops okG.zok hs he q fun x y S2 v w H2 cm2 t s vx vy z => by
    cases e1 : rdV S2 x with
    | some d =>
      cases e2 : rdV S2 y with
      | none => simp only [e1, e2] at z; exact z.elim
      | some e =>
        simp only [e1, e2] at z
        refine .inl ⟨cm2, S2, d, e, s, rd_ok s vx e1, rd_ok s vy e2, ?_⟩
        cases h : idxD d e with
        | none => rw [h] at z; exact z
        | some r => rw [h] at z; exact fun v rv => z v H2 cm2 ⟨Tr.refl, s, rv⟩
    | none =>
      cases e2 : rdV S2 y with
      | none => simp only [e1, e2] at z; exact z.elim
      | some e =>
        cases e with
        | int k =>
          simp only [e1, e2] at z
          cases x with
          | c n =>
            dsimp only at z
            cases e3 : mxAt S2 n with
            | none => rw [e3] at z; exact z.elim
            | some es =>
              rw [e3] at z
              dsimp only at z
              cases e4 : ixN es.length k with
              | none => rw [e4] at z; exact z.elim
              | some j =>
                rw [e4] at z
                dsimp only at z
                have ry : w = .int k := (rd_ok s vy e2).int
                obtain ⟨ad, os, ev, ea⟩ := vx
                obtain ⟨vs, hH, hm⟩ := s.okM ea (mxAt_some e3)
                have hat : ∀ {u : V}, vs[j]? = some u → atI vs k = some u := fun {u} h => by
                  unfold atI
                  rw [hm.length.1, e4]; exact h
                cases e5 : es[j]? with
                | none => rw [e5] at z; exact z.elim
                | some el =>
                  rw [e5] at z
                  cases el with
                  | a d =>
                    obtain ⟨u, h1, _, h3⟩ := hm.at_a e5
                    exact .inr ⟨ad, vs, k, u, ev, ry, hH, hat h1, z u H2 cm2 ⟨Tr.refl, s, h3⟩⟩
                  | l ds =>
                    obtain ⟨b, ws, h1, h2, h3, h4⟩ := hm.at_row e5
                    exact .inr ⟨ad, vs, k, .ref b, ev, ry, hH, hat h1, z (.ref b) H2 cm2 ⟨Tr.refl, s, ad, os, b, rfl, ea, h2⟩⟩
          | _ => exact z.elim
        | _ => simp only [e1, e2] at z; exact z.elim
theorem pe_rev' {k : Nat} {p1 p2 p3 : Pos} (ha : PE X a (tX X.K X.mg E fa)) : PE X (.Subscript a (.Slice none none (some (.UnaryOp .USub (.Constant (.int 1) k p1) p2)) p3) pos) (tX X.K X.mg E fun ρ S => (fa ρ S).rv.bind fun x S1 => match rdV S1 x with
    | some d => ofOpt (revD d) S1
    | none => .stuck) :=
  PE.imp (pe_rev (pe_rv ha)) fun σ H Q ⟨ρ, cm, S, hs, he, q⟩ => tG_bind (f := fun ρ S => (fa ρ S).rv) okG.zok hs he q fun x S1 v H1 cm1 _ p z => by
    obtain ⟨t, s, vx⟩ := p
    have z := okG.step t z
    cases e1 : rdV S1 x with
    | none => rw [e1] at z; exact z.elim
    | some d =>
      rw [e1] at z
      dsimp only at z
      refine ⟨cm1, S1, d, s, rd_ok s vx e1, ?_⟩
      cases h : revD d with
      | none => rw [h] at z; exact z
      | some r => rw [h] at z; exact z
/-- a part of a slice -/
def PPo (K : PySem.W.Frag) (H : Hp) (cm : List CA) (S : Store) (o : Option Int) (a : Option Int) (H' : Hp) (cm' : List CA) (S' : Store) : Prop :=
  Tr H cm S H' cm' S' ∧ SR K H' cm' S' ∧ o = a
instance {K : PySem.W.Frag} : Trs (PPo K) := ⟨fun t h => ⟨t.trans h.1, h.2⟩⟩
theorem po_no : PO X none (tG X.K X.mg E (PPo X.K) fun ρ S => .ok none S) := ⟨fun pins s σ H Q I h => po_none.run pins s σ H Q I (by
  obtain ⟨ρ, cm, S, hs, he, q⟩ := h
  exact q none H cm ⟨Tr.refl, hs, rfl⟩)⟩
theorem po_yes (h : PE X a (tX X.K X.mg E fa)) : PO X (some a) (tG X.K X.mg E (PPo X.K) fun ρ S => (fa ρ S).bind fun x S1 => match x with
    | .d (.int i) => .ok (some i) S1
    | _ => .stuck) := ⟨fun pins s σ H Q I hq => (po_some h).run pins s σ H Q I (by
  obtain ⟨ρ, cm, S, hs, he, q⟩ := hq
  refine tG_bind okG.zok hs he q fun x S1 v H1 cm1 _ p z => ?_
  cases x with
  | d d => cases d with
    | int i =>
      obtain ⟨t, s, vx⟩ := p
      cases vx
      exact ⟨i, rfl, z _ H1 cm1 ⟨t, s, rfl⟩⟩
    | _ => exact z.elim
  | _ => exact z.elim)⟩
theorem pe_sl' {lo hi : Option Expr} {fl fh : Rd' (Option Int)} {p2 : Pos} (ha : PE X a (tX X.K X.mg E fa)) (hl : PO X lo (tG X.K X.mg E (PPo X.K) fl)) (hh : PO X hi (tG X.K X.mg E (PPo X.K) fh)) :
    PE X (.Subscript a (.Slice lo hi none p2) pos) (tX X.K X.mg E fun ρ S => (fa ρ S).rv.bind fun x S1 => (fl ρ S1).bind fun l S2 => (fh ρ S2).bind fun h S3 => match rdV S3 x with
    | some d => ofOpt (sliceD d l h) S3
    | none => .stuck) :=
  PE.imp (pe_slice sl_D (pe_rv ha) hl hh) fun σ H Q ⟨ρ, cm, S, hs, he, q⟩ => tG_bind (f := fun ρ S => (fa ρ S).rv) okG.zok hs he q fun x S1 v H1 cm1 _ p z => by
    obtain ⟨t, s, vx⟩ := p
    have z := okG.step t z
    have he1 := he.mono t hs
    refine tG_bind okG.zok s he1 z fun l S2 o H2 cm2 _ p z => ?_
    obtain ⟨t2, s2, rfl⟩ := p
    have z := okG.step t2 z
    refine tG_bind okG.zok s2 (he1.mono t2 s) z fun h S3 o3 H3 cm3 _ p z => ?_
    obtain ⟨t3, s3, rfl⟩ := p
    have z := okG.step t3 z
    have vx3 := (vx.mono t2 s).mono t3 s2
    cases e1 : rdV S3 x with
    | none => rw [e1] at z; exact z.elim
    | some d =>
      rw [e1] at z
      dsimp only at z
      refine ⟨cm3, S3, d, s3, rd_ok s3 vx3 e1, ?_⟩
      cases h : sliceD d o o3 with
      | none => rw [h] at z; exact z
      | some r => rw [h] at z; exact z
/-! chains -/
theorem lastM2 {o1 o2 : CmpOp} (h : notSet d = true) : lastMarks [o1, o2] [b, d] = false := by
  show behindInMarks o2 d = false
  exact noSet h
/-- one link -/
theorem rd_link {K : PySem.W.Frag} {mg : Mg} {op : CmpOp} {β : Type} {k : Bool → Store → Res β} {Z : Hp → List CA → Store → Res β → Prop} (zok : Zok K mg E .exc .stuck Z) {H : Hp} {cm : List CA} {S : Store} {v w : V} {x y : RV}
    (s : SR K H cm S) (vx : VOk K H cm S v x) (vy : VOk K H cm S w y) (z : Z H cm S (match rdW S x, rdW S y with
      | some d, some e => (ofOpt (cmpD op d e) S).bind k
      | _, _ => .stuck)) {Q : VK} (hk : ∀ b, Z H cm S (k b S) → Q (.bl b) H) : rC K op v w H Q :=
  rdw2 s vx vy zok.st z fun d e rd re z => ⟨d, e, rd, re, by
    cases h : cmpD op d e with
    | none => rw [h] at z; exact zok.st z
    | some r => rw [h] at z; exact hk r z⟩
def fCh2 (o1 o2 : CmpOp) (fa fb fc : Rd' RX) : Rd' RX := fun ρ S => (fa ρ S).rv.bind fun x S1 => (fb ρ S1).rv.bind fun y S2 => match rdW S2 x, rdW S2 y with
    | some d, some e => (ofOpt (cmpD o1 d e) S2).bind fun k S3 => if k then (fc ρ S3).rv.bind fun z S4 => match rdW S4 y, rdW S4 z with
        | some e, some g => (ofOpt (cmpD o2 e g) S4).bind fun b S5 => .ok (.d (.bl b)) S5
        | _, _ => .stuck
      else .ok (.d (.bl false)) S3
    | _, _ => .stuck
/-- a value that is a truth value -/
def tBl (t : TE) : TT := fun σ H Q => t σ H fun x H' => ∃ k, x = .bl k ∧ Q k H'
end
end Rf

set_option Elab.async false
set_option linter.all false
set_option maxRecDepth 100000
set_option maxHeartbeats 1000000
namespace Rf
open PySem PySem.Spec PyProof.Rows L2
section
variable {X : Cx} {CX : CXT} {E : XK} {lv : Nat} {c : Ct} {G : List Mir} {C : List D} {a b d e : Expr} {fa fb fc fd : Rd' RX} {pos : Pos} {es : List Expr}
theorem tru_tX {K : PySem.W.Frag} {mg : Mg} {f : Rd' RX} {σ : L2.St} {H : Hp} {Q : Bool → Hp → Prop} (h : tB K mg E (fun ρ S => (f ρ S).tru) σ H Q) : tX K mg E f σ H fun x H' => ∃ k, x = .bl k ∧ Q k H' := by
  obtain ⟨ρ, cm, S, hs, he, q⟩ := h
  refine tG_bind okG.zok hs he q fun r S1 v H1 cm1 _ p z => ?_
  cases r with
  | d d => cases d with
    | bl b =>
      obtain ⟨t, s, rp⟩ := p
      cases rp
      exact ⟨b, rfl, z b H1 cm1 ⟨t, s, rfl⟩⟩
    | _ => exact z.elim
  | _ => exact z.elim
theorem rd_ch2 {K : PySem.W.Frag} {mg : Mg} {o1 o2 : CmpOp} {σ : L2.St} {H : Hp} {Q : VK} (h : tX K mg E (fCh2 o1 o2 fa fb fc) σ H Q) :
    tChain (rC K o1) (rC K o2) (tV K mg E fun ρ S => (fa ρ S).rv) (tV K mg E fun ρ S => (fb ρ S).rv) (tV K mg E fun ρ S => (fc ρ S).rv) σ H Q := by
  obtain ⟨ρ, cm, S, hs, he, q⟩ := h
  refine two_ops okG.zok hs he q fun x y S2 v w H2 cm2 t s vx vy z => rd_link okG.zok s vx vy z fun k z => ⟨k, rfl, ?_⟩
  cases k with
  | false => exact z _ H2 cm2 ⟨Tr.refl, s, .bl _⟩
  | true =>
    refine tG_bind (f := fun ρ S => (fc ρ S).rv) okG.zok s (he.mono t hs) z fun y2 S3 u H3 cm3 _ p z => ?_
    obtain ⟨t3, s3, vz⟩ := p
    have z := okG.step t3 z
    exact rd_link okG.zok s3 (vy.mono t3 s) vz z fun k z => z _ H3 cm3 ⟨Tr.refl, s3, .bl _⟩
theorem sn_ch2 (g : Gd X CX E lv c G C) {o1 o2 : CmpOp} (ha : PE X a (tX X.K X.mg E fa)) (hb : PE X b (tX X.K X.mg E fb)) (hd : PE X d (tX X.K X.mg E fc)) (hn : notSet d = true) : Snd X (.Compare a [o1, o2] [b, d] pos) X.K X.mg E (fCh2 o1 o2 fa fb fc) :=
  ⟨PE.imp (pe_chain (op_cmpD (hu_room g) o1) (op_cmpD (hu_room g) o2) (pe_rv ha) (pe_rv hb) (pe_rv hd) (lastM2 hn)) fun _ _ _ => rd_ch2,
    PT.imp (pt_chain (op_cmpD (hu_room g) o1) (op_cmpD (hu_room g) o2) (pe_rv ha) (pe_rv hb) (pe_rv hd) (lastM2 hn)) fun _ _ _ h => rd_ch2 (tru_tX h)⟩
/-! a chain of three -/
def tChain3 (r r' r'' : R2) (ta tb tc td : TE) : TE := fun σ H Q => ta σ H fun x H1 => tb σ H1 fun y H2 => r x y H2 fun z H3 => ∃ k, z = .bl k ∧
  (if k = true then tc σ H3 fun w' H4 => r' y w' H4 fun z2 H5 => ∃ k2, z2 = .bl k2 ∧ (if k2 = true then td σ H5 fun w2 H6 => r'' w' w2 H6 Q else Q (.bl false) H5) else Q (.bl false) H3)
theorem pe_chain3 {op op' op'' : CmpOp} {r r' r'' : R2} {ta tb tc td : TE} {f : Expr} (ho : OpR X (compareOp op) r) (ho' : OpR X (compareOp op') r') (ho'' : OpR X (compareOp op'') r'') (ha : PE X a ta) (hb : PE X b tb) (hc : PE X d tc) (hd : PE X f td)
    (hm : lastMarks [op, op', op''] [b, d, f] = false) : PE X (.Compare a [op, op', op''] [b, d, f] pos) (tChain3 r r' r'' ta tb tc td) := by
  refine ⟨fun pins s σ H Q I h => ?_⟩
  refine Compare_chain (thn (ha.run pins s σ H _ I h) fun v s1 ⟨x, H1, I1, r1, q1⟩ => chain_link (thn (hb.run pins s1 σ H1 _ I1 q1) fun u s2 ⟨y, H2, I2, r2, q2⟩ =>
    thn (ho pins s2 σ H2 x y v u _ I2 r1 r2 q2) fun d s3 ⟨z, H3, I3, r3, k, e, q3⟩ => ?_)) hm
  subst e
  cases r3
  refine wpAny_truthy_bool ?_
  cases k with
  | false => exact ite_ff ⟨.bl false, H3, I3, rfl, q3⟩
  | true =>
    refine ite_tt (chain_link (thn (hc.run pins s3 σ H3 _ I3 q3) fun w' s4 ⟨z', H4, I4, r4, q4⟩ => thn (ho' pins s4 σ H4 y z' u w' _ I4 r2 r4 q4) fun d5 s5 ⟨z5, H5, I5, r5, k5, e5, q5⟩ => ?_))
    subst e5
    cases r5
    refine wpAny_truthy_bool ?_
    cases k5 with
    | false => exact ite_ff ⟨.bl false, H5, I5, rfl, q5⟩
    | true => exact ite_tt (chain_last (thn (hd.run pins s5 σ H5 _ I5 q5) fun w6 s6 ⟨z6, H6, I6, r6, q6⟩ => ho'' pins s6 σ H6 z' z6 w' w6 Q I6 r4 r6 q6))
theorem pt_chain3 {op op' op'' : CmpOp} {r r' r'' : R2} {ta tb tc td : TE} {f : Expr} (ho : OpR X (compareOp op) r) (ho' : OpR X (compareOp op') r') (ho'' : OpR X (compareOp op'') r'') (ha : PE X a ta) (hb : PE X b tb) (hc : PE X d tc) (hd : PE X f td)
    (hm : lastMarks [op, op', op''] [b, d, f] = false) : PT X (.Compare a [op, op', op''] [b, d, f] pos) (tBl (tChain3 r r' r'' ta tb tc td)) := by
  refine ⟨fun pins s σ H Q I h => ?_⟩
  refine isTrue_chain (thn (ha.run pins s σ H _ I h) fun v s1 ⟨x, H1, I1, r1, q1⟩ => test_link (thn (hb.run pins s1 σ H1 _ I1 q1) fun u s2 ⟨y, H2, I2, r2, q2⟩ =>
    thn (ho pins s2 σ H2 x y v u _ I2 r1 r2 q2) fun d s3 ⟨z, H3, I3, r3, k, e, q3⟩ => ?_)) hm
  subst e
  cases r3
  refine wpAny_truthy_bool ?_
  cases k with
  | false =>
    obtain ⟨k', e', q'⟩ := q3
    cases e'
    exact ite_ff ⟨H3, I3, q'⟩
  | true =>
    refine ite_tt (test_link (thn (hc.run pins s3 σ H3 _ I3 q3) fun w' s4 ⟨z', H4, I4, r4, q4⟩ => thn (ho' pins s4 σ H4 y z' u w' _ I4 r2 r4 q4) fun d5 s5 ⟨z5, H5, I5, r5, k5, e5, q5⟩ => ?_))
    subst e5
    cases r5
    refine wpAny_truthy_bool ?_
    cases k5 with
    | false =>
      obtain ⟨k', e', q'⟩ := q5
      cases e'
      exact ite_ff ⟨H5, I5, q'⟩
    | true =>
      refine ite_tt (test_last (thn (hd.run pins s5 σ H5 _ I5 q5) fun w6 s6 ⟨z6, H6, I6, r6, q6⟩ => thn (ho'' pins s6 σ H6 z' z6 w' w6 _ I6 r4 r6 q6) fun d' s7 ⟨z7, H7, I7, r7, k7, e7, q7⟩ => ?_))
      subst e7
      cases r7
      exact wpAny_truthy_bool ⟨H7, I7, q7⟩
def fCh3 (o1 o2 o3 : CmpOp) (fa fb fc fd : Rd' RX) : Rd' RX := fun ρ S => (fa ρ S).rv.bind fun x S1 => (fb ρ S1).rv.bind fun y S2 => match rdW S2 x, rdW S2 y with
    | some v1, some v2 => (ofOpt (cmpD o1 v1 v2) S2).bind fun k S3 => if k then (fc ρ S3).rv.bind fun z S4 => match rdW S4 y, rdW S4 z with
        | some v2, some v3 => (ofOpt (cmpD o2 v2 v3) S4).bind fun k2 S5 => if k2 then (fd ρ S5).rv.bind fun w S6 => match rdW S6 z, rdW S6 w with
            | some v3, some v4 => (ofOpt (cmpD o3 v3 v4) S6).bind fun b S7 => .ok (.d (.bl b)) S7
            | _, _ => .stuck
          else .ok (.d (.bl false)) S5
        | _, _ => .stuck
      else .ok (.d (.bl false)) S3
    | _, _ => .stuck
theorem rd_ch3 {K : PySem.W.Frag} {mg : Mg} {o1 o2 o3 : CmpOp} {σ : L2.St} {H : Hp} {Q : VK} (h : tX K mg E (fCh3 o1 o2 o3 fa fb fc fd) σ H Q) :
    tChain3 (rC K o1) (rC K o2) (rC K o3) (tV K mg E fun ρ S => (fa ρ S).rv) (tV K mg E fun ρ S => (fb ρ S).rv) (tV K mg E fun ρ S => (fc ρ S).rv) (tV K mg E fun ρ S => (fd ρ S).rv) σ H Q := by
  obtain ⟨ρ, cm, S, hs, he, q⟩ := h
  refine two_ops okG.zok hs he q fun x y S2 v w H2 cm2 t s vx vy z => rd_link okG.zok s vx vy z fun k z => ⟨k, rfl, ?_⟩
  cases k with
  | false => exact z _ H2 cm2 ⟨Tr.refl, s, .bl _⟩
  | true =>
    have he2 := he.mono t hs
    refine tG_bind (f := fun ρ S => (fc ρ S).rv) okG.zok s he2 z fun y2 S3 u H3 cm3 _ p z => ?_
    obtain ⟨t3, s3, vz⟩ := p
    have z := okG.step t3 z
    refine rd_link okG.zok s3 (vy.mono t3 s) vz z fun k z => ⟨k, rfl, ?_⟩
    cases k with
    | false => exact z _ H3 cm3 ⟨Tr.refl, s3, .bl _⟩
    | true =>
      refine tG_bind (f := fun ρ S => (fd ρ S).rv) okG.zok s3 (he2.mono t3 s) z fun y4 S4 u4 H4 cm4 _ p z => ?_
      obtain ⟨t4, s4, v4⟩ := p
      have z := okG.step t4 z
      exact rd_link okG.zok s4 (vz.mono t4 s3) v4 z fun k z => z _ H4 cm4 ⟨Tr.refl, s4, .bl _⟩
theorem sn_ch3 (g : Gd X CX E lv c G C) {o1 o2 o3 : CmpOp} {f : Expr} (ha : PE X a (tX X.K X.mg E fa)) (hb : PE X b (tX X.K X.mg E fb)) (hd : PE X d (tX X.K X.mg E fc)) (hf : PE X f (tX X.K X.mg E fd)) (hn : notSet f = true) : Snd X (.Compare a [o1, o2, o3] [b, d, f] pos) X.K X.mg E (fCh3 o1 o2 o3 fa fb fc fd) :=
  have hm : lastMarks [o1, o2, o3] [b, d, f] = false := noSet (op := o3) hn
  ⟨PE.imp (pe_chain3 (op_cmpD (hu_room g) o1) (op_cmpD (hu_room g) o2) (op_cmpD (hu_room g) o3) (pe_rv ha) (pe_rv hb) (pe_rv hd) (pe_rv hf) hm) fun _ _ _ => rd_ch3,
    PT.imp (pt_chain3 (op_cmpD (hu_room g) o1) (op_cmpD (hu_room g) o2) (op_cmpD (hu_room g) o3) (pe_rv ha) (pe_rv hb) (pe_rv hd) (pe_rv hf) hm) fun _ _ _ h => rd_ch3 (tru_tX h)⟩

/-! ### calls -/
theorem fns_ok (g : Gd X CX E lv c G C) {f : Nat} {x : Str} {k : Nat} (h : (match c.fns[f]? with | some (y, ps) => decide (x = y) && decide (k = ps.length) | none => false) = true) :
    ∃ m ps fa fd, G[f]? = some m ∧ k = ps.length ∧ X.mg x = some (.ref fa) ∧ PySem.W.keepIn X.K (.ref fa) = true ∧ (∀ us : List Value, us.length = ps.length → bindArgs fd ⟨us, []⟩ = pure (ps.zip us)) ∧
      (∀ np ks perm, (np, ks, perm) ∈ (c.kws[f]?).getD [] → KwOk fd ps np ks perm) ∧ FnG X.prog X.w X.K X.mg X.base CX lv fa fd ps (spOf X.K X.mg ps.length m) := by
  split at h
  · rename_i y ps e
    simp only [Bool.and_eq_true, decide_eq_true_eq] at h
    obtain ⟨rfl, h⟩ := h
    obtain ⟨m, fa, fd, h1, h2, h3, h4, h5, h6⟩ := g.top.fns f _ _ e
    exact ⟨m, ps, fa, fd, h1, h, h2, h3, h4, h5, h6⟩
  · cases h
theorem evs_len (ρ : Rf.Env) : ∀ (ms : Es) (S S' : Store) (vs : List RV), evs G C ms ρ S = .ok vs S' → vs.length = ms.len
  | .nil, S, S', vs, h => by unfold evs at h; cases h; rfl
  | .cons m e es, S, S', vs, h => by
    unfold evs at h
    cases h1 : ev G C e ρ S with
    | stuck => rw [h1] at h; cases h
    | exc x S1 => rw [h1] at h; cases h
    | ok x S1 =>
      rw [h1] at h
      simp only [Res.bind_ok] at h
      cases h2 : conv m x S1 with
      | stuck => rw [h2] at h; cases h
      | exc x S1 => rw [h2] at h; cases h
      | ok v S2 =>
        rw [h2] at h
        simp only [Res.bind_ok] at h
        cases h3 : evs G C es ρ S2 with
        | stuck => rw [h3] at h; cases h
        | exc x S1 => rw [h3] at h; cases h
        | ok ws S3 =>
          rw [h3] at h
          cases h
          simp [Es.len, evs_len ρ es _ _ _ h3]
theorem PX.to {K : PySem.W.Frag} {H0 H H' : Hp} {cm0 cm cm' : List CA} {S0 S S' : Store} {v : V} {r : RX} (t : Tr H0 cm0 S0 H cm S) (h : PX K H cm S v r H' cm' S') : PX K H0 cm0 S0 v r H' cm' S' := PX.tr h t
theorem pe_call' (g : Gd X CX E lv c G C) {f : Nat} {x : Str} {p : Pos} {ms : Es} (h1 : (match c.fns[f]? with | some (y, ps) => decide (x = y) && decide (ms.len = ps.length) | none => false) = true) (h2 : c.glb x = true) (h3 : x ≠ dbg) (h4 : es.all plainE = true)
    (ha : PA X es (tA X.K X.mg E (evs G C ms))) (hz : es = [] → ms = .nil) : PE X (.Call (.Name x p) es [] pos) (tX X.K X.mg E (ev G C (.call f ms))) := by
  obtain ⟨m, ps, fa, fd, hm, hl, q2, q3, q4, q5, F⟩ := fns_ok g h1
  have e0 : ∀ ρ S, ev G C (.call f ms) ρ S = (evs G C ms ρ S).bind fun vs S1 => m vs S1 := fun ρ S => by unfold ev; simp only [hm]
  cases es with
  | nil =>
    cases hz rfl
    refine PE.imp (pe_callG0 F g.grd g.room g.pass (g.glb h2) q2 q3 (ndb h3) q4) fun σ H Q ⟨ρ, cm, S, hs, he, q⟩ => ?_
    rw [e0] at q
    unfold evs at q
    exact ⟨[], cm, S, hl, hs, .nil, q⟩
  | cons a r =>
    refine PE.imp (pe_callG F g.grd g.room g.pass (g.glb h2) q2 q3 (ndb h3) q4 ha h4) fun σ H Q ⟨ρ, cm, S, hs, he, q⟩ => ?_
    rw [e0] at q
    refine tG_bind okG.zok hs he q fun vs S1 ws H1 cm1 e1 p z => ?_
    obtain ⟨t, s, vv⟩ := p
    exact ⟨vs, cm1, S1, by rw [vv.length, evs_len ρ ms S S1 vs e1]; exact hl, s, vv, okG.step t z⟩
theorem fzn_live (c : Cell) : c.fzn.live = false := by cases c <;> rfl
theorem Lv.fzn {cm : List CA} {S : Store} {b : Addr} (h : Lv cm (S.map Cell.fzn) b) : False := by
  obtain ⟨n, c, _, e, l⟩ := h
  rw [List.getElem?_map] at e
  cases q : S[n]? with
  | none => rw [q] at e; cases e
  | some c' =>
    rw [q] at e; cases e
    rw [fzn_live] at l; cases l
theorem fzn_tr {H : Hp} {cm : List CA} {S : Store} : Tr H cm S H cm (S.map Cell.fzn) := ⟨fun _ _ h _ => h, Pre.refl, fun b l => l.fzn.elim⟩
theorem fzn_sr {K : PySem.W.Frag} {H : Hp} {cm : List CA} {S : Store} (r : SR K H cm S) : SR K H cm (S.map Cell.fzn) := by
  refine ⟨by rw [List.length_map]; exact r.len, r.inj, r.rin, r.trk, fun n a os c e1 e2 => ?_⟩
  rw [List.getElem?_map] at e2
  cases q : S[n]? with
  | none => rw [q] at e2; cases e2
  | some c' =>
    rw [q] at e2; cases e2
    obtain ⟨vs, e, z⟩ := r.ok n a os c' e1 q
    refine ⟨vs, e, ?_⟩
    cases c' with
    | lst ds => exact z.2.weak fun b l => l.fzn.elim
    | fz ds => exact Rps.weak (fun b l => l.fzn.elim) z
    | mx es => exact MxOk.rps (fun b l => l.fzn.elim) z fun b _ l => l.fzn
theorem fzn_vs {K : PySem.W.Frag} {H : Hp} {cm : List CA} {S : Store} (r : SR K H cm S) : ∀ {vs : List V} {rs : List RV} {ds : List D}, VsOk K H cm S vs rs → rdWs S rs = some ds → VsOk K H cm (S.map Cell.fzn) vs (ds.map .d)
  | _, _, ds, .nil, e => by cases e; exact .nil
  | _, _, ds, .cons (r := x) (rs := rs) v q, e => by
    simp only [rdWs, Option.bind_eq_some_iff, Option.map_eq_some_iff] at e
    obtain ⟨d, e1, ds', e2, rfl⟩ := e
    exact .cons (show Rp K H (Lv cm (S.map Cell.fzn)) _ d from (rdW_ok r v e1).weak fun b l => l.fzn.elim) (fzn_vs r q e2)
theorem fzn_back {K : PySem.W.Frag} {H H' : Hp} {cm cm' : List CA} {S S' : Store} (r : SR K H cm S) (t : Tr H cm (S.map Cell.fzn) H' cm' S') : Tr H cm S H' cm S ∧ SR K H' cm S := by
  have k : ∀ b o, H b = some o → H' b = some o := fun b o e => t.ext b o e fun l => l.fzn
  have x : Ext H H' (Lv cm S) (Lv cm S) := ⟨fun b o e _ => k b o e, r.lst, fun b l => .inl l⟩
  refine ⟨⟨fun b o e _ => k b o e, Pre.refl, fun b l => .inl l⟩, r.len, r.inj, r.rin, fun n b o => ?_, fun n a os c e1 e2 => ?_⟩
  · obtain ⟨xs, e⟩ := r.trk n b o
    exact ⟨xs, k _ _ e⟩
  · obtain ⟨vs, e, z⟩ := r.ok n a os c e1 e2
    exact ⟨vs, k _ _ e, z.mono x fun b ws q _ => k _ _ q⟩
mutual
theorem nol_rp {K : PySem.W.Frag} {H : Hp} {L L' : Addr → Prop} : ∀ {v : V} {d : D}, Rp K H L v d → d.nol = true → Rp K H L' v d
  | _, _, .non, _ => .non
  | _, _, .bl b, _ => .bl b
  | _, _, .int i, _ => .int i
  | _, _, .str x, _ => .str x
  | _, _, .tup h r, q => .tup h (nol_rps r q)
  | _, _, .lst _ _, q => nomatch q
theorem nol_rps {K : PySem.W.Frag} {H : Hp} {L L' : Addr → Prop} : ∀ {vs : List V} {ds : List D}, Rps K H L vs ds → D.nols ds = true → Rps K H L' vs ds
  | _, _, .nil, _ => .nil
  | _, _, .cons h r, q => by
    simp only [D.nols, Bool.and_eq_true] at q
    exact .cons (nol_rp h q.1) (nol_rps r q.2)
end
theorem pe_pk' (g : Gd X CX E lv c G C) {f : Nat} {x : Str} {p : Pos} {ms : Es} (h1 : (match c.fns[f]? with | some (y, ps) => decide (x = y) && decide (ms.len = ps.length) | none => false) = true) (h2 : c.glb x = true) (h3 : x ≠ dbg) (h4 : es.all plainE = true)
    (ha : PA X es (tA X.K X.mg E (evs G C ms))) (hz : es.isEmpty = false) : PE X (.Call (.Name x p) es [] pos) (tX X.K X.mg E (ev G C (.pk f ms))) := by
  obtain ⟨m, ps, fa, fd, hm, hl, q2, q3, q4, q5, F⟩ := fns_ok g h1
  have e0 : ∀ ρ S, ev G C (.pk f ms) ρ S = (evs G C ms ρ S).bind fun vs S1 => peek m vs S1 := fun ρ S => by unfold ev; simp only [hm]
  cases es with
  | nil => cases hz
  | cons a r =>
    refine PE.imp (pe_callG F g.grd g.room g.pass (g.glb h2) q2 q3 (ndb h3) q4 ha h4) fun σ H Q ⟨ρ, cm, S, hs, he, q⟩ => ?_
    rw [e0] at q
    refine tG_bind okG.zok hs he q fun vs S1 ws H1 cm1 e1 p z => ?_
    obtain ⟨t, s, vv⟩ := p
    have z := okG.step t z
    unfold peek at z
    cases e2 : rdWs S1 vs with
    | none => rw [e2] at z; exact z.elim
    | some ds =>
      rw [e2] at z
      dsimp only at z
      have lds : ∀ {S : Store} {vs : List RV} {ds : List D}, rdWs S vs = some ds → ds.length = vs.length := fun {S vs} => by
        induction vs with
        | nil => intro ds e; cases e; rfl
        | cons v vs ih =>
          intro ds e
          simp only [rdWs, Option.bind_eq_some_iff, Option.map_eq_some_iff] at e
          obtain ⟨d, e1, ds', e2, rfl⟩ := e
          simp [ih e2]
      refine ⟨ds.map .d, cm1, S1.map Cell.fzn, by rw [vv.length, evs_len ρ ms S S1 vs e1]; exact hl, fzn_sr s, fzn_vs s vv e2, ?_⟩
      cases e3 : m (ds.map .d) (S1.map Cell.fzn) with
      | stuck => rw [e3] at z; exact z.elim
      | exc x S2 => rw [e3] at z; exact z.elim
      | ok y S2 =>
        rw [e3] at z
        cases y with
        | d d =>
          dsimp only at z
          by_cases hd : d.nol = true
          · rw [if_pos hd] at z
            intro v H' cm' ⟨t', s', r'⟩
            obtain ⟨t2, s2⟩ := fzn_back s t'
            exact z v H' cm1 ⟨t2, s2, nol_rp r' hd⟩
          · rw [if_neg hd] at z; exact z.elim
        | _ => exact z.elim
theorem pe_frz {e : Expr} {f : Rd' RX} (h : PE X e (tX X.K X.mg E f)) : PE X e (tX X.K X.mg E fun ρ S => frzR (f ρ (S.map Cell.fzn)) S) := by
  refine PE.imp h fun σ H Q ⟨ρ, cm, S, hs, he, q⟩ => ⟨ρ, cm, S.map Cell.fzn, fzn_sr hs, he.mono fzn_tr hs, ?_⟩
  have q : okG X.K X.mg E (PX X.K) Q H cm S (frzR (f ρ (S.map Cell.fzn)) S) := q
  cases e3 : f ρ (S.map Cell.fzn) with
  | stuck => rw [e3] at q; exact q.elim
  | exc x S2 => rw [e3] at q; exact q.elim
  | ok y S2 =>
    rw [e3] at q
    cases y with
    | d d =>
      by_cases hd : d.nol = true
      · have q : okG X.K X.mg E (PX X.K) Q H cm S (if d.nol then .ok (.d d) S else .stuck) := q
        rw [if_pos hd] at q
        intro v H' cm' ⟨t', s', r'⟩
        obtain ⟨t2, s2⟩ := fzn_back hs t'
        exact q v H' cm ⟨t2, s2, nol_rp r' hd⟩
      · have q : okG X.K X.mg E (PX X.K) Q H cm S (if d.nol then .ok (.d d) S else .stuck) := q
        rw [if_neg hd] at q; exact q.elim
    | _ => exact q.elim
theorem permV_rel {K : PySem.W.Frag} {H : Hp} {cm : List CA} {S : Store} {vs : List V} {rs : List RV} (h : VsOk K H cm S vs rs) : ∀ {perm : List Nat} {zs : List RV}, permV perm rs = some zs → ∃ ys, perm.mapM (fun i => vs[i]?) = some ys ∧ VsOk K H cm S ys zs ∧ zs.length = perm.length
  | [], zs, e => by simp [permV] at e; subst e; exact ⟨[], rfl, .nil, rfl⟩
  | i :: perm, zs, e => by
    unfold permV at e
    rw [List.mapM_cons] at e
    simp only [Option.pure_def, Option.bind_eq_bind, Option.bind_eq_some_iff, Option.some.injEq] at e
    obtain ⟨u, e1, zs', e2, rfl⟩ := e
    obtain ⟨ys, h1, h2, h3⟩ := permV_rel h (show permV perm rs = some zs' from e2)
    obtain ⟨y, e4, h4⟩ := VsOk.get h e1
    refine ⟨y :: ys, ?_, .cons h4 h2, by simp [h3]⟩
    rw [List.mapM_cons, e4, h1]; rfl
theorem pe_kcall' (g : Gd X CX E lv c G C) {f : Nat} {x : Str} {p : Pos} {ms ns : Es} {perm : List Nat} {kws : List Keyword} (h1 : (match c.fns[f]? with | some (y, ps) => decide (x = y) && decide (perm.length = ps.length) | none => false) = true) (h2 : c.glb x = true) (h3 : x ≠ dbg) (h4 : es.all plainE = true)
    (hn : kws.all (·.arg.isSome) = true) (hk : (es.length, kws.filterMap (·.arg), perm) ∈ (c.kws[f]?).getD []) (ha : PA X es (tA X.K X.mg E (evs G C ms))) (hb : PK X kws (tA X.K X.mg E (evs G C ns))) (l1 : ms.len = es.length) (l2 : ns.len = (kws.filterMap (·.arg)).length) (hz : es = [] → ms = .nil) :
    PE X (.Call (.Name x p) es kws pos) (tX X.K X.mg E (ev G C (.kall f ms ns perm))) := by
  obtain ⟨m, ps, fa, fd, hm, hl, q2, q3, q4, q5, F⟩ := fns_ok g h1
  have e0 : ∀ ρ S, ev G C (.kall f ms ns perm) ρ S = (evs G C ms ρ S).bind fun vs S1 => (evs G C ns ρ S1).bind fun ws S2 => match permV perm (vs ++ ws) with
    | some zs => m zs S2
    | none => .stuck := fun ρ S => by
    unfold ev; simp only [hm]
    congr 1; funext vs S1; congr 1; funext ws S2
    cases permV perm (vs ++ ws) <;> rfl
  have ln : ∀ {ms : Es} {k : Nat}, ms.len = k → ∀ σ H (Q : List V → Hp → Prop), tA X.K X.mg E (evs G C ms) σ H Q → tA X.K X.mg E (evs G C ms) σ H fun vs H1 => vs.length = k ∧ Q vs H1 := fun {ms k} hk σ H Q ⟨ρ, cm, S, hs, he, q⟩ => by
    refine ⟨ρ, cm, S, hs, he, ?_⟩
    cases e1 : evs G C ms ρ S with
    | stuck => rw [e1] at q; exact q
    | exc x S1 => rw [e1] at q; exact q
    | ok vs S1 =>
      rw [e1] at q
      exact fun ws H1 cm1 p => ⟨by rw [p.2.2.length, evs_len ρ ms S S1 vs e1]; exact hk, q ws H1 cm1 p⟩
  have fin : ∀ {H : Hp} {cm : List CA} {S : Store} {vs ws : List V} {rs us : List RV} {Q : VK}, SR X.K H cm S → VsOk X.K H cm S vs rs → VsOk X.K H cm S ws us → okG X.K X.mg E (PX X.K) Q H cm S (match permV perm (rs ++ us) with
      | some zs => m zs S
      | none => .stuck) → tKw perm (spOf X.K X.mg ps.length m) E (vs ++ ws) H Q := fun {H cm S vs ws rs us Q} s v1 v2 z => by
    cases e1 : permV perm (rs ++ us) with
    | none => rw [e1] at z; exact z.elim
    | some zs =>
      rw [e1] at z
      obtain ⟨ys, a1, a2, a3⟩ := permV_rel (v1.append v2) e1
      exact ⟨ys, a1, zs, cm, S, by rw [a2.length, a3, hl], s, a2, z⟩
  cases es with
  | nil =>
    cases hz rfl
    refine PE.imp (pe_callKG0 F g.grd g.room g.pass (g.glb h2) q2 q3 (ndb h3) (q5 _ _ _ hk) hb hn (ln l2)) fun σ H Q ⟨ρ, cm, S, hs, he, q⟩ => ?_
    rw [e0] at q
    have q : okG X.K X.mg E (PX X.K) Q H cm S ((evs G C ns ρ S).bind fun ws S2 => match permV perm ([] ++ ws) with
      | some zs => m zs S2
      | none => .stuck) := by rw [show evs G C .nil ρ S = .ok [] S by simp only [evs]] at q; exact q
    refine tG_bind okG.zok hs he q fun vs S1 ws H1 cm1 e1 p z => ?_
    obtain ⟨t, s, vv⟩ := p
    exact fin (vs := []) (rs := []) s .nil vv (okG.step t z)
  | cons a r =>
    refine PE.imp (pe_callKG F g.grd g.room g.pass (g.glb h2) q2 q3 (ndb h3) (q5 _ _ _ hk) ha hb h4 hn (ln l1) (ln l2)) fun σ H Q ⟨ρ, cm, S, hs, he, q⟩ => ?_
    rw [e0] at q
    refine tG_bind okG.zok hs he q fun vs S1 ws H1 cm1 e1 p z => ?_
    obtain ⟨t, s, vv⟩ := p
    refine tG_bind okG.zok s (he.mono t hs) (okG.step t z) fun us S2 zs H2 cm2 e2 p2 z2 => ?_
    obtain ⟨t2, s2, v2⟩ := p2
    exact fin s2 (vv.mono t2 s) v2 (okG.step t2 z2)
/-! built-ins -/
theorem pe_bf (g : Gd X CX E lv c G C) {f : Bf} {x : Str} {p : Pos} {a : Expr} {t : L2.TA} (hx : x = f.nm) (h2 : c.glb x = true) (hgcd : f ≠ .gcd ∨ c.gcd = true) (ha : PA X (a :: es) t) (h4 : (a :: es).all plainE = true) : PE X (.Call (.Name x p) (a :: es) [] pos) (tCB (rF X.K f) t) := by
  have hc := call_D g.room g.grd g.calm f
  have hg := g.glb h2
  rw [List.all_cons, Bool.and_eq_true] at h4
  have s1 := star_cons (es := es) (env := X.env) h4.1
  have s2 := star_any (pos := pos) (env := X.env) h4.2
  have nb : x ∈ bltNames → X.mg x = none := g.top.blt x
  subst hx
  cases f with
  | gcd => exact pe_callBfun hc hg (g.top.gcd (by rcases hgcd with h | h; exact absurd rfl h; exact h)) ha (by decide) s1 s2
  | len => exact pe_callB hc hg (nb (by decide)) (by decide +kernel) ha (by decide) (by decide) s1 s2
  | abs => exact pe_callB hc hg (nb (by decide)) (by decide +kernel) ha (by decide) (by decide) s1 s2
  | int => exact pe_callTy hc hg (nb (by decide)) (by decide +kernel) ha (by decide) (by decide) s1 s2
  | max2 => exact pe_callB hc hg (nb (by decide)) (by decide +kernel) ha (by decide) (by decide) s1 s2
  | min2 => exact pe_callB hc hg (nb (by decide)) (by decide +kernel) ha (by decide) (by decide) s1 s2
  | maxL => exact pe_callB hc hg (nb (by decide)) (by decide +kernel) ha (by decide) (by decide) s1 s2
  | minL => exact pe_callB hc hg (nb (by decide)) (by decide +kernel) ha (by decide) (by decide) s1 s2
  | sum => exact pe_callB hc hg (nb (by decide)) (by decide +kernel) ha (by decide) (by decide) s1 s2
  | all => exact pe_callB hc hg (nb (by decide)) (by decide +kernel) ha (by decide) (by decide) s1 s2
  | any => exact pe_callB hc hg (nb (by decide)) (by decide +kernel) ha (by decide) (by decide) s1 s2
  | tuple => exact pe_callTy hc hg (nb (by decide)) (by decide +kernel) ha (by decide) (by decide) s1 s2
  | list => exact pe_callTy hc hg (nb (by decide)) (by decide +kernel) ha (by decide) (by decide) s1 s2
  | repr => exact pe_callB hc hg (nb (by decide)) (by decide +kernel) ha (by decide) (by decide) s1 s2
  | divmod => exact pe_callB hc hg (nb (by decide)) (by decide +kernel) ha (by decide) (by decide) s1 s2
  | sorted => exact pe_callB hc hg (nb (by decide)) (by decide +kernel) ha (by decide) (by decide) s1 s2
  | str => exact pe_callTy hc hg (nb (by decide)) (by decide +kernel) ha (by decide) (by decide) s1 s2
theorem pe_blt' (g : Gd X CX E lv c G C) {f : Bf} {x : Str} {p : Pos} {a : Expr} {fs : Rd' (List RV)} (hx : x = f.nm) (h2 : c.glb x = true) (hgcd : f ≠ .gcd ∨ c.gcd = true) (ha : PA X (a :: es) (tA X.K X.mg E fs)) (h4 : (a :: es).all plainE = true) :
    PE X (.Call (.Name x p) (a :: es) [] pos) (tX X.K X.mg E fun ρ S => (fs ρ S).bind fun vs S1 => match rdF f S1 vs with
      | some ds => ofOpt (bltD f ds) S1
      | none => .stuck) :=
  PE.imp (pe_bf g hx h2 hgcd ha h4) fun σ H Q ⟨ρ, cm, S, hs, he, q⟩ => tG_bind okG.zok hs he q fun vs S1 ws H1 cm1 _ p z => by
    obtain ⟨t, s, vv⟩ := p
    have z := okG.step t z
    cases e1 : rdF f S1 vs with
    | none => rw [e1] at z; exact z.elim
    | some ds =>
      rw [e1] at z
      dsimp only at z
      obtain ⟨L, hL, hq⟩ := rdF_ok f s vv e1
      refine ⟨cm1, S1, ds, L, s, hL, hq, ?_⟩
      cases h : bltD f ds with
      | none => rw [h] at z; exact z
      | some r => rw [h] at z; exact z
end
end Rf

set_option Elab.async false
set_option linter.all false
set_option maxRecDepth 100000
set_option maxHeartbeats 1000000
namespace Rf
open PySem PySem.Spec PyProof.Rows L2
/-! methods, isinstance, targets -/
section
variable {X : Cx} {CX : CXT} {E : XK} {lv : Nat} {c : Ct} {G : List Mir} {C : List D} {a b d e : Expr} {fa fb fc fd : Rd' RX} {pos : Pos} {es : List Expr}
theorem star_noneS {env : PySem.Env} {pos : Pos} : ∀ {es : List Expr}, es.all plainE = true → (backTo pos (starEach es env)).all (fun x => !x.1) = true
  | [], _ => rfl
  | e :: es, h => by
    rw [List.all_cons, Bool.and_eq_true] at h
    rw [star_cons h.1]
    have ih := star_noneS (pos := pos) (env := env) h.2
    show (true && (backTo pos (starEach es env)).all (fun x => !x.1)) = true
    rw [ih]; rfl
theorem base_of {o : Expr} {n : Str} {env : PySem.Env} (h : notCall o = true) : attributeBase o n env (eval o env) = eval o env := by
  cases o with
  | Call f as ks p => cases as <;> cases ks <;> first | (simp [notCall] at h; done) | (cases f <;> rfl)
  | _ => rfl
def Mf.id : Mf → String
  | .split => "str.split"
  | .join => "str.join"
  | .index => "str.index"
  | .count => "str.count"
def rM (K : PySem.W.Frag) (f : Mf) : V → List V → Hp → VK → Prop := fun x vs H Q => ∃ cm S z ds, SR K H cm S ∧ x = .str z ∧ Rqs K H (Lv cm S) vs ds ∧ RX1 K H Q cm S (mthD f (.str z) ds)
theorem mt_D (f : Mf) (hf : f = .split ∨ f = .join) : MtR X f.id (rM X.K f) := by
  intro pins s σ H x vs v us Q I rx rv h
  obtain ⟨cm, S, z, ds, hs, rfl, rq, q⟩ := h
  rcases hf with rfl | rfl
  · cases rq with
    | nil => exact q.elim
    | cons r1 r2 => cases r2 with
      | cons _ _ => rename_i d1 _ _ _ _ _ _; cases d1 <;> exact q.elim
      | nil =>
        rename_i d
        cases d with
        | str y =>
          have := r1.str; subst this
          simp only [mthD] at q
          split at q
          · rename_i hc
            obtain ⟨h1, h2⟩ := hc
            refine mt_split pins s σ H _ _ v us Q I rx rv ⟨z, y, rfl, rfl, by simpa using h1, by rw [← line_eq]; exact h2, fun p hp => q _ _ cm (mkF hs hp (rps_strs X.K H (Lv cm S) _))⟩
          · exact q.elim
        | _ => exact q.elim
  · cases rq with
    | nil => exact q.elim
    | cons r1 r2 => cases r2 with
      | cons _ _ => rename_i d1 _ _ _ _ _ _; cases d1 <;> exact q.elim
      | nil =>
        rename_i d
        cases d with
        | lst ys =>
          obtain ⟨a, ws, rfl, ha, hw⟩ := r1.lst
          simp only [mthD] at q
          cases hz : strL ys with
          | none => rw [hz] at q; exact q.elim
          | some zs =>
            rw [hz] at q
            dsimp only at q
            split at q
            · rename_i hc
              have e := strs_rps hw hz
              subst e
              exact mt_join pins s σ H _ _ v us Q I rx rv ⟨z, a, zs, rfl, rfl, .inl ha.sq, hc, q _ _ cm (mkD hs (.str _))⟩
            · exact q.elim
        | _ => exact q.elim
theorem pe_mth' (f : Mf) {m : Str} {ap : Pos} {fs : Rd' (List RV)} {o : Expr} (hm : m = f.nm) (hf : f = .split ∨ f = .join) (hl : (ap.endLine == pos.line) = true) (hn : notCall o = true) (h8 : es.length < 8) (hp : (a :: es).all plainE = true)
    (ho : PE X o (tX X.K X.mg E fa)) (ha : PA X (a :: es) (tA X.K X.mg E fs)) : PE X (.Call (.Attribute o m ap) (a :: es) [] pos) (tX X.K X.mg E fun ρ S => (fa ρ S).bind fun x S1 => match x with
    | .d (.str z) => (fs ρ S1).bind fun vs S2 => (match rdVs S2 vs with
      | some ds => ofOpt (mthD f (.str z) ds) S2
      | none => .stuck)
    | _ => .stuck) := by
  have hp' := hp
  rw [List.all_cons, Bool.and_eq_true] at hp'
  have few : ((backTo pos (starEach (a :: es) X.env)).all (fun x => !x.1) && (backToKw pos (keywordEach [] X.env)).all (fun x => x.1.isSome)
      && decide ((a :: es).length + ([] : List Keyword).length + (if ([] : List Keyword).isEmpty then 0 else 1) < 30)) = true := by
    rw [star_noneS hp]
    have : (a :: es).length + ([] : List Keyword).length + (if ([] : List Keyword).isEmpty then 0 else 1) < 30 := by simp; omega
    rw [decide_eq_true this]; rfl
  have main : PE X (.Call (.Attribute o m ap) (a :: es) [] pos) (tBM X.K "str" (rM X.K f) (tX X.K X.mg E fa) (tA X.K X.mg E fs)) := by
    subst hm
    rcases hf with rfl | rfl
    · exact pe_bm PySem.F.plainAttrs_str PySem.F.slot_str_split PySem.F.type_str_split (mt_D .split (.inl rfl)) ho ha (base_of hn) few hl (star_cons hp'.1) (star_any hp'.2)
    · exact pe_bm PySem.F.plainAttrs_str PySem.F.slot_str_join PySem.F.type_str_join (mt_D .join (.inr rfl)) ho ha (base_of hn) few hl (star_cons hp'.1) (star_any hp'.2)
  refine PE.imp main fun σ H Q ⟨ρ, cm, S, hs, he, q⟩ => tG_bind okG.zok hs he q fun x S1 v H1 cm1 _ p z => ?_
  cases x with
  | d d => cases d with
    | str w =>
      obtain ⟨t, s, vx⟩ := p
      cases vx
      refine ⟨rfl, tG_bind okG.zok s (he.mono t hs) (okG.step t z) fun vs S2 ws H2 cm2 _ p2 z2 => ?_⟩
      obtain ⟨t2, s2, vv⟩ := p2
      have z2 := okG.step t2 z2
      cases e1 : rdVs S2 vs with
      | none => rw [e1] at z2; exact z2.elim
      | some ds =>
        rw [e1] at z2
        dsimp only at z2
        refine ⟨cm2, S2, w, ds, s2, rfl, rds_ok s2 vv e1, ?_⟩
        cases h : mthD f (.str w) ds with
        | none => rw [h] at z2; exact z2
        | some r => rw [h] at z2; exact z2
    | _ => exact z.elim
  | _ => exact z.elim
/-! pop -/
theorem dropLast_get {α : Type} {xs : List α} {d : α} (h : xs.getLast? = some d) : xs[xs.length - 1]? = some d := by
  rw [← h, List.getLast?_eq_getElem?]
theorem pe_pop' (g : Gd X CX E lv c G C) {i : Nat} {x m : Str} {p ap : Pos} (hm : m = "pop") (hl : (ap.endLine == pos.line) = true) (h1 : c.slot i x = true) (h2 : c.vis x = true) (h3 : x ≠ dbg) (h4 : x ≠ cld) :
    PE X (.Call (.Attribute (.Name x p) m ap) [] [] pos) (tX X.K X.mg E (ev G C (.pop i))) := by
  subst hm
  refine PE.imp (pe_bm0 PySem.F.plainAttrs_list PySem.F.slot_list_pop PySem.F.type_list_pop mt_pop (pe_var (g.slot h1) (g.vis h2) (ndb h3) (ncd h4)) (by rfl) hl) fun σ H Q ⟨ρ, cm, S, hs, he, q⟩ => ?_
  unfold ev at q
  cases e1 : ρ[i]? with
  | none => rw [e1] at q; exact q.elim
  | some o => cases o with
    | none => rw [e1] at q; exact q.elim
    | some r => cases r with
      | d d => rw [e1] at q; exact q.elim
      | g i j => rw [e1] at q; exact q.elim
      | r n i => rw [e1] at q; exact q.elim
      | c n =>
        rw [e1] at q
        dsimp only at q
        obtain ⟨v, hv, ad, os, rfl, ha⟩ := he.at' i _ e1
        cases e2 : S[n]? with
        | none => rw [e2] at q; exact q.elim
        | some cl => cases cl with
          | fz ds => rw [e2] at q; exact q.elim
          | mx ds => rw [e2] at q; exact q.elim
          | lst ds =>
            rw [e2] at q
            dsimp only at q
            obtain ⟨vs, hH, rv⟩ := hs.okL ha e2
            cases e3 : ds.getLast? with
            | none => rw [e3] at q; exact q.elim
            | some d =>
              rw [e3] at q
              obtain ⟨y, hy, ry⟩ := rv.get (dropLast_get e3)
              refine ⟨.ref ad, hv, .inl ⟨rfl, vs, .of hH⟩, ad, vs, y, rfl, rfl, hH, by rw [rv.length]; exact hy, ?_⟩
              have tr := wr_tr (es := ds.dropLast) hs ha e2 (.lst vs.dropLast)
              exact q y _ cm ⟨tr, wr_sr hs ha e2 rv.dropLast, ry.mono (tr.toExt hs)⟩
/-! isinstance -/
def tyD : D → String
  | .non => "NoneType"
  | .bl _ => "bool"
  | .int _ => "int"
  | .str _ => "str"
  | .tup _ => "tuple"
  | .lst _ => "list"
def Ty.id : Ty → String
  | .int => "int"
  | .bool => "bool"
  | .str => "str"
  | .list => "list"
  | .tuple => "tuple"
theorem tyX_of {K : PySem.W.Frag} {H : Hp} {L : Addr → Prop} {v : V} {d : D} (h : Rq K H L v d) : TyX K H v (.type (tyD d)) := by
  cases d with
  | non => cases h.non; exact .base .non
  | bl b => cases h.bl; exact .base (.bl b)
  | int i => cases h.int; exact .base (.int i)
  | str x => cases h.str; exact .base (.str x)
  | tup ds =>
    obtain ⟨a, vs, rfl, q, _⟩ := h.tup
    rcases q with (q | ⟨o, q⟩) | ⟨o, its, n, q, hc, _⟩
    · exact .base (.tup q)
    · exact .fTuple q
    · exact .kTuple q hc
  | lst ds =>
    obtain ⟨a, vs, rfl, q, _⟩ := h.lst
    rcases q with q | ⟨o, q⟩ | q
    · exact .base (.lst q)
    · exact .base (.frz q)
    · obtain ⟨its, n, q, _⟩ := q
      exact .kList q rfl
theorem kitB_isD (d : D) (t : Ty) : kitB (tyD d) t.id = some (isD d t) := by
  cases d <;> cases t <;> (show kitB _ _ = some _; simp only [tyD, Ty.id, isD]; decide +kernel)
theorem kitAny_isD {K : PySem.W.Frag} (d : D) : ∀ ts : List Ty, PySem.W.kitAny K (.type (tyD d)) (ts.map fun t => Value.type t.id) = some (ts.any (isD d))
  | [] => kitAny_nil
  | t :: ts => by
    refine kitAny_cons (kit_ty (kitB_isD d t)) (fun e => ?_) (fun e => ?_)
    · rw [List.any_cons, e, Bool.false_or]; exact kitAny_isD d ts
    · rw [List.any_cons, e, Bool.true_or]
theorem pe_ty (g : Gd X CX E lv c G C) {t : Ty} (h : chkTy c e t = true) : PE X e (tC (.ty t.id)) := by
  cases e with
  | Name x p =>
    simp only [chkTy, Bool.and_eq_true, decide_eq_true_eq] at h
    obtain ⟨rfl, h2⟩ := h
    cases t with
    | int => exact pe_bltn (u := .type "int") (g.glb h2) (g.top.blt _ (by decide)) (by decide +kernel) rfl (by decide) (by decide)
    | bool => exact pe_bltn (u := .type "bool") (g.glb h2) (g.top.blt _ (by decide)) (by decide +kernel) rfl (by decide) (by decide)
    | str => exact pe_bltn (u := .type "str") (g.glb h2) (g.top.blt _ (by decide)) (by decide +kernel) rfl (by decide) (by decide)
    | list => exact pe_bltn (u := .type "list") (g.glb h2) (g.top.blt _ (by decide)) (by decide +kernel) rfl (by decide) (by decide)
    | tuple => exact pe_bltn (u := .type "tuple") (g.glb h2) (g.top.blt _ (by decide)) (by decide +kernel) rfl (by decide) (by decide)
  | _ => simp [chkTy] at h
def tTys (ts : List Ty) : L2.TA := fun _ H Q => Q (ts.map fun t => .ty t.id) H
theorem pa_tys (g : Gd X CX E lv c G C) : ∀ {es : List Expr} {ts : List Ty}, chkTys c es ts = true → PA X es (tTys ts)
  | [], [], _ => PA.imp pa_nil fun σ H Q h => h
  | e :: es, t :: ts, h => by
    simp only [chkTys, Bool.and_eq_true] at h
    exact PA.imp (pa_cons (pe_ty g h.1.1) (pa_tys g h.2) (star_cons h.1.2)) fun σ H Q h => h
  | [], _ :: _, h => by simp [chkTys] at h
  | _ :: _, [], h => by simp [chkTys] at h
theorem paired_ty : ∀ ts : List Ty, Paired ClsV (ts.map fun t => V.ty t.id) (ts.map fun t => Value.type t.id)
  | [] => .nil
  | t :: ts => .cons (.ty _) (paired_ty ts)
theorem pe_isi1 (g : Gd X CX E lv c G C) {x : Str} {p : Pos} {t : Expr} {u : Ty} (hx : x = "isinstance") (h2 : c.glb x = true) (hp : plainE a = true) (ha : PE X a (tX X.K X.mg E fa)) (ht : chkTy c t u = true) (hpt : plainE t = true) :
    PE X (.Call (.Name x p) [a, t] [] pos) (tX X.K X.mg E fun ρ S => (fa ρ S).rv.bind fun x S1 => match rdW S1 x with
    | some d => .ok (.d (.bl ([u].any (isD d)))) S1
    | none => .stuck) := by
  subst hx
  have hb := pe_callB (pos := pos) (p := p) call_isi (g.glb h2) (g.top.blt _ (by decide)) (by decide +kernel) (pa_cons (pe_rv ha) (pa_cons (pe_ty g ht) pa_nil (star_cons hpt)) (star_cons hp)) (by decide) (by decide) (star_cons hp) (star_any (by simp [hpt]))
  refine PE.imp hb fun σ H Q ⟨ρ, cm, S, hs, he, q⟩ => tG_bind (f := fun ρ S => (fa ρ S).rv) okG.zok hs he q fun y S1 v H1 cm1 _ p z => ?_
  obtain ⟨t1, s1, vx⟩ := p
  have z := okG.step t1 z
  cases e1 : rdW S1 y with
  | none => rw [e1] at z; exact z.elim
  | some d =>
    rw [e1] at z
    have r : Rq X.K H1 L0 v d := .inl (rdW_ok s1 vx e1)
    refine ⟨v, .ty u.id, .type (tyD d), .type u.id, isD d u, rfl, .ty _, tyX_of r, kit_ty (kitB_isD d u), ?_⟩
    have z2 := z (.bl ([u].any (isD d))) H1 cm1 ⟨Tr.refl, s1, .bl _⟩
    simpa using z2
theorem Rq.mono {K : PySem.W.Frag} {H H' : Hp} {L L' : Addr → Prop} {v : V} {d : D} (h : Rq K H L v d) (x : Ext H H' L L') (hk : ∀ a o, H a = some o → H' a = some o) : Rq K H' L' v d := by
  rcases h with h | ⟨a, vs, ds, e1, e2, q, z⟩
  · exact .inl (h.mono x)
  · refine .inr ⟨a, vs, ds, e1, e2, ?_, z.mono x⟩
    rcases q with q | ⟨o, q⟩ | q
    · exact .inl (hk _ _ q)
    · exact .inr (.inl ⟨o, hk _ _ q⟩)
    · exact .inr (.inr q)
theorem pe_isi2 (g : Gd X CX E lv c G C) {x : Str} {p p2 : Pos} {k : Nat} {ts : List Ty} (hx : x = "isinstance") (h2 : c.glb x = true) (hp : plainE a = true) (ha : PE X a (tX X.K X.mg E fa)) (ht : chkTys c es ts = true) (hlen : es.length ≤ 16) :
    PE X (.Call (.Name x p) [a, .Tuple es k p2] [] pos) (tX X.K X.mg E fun ρ S => (fa ρ S).rv.bind fun x S1 => match rdW S1 x with
    | some d => .ok (.d (.bl (ts.any (isD d)))) S1
    | none => .stuck) := by
  subst hx
  have hb := pe_callB (pos := pos) (p := p) call_isiT (g.glb h2) (g.top.blt _ (by decide)) (by decide +kernel) (pa_cons (pe_rv ha) (pa_cons (pe_tup (x1 := k) (pos := p2) (pa_tys g ht)) pa_nil (star_cons (by rfl))) (star_cons hp)) (by decide) (by decide) (star_cons hp) (star_any (by rfl))
  have ll : ∀ {es : List Expr} {ts : List Ty}, chkTys c es ts = true → ts.length = es.length := fun {es} => by
    induction es with
    | nil => intro ts h; cases ts <;> simp [chkTys] at h ⊢
    | cons e es ih => intro ts h; cases ts with
      | nil => simp [chkTys] at h
      | cons t ts => simp only [chkTys, Bool.and_eq_true] at h; simp [ih h.2]
  refine PE.imp hb fun σ H Q ⟨ρ, cm, S, hs, he, q⟩ => tG_bind (f := fun ρ S => (fa ρ S).rv) okG.zok hs he q fun y S1 v H1 cm1 _ p z => ?_
  obtain ⟨t1, s1, vx⟩ := p
  have z := okG.step t1 z
  cases e1 : rdW S1 y with
  | none => rw [e1] at z; exact z.elim
  | some d =>
    rw [e1] at z
    have r : Rq X.K H1 L0 v d := .inl (rdW_ok s1 vx e1)
    refine ⟨by rw [List.length_map, ll ht]; exact Nat.le_trans hlen (by rw [sizeLine_eq]; decide), fun pa hpa => ?_⟩
    have r2 := r.mono (Ext.new (o := .tup (ts.map fun t => V.ty t.id)) (fun _ z => z.elim) hpa) fun b o e => by rw [upd_ne (ne_of_none e hpa)]; exact e
    refine ⟨v, pa, _, .type (tyD d), _, ts.any (isD d), rfl, upd_same, paired_ty ts, tyX_of r2, kitAny_isD d ts, ?_⟩
    exact z _ _ cm1 ⟨Tr.new s1 hpa, s1.new hpa, .bl _⟩
/-! targets -/
theorem wipe_get {α : Type} (σ : List (Option α)) (i : Nat) : True := trivial
theorem wipe_look (σ : L2.St) : ∀ (vs : List Nat) (j : Nat), (wipe σ vs)[j]? = if j ∈ vs ∧ j < σ.length then some none else σ[j]?
  | [], j => by simp [wipe]
  | v :: vs, j => by
    unfold wipe
    by_cases h : v = j
    · subst h
      by_cases hl : v < σ.length
      · rw [List.getElem?_set_self (by rw [wipe_length]; exact hl), if_pos ⟨List.mem_cons_self, hl⟩]
      · rw [List.getElem?_eq_none (by simpa [wipe_length] using hl), if_neg (fun z => hl z.2), List.getElem?_eq_none (by simpa using hl)]
    · rw [List.getElem?_set_ne h, wipe_look σ vs j]
      have : (j ∈ v :: vs ∧ j < σ.length) ↔ (j ∈ vs ∧ j < σ.length) := by simp [Ne.symm h]
      simp only [this]
theorem wipe_set {σ : L2.St} {i : Nat} {x : Option V} {own : List Nat} (h : i ∈ own) : wipe (σ.set i x) own = wipe σ own := by
  apply List.ext_getElem?
  intro j
  rw [wipe_look, wipe_look, List.length_set]
  by_cases hj : j ∈ own ∧ j < σ.length
  · rw [if_pos hj, if_pos hj]
  · rw [if_neg hj, if_neg hj]
    by_cases hi : i = j
    · subst hi
      have : ¬ i < σ.length := fun z => hj ⟨h, z⟩
      rw [List.getElem?_eq_none (by simpa using this), List.getElem?_eq_none (by simpa using this)]
    · rw [List.getElem?_set_ne hi]
def gD (K : PySem.W.Frag) (tg : Tg) : TG := fun v σ H Q => ∃ ρ cm S d ρ1, SR K H cm S ∧ ER K H cm S ρ σ ∧ Rp K H (Lv cm S) v d ∧ bindT tg d ρ = some ρ1 ∧ ∀ σ1, ER K H cm S ρ1 σ1 → (∀ own, (∀ i ∈ tg.slots, i ∈ own) → wipe σ1 own = wipe σ own) → Q σ1 H
def gDs (K : PySem.W.Frag) (ts : Tgs) : TGs := fun vs σ H Q => ∃ ρ cm S ds ρ1, SR K H cm S ∧ ER K H cm S ρ σ ∧ Rps K H (Lv cm S) vs ds ∧ bindTs ts ds ρ = some ρ1 ∧ ∀ σ1, ER K H cm S ρ1 σ1 → (∀ own, (∀ i ∈ ts.slots, i ∈ own) → wipe σ1 own = wipe σ own) → Q σ1 H
/-- several names -/
def gNs (is : List Nat) : TGs := fun vs σ H Q => vs.length = is.length ∧ Q ((is.zip vs).foldl (fun σ p => σ.set p.1 (some p.2)) σ) H
theorem pgs_ns (g : Gd X CX E lv c G C) : ∀ {es : List Expr} {is : List Nat}, chkNs c es is = true → PGs X es (gNs is) ∧ (assignEach es X.env).length = is.length ∧ (assignEach es X.env).findIdx? (·.1) = none
  | [], [], _ => ⟨⟨fun pins s σ H vs us Q I r ⟨h1, h2⟩ => pgs_nil.run pins s σ H vs us Q I r (by
      cases vs with
      | nil => exact ⟨rfl, h2⟩
      | cons _ _ => simp at h1)⟩, rfl, rfl⟩
  | e :: es, i :: is, h => by
    cases e with
    | Name x p =>
      simp only [chkNs, Bool.and_eq_true] at h
      obtain ⟨⟨h1, h2⟩, h3⟩ := h
      obtain ⟨a1, a2, a3⟩ := pgs_ns g h3
      have hl := g.loc h2
      have h0 : PGs X (.Name x p :: es) (gCons (gName i) (gNs is)) := pgs_cons (pg_name g.nd (g.slot h1) hl.1 hl.2) a1 (by rfl)
      refine ⟨⟨fun pins s σ H vs us Q I r ⟨h1, h2⟩ => h0.run pins s σ H vs us Q I r ?_⟩, ?_, ?_⟩
      · cases vs with
        | nil => simp at h1
        | cons v vs => exact ⟨v, vs, rfl, by simpa using h1, h2⟩
      · show (assignEach es X.env).length + 1 = is.length + 1
        rw [a2]
      · show List.findIdx? (·.1) ((false, assign (.Name x p) X.env) :: assignEach es X.env) = none
        rw [List.findIdx?_cons, a3]; rfl
    | _ => simp [chkNs] at h
  | [], _ :: _, h => by simp [chkNs] at h
  | e :: _, [], h => by cases e <;> simp [chkNs] at h
theorem bindTs_len : ∀ {ts : Tgs} {ds : List D} {ρ ρ1 : Rf.Env}, bindTs ts ds ρ = some ρ1 → ds.length = ts.len
  | .nil, [], _, _, _ => rfl
  | .nil, _ :: _, _, _, h => by simp [bindTs] at h
  | .cons _ _, [], _, _, h => by simp [bindTs] at h
  | .cons t ts, d :: ds, ρ, ρ1, h => by
    simp only [bindTs, Option.bind_eq_some_iff] at h
    obtain ⟨ρ2, _, h2⟩ := h
    simp [Tgs.len, bindTs_len h2]
theorem plain_assign {e : Expr} {es : List Expr} {env : PySem.Env} (h : plainE e = true) : assignEach (e :: es) env = (false, assign e env) :: assignEach es env := by
  cases e <;> first | rfl | (simp [plainE] at h)
mutual
theorem pg_D (g : Gd X CX E lv c G C) : ∀ {tg : Tg} {e : Expr}, chkTg c tg e = true → PG X e (gD X.K tg) ∧ plainE e = true
  | .n i, e, h => by
    cases e with
    | Name x p =>
      simp only [chkTg, Bool.and_eq_true] at h
      have hl := g.loc h.2
      refine ⟨PG.imp (pg_name g.nd (g.slot h.1) hl.1 hl.2) fun v σ H Q ⟨ρ, cm, S, d, ρ1, hs, he, rp, hb, q⟩ => ?_, rfl⟩
      simp only [bindT, Option.some.injEq] at hb
      subst hb
      exact q _ (he.set (r := .d d) rp) fun own ho => wipe_set (ho i (by simp [Tg.slots]))
    | _ => simp [chkTg] at h
  | .t ts, e, h => by
    cases e with
    | Tuple es k p =>
      have h' : chkTgs c ts es = true := by simpa [chkTg] using h
      obtain ⟨a1, a2, a3⟩ := pgs_D g h'
      refine ⟨PG.imp (pg_tup g.calm a1 rfl a3) fun v σ H Q ⟨ρ, cm, S, d, ρ1, hs, he, rp, hb, q⟩ => ?_, rfl⟩
      cases rp with
      | tup ht rv =>
        simp only [bindT] at hb
        exact ⟨_, _, rfl, ht, by rw [rv.length, bindTs_len hb, a2], ρ, cm, S, _, ρ1, hs, he, rv, hb, fun σ1 h1 h2 => q σ1 h1 fun own ho => h2 own (by simpa [Tg.slots] using ho)⟩
      | _ => simp [bindT] at hb
    | _ => simp [chkTg] at h
theorem pgs_D (g : Gd X CX E lv c G C) : ∀ {ts : Tgs} {es : List Expr}, chkTgs c ts es = true → PGs X es (gDs X.K ts) ∧ (assignEach es X.env).length = ts.len ∧ (assignEach es X.env).findIdx? (·.1) = none
  | .nil, es, h => by
    cases es with
    | cons _ _ => simp [chkTgs] at h
    | nil =>
      refine ⟨⟨fun pins s σ H vs us Q I r ⟨ρ, cm, S, ds, ρ1, hs, he, rp, hb, q⟩ => pgs_nil.run pins s σ H vs us Q I r ?_⟩, rfl, rfl⟩
      cases rp with
      | nil =>
        simp only [bindTs, Option.some.injEq] at hb
        subst hb
        exact ⟨rfl, q σ he fun _ _ => rfl⟩
      | cons _ _ => simp [bindTs] at hb
  | .cons t ts, es, h => by
    cases es with
    | nil => simp [chkTgs] at h
    | cons e es =>
      simp only [chkTgs, Bool.and_eq_true] at h
      obtain ⟨b1, b2⟩ := pg_D g h.1
      obtain ⟨a1, a2, a3⟩ := pgs_D g h.2
      have h0 : PGs X (e :: es) (gCons (gD X.K t) (gDs X.K ts)) := pgs_cons b1 a1 (by rw [plain_assign b2]; rfl)
      refine ⟨⟨fun pins s σ H vs us Q I r ⟨ρ, cm, S, ds, ρ1, hs, he, rp, hb, q⟩ => h0.run pins s σ H vs us Q I r ?_⟩, ?_, ?_⟩
      · cases rp with
        | nil => simp [bindTs] at hb
        | cons r1 r2 =>
          simp only [bindTs, Option.bind_eq_some_iff] at hb
          obtain ⟨ρ2, hb1, hb2⟩ := hb
          refine ⟨_, _, rfl, ρ, cm, S, _, ρ2, hs, he, r1, hb1, fun σ1 h1 h2 => ⟨ρ2, cm, S, _, ρ1, hs, h1, r2, hb2, fun σ2 h3 h4 => q σ2 h3 fun own ho => ?_⟩⟩
          rw [h4 own fun i hi => ho i (by simp [Tgs.slots, hi]), h2 own fun i hi => ho i (by simp [Tgs.slots, hi])]
      · rw [plain_assign b2]
        show (assignEach es X.env).length + 1 = _
        rw [a2]; rfl
      · rw [plain_assign b2, List.findIdx?_cons, a3]; rfl
end
end
end Rf

set_option Elab.async false
set_option linter.all false
set_option maxRecDepth 100000
set_option maxHeartbeats 4000000
namespace Rf
open PySem PySem.Spec PyProof.Rows L2
open AutoSeq1 (wpAny_loadPart')
/-! enumerate of a tuple -/
theorem new_enumT (t : Addr) (items : Array Value) :
    Meets (Builtin.«enumerate.__new__» ⟨[.type "enumerate", .ref t], []⟩) (fun _ R s => s.heap.IsTuple t items ∧
      R (.ok (.ret (.ref (s.heap.push { cls := .type "tuple_iterator", data := .fields #[.ref t, .int 0 0] }).objs.size)))
        { s with heap := (s.heap.push { cls := .type "tuple_iterator", data := .fields #[.ref t, .int 0 0] }).push { cls := .type "enumerate", data := .fields #[.none, .bool false, .ref s.heap.objs.size, rawInt 0, .none, .none] } }) := by
  refine .of_wp fun prog w A R s h => ?_
  obtain ⟨hp, g, d, tk, os⟩ := s
  obtain ⟨hT, q⟩ := h
  have sub := sub_enumerate
  wp_walk
  refine wpAny_stack_any fun st => wpAny_pure ?_
  split
  · rename_i c _ _ _ _ _
    cases (c == Value.type "enumerate") <;>
    · wp_walk using wpAny_pyIter_tuple hT
      exact ⟨_, rfl, q⟩
  · wp_walk using wpAny_pyIter_tuple hT
    exact ⟨_, rfl, q⟩
section
variable {prog : Program} {w : World} {A : Around} {E : Value → Shared → Prop} {s : Shared}
theorem call_enumT {t : Addr} {items : Array Value} {Q : Value → Shared → Prop} (hT : s.heap.IsTuple t items)
    (q : ∀ h', IsEnum h' (s.heap.objs.size + 1) s.heap.objs.size 0 .none → h'.IsTupleIter s.heap.objs.size t 0 → (∀ b o, s.heap.get? b = some o → h'.get? b = some o) → Q (.ref (s.heap.objs.size + 1)) { s with heap := h' }) :
    wpAny (model prog w) A (call (.type "enumerate") [.ref t]) Q E s := by
  refine callType_new F.called_enumerate (by decide) (F.typeCall_enumerate_1 _) (F.newCall_enumerate_1 _) (fun obj => F.args_object_init_2 obj _) F.entry_enumerate_new (new_enumT t items) ⟨hT, ?_⟩
  generalize e1 : s.heap.push { cls := .type "tuple_iterator", data := .fields #[.ref t, .int 0 0] } = h1
  have z1 : h1.objs.size = s.heap.objs.size + 1 := by rw [← e1]; exact Heap.size_push ..
  generalize e2 : h1.push { cls := .type "enumerate", data := .fields #[.none, .bool false, .ref s.heap.objs.size, rawInt 0, .none, .none] } = h2
  have k2 : ∀ b o, h1.get? b = some o → h2.get? b = some o := fun b o x => by rw [← e2]; exact Heap.get?_push_of_some _ x
  have k1 : ∀ b o, s.heap.get? b = some o → h1.get? b = some o := fun b o x => by rw [← e1]; exact Heap.get?_push_of_some _ x
  have en : h2.get? h1.objs.size = some { cls := .type "enumerate", data := .fields #[.none, .bool false, .ref s.heap.objs.size, rawInt 0, .none, .none] } := by rw [← e2]; exact Heap.get?_push_size _ rfl
  rw [z1] at en
  have itr : h1.get? s.heap.objs.size = some { cls := .type "tuple_iterator", data := .fields #[.ref t, .int 0 0] } := by rw [← e1]; exact Heap.get?_push_size _ rfl
  show _ ∧ _
  rw [z1]
  exact ⟨⟨_, en, rfl⟩, q h2 en ⟨_, k2 _ _ itr, rfl, rfl⟩ fun b o x => k2 b o (k1 b o x)⟩
end
def IteT (K : PySem.W.Frag) (a : Addr) : It where
  go := fun i H => ∃ (xs : List V) (x : V), SqT K H a xs ∧ xs[i]? = some x
  yld := fun i H v H' => ∃ T x, v = .ref T ∧ H T = none ∧ H' = upd H T (.tup [.int (i : Nat), x]) ∧ ∀ xs, SqT K H a xs → xs[i]? = some x
  stop := fun i H => ∃ xs : List V, SqT K H a xs ∧ xs.length = i
theorem turn_enumT {P : Program} {w : World} {K : PySem.W.Frag} {elts : List Expr} {kk : Nat} {tpos : Pos} (a e it : Addr) :
    Turn P w K (.Tuple elts kk tpos) (IteT K a) [e, it] e (fun i h => (∃ old, IsEnum h e it ((i : Nat) : Int) old) ∧ h.IsTupleIter it a i ∧ e ≠ it) where
  mem := by simp
  obj := fun i h st b hb => by
    obtain ⟨⟨old, he⟩, ⟨o, ho, hc, hd⟩, hne⟩ := st
    rcases List.mem_cons.mp hb with z | z
    · subst z; exact ⟨_, he, fun v q => nomatch q⟩
    · rw [List.mem_singleton.mp z]; exact ⟨o, ho, fun v q => by rw [hd] at q; cases q⟩
  keep := fun i h h' st k => by
    obtain ⟨⟨old, he⟩, hi, hne⟩ := st
    exact ⟨⟨old, k e List.mem_cons_self _ he⟩, hi.at fun o q => k it (by simp) o q, hne⟩
  item := by
    intro X hP hw hK hc i pins s σ H E I hf st hg
    subst hP; subst hw; subst hK
    obtain ⟨⟨old, he⟩, hit, hne⟩ := st
    obtain ⟨xs, x, hq, hx⟩ := hg
    obtain ⟨its, rv, tp, hz⟩ := I.tuple hq
    have tp' : s.heap.IsTuple a its.toArray := tp
    obtain ⟨u, hu, ru⟩ := rv.get hx
    have lt1 : e < s.heap.objs.size := Heap.lt_size he
    have lt2 : it < s.heap.objs.size := by obtain ⟨_, q, _⟩ := hit; exact Heap.lt_size q
    have na : a ≠ it := fun z => by
      subst z
      obtain ⟨o, e1, c1, _⟩ := tp'
      obtain ⟨o2, e2, c2, _⟩ := hit
      rw [e1] at e2; cases e2
      rw [c1] at c2; revert c2; decide +kernel
    have ne : e ≠ a := fun z => by
      subst z
      obtain ⟨o, e1, c1, _⟩ := tp'
      rw [show s.heap.get? e = _ from he] at e1; cases e1
      have c2 : Value.type "enumerate" = Value.type "tuple" := c1
      revert c2; decide +kernel
    have hi : i < its.toArray.size := by
      have := (List.getElem?_eq_some_iff.mp hx).1
      rw [rv.length] at this
      simpa using this
    refine wpAny_pyNext_enum_itemD (Draws.tuple (by show X.A.in1.handled = none; exact I.ok.hd hc) it a na its.toArray) he ⟨hit, tp'⟩ hi hne (by simp [hne, ne]) fun y h' tk hy ho st' hT hsz hk => ?_
    have ey : y = u := by
      have z : its[i]? = some y := by simpa using hy
      rw [hu] at z
      exact (Option.some.inj z).symm
    subst ey
    refine ⟨_, rfl, wpAny_letOwnedTupleGo_enum (s := { s with heap := h', toks := tk + 1 }) ho fun h2 he2 sb => ?_⟩
    have g2 : h2.get? s.heap.objs.size = some { cls := .type "tuple", data := .seq #[.int i tk, y] } := (sb.2 _ (Nat.ne_of_gt lt1)).trans hT
    have mk : ObjOk X.prog X.w (upd H s.heap.objs.size (.tup [.int (i : Nat), x])) h2 s.heap.objs.size (.tup [.int (i : Nat), x]) :=
      ⟨by show 2 ≤ sizeLine; decide, [.int i tk, y], .cons ⟨_, rfl⟩ (.cons ru .nil), _, g2, rfl, _, rfl⟩
    have I2 : Inv X pins σ (upd H s.heap.objs.size (.tup [.int (i : Nat), x])) { s with heap := h2, toks := tk + 1 } :=
      I.turnedNew (ch := [e, it]) (fun b ob hb q => by
        have nb1 : b ≠ e := fun z => hb (by simp [z])
        have nb2 : b ≠ it := fun z => hb (by simp [z])
        exact (sb.2 b nb1).trans (hk b ob nb1 nb2 q)) hf (Nat.le_refl _) mk
    refine ⟨.ref s.heap.objs.size, _, I2, rfl, ⟨_, x, rfl, I.hok.fresh (Nat.le_refl _), rfl, fun ys hy => by rw [I.tuple_inj hy hq]; exact hx⟩, ⟨⟨y, ?_⟩, st'.1.at fun o q => (sb.2 it (Ne.symm hne)).trans q, hne⟩, fun b hb => ?_⟩
    · rw [Int.natCast_add]; exact he2
    · have lb : b < s.heap.objs.size := by
        rcases List.mem_cons.mp hb with z | z
        · subst z; exact lt1
        · rw [List.mem_singleton.mp z]; exact lt2
      rw [upd_ne (Nat.ne_of_lt lb)]
      exact (hf b hb).1
  done := by
    intro X hP hw hK hc i pins s σ H E I hf st hg
    subst hP; subst hw; subst hK
    obtain ⟨⟨old, he⟩, hit, hne⟩ := st
    obtain ⟨xs, hq, hx⟩ := hg
    obtain ⟨its, rv, tp, hz⟩ := I.tuple hq
    have tp' : s.heap.IsTuple a its.toArray := tp
    have na : a ≠ it := fun z => by
      subst z
      obtain ⟨o, e1, c1, _⟩ := tp'
      obtain ⟨o2, e2, c2, _⟩ := hit
      rw [e1] at e2; cases e2
      rw [c1] at c2; revert c2; decide +kernel
    obtain ⟨f0, f1, f2, f3, f4, f5⟩ := hf it (by simp)
    have hn : i = its.toArray.size := by
      have := rv.length
      simp only [List.size_toArray]
      omega
    subst hn
    exact wpAny_pyNext_enum_endD (Draws.tuple (by show X.A.in1.handled = none; exact I.ok.hd hc) it a na its.toArray) he ⟨hit, tp'⟩ fun h' eb => ⟨rfl, I.turned (t' := s.toks) (fun b o hb q => eb b o hb q) f0 f1 f3 f4 f5⟩
  self := fun A i s Q E st h => by
    obtain ⟨⟨_, he⟩, _⟩ := st
    exact wpAny_pyIter_enum he h
def iEnumT (K : PySem.W.Frag) (ta : L2.TA) : TI := fun σ H R => ta σ H fun vs H1 => ∃ a xs, vs = [.ref a] ∧ SqT K H1 a xs ∧ R (IteT K a) H1
theorem pi_enumT {X : Cx} {e : Expr} {ta : L2.TA} {p pos tpos : Pos} {elts : List Expr} {kk : Nat} (hg : Gl X "enumerate") (hm : X.mg "enumerate" = none) (ha : PA X [e] ta) (hs : starEach [e] X.env = [(false, eval e X.env)]) :
    PI X (.Tuple elts kk tpos) (.Call (.Name "enumerate" p) [e] [] pos) (iEnumT X.K ta) := by
  refine ⟨fun pins s σ H R I h => Call_ (ld_blt I hg hm boot_enumerate (callWith_type1 (thn (ha.run pos pins s σ H _ I h) fun us s1 ⟨vs, H1, I1, r1, a, xs, ex, hq, q⟩ => ?_) hs rfl))⟩
  subst ex
  obtain ⟨u1, rfl, ru⟩ := vals1 r1
  cases ru
  obtain ⟨its, rv, tp, hz⟩ := I1.tuple hq
  refine call_enumT (show s1.heap.IsTuple a its.toArray from tp) fun h' he hit hk => wpAny_pyIter_enum he ?_
  have I2 : Inv X pins σ H1 { s1 with heap := h' } := I1.kept (t' := s1.toks) hk
  refine ⟨s1.heap.objs.size + 1, [s1.heap.objs.size + 1, s1.heap.objs.size], _, _, H1, rfl, I2, turn_enumT a _ _, ⟨⟨.none, he⟩, hit, Nat.succ_ne_self _⟩, fun b hb => ?_, q⟩
  have le : s1.heap.objs.size ≤ b := by
    rcases List.mem_cons.mp hb with z | z
    · rw [z]; exact Nat.le_succ _
    · rw [List.mem_singleton.mp z]; exact Nat.le_refl _
  exact I1.fpOk le (I1.hok.fresh le)
end Rf

set_option Elab.async false
set_option linter.all false
set_option maxRecDepth 100000
set_option maxHeartbeats 1000000
namespace Rf
open PySem PySem.Spec PyProof.Rows L2
/-! what is walked; comprehensions -/
structure WalkD (K : PySem.W.Frag) (J : It) (H1 : Hp) (cm1 : List CA) (S1 : Store) (src : List (Nat × List D)) (items : List D) : Prop where
  goes : ∀ {H : Hp} {cm : List CA} {S : Store}, Tr H1 cm1 S1 H cm S → SR K H cm S → srcOk src S = true → ∀ i, i < items.length → J.go i H
  stop : ∀ {H : Hp} {cm : List CA} {S : Store}, Tr H1 cm1 S1 H cm S → SR K H cm S → srcOk src S = true → J.stop items.length H
  yld : ∀ {H : Hp} {cm : List CA} {S : Store}, Tr H1 cm1 S1 H cm S → SR K H cm S → srcOk src S = true → ∀ i x H', i < items.length → J.yld i H x H' → ∃ d, items[i]? = some d ∧ Tr H cm S H' cm S ∧ SR K H' cm S ∧ Rp K H' (Lv cm S) x d
def PJ (K : PySem.W.Frag) : Post (List (Nat × List D) × List D) It := fun H cm S J p H' cm' S' => Tr H cm S H' cm' S' ∧ SR K H' cm' S' ∧ WalkD K J H' cm' S' p.1 p.2
instance {K : PySem.W.Frag} : Trs (PJ K) := ⟨fun t h => ⟨t.trans h.1, h.2⟩⟩
section
variable {K : PySem.W.Frag} {H1 : Hp} {cm1 : List CA} {S1 : Store} {src : List (Nat × List D)} {items ds es : List D} {a b : Addr}
/-- the list at a is read whole -/
def LstAt (K : PySem.W.Frag) (H1 : Hp) (cm1 : List CA) (S1 : Store) (src : List (Nat × List D)) (a : Addr) (ds : List D) : Prop :=
  ∀ {H : Hp} {cm : List CA} {S : Store}, Tr H1 cm1 S1 H cm S → SR K H cm S → srcOk src S = true → ∃ xs, SqL K H a xs ∧ Rps K H (Lv cm S) xs ds
def TupAt (K : PySem.W.Frag) (H1 : Hp) (cm1 : List CA) (S1 : Store) (src : List (Nat × List D)) (a : Addr) (ds : List D) : Prop :=
  ∀ {H : Hp} {cm : List CA} {S : Store}, Tr H1 cm1 S1 H cm S → SR K H cm S → srcOk src S = true → ∃ xs, SqT K H a xs ∧ Rps K H (Lv cm S) xs ds
theorem lstAt_d (s : SR K H1 cm1 S1) (h : Rp K H1 (Lv cm1 S1) (.ref a) (.lst ds)) : LstAt K H1 cm1 S1 src a ds := fun {H cm S} t r _ => by
  have := h.mono (t.toExt s)
  cases this with
  | lst f q => exact ⟨_, f.sq, q⟩
theorem tupAt_d (s : SR K H1 cm1 S1) (h : Rp K H1 (Lv cm1 S1) (.ref a) (.tup ds)) : TupAt K H1 cm1 S1 src a ds := fun {H cm S} t r _ => by
  have := h.mono (t.toExt s)
  cases this with
  | tup f q => exact ⟨_, f, q⟩
theorem lstAt_c {n : Nat} {os : List (Option Addr)} (h : cm1[n]? = some (a, os)) (hs : (n, ds) ∈ src) : LstAt K H1 cm1 S1 src a ds := fun {H cm S} t r ok => by
  obtain ⟨m, h2⟩ := t.pre n a os h
  have ok := List.all_eq_true.mp ok (n, ds) hs
  dsimp only at ok
  cases q : cellAt S n with
  | none => rw [q] at ok; cases ok
  | some es =>
    rw [q] at ok
    have := D.of_sames ok
    subst this
    obtain ⟨vs, e1, z⟩ := cellAt_ok r h2 q
    exact ⟨vs, .of e1, z⟩
theorem walkD_list (h : LstAt K H1 cm1 S1 src a ds) : WalkD K (Itl K a) H1 cm1 S1 src ds where
  goes := fun t r ok i hi => by
    obtain ⟨xs, q, z⟩ := h t r ok
    exact ⟨xs, xs[i]'(by rw [z.length]; exact hi), q, by simp⟩
  stop := fun t r ok => by
    obtain ⟨xs, q, z⟩ := h t r ok
    exact ⟨xs, q, by rw [z.length]; exact Nat.le_refl _⟩
  yld := fun {H cm S} t r ok i x H' hi y => by
    obtain ⟨xs, q, z⟩ := h t r ok
    obtain ⟨rfl, y⟩ := y
    obtain ⟨d, e, rp⟩ := z.get' (y xs q)
    exact ⟨d, e, Tr.refl, r, rp⟩
theorem walkD_tup (h : TupAt K H1 cm1 S1 src a ds) : WalkD K (Itt K a) H1 cm1 S1 src ds where
  goes := fun t r ok i hi => by
    obtain ⟨xs, q, z⟩ := h t r ok
    exact ⟨xs, xs[i]'(by rw [z.length]; exact hi), q, by simp⟩
  stop := fun t r ok => by
    obtain ⟨xs, q, z⟩ := h t r ok
    exact ⟨xs, q, by rw [z.length]; exact Nat.le_refl _⟩
  yld := fun {H cm S} t r ok i x H' hi y => by
    obtain ⟨xs, q, z⟩ := h t r ok
    obtain ⟨rfl, y⟩ := y
    obtain ⟨d, e, rp⟩ := z.get' (y xs q)
    exact ⟨d, e, Tr.refl, r, rp⟩
theorem strItems_get (x : Str) (i : Nat) : (strItems x)[i]? = (x.cps[i]?).map fun c => .str ⟨#[c]⟩ := by
  unfold strItems
  rw [List.getElem?_map, Array.getElem?_toList]
theorem walkD_str {x : Str} : WalkD K (Its x) H1 cm1 S1 src (strItems x) where
  goes := fun t r ok i hi => by have : i < x.cps.size := by simpa [strItems] using hi
                                exact this
  stop := fun t r ok => by show x.cps.size ≤ _; simp [strItems]
  yld := fun {H cm S} t r ok i v H' hi y => by
    obtain ⟨rfl, c, e, rfl⟩ := y
    exact ⟨_, by rw [strItems_get, e]; rfl, Tr.refl, r, .str _⟩
theorem walkD_range {lo : Int} {n : Nat} : WalkD K (Itr lo n) H1 cm1 S1 src (rngD lo n) where
  goes := fun t r ok i hi => by have : i < n := by simpa [rngD] using hi
                                exact this
  stop := fun t r ok => by show n ≤ _; simp [rngD]
  yld := fun {H cm S} t r ok i v H' hi y => by
    obtain ⟨rfl, rfl⟩ := y
    have hn : i < n := by simpa [rngD] using hi
    exact ⟨.int (lo + i), by simp [rngD, hn], Tr.refl, r, .int _⟩
theorem enumD_len : ∀ (k : Nat) (ds : List D), (enumD k ds).length = ds.length
  | _, [] => rfl
  | k, d :: ds => by simp [enumD, enumD_len (k + 1) ds]
theorem enumD_get : ∀ (k : Nat) (ds : List D) (i : Nat), (enumD k ds)[i]? = (ds[i]?).map fun d => .tup [.int ((k + i : Nat) : Int), d]
  | _, [], i => by simp [enumD]
  | k, d :: ds, 0 => by simp [enumD]
  | k, d :: ds, i + 1 => by
    simp only [enumD, List.getElem?_cons_succ]
    rw [enumD_get (k + 1) ds i]
    congr 1
    funext d
    congr 3
    congr 1
    omega
theorem new_tup {H : Hp} {cm : List CA} {S : Store} (r : SR K H cm S) {T : Addr} {vs : List V} {ds : List D} (hT : H T = none) (q : Rps K H (Lv cm S) vs ds) :
    Tr H cm S (upd H T (.tup vs)) cm S ∧ SR K (upd H T (.tup vs)) cm S ∧ Rp K (upd H T (.tup vs)) (Lv cm S) (.ref T) (.tup ds) := mkT r hT q
theorem walkD_enum (h : LstAt K H1 cm1 S1 src a ds) : WalkD K (Ite K a) H1 cm1 S1 src (enumD 0 ds) where
  goes := fun t r ok i hi => by
    obtain ⟨xs, q, z⟩ := h t r ok
    rw [enumD_len] at hi
    exact ⟨xs, xs[i]'(by rw [z.length]; exact hi), q, by simp⟩
  stop := fun t r ok => by
    obtain ⟨xs, q, z⟩ := h t r ok
    exact ⟨xs, q, by rw [z.length, enumD_len]; exact Nat.le_refl _⟩
  yld := fun {H cm S} t r ok i x H' hi y => by
    obtain ⟨xs, q, z⟩ := h t r ok
    obtain ⟨T, v, rfl, hT, rfl, y⟩ := y
    obtain ⟨d, e, rp⟩ := z.get' (y xs q)
    exact ⟨.tup [.int (i : Nat), d], by rw [enumD_get, e, Nat.zero_add]; rfl, new_tup r hT (.cons (.int _) (.cons rp .nil))⟩
theorem walkD_enumT (h : TupAt K H1 cm1 S1 src a ds) : WalkD K (IteT K a) H1 cm1 S1 src (enumD 0 ds) where
  goes := fun t r ok i hi => by
    obtain ⟨xs, q, z⟩ := h t r ok
    rw [enumD_len] at hi
    exact ⟨xs, xs[i]'(by rw [z.length]; exact hi), q, by simp⟩
  stop := fun t r ok => by
    obtain ⟨xs, q, z⟩ := h t r ok
    exact ⟨xs, q, by rw [z.length, enumD_len]⟩
  yld := fun {H cm S} t r ok i x H' hi y => by
    obtain ⟨xs, q, z⟩ := h t r ok
    obtain ⟨T, v, rfl, hT, rfl, y⟩ := y
    obtain ⟨d, e, rp⟩ := z.get' (y xs q)
    exact ⟨.tup [.int (i : Nat), d], by rw [enumD_get, e, Nat.zero_add]; rfl, new_tup r hT (.cons (.int _) (.cons rp .nil))⟩
theorem zipD_get : ∀ (ds es : List D) (i : Nat) (d e : D), ds[i]? = some d → es[i]? = some e → (zipD ds es)[i]? = some (.tup [d, e])
  | [], _, i, d, e, h, _ => by simp at h
  | _ :: _, [], i, d, e, _, h => by simp at h
  | a :: ds, b :: es, 0, d, e, h, h' => by simp at h h'; subst h h'; simp [zipD]
  | a :: ds, b :: es, i + 1, d, e, h, h' => by simp at h h'; simp [zipD, zipD_get ds es i d e h h']
theorem zipD_len : ∀ (ds es : List D), (zipD ds es).length = min ds.length es.length
  | [], _ => by simp [zipD]
  | _ :: _, [] => by simp [zipD]
  | a :: ds, b :: es => by simp only [zipD, List.length_cons, zipD_len ds es]; omega
theorem walkD_zip (h : LstAt K H1 cm1 S1 src a ds) (h' : LstAt K H1 cm1 S1 src b es) : WalkD K (Itz K a b) H1 cm1 S1 src (zipD ds es) where
  goes := fun t r ok i hi => by
    obtain ⟨xs, q, z⟩ := h t r ok
    obtain ⟨ys, q', z'⟩ := h' t r ok
    rw [zipD_len] at hi
    exact ⟨xs, ys, xs[i]'(by rw [z.length]; omega), ys[i]'(by rw [z'.length]; omega), q, q', by simp, by simp⟩
  stop := fun t r ok => by
    obtain ⟨xs, q, z⟩ := h t r ok
    obtain ⟨ys, q', z'⟩ := h' t r ok
    exact ⟨xs, ys, q, q', by rw [z.length, z'.length, zipD_len]; omega⟩
  yld := fun {H cm S} t r ok i x H' hi y => by
    obtain ⟨xs, q, z⟩ := h t r ok
    obtain ⟨ys, q', z'⟩ := h' t r ok
    obtain ⟨T, v, w, rfl, hT, rfl, y, y'⟩ := y
    obtain ⟨d, e, rp⟩ := z.get' (y xs q)
    obtain ⟨d', e', rp'⟩ := z'.get' (y' ys q')
    exact ⟨_, zipD_get _ _ _ _ _ e e', new_tup r hT (.cons rp (.cons rp' .nil))⟩
theorem walkD_zipT (h : TupAt K H1 cm1 S1 src a ds) (h' : TupAt K H1 cm1 S1 src b es) : WalkD K (RZ.ItzT K a b) H1 cm1 S1 src (zipD ds es) where
  goes := fun t r ok i hi => by
    obtain ⟨xs, q, z⟩ := h t r ok
    obtain ⟨ys, q', z'⟩ := h' t r ok
    rw [zipD_len] at hi
    exact ⟨xs, ys, xs[i]'(by rw [z.length]; omega), ys[i]'(by rw [z'.length]; omega), q, q', by simp, by simp⟩
  stop := fun t r ok => by
    obtain ⟨xs, q, z⟩ := h t r ok
    obtain ⟨ys, q', z'⟩ := h' t r ok
    exact ⟨xs, ys, q, q', by rw [z.length, z'.length, zipD_len]; omega⟩
  yld := fun {H cm S} t r ok i x H' hi y => by
    obtain ⟨xs, q, z⟩ := h t r ok
    obtain ⟨ys, q', z'⟩ := h' t r ok
    obtain ⟨T, v, w, rfl, hT, rfl, y, y'⟩ := y
    obtain ⟨d, e, rp⟩ := z.get' (y xs q)
    obtain ⟨d', e', rp'⟩ := z'.get' (y' ys q')
    exact ⟨_, zipD_get _ _ _ _ _ e e', new_tup r hT (.cons rp (.cons rp' .nil))⟩
end
section
variable {X : Cx} {CX : CXT} {E : XK} {lv : Nat} {c : Ct} {G : List Mir} {C : List D} {a b d e tg : Expr} {fa fb fc fd : Rd' RX} {pos : Pos} {es : List Expr}
abbrev tJ (K : PySem.W.Frag) (mg : Mg) (E : XK) (f : Rd' (List (Nat × List D) × List D)) : TI := tG K mg E (PJ K) f
def fSeq (fa : Rd' RX) : Rd' (List (Nat × List D) × List D) := fun ρ S => (fa ρ S).rv.bind fun v S2 => match v with
    | .d (.lst ds) => .ok ([], ds) S2
    | .d (.tup ds) => .ok ([], ds) S2
    | .d (.str x) => .ok ([], strItems x) S2
    | .g i j => if -4611686018427387904 ≤ i ∧ i < 4611686018427387904 ∧ -4611686018427387904 ≤ j ∧ j < 4611686018427387904 then .ok ([], rngD i (j - i).toNat) S2 else .stuck
    | .c n => (match cellAt S2 n with
      | some ds => .ok ([(n, ds)], ds) S2
      | none => (match mxAt S2 n with
        | some es => .ok ([], es.map MX.dat) (S2.set n (.fz (es.map MX.dat)))
        | none => .stuck))
    | _ => .stuck
/-- a range that a name holds, walked -/
def iRngV (te : TE) : TI := fun σ H R => te σ H fun v H1 => ∃ (a : Addr) (i j : Int), v = .ref a ∧ H1 a = some (.rng i j) ∧ -(2 ^ 62) ≤ i ∧ i < 2 ^ 62 ∧ -(2 ^ 62) ≤ j ∧ j < 2 ^ 62 ∧ R (Itr i (j - i).toNat) H1
theorem pi_rngV {te : TE} (he : PE X e te) : PI X tg e (iRngV te) := by
  refine ⟨fun pins s σ H R I h => ?_⟩
  refine thn (he.run pins s σ H _ I h) fun v s1 ⟨x, H1, I1, r1, q1⟩ => ?_
  obtain ⟨a, lo, hi, rfl, ha, h1, h2, h3, h4, q⟩ := q1
  obtain rfl : v = Value.ref a := r1
  obtain ⟨t, u, w, ho⟩ := I1.hok a _ ha
  refine wpAny_pyIter_range ho (small_one h1 h2 h3 h4) ?_
  refine ⟨s1.heap.objs.size, [s1.heap.objs.size], _, _, H1, rfl, I1.kept (t' := s1.toks) fun b o e => Heap.get?_push_of_some _ e, turn_range _ lo (hi - lo).toNat, ?_, fun b hb => ?_, q⟩
  · have e1 : lo + ((0 : Nat) : Int) * 1 = lo := by simp
    have e2 : (((hi - lo).toNat : Nat) : Int) - ((0 : Nat) : Int) = Builtin.Range.rangeSize lo hi 1 := by rw [rangeSize_one]; split <;> omega
    show IsRangeIter _ _ (lo + ((0 : Nat) : Int) * 1) ((((hi - lo).toNat : Nat) : Int) - ((0 : Nat) : Int)) 1
    rw [e1, e2]
    exact Heap.get?_push_size _ rfl
  · have e : b = s1.heap.objs.size := by simpa using hb
    subst e
    exact I1.fpOk (Nat.le_refl _) (I1.hok.fresh (Nat.le_refl _))
theorem pi_seq (h : PE X e (tX X.K X.mg E fa)) : PI X tg e (tJ X.K X.mg E (fSeq fa)) := by
  have h' := pe_rv h
  refine ⟨fun pins s σ H R I hq => ?_⟩
  obtain ⟨ρ, cm, S, hs, he, q⟩ := hq
  unfold fSeq at q
  have key : iList X.K (tV X.K X.mg E fun ρ S => (fa ρ S).rv) σ H R ∨ iTup X.K (tV X.K X.mg E fun ρ S => (fa ρ S).rv) σ H R ∨ iStr (tV X.K X.mg E fun ρ S => (fa ρ S).rv) σ H R ∨ iRngV (tV X.K X.mg E fun ρ S => (fa ρ S).rv) σ H R := by
    cases e1 : (fa ρ S).rv with
    | stuck => rw [e1] at q; exact q.elim
    | exc x S1 => rw [e1] at q; exact .inl ⟨ρ, cm, S, hs, he, by dsimp only; rw [e1]; exact q⟩
    | ok r S1 =>
      rw [e1] at q
      cases r with
      | c n =>
        refine .inl ⟨ρ, cm, S, hs, he, ?_⟩
        dsimp only
        rw [e1]
        intro v H1 cm1 p
        obtain ⟨t, s1, ad, os, rfl, ha⟩ := p
        have q := okG.step t q
        simp only [Res.bind_ok] at q
        cases e2 : cellAt S1 n with
        | none =>
          rw [e2] at q
          dsimp only at q
          cases e3 : mxAt S1 n with
          | none => rw [e3] at q; exact q.elim
          | some es =>
            rw [e3] at q
            dsimp only at q
            have e4 := mxAt_some e3
            have ec : Rf.conv .dat (.c n) S1 = .ok (.d (.lst (es.map MX.dat))) (S1.set n (.fz (es.map MX.dat))) := by
              simp only [Rf.conv, e4]
            obtain ⟨cm2, t2, s2, rp⟩ := PX.conv (K := X.K) (v := .ref ad) s1 (r := .c n) ⟨Tr.refl, s1, ad, os, rfl, ha⟩ ec
            have rp : Rp X.K H1 (Lv cm2 (S1.set n (.fz (es.map MX.dat)))) (.ref ad) (.lst (es.map MX.dat)) := rp
            have rp' := rp
            cases rp' with
            | lst f z => exact ⟨_, rfl, ⟨_, f.sq⟩, q _ H1 cm2 ⟨t2, s2, walkD_list (lstAt_d s2 rp)⟩⟩
        | some ds =>
          rw [e2] at q
          obtain ⟨vs, h1, h2⟩ := cellAt_ok s1 ha e2
          exact ⟨ad, rfl, ⟨vs, .of h1⟩, q _ H1 cm1 ⟨Tr.refl, s1, walkD_list (lstAt_c ha (by simp))⟩⟩
      | d d =>
        cases d with
        | lst ds =>
          refine .inl ⟨ρ, cm, S, hs, he, ?_⟩
          dsimp only
          rw [e1]
          intro v H1 cm1 p
          obtain ⟨t, s1, rp⟩ := p
          have q := okG.step t q
          have rp' : Rp X.K H1 (Lv cm1 S1) v (.lst ds) := rp
          cases rp' with
          | lst f z => exact ⟨_, rfl, ⟨_, f.sq⟩, q _ H1 cm1 ⟨Tr.refl, s1, walkD_list (lstAt_d s1 rp)⟩⟩
        | tup ds =>
          refine .inr (.inl ⟨ρ, cm, S, hs, he, ?_⟩)
          dsimp only
          rw [e1]
          intro v H1 cm1 p
          obtain ⟨t, s1, rp⟩ := p
          have q := okG.step t q
          have rp' : Rp X.K H1 (Lv cm1 S1) v (.tup ds) := rp
          cases rp' with
          | tup f z => exact ⟨_, rfl, ⟨_, f⟩, q _ H1 cm1 ⟨Tr.refl, s1, walkD_tup (tupAt_d s1 rp)⟩⟩
        | str x =>
          refine .inr (.inr (.inl ⟨ρ, cm, S, hs, he, ?_⟩))
          dsimp only
          rw [e1]
          intro v H1 cm1 p
          obtain ⟨t, s1, rp⟩ := p
          have q := okG.step t q
          have rp' : Rp X.K H1 (Lv cm1 S1) v (.str x) := rp
          cases rp'
          exact ⟨x, rfl, q _ H1 cm1 ⟨Tr.refl, s1, walkD_str⟩⟩
        | _ => exact q.elim
      | r n i => exact q.elim
      | g i j =>
        simp only [Res.bind_ok] at q
        split at q
        · rename_i hz
          refine .inr (.inr (.inr ⟨ρ, cm, S, hs, he, ?_⟩))
          dsimp only
          rw [e1]
          intro v H1 cm1 p
          obtain ⟨t, s1, a, rfl, ha⟩ := p
          exact ⟨a, i, j, rfl, ha, by omega, by omega, by omega, by omega, (okG.step t q) _ H1 cm1 ⟨Tr.refl, s1, walkD_range⟩⟩
        · exact q.elim
  rcases key with k | k | k | k
  · exact (pi_list h').run pins s σ H R I k
  · exact (pi_tup h').run pins s σ H R I k
  · exact (pi_str h').run pins s σ H R I k
  · exact (pi_rngV h').run pins s σ H R I k
def fRng (fs : Rd' (List RV)) : Rd' (List (Nat × List D) × List D) := fun ρ S => (fs ρ S).bind fun vs S1 => match rdVs S1 vs with
    | some ds => (match rangeD ds with
      | some r => .ok ([], r) S1
      | none => .stuck)
    | none => .stuck
theorem star1 {env : PySem.Env} (h : plainE a = true) : starEach [a] env = [(false, eval a env)] := star_cons (es := []) h
theorem pi_rng (g : Gd X CX E lv c G C) {x : Str} {p : Pos} {ms : Es} (hx : x = "range") (h2 : c.glb x = true) (hp : es.all plainE = true) (hl : es.length = 1 ∨ es.length = 2) (hm : ms.len = es.length) (ha : PA X es (tA X.K X.mg E (evs G C ms))) : PI X tg (.Call (.Name x p) es [] pos) (tJ X.K X.mg E (fRng (evs G C ms))) := by
  subst hx
  have fin : ∀ {σ H R} {P : List V → Hp → Prop}, tJ X.K X.mg E (fRng (evs G C ms)) σ H R → (∀ vs ds r H1 cm1 S1, ds.length = es.length → SR X.K H1 cm1 S1 → Rqs X.K H1 (Lv cm1 S1) vs ds → rangeD ds = some r → (∀ J, WalkD X.K J H1 cm1 S1 [] r → R J H1) → P vs H1) → tA X.K X.mg E (evs G C ms) σ H P := fun {σ H R P} ⟨ρ, cm, S, hs, he, q⟩ hk => by
    refine tG_bind okG.zok hs he q fun vs S1 ws H1 cm1 e0 p z => ?_
    obtain ⟨t, s, vv⟩ := p
    have z := okG.step t z
    cases e1 : rdVs S1 vs with
    | none => rw [e1] at z; exact z.elim
    | some ds =>
      rw [e1] at z
      dsimp only at z
      cases e2 : rangeD ds with
      | none => rw [e2] at z; exact z.elim
      | some r =>
        rw [e2] at z
        have l1 := evs_len ρ ms S S1 vs e0
        have l2 : ∀ {vs : List RV} {ds : List D}, rdVs S1 vs = some ds → ds.length = vs.length := fun {vs} => by
          induction vs with
          | nil => intro ds e; simp [rdVs] at e; subst e; rfl
          | cons v vs ih =>
            intro ds e
            simp only [rdVs, Option.bind_eq_some_iff, Option.map_eq_some_iff] at e
            obtain ⟨d, _, es', e2, rfl⟩ := e
            simp [ih e2]
        exact hk ws ds r H1 cm1 S1 (by rw [l2 e1, l1, hm]) s (rds_ok s vv e1) e2 fun J w => z J H1 cm1 ⟨Tr.refl, s, w⟩
  rcases es with _ | ⟨a, _ | ⟨b, _ | ⟨b', r'⟩⟩⟩
  · simp at hl
  · have hp1 : plainE a = true := by simpa using hp
    refine PI.imp (pi_range1 (g.glb h2) (g.top.blt _ (by decide)) ha (star1 hp1)) fun σ H R h => fin h fun vs ds r H1 cm1 S1 hlen s rq e k => ?_
    match ds, hlen with
    | [d], _ =>
      obtain ⟨v, rfl, hv⟩ := rq.one
      cases d with
      | int j =>
        cases hv.int
        simp only [rangeD] at e
        split at e
        · rename_i hz
          cases e
          exact ⟨j, rfl, by omega, by omega, k _ walkD_range⟩
        · cases e
      | _ => simp [rangeD] at e
  · have hp1 : plainE a = true ∧ plainE b = true := by simpa using hp
    refine PI.imp (pi_range2 (g.glb h2) (g.top.blt _ (by decide)) ha (by rw [star_cons hp1.1, star1 hp1.2]) (star1 hp1.2)) fun σ H R h => fin h fun vs ds r H1 cm1 S1 hlen s rq e k => ?_
    match ds, hlen with
    | [d, d'], _ =>
      obtain ⟨v, w, rfl, hv, hw⟩ := rq.two
      cases d with
      | int i => cases d' with
        | int j =>
          cases hv.int
          cases hw.int
          simp only [rangeD] at e
          split at e
          · rename_i hz
            cases e
            exact ⟨i, j, rfl, by omega, k _ walkD_range⟩
          · cases e
        | _ => simp [rangeD] at e
      | _ => simp [rangeD] at e
  · simp at hl
def fEnum (fa : Rd' RX) : Rd' (List (Nat × List D) × List D) := fun ρ S => (fa ρ S).rv.bind fun v S2 => match v with
    | .d (.lst ds) => .ok ([], enumD 0 ds) S2
    | .d (.tup ds) => .ok ([], enumD 0 ds) S2
    | .c n => (match cellAt S2 n with
      | some ds => .ok ([(n, ds)], enumD 0 ds) S2
      | none => .stuck)
    | _ => .stuck
theorem pi_en (g : Gd X CX E lv c G C) {x : Str} {p tp : Pos} {k : Nat} (hx : x = "enumerate") (h2 : c.glb x = true) (hp : plainE a = true) (ha : PE X a (tX X.K X.mg E fa)) : PI X (.Tuple es k tp) (.Call (.Name x p) [a] [] pos) (tJ X.K X.mg E (fEnum fa)) := by
  subst hx
  have w1 := pi_enum (tpos := tp) (elts := es) (kk := k) (p := p) (pos := pos) (g.glb h2) (g.top.blt _ (by decide)) (pa_cons (pe_rv ha) pa_nil (star_cons hp)) (star1 hp)
  have w2 := pi_enumT (tpos := tp) (elts := es) (kk := k) (p := p) (pos := pos) (g.glb h2) (g.top.blt _ (by decide)) (pa_cons (pe_rv ha) pa_nil (star_cons hp)) (star1 hp)
  refine ⟨fun pins s σ H R I ⟨ρ, cm, S, hs, he, q⟩ => ?_⟩
  unfold fEnum at q
  by_cases ht : ∃ ds S2, (fa ρ S).rv = .ok (.d (.tup ds)) S2
  · obtain ⟨ds, S2, ht⟩ := ht
    refine w2.run pins s σ H R I ⟨ρ, cm, S, hs, he, ?_⟩
    dsimp only at q ⊢
    rw [ht] at q ⊢
    intro v H1 cm1 p
    obtain ⟨t, s1, vx⟩ := p
    have q := okG.step t q
    have rp' : Rp X.K H1 (Lv cm1 S2) v (.tup ds) := vx
    cases rp' with
    | tup f z => exact ⟨_, _, rfl, f, q _ H1 cm1 ⟨Tr.refl, s1, walkD_enumT (tupAt_d s1 vx)⟩⟩
  · refine w1.run pins s σ H R I (tG_bind (f := fun ρ S => (fa ρ S).rv) okG.zok hs he q fun r S1 v H1 cm1 e0 p z => ?_)
    obtain ⟨t, s1, vx⟩ := p
    have z := okG.step t z
    cases r with
    | g i j => exact z.elim
    | r n i => exact z.elim
    | c n =>
      obtain ⟨ad, os, rfl, ha⟩ := vx
      dsimp only at z
      cases e2 : cellAt S1 n with
      | none => rw [e2] at z; exact z.elim
      | some ds =>
        rw [e2] at z
        obtain ⟨vs, h1, h2⟩ := cellAt_ok s1 ha e2
        exact ⟨ad, vs, rfl, .of h1, z _ H1 cm1 ⟨Tr.refl, s1, walkD_enum (lstAt_c ha (by simp))⟩⟩
    | d d =>
      cases d with
      | lst ds =>
        have rp' : Rp X.K H1 (Lv cm1 S1) v (.lst ds) := vx
        cases rp' with
        | lst f q => exact ⟨_, _, rfl, f.sq, z _ H1 cm1 ⟨Tr.refl, s1, walkD_enum (lstAt_d s1 vx)⟩⟩
      | tup ds => exact absurd ⟨ds, S1, e0⟩ ht
      | _ => exact z.elim
def fZip (fa fb : Rd' RX) : Rd' (List (Nat × List D) × List D) := fun ρ S => ((fa ρ S).bind (conv .dat)).bind fun v S2 => ((fb ρ S2).bind (conv .dat)).bind fun w S4 => match v, w with
    | .d (.lst ds), .d (.lst es) => .ok ([], zipD ds es) S4
    | .d (.tup ds), .d (.tup es) => .ok ([], zipD ds es) S4
    | _, _ => .stuck
theorem pi_zp (g : Gd X CX E lv c G C) {x : Str} {p tp : Pos} {k : Nat} (hx : x = "zip") (h2 : c.glb x = true) (hp : plainE a = true) (hp2 : plainE b = true) (ha : PE X a (tX X.K X.mg E fa)) (hb : PE X b (tX X.K X.mg E fb)) : PI X (.Tuple es k tp) (.Call (.Name x p) [a, b] [] pos) (tJ X.K X.mg E (fZip fa fb)) := by
  subst hx
  refine PI.imp (RZ.pi_zipA (g.glb h2) (g.top.blt _ (by decide)) (pa_cons (pe_conv .dat ha) (pa_cons (pe_conv .dat hb) pa_nil (star_cons hp2)) (star_cons hp)) (star_cons hp) (star_any (by simp [hp2]))) fun σ H R ⟨ρ, cm, S, hs, he, q⟩ => ?_
  unfold fZip at q
  refine two_opsG (fa := fun ρ S => (fa ρ S).bind (conv .dat)) (fb := fun ρ S => (fb ρ S).bind (conv .dat)) okG.zok hs he q fun r r2 S1 v w H1 cm1 t s1 vx vy z => ?_
  cases r with
  | c n => exact z.elim
  | g i j => exact z.elim
  | r n i => exact z.elim
  | d d =>
    cases r2 with
    | c n => cases d <;> exact z.elim
    | g n i => cases d <;> exact z.elim
    | r n i => cases d <;> exact z.elim
    | d d2 =>
      cases d with
      | lst ds =>
        cases d2 with
        | lst es =>
          have rp' : Rp X.K H1 (Lv cm1 S1) v (.lst ds) := vx
          have rp2 : Rp X.K H1 (Lv cm1 S1) w (.lst es) := vy
          cases rp' with
          | lst f q => cases rp2 with
            | lst f2 q2 => exact ⟨_, _, _, _, rfl, .inl ⟨f.sq, f2.sq, z _ H1 cm1 ⟨Tr.refl, s1, walkD_zip (lstAt_d s1 vx) (lstAt_d s1 vy)⟩⟩⟩
        | _ => exact z.elim
      | tup ds =>
        cases d2 with
        | tup es =>
          have rp' : Rp X.K H1 (Lv cm1 S1) v (.tup ds) := vx
          have rp2 : Rp X.K H1 (Lv cm1 S1) w (.tup es) := vy
          cases rp' with
          | tup f q => cases rp2 with
            | tup f2 q2 => exact ⟨_, _, _, _, rfl, .inr ⟨f, f2, z _ H1 cm1 ⟨Tr.refl, s1, walkD_zipT (tupAt_d s1 vx) (tupAt_d s1 vy)⟩⟩⟩
        | _ => exact z.elim
      | _ => cases d2 <;> exact z.elim
end
end Rf

set_option Elab.async false
set_option linter.all false
set_option maxRecDepth 100000
set_option maxHeartbeats 1000000
namespace Rf
open PySem PySem.Spec PyProof.Rows L2
section
variable {X : Cx} {CX : CXT} {E : XK} {lv : Nat} {c : Ct} {G : List Mir} {C : List D} {elt iter tgE : Expr} {ifs : List Expr} {scope : Scope} {pos : Pos}
def fTurn (tg : Tg) (own : List Nat) (fc : Rd' Bool) (fe : Rd' RX) (ρ : Rf.Env) : D → Store → Res (Option D) := fun d S => match bindT tg d (wipeE ρ own) with
      | some ρ1 => (fc ρ1 S).bind fun b S2 => if b then (fe ρ1 S2).bind fun x S3 => (asD x S3).bind fun y S4 => .ok (some y) S4 else .ok none S2
      | none => .stuck
def fComp (tg : Tg) (own : List Nat) (fi : Rd' (List (Nat × List D) × List D)) (fc : Rd' Bool) (fe : Rd' RX) : Rd' RX := fun ρ S =>
  (fi ρ S).bind fun p S1 => (compGo p.1 (fTurn tg own fc fe ρ) S1.length p.2 (S1 ++ [.lst []])).nox.bind fun _ S2 => lastL S1.length S2
theorem wipe_wipe (σ : L2.St) (vs : List Nat) : wipe (wipe σ vs) vs = wipe σ vs := by
  apply List.ext_getElem?
  intro j
  rw [wipe_look, wipe_look, wipe_length]
  by_cases hj : j ∈ vs ∧ j < σ.length
  · rw [if_pos hj, if_pos hj]
  · rw [if_neg hj, if_neg hj]
/-- what a comprehension's rest is worth -/
def Zc (K : PySem.W.Frag) (mg : Mg) (E : XK) (Q : VK) (H1 : Hp) (cm1 : List CA) (S1 : Store) : Hp → List CA → Store → Res Unit → Prop :=
  fun _ _ _ r => okG K mg E (PX K) Q H1 cm1 S1 (r.nox.bind fun _ S2 => lastL S1.length S2)
theorem Zc.zok {K : PySem.W.Frag} {mg : Mg} {E E' : XK} {Q : VK} {H1 : Hp} {cm1 : List CA} {S1 : Store} : Zok K mg E' .exc .stuck (Zc K mg E Q H1 cm1 S1) :=
  ⟨fun h => False.elim h, fun h => h, fun _ h => h⟩
theorem pe_comp {tg : Tg} {own : List Nat} {ownL : List (Str × Nat)} {fi : Rd' (List (Nat × List D) × List D)} {fc : Rd' Bool} {fe : Rd' RX} (hc : X.calm = true) (hN : X.N.Nodup) (hi : PI X tgE iter (tJ X.K X.mg E fi)) (ok : BlkOk X.N X.env.scope scope ownL) (ho : ownL.map (·.2) = own) (hto : ∀ i ∈ tg.slots, i ∈ own)
    (hg : ∀ (s : Shared) (H : Hp) (C : Addr) (cl : List (Str × Addr)) (fp : List Addr), PG (X.blk s H scope (compEnvC scope cl C X.env) fp) tgE (gD X.K tg))
    (ht : ∀ (s : Shared) (H : Hp) (C : Addr) (cl : List (Str × Addr)) (fp : List Addr), PTs (X.blk s H scope (compEnvC scope cl C X.env) fp) ifs (tB X.K X.mg E0 fc))
    (he : ∀ (s : Shared) (H : Hp) (C : Addr) (cl : List (Str × Addr)) (fp : List Addr), PE (X.blk s H scope (compEnvC scope cl C X.env) fp) elt (tX X.K X.mg E0 fe)) (hs : ∀ x, foldedSetIterable iter X.env x = pure x) :
    PE X (.ListComp elt [⟨tgE, iter, ifs, 0⟩] scope pos) (tLc (tJ X.K X.mg E fi) (gD X.K tg) (tB X.K X.mg E0 fc) (tD X.K X.mg E0 fun ρ S => (fe ρ S).bind asD) own) := by
  subst ho
  exact pe_lc hc hN hi ok hg ht (fun s H C cl fp => pe_asD (he s H C cl fp)) hs
theorem take_last {α : Type} {xs : List α} {n : Nat} {a : α} (h : xs.length = n + 1) (e : xs[n]? = some a) : xs = xs.take n ++ [a] := by
  have h2 : xs.drop n = [a] := by
    rw [List.drop_eq_getElem_cons (by omega)]
    have e1 : xs[n]'(by omega) = a := by
      rw [List.getElem?_eq_getElem (by omega)] at e
      exact Option.some.inj e
    rw [e1, List.drop_eq_nil_of_le (by omega)]
  rw [← h2, List.take_append_drop]
theorem take_last2 {α : Type} {xs : List α} {n : Nat} {a : α} (e : xs[n]? = some a) : xs.take (n + 1) = xs.take n ++ [a] := by
  rw [List.take_succ, e]; rfl
theorem rd_comp {K : PySem.W.Frag} {mg : Mg} {tg : Tg} {own : List Nat} {fi : Rd' (List (Nat × List D) × List D)} {fc : Rd' Bool} {fe : Rd' RX} (hto : ∀ i ∈ tg.slots, i ∈ own) {σ : L2.St} {H : Hp} {Q : VK} (h : tX K mg E (fComp tg own fi fc fe) σ H Q) :
    tLc (tJ K mg E fi) (gD K tg) (tB K mg E0 fc) (tD K mg E0 fun ρ S => (fe ρ S).bind asD) own σ H Q := by
  obtain ⟨ρ, cm, S, hs, he, q⟩ := h
  unfold fComp at q
  refine tG_bind okG.zok hs he q fun p S1 J H1 cm1 _ pj z => ?_
  obtain ⟨t1, s1, wk⟩ := pj
  have z := okG.step t1 z
  intro Da hD
  obtain ⟨s2, t2⟩ := fr_mk (vs := []) (ds := []) s1 hD .nil
  have hnD : (cm1 ++ [((Da, []) : CA)])[S1.length]? = some (Da, []) := by rw [← s1.len]; simp
  have atD : ∀ {H cm S}, Tr (upd H1 Da (.lst [])) (cm1 ++ [(Da, [])]) (S1 ++ [.lst []]) H cm S → ∃ os, cm[S1.length]? = some (Da, os) := fun {H cm S} t => by
    obtain ⟨m, e⟩ := t.pre _ _ _ hnD
    exact ⟨_, e⟩
  have he2 : ∀ {H cm S}, Tr (upd H1 Da (.lst [])) (cm1 ++ [(Da, [])]) (S1 ++ [.lst []]) H cm S → ER K H cm S ρ σ := fun {H cm S} t => (he.mono t1 hs).mono (t2.trans t) s1
  let Nx : Nat → Hp → Prop := fun i H => ∃ cm S, SR K H cm S ∧ Tr (upd H1 Da (.lst [])) (cm1 ++ [(Da, [])]) (S1 ++ [.lst []]) H cm S ∧ Zc K mg E Q H1 cm1 S1 H cm S (compGo p.1 (fTurn tg own fc fe ρ) S1.length (p.2.drop i) S)
  refine ⟨fun i m H => m = p.2.length - i ∧ i ≤ p.2.length ∧ Nx i H, ⟨p.2.length, by simp, Nat.zero_le _, cm1 ++ [(Da, [])], S1 ++ [.lst []], s2, Tr.refl, by rw [List.drop_zero]; exact z⟩, ?_⟩
  rintro i m H' ⟨rfl, hle, cm', S', s', t', z'⟩
  by_cases hi : i < p.2.length
  · have ed : p.2.drop i = p.2[i] :: p.2.drop (i + 1) := List.drop_eq_getElem_cons hi
    rw [ed] at z'
    unfold compGo at z'
    by_cases so : srcOk p.1 S' = true
    · rw [if_pos so] at z'
      refine .inr ⟨wk.goes (t2.trans t') s' so i hi, Nx (i + 1), fun H3 n3 => ⟨p.2.length - (i + 1), by omega, rfl, hi, n3⟩, fun x H3 y => ?_⟩
      obtain ⟨d, e1, t3, s3, rp⟩ := wk.yld (t2.trans t') s' so i x H3 hi y
      have e2 : d = p.2[i] := by
        rw [List.getElem?_eq_getElem hi] at e1
        exact (Option.some.inj e1).symm
      subst e2
      have t3' := t'.trans t3
      cases eb : bindT tg p.2[i] (wipeE ρ own) with
      | none =>
        have : fTurn tg own fc fe ρ p.2[i] S' = .stuck := by unfold fTurn; rw [eb]
        rw [this] at z'
        exact z'.elim
      | some ρ1 =>
        have et : fTurn tg own fc fe ρ p.2[i] S' = (fc ρ1 S').bind fun b S2 => if b then (fe ρ1 S2).bind fun x S3 => (asD x S3).bind fun y S4 => .ok (some y) S4 else .ok none S2 := by unfold fTurn; rw [eb]
        rw [et, bind_bind] at z'
        refine ⟨wipeE ρ own, cm', S', p.2[i], ρ1, s3, (he2 t3').wipe own, rp, eb, fun σ1 e1 hw => ⟨by rw [hw own hto, wipe_wipe], ?_⟩⟩
        refine tG_bind (Zc.zok (K := K) (mg := mg)) s3 e1 z' fun b S4 b' H4 cm4 _ p4 z4 => ?_
        obtain ⟨t4, s4, eb2⟩ := p4
        subst eb2
        have t4' := t3'.trans t4
        cases b' with
        | false => exact ⟨cm4, S4, s4, t4', z4⟩
        | true =>
          simp only [if_true] at z4 ⊢
          have z4 : Zc K mg E Q H1 cm1 S1 H4 cm4 S4 (((fe ρ1 S4).bind asD).bind fun y S5 => match S5[S1.length]? with
              | some (.lst acc) => if acc.length < line then compGo p.1 (fTurn tg own fc fe ρ) S1.length (p.2.drop (i + 1)) ((S5.set S1.length (.lst (acc ++ [y]))).take (S1.length + 1)) else .stuck
              | _ => .stuck) := by
            have e9 : ∀ {r : Res RX} {k : Option D → Store → Res Unit}, (r.bind fun x S3 => (asD x S3).bind fun y S4 => .ok (some y) S4).bind k = (r.bind asD).bind fun y S5 => k (some y) S5 := fun {r k} => by
              cases r with
              | ok a S => simp only [Res.bind_ok]; cases asD a S <;> rfl
              | _ => rfl
            rw [e9] at z4
            exact z4
          refine tG_bind (f := fun ρ S => (fe ρ S).bind asD) (Zc.zok (K := K) (mg := mg)) s4 (e1.mono t4 s3) z4 fun y S5 v H5 cm5 _ p5 z5 => ?_
          obtain ⟨t5, s5, r5⟩ := p5
          have t5' := t4'.trans t5
          obtain ⟨os5, a5⟩ := atD t5'
          cases e6 : S5[S1.length]? with
          | none => rw [e6] at z5; exact z5.elim
          | some cl => cases cl with
            | fz ds => rw [e6] at z5; exact z5.elim
            | mx ds => rw [e6] at z5; exact z5.elim
            | lst acc =>
              rw [e6] at z5
              dsimp only at z5
              obtain ⟨ws, h6, r6⟩ := s5.okL a5 e6
              split at z5
              · rename_i hl
                have sr6 := wr_sr s5 a5 e6 (r6.append (.cons r5 .nil))
                have t6 := t5'.trans (wr_tr (es := acc ++ [y]) s5 a5 e6 (.lst (ws ++ [v])))
                exact ⟨ws, h6, by rw [r6.length, ← line_eq]; exact hl, cm5.take (S1.length + 1), _, (sub_take sr6 (S1.length + 1)).sr sr6, (sub_take sr6 (S1.length + 1)).tr t6 (t6.pre.take (by simp [s1.len])), z5⟩
              · exact z5.elim
    · rw [if_neg so] at z'; exact z'.elim
  · have ei : i = p.2.length := by omega
    subst ei
    rw [List.drop_length] at z'
    unfold compGo at z'
    by_cases so : srcOk p.1 S' = true
    · rw [if_pos so] at z'
      refine .inl ⟨wk.stop (t2.trans t') s' so, ?_⟩
      have z9 : okG K mg E (PX K) Q H1 cm1 S1 (lastL S1.length S') := z'
      unfold lastL at z9
      by_cases hl : S1.length < S'.length
      · rw [if_pos hl] at z9
        cases e6 : S'[S1.length]? with
        | none => rw [e6] at z9; exact z9.elim
        | some cl => cases cl with
          | fz ds => rw [e6] at z9; exact z9.elim
          | mx ds => rw [e6] at z9; exact z9.elim
          | lst ds =>
            rw [e6] at z9
            have eS := take_last2 e6
            obtain ⟨osD, eD⟩ := atD t'
            obtain ⟨_, _, ho, _⟩ := s'.ok _ _ _ _ eD e6
            subst ho
            have ec := take_last2 eD
            have pre : Pre cm1 (cm'.take S1.length) := ((t2.trans t').pre).take (Nat.le_of_eq s1.len)
            refine z9 _ _ (cm'.take S1.length) ⟨Da, rfl, pre, ?_, ?_⟩
            · rw [← eS, ← ec]; exact (sub_take s' (S1.length + 1)).tr (t2.trans t') (((t2.trans t').pre).take (by rw [s1.len]; omega))
            · rw [← eS, ← ec]; exact (sub_take s' (S1.length + 1)).sr s'
      · rw [if_neg hl] at z9; exact z9.elim
    · rw [if_neg so] at z'; exact z'.elim
def fTurnx (tg : Tg) (own : List Nat) (fc : Rd' Bool) (fe : Rd' RX) (ρ : Rf.Env) : D → Store → Res (Option MX) := fun d S => match bindT tg d (wipeE ρ own) with
      | some ρ1 => (fc ρ1 S).bind fun b S2 => if b then (fe ρ1 S2).bind fun x S3 => (asX x S3).bind fun y S4 => .ok (some y) S4 else .ok none S2
      | none => .stuck
def fCompx (tg : Tg) (own : List Nat) (fi : Rd' (List (Nat × List D) × List D)) (fc : Rd' Bool) (fe : Rd' RX) : Rd' RX := fun ρ S =>
  (fi ρ S).bind fun p S1 => (compGx p.1 (fTurnx tg own fc fe ρ) S1.length p.2 (S1 ++ [.mx []])).nox.bind fun _ S2 => lastX S1.length S2
def Zx (K : PySem.W.Frag) (mg : Mg) (E : XK) (Q : VK) (H1 : Hp) (cm1 : List CA) (S1 : Store) : Hp → List CA → Store → Res Unit → Prop :=
  fun _ _ _ r => okG K mg E (PX K) Q H1 cm1 S1 (r.nox.bind fun _ S2 => lastX S1.length S2)
theorem Zx.zok {K : PySem.W.Frag} {mg : Mg} {E E' : XK} {Q : VK} {H1 : Hp} {cm1 : List CA} {S1 : Store} : Zok K mg E' .exc .stuck (Zx K mg E Q H1 cm1 S1) :=
  ⟨fun h => False.elim h, fun h => h, fun _ h => h⟩
theorem pe_compx {tg : Tg} {own : List Nat} {ownL : List (Str × Nat)} {fi : Rd' (List (Nat × List D) × List D)} {fc : Rd' Bool} {fe : Rd' RX} (hc : X.calm = true) (hN : X.N.Nodup) (hi : PI X tgE iter (tJ X.K X.mg E fi)) (ok : BlkOk X.N X.env.scope scope ownL) (ho : ownL.map (·.2) = own)
    (hg : ∀ (s : Shared) (H : Hp) (C : Addr) (cl : List (Str × Addr)) (fp : List Addr), PG (X.blk s H scope (compEnvC scope cl C X.env) fp) tgE (gD X.K tg))
    (ht : ∀ (s : Shared) (H : Hp) (C : Addr) (cl : List (Str × Addr)) (fp : List Addr), PTs (X.blk s H scope (compEnvC scope cl C X.env) fp) ifs (tB X.K X.mg E0 fc))
    (he : ∀ (s : Shared) (H : Hp) (C : Addr) (cl : List (Str × Addr)) (fp : List Addr), PE (X.blk s H scope (compEnvC scope cl C X.env) fp) elt (tX X.K X.mg E0 fe)) (hs : ∀ x, foldedSetIterable iter X.env x = pure x) :
    PE X (.ListComp elt [⟨tgE, iter, ifs, 0⟩] scope pos) (tLc (tJ X.K X.mg E fi) (gD X.K tg) (tB X.K X.mg E0 fc) (tX X.K X.mg E0 fe) own) := by
  subst ho
  exact pe_lc hc hN hi ok hg ht he hs
theorem rd_compx {K : PySem.W.Frag} {mg : Mg} {tg : Tg} {own : List Nat} {fi : Rd' (List (Nat × List D) × List D)} {fc : Rd' Bool} {fe : Rd' RX} (hto : ∀ i ∈ tg.slots, i ∈ own) {σ : L2.St} {H : Hp} {Q : VK} (h : tX K mg E (fCompx tg own fi fc fe) σ H Q) :
    tLc (tJ K mg E fi) (gD K tg) (tB K mg E0 fc) (tX K mg E0 fe) own σ H Q := by
  obtain ⟨ρ, cm, S, hs, he, q⟩ := h
  unfold fCompx at q
  refine tG_bind okG.zok hs he q fun p S1 J H1 cm1 _ pj z => ?_
  obtain ⟨t1, s1, wk⟩ := pj
  have z := okG.step t1 z
  intro Da hD
  obtain ⟨s2, t2⟩ := fr_mkC (p := Da) (vs := []) (cc := .mx []) (os := []) (by simp) rfl s1 hD .nil
  have hnD : (cm1 ++ [((Da, []) : CA)])[S1.length]? = some (Da, []) := by rw [← s1.len]; simp
  have atD : ∀ {H cm S}, Tr (upd H1 Da (.lst [])) (cm1 ++ [(Da, [])]) (S1 ++ [.mx []]) H cm S → ∃ os, cm[S1.length]? = some (Da, os) := fun {H cm S} t => by
    obtain ⟨m, e⟩ := t.pre _ _ _ hnD
    exact ⟨_, e⟩
  have he2 : ∀ {H cm S}, Tr (upd H1 Da (.lst [])) (cm1 ++ [(Da, [])]) (S1 ++ [.mx []]) H cm S → ER K H cm S ρ σ := fun {H cm S} t => (he.mono t1 hs).mono (t2.trans t) s1
  let Nx : Nat → Hp → Prop := fun i H => ∃ cm S, SR K H cm S ∧ Tr (upd H1 Da (.lst [])) (cm1 ++ [(Da, [])]) (S1 ++ [.mx []]) H cm S ∧ Zx K mg E Q H1 cm1 S1 H cm S (compGx p.1 (fTurnx tg own fc fe ρ) S1.length (p.2.drop i) S)
  refine ⟨fun i m H => m = p.2.length - i ∧ i ≤ p.2.length ∧ Nx i H, ⟨p.2.length, by simp, Nat.zero_le _, cm1 ++ [(Da, [])], S1 ++ [.mx []], s2, Tr.refl, by rw [List.drop_zero]; exact z⟩, ?_⟩
  rintro i m H' ⟨rfl, hle, cm', S', s', t', z'⟩
  by_cases hi : i < p.2.length
  · have ed : p.2.drop i = p.2[i] :: p.2.drop (i + 1) := List.drop_eq_getElem_cons hi
    rw [ed] at z'
    unfold compGx at z'
    by_cases so : srcOk p.1 S' = true
    · rw [if_pos so] at z'
      refine .inr ⟨wk.goes (t2.trans t') s' so i hi, Nx (i + 1), fun H3 n3 => ⟨p.2.length - (i + 1), by omega, rfl, hi, n3⟩, fun x H3 y => ?_⟩
      obtain ⟨d, e1, t3, s3, rp⟩ := wk.yld (t2.trans t') s' so i x H3 hi y
      have e2 : d = p.2[i] := by
        rw [List.getElem?_eq_getElem hi] at e1
        exact (Option.some.inj e1).symm
      subst e2
      have t3' := t'.trans t3
      cases eb : bindT tg p.2[i] (wipeE ρ own) with
      | none =>
        have : fTurnx tg own fc fe ρ p.2[i] S' = .stuck := by unfold fTurnx; rw [eb]
        rw [this] at z'
        exact z'.elim
      | some ρ1 =>
        have et : fTurnx tg own fc fe ρ p.2[i] S' = (fc ρ1 S').bind fun b S2 => if b then (fe ρ1 S2).bind fun x S3 => (asX x S3).bind fun y S4 => .ok (some y) S4 else .ok none S2 := by unfold fTurnx; rw [eb]
        rw [et, bind_bind] at z'
        refine ⟨wipeE ρ own, cm', S', p.2[i], ρ1, s3, (he2 t3').wipe own, rp, eb, fun σ1 e1 hw => ⟨by rw [hw own hto, wipe_wipe], ?_⟩⟩
        refine tG_bind (Zx.zok (K := K) (mg := mg)) s3 e1 z' fun b S4 b' H4 cm4 _ p4 z4 => ?_
        obtain ⟨t4, s4, eb2⟩ := p4
        subst eb2
        have t4' := t3'.trans t4
        cases b' with
        | false => exact ⟨cm4, S4, s4, t4', z4⟩
        | true =>
          simp only [if_true] at z4 ⊢
          have z4 : Zx K mg E Q H1 cm1 S1 H4 cm4 S4 ((fe ρ1 S4).bind fun x S5 => (asX x S5).bind fun y S6 => match S6[S1.length]? with
              | some (.mx acc) => if acc.length < line then compGx p.1 (fTurnx tg own fc fe ρ) S1.length (p.2.drop (i + 1)) (S6.set S1.length (.mx (acc ++ [y]))) else .stuck
              | _ => .stuck) := by
            have e9 : ∀ {r : Res RX} {k : Option MX → Store → Res Unit}, (r.bind fun x S3 => (asX x S3).bind fun y S4 => .ok (some y) S4).bind k = r.bind fun x S5 => (asX x S5).bind fun y S6 => k (some y) S6 := fun {r k} => by
              cases r with
              | ok a S => simp only [Res.bind_ok]; cases asX a S <;> rfl
              | _ => rfl
            rw [e9] at z4
            exact z4
          refine tG_bind (f := fe) (Zx.zok (K := K) (mg := mg)) s4 (e1.mono t4 s3) z4 fun x5 S5 v H5 cm5 _ p5 z5 => ?_
          have fin : ∀ (y : MX) (S6 : Store) (cm6 : List CA) (H6 : Hp) (os7 : List (Option Addr)) (acc : List MX), Zx K mg E Q H1 cm1 S1 H4 cm4 S4 (match S6[S1.length]? with
              | some (.mx acc) => if acc.length < line then compGx p.1 (fTurnx tg own fc fe ρ) S1.length (p.2.drop (i + 1)) (S6.set S1.length (.mx (acc ++ [y]))) else .stuck
              | _ => .stuck) → S6[S1.length]? = some (.mx acc) → (∃ ws, H6 Da = some (.lst ws) ∧ ws.length = acc.length ∧ SR K (upd H6 Da (.lst (ws ++ [v]))) (cm6.set S1.length (Da, os7)) (S6.set S1.length (.mx (acc ++ [y]))) ∧ Tr (upd H1 Da (.lst [])) (cm1 ++ [(Da, [])]) (S1 ++ [.mx []]) (upd H6 Da (.lst (ws ++ [v]))) (cm6.set S1.length (Da, os7)) (S6.set S1.length (.mx (acc ++ [y])))) →
              ∃ acc, H6 Da = some (.lst acc) ∧ acc.length < sizeLine ∧ Nx (i + 1) (upd H6 Da (.lst (acc ++ [v]))) := fun y S6 cm6 H6 os7 acc z6 e6 ⟨ws, h6, hl6, s6, t6⟩ => by
            rw [e6] at z6
            dsimp only at z6
            split at z6
            · rename_i hl
              exact ⟨ws, h6, by rw [hl6, ← line_eq]; exact hl, _, _, s6, t6, z6⟩
            · exact z6.elim
          have mxAtS : ∀ {S6 : Store} {y : MX}, Zx K mg E Q H1 cm1 S1 H4 cm4 S4 (match S6[S1.length]? with
              | some (.mx acc) => if acc.length < line then compGx p.1 (fTurnx tg own fc fe ρ) S1.length (p.2.drop (i + 1)) (S6.set S1.length (.mx (acc ++ [y]))) else .stuck
              | _ => .stuck) → ∃ acc, S6[S1.length]? = some (.mx acc) := fun {S6 y} z => by
            cases e6 : S6[S1.length]? with
            | none => rw [e6] at z; exact z.elim
            | some cl => cases cl with
              | mx acc => exact ⟨acc, rfl⟩
              | _ => rw [e6] at z; exact z.elim
          have gen : ∀ (r : RX), PX K H4 cm4 S4 v r H5 cm5 S5 → Zx K mg E Q H1 cm1 S1 H4 cm4 S4 (((asD r S5).bind fun d S1 => .ok (.a d) S1).bind fun y S6 => match S6[S1.length]? with
              | some (.mx acc) => if acc.length < line then compGx p.1 (fTurnx tg own fc fe ρ) S1.length (p.2.drop (i + 1)) (S6.set S1.length (.mx (acc ++ [y]))) else .stuck
              | _ => .stuck) → ∃ acc, H5 Da = some (.lst acc) ∧ acc.length < sizeLine ∧ Nx (i + 1) (upd H5 Da (.lst (acc ++ [v]))) := fun r pr zr => by
            unfold asD at zr
            cases ec : conv .dat r S5 with
            | exc x S6 => exact absurd ec conv_noexc
            | stuck => rw [ec] at zr; exact zr.elim
            | ok rv S6 =>
              rw [ec] at zr
              obtain ⟨cm6, t6, s6, v6⟩ := pr.conv s4 ec
              cases rv with
              | d d =>
                simp only [Res.bind_ok] at zr
                obtain ⟨acc, e6⟩ := mxAtS zr
                have t6' := t4'.trans t6
                obtain ⟨os6, a6⟩ := atD t6'
                obtain ⟨ws, h6, q6⟩ := s6.okM a6 e6
                exact fin _ _ cm6 H5 (os6 ++ [none]) acc zr e6 ⟨ws, h6, q6.length.1, adda_sr s6 a6 e6 h6 v6, t6'.trans (adda_tr s6 a6 e6 _)⟩
              | _ => exact zr.elim
          cases x5 with
          | f ds =>
            obtain ⟨pp, rfl, pre5, t5, s5⟩ := p5
            have z5 : Zx K mg E Q H1 cm1 S1 H4 cm4 S4 (match S5[S1.length]? with
              | some (.mx acc) => if acc.length < line then compGx p.1 (fTurnx tg own fc fe ρ) S1.length (p.2.drop (i + 1)) (S5.set S1.length (.mx (acc ++ [.l ds]))) else .stuck
              | _ => .stuck) := z5
            obtain ⟨acc, e6⟩ := mxAtS z5
            have pre6 : Pre (cm1 ++ [(Da, [])]) cm5 := t4'.pre.trans pre5
            obtain ⟨os6, a6⟩ := pre6 _ _ _ hnD
            have n6 := (List.getElem?_eq_some_iff.mp a6).1
            have n7 := (List.getElem?_eq_some_iff.mp e6).1
            obtain ⟨ws, h6, q6⟩ := s5.okM (n := S1.length) (by rw [List.getElem?_append_left n6]; exact a6) (by rw [List.getElem?_append_left n7]; exact e6)
            exact fin _ _ cm5 H5 _ acc z5 e6 ⟨ws, h6, q6.length.1, addrow_sr s5 a6 e6 h6, addrow_tr (fr_len s5) a6 e6 _ (t4'.trans t5) pre6⟩
          | d d => exact gen _ p5 z5
          | c n => exact gen _ p5 z5
          | fm n => exact gen _ p5 z5
          | g n m => exact gen _ p5 z5
          | r n m => exact gen _ p5 z5
          | tc _ n => exact gen _ p5 z5
          | tf _ n => exact gen _ p5 z5
    · rw [if_neg so] at z'; exact z'.elim
  · have ei : i = p.2.length := by omega
    subst ei
    rw [List.drop_length] at z'
    unfold compGx at z'
    by_cases so : srcOk p.1 S' = true
    · rw [if_pos so] at z'
      refine .inl ⟨wk.stop (t2.trans t') s' so, ?_⟩
      have z9 : okG K mg E (PX K) Q H1 cm1 S1 (lastX S1.length S') := z'
      unfold lastX at z9
      by_cases hl : S1.length < S'.length
      · rw [if_pos hl] at z9
        cases e6 : S'[S1.length]? with
        | none => rw [e6] at z9; exact z9.elim
        | some cl => cases cl with
          | fz ds => rw [e6] at z9; exact z9.elim
          | lst ds => rw [e6] at z9; exact z9.elim
          | mx ds =>
            rw [e6] at z9
            have eS := take_last2 e6
            obtain ⟨osD, eD⟩ := atD t'
            have ec := take_last2 eD
            have pre : Pre cm1 (cm'.take S1.length) := ((t2.trans t').pre).take (Nat.le_of_eq s1.len)
            refine z9 _ _ (cm'.take S1.length) ⟨Da, osD, rfl, pre, ?_, ?_⟩
            · rw [← eS, ← ec]; exact (sub_take s' (S1.length + 1)).tr (t2.trans t') (((t2.trans t').pre).take (by rw [s1.len]; omega))
            · rw [← eS, ← ec]; exact (sub_take s' (S1.length + 1)).sr s'
      · rw [if_neg hl] at z9; exact z9.elim
    · rw [if_neg so] at z'; exact z'.elim
end
end Rf

set_option Elab.async false
set_option linter.all false
set_option maxRecDepth 100000
set_option maxHeartbeats 1000000
namespace Rf
open PySem PySem.Spec PyProof.Rows L2
section
variable {X : Cx} {CX : CXT} {E : XK} {lv : Nat} {c : Ct} {G : List Mir} {C : List D} {a b d e : Expr} {fa fb : Rd' RX} {pos : Pos} {es : List Expr}
/-! ranges as values -/
theorem cr_rangeV : CallR X (.type "range") (fun vs H Q => ∃ i j, (vs = [V.int i, V.int j] ∨ (vs = [V.int j] ∧ i = 0)) ∧ ∀ p, H p = none → Q (.ref p) (upd H p (.rng i j))) := by
  intro pins s σ H vs us Q I r h
  obtain ⟨i, j, h, q⟩ := h
  rcases h with rfl | ⟨rfl, rfl⟩
  · obtain ⟨u1, u2, rfl, ri, rj⟩ := vals2 r
    obtain ⟨t, rfl⟩ := ri
    obtain ⟨u, rfl⟩ := rj
    refine call_range_2 ⟨.ref s.heap.objs.size, upd H s.heap.objs.size (.rng i j), I.laid (t' := s.toks + 1) (fun b o e => Heap.get?_push_of_some _ e) (Nat.le_refl _) ?_, rfl, q _ (I.hok.fresh (Nat.le_refl _))⟩
    exact ⟨t, u, s.toks, Heap.get?_push_size _ rfl⟩
  · obtain ⟨u1, rfl, rj⟩ := vals1 r
    obtain ⟨u, rfl⟩ := rj
    refine call_range_1 ⟨.ref s.heap.objs.size, upd H s.heap.objs.size (.rng 0 j), I.laid (t' := s.toks + 1 + 1) (fun b o e => Heap.get?_push_of_some _ e) (Nat.le_refl _) ?_, rfl, q _ (I.hok.fresh (Nat.le_refl _))⟩
    exact ⟨s.toks, u, s.toks + 1, Heap.get?_push_size _ rfl⟩
theorem rdVs_len {S : Store} : ∀ {vs : List RV} {ds : List D}, rdVs S vs = some ds → ds.length = vs.length
  | [], ds, e => by simp [rdVs] at e; subst e; rfl
  | v :: vs, ds, e => by
    simp only [rdVs, Option.bind_eq_some_iff, Option.map_eq_some_iff] at e
    obtain ⟨d, _, es', e2, rfl⟩ := e
    simp [rdVs_len e2]
def fRngv (fs : Rd' (List RV)) : Rd' RX := fun ρ S => (fs ρ S).bind fun vs S1 => match rdVs S1 vs with
    | some [.int i, .int j] => .ok (.g i j) S1
    | some [.int j] => .ok (.g 0 j) S1
    | _ => .stuck
theorem pe_rngv (g : Gd X CX E lv c G C) {x : Str} {p : Pos} {fs : Rd' (List RV)} (hx : x = "range") (h2 : c.glb x = true) (ha : PA X (a :: es) (tA X.K X.mg E fs)) (h4 : (a :: es).all plainE = true) : PE X (.Call (.Name x p) (a :: es) [] pos) (tX X.K X.mg E (fRngv fs)) := by
  have h4' := h4
  rw [List.all_cons, Bool.and_eq_true] at h4'
  refine PE.imp (pe_callTy (T := "range") cr_rangeV (g.glb h2) (g.top.blt x (by subst hx; decide)) (by subst hx; decide +kernel) ha (by subst hx; decide) (by subst hx; decide) (star_cons h4'.1) (star_any h4'.2)) fun σ H Q ⟨ρ, cm, S, hs, he, q⟩ => tG_bind (f := fs) okG.zok hs he q fun vs S1 ws H1 cm1 _ p z => ?_
  obtain ⟨t, s, vv⟩ := p
  have z := okG.step t z
  have fin : ∀ {i j : Int}, okG X.K X.mg E (PX X.K) Q H1 cm1 S1 (.ok (.g i j) S1) → ∀ p, H1 p = none → Q (.ref p) (upd H1 p (.rng i j)) := fun {i j} z p hp => z _ _ cm1 ⟨Tr.new s hp, s.new hp, p, rfl, upd_same⟩
  cases e1 : rdVs S1 vs with
  | none => rw [e1] at z; exact z.elim
  | some ds =>
    rw [e1] at z
    have rq := rds_ok s vv e1
    match ds, rq, z with
    | [.int i, .int j], rq, z =>
      obtain ⟨v, w, rfl, hv, hw⟩ := rq.two
      exact ⟨i, j, .inl (by rw [hv.int, hw.int]), fin z⟩
    | [.int j], rq, z =>
      obtain ⟨v, rfl, hv⟩ := rq.one
      exact ⟨0, j, .inr ⟨by rw [hv.int], rfl⟩, fin z⟩
    | [], rq, z => exact z.elim
    | [.non], rq, z => exact z.elim
    | [.bl _], rq, z => exact z.elim
    | [.str _], rq, z => exact z.elim
    | [.tup _], rq, z => exact z.elim
    | [.lst _], rq, z => exact z.elim
    | [.non, _], rq, z => exact z.elim
    | [.bl _, _], rq, z => exact z.elim
    | [.str _, _], rq, z => exact z.elim
    | [.tup _, _], rq, z => exact z.elim
    | [.lst _, _], rq, z => exact z.elim
    | [.int _, .non], rq, z => exact z.elim
    | [.int _, .bl _], rq, z => exact z.elim
    | [.int _, .str _], rq, z => exact z.elim
    | [.int _, .tup _], rq, z => exact z.elim
    | [.int _, .lst _], rq, z => exact z.elim
    | .int _ :: .int _ :: _ :: _, rq, z => exact z.elim
    | .int _ :: .non :: _ :: _, rq, z => exact z.elim
    | .int _ :: .bl _ :: _ :: _, rq, z => exact z.elim
    | .int _ :: .str _ :: _ :: _, rq, z => exact z.elim
    | .int _ :: .tup _ :: _ :: _, rq, z => exact z.elim
    | .int _ :: .lst _ :: _ :: _, rq, z => exact z.elim
    | .non :: _ :: _ :: _, rq, z => exact z.elim
    | .bl _ :: _ :: _ :: _, rq, z => exact z.elim
    | .str _ :: _ :: _ :: _, rq, z => exact z.elim
    | .tup _ :: _ :: _ :: _, rq, z => exact z.elim
    | .lst _ :: _ :: _ :: _, rq, z => exact z.elim
def fLrng (fs : Rd' (List RV)) : Rd' RX := fun ρ S => (fs ρ S).bind fun vs S1 => match rdVs S1 vs with
    | some ds => (match rangeD ds with
      | some r => if r.length ≤ line then .ok (.f r) S1 else .stuck
      | none => .stuck)
    | none => .stuck
def fTrng (fs : Rd' (List RV)) : Rd' RX := fun ρ S => (fs ρ S).bind fun vs S1 => match rdVs S1 vs with
    | some ds => (match rangeD ds with
      | some r => if r.length ≤ line then .ok (.d (.tup r)) S1 else .stuck
      | none => .stuck)
    | none => .stuck
theorem rps_rng {K : PySem.W.Frag} {H : Hp} {L : Addr → Prop} (i j : Int) : Rps K H L (rgV i j) (rngD i (j - i).toNat) := by
  unfold rgV rngD
  generalize List.range (j - i).toNat = l
  induction l with
  | nil => exact .nil
  | cons x l ih => exact .cons (.int _) ih
theorem pe_lrng (g : Gd X CX E lv c G C) {x y : Str} {p p2 pos2 : Pos} {ms : Es} (hy : y = "list") (h1 : c.glb y = true) (hx : x = "range") (h2 : c.glb x = true) (hp : es.all plainE = true) (hl : es.length = 1 ∨ es.length = 2) (hm : ms.len = es.length) 
    (h1' : ∀ a, es = [a] → ∃ md m, ms = .cons md m .nil ∧ PE X a (tX X.K X.mg E (ev G C m))) (h2' : ∀ a b, es = [a, b] → ∃ md m md' m', ms = .cons md m (.cons md' m' .nil) ∧ PE X a (tX X.K X.mg E (ev G C m)) ∧ PE X b (tX X.K X.mg E (ev G C m'))) :
    PE X (.Call (.Name y p2) [.Call (.Name x p) es [] pos2] [] pos) (tX X.K X.mg E (fLrng (evs G C ms))) := by
  subst hx hy
  rcases es with _ | ⟨a, _ | ⟨b, _ | ⟨b', r'⟩⟩⟩
  · simp at hl
  · obtain ⟨md, m, rfl, pa⟩ := h1' a rfl
    have hp1 : plainE a = true := by simpa using hp
    refine PE.imp (pe_listRg g.calm (g.glb h1) (g.top.blt _ (by decide)) (prg_1 (g.glb h2) (g.top.blt _ (by decide)) (pe_conv md pa) (star_cons (es := []) hp1))) fun σ H Q ⟨ρ, cm, S, hs, he, q⟩ => ?_
    unfold fLrng at q
    have ee : ∀ ρ S, evs G C (.cons md m .nil) ρ S = ((ev G C m ρ S).bind (conv md)).bind fun v S2 => .ok [v] S2 := fun ρ S => by
      simp only [evs]
      cases ev G C m ρ S <;> rfl
    rw [ee, bind_bind] at q
    refine tG_bind (f := fun ρ S => (ev G C m ρ S).bind (conv md)) okG.zok hs he q fun v S1 w H1 cm1 _ p z => ?_
    obtain ⟨t, s, vv⟩ := p
    have z := okG.step t z
    simp only [Res.bind_ok, rdVs] at z
    cases e1 : rdV S1 v with
    | none => simp only [e1, Option.bind_none] at z; exact z.elim
    | some d =>
      simp only [e1, Option.bind_some, Option.map_some] at z
      have rq := rd_ok s vv e1
      cases d with
      | int j =>
        refine ⟨j, rq.int, ?_⟩
        simp only [rangeD] at z
        split at z
        · rename_i r hz
          split at hz
          · cases hz
            split at z
            · rename_i hl2
              have h9 : j.toNat ≤ line := by simpa [rngD] using hl2
              refine ⟨⟨by omega, by omega, by omega, by omega, by simp only [line] at h9; omega⟩, fun q hq => z _ _ cm1 (mkF s hq ?_)⟩
              have := rps_rng (K := X.K) (H := H1) (L := Lv cm1 S1) 0 j
              simpa using this
            · exact z.elim
          · cases hz
        · exact z.elim
      | _ => exact z.elim
  · obtain ⟨md, m, md', m', rfl, pa, pb⟩ := h2' a b rfl
    have hp1 : plainE a = true ∧ plainE b = true := by simpa using hp
    refine PE.imp (pe_listRg g.calm (g.glb h1) (g.top.blt _ (by decide)) (prg_2 (g.glb h2) (g.top.blt _ (by decide)) (pe_conv md pa) (pe_conv md' pb) (star_cons hp1.1) (star_cons (es := []) hp1.2) (star_any (by simp [hp1.2])))) fun σ H Q ⟨ρ, cm, S, hs, he, q⟩ => ?_
    unfold fLrng at q
    have ee : ∀ ρ S, evs G C (.cons md m (.cons md' m' .nil)) ρ S = ((ev G C m ρ S).bind (conv md)).bind fun v S2 => ((ev G C m' ρ S2).bind (conv md')).bind fun w S3 => .ok [v, w] S3 := fun ρ S => by
      simp only [evs]
      cases ev G C m ρ S with
      | ok a S1 =>
        simp only [Res.bind_ok]
        cases conv md a S1 with
        | ok v S2 =>
          simp only [Res.bind_ok]
          cases ev G C m' ρ S2 with
          | ok b S3 => simp only [Res.bind_ok]; cases conv md' b S3 <;> rfl
          | _ => rfl
        | _ => rfl
      | _ => rfl
    rw [ee, bind_bind] at q
    refine tG_bind (f := fun ρ S => (ev G C m ρ S).bind (conv md)) okG.zok hs he q fun v S1 w H1 cm1 _ p z => ?_
    obtain ⟨t, s, vv⟩ := p
    have z := okG.step t z
    rw [bind_bind] at z
    refine tG_bind (f := fun ρ S => (ev G C m' ρ S).bind (conv md')) okG.zok s (he.mono t hs) z fun v2 S2 w2 H2 cm2 _ p2 z2 => ?_
    obtain ⟨t2, s2, vv2⟩ := p2
    have z2 := okG.step t2 z2
    have vv := vv.mono t2 s
    simp only [Res.bind_ok, rdVs] at z2
    cases e1 : rdV S2 v with
    | none => simp only [e1, Option.bind_none] at z2; exact z2.elim
    | some d =>
      cases e2 : rdV S2 v2 with
      | none => simp only [e1, e2, Option.bind_some, Option.bind_none, Option.map_none] at z2; exact z2.elim
      | some d2 =>
        simp only [e1, e2, Option.bind_some, Option.map_some] at z2
        have rq := rd_ok s2 vv e1
        have rq2 := rd_ok s2 vv2 e2
        cases d with
        | int i => cases d2 with
          | int j =>
            refine ⟨i, j, rq.int, rq2.int, ?_⟩
            simp only [rangeD] at z2
            split at z2
            · rename_i r hz
              split at hz
              · cases hz
                split at z2
                · rename_i hl2
                  have h9 : (j - i).toNat ≤ line := by simpa [rngD] using hl2
                  exact ⟨⟨by omega, by omega, by omega, by omega, by simp only [line] at h9; omega⟩, fun q hq => z2 _ _ cm2 (mkF s2 hq (rps_rng i j))⟩
                · exact z2.elim
              · cases hz
            · exact z2.elim
          | _ => exact z2.elim
        | _ => exact z2.elim
  · simp at hl
def tLenSetD (K : PySem.W.Frag) (ta : TE) : TE := fun σ H Q => ta σ H fun x H1 => ∃ (l : Addr) (ns : List Int), x = V.ref l ∧ SqL K H1 l (ns.map V.int) ∧ ns.length ≤ 4000 ∧ Q (.int ((dcnt ns : Nat) : Int)) H1
theorem pe_lenSetD {X : Cx} {a : Expr} {ta : TE} {p p2 q pos : Pos} (hc : X.calm = true) (hg : Gl X "len") (hm : X.mg "len" = none) (hg2 : Gl X "set") (hm2 : X.mg "set" = none) (ha : PE X a ta)
    (na : starEach [a] X.env = (false, eval a X.env) :: starEach [] X.env) : PE X (.Call (.Name "len" p) [.Call (.Name "set" p2) [a] [] q] [] pos) (tLenSetD X.K ta) := by
  refine ⟨fun pins s σ H Q I h => ?_⟩
  refine Call_ (ld_blt I hg hm PySem.boot_len ?_)
  refine PyProof.Rows.callWith_builtin1 (PyProof.Rows.args_cons ?_ rfl) rfl rfl
  refine Call_ (ld_blt I hg2 hm2 PyProof.Rows.boot_set ?_)
  refine PyProof.Rows.callWith_type1 (PyProof.Rows.args_cons (thn (ha.run pins s σ H _ I h) fun v s1 ⟨x, H1, I1, r1, q1⟩ => PyProof.Rows.args_nil ?_) na) na rfl
  obtain ⟨l, ns, rfl, hq, h1, q1⟩ := q1
  cases r1
  obtain ⟨its, r, pl, hz⟩ := I1.list hq
  have hl : its.toArray.size = ns.length := by rw [List.size_toArray, ← r.length, List.length_map]
  refine call_set_list (I1.ok.hd hc) pl.isList (ns := ns) (by simpa using r.ints) (by unfold scanBound; omega) fun h' tk hS hk => ?_
  rw [hl] at hS
  refine PyProof.Rows.args_nil ?_
  obtain ⟨o, es, ep, t, ho, hex, hd, _, _, _, hf, hn⟩ := hS
  have I2 : Inv X pins σ H1 { s1 with heap := h', toks := tk } := I1.kept fun b o e => hk b o (Heap.lt_size e) e
  have hle := PyProof.Rows.firstMet_length_le (fun i => ns.getD i 0) ns.length
  refine call_len_set ho hex hd hf (by rw [hn] <;> omega) ⟨.int ((dcnt ns : Nat) : Int), H1, I2.tok _, ⟨_, by rw [hn]; rfl⟩, q1⟩
theorem pe_slen (g : Gd X CX E lv c G C) {x y : Str} {p p2 pos2 : Pos} (hy : y = "len") (h1 : c.glb y = true) (hx : x = "set") (h2 : c.glb x = true) (hp : plainE a = true) (pa : PE X a (tX X.K X.mg E fa)) :
    PE X (.Call (.Name y p2) [.Call (.Name x p) [a] [] pos2] [] pos) (tX X.K X.mg E fun ρ S => (fa ρ S).rv.bind fun x S1 => match rdV S1 x with
    | some (.lst ds) => (match intsOf ds with
      | some ns => if ns.length ≤ 4000 then .ok (.d (.int ((dcnt ns : Nat) : Int))) S1 else .stuck
      | none => .stuck)
    | _ => .stuck) := by
  subst hx hy
  refine PE.imp (pe_lenSetD g.calm (g.glb h1) (g.top.blt _ (by decide)) (g.glb h2) (g.top.blt _ (by decide)) (pe_rv pa) (star_cons (es := []) hp)) fun σ H Q ⟨ρ, cm, S, hs, he, q⟩ => ?_
  refine tG_bind (f := fun ρ S => (fa ρ S).rv) okG.zok hs he q fun v S1 w H1 cm1 _ p z => ?_
  obtain ⟨t, s, vv⟩ := p
  have z := okG.step t z
  cases e1 : rdV S1 v with
  | none => rw [e1] at z; exact z.elim
  | some d =>
    rw [e1] at z
    have rq := rd_ok s vv e1
    cases d with
    | lst ds =>
      dsimp only at z
      cases e2 : intsOf ds with
      | none => rw [e2] at z; exact z.elim
      | some ns =>
        rw [e2] at z
        dsimp only at z
        split at z
        · rename_i hl
          obtain ⟨l, ws, rfl, ha, hva⟩ := rq.lst
          have f1 := ints_rps hva e2
          subst f1
          exact ⟨l, ns, rfl, ha.sq, hl, z _ _ cm1 (mkD s (.int _))⟩
        · exact z.elim
    | _ => exact z.elim
theorem pe_trng (g : Gd X CX E lv c G C) {x y : Str} {p p2 pos2 : Pos} {ms : Es} (hy : y = "tuple") (h1 : c.glb y = true) (hx : x = "range") (h2 : c.glb x = true) (hp : es.all plainE = true) (hl : es.length = 1 ∨ es.length = 2) (hm : ms.len = es.length) 
    (h1' : ∀ a, es = [a] → ∃ md m, ms = .cons md m .nil ∧ PE X a (tX X.K X.mg E (ev G C m))) (h2' : ∀ a b, es = [a, b] → ∃ md m md' m', ms = .cons md m (.cons md' m' .nil) ∧ PE X a (tX X.K X.mg E (ev G C m)) ∧ PE X b (tX X.K X.mg E (ev G C m'))) :
    PE X (.Call (.Name y p2) [.Call (.Name x p) es [] pos2] [] pos) (tX X.K X.mg E (fTrng (evs G C ms))) := by
  subst hx hy
  rcases es with _ | ⟨a, _ | ⟨b, _ | ⟨b', r'⟩⟩⟩
  · simp at hl
  · obtain ⟨md, m, rfl, pa⟩ := h1' a rfl
    have hp1 : plainE a = true := by simpa using hp
    refine PE.imp (pe_tupRg g.calm (g.glb h1) (g.top.blt _ (by decide)) (prg_1 (g.glb h2) (g.top.blt _ (by decide)) (pe_conv md pa) (star_cons (es := []) hp1))) fun σ H Q ⟨ρ, cm, S, hs, he, q⟩ => ?_
    unfold fTrng at q
    have ee : ∀ ρ S, evs G C (.cons md m .nil) ρ S = ((ev G C m ρ S).bind (conv md)).bind fun v S2 => .ok [v] S2 := fun ρ S => by
      simp only [evs]
      cases ev G C m ρ S <;> rfl
    rw [ee, bind_bind] at q
    refine tG_bind (f := fun ρ S => (ev G C m ρ S).bind (conv md)) okG.zok hs he q fun v S1 w H1 cm1 _ p z => ?_
    obtain ⟨t, s, vv⟩ := p
    have z := okG.step t z
    simp only [Res.bind_ok, rdVs] at z
    cases e1 : rdV S1 v with
    | none => simp only [e1, Option.bind_none] at z; exact z.elim
    | some d =>
      simp only [e1, Option.bind_some, Option.map_some] at z
      have rq := rd_ok s vv e1
      cases d with
      | int j =>
        refine ⟨j, rq.int, ?_⟩
        simp only [rangeD] at z
        split at z
        · rename_i r hz
          split at hz
          · cases hz
            split at z
            · rename_i hl2
              have h9 : j.toNat ≤ line := by simpa [rngD] using hl2
              refine ⟨⟨by omega, by omega, by omega, by omega, by simp only [line] at h9; omega⟩, fun q hq => z _ _ cm1 (mkT s hq ?_)⟩
              have := rps_rng (K := X.K) (H := H1) (L := Lv cm1 S1) 0 j
              simpa using this
            · exact z.elim
          · cases hz
        · exact z.elim
      | _ => exact z.elim
  · obtain ⟨md, m, md', m', rfl, pa, pb⟩ := h2' a b rfl
    have hp1 : plainE a = true ∧ plainE b = true := by simpa using hp
    refine PE.imp (pe_tupRg g.calm (g.glb h1) (g.top.blt _ (by decide)) (prg_2 (g.glb h2) (g.top.blt _ (by decide)) (pe_conv md pa) (pe_conv md' pb) (star_cons hp1.1) (star_cons (es := []) hp1.2) (star_any (by simp [hp1.2])))) fun σ H Q ⟨ρ, cm, S, hs, he, q⟩ => ?_
    unfold fTrng at q
    have ee : ∀ ρ S, evs G C (.cons md m (.cons md' m' .nil)) ρ S = ((ev G C m ρ S).bind (conv md)).bind fun v S2 => ((ev G C m' ρ S2).bind (conv md')).bind fun w S3 => .ok [v, w] S3 := fun ρ S => by
      simp only [evs]
      cases ev G C m ρ S with
      | ok a S1 =>
        simp only [Res.bind_ok]
        cases conv md a S1 with
        | ok v S2 =>
          simp only [Res.bind_ok]
          cases ev G C m' ρ S2 with
          | ok b S3 => simp only [Res.bind_ok]; cases conv md' b S3 <;> rfl
          | _ => rfl
        | _ => rfl
      | _ => rfl
    rw [ee, bind_bind] at q
    refine tG_bind (f := fun ρ S => (ev G C m ρ S).bind (conv md)) okG.zok hs he q fun v S1 w H1 cm1 _ p z => ?_
    obtain ⟨t, s, vv⟩ := p
    have z := okG.step t z
    rw [bind_bind] at z
    refine tG_bind (f := fun ρ S => (ev G C m' ρ S).bind (conv md')) okG.zok s (he.mono t hs) z fun v2 S2 w2 H2 cm2 _ p2 z2 => ?_
    obtain ⟨t2, s2, vv2⟩ := p2
    have z2 := okG.step t2 z2
    have vv := vv.mono t2 s
    simp only [Res.bind_ok, rdVs] at z2
    cases e1 : rdV S2 v with
    | none => simp only [e1, Option.bind_none] at z2; exact z2.elim
    | some d =>
      cases e2 : rdV S2 v2 with
      | none => simp only [e1, e2, Option.bind_some, Option.bind_none, Option.map_none] at z2; exact z2.elim
      | some d2 =>
        simp only [e1, e2, Option.bind_some, Option.map_some] at z2
        have rq := rd_ok s2 vv e1
        have rq2 := rd_ok s2 vv2 e2
        cases d with
        | int i => cases d2 with
          | int j =>
            refine ⟨i, j, rq.int, rq2.int, ?_⟩
            simp only [rangeD] at z2
            split at z2
            · rename_i r hz
              split at hz
              · cases hz
                split at z2
                · rename_i hl2
                  have h9 : (j - i).toNat ≤ line := by simpa [rngD] using hl2
                  exact ⟨⟨by omega, by omega, by omega, by omega, by simp only [line] at h9; omega⟩, fun q hq => z2 _ _ cm2 (mkT s2 hq (rps_rng i j))⟩
                · exact z2.elim
              · cases hz
            · exact z2.elim
          | _ => exact z2.elim
        | _ => exact z2.elim
  · simp at hl
/-! list.index -/
theorem ixGo_ok {y : D} : ∀ {xs : List D} {k j : Nat}, ixGo y xs k = some j → ∃ i z, j = k + i ∧ xs[i]? = some z ∧ D.eq z y = true ∧ ∀ m z', m < i → xs[m]? = some z' → D.eq z' y = false
  | [], k, j, h => by simp [ixGo] at h
  | x :: r, k, j, h => by
    unfold ixGo at h
    split at h
    · rename_i e
      cases h
      exact ⟨0, x, rfl, rfl, e, fun m z' hm => absurd hm (by omega)⟩
    · rename_i e
      obtain ⟨i, z, h1, h2, h3, h4⟩ := ixGo_ok h
      refine ⟨i + 1, z, by omega, by simpa using h2, h3, fun m z' hm hz => ?_⟩
      cases m with
      | zero => simp at hz; subst hz; simpa using e
      | succ m => exact h4 m z' (by omega) (by simpa using hz)
theorem pys_get : ∀ (xs : List D) (i : Nat), (D.pys xs)[i]? = (xs[i]?).map D.py
  | [], i => by simp [D.pys]
  | x :: xs, 0 => by simp [D.pys]
  | x :: xs, i + 1 => by simp [D.pys, pys_get xs i]
def rIxo (K : PySem.W.Frag) : V → List V → Hp → VK → Prop := fun x vs H Q => ∃ y d e, vs = [y] ∧ Rp K H L0 x d ∧ Rp K H L0 y e ∧ (∃ xs, d = .lst xs) ∧ match ixoD d e with
  | some (.d z) => ∃ k, z = .int k ∧ Q (.int k) H
  | _ => False
theorem mt_ixo (hu : X.A.units + 65 < cLine) : MtR X "list.index" (rIxo X.K) := by
  intro pins s σ H x vs v us Q I rx rv h
  obtain ⟨y, d, e, rfl, hx, hy, ⟨xs, rfl⟩, q⟩ := h
  simp only [ixoD] at q
  split at q
  · rename_i hz
    have hz := hz
    split at hz
    · rename_i hd
      simp only [Option.map_eq_some_iff] at hz
      obtain ⟨j, hj, e1⟩ := hz
      cases e1
      obtain ⟨k, e2, q⟩ := q
      cases e2
      obtain ⟨i, z, h1, h2, h3, h4⟩ := ixGo_ok hj
      have h1 : j = i := by omega
      subst h1
      obtain ⟨s1, s2⟩ := shapedL hd
      cases hx with
      | lst f r =>
        refine mt_indexD hu pins s σ H _ _ v us Q I rx rv ⟨_, y, e.py, D.pys xs, j, z.py, rfl, rfl, .lst f.sq r.dp, hy.dp, s2, s1, by rw [pys_get, h2]; rfl, by rw [D.py_eq]; exact h3, fun m z' hm hz' => ?_, q⟩
        rw [pys_get] at hz'
        simp only [Option.map_eq_some_iff] at hz'
        obtain ⟨w, hw, rfl⟩ := hz'
        rw [D.py_eq]
        exact h4 m w hm hw
    · cases hz
  · exact q.elim
def fIxo (fa fb : Rd' RX) : Rd' RX := fun ρ S => (fa ρ S).rv.bind fun y S1 => if isLs y then (fb ρ S1).rv.bind fun z S2 => (match rdW S2 y, rdW S2 z with
    | some d, some e => ofOpt (ixoD d e) S2
    | _, _ => .stuck) else .stuck
theorem isLs_ok {K : PySem.W.Frag} {H : Hp} {cm : List CA} {S : Store} (s : SR K H cm S) {v : V} {y : RV} (h : VOk K H cm S v y) (e : isLs y = true) : ∃ a vs, v = .ref a ∧ SqE K H a vs := by
  cases y with
  | c n =>
    obtain ⟨a, os, rfl, ha⟩ := h
    obtain ⟨xs, e⟩ := s.trk n a (.at_ ha)
    exact ⟨a, xs, rfl, .inl e⟩
  | r n i =>
    obtain ⟨a, os, b, rfl, ha, hb⟩ := h
    obtain ⟨xs, e⟩ := s.trk n b (.row ha hb)
    exact ⟨b, xs, rfl, .inl e⟩
  | d d => cases d with
    | lst ds =>
      have h : Rp K H (Lv cm S) v (.lst ds) := h
      cases h with
      | lst f r => exact ⟨_, _, rfl, f.sqE⟩
    | _ => cases e
  | g i j => cases e
theorem pe_ixo (g : Gd X CX E lv c G C) {m : Str} {o : Expr} {ap : Pos} (hm : m = "index") (hl : (ap.endLine == pos.line) = true) (hp : plainE a = true) (hn : notCall o = true) (ho : PE X o (tX X.K X.mg E fa)) (ha : PE X a (tX X.K X.mg E fb)) :
    PE X (.Call (.Attribute o m ap) [a] [] pos) (tX X.K X.mg E (fIxo fa fb)) := by
  subst hm
  have few : ((backTo pos (starEach [a] X.env)).all (fun x => !x.1) && (backToKw pos (keywordEach [] X.env)).all (fun x => x.1.isSome)
      && decide (([a] : List Expr).length + ([] : List Keyword).length + (if ([] : List Keyword).isEmpty then 0 else 1) < 30)) = true := by
    rw [star_noneS (by simp [hp])]; rfl
  refine PE.imp (pe_bm PySem.F.plainAttrs_list PySem.F.slot_list_index PySem.F.type_list_index (mt_ixo (hu_room g)) (pe_rv ho) (pa_cons (pe_rv ha) pa_nil (star_cons hp)) (base_of hn) few hl (star_cons hp) (star_any rfl)) fun σ H Q ⟨ρ, cm, S, hs, he, q⟩ => ?_
  unfold fIxo at q
  refine tG_bind (f := fun ρ S => (fa ρ S).rv) okG.zok hs he q fun x S1 v H1 cm1 _ p z => ?_
  obtain ⟨t1, s1, v1⟩ := p
  have z := okG.step t1 z
  by_cases hls : isLs x = true
  · rw [if_pos hls] at z
    obtain ⟨ad, vs, rfl, hq⟩ := isLs_ok s1 v1 hls
    refine ⟨.inl ⟨rfl, vs, hq.sq⟩, ?_⟩
    refine tG_bind (f := fun ρ S => (fb ρ S).rv) okG.zok s1 (he.mono t1 hs) z fun y S2 w H2 cm2 _ p2 z2 => ?_
    obtain ⟨t2, s2, v2⟩ := p2
    have z2 := okG.step t2 z2
    have v1 := v1.mono t2 s1
    cases e1 : rdW S2 x with
    | none => simp only [e1] at z2; exact z2.elim
    | some d =>
      cases e2 : rdW S2 y with
      | none => simp only [e1, e2] at z2; exact z2.elim
      | some e =>
        simp only [e1, e2] at z2
        refine ⟨w, d, e, rfl, rdW_ok s2 v1 e1, rdW_ok s2 v2 e2, ?_, ?_⟩
        · cases d with
          | lst xs => exact ⟨xs, rfl⟩
          | _ => exact z2.elim
        · cases h : ixoD d e with
          | none => rw [h] at z2; exact z2
          | some r =>
            rw [h] at z2
            cases d with
            | lst xs =>
              simp only [ixoD] at h
              split at h
              · simp only [Option.map_eq_some_iff] at h
                obtain ⟨k, _, rfl⟩ := h
                exact ⟨_, rfl, z2 _ H2 cm2 ⟨Tr.refl, s2, .int _⟩⟩
              · cases h
            | _ => cases h
  · rw [if_neg hls] at z; exact z.elim
end
end Rf

set_option Elab.async false
set_option linter.all false
set_option maxRecDepth 100000
set_option maxHeartbeats 4000000
namespace Rf
open PySem PySem.Spec PyProof.Rows L2
section
variable {X : Cx} {CX : CXT} {E : XK} {lv : Nat} {c : Ct} {G : List Mir} {C : List D} {a b d e : Expr} {fa fb fc fd : Rd' RX} {pos : Pos} {es : List Expr}
theorem SndW.congr {K : PySem.W.Frag} {mg : Mg} {f f' : Rd' RX} (h : SndW X e K mg E f) (q : ∀ ρ S, f' ρ S = f ρ S) : SndW X e K mg E f' := by
  have : f' = f := funext fun ρ => funext (q ρ)
  subst this; exact h
theorem tG_congr {α β : Type} {K : PySem.W.Frag} {mg : Mg} {P : Post α β} {f f' : Rd' α} (q : ∀ ρ S, f' ρ S = f ρ S) : tG K mg E P f' = tG K mg E P f := by
  have : f' = f := funext fun ρ => funext (q ρ)
  subst this; rfl
theorem nb (h : ∀ op vs p, e ≠ .BoolOp op vs p) {f : Rd' RX} (s : Snd X e X.K X.mg E f) : SndW X e X.K X.mg E f := s.w h
theorem sn_var (g : Gd X CX E lv c G C) {i : Nat} {x : Str} (h1 : c.slot i x = true) (h2 : c.vis x = true) (h3 : x ≠ dbg) (h4 : x ≠ cld) : Snd X (.Name x pos) X.K X.mg E (ev G C (.var i)) := by
  refine .of (PE.imp (pe_var (g.slot h1) (g.vis h2) (ndb h3) (ncd h4)) fun σ H Q ⟨ρ, cm, S, hs, he, q⟩ => ?_) rfl
  rw [ev] at q
  cases e1 : ρ[i]? with
  | none => rw [e1] at q; exact q.elim
  | some o => cases o with
    | none => rw [e1] at q; exact q.elim
    | some r =>
      rw [e1] at q
      obtain ⟨v, hv, hr⟩ := he.at' i _ e1
      cases r with
      | d d => exact ⟨v, hv, q v H cm (mkD hs hr)⟩
      | c n => exact ⟨v, hv, q v H cm ⟨Tr.refl, hs, hr⟩⟩
      | g n m => exact ⟨v, hv, q v H cm ⟨Tr.refl, hs, hr⟩⟩
      | r n m => exact ⟨v, hv, q v H cm ⟨Tr.refl, hs, hr⟩⟩
theorem pe_tC {v : V} {d : D} (h : PE X e (tC v)) (r : ∀ H L, Rp X.K H L v d) : PE X e (tX X.K X.mg E fun _ S => .ok (.d d) S) :=
  PE.imp h fun σ H Q ⟨ρ, cm, S, hs, he, q⟩ => q v H cm (mkD hs (r _ _))
theorem sn_lit {k : Const} {j : Nat} {d : D} (h : chkK k d = true) : Snd X (.Constant k j pos) X.K X.mg E fun _ S => .ok (.d d) S := by
  refine .of ?_ rfl
  cases k <;> cases d <;> simp only [chkK, Bool.false_eq_true, decide_eq_true_eq, beq_iff_eq] at h
  · exact pe_tC pe_non fun _ _ => .non
  · subst h; exact pe_tC pe_bl fun _ _ => .bl _
  · subst h; exact pe_tC pe_int fun _ _ => .int _
  · subst h; exact pe_tC pe_str fun _ _ => .str _
theorem sn_con (g : Gd X CX E lv c G C) {i : Nat} {x : Str} (h1 : c.cons[i]? = some x) (h2 : c.glb x = true) (h3 : x ≠ dbg) : Snd X (.Name x pos) X.K X.mg E (ev G C (.con i)) := by
  obtain ⟨d, v, u, e1, e2, e3, e4⟩ := g.top.cons i x h1
  refine .of (PE.imp (pe_glob (g.glb h2) e2 e3 (ndb h3)) fun σ H Q ⟨ρ, cm, S, hs, he, q⟩ => ?_) rfl
  rw [ev, e1] at q
  exact q v H cm (mkD hs (e4 _ _))
theorem nfs {e : Expr} {env : PySem.Env} (h : notSet e = true) : ∀ x, foldedSetIterable e env x = pure x := by
  intro x
  cases e <;> first | rfl | simp [notSet] at h
theorem chkEs_len {c : Ct} : ∀ {ms : Es} {es : List Expr}, chkEs c ms es = true → ms.len = es.length
  | .nil, es, h => by rw [chkEs] at h; cases es <;> simp_all [Es.len]
  | .cons _ m ms, es, h => by
    rw [chkEs.eq_def] at h; dsimp only at h
    cases es with
    | nil => cases h
    | cons e es => simp only [Bool.and_eq_true] at h; simp [Es.len, chkEs_len h.2]
theorem chkKw_len {c : Ct} : ∀ {ms : Es} {es : List Keyword}, chkKw c ms es = true → ms.len = es.length
  | .nil, es, h => by rw [chkKw] at h; cases es <;> simp_all [Es.len]
  | .cons _ m ms, es, h => by
    rw [chkKw.eq_def] at h; dsimp only at h
    cases es with
    | nil => cases h
    | cons e es => obtain ⟨_, e, _⟩ := e; simp only [Bool.and_eq_true] at h; simp [Es.len, chkKw_len h.2]
theorem es_nil {ms : Es} (h : ms.len = es.length) : es = [] → ms = .nil := fun e => by
  subst e
  cases ms with
  | nil => rfl
  | cons _ _ _ => simp [Es.len] at h
theorem kws_len : ∀ {kws : List Keyword}, kws.all (·.arg.isSome) = true → (kws.filterMap (·.arg)).length = kws.length
  | [], _ => rfl
  | ⟨n, e, p⟩ :: kws, h => by
    rw [List.all_cons, Bool.and_eq_true] at h
    cases n with
    | none => simp at h
    | some n => simp [kws_len h.2]
end
variable {G : List Mir} {C : List D}
mutual
theorem sndE : ∀ (m : Rf.E) {X : Cx} {CX : CXT} {E : XK} {lv : Nat} {c : Ct} (g : Gd X CX E lv c G C) (e : Expr), chkE c m e = true → SndW X e X.K X.mg E (ev G C m)
  | .var i, X, CX, E, lv, c, g, e, h => by
    rw [chkE.eq_def] at h; dsimp only at h
    split at h
    · simp only [Bool.and_eq_true, decide_eq_true_eq] at h
      obtain ⟨⟨⟨h1, h2⟩, h3⟩, h4⟩ := h
      exact (sn_var g h1 h2 h3 h4).w (by intros; simp)
    · cases h
  | .lit d, X, CX, E, lv, c, g, e, h => by
    rw [chkE.eq_def] at h; dsimp only at h
    split at h
    · exact ((sn_lit h).w (by intros; simp)).congr fun ρ S => by rw [ev]
    · cases h
  | .con i, X, CX, E, lv, c, g, e, h => by
    rw [chkE.eq_def] at h; dsimp only at h
    split at h
    · simp only [Bool.and_eq_true, decide_eq_true_eq] at h
      obtain ⟨⟨h1, h2⟩, h3⟩ := h
      exact (sn_con g h1 h2 h3).w (by intros; simp)
    · cases h
  | .tup ms, X, CX, E, lv, c, g, e, h => by
    rw [chkE.eq_def] at h; dsimp only at h
    split at h
    · simp only [Bool.and_eq_true] at h
      exact ((Snd.of (pe_tup' (sndEs ms g _ h.1 h.2)) rfl).w (by intros; simp)).congr fun ρ S => by rw [ev]; first | done | rfl
    · cases h
  | .slen a, X, CX, E, lv, c, g, e, h => by
    rw [chkE.eq_def] at h; dsimp only at h
    split at h
    · simp only [Bool.and_eq_true, decide_eq_true_eq] at h
      obtain ⟨⟨⟨⟨⟨h0, h1⟩, h2⟩, h3⟩, h4⟩, h5⟩ := h
      exact ((Snd.of (pe_slen g h0 h1 h2 h3 h4 (sndE a g _ h5).pe) rfl).w (by intros; simp)).congr fun ρ S => by rw [ev]; first | done | rfl
    · cases h
  | .tpc ms, X, CX, E, lv, c, g, e, h => by
    rw [chkE.eq_def] at h; dsimp only at h
    split at h
    · simp only [Bool.and_eq_true] at h
      exact ((Snd.of (pe_tpc (sndEs ms g _ h.1 h.2)) rfl).w (by intros; simp)).congr fun ρ S => by rw [ev]; first | done | rfl
    · cases h
  | .tix a, X, CX, E, lv, c, g, e, h => by
    rw [chkE.eq_def] at h; dsimp only at h
    split at h
    · simp only [Bool.and_eq_true, decide_eq_true_eq] at h
      exact ((Snd.of (pe_tix h.1 (sndE a g _ h.2).pe) rfl).w (by intros; simp)).congr fun ρ S => by rw [ev]; first | done | rfl
    · cases h
  | .lst ms, X, CX, E, lv, c, g, e, h => by
    rw [chkE.eq_def] at h; dsimp only at h
    split at h
    · simp only [Bool.and_eq_true] at h
      exact ((Snd.of (pe_lst' (sndEs ms g _ h.1 h.2)) rfl).w (by intros; simp)).congr fun ρ S => by rw [ev]; first | done | rfl
    · cases h
  | .bin op a b, X, CX, E, lv, c, g, e, h => by
    rw [chkE.eq_def] at h; dsimp only at h
    split at h
    · simp only [Bool.and_eq_true, decide_eq_true_eq] at h
      obtain ⟨⟨rfl, h1⟩, h2⟩ := h
      exact ((Snd.of (sn_bin (sndE a g _ h1).pe (sndE b g _ h2).pe) rfl).w (by intros; simp)).congr fun ρ S => by rw [ev]; first | done | rfl
    · cases h
  | .neg a, X, CX, E, lv, c, g, e, h => by
    rw [chkE.eq_def] at h; dsimp only at h
    split at h
    · exact ((Snd.of (sn_neg (sndE a g _ h).pe) rfl).w (by intros; simp)).congr fun ρ S => by rw [ev]; first | done | rfl
    · cases h
  | .nt a, X, CX, E, lv, c, g, e, h => by
    rw [chkE.eq_def] at h; dsimp only at h
    split at h
    · exact ((sn_nt (sndE a g _ h).toSnd).w (by intros; simp)).congr fun ρ S => by rw [ev]; first | done | rfl
    · cases h
  | .cmp op a b, X, CX, E, lv, c, g, e, h => by
    rw [chkE.eq_def] at h; dsimp only at h
    split at h
    · simp only [Bool.and_eq_true, decide_eq_true_eq] at h
      obtain ⟨⟨⟨rfl, h0⟩, h1⟩, h2⟩ := h
      exact ((sn_cmp g (sndE a g _ h1).pe (sndE b g _ h2).pe h0).w (by intros; simp)).congr fun ρ S => by rw [ev]; first | done | rfl
    · cases h
  | .ch2 o1 o2 a b d, X, CX, E, lv, c, g, e, h => by
    rw [chkE.eq_def] at h; dsimp only at h
    split at h
    · simp only [Bool.and_eq_true, decide_eq_true_eq] at h
      obtain ⟨⟨⟨⟨⟨rfl, rfl⟩, h0⟩, h1⟩, h2⟩, h3⟩ := h
      exact ((sn_ch2 g (sndE a g _ h1).pe (sndE b g _ h2).pe (sndE d g _ h3).pe h0).w (by intros; simp)).congr fun ρ S => by rw [ev]; first | done | rfl
    · cases h
  | .ch3 o1 o2 o3 a b d f, X, CX, E, lv, c, g, e, h => by
    rw [chkE.eq_def] at h; dsimp only at h
    split at h
    · simp only [Bool.and_eq_true, decide_eq_true_eq] at h
      obtain ⟨⟨⟨⟨⟨⟨⟨rfl, rfl⟩, rfl⟩, h0⟩, h1⟩, h2⟩, h3⟩, h4⟩ := h
      exact ((sn_ch3 g (sndE a g _ h1).pe (sndE b g _ h2).pe (sndE d g _ h3).pe (sndE f g _ h4).pe h0).w (by intros; simp)).congr fun ρ S => by rw [ev]; first | done | rfl
    · cases h
  | .and a b, X, CX, E, lv, c, g, e, h => by
    rw [chkE.eq_def] at h; dsimp only at h
    split at h
    · simp only [Bool.and_eq_true] at h
      exact (sn_and2 (sndE a g _ h.1).toSnd (sndE b g _ h.2).toSnd).congr fun ρ S => by rw [ev]; first | done | rfl
    · simp only [Bool.and_eq_true] at h
      exact (sn_and (sndE a g _ h.1).toSnd (sndE b g _ h.2)).congr fun ρ S => by rw [ev]; first | done | rfl
    · cases h
  | .or a b, X, CX, E, lv, c, g, e, h => by
    rw [chkE.eq_def] at h; dsimp only at h
    split at h
    · simp only [Bool.and_eq_true] at h
      exact (sn_or2 (sndE a g _ h.1).toSnd (sndE b g _ h.2).toSnd).congr fun ρ S => by rw [ev]; first | done | rfl
    · simp only [Bool.and_eq_true] at h
      exact (sn_or (sndE a g _ h.1).toSnd (sndE b g _ h.2)).congr fun ρ S => by rw [ev]; first | done | rfl
    · cases h
  | .ite t a b, X, CX, E, lv, c, g, e, h => by
    rw [chkE.eq_def] at h; dsimp only at h
    split at h
    · simp only [Bool.and_eq_true] at h
      obtain ⟨⟨h0, h1⟩, h2⟩ := h
      exact ((sn_ite (sndE t g _ h0).toSnd (sndE a g _ h1).toSnd (sndE b g _ h2).toSnd).w (by intros; simp)).congr fun ρ S => by rw [ev]; first | done | rfl
    · cases h
  | .idx a i, X, CX, E, lv, c, g, e, h => by
    rw [chkE.eq_def] at h; dsimp only at h
    split at h
    · simp only [Bool.and_eq_true] at h
      obtain ⟨⟨h0, h1⟩, h2⟩ := h
      exact ((Snd.of (pe_idx' (sndE a g _ h1).pe (sndE i g _ h2).pe h0) rfl).w (by intros; simp)).congr fun ρ S => by rw [ev]; first | done | rfl
    · cases h
  | .sl a lo hi, X, CX, E, lv, c, g, e, h => by
    rw [chkE.eq_def] at h; dsimp only at h
    split at h
    · simp only [Bool.and_eq_true] at h
      obtain ⟨⟨h0, h1⟩, h2⟩ := h
      exact ((Snd.of (pe_sl' (sndE a g _ h0).pe (sndO lo g _ h1) (sndO hi g _ h2)) rfl).w (by intros; simp)).congr fun ρ S => by rw [ev]; first | done | rfl
    · cases h
  | .rev a, X, CX, E, lv, c, g, e, h => by
    rw [chkE.eq_def] at h; dsimp only at h
    split at h
    · simp only [Bool.and_eq_true, decide_eq_true_eq] at h
      obtain ⟨rfl, h1⟩ := h
      exact ((Snd.of (pe_rev' (sndE a g _ h1).pe) rfl).w (by intros; simp)).congr fun ρ S => by rw [ev]; first | done | rfl
    · cases h
  | .call f ms, X, CX, E, lv, c, g, e, h => by
    rw [chkE.eq_def] at h; dsimp only at h
    split at h
    · simp only [Bool.and_eq_true, decide_eq_true_eq] at h
      obtain ⟨⟨⟨⟨h0, h1⟩, h2⟩, h3⟩, h4⟩ := h
      exact (Snd.of (pe_call' g (by split at h0 <;> simp_all) h1 h2 h3 (sndEs ms g _ h3 h4) (es_nil (chkEs_len h4))) rfl).w (by intros; simp)
    · cases h
  | .pk f ms, X, CX, E, lv, c, g, e, h => by
    rw [chkE.eq_def] at h; dsimp only at h
    split at h
    · simp only [Bool.and_eq_true, decide_eq_true_eq, Bool.not_eq_true'] at h
      obtain ⟨⟨⟨⟨⟨h0, h1⟩, h2⟩, h3⟩, h4⟩, h5⟩ := h
      exact (Snd.of (pe_pk' g (by split at h0 <;> simp_all) h1 h2 h3 (sndEs ms g _ h3 h5) h4) rfl).w (by intros; simp)
    · cases h
  | .frz a, X, CX, E, lv, c, g, e, h => by
    rw [chkE.eq_def] at h; dsimp only at h
    split at h
    · exact ((Snd.of (pe_frz (sndE a g _ h).pe) rfl).w (by intros; simp)).congr fun ρ S => by rw [ev]; first | done | rfl
    · cases h
  | .kall f ms ns perm, X, CX, E, lv, c, g, e, h => by
    rw [chkE.eq_def] at h; dsimp only at h
    split at h
    · simp only [Bool.and_eq_true, decide_eq_true_eq] at h
      obtain ⟨⟨⟨⟨⟨⟨⟨h0, h1⟩, h2⟩, h3⟩, h4⟩, h5⟩, h6⟩, h7⟩ := h
      exact (Snd.of (pe_kcall' g (by split at h0 <;> simp_all) h1 h2 h3 h4 h5 (sndEs ms g _ h3 h6) (sndKw ns g _ h7) (chkEs_len h6) (by rw [kws_len h4]; exact chkKw_len h7) (es_nil (chkEs_len h6))) rfl).w (by intros; simp)
    · cases h
  | .blt f ms, X, CX, E, lv, c, g, e, h => by
    rw [chkE.eq_def] at h; dsimp only at h
    split at h
    · rename_i x p es cp
      simp only [Bool.and_eq_true, Bool.or_eq_true, decide_eq_true_eq] at h
      obtain ⟨⟨⟨⟨⟨h0, h1⟩, h2⟩, h3⟩, h4⟩, h5⟩ := h
      cases es with
      | nil => simp at h3
      | cons a r => exact ((Snd.of (pe_blt' g h0 h1 h2 (sndEs ms g _ h4 h5) h4) rfl).w (by intros; simp)).congr fun ρ S => by rw [ev]; first | done | rfl
    · cases h
  | .mth f o ms, X, CX, E, lv, c, g, e, h => by
    rw [chkE.eq_def] at h; dsimp only at h
    split at h
    · rename_i y m ap es cp
      simp only [Bool.and_eq_true, decide_eq_true_eq] at h
      obtain ⟨⟨⟨⟨⟨⟨⟨⟨hf, h0⟩, h1⟩, h2⟩, h3⟩, h4⟩, h5⟩, h6⟩, h7⟩ := h
      cases es with
      | nil => simp at h2
      | cons a r =>
        have hl : r.length < 8 := by simp at h3; omega
        have ho := (sndE o g _ h6).pe
        have ha := sndEs ms g _ h4 h7
        exact ((Snd.of (pe_mth' f h0 hf h1 h5 hl h4 ho ha) rfl).w (by intros; simp)).congr fun ρ S => by rw [ev]; first | done | rfl
    · cases h
  | .pop i, X, CX, E, lv, c, g, e, h => by
    rw [chkE.eq_def] at h; dsimp only at h
    split at h
    · simp only [Bool.and_eq_true, decide_eq_true_eq] at h
      obtain ⟨⟨⟨⟨⟨h0, h1⟩, h2⟩, h3⟩, h4⟩, h5⟩ := h
      exact (Snd.of (pe_pop' g h0 h1 h2 h3 h4 h5) rfl).w (by intros; simp)
    · cases h
  | .nev, X, CX, E, lv, c, g, e, h => by
    have n : ∀ ρ S, ev G C .nev ρ S = .stuck := fun ρ S => by rw [ev]
    refine ⟨⟨⟨fun pins s σ H Q I ⟨ρ, cm, S, hs, he, q⟩ => ?_⟩, ⟨fun pins s σ H Q I ⟨ρ, cm, S, hs, he, q⟩ => ?_⟩⟩, fun _ _ _ _ => ⟨fun wh pins s σ H Q I ⟨ρ, cm, S, hs, he, q⟩ => ?_⟩⟩
    · rw [n] at q; exact q.elim
    · dsimp only at q; rw [n] at q; exact q.elim
    · dsimp only at q; rw [n] at q; exact q.elim
  | .isi a ts, X, CX, E, lv, c, g, e, h => by
    rw [chkE.eq_def] at h; dsimp only at h
    split at h
    · simp only [Bool.and_eq_true, decide_eq_true_eq] at h
      obtain ⟨⟨⟨⟨⟨h0, h1⟩, h2⟩, h3⟩, h5⟩, h4⟩ := h
      exact ((Snd.of (pe_isi2 g h0 h1 h2 (sndE a g _ h3).pe h4 h5) rfl).w (by intros; simp)).congr fun ρ S => by rw [ev]; first | done | rfl
    · simp only [Bool.and_eq_true, decide_eq_true_eq] at h
      obtain ⟨⟨⟨⟨h0, h1⟩, h2⟩, h3⟩, h4⟩ := h
      split at h4
      · simp only [Bool.and_eq_true] at h4
        exact ((Snd.of (pe_isi1 g h0 h1 h2 (sndE a g _ h3).pe h4.1 h4.2) rfl).w (by intros; simp)).congr fun ρ S => by rw [ev]; first | done | rfl
      · cases h4
    · cases h
  | .comp elt tg it cond own, X, CX, E, lv, c, g, e, h => by
    rw [chkE.eq_def] at h; dsimp only at h
    split at h
    · rename_i elt' tg' iter ifs scope p
      simp only [Bool.and_eq_true, decide_eq_true_eq, List.all_eq_true, List.contains_iff_mem] at h
      obtain ⟨⟨⟨⟨⟨⟨⟨⟨h0, h1⟩, h2⟩, h3⟩, h4⟩, h5⟩, h6⟩, h7⟩, h8⟩ := h
      have bo : BlkOk X.N X.env.scope scope (own.filterMap fun i => c.N[i]?.map fun x => (x, i)) := by
        rw [g.N, g.sc]; exact blkOk_by h0
      have pi : PI X tg' iter (tJ X.K X.mg E (evi G C it)) := sndI it g iter tg' h5 h6
      have pc := pe_comp (pos := p) (tg := tg) g.calm g.nd pi bo h1 h2 (fun s H C' cl fp => (pg_D (g.blk s H scope C' cl fp) h3).1) (fun s H C' cl fp => sndC cond (g.blk s H scope C' cl fp) ifs h7)
        (fun s H C' cl fp => (sndE elt (g.blk s H scope C' cl fp) elt' h8).pe) (nfs h4)
      exact ((Snd.of (PE.imp pc fun σ H Q hq => rd_comp h2 hq) rfl).w (by intros; simp)).congr fun ρ S => by rw [ev]; first | done | rfl
    · cases h
  | .compx elt tg it cond own, X, CX, E, lv, c, g, e, h => by
    rw [chkE.eq_def] at h; dsimp only at h
    split at h
    · rename_i elt' tg' iter ifs scope p
      simp only [Bool.and_eq_true, decide_eq_true_eq, List.all_eq_true, List.contains_iff_mem] at h
      obtain ⟨⟨⟨⟨⟨⟨⟨⟨h0, h1⟩, h2⟩, h3⟩, h4⟩, h5⟩, h6⟩, h7⟩, h8⟩ := h
      have bo : BlkOk X.N X.env.scope scope (own.filterMap fun i => c.N[i]?.map fun x => (x, i)) := by
        rw [g.N, g.sc]; exact blkOk_by h0
      have pi : PI X tg' iter (tJ X.K X.mg E (evi G C it)) := sndI it g iter tg' h5 h6
      have pc := pe_compx (pos := p) (tg := tg) g.calm g.nd pi bo h1 (fun s H C' cl fp => (pg_D (g.blk s H scope C' cl fp) h3).1) (fun s H C' cl fp => sndC cond (g.blk s H scope C' cl fp) ifs h7)
        (fun s H C' cl fp => (sndE elt (g.blk s H scope C' cl fp) elt' h8).pe) (nfs h4)
      exact ((Snd.of (PE.imp pc fun σ H Q hq => rd_compx h2 hq) rfl).w (by intros; simp)).congr fun ρ S => by rw [ev]; first | done | rfl
    · cases h
  | .lsx ms, X, CX, E, lv, c, g, e, h => by
    rw [chkE.eq_def] at h; dsimp only at h
    split at h
    · simp only [Bool.and_eq_true] at h
      exact ((Snd.of (pe_lsx (sndEs ms g _ h.1 h.2)) rfl).w (by intros; simp)).congr fun ρ S => by rw [ev]; first | done | rfl
    · cases h
  | .rngv ms, X, CX, E, lv, c, g, e, h => by
    rw [chkE.eq_def] at h; dsimp only at h
    split at h
    · rename_i x p es cp
      simp only [Bool.and_eq_true, decide_eq_true_eq] at h
      obtain ⟨⟨⟨⟨h0, h1⟩, h2⟩, h3⟩, h4⟩ := h
      cases es with
      | nil => simp at h3
      | cons a r => exact ((Snd.of (pe_rngv g h0 h1 (sndEs ms g _ h2 h4) h2) rfl).w (by intros; simp)).congr fun ρ S => by rw [ev]; first | done | rfl
    · cases h
  | .lrng ms, X, CX, E, lv, c, g, e, h => by
    rw [chkE.eq_def] at h; dsimp only at h
    split at h
    · simp only [Bool.and_eq_true, decide_eq_true_eq] at h
      obtain ⟨⟨⟨⟨⟨⟨h0, h1⟩, h2⟩, h3⟩, h4⟩, h5⟩, h6⟩ := h
      refine ((Snd.of (pe_lrng g h0 h1 h2 h3 h4 h5 (chkEs_len h6) ?_ ?_) rfl).w (by intros; simp)).congr fun ρ S => by rw [ev]; first | done | rfl
      · rintro a rfl
        match ms, h6 with
        | .cons md m ms, h6 =>
          simp only [chkEs, Bool.and_eq_true] at h6
          cases ms with
          | cons _ _ _ => simp [chkEs] at h6
          | nil => exact ⟨md, m, rfl, (sndE m g a h6.1).pe⟩
      · rintro a b rfl
        match ms, h6 with
        | .cons md m (.cons md' m' ms), h6 =>
          simp only [chkEs, Bool.and_eq_true] at h6
          cases ms with
          | cons _ _ _ => simp [chkEs] at h6
          | nil => exact ⟨md, m, md', m', rfl, (sndE m g a h6.1).pe, (sndE m' g b h6.2.1).pe⟩
        | .cons md m .nil, h6 => simp [chkEs] at h6
    · cases h
  | .trng ms, X, CX, E, lv, c, g, e, h => by
    rw [chkE.eq_def] at h; dsimp only at h
    split at h
    · simp only [Bool.and_eq_true, decide_eq_true_eq] at h
      obtain ⟨⟨⟨⟨⟨⟨h0, h1⟩, h2⟩, h3⟩, h4⟩, h5⟩, h6⟩ := h
      refine ((Snd.of (pe_trng g h0 h1 h2 h3 h4 h5 (chkEs_len h6) ?_ ?_) rfl).w (by intros; simp)).congr fun ρ S => by rw [ev]; first | done | rfl
      · rintro a rfl
        match ms, h6 with
        | .cons md m ms, h6 =>
          simp only [chkEs, Bool.and_eq_true] at h6
          cases ms with
          | cons _ _ _ => simp [chkEs] at h6
          | nil => exact ⟨md, m, rfl, (sndE m g a h6.1).pe⟩
      · rintro a b rfl
        match ms, h6 with
        | .cons md m (.cons md' m' ms), h6 =>
          simp only [chkEs, Bool.and_eq_true] at h6
          cases ms with
          | cons _ _ _ => simp [chkEs] at h6
          | nil => exact ⟨md, m, md', m', rfl, (sndE m g a h6.1).pe, (sndE m' g b h6.2.1).pe⟩
        | .cons md m .nil, h6 => simp [chkEs] at h6
    · cases h
  | .ixo o m, X, CX, E, lv, c, g, e, h => by
    rw [chkE.eq_def] at h; dsimp only at h
    split at h
    · simp only [Bool.and_eq_true, decide_eq_true_eq] at h
      obtain ⟨⟨⟨⟨⟨h0, h1⟩, h2⟩, h3⟩, h4⟩, h5⟩ := h
      exact ((Snd.of (pe_ixo g h0 h1 h2 h3 (sndE o g _ h4).pe (sndE m g _ h5).pe) rfl).w (by intros; simp)).congr fun ρ S => by rw [ev]; first | done | rfl
    · cases h
theorem sndO : ∀ (m : Eo) {X : Cx} {CX : CXT} {E : XK} {lv : Nat} {c : Ct} (g : Gd X CX E lv c G C) (e : Option Expr), chkO c m e = true → PO X e (tG X.K X.mg E (PPo X.K) (evo G C m))
  | .no, X, CX, E, lv, c, g, e, h => by
    rw [chkO.eq_def] at h; dsimp only at h
    cases e with
    | some e => cases h
    | none =>
      rw [tG_congr (f := fun ρ S => .ok none S) fun ρ S => by rw [evo]]
      exact po_no
  | .yes m, X, CX, E, lv, c, g, e, h => by
    rw [chkO.eq_def] at h; dsimp only at h
    cases e with
    | none => cases h
    | some e =>
      rw [tG_congr fun ρ S => by rw [evo]]
      exact po_yes (sndE m g e h).pe
theorem sndC : ∀ (m : Eo) {X : Cx} {CX : CXT} {E : XK} {lv : Nat} {c : Ct} (g : Gd X CX E lv c G C) (es : List Expr), chkC c m es = true → PTs X es (tB X.K X.mg E (evc G C m))
  | .no, X, CX, E, lv, c, g, es, h => by
    rw [chkC.eq_def] at h; dsimp only at h
    cases es with
    | cons e es => cases h
    | nil =>
      rw [show evc G C (.no) = (fun ρ S => .ok true S) from funext fun ρ => funext fun S => by rw [evc]]
      exact ⟨fun pins s σ H Q I ⟨ρ, cm, S, hs, he, q⟩ => pts_nil.run pins s σ H Q I (q true H cm ⟨Tr.refl, hs, rfl⟩)⟩
  | .yes m, X, CX, E, lv, c, g, es, h => by
    rw [chkC.eq_def] at h; dsimp only at h
    split at h
    · rename_i e
      rw [show evc G C (.yes m) = (fun ρ S => (ev G C m ρ S).tru) from funext fun ρ => funext fun S => by rw [evc]; rfl]
      exact pts_one (sndE m g e h).pt
    · cases h
theorem sndEs : ∀ (m : Es) {X : Cx} {CX : CXT} {E : XK} {lv : Nat} {c : Ct} (g : Gd X CX E lv c G C) (es : List Expr), es.all plainE = true → chkEs c m es = true → PA X es (tA X.K X.mg E (evs G C m))
  | .nil, X, CX, E, lv, c, g, es, hp, h => by
    rw [chkEs.eq_def] at h; dsimp only at h
    cases es with
    | cons e es => cases h
    | nil =>
      rw [show evs G C (.nil) = (fNil) from funext fun ρ => funext fun S => by rw [evs]; rfl]
      exact pa_nil'
  | .cons md m ms, X, CX, E, lv, c, g, es, hp, h => by
    rw [chkEs.eq_def] at h; dsimp only at h
    cases es with
    | nil => cases h
    | cons e es =>
      simp only [Bool.and_eq_true] at h
      rw [List.all_cons, Bool.and_eq_true] at hp
      rw [show evs G C (.cons md m ms) = (fCons md (ev G C m) (evs G C ms)) from funext fun ρ => funext fun S => by rw [evs]; rfl]
      exact pa_cons' (sndE m g e h.1).pe (sndEs ms g es hp.2 h.2) hp.1
theorem sndKw : ∀ (m : Es) {X : Cx} {CX : CXT} {E : XK} {lv : Nat} {c : Ct} (g : Gd X CX E lv c G C) (es : List Keyword), chkKw c m es = true → PK X es (tA X.K X.mg E (evs G C m))
  | .nil, X, CX, E, lv, c, g, es, h => by
    rw [chkKw.eq_def] at h; dsimp only at h
    cases es with
    | cons e es => cases h
    | nil =>
      rw [show evs G C (.nil) = (fNil) from funext fun ρ => funext fun S => by rw [evs]; rfl]
      exact pk_nil'
  | .cons md m ms, X, CX, E, lv, c, g, es, h => by
    rw [chkKw.eq_def] at h; dsimp only at h
    cases es with
    | nil => cases h
    | cons e es =>
      obtain ⟨nm, e, kp⟩ := e
      simp only [Bool.and_eq_true] at h
      rw [show evs G C (.cons md m ms) = (fCons md (ev G C m) (evs G C ms)) from funext fun ρ => funext fun S => by rw [evs]; rfl]
      exact pk_cons' (sndE m g e h.1).pe (sndKw ms g es h.2)
theorem sndI : ∀ (m : I) {X : Cx} {CX : CXT} {E : XK} {lv : Nat} {c : Ct} (g : Gd X CX E lv c G C) (e tg : Expr), chkI c m e = true → (isTup tg || m.plain) = true → PI X tg e (tJ X.K X.mg E (evi G C m))
  | .seq m, X, CX, E, lv, c, g, e, tg, h, ht => by
    rw [chkI.eq_def] at h; dsimp only at h
    rw [show evi G C (.seq m) = (fSeq (ev G C m)) from funext fun ρ => funext fun S => by rw [evi]; unfold fSeq Res.rv; rw [bind_bind]; first | done | rfl]
    exact pi_seq (sndE m g e h).pe
  | .rng ms, X, CX, E, lv, c, g, e, tg, h, ht => by
    rw [chkI.eq_def] at h; dsimp only at h
    split at h
    · simp only [Bool.and_eq_true, decide_eq_true_eq] at h
      obtain ⟨⟨⟨⟨h0, h1⟩, h2⟩, h3⟩, h4⟩ := h
      rw [show evi G C (.rng ms) = (fRng (evs G C ms)) from funext fun ρ => funext fun S => by rw [evi]; rfl]
      exact pi_rng g h0 h1 h2 h3 (chkEs_len h4) (sndEs ms g _ h2 h4)
    · cases h
  | .enum m, X, CX, E, lv, c, g, e, tg, h, ht => by
    rw [chkI.eq_def] at h; dsimp only at h
    split at h
    · simp only [Bool.and_eq_true, decide_eq_true_eq] at h
      obtain ⟨⟨⟨h0, h1⟩, h2⟩, h3⟩ := h
      rw [show evi G C (.enum m) = (fEnum (ev G C m)) from funext fun ρ => funext fun S => by rw [evi]; unfold fEnum Res.rv; rw [bind_bind]; first | done | rfl]
      cases tg with
      | Tuple es k tp => exact pi_en g h0 h1 h2 (sndE m g _ h3).pe
      | _ => simp [isTup, I.plain] at ht
    · cases h
  | .zip m n, X, CX, E, lv, c, g, e, tg, h, ht => by
    rw [chkI.eq_def] at h; dsimp only at h
    split at h
    · simp only [Bool.and_eq_true, decide_eq_true_eq] at h
      obtain ⟨⟨⟨⟨⟨h0, h1⟩, h2⟩, h3⟩, h4⟩, h5⟩ := h
      rw [show evi G C (.zip m n) = (fZip (ev G C m) (ev G C n)) from funext fun ρ => funext fun S => by rw [evi]; unfold fZip; rw [bind_bind]; congr 1; funext x S1; congr 1; funext v S2; rw [bind_bind]; first | done | rfl]
      cases tg with
      | Tuple es k tp => exact pi_zp g h0 h1 h2 h3 (sndE m g _ h4).pe (sndE n g _ h5).pe
      | _ => simp [isTup, I.plain] at ht
    · cases h
end
end Rf

set_option Elab.async false
set_option linter.all false
set_option maxRecDepth 100000
set_option maxHeartbeats 4000000
namespace Rf
open PySem PySem.Spec PyProof.Rows L2
/-! ### statements -/
def okS (K : PySem.W.Frag) (mg : Mg) (E : XK) (Dn : Ends) (H : Hp) (cm : List CA) (S : Store) : Out → Prop
  | .nx ρ' S' => ∀ σ' H' cm', Tr H cm S H' cm' S' → SR K H' cm' S' → ER K H' cm' S' ρ' σ' → Dn.nx σ' H'
  | .brk ρ' S' => ∀ σ' H' cm', Tr H cm S H' cm' S' → SR K H' cm' S' → ER K H' cm' S' ρ' σ' → Dn.bk σ' H'
  | .cnt ρ' S' => ∀ σ' H' cm', Tr H cm S H' cm' S' → SR K H' cm' S' → ER K H' cm' S' ρ' σ' → Dn.ct σ' H'
  | .ret r S' => ∀ v H' cm', PX K H cm S v r H' cm' S' → Dn.rt v H'
  | .exc x S' => RE K mg E H cm S x S'
  | .stuck => False
def tS (K : PySem.W.Frag) (mg : Mg) (E : XK) (f : Rf.Env → Store → Out) : TS := fun Dn σ H => ∃ ρ cm S, SR K H cm S ∧ ER K H cm S ρ σ ∧ okS K mg E Dn H cm S (f ρ S)
section
variable {K : PySem.W.Frag} {mg : Mg} {E : XK} {H H1 H' : Hp} {cm cm1 cm' : List CA} {S S1 S' : Store} {ρ : Rf.Env} {σ : L2.St} {Dn : Ends}
theorem okS.step (t : Tr H cm S H1 cm1 S1) {o : Out} (h : okS K mg E Dn H cm S o) : okS K mg E Dn H1 cm1 S1 o := by
  cases o with
  | nx ρ S' => exact fun σ' H' cm' t' => h σ' H' cm' (t.trans t')
  | brk ρ S' => exact fun σ' H' cm' t' => h σ' H' cm' (t.trans t')
  | cnt ρ S' => exact fun σ' H' cm' t' => h σ' H' cm' (t.trans t')
  | ret r S' => exact fun v H' cm' p => h v H' cm' (p.tr t)
  | exc x S' => exact RE.step t h
  | stuck => exact h
theorem okS.zok : Zok K mg E Out.exc .stuck (okS K mg E Dn) := ⟨fun h => h, fun h => h, fun t h => okS.step t h⟩
theorem rd_seq {f g : Rf.Env → Store → Out} (h : tS K mg E (fun ρ S => (f ρ S).then g) Dn σ H) : tSeq (tS K mg E f) (tS K mg E g) Dn σ H := by
  obtain ⟨ρ, cm, S, hs, he, q⟩ := h
  refine ⟨ρ, cm, S, hs, he, ?_⟩
  dsimp only at q
  cases e : f ρ S with
  | nx ρ1 S1 =>
    rw [e] at q
    exact fun σ' H' cm' t s er => ⟨ρ1, cm', S1, s, er, okS.step t q⟩
  | brk ρ S' => rw [e] at q; exact q
  | cnt ρ S' => rw [e] at q; exact q
  | ret r S' => rw [e] at q; exact q
  | exc x S' => rw [e] at q; exact q
  | stuck => rw [e] at q; exact q
/-- what is wanted where a test is told -/
theorem rd_test {fc : Rd' RX} {fa fb : Rf.Env → Store → Out} (h : tS K mg E (fun ρ S => (fc ρ S).out fun x S1 => match boolV x with
      | some true => fa ρ S1
      | some false => fb ρ S1
      | none => .stuck) Dn σ H) : tIfS (tB K mg E fun ρ S => (fc ρ S).tru) (tS K mg E fa) (tS K mg E fb) Dn σ H := by
  obtain ⟨ρ, cm, S, hs, he, q⟩ := h
  refine ⟨ρ, cm, S, hs, he, ?_⟩
  dsimp only at q ⊢
  cases e : fc ρ S with
  | stuck => rw [e] at q; exact q.elim
  | exc x S1 => rw [e] at q; exact q
  | ok x S1 =>
    rw [e] at q
    simp only [Res.out_ok] at q
    cases e2 : boolV x with
    | none => rw [e2] at q; exact q.elim
    | some k =>
      have : (Res.ok x S1).tru = .ok k S1 := by unfold Res.tru; simp [e2]
      rw [this]
      rw [e2] at q
      intro b H1 cm1 p
      obtain ⟨t, s, rfl⟩ := p
      cases b with
      | true => exact ⟨ρ, cm1, S1, s, he.mono t hs, okS.step t q⟩
      | false => exact ⟨ρ, cm1, S1, s, he.mono t hs, okS.step t q⟩
theorem rd_set {f : Rd' RX} {i : Nat} {m : Md} (h : tS K mg E (fun ρ S => (f ρ S).out fun x S1 => (conv m x S1).out fun v S2 => .nx (ρ.set i (some v)) S2) Dn σ H) : tAsg (tX K mg E f) (gName i) Dn σ H := by
  obtain ⟨ρ, cm, S, hs, he, q⟩ := h
  refine tG_out okS.zok hs he q fun x S1 v H1 cm1 _ p z => ?_
  cases e1 : conv m x S1 with
  | stuck => rw [e1] at z; exact z.elim
  | exc x S2 => exact absurd e1 conv_noexc
  | ok r S2 =>
    rw [e1] at z
    obtain ⟨cm2, t2, s2, v2⟩ := p.conv hs e1
    exact z _ H1 cm2 t2 s2 ((he.mono t2 hs).set v2)
theorem rd_ret {f : Rd' RX} (h : tS K mg E (fun ρ S => (f ρ S).out fun x S1 => .ret x S1) Dn σ H) : tRet (tX K mg E f) Dn σ H := by
  obtain ⟨ρ, cm, S, hs, he, q⟩ := h
  exact tG_out okS.zok hs he q fun x S1 v H1 cm1 _ p z => z v H1 cm1 p
theorem rd_drop {f : Rd' RX} (h : tS K mg E (fun ρ S => (f ρ S).out fun _ S1 => .nx ρ S1) Dn σ H) : tDrop (tX K mg E f) Dn σ H := by
  obtain ⟨ρ, cm, S, hs, he, q⟩ := h
  refine tG_out okS.zok hs he q fun x S1 v H1 cm1 _ p z => ?_
  obtain ⟨cm2, t, s⟩ : ∃ cm2, Tr H cm S H1 cm2 S1 ∧ SR K H1 cm2 S1 := by
    cases x with
    | f ds =>
      obtain ⟨pa, _, pre, t, s⟩ := p
      exact ⟨cm1, fr_tr (fr_len s) t pre, fr_sr s⟩
    | fm ds =>
      obtain ⟨pa, os, _, pre, t, s⟩ := p
      exact ⟨cm1, fr_tr (fr_len s) t pre, fr_sr s⟩
    | tf d0 ds =>
      obtain ⟨pa, _, _, _, _, _, pre, t, s⟩ := p
      exact ⟨cm1, fr_tr (fr_len s) t pre, fr_sr s⟩
    | _ => exact ⟨cm1, p.1, p.2.1⟩
  exact z σ H1 cm2 t s (he.mono t hs)
theorem setsV_er : ∀ {is : List Nat} {rs : List RV} {vs : List V} {ρ : Rf.Env} {σ : L2.St}, ER K H cm S ρ σ → VsOk K H cm S vs rs → ER K H cm S (setsV is rs ρ) ((is.zip vs).foldl (fun σ p => σ.set p.1 (some p.2)) σ)
  | [], [], _, _, _, e, .nil => e
  | [], _ :: _, _, _, _, e, .cons _ _ => e
  | i :: is, [], _, _, _, e, .nil => e
  | i :: is, r :: rs, v :: vs, ρ, σ, e, .cons h q => setsV_er (is := is) (e.set (i := i) h) q
theorem vs_of_ds : ∀ {vs : List V} {ds : List D}, Rps K H (Lv cm S) vs ds → VsOk K H cm S vs (ds.map RV.d)
  | _, _, .nil => .nil
  | _, _, .cons h q => .cons h (vs_of_ds q)
theorem pg_or {X : Cx} {tg : Expr} {t t' : L2.TG} (h : PG X tg t) (h' : PG X tg t') : PG X tg (fun v σ H Q => t v σ H Q ∨ t' v σ H Q) :=
  ⟨fun pins s σ H v u Q I r hw => hw.elim (fun z => h.run pins s σ H v u Q I r z) fun z => h'.run pins s σ H v u Q I r z⟩
theorem rd_unp {f : Rd' RX} {is : List Nat} {n : Nat} (hn : n = is.length) (h : tS K mg E (fun ρ S => (f ρ S).rv.out fun x S1 => match x with
    | .d (.tup ds) => if ds.length = is.length then .nx (setsV is (ds.map .d) ρ) S1 else .stuck
    | .d (.lst ds) => if ds.length = is.length then .nx (setsV is (ds.map .d) ρ) S1 else .stuck
    | _ => .stuck) Dn σ H) : tAsg (tV K mg E fun ρ S => (f ρ S).rv) (fun v σ H Q => gTup K n (gNs is) v σ H Q ∨ gUnl K n (gNs is) v σ H Q) Dn σ H := by
  obtain ⟨ρ, cm, S, hs, he, q⟩ := h
  refine tG_out (f := fun ρ S => (f ρ S).rv) okS.zok hs he q fun x S1 v H1 cm1 _ p z => ?_
  obtain ⟨t, s, vx⟩ := p
  cases x with
  | c n => exact z.elim
  | g n m => exact z.elim
  | r n m => exact z.elim
  | d d => cases d with
    | tup ds =>
      have rp : Rp K H1 (Lv cm1 S1) v (.tup ds) := vx
      cases rp with
      | tup ht rv =>
        dsimp only at z
        split at z
        · rename_i hl
          refine .inl ⟨_, _, rfl, ht, by rw [rv.length, hl, hn], by rw [rv.length, hl], ?_⟩
          exact z _ H1 cm1 t s (setsV_er (he.mono t hs) (vs_of_ds rv))
        · exact z.elim
    | lst ds =>
      have rp : Rp K H1 (Lv cm1 S1) v (.lst ds) := vx
      cases rp with
      | lst ht rv =>
        dsimp only at z
        split at z
        · rename_i hl
          refine .inr ⟨_, _, rfl, ht.sq, by rw [rv.length, hl, hn], by rw [rv.length, hl], ?_⟩
          exact z _ H1 cm1 t s (setsV_er (he.mono t hs) (vs_of_ds rv))
        · exact z.elim
    | _ => exact z.elim
theorem rd_par {fs : Rd' (List RV)} {is : List Nat} (h : tS K mg E (fun ρ S => (fs ρ S).out fun vs S1 => if vs.length = is.length then .nx (setsV is vs ρ) S1 else .stuck) Dn σ H) {P : List V → Hp → Prop}
    (k : ∀ (ws : List V) H1, ws.length = is.length → (∀ H2 (p : Addr), (H2 = H1 ∨ (H1 p = none ∧ H2 = upd H1 p (.tup ws))) → Dn.nx ((is.zip ws).foldl (fun σ p => σ.set p.1 (some p.2)) σ) H2) → P ws H1) : tA K mg E fs σ H P := by
  obtain ⟨ρ, cm, S, hs, he, q⟩ := h
  refine tG_out okS.zok hs he q fun vs S1 ws H1 cm1 _ p z => ?_
  obtain ⟨t, s, vv⟩ := p
  split at z
  · rename_i hl
    refine k ws H1 (by rw [vv.length, hl]) fun H2 p hp => ?_
    have e := setsV_er (is := is) (he.mono t hs) vv
    rcases hp with rfl | ⟨hp, rfl⟩
    · exact z _ H2 cm1 t s e
    · exact z _ _ cm1 (t.trans (Tr.new s hp)) (s.new hp) (e.mono (Tr.new s hp) s)
  · exact z.elim
end
section
variable {X : Cx} {CX : CXT} {E : XK} {lv : Nat} {c : Ct} {G : List Mir} {C : List D} {a b d e v : Expr} {fa fb fc fd : Rd' RX} {pos p : Pos} {es vs : List Expr}
structure Gs (X : Cx) (CX : CXT) (E : XK) (lv : Nat) (c : Ct) (G : List Mir) (C : List D) : Prop extends Gd X CX E lv c G C where
  kind : X.env.scope.kind = .function
  pown : PassesOwn (model X.prog X.w) X.A X.env X.xe
  allfn : ∀ x, X.fn x = true
def notLc : Expr → Bool
  | .ListComp .. => false
  | .SetComp .. => false
  | .DictComp .. => false
  | _ => true
theorem sw_no {t : Option Expr} {l : Nat} {env : PySem.Env} (h : notLc v = true) : swapsWith v t l env = pure false := by
  cases v <;> first | rfl | simp [notLc] at h
theorem sw_far {elt : Expr} {gs : List Comprehension} {scope : Scope} {lp py : Pos} {y : Str} {l : Nat} {env : PySem.Env} (h : (py.line == lp.line) = false) : swapsWith (.ListComp elt gs scope lp) (some (.Name y py)) l env = pure false := by
  unfold swapsWith
  simp only [Expr.pos, h, Bool.and_false, Bool.false_and]
theorem ps_set' (g : Gs X CX E lv c G C) {i : Nat} {x : Str} {m : Md} (h1 : c.slot i x = true) (h2 : c.loc x = true) (hs : swapsWith v (some (.Name x p)) pos.line X.env = pure false) (hv : PE X v (tX X.K X.mg E fa)) : PS X (.Assign [.Name x p] v pos) (tS X.K X.mg E fun ρ S => (fa ρ S).out fun x S1 => (conv m x S1).out fun v S2 => .nx (ρ.set i (some v)) S2) := by
  have hl := g.loc h2
  exact PS.imp (ps_set g.nd (g.slot h1) hl.1 hv hs hl.2) fun Dn σ H h => rd_set h
theorem sw_cell {elt : Expr} {gs : List Comprehension} {scope : Scope} {lp py : Pos} {y : Str} {l : Nat} {env : PySem.Env} (h : env.scope.names.lookup y = some .cell) : swapsWith (.ListComp elt gs scope lp) (some (.Name y py)) l env = pure false := by
  unfold swapsWith PySem.Env.kindOf
  simp only [h]
  have e : ((some NameKind.cell == some NameKind.local) : Bool) = false := by decide
  rw [e]
  simp
theorem ps_exp' (g : Gs X CX E lv c G C) (hs : notLc v = true) (hv : PE X v (tX X.K X.mg E fa)) : PS X (.Expr v pos) (tS X.K X.mg E fun ρ S => (fa ρ S).out fun _ S1 => .nx ρ S1) :=
  PS.imp (ps_expr hv (sw_no hs)) fun Dn σ H h => rd_drop h
theorem ps_ret' (hv : PE X v (tX X.K X.mg E fa)) : PS X (.Return (some v) pos) (tS X.K X.mg E fun ρ S => (fa ρ S).out fun x S1 => .ret x S1) :=
  PS.imp (ps_ret hv) fun Dn σ H h => rd_ret h
theorem ps_retN' : PS X (.Return none pos) (tS X.K X.mg E fun ρ S => .ret (.d .non) S) :=
  PS.imp ps_retN fun Dn σ H ⟨ρ, cm, S, hs, he, q⟩ => q .non H cm (mkD hs .non)
theorem rd_nx {K : PySem.W.Frag} {mg : Mg} {Dn : Ends} {σ : L2.St} {H : Hp} (h : tS K mg E (fun ρ S => .nx ρ S) Dn σ H) : Dn.nx σ H := by
  obtain ⟨ρ, cm, S, hs, he, q⟩ := h
  exact q σ H cm Tr.refl hs he
theorem ps_pass' : PS X (.Pass pos) (tS X.K X.mg E fun ρ S => .nx ρ S) := PS.imp ps_pass fun Dn σ H h => rd_nx h
theorem ps_doc' {x : Str} {j : Nat} : PS X (.Expr (.Constant (.str x) j p) pos) (tS X.K X.mg E fun ρ S => .nx ρ S) := PS.imp ps_doc fun Dn σ H h => rd_nx h
theorem ps_brk' : PS X (.Break pos) (tS X.K X.mg E fun ρ S => .brk ρ S) := PS.imp ps_break fun Dn σ H ⟨ρ, cm, S, hs, he, q⟩ => q σ H cm Tr.refl hs he
theorem ps_cnt' : PS X (.Continue pos) (tS X.K X.mg E fun ρ S => .cnt ρ S) := PS.imp ps_continue fun Dn σ H ⟨ρ, cm, S, hs, he, q⟩ => q σ H cm Tr.refl hs he
def notTup : Expr → Bool
  | .Tuple .. => false
  | _ => true
theorem sole_tup {ts : List Expr} {k : Nat} {l : Nat} {env : PySem.Env} : swapsWithSole [.Tuple ts k p] v l env = pure false := by
  cases v <;> rfl
theorem stores_tup {ts : List Expr} {k : Nat} {env : PySem.Env} (h : notTup v = true) : swappedStores [.Tuple ts k p] v env = pure none := by
  cases v <;> first | rfl | simp [notTup] at h
theorem ps_unp' (g : Gs X CX E lv c G C) {ts : List Expr} {k : Nat} {is : List Nat} (h1 : chkNs c ts is = true) (h2 : notTup v = true) (hv : PE X v (tX X.K X.mg E fa)) : PS X (.Assign [.Tuple ts k p] v pos) (tS X.K X.mg E fun ρ S => (fa ρ S).rv.out fun x S1 => match x with
    | .d (.tup ds) => if ds.length = is.length then .nx (setsV is (ds.map .d) ρ) S1 else .stuck
    | .d (.lst ds) => if ds.length = is.length then .nx (setsV is (ds.map .d) ρ) S1 else .stuck
    | _ => .stuck) := by
  obtain ⟨a1, a2, a3⟩ := pgs_ns g.toGd h1
  exact PS.imp (ps_asg (pe_rv hv) (pg_or (pg_tup g.calm a1 rfl a3) (pg_unl g.calm a1 rfl a3)) sole_tup (stores_tup h2) rfl) fun Dn σ H h => rd_unp a2 h
/-- what is swapped, by the scope -/
def swP (sc : Scope) (ts vs : List Expr) : Option (Option (List Str)) :=
  if !(ts.length == 2 || ts.length == 3) || vs.length != ts.length then some none
  else if vs.any fun | .Starred .. => true | _ => false then some none
  else if (ts.filterMap fun
    | .Name id pos => if sc.names.lookup id == some .local && pos.line == (ts.head?.map (·.pos.line)).getD 0 then some id else none
    | _ => none).length != ts.length || (ts.filterMap fun
    | .Name id pos => if sc.names.lookup id == some .local && pos.line == (ts.head?.map (·.pos.line)).getD 0 then some id else none
    | _ => none).eraseDups.length != (ts.filterMap fun
    | .Name id pos => if sc.names.lookup id == some .local && pos.line == (ts.head?.map (·.pos.line)).getD 0 then some id else none
    | _ => none).length then some none
  else if vs.all (foldedForSure 8) then some none
  else if vs.all (constantsAlone 8) then none
  else some (some (ts.filterMap fun
    | .Name id pos => if sc.names.lookup id == some .local && pos.line == (ts.head?.map (·.pos.line)).getD 0 then some id else none
    | _ => none))
theorem swP_ok {ts vs : List Expr} {k k2 : Nat} {p2 : Pos} {env : PySem.Env} {o : Option (List Str)} (hk : env.scope.kind = .function) (h : swP env.scope ts vs = some o) : swappedStores [.Tuple ts k p] (.Tuple vs k2 p2) env = pure o := by
  have hb : env.blockKind = .function := by unfold PySem.Env.blockKind; rw [hk]; rfl
  unfold swP at h
  have hbk : (env.blockKind != ScopeKind.function) = false := by rw [hb]; rfl
  unfold swappedStores
  simp only [hbk, Bool.or_false]
  split at h
  · rename_i c1; cases h; exact if_pos c1
  · rename_i c1
    refine (if_neg c1).trans ?_
    split at h
    · rename_i c2; cases h; exact if_pos c2
    · rename_i c2
      refine (if_neg c2).trans ?_
      split at h
      · rename_i c3; cases h; exact if_pos c3
      · rename_i c3
        refine (if_neg c3).trans ?_
        split at h
        · rename_i c4; cases h; exact if_pos c4
        · rename_i c4
          refine (if_neg c4).trans ?_
          split at h
          · cases h
          · rename_i c5
            cases h
            exact if_neg c5
/-! a, b = x, y -/
theorem foldl_two {i j : Nat} {σ : L2.St} {v w : V} : ([i, j].zip [v, w]).foldl (fun σ p => σ.set p.1 (some p.2)) σ = (σ.set i (some v)).set j (some w) := rfl
theorem ps_par2' (g : Gs X CX E lv c G C) {i j k k2 : Nat} {x y : Str} {px py pt p2 : Pos} {fs : Rd' (List RV)} (h1 : c.slot i x = true) (h2 : c.slot j y = true) (hij : i ≠ j) (hx : c.sc.names.lookup x = some .local) (hy : c.sc.names.lookup y = some .local)
    (hw : swP c.sc [.Name x px, .Name y py] [a, b] = some (some [x, y])) (ha : PA X [a, b] (tA X.K X.mg E fs)) :
    PS X (.Assign [.Tuple [.Name x px, .Name y py] k pt] (.Tuple [a, b] k2 p2) pos) (tS X.K X.mg E fun ρ S => (fs ρ S).out fun vs S1 => if vs.length = [i, j].length then .nx (setsV [i, j] vs ρ) S1 else .stuck) := by
  refine PS.imp (ps_par g.calm g.nd (g.slot h1) (g.slot h2) hij (by rw [g.sc]; exact hx) (by rw [g.sc]; exact hy) ha (swP_ok g.kind (by rw [g.sc]; exact hw)) sole_tup) fun Dn σ H h => rd_par h fun ws H1 hl k => ?_
  match ws, hl with
  | [u, w], _ => exact ⟨u, w, rfl, k H1 0 (.inl rfl)⟩
theorem ps_par3' (g : Gs X CX E lv c G C) {i j l k k2 : Nat} {x y z : Str} {px py pz pt p2 : Pos} {fs : Rd' (List RV)} (h1 : c.slot i x = true) (h2 : c.slot j y = true) (h3 : c.slot l z = true) (hij : i ≠ j) (hil : i ≠ l) (hjl : j ≠ l) (hx : c.sc.names.lookup x = some .local) (hy : c.sc.names.lookup y = some .local) (hz : c.sc.names.lookup z = some .local)
    (hw : swP c.sc [.Name x px, .Name y py, .Name z pz] [a, b, d] = some (some [x, y, z])) (ha : PA X [a, b, d] (tA X.K X.mg E fs)) :
    PS X (.Assign [.Tuple [.Name x px, .Name y py, .Name z pz] k pt] (.Tuple [a, b, d] k2 p2) pos) (tS X.K X.mg E fun ρ S => (fs ρ S).out fun vs S1 => if vs.length = [i, j, l].length then .nx (setsV [i, j, l] vs ρ) S1 else .stuck) := by
  refine PS.imp (ps_par3 g.calm g.nd (g.slot h1) (g.slot h2) (g.slot h3) hij hil hjl (by rw [g.sc]; exact hx) (by rw [g.sc]; exact hy) (by rw [g.sc]; exact hz) ha (swP_ok g.kind (by rw [g.sc]; exact hw)) sole_tup) fun Dn σ H h => rd_par h fun ws H1 hl k => ?_
  match ws, hl with
  | [u, w, w2], _ => exact ⟨u, w, w2, rfl, k H1 0 (.inl rfl)⟩
theorem ps_parN' (g : Gs X CX E lv c G C) {ts : List Expr} {k k2 : Nat} {is : List Nat} {pt p2 : Pos} {fs : Rd' (List RV)} (h1 : chkNs c ts is = true) (hlen : is.length ≤ 64) (hw : swP c.sc ts vs = some none) (ha : PA X vs (tA X.K X.mg E fs)) :
    PS X (.Assign [.Tuple ts k pt] (.Tuple vs k2 p2) pos) (tS X.K X.mg E fun ρ S => (fs ρ S).out fun vs S1 => if vs.length = is.length then .nx (setsV is vs ρ) S1 else .stuck) := by
  obtain ⟨a1, a2, a3⟩ := pgs_ns g.toGd h1
  refine PS.imp (ps_asg (pe_tup ha) (pg_tup g.calm a1 rfl a3) sole_tup (swP_ok g.kind (by rw [g.sc]; exact hw)) rfl) fun Dn σ H h => rd_par h fun ws H1 hl k => ⟨by rw [hl]; exact Nat.le_trans hlen (by rw [sizeLine_eq]; decide), fun q hq => ⟨q, ws, rfl, .inl (.inl upd_same), by rw [hl, a2], by rw [hl], k _ q (.inr ⟨hq, rfl⟩)⟩⟩
/-! o[i] = v -/
def fSub (fo fi fa : Rd' RX) : Rf.Env → Store → Out := fun ρ S => (fa ρ S).out fun x S1 => (asD x S1).out fun d S2 => (fo ρ S2).out fun y S3 => match y with
    | .c n => (fi ρ S3).rv.out fun z S4 => (match z with
      | .d (.int k) => (match S4[n]? with
        | some (.lst ds) => (match ixN ds.length k with
          | some j => .nx ρ (S4.set n (.lst (ds.set j d)))
          | none => .stuck)
        | some (.mx es) => (match ixN es.length k with
          | some j => (match es[j]? with
            | some (.a _) => .nx ρ (S4.set n (.mx (es.set j (.a d))))
            | _ => .stuck)
          | none => .stuck)
        | _ => .stuck)
      | _ => .stuck)
    | .r n h => (fi ρ S3).rv.out fun z S4 => (match z with
      | .d (.int k) => (match mxAt S4 n with
        | some es => (match es[h]? with
          | some (.l ds) => (match ixN ds.length k with
            | some j => .nx ρ (S4.set n (.mx (es.set h (.l (ds.set j d)))))
            | none => .stuck)
          | _ => .stuck)
        | none => .stuck)
      | _ => .stuck)
    | _ => .stuck
theorem ps_sub' (g : Gs X CX E lv c G C) {o i : Expr} {fo fi : Rd' RX} (hi : notSl i = true) (ho : PE X o (tX X.K X.mg E fo)) (hix : PE X i (tX X.K X.mg E fi)) (hv : PE X v (tX X.K X.mg E fa)) : PS X (.Assign [.Subscript o i p] v pos) (tS X.K X.mg E (fSub fo fi fa)) := by
  refine PS.imp (ps_asg (pe_asD hv) (pg_sub ho (pe_rv hix) set_list (by cases i <;> first | (intro _; rfl) | simp [notSl] at hi)) (by cases v <;> rfl) (by cases v <;> rfl) rfl) fun Dn σ H ⟨ρ, cm, S, hs, he, q⟩ => ?_
  have e9 : ∀ {r : Res RX} {k : D → Store → Out}, (r.out fun x S3 => (asD x S3).out k) = (r.bind asD).out k := fun {r k} => by
    cases r with
    | ok a S => rfl
    | _ => rfl
  unfold fSub at q
  rw [e9] at q
  refine tG_out (f := fun ρ S => (fa ρ S).bind asD) okS.zok hs he q fun d S1 v H1 cm1 _ p z => ?_
  obtain ⟨t1, s1, rd⟩ := p
  have he1 := he.mono t1 hs
  refine tG_out okS.zok s1 he1 (okS.step t1 z) fun y S2 w H2 cm2 _ p2 z => ?_
  cases y with
  | d d => exact z.elim
  | f ds => exact z.elim
  | fm ds => exact z.elim
  | tc d0 n => exact z.elim
  | tf d0 ds => exact z.elim
  | g n m => exact z.elim
  | c n =>
    obtain ⟨t2, s2, v2⟩ := p2
    have he2 := he1.mono t2 s1
    refine tG_out (f := fun ρ S => (fi ρ S).rv) okS.zok s2 he2 (okS.step t2 z) fun z S3 u H3 cm3 _ p3 z3 => ?_
    obtain ⟨t3, s3, vz⟩ := p3
    have z3 := okS.step t3 z3
    have v3 := VOk.mono t3 s2 v2
    obtain ⟨ad, os, rfl, ha3⟩ := v3
    have rd3 := (rd.mono (t2.toExt s1)).mono (t3.toExt s2)
    have he3 := he2.mono t3 s2
    cases z with
    | c n => exact z3.elim
    | g n m => exact z3.elim
    | r n m => exact z3.elim
    | d dz => cases dz with
      | int k =>
        cases vz
        dsimp only at z3
        cases e2 : S3[n]? with
        | none => rw [e2] at z3; exact z3.elim
        | some cl => cases cl with
          | fz ds => rw [e2] at z3; exact z3.elim
          | lst ds =>
            rw [e2] at z3
            dsimp only at z3
            obtain ⟨ws, hH, rv⟩ := s3.okL ha3 e2
            cases e3 : ixN ds.length k with
            | none => rw [e3] at z3; exact z3.elim
            | some j =>
              rw [e3] at z3
              refine ⟨ad, ws, k, j, rfl, rfl, hH, by rw [rv.length]; exact e3, ?_⟩
              have tr := wr_tr (es := ds.set j d) s3 ha3 e2 (.lst (ws.set j v))
              exact z3 σ _ cm3 tr (wr_sr s3 ha3 e2 (Rps.set rd3 j rv)) (he3.mono tr s3)
          | mx es =>
            rw [e2] at z3
            dsimp only at z3
            obtain ⟨ws, hH, rv⟩ := s3.okM ha3 e2
            cases e3 : ixN es.length k with
            | none => rw [e3] at z3; exact z3.elim
            | some j =>
              rw [e3] at z3
              dsimp only at z3
              cases e4 : es[j]? with
              | none => rw [e4] at z3; exact z3.elim
              | some el => cases el with
                | l ds => rw [e4] at z3; exact z3.elim
                | a d0 =>
                  rw [e4] at z3
                  obtain ⟨_, _, ho, _⟩ := rv.at_a e4
                  refine ⟨ad, ws, k, j, rfl, rfl, hH, by rw [rv.length.1]; exact e3, ?_⟩
                  have tr := wm_tr (fs := es.set j (.a d)) s3 ha3 e2 (.lst (ws.set j v))
                  exact z3 σ _ cm3 tr (wm_sr s3 ha3 e2 (rv.set_a rd3 j ho)) (he3.mono tr s3)
      | _ => exact z3.elim
  | r n h =>
    obtain ⟨t2, s2, v2⟩ := p2
    have he2 := he1.mono t2 s1
    refine tG_out (f := fun ρ S => (fi ρ S).rv) okS.zok s2 he2 (okS.step t2 z) fun z S3 u H3 cm3 _ p3 z3 => ?_
    obtain ⟨t3, s3, vz⟩ := p3
    have z3 := okS.step t3 z3
    have v3 := VOk.mono t3 s2 v2
    obtain ⟨ad, os, b, rfl, ha3, hb⟩ := v3
    have rd3 := (rd.mono (t2.toExt s1)).mono (t3.toExt s2)
    have he3 := he2.mono t3 s2
    cases z with
    | c n => exact z3.elim
    | g n m => exact z3.elim
    | r n m => exact z3.elim
    | d dz => cases dz with
      | int k =>
        cases vz
        dsimp only at z3
        cases e2 : mxAt S3 n with
        | none => rw [e2] at z3; exact z3.elim
        | some es =>
          rw [e2] at z3
          dsimp only at z3
          have e2 := mxAt_some e2
          obtain ⟨ws, hH, rv⟩ := s3.okM ha3 e2
          cases e4 : es[h]? with
          | none => rw [e4] at z3; exact z3.elim
          | some el => cases el with
            | a d0 => rw [e4] at z3; exact z3.elim
            | l ds =>
              rw [e4] at z3
              dsimp only at z3
              obtain ⟨b', us, _, hb', hHb, hu⟩ := rv.at_row e4
              rw [hb] at hb'; cases hb'
              cases e3 : ixN ds.length k with
              | none => rw [e3] at z3; exact z3.elim
              | some j =>
                rw [e3] at z3
                refine ⟨b, us, k, j, rfl, rfl, hHb, by rw [hu.length]; exact e3, ?_⟩
                have tr := wrow_tr (fs := es.set h (.l (ds.set j d))) s3 ha3 e2 hb (.lst (us.set j v))
                exact z3 σ _ cm3 tr (wrow_sr s3 ha3 e2 hb (Rps.set rd3 j hu)) (he3.mono tr s3)
      | _ => exact z3.elim
end
end Rf

set_option Elab.async false
set_option linter.all false
set_option maxRecDepth 100000
set_option maxHeartbeats 4000000
namespace Rf
open PySem PySem.Spec PyProof.Rows L2
section
variable {X : Cx} {CX : CXT} {E : XK} {lv : Nat} {c : Ct} {G : List Mir} {C : List D} {a b d e v tgE iter : Expr} {fa fb fc fd : Rd' RX} {pos p : Pos} {es vs : List Expr} {body : List Stmt}
/-! name += e -/
def fAug (i : Nat) (op : Operator) (fa : Rd' RX) : Rf.Env → Store → Out := fun ρ S => match ρ[i]? with
    | some (some (.d (.int a))) => (fa ρ S).out fun x S1 => (match x, op with
      | .d (.int b), .Add => .nx (ρ.set i (some (.d (.int (a + b))))) S1
      | .d (.int b), .Sub => .nx (ρ.set i (some (.d (.int (a - b))))) S1
      | _, _ => .stuck)
    | _ => .stuck
theorem ps_aug' (g : Gs X CX E lv c G C) {i : Nat} {x : Str} {op : Operator} (hop : op = .Add ∨ op = .Sub) (h1 : c.slot i x = true) (h2 : c.loc x = true) (hv : PE X v (tX X.K X.mg E fa)) : PS X (.AugAssign (.Name x p) op v pos) (tS X.K X.mg E (fAug i op fa)) := by
  have hl := g.loc h2
  have key : ∀ {ti : TIp} {f : Int → Int → Int} {Dn : Ends} {σ : L2.St} {H : Hp}, (ti = ipI f) → (∀ ρ cm S (a : Int), SR X.K H cm S → ER X.K H cm S ρ σ → True) → tS X.K X.mg E (fun ρ S => match ρ[i]? with
    | some (some (.d (.int a))) => (fa ρ S).out fun x S1 => (match x with
      | .d (.int b) => .nx (ρ.set i (some (.d (.int (f a b))))) S1
      | _ => .stuck)
    | _ => .stuck) Dn σ H → tAug i (tX X.K X.mg E fa) ti Dn σ H := fun {ti f Dn σ H} et _ ⟨ρ, cm, S, hs, he, q⟩ => by
    subst et
    dsimp only at q
    cases e1 : ρ[i]? with
    | none => rw [e1] at q; exact q.elim
    | some o => cases o with
      | none => rw [e1] at q; exact q.elim
      | some r => cases r with
        | c n => rw [e1] at q; exact q.elim
        | g n m => rw [e1] at q; exact q.elim
        | r n m => rw [e1] at q; exact q.elim
        | d dd => cases dd with
          | int k =>
            rw [e1] at q
            obtain ⟨v, hv, rv⟩ := he.at' i _ e1
            cases (show Rp X.K H (Lv cm S) v (.int k) from rv)
            refine ⟨.int k, hv, tG_out okS.zok hs he q fun x S1 w H1 cm1 _ p z => ?_⟩
            cases x with
            | d d2 => cases d2 with
              | int j =>
                obtain ⟨t, s, rw'⟩ := p
                cases rw'
                exact ⟨k, j, rfl, rfl, z _ H1 cm1 t s ((he.mono t hs).set (r := .d _) (.int _))⟩
              | _ => exact z.elim
            | _ => exact z.elim
          | _ => rw [e1] at q; exact q.elim
  rcases hop with rfl | rfl
  · refine PS.imp (ps_aug g.nd (g.slot h1) hl.1 hv ip_add hl.2) fun Dn σ H h => key (f := fun i j => i + j) rfl (fun _ _ _ _ _ _ => trivial) ?_
    obtain ⟨ρ, cm, S, hs, he, q⟩ := h
    refine ⟨ρ, cm, S, hs, he, ?_⟩
    unfold fAug at q
    dsimp only at q ⊢
    split at q <;> first | exact q | skip
    rename_i a e1
    cases e2 : fa ρ S with
    | ok x S1 =>
      rw [e2] at q
      cases x with
      | d dd => cases dd <;> exact q
      | _ => exact q
    | exc x S1 => rw [e2] at q; exact q
    | stuck => rw [e2] at q; exact q
  · refine PS.imp (ps_aug g.nd (g.slot h1) hl.1 hv ip_sub hl.2) fun Dn σ H h => key (f := fun i j => i - j) rfl (fun _ _ _ _ _ _ => trivial) ?_
    obtain ⟨ρ, cm, S, hs, he, q⟩ := h
    refine ⟨ρ, cm, S, hs, he, ?_⟩
    unfold fAug at q
    dsimp only at q ⊢
    split at q <;> first | exact q | skip
    rename_i a e1
    cases e2 : fa ρ S with
    | ok x S1 =>
      rw [e2] at q
      cases x with
      | d dd => cases dd <;> exact q
      | _ => exact q
    | exc x S1 => rw [e2] at q; exact q
    | stuck => rw [e2] at q; exact q
/-! name.append(e) -/
theorem ps_app' (g : Gs X CX E lv c G C) {i : Nat} {x m : Str} {ap cp : Pos} (hm : m = "append") (hl : (ap.endLine == cp.line) = true) (h1 : c.slot i x = true) (h2 : c.vis x = true) (h3 : x ≠ dbg) (h4 : x ≠ cld) (hp : plainE v = true) (hv : PE X v (tX X.K X.mg E fa)) :
    PS X (.Expr (.Call (.Attribute (.Name x p) m ap) [v] [] cp) pos) (tS X.K X.mg E fun ρ S => match ρ[i]? with
    | some (some (.c n)) => (fa ρ S).out fun x S1 => (asD x S1).out fun d S2 => (match S2[n]? with
      | some (.lst ds) => if ds.length < line then .nx ρ (S2.set n (.lst (ds ++ [d]))) else .stuck
      | _ => .stuck)
    | _ => .stuck) := by
  subst hm
  have few : ((backTo cp (starEach [v] X.env)).all (fun x => !x.1) && (backToKw cp (keywordEach [] X.env)).all (fun x => x.1.isSome)
      && decide ([v].length + ([] : List Keyword).length + (if ([] : List Keyword).isEmpty then 0 else 1) < 30)) = true := by
    rw [star_noneS (by simp [hp])]; rfl
  refine PS.imp (ps_expr (pe_bm PySem.F.plainAttrs_list PySem.F.slot_list_append PySem.F.type_list_append mt_append (pe_var (g.slot h1) (g.vis h2) (ndb h3) (ncd h4)) (pa_cons (pe_asD hv) pa_nil (star_cons hp)) rfl few hl (star_cons hp) rfl) rfl) fun Dn σ H ⟨ρ, cm, S, hs, he, q⟩ => ?_
  dsimp only at q
  cases e1 : ρ[i]? with
  | none => rw [e1] at q; exact q.elim
  | some o => cases o with
    | none => rw [e1] at q; exact q.elim
    | some r => cases r with
      | d dd => rw [e1] at q; exact q.elim
      | g n m => rw [e1] at q; exact q.elim
      | r n m => rw [e1] at q; exact q.elim
      | c n =>
        rw [e1] at q
        dsimp only at q
        obtain ⟨w, hw, ad, os, rfl, ha⟩ := he.at' i _ e1
        obtain ⟨vs0, hH0⟩ := hs.trk n ad (.at_ ha)
        have e9 : ∀ {r : Res RX} {k : D → Store → Out}, (r.out fun x S3 => (asD x S3).out k) = (r.bind asD).out k := fun {r k} => by
          cases r with
          | ok a S => rfl
          | _ => rfl
        rw [e9] at q
        refine ⟨.ref ad, hw, .inl ⟨rfl, vs0, .of hH0⟩, tG_out (f := fun ρ S => (fa ρ S).bind asD) okS.zok hs he q fun d S1 u H1 cm1 _ p z => ?_⟩
        obtain ⟨t, s, rd⟩ := p
        have z := okS.step t z
        cases e2 : S1[n]? with
        | none => rw [e2] at z; exact z.elim
        | some cl => cases cl with
          | fz ds => rw [e2] at z; exact z.elim
          | mx ds => rw [e2] at z; exact z.elim
          | lst ds =>
            rw [e2] at z
            dsimp only at z
            obtain ⟨mo, ha1⟩ := t.pre n ad os ha
            obtain ⟨ws, hH, rv⟩ := s.okL ha1 e2
            split at z
            · rename_i hz
              refine ⟨ad, ws, u, rfl, rfl, hH, by rw [rv.length, ← line_eq]; exact hz, ?_⟩
              have tr := wr_tr (es := ds ++ [d]) s ha1 e2 (.lst (ws ++ [u]))
              exact z σ _ cm1 tr (wr_sr s ha1 e2 (rv.append (.cons rd .nil))) ((he.mono t hs).mono tr s)
            · exact z.elim
/-! o.append(e) -/
def fApx (fo fa : Rd' RX) : Rf.Env → Store → Out := fun ρ S => (fo ρ S).out fun y S0 => (conv .cel y S0).out fun w S1 => match w with
    | .c n => (fa ρ S1).out fun x S2 => (match S2[n]? with
      | some (.mx _) => (asX x S2).out fun v S3 => (match S3[n]? with
        | some (.mx es) => if es.length < line then .nx ρ (S3.set n (.mx (es ++ [v]))) else .stuck
        | _ => .stuck)
      | some (.lst _) => (asD x S2).out fun d S3 => (match S3[n]? with
        | some (.lst ds) => if ds.length < line then .nx ρ (S3.set n (.lst (ds ++ [d]))) else .stuck
        | _ => .stuck)
      | _ => .stuck)
    | .r n h => (fa ρ S1).out fun x S2 => (asD x S2).out fun d S3 => (match mxAt S3 n with
      | some es => (match es[h]? with
        | some (.l ds) => if ds.length < line then .nx ρ (S3.set n (.mx (es.set h (.l (ds ++ [d]))))) else .stuck
        | _ => .stuck)
      | none => .stuck)
    | _ => .stuck
theorem asD_ok {K : PySem.W.Frag} {H H' : Hp} {cm cm' : List CA} {S S' S2 : Store} {v : V} {r : RX} {d : D} (hs : SR K H cm S) (p : PX K H cm S v r H' cm' S') (e : asD r S' = .ok d S2) : ∃ cm2, Tr H cm S H' cm2 S2 ∧ SR K H' cm2 S2 ∧ Rp K H' (Lv cm2 S2) v d := by
  unfold asD at e
  cases ec : conv .dat r S' with
  | exc x S6 => exact absurd ec conv_noexc
  | stuck => rw [ec] at e; cases e
  | ok rv S6 =>
    rw [ec] at e
    obtain ⟨cm6, t6, s6, v6⟩ := p.conv hs ec
    cases rv with
    | d d' => cases e; exact ⟨cm6, t6, s6, v6⟩
    | _ => cases e
theorem asD_noexc {r : RX} {S S2 : Store} {x : Exn} : asD r S ≠ .exc x S2 := by
  unfold asD
  cases ec : conv .dat r S with
  | exc x S6 => exact absurd ec conv_noexc
  | stuck => simp
  | ok rv S6 => cases rv <;> simp
theorem ps_apx' (g : Gs X CX E lv c G C) {m : Str} {o : Expr} {ap cp : Pos} {fo : Rd' RX} (hm : m = "append") (hl : (ap.endLine == cp.line) = true) (hn : notCall o = true) (hp : plainE v = true) (ho : PE X o (tX X.K X.mg E fo)) (hv : PE X v (tX X.K X.mg E fa)) :
    PS X (.Expr (.Call (.Attribute o m ap) [v] [] cp) pos) (tS X.K X.mg E (fApx fo fa)) := by
  subst hm
  have few : ((backTo cp (starEach [v] X.env)).all (fun x => !x.1) && (backToKw cp (keywordEach [] X.env)).all (fun x => x.1.isSome)
      && decide ([v].length + ([] : List Keyword).length + (if ([] : List Keyword).isEmpty then 0 else 1) < 30)) = true := by
    rw [star_noneS (by simp [hp])]; rfl
  refine PS.imp (ps_expr (pe_bm PySem.F.plainAttrs_list PySem.F.slot_list_append PySem.F.type_list_append mt_append (pe_conv .cel ho) (pa_cons hv pa_nil (star_cons hp)) (base_of hn) few hl (star_cons hp) rfl) rfl) fun Dn σ H ⟨ρ, cm, S, hs, he, q⟩ => ?_
  have e9 : ∀ {r : Res RX} {k : RV → Store → Out}, (r.out fun y S0 => (conv .cel y S0).out k) = (r.bind (conv .cel)).out k := fun {r k} => by
    cases r with
    | ok a S => rfl
    | _ => rfl
  unfold fApx at q
  rw [e9] at q
  refine tG_out (f := fun ρ S => (fo ρ S).bind (conv .cel)) okS.zok hs he q fun w S1 ow H1 cm1 _ p z => ?_
  obtain ⟨t1, s1, v1⟩ := p
  have he1 := he.mono t1 hs
  have z := okS.step t1 z
  cases w with
  | d d => exact z.elim
  | g n m => exact z.elim
  | c n =>
    obtain ⟨ad, os, rfl, ha⟩ := v1
    obtain ⟨vs0, hH0⟩ := s1.trk n ad (.at_ ha)
    refine ⟨.inl ⟨rfl, vs0, .of hH0⟩, tG_out okS.zok s1 he1 z fun x S2 u H2 cm2 _ p2 z2 => ?_⟩
    cases e2 : S2[n]? with
    | none => rw [e2] at z2; exact z2.elim
    | some cl => cases cl with
      | fz ds => rw [e2] at z2; exact z2.elim
      | lst ds0 =>
        rw [e2] at z2
        dsimp only at z2
        cases e3 : asD x S2 with
        | exc y S3 => exact absurd e3 asD_noexc
        | stuck => rw [e3] at z2; exact z2.elim
        | ok d S3 =>
          rw [e3] at z2
          obtain ⟨cm3, t3, s3, rd⟩ := asD_ok s1 p2 e3
          have z3 := okS.step t3 z2
          simp only [Res.out_ok] at z3
          cases e4 : S3[n]? with
          | none => rw [e4] at z3; exact z3.elim
          | some cl => cases cl with
            | fz ds => rw [e4] at z3; exact z3.elim
            | mx ds => rw [e4] at z3; exact z3.elim
            | lst ds =>
              rw [e4] at z3
              dsimp only at z3
              obtain ⟨mo, ha3⟩ := t3.pre n ad os ha
              obtain ⟨ws, hH, rv⟩ := s3.okL ha3 e4
              split at z3
              · rename_i hz
                refine ⟨ad, ws, u, rfl, rfl, hH, by rw [rv.length, ← line_eq]; exact hz, ?_⟩
                have tr := wr_tr (es := ds ++ [d]) s3 ha3 e4 (.lst (ws ++ [u]))
                exact z3 σ _ cm3 tr (wr_sr s3 ha3 e4 (rv.append (.cons rd .nil))) ((he1.mono t3 s1).mono tr s3)
              · exact z3.elim
      | mx es0 =>
        rw [e2] at z2
        dsimp only at z2
        have gen : ∀ (r : RX), PX X.K H1 cm1 S1 u r H2 cm2 S2 → okS X.K X.mg E Dn H1 cm1 S1 (((asD r S2).bind fun d S1 => .ok (.a d) S1).out fun v S3 => (match S3[n]? with
            | some (.mx es) => if es.length < line then .nx ρ (S3.set n (.mx (es ++ [v]))) else .stuck
            | _ => .stuck)) → rAppend (.ref ad) [u] H2 fun _ H3 => Dn.nx σ H3 := fun r pr zr => by
          cases e3 : asD r S2 with
          | exc y S3 => exact absurd e3 asD_noexc
          | stuck => rw [e3] at zr; exact zr.elim
          | ok d S3 =>
            rw [e3] at zr
            obtain ⟨cm3, t3, s3, rd⟩ := asD_ok s1 pr e3
            have z3 := okS.step t3 zr
            simp only [Res.bind_ok, Res.out_ok] at z3
            cases e4 : S3[n]? with
            | none => rw [e4] at z3; exact z3.elim
            | some cl => cases cl with
              | fz ds => rw [e4] at z3; exact z3.elim
              | lst ds => rw [e4] at z3; exact z3.elim
              | mx es =>
                rw [e4] at z3
                dsimp only at z3
                obtain ⟨mo, ha3⟩ := t3.pre n ad os ha
                obtain ⟨ws, hH, rv⟩ := s3.okM ha3 e4
                split at z3
                · rename_i hz
                  refine ⟨ad, ws, u, rfl, rfl, hH, by rw [rv.length.1, ← line_eq]; exact hz, ?_⟩
                  have tr := adda_tr (fs := es ++ [.a d]) s3 ha3 e4 (.lst (ws ++ [u]))
                  exact z3 σ _ _ tr (adda_sr s3 ha3 e4 hH rd) ((he1.mono t3 s1).mono tr s3)
                · exact z3.elim
        cases x with
        | f ds =>
          obtain ⟨pp, rfl, pre2, t2, s2⟩ := p2
          simp only [asX, Res.out_ok] at z2
          rw [e2] at z2
          dsimp only at z2
          obtain ⟨mo, ha3⟩ := pre2 n ad os ha
          have n6 := (List.getElem?_eq_some_iff.mp ha3).1
          have n7 := (List.getElem?_eq_some_iff.mp e2).1
          obtain ⟨ws, hH, rv⟩ := s2.okM (n := n) (by rw [List.getElem?_append_left n6]; exact ha3) (by rw [List.getElem?_append_left n7]; exact e2)
          split at z2
          · rename_i hz
            refine ⟨ad, ws, _, rfl, rfl, hH, by rw [rv.length.1, ← line_eq]; exact hz, ?_⟩
            have tr := addrow_tr (fs := es0 ++ [.l ds]) (fr_len s2) ha3 e2 (.lst (ws ++ [.ref pp])) t2 pre2
            exact z2 σ _ _ tr (addrow_sr s2 ha3 e2 hH) (he1.mono tr s1)
          · exact z2.elim
        | d d => exact gen _ p2 z2
        | c m => exact gen _ p2 z2
        | fm m => exact gen _ p2 z2
        | tc _ m => exact gen _ p2 z2
        | tf _ m => exact gen _ p2 z2
        | g m k => exact gen _ p2 z2
        | r m k => exact gen _ p2 z2
  | r n h =>
    obtain ⟨ad, os, b, rfl, ha, hb⟩ := v1
    obtain ⟨vs0, hH0⟩ := s1.trk n b (.row ha hb)
    refine ⟨.inl ⟨rfl, vs0, .of hH0⟩, tG_out okS.zok s1 he1 z fun x S2 u H2 cm2 _ p2 z2 => ?_⟩
    cases e3 : asD x S2 with
    | exc y S3 => exact absurd e3 asD_noexc
    | stuck => rw [e3] at z2; exact z2.elim
    | ok d S3 =>
      rw [e3] at z2
      obtain ⟨cm3, t3, s3, rd⟩ := asD_ok s1 p2 e3
      have z3 := okS.step t3 z2
      simp only [Res.out_ok] at z3
      cases e4 : mxAt S3 n with
      | none => rw [e4] at z3; exact z3.elim
      | some es =>
        rw [e4] at z3
        dsimp only at z3
        have e4 := mxAt_some e4
        obtain ⟨mo, ha3⟩ := t3.pre n ad os ha
        have hb3 : (os ++ mo)[h]? = some (some b) := by rw [List.getElem?_append_left (List.getElem?_eq_some_iff.mp hb).1]; exact hb
        obtain ⟨ws, hH, rv⟩ := s3.okM ha3 e4
        cases e5 : es[h]? with
        | none => rw [e5] at z3; exact z3.elim
        | some el => cases el with
          | a d0 => rw [e5] at z3; exact z3.elim
          | l ds =>
            rw [e5] at z3
            dsimp only at z3
            obtain ⟨b', us, _, hb', hHb, hu⟩ := rv.at_row e5
            rw [hb3] at hb'; cases hb'
            split at z3
            · rename_i hz
              refine ⟨b, us, u, rfl, rfl, hHb, by rw [hu.length, ← line_eq]; exact hz, ?_⟩
              have tr := wrow_tr (fs := es.set h (.l (ds ++ [d]))) s3 ha3 e4 hb3 (.lst (us ++ [u]))
              exact z3 σ _ cm3 tr (wrow_sr s3 ha3 e4 hb3 (hu.append (.cons rd .nil))) ((he1.mono t3 s1).mono tr s3)
            · exact z3.elim
/-! name.extend(e) -/
theorem ext_meets (l : Addr) (items : Array Value) (n : Nat) (b : Addr) (items2 : Array Value) (hlong : ¬(!items.isEmpty && Builtin.List.listTooLong (items.size + items2.size)) = true) (hs1 : items.size ≤ sizeLine) (hs2 : items.size + items2.size ≤ sizeLine) :
    Meets (Builtin.«list.extend» ⟨[.ref l, .ref b], []⟩) (fun _ R s => s.heap.get? l = some { cls := .type "list", dict := none, data := .seq items n, slots := #[] } ∧ IsTup s.heap b items2 ∧ R (.ok (.ret Value.none)) { s with heap := s.heap.update l (Obj.mapSeq fun x => x ++ items2) }) :=
  .of_wp fun prog w A R s h => by
    obtain ⟨hl, ⟨o, hb, hc, n2, hd⟩, h⟩ := h
    show wpAny _ _ (Builtin.List.listExtendWith (.ref l) (.ref b) .none) _ _ _
    unfold Builtin.List.listExtendWith
    refine wpAny_bind (wpAny_typeOf ⟨o, hb, hc⟩ ?_)
    have h1 : (Builtin.List.listSameRef (.ref l) (.ref b) || Value.type "tuple" == Value.type "list" || Value.type "tuple" == Value.type "tuple") = true := by simp
    simp only [h1, if_true]
    refine wpAny_bind ?_
    unfold Builtin.List.listItems
    refine wpAny_bind (wpAny_seqItems hb hd (wpAny_pure ?_))
    refine wpAny_bind ?_
    refine wpAny_bind (wpAny_seqItems hl rfl (wpAny_pure ?_))
    rw [if_neg hlong]
    show wpAny _ _ (updateSeq l (· ++ items2) >>= fun _ => ret .none) _ _ s
    have hz' : (items ++ items2).size ≤ sizeLine := by rw [Array.size_append]; exact hs2
    refine wpAny_bind (wpAny_updateSeq hl rfl ?_ (hz := hs1) (_hz' := Nat.le_succ_of_le hz'))
    exact wpAny_pure ⟨_, rfl, h⟩
def rExtE (K : PySem.W.Frag) : V → List V → Hp → VK → Prop := fun x vs H Q => ∃ l b xs zs, x = .ref l ∧ vs = [.ref b] ∧ H l = some (.lst xs) ∧ (SqE K H b zs ∨ SqT K H b zs) ∧ xs.length + zs.length ≤ sizeLine ∧ Q .non (upd H l (.lst (xs ++ zs)))
theorem mt_extE : MtR X "list.extend" (rExtE X.K) := by
  intro pins s σ H x vs v us Q I rx rv h
  obtain ⟨l, b, xs, zs, rfl, rfl, hH, hB, hz, q⟩ := h
  cases rx
  obtain ⟨u, rfl, ru⟩ := rv.one
  cases ru
  obtain ⟨z, its, n, r, hl, e⟩ := I.lstM hH
  rcases hB with hB | hB
  · obtain ⟨z2, its2, n2, r2, hl2, e2⟩ := lstE I hB
    have hsz : its.toArray.size + its2.toArray.size ≤ sizeLine := by rw [List.size_toArray, List.size_toArray]; omega
    have hlong : ¬ (!its.toArray.isEmpty && Builtin.List.listTooLong (its.toArray.size + its2.toArray.size)) = true := by
      rw [notLongL hsz, Bool.and_false]
      exact Bool.false_ne_true
    refine call_meets F.slot_list_extend ⟨_, e, rfl⟩ F.entry_list_extend (F.args_list_extend_2 _ _)
      (AutoSeq1.list_extend_list_list_0 l its.toArray n b its2.toArray n2 hlong (by rw [List.size_toArray]; omega) (by omega)) ⟨e, e2, ?_⟩
    refine ⟨.non, _, I.lset (its' := its ++ its2) hH e (by simp) (r.append r2) ?_, rfl, q⟩
    rw [List.length_append]
    omega
  · obtain ⟨its2, r2, e2, z2⟩ := I.tuple hB
    have hl2 := r2.length
    have hsz : its.toArray.size + its2.toArray.size ≤ sizeLine := by rw [List.size_toArray, List.size_toArray]; omega
    have hlong : ¬ (!its.toArray.isEmpty && Builtin.List.listTooLong (its.toArray.size + its2.toArray.size)) = true := by
      rw [notLongL hsz, Bool.and_false]
      exact Bool.false_ne_true
    refine call_meets F.slot_list_extend ⟨_, e, rfl⟩ F.entry_list_extend (F.args_list_extend_2 _ _)
      (ext_meets l its.toArray n b its2.toArray hlong (by rw [List.size_toArray]; omega) hsz) ⟨e, e2, ?_⟩
    refine ⟨.non, _, I.lset (its' := its ++ its2) hH e (by simp) (r.append r2) ?_, rfl, q⟩
    rw [List.length_append]
    omega
theorem ps_ext' (g : Gs X CX E lv c G C) {i : Nat} {x m : Str} {ap cp : Pos} (hm : m = "extend") (hl : (ap.endLine == cp.line) = true) (h1 : c.slot i x = true) (h2 : c.vis x = true) (h3 : x ≠ dbg) (h4 : x ≠ cld) (hp : plainE v = true) (hv : PE X v (tX X.K X.mg E fa)) :
    PS X (.Expr (.Call (.Attribute (.Name x p) m ap) [v] [] cp) pos) (tS X.K X.mg E fun ρ S => match ρ[i]? with
    | some (some (.c n)) => (fa ρ S).rv.out fun x S1 => (match S1[n]?, rdV S1 x with
      | some (.lst ds), some (.lst es) => if ds.length + es.length ≤ line then .nx ρ (S1.set n (.lst (ds ++ es))) else .stuck
      | some (.lst ds), some (.tup es) => if ds.length + es.length ≤ line then .nx ρ (S1.set n (.lst (ds ++ es))) else .stuck
      | _, _ => .stuck)
    | _ => .stuck) := by
  subst hm
  have few : ((backTo cp (starEach [v] X.env)).all (fun x => !x.1) && (backToKw cp (keywordEach [] X.env)).all (fun x => x.1.isSome)
      && decide ([v].length + ([] : List Keyword).length + (if ([] : List Keyword).isEmpty then 0 else 1) < 30)) = true := by
    rw [star_noneS (by simp [hp])]; rfl
  refine PS.imp (ps_expr (pe_bm PySem.F.plainAttrs_list PySem.F.slot_list_extend PySem.F.type_list_extend mt_extE (pe_var (g.slot h1) (g.vis h2) (ndb h3) (ncd h4)) (pa_cons (pe_rv hv) pa_nil (star_cons hp)) rfl few hl (star_cons hp) rfl) rfl) fun Dn σ H ⟨ρ, cm, S, hs, he, q⟩ => ?_
  dsimp only at q
  cases e1 : ρ[i]? with
  | none => rw [e1] at q; exact q.elim
  | some o => cases o with
    | none => rw [e1] at q; exact q.elim
    | some r => cases r with
      | d dd => rw [e1] at q; exact q.elim
      | g n m => rw [e1] at q; exact q.elim
      | r n m => rw [e1] at q; exact q.elim
      | c n =>
        rw [e1] at q
        dsimp only at q
        obtain ⟨w, hw, ad, os, rfl, ha⟩ := he.at' i _ e1
        obtain ⟨vs0, hH0⟩ := hs.trk n ad (.at_ ha)
        refine ⟨.ref ad, hw, .inl ⟨rfl, vs0, .of hH0⟩, tG_out (f := fun ρ S => (fa ρ S).rv) okS.zok hs he q fun x S1 u H1 cm1 _ p z => ?_⟩
        obtain ⟨t, s, vx⟩ := p
        have z := okS.step t z
        cases e2 : S1[n]? with
        | none => simp only [e2] at z; exact z.elim
        | some cl => cases cl with
          | fz ds => simp only [e2] at z; exact z.elim
          | mx ds => simp only [e2] at z; exact z.elim
          | lst ds =>
            cases e3 : rdV S1 x with
            | none => simp only [e2, e3] at z; exact z.elim
            | some dx => cases dx with
              | lst es =>
                simp only [e2, e3] at z
                obtain ⟨mo, ha1⟩ := t.pre n ad os ha
                obtain ⟨ws, hH, rv⟩ := s.okL ha1 e2
                obtain ⟨b, us, rfl, hb, hu⟩ := (rd_ok s vx e3).lst
                split at z
                · rename_i hz
                  refine ⟨ad, b, ws, us, rfl, rfl, hH, .inl hb, by rw [rv.length, hu.length, ← line_eq]; exact hz, ?_⟩
                  have tr := wr_tr (es := ds ++ es) s ha1 e2 (.lst (ws ++ us))
                  exact z σ _ cm1 tr (wr_sr s ha1 e2 (rv.append hu)) ((he.mono t hs).mono tr s)
                · exact z.elim
              | tup es =>
                simp only [e2, e3] at z
                obtain ⟨mo, ha1⟩ := t.pre n ad os ha
                obtain ⟨ws, hH, rv⟩ := s.okL ha1 e2
                obtain ⟨b, us, rfl, hb, hu⟩ := (rd_ok s vx e3).tup
                split at z
                · rename_i hz
                  refine ⟨ad, b, ws, us, rfl, rfl, hH, .inr hb, by rw [rv.length, hu.length, ← line_eq]; exact hz, ?_⟩
                  have tr := wr_tr (es := ds ++ es) s ha1 e2 (.lst (ws ++ us))
                  exact z σ _ cm1 tr (wr_sr s ha1 e2 (rv.append hu)) ((he.mono t hs).mono tr s)
                · exact z.elim
              | _ => simp only [e2, e3] at z; exact z.elim
/-! o[i], x = e -/
def fDvm (fo fi fa : Rd' RX) (j : Nat) : Rf.Env → Store → Out := fun ρ S => (fa ρ S).rv.out fun x S1 => match x with
    | .d (.tup [d, d2]) => (fo ρ S1).out fun y S3 => (match y with
      | .c n => (fi ρ S3).rv.out fun z S4 => (match z with
        | .d (.int k) => (match S4[n]? with
          | some (.lst ds) => (match ixN ds.length k with
            | some t => .nx (ρ.set j (some (.d d2))) (S4.set n (.lst (ds.set t d)))
            | none => .stuck)
          | _ => .stuck)
        | _ => .stuck)
      | _ => .stuck)
    | _ => .stuck
theorem ps_dvm' (g : Gs X CX E lv c G C) {o i : Expr} {x : Str} {j k : Nat} {pt px p2 : Pos} {fo fi : Rd' RX} (hi : notSl i = true) (h1 : c.slot j x = true) (h2 : c.loc x = true) (hv2 : notTup v = true) (ho : PE X o (tX X.K X.mg E fo)) (hix : PE X i (tX X.K X.mg E fi)) (hv : PE X v (tX X.K X.mg E fa)) :
    PS X (.Assign [.Tuple [.Subscript o i p2, .Name x px] k pt] v pos) (tS X.K X.mg E (fDvm fo fi fa j)) := by
  have hl := g.loc h2
  have tg : PG X (.Tuple [.Subscript o i p2, .Name x px] k pt) (gTup X.K 2 (gCons (gSub (tX X.K X.mg E fo) (tV X.K X.mg E fun ρ S => (fi ρ S).rv) rSetL) (gCons (gName j) gNil))) :=
    pg_tup g.calm (pgs_cons (pg_sub ho (pe_rv hix) set_list (by cases i <;> first | (intro _; rfl) | simp [notSl] at hi)) (pgs_cons (pg_name g.nd (g.slot h1) hl.1 hl.2) pgs_nil (by rfl)) (by rfl)) (by rfl) (by rfl)
  refine PS.imp (ps_asg (pe_rv hv) tg sole_tup (stores_tup hv2) rfl) fun Dn σ H ⟨ρ, cm, S, hs, he, q⟩ => ?_
  unfold fDvm at q
  refine tG_out (f := fun ρ S => (fa ρ S).rv) okS.zok hs he q fun x S1 vv H1 cm1 _ p z => ?_
  obtain ⟨t1, s1, v1⟩ := p
  have he1 := he.mono t1 hs
  have z := okS.step t1 z
  match x, v1, z with
  | .d (.tup [d, d2]), v1, z =>
    have v1 : Rp X.K H1 (Lv cm1 S1) vv (.tup [d, d2]) := v1
    cases v1 with
    | tup ht rv =>
      cases rv with
      | @cons va _ _ _ r1 rv => cases rv with
        | @cons vb _ _ _ r2 rv => cases rv with
          | nil =>
            refine ⟨_, _, rfl, ht, rfl, _, _, rfl, ?_⟩
            refine tG_out okS.zok s1 he1 z fun y S3 w H3 cm3 _ p3 z3 => ?_
            cases y with
            | c n =>
              obtain ⟨t3, s3, v3⟩ := p3
              have z3 := okS.step t3 z3
              have he3 := he1.mono t3 s1
              refine tG_out (f := fun ρ S => (fi ρ S).rv) okS.zok s3 he3 z3 fun zz S4 u H4 cm4 _ p4 z4 => ?_
              obtain ⟨t4, s4, v4⟩ := p4
              have z4 := okS.step t4 z4
              have he4 := he3.mono t4 s3
              have v3 := VOk.mono t4 s3 v3
              obtain ⟨ad, os, rfl, ha4⟩ := v3
              cases zz with
              | c n => exact z4.elim
              | g n m => exact z4.elim
              | r n m => exact z4.elim
              | d dz => cases dz with
                | int kk =>
                  cases v4
                  dsimp only at z4
                  cases e2 : S4[n]? with
                  | none => rw [e2] at z4; exact z4.elim
                  | some cl => cases cl with
                    | fz ds => rw [e2] at z4; exact z4.elim
                    | mx ds => rw [e2] at z4; exact z4.elim
                    | lst ds =>
                      rw [e2] at z4
                      dsimp only at z4
                      obtain ⟨ws, hH, rv⟩ := s4.okL ha4 e2
                      cases e3 : ixN ds.length kk with
                      | none => rw [e3] at z4; exact z4.elim
                      | some jj =>
                        rw [e3] at z4
                        have tr := wr_tr (es := ds.set jj d) s4 ha4 e2 (.lst (ws.set jj va))
                        have ra := (r1.mono (t3.toExt s1)).mono (t4.toExt s3)
                        have rb := ((r2.mono (t3.toExt s1)).mono (t4.toExt s3)).mono (tr.toExt s4)
                        refine ⟨ad, ws, kk, jj, rfl, rfl, hH, by rw [rv.length]; exact e3, _, _, rfl, rfl, ?_⟩
                        exact z4 _ _ cm4 tr (wr_sr s4 ha4 e2 (Rps.set ra jj rv)) ((he4.mono tr s4).set (r := .d d2) rb)
                | _ => exact z4.elim
            | _ => exact z3.elim
  | .c _, _, z => exact z.elim
  | .g _ _, _, z => exact z.elim
  | .r _ _, _, z => exact z.elim
  | .d .non, _, z => exact z.elim
  | .d (.bl _), _, z => exact z.elim
  | .d (.int _), _, z => exact z.elim
  | .d (.str _), _, z => exact z.elim
  | .d (.lst _), _, z => exact z.elim
  | .d (.tup []), _, z => exact z.elim
  | .d (.tup [_]), _, z => exact z.elim
  | .d (.tup (_ :: _ :: _ :: _)), _, z => exact z.elim
/-! for -/
def fBody (tg : Tg) (fb : Rf.Env → Store → Out) : D → Rf.Env → Store → Out := fun d ρ S => match bindT tg d ρ with
      | some ρ1 => fb ρ1 S
      | none => .stuck
theorem rd_for {K : PySem.W.Frag} {mg : Mg} {fi : Rd' (List (Nat × List D) × List D)} {tg : Tg} {fb : Rf.Env → Store → Out} {Dn : Ends} {σ : L2.St} {H : Hp} (h : tS K mg E (fun ρ S => (fi ρ S).out fun p S1 => forGo p.1 (fBody tg fb) p.2 ρ S1) Dn σ H) :
    tFor (tJ K mg E fi) (gD K tg) (tS K mg E fb) Dn σ H := by
  obtain ⟨ρ, cm, S, hs, he, q⟩ := h
  refine tG_out okS.zok hs he q fun p S1 J H1 cm1 _ pj z => ?_
  obtain ⟨t1, s1, wk⟩ := pj
  have z := okS.step t1 z
  let Nx : Nat → L2.St → Hp → Prop := fun i σ H => ∃ ρ cm S, SR K H cm S ∧ ER K H cm S ρ σ ∧ Tr H1 cm1 S1 H cm S ∧ okS K mg E Dn H cm S (forGo p.1 (fBody tg fb) (p.2.drop i) ρ S)
  refine ⟨fun i m σ H => m = p.2.length - i ∧ i ≤ p.2.length ∧ Nx i σ H, ⟨p.2.length, by simp, Nat.zero_le _, ρ, cm1, S1, s1, he.mono t1 hs, Tr.refl, by rw [List.drop_zero]; exact z⟩, ?_⟩
  rintro i m σ' H' ⟨rfl, hle, ρ', cm', S', s', e', t', z'⟩
  by_cases hi : i < p.2.length
  · rw [List.drop_eq_getElem_cons hi] at z'
    unfold forGo at z'
    by_cases so : srcOk p.1 S' = true
    · rw [if_pos so] at z'
      refine .inr ⟨wk.goes t' s' so i hi, Nx (i + 1), fun σ3 H3 n3 => ⟨p.2.length - (i + 1), by omega, rfl, hi, n3⟩, fun x H3 y => ?_⟩
      obtain ⟨d, e1, t3, s3, rp⟩ := wk.yld t' s' so i x H3 hi y
      have e2 : d = p.2[i] := by
        rw [List.getElem?_eq_getElem hi] at e1
        exact (Option.some.inj e1).symm
      subst e2
      cases eb : bindT tg p.2[i] ρ' with
      | none =>
        have : fBody tg fb p.2[i] ρ' S' = .stuck := by unfold fBody; rw [eb]
        rw [this] at z'
        exact z'.elim
      | some ρ1 =>
        have : fBody tg fb p.2[i] ρ' S' = fb ρ1 S' := by unfold fBody; rw [eb]
        rw [this] at z'
        have z' := okS.step t3 z'
        refine ⟨ρ', cm', S', p.2[i], ρ1, s3, e'.mono t3 s', rp, eb, fun σ1 e1 _ => ⟨ρ1, cm', S', s3, e1, ?_⟩⟩
        cases e6 : fb ρ1 S' with
        | nx ρ2 S2 => rw [e6] at z'; exact fun σ2 H2 cm2 t2 s2 er2 => ⟨ρ2, cm2, S2, s2, er2, (t'.trans t3).trans t2, okS.step t2 z'⟩
        | cnt ρ2 S2 => rw [e6] at z'; exact fun σ2 H2 cm2 t2 s2 er2 => ⟨ρ2, cm2, S2, s2, er2, (t'.trans t3).trans t2, okS.step t2 z'⟩
        | brk ρ2 S2 => rw [e6] at z'; exact z'
        | ret r S2 => rw [e6] at z'; exact z'
        | exc x S2 => rw [e6] at z'; exact z'
        | stuck => rw [e6] at z'; exact z'
    · rw [if_neg so] at z'; exact z'.elim
  · have ei : i = p.2.length := by omega
    subst ei
    rw [List.drop_length] at z'
    unfold forGo at z'
    by_cases so : srcOk p.1 S' = true
    · rw [if_pos so] at z'
      exact .inl ⟨wk.stop t' s' so, z' σ' H' cm' Tr.refl s' e'⟩
    · rw [if_neg so] at z'; exact z'.elim
theorem ps_for' (g : Gs X CX E lv c G C) {fi : Rd' (List (Nat × List D) × List D)} {tg : Tg} {fb : Rf.Env → Store → Out} (hi : PI X tgE iter (tJ X.K X.mg E fi)) (hg : chkTg c tg tgE = true) (hb : PSs X body (tS X.K X.mg E fb)) (hn : notSet iter = true) :
    PS X (.For tgE iter body [] pos) (tS X.K X.mg E fun ρ S => (fi ρ S).out fun p S1 => forGo p.1 (fBody tg fb) p.2 ρ S1) :=
  PS.imp (ps_for g.pown g.calm hi (pg_D g.toGd hg).1 hb (nfs hn)) fun Dn σ H h => rd_for h
/-! while -/
theorem rd_while {K : PySem.W.Frag} {mg : Mg} {fc : Rd' Bool} {fb : Rf.Env → Store → Out} {n : Nat} {Dn : Ends} {σ : L2.St} {H : Hp} (h : tS K mg E (fun ρ S => whGo fc fb n ρ S) Dn σ H) : tWhile (tB K mg E fc) (tS K mg E fb) Dn σ H := by
  let W : Nat → L2.St → Hp → Prop := fun m σ H => tS K mg E (fun ρ S => whGo fc fb m ρ S) Dn σ H
  refine ⟨W, ⟨n, h⟩, fun m σ H w => ?_⟩
  obtain ⟨ρ, cm, S, hs, he, q⟩ := w
  cases m with
  | zero => exact q.elim
  | succ m =>
    unfold whGo at q
    refine tG_out okS.zok hs he q fun k S1 b H1 cm1 _ p z => ?_
    obtain ⟨t, s, rfl⟩ := p
    have z := okS.step t z
    have he1 := he.mono t hs
    cases b with
    | false => exact z σ H1 cm1 Tr.refl s he1
    | true =>
      simp only [if_true] at z ⊢
      refine ⟨W m, fun σ' H' w => ⟨m, Nat.lt_succ_self _, w⟩, ρ, cm1, S1, s, he1, ?_⟩
      cases e6 : fb ρ S1 with
      | nx ρ2 S2 => rw [e6] at z; exact fun σ2 H2 cm2 t2 s2 er2 => ⟨ρ2, cm2, S2, s2, er2, okS.step t2 z⟩
      | cnt ρ2 S2 => rw [e6] at z; exact fun σ2 H2 cm2 t2 s2 er2 => ⟨ρ2, cm2, S2, s2, er2, okS.step t2 z⟩
      | brk ρ2 S2 => rw [e6] at z; exact z
      | ret r S2 => rw [e6] at z; exact z
      | exc x S2 => rw [e6] at z; exact z
      | stuck => rw [e6] at z; exact z
/-! name = [.. for ..] on one line -/
theorem ps_lc' (g : Gs X CX E lv c G C) {elt : Rf.E} {i : Nat} {x : Str} {m : Md} {elt' : Expr} {gs : List Comprehension} {scope : Scope} {lp : Pos} (h1 : c.slot i x = true) (hy : c.sc.names.lookup x = some .local) (hl : (p.line == lp.line) = true) (ha : (scope.names.any fun (n, k) => n == x && (k == .local || k == .cell)) = false)
    (h : chkE c elt (.ListComp elt' gs scope lp) = true) : PS X (.Assign [.Name x p] (.ListComp elt' gs scope lp) pos) (tS X.K X.mg E fun ρ S => (ev G C elt ρ S).out fun x S1 => (conv m x S1).out fun v S2 => .nx (ρ.set i (some v)) S2) := by
  have hyl : X.env.scope.names.lookup x = some .local := by rw [g.sc]; exact hy
  have hsw := sw_true (elt := elt') (gs := gs) (scope := scope) (pos := lp) (py := p) (l := pos.line) g.kind hyl hl ha
  cases elt with
  | comp elt tg it cond own =>
    rw [chkE.eq_def] at h; dsimp only at h
    split at h
    · rename_i elt2 tg' iter ifs scope2 p2 heq
      cases heq
      simp only [Bool.and_eq_true, decide_eq_true_eq, List.all_eq_true, List.contains_iff_mem] at h
      obtain ⟨⟨⟨⟨⟨⟨⟨⟨h0, h1'⟩, h2⟩, h3⟩, h4⟩, h5⟩, h6⟩, h7⟩, h8⟩ := h
      have bo : BlkOk X.N X.env.scope scope (own.filterMap fun i => c.N[i]?.map fun x => (x, i)) := by
        rw [g.N, g.sc]; exact blkOk_by h0
      have pi : PI X tg' iter (tJ X.K X.mg E (evi G C it)) := sndI it g.toGd iter tg' h5 h6
      have main := ps_setLc (spos := pos) (tt := tB X.K X.mg E0 (evc G C cond)) (te := tD X.K X.mg E0 fun ρ S => (ev G C elt ρ S).bind asD) (g := gD X.K tg) (wi := tJ X.K X.mg E (evi G C it)) g.calm g.nd (g.slot h1) hyl hsw pi bo (fun s H C' cl fp => (pg_D (g.toGd.blk s H scope C' cl fp) h3).1) (fun s H C' cl fp => sndC cond (g.toGd.blk s H scope C' cl fp) ifs h7)
        (fun s H C' cl fp => pe_asD (sndE elt (g.toGd.blk s H scope C' cl fp) elt' h8).pe) (nfs h4)
      refine PS.imp main fun Dn σ H hh => ?_
      rw [h1']
      have h9 := rd_set hh
      have e : ev G C (.comp elt tg it cond own) = fComp tg own (evi G C it) (evc G C cond) (ev G C elt) := by funext ρ S; rw [ev]; rfl
      rw [e] at h9
      exact rd_comp h2 h9
    · cases h
  | compx elt tg it cond own =>
    rw [chkE.eq_def] at h; dsimp only at h
    split at h
    · rename_i elt2 tg' iter ifs scope2 p2 heq
      cases heq
      simp only [Bool.and_eq_true, decide_eq_true_eq, List.all_eq_true, List.contains_iff_mem] at h
      obtain ⟨⟨⟨⟨⟨⟨⟨⟨h0, h1'⟩, h2⟩, h3⟩, h4⟩, h5⟩, h6⟩, h7⟩, h8⟩ := h
      have bo : BlkOk X.N X.env.scope scope (own.filterMap fun i => c.N[i]?.map fun x => (x, i)) := by
        rw [g.N, g.sc]; exact blkOk_by h0
      have pi : PI X tg' iter (tJ X.K X.mg E (evi G C it)) := sndI it g.toGd iter tg' h5 h6
      have main := ps_setLc (spos := pos) (tt := tB X.K X.mg E0 (evc G C cond)) (te := tX X.K X.mg E0 (ev G C elt)) (g := gD X.K tg) (wi := tJ X.K X.mg E (evi G C it)) g.calm g.nd (g.slot h1) hyl hsw pi bo (fun s H C' cl fp => (pg_D (g.toGd.blk s H scope C' cl fp) h3).1) (fun s H C' cl fp => sndC cond (g.toGd.blk s H scope C' cl fp) ifs h7)
        (fun s H C' cl fp => (sndE elt (g.toGd.blk s H scope C' cl fp) elt' h8).pe) (nfs h4)
      refine PS.imp main fun Dn σ H hh => ?_
      rw [h1']
      have h9 := rd_set hh
      have e : ev G C (.compx elt tg it cond own) = fCompx tg own (evi G C it) (evc G C cond) (ev G C elt) := by funext ρ S; rw [ev]; rfl
      rw [e] at h9
      exact rd_compx h2 h9
    · cases h
  | nev =>
    refine PS.imp ps_never fun Dn σ H ⟨ρ, cm, S, hs, he, q⟩ => ?_
    dsimp only at q
    rw [ev] at q
    exact q
  | _ => rw [chkE.eq_def] at h; simp at h
end
/-! ### cells that nobody sees any more -/
section
variable {K : PySem.W.Frag} {mg : Mg} {E : XK} {H H' : Hp} {cm cm' cm2 : List CA} {S S' S2 : Store}
/-- the first n cells and one more -/
theorem sub_one {n j : Nat} {p : CA} {c : Cell} (r : SR K H cm S) (hn : n ≤ j) (h1 : cm[j]? = some p) (h2 : S[j]? = some c) : SubC cm S (cm.take n ++ [p]) (S.take n ++ [c]) := by
  have hl := r.len
  have hj : j < cm.length := (List.getElem?_eq_some_iff.mp h1).1
  have hlt : (cm.take n).length = n := by rw [List.length_take]; omega
  have hlt2 : (S.take n).length = n := by rw [List.length_take]; omega
  refine ⟨by simp [hl], fun i => if i < n then i else j, fun i k hi hk e => ?_, fun i hi => ?_⟩
  · rw [List.length_append, hlt, List.length_singleton] at hi hk
    dsimp only at e
    split at e <;> split at e <;> omega
  · rw [List.length_append, hlt, List.length_singleton] at hi
    by_cases hin : i < n
    · simp only [if_pos hin]
      rw [List.getElem?_append_left (by omega), List.getElem?_append_left (by omega), List.getElem?_take_of_lt hin, List.getElem?_take_of_lt hin]
      exact ⟨rfl, rfl⟩
    · have ei : i = n := by omega
      subst ei
      simp only [if_neg hin]
      rw [List.getElem?_append_right (by omega), List.getElem?_append_right (by omega), hlt, hlt2, h1, h2]
      simp
theorem take_pre (t : Tr H cm S H' cm' S') (r : SR K H cm S) : Pre cm (cm'.take S.length) := t.pre.take (Nat.le_of_eq r.len)
end

/-! ### a list built, then made a row -/
theorem execs_app (env : PySem.Env) : ∀ (a b : List Stmt), execs (a ++ b) env = (do match ← execs a env with | .next => execs b env | f => pure f)
  | [], b => by
    show execs b env = (do match ← (pure Flow.next : Sem Flow) with | .next => execs b env | f => pure f)
    rw [pure_bind]
  | s :: a, b => by
    rw [List.cons_append, arm_execs_cons, arm_execs_cons, bind_assoc]
    congr 1; funext f
    cases f with
    | next => exact execs_app env a b
    | _ => rw [pure_bind]
theorem pss_app {X : Cx} {a b : List Stmt} {t u : TS} (h1 : PSs X a t) (h2 : PSs X b u) : PSs X (a ++ b) (tSeq t u) := by
  refine ⟨fun pins s σ H D I h => ?_⟩
  rw [execs_app]
  refine wpAny_bind (thn (h1.run pins s σ H { D with nx := u D } I h) fun f s1 q => ?_)
  cases f with
  | next =>
    obtain ⟨σ1, H1, I1, q1⟩ := q
    exact h2.run pins s1 σ1 H1 D I1 q1
  | _ => exact wpAny_pure q
section
variable {X : Cx} {CX : CXT} {E : XK} {lv : Nat} {c : Ct} {G : List Mir} {C : List D}
def fBld (i j : Nat) (fe : Rd' RX) (fb fr : Rf.Env → Store → Out) : Rf.Env → Store → Out := fun ρ S => (fe ρ S).out fun x S1 => (conv .cel x S1).out fun v S2 => (fb (ρ.set i (some v)) S2).then fun ρ2 S3 => (bldM S.length i j ρ2 S3).then fr
theorem okS.sub {K : PySem.W.Frag} {mg : Mg} {E : XK} {Dn Dn' : Ends} {H : Hp} {cm : List CA} {S : Store} {o : Out} (hb : Dn'.bk = Dn.bk) (hc : Dn'.ct = Dn.ct) (hr : Dn'.rt = Dn.rt) (k : Rf.Env → Store → Out) (h : okS K mg E Dn H cm S (o.then k))
    (hn : ∀ ρ' S', o = .nx ρ' S' → okS K mg E Dn H cm S (k ρ' S') → okS K mg E Dn' H cm S (.nx ρ' S')) : okS K mg E Dn' H cm S o := by
  cases o with
  | nx ρ' S' => exact hn ρ' S' rfl h
  | brk ρ' S' =>
    have h : okS K mg E Dn H cm S (.brk ρ' S') := h
    unfold okS at h ⊢; rw [hb]; exact h
  | cnt ρ' S' =>
    have h : okS K mg E Dn H cm S (.cnt ρ' S') := h
    unfold okS at h ⊢; rw [hc]; exact h
  | ret r S' =>
    have h : okS K mg E Dn H cm S (.ret r S') := h
    unfold okS at h ⊢; rw [hr]; exact h
  | exc x S' => exact h
  | stuck => exact h
theorem bld_out {r : Res RX} {m i : Nat} {ρ : Rf.Env} {fb : Rf.Env → Store → Out} {k : Rf.Env → Store → Out} : (r.out fun x S1 => (conv .cel x S1).out fun v S2 => (fb (ρ.set i (some v)) S2).then k) = (r.out fun x S1 => (conv .cel x S1).out fun v S2 => .nx (ρ.set i (some v)) S2).then fun ρ1 S1 => (fb ρ1 S1).then k := by
  cases r with
  | ok x S1 =>
    show (conv .cel x S1).out _ = ((conv .cel x S1).out _).then _
    cases conv .cel x S1 <;> rfl
  | _ => rfl
theorem wipe_er {K : PySem.W.Frag} {H H' : Hp} {cm cm' : List CA} {S S' : Store} {ρ : Rf.Env} {σ : L2.St} {m : Nat} (e : ER K H cm S ρ σ) (ex : Ext H H' (Lv cm S) (Lv cm' S')) (gr : ∀ a i j, H a = some (.rng i j) → H' a = some (.rng i j)) (pre : Pre (cm.take m) cm') : ER K H' cm' S' (wipeC m ρ) σ where
  len := by unfold wipeC; rw [List.length_map]; exact e.len
  at' := fun i r h => by
    unfold wipeC at h
    rw [List.getElem?_map] at h
    cases hr : ρ[i]? with
    | none => rw [hr] at h; cases h
    | some o =>
      rw [hr] at h
      simp only [Option.map_some, Option.some.injEq] at h
      have tk : ∀ {k : Nat} {a : Addr} {os : List (Option Addr)}, k < m → cm[k]? = some (a, os) → ∃ more, cm'[k]? = some (a, os ++ more) := fun {k a os} hk hc => pre k a os (by rw [List.getElem?_take_of_lt hk]; exact hc)
      cases o with
      | none => cases h
      | some x => cases x with
        | d y =>
          cases h
          obtain ⟨v, h1, h2⟩ := e.at' i _ hr
          exact ⟨v, h1, Rp.mono ex h2⟩
        | g a b =>
          cases h
          obtain ⟨v, h1, ad, h2, h3⟩ := e.at' i _ hr
          exact ⟨v, h1, ad, h2, gr _ _ _ h3⟩
        | c k =>
          have h : (if k < m then some (RV.c k) else none) = some r := h
          by_cases hk : k < m
          · rw [if_pos hk] at h
            cases h
            obtain ⟨v, h1, ad, os, h2, h3⟩ := e.at' i _ hr
            obtain ⟨more, q⟩ := tk hk h3
            exact ⟨v, h1, ad, _, h2, q⟩
          · rw [if_neg hk] at h; cases h
        | r k l =>
          have h : (if k < m then some (RV.r k l) else none) = some r := h
          by_cases hk : k < m
          · rw [if_pos hk] at h
            cases h
            obtain ⟨v, h1, ad, os, b, h2, h3, h4⟩ := e.at' i _ hr
            obtain ⟨more, q⟩ := tk hk h3
            exact ⟨v, h1, ad, _, b, h2, q, by rw [List.getElem?_append_left (List.getElem?_eq_some_iff.mp h4).1]; exact h4⟩
          · rw [if_neg hk] at h; cases h
theorem pss_bld (g : Gs X CX E lv c G C) {i j : Nat} {ap cp pos : Pos} {o v : Expr} {s0 : Stmt} {bs rs : List Stmt} {fe : Rd' RX} {fb fr : Rf.Env → Store → Out}
    (h0 : PS X s0 (tS X.K X.mg E fun ρ S => (fe ρ S).out fun x S1 => (conv .cel x S1).out fun v S2 => .nx (ρ.set i (some v)) S2)) (hb : PSs X bs (tS X.K X.mg E fb)) (hl : (ap.endLine == cp.line) = true) (hn : notCall o = true) (hp : plainE v = true)
    (ho : PE X o (tX X.K X.mg E (ev G C (.var j)))) (hv : PE X v (tX X.K X.mg E (ev G C (.var i)))) (hr : PSs X rs (tS X.K X.mg E fr)) :
    PSs X (s0 :: (bs ++ (.Expr (.Call (.Attribute o "append" ap) [v] [] cp) pos) :: rs)) (tS X.K X.mg E (fBld i j fe fb fr)) := by
  have few : ((backTo cp (starEach [v] X.env)).all (fun x => !x.1) && (backToKw cp (keywordEach [] X.env)).all (fun x => x.1.isSome)
      && decide ([v].length + ([] : List Keyword).length + (if ([] : List Keyword).isEmpty then 0 else 1) < 30)) = true := by
    rw [star_noneS (by simp [hp])]; rfl
  have ha := ps_expr (pos := pos) (pe_bm PySem.F.plainAttrs_list PySem.F.slot_list_append PySem.F.type_list_append mt_append (pe_conv .cel ho) (pa_cons hv pa_nil (star_cons hp)) (base_of hn) few hl (star_cons hp) rfl) rfl
  refine PSs.imp (pss_cons h0 (pss_app hb (pss_cons ha hr))) fun Dn σ H ⟨ρ, cm, S, hs, he, q⟩ => ?_
  unfold fBld at q
  rw [bld_out (m := S.length)] at q
  refine ⟨ρ, cm, S, hs, he, okS.sub (Dn := Dn) rfl rfl rfl _ q fun ρ1 S1 _ q1 => fun σ1 H1 cm1 t1 s1 e1 => ?_⟩
  refine ⟨ρ1, cm1, S1, s1, e1, okS.sub (Dn := Dn) rfl rfl rfl _ (okS.step t1 q1) fun ρ2 S2 eo _ => fun σ2 H2 cm2 t2 s2 e2 => ?_⟩
  have t := t1.trans t2
  rw [eo] at q1
  have q2 : okS X.K X.mg E Dn H cm S ((bldM S.length i j ρ2 S2).then fr) := q1
  unfold bldM at q2
  split at q2
  · rename_i k n r1 r2
    split at q2
    · rename_i hkn
      obtain ⟨rfl, hn⟩ := hkn
      split at q2
      · rename_i ds es c1 c2
        split at q2
        · rename_i hz
          have ev1 : (ev G C (.var j) ρ2 S2).bind (conv .cel) = .ok (.c n) S2 := by rw [ev, r2]; rfl
          have ev2 : ev G C (.var i) ρ2 S2 = .ok (.c S.length) S2 := by rw [ev, r1]
          refine ⟨ρ2, cm2, S2, s2, e2, ?_⟩
          dsimp only
          rw [ev1]
          intro w3 H3 cm3 ⟨t3, s3, ad, os, ew, ha3⟩
          subst ew
          obtain ⟨vs0, hH0⟩ := s3.trk n ad (.at_ ha3)
          have e3 := e2.mono t3 s2
          refine ⟨.inl ⟨rfl, vs0, .of hH0⟩, ρ2, cm3, S2, s3, e3, ?_⟩
          dsimp only
          rw [ev2]
          intro w4 H4 cm4 ⟨t4, s4, bd, ob, ew, hb4⟩
          subst ew
          have e4 := e3.mono t4 s3
          obtain ⟨mo, ha4⟩ := t4.pre n ad os ha3
          have tt := (t.trans t3).trans t4
          obtain ⟨_, _, z⟩ := s4.ok _ _ _ _ hb4 c1
          obtain ⟨rfl, _⟩ := z
          have sub := sub_one s4 (Nat.le_refl _) hb4 c1
          have rr := sub.sr s4
          have lT : (cm4.take S.length)[n]? = some (ad, os ++ mo) := by rw [List.getElem?_take_of_lt hn]; exact ha4
          have lS : (S2.take S.length)[n]? = some (.mx es) := by rw [List.getElem?_take_of_lt hn]; exact c2
          obtain ⟨ws, hH, rv⟩ := s4.okM ha4 c2
          have preT : Pre cm (cm4.take S.length) := take_pre tt hs
          have tT : Tr H cm S H4 (cm4.take S.length ++ [(bd, [])]) (S2.take S.length ++ [.lst ds]) := sub.tr tt (preT.left)
          have lenT := fr_len rr
          have tr := addrow_tr (fs := es ++ [.l ds]) lenT lT lS (.lst (ws ++ [.ref bd])) tT preT
          have sr := addrow_sr rr lT lS hH
          have lva : Lv cm4 S2 ad := ⟨n, _, .at_ ha4, c2, rfl⟩
          refine ⟨ad, ws, _, rfl, rfl, hH, by rw [rv.length.1, ← line_eq]; exact hz, ?_⟩
          refine ⟨wipeC S.length ρ2, _, _, sr, wipe_er e4 ⟨fun b u e nl => by rw [upd_ne (fun z => nl (by rw [z]; exact lva))]; exact e, s4.lst, fun b l => .inl (sub.lv (addrow_lv lenT lT lS l))⟩ (fun a i j hg => by rw [upd_ne (fun z => by rw [z, hH] at hg; cases hg)]; exact hg) (pre_set lT), okS.step tr q2⟩
        · exact q2.elim
      · exact q2.elim
    · exact q2.elim
  · exact q2.elim
end
end Rf

set_option Elab.async false
set_option linter.all false
set_option maxRecDepth 100000
set_option maxHeartbeats 4000000
namespace Rf
open PySem PySem.Spec PyProof.Rows L2
def chkSet (c : Ct) (i : Nat) (e : E) (s : Stmt) : Bool := match s with
    | .Assign [.Name x py] v _ => c.slot i x && c.loc x && chkE c e v && (notLc v || (match v with
      | .ListComp _ _ scope lp => (!(py.line == lp.line) || decide (c.sc.names.lookup x = some .cell)) || (decide (c.sc.names.lookup x = some .local) && !(scope.names.any fun (n, k) => n == x && (k == .local || k == .cell)))
      | _ => false))
    | _ => false
mutual
def chkT (c : Ct) : T → Stmt → Bool
  | .set i m e, s => (match s with
    | .Assign [.Name x py] v _ => c.slot i x && c.loc x && chkE c e v && (notLc v || (match v with
      | .ListComp _ _ scope lp => (!(py.line == lp.line) || decide (c.sc.names.lookup x = some .cell)) || (decide (c.sc.names.lookup x = some .local) && !(scope.names.any fun (n, k) => n == x && (k == .local || k == .cell)))
      | _ => false))
    | _ => false)
  | .unp is e, s => (match s with
    | .Assign [.Tuple ts _ _] v _ => chkNs c ts is && notTup v && chkE c e v
    | _ => false)
  | .par is ms, s => (match s with
    | .Assign [.Tuple ts _ _] (.Tuple vs _ _) _ => chkNs c ts is && vs.all plainE && chkEs c ms vs && decide (is.length ≤ 64) && (match ts, vs, is with
      | [.Name x _, .Name y _], [_, _], [i, j] => (decide (i ≠ j) && decide (c.sc.names.lookup x = some .local) && decide (c.sc.names.lookup y = some .local) && decide (swP c.sc ts vs = some (some [x, y]))) || decide (swP c.sc ts vs = some none)
      | [.Name x _, .Name y _, .Name z _], [_, _, _], [i, j, l] => (decide (i ≠ j) && decide (i ≠ l) && decide (j ≠ l) && decide (c.sc.names.lookup x = some .local) && decide (c.sc.names.lookup y = some .local) && decide (c.sc.names.lookup z = some .local) && decide (swP c.sc ts vs = some (some [x, y, z]))) || decide (swP c.sc ts vs = some none)
      | ts, vs, _ => decide (swP c.sc ts vs = some none))
    | _ => false)
  | .sub o i e, s => (match s with
    | .Assign [.Subscript a b _] v _ => notSl b && chkE c o a && chkE c i b && chkE c e v
    | _ => false)
  | .dvm o i j e, s => (match s with
    | .Assign [.Tuple [.Subscript a b _, .Name x _] _ _] v _ => notSl b && c.slot j x && c.loc x && notTup v && chkE c o a && chkE c i b && chkE c e v
    | _ => false)
  | .aug i op e, s => (match s with
    | .AugAssign (.Name x _) op' v _ => decide (op' = op) && decide (op = .Add ∨ op = .Sub) && c.slot i x && c.loc x && chkE c e v
    | _ => false)
  | .exp e, s => (match s with
    | .Expr v _ => notLc v && chkE c e v
    | _ => false)
  | .app i e, s => (match s with
    | .Expr (.Call (.Attribute (.Name x _) m ap) [v] [] cp) _ => decide (m = "append") && (ap.endLine == cp.line) && c.slot i x && c.vis x && decide (x ≠ dbg) && decide (x ≠ cld) && plainE v && chkE c e v
    | _ => false)
  | .apx o e, s => (match s with
    | .Expr (.Call (.Attribute y m ap) [v] [] cp) _ => decide (m = "append") && (ap.endLine == cp.line) && notCall y && plainE v && chkE c o y && chkE c e v
    | _ => false)
  | .ext i e, s => (match s with
    | .Expr (.Call (.Attribute (.Name x _) m ap) [v] [] cp) _ => decide (m = "extend") && (ap.endLine == cp.line) && c.slot i x && c.vis x && decide (x ≠ dbg) && decide (x ≠ cld) && plainE v && chkE c e v
    | _ => false)
  | .ret e, s => (match s with
    | .Return (some v) _ => chkE c e v
    | _ => false)
  | .retN, s => (match s with
    | .Return none _ => true
    | _ => false)
  | .ite t a b, s => (match s with
    | .If v x y _ => chkE c t v && chkTs c a x && chkTs c b y
    | _ => false)
  | .fr tg it body, s => (match s with
    | .For tgE iter b [] _ => chkTg c tg tgE && notSet iter && chkI c it iter && (isTup tgE || it.plain) && chkTs c body b
    | _ => false)
  | .wh _ t body, s => (match s with
    | .While v b [] _ => chkE c t v && chkTs c body b
    | _ => false)
  | .brk, s => (match s with
    | .Break _ => true
    | _ => false)
  | .cnt, s => (match s with
    | .Continue _ => true
    | _ => false)
  | .pass, s => (match s with
    | .Pass _ => true
    | .Expr (.Constant (.str _) _ _) _ => true
    | _ => false)
  | .rais _ _ _, _ => false
  | .nev, _ => true
def chkTs (c : Ct) : Ts → List Stmt → Bool
  | .nil, ss => ss.isEmpty
  | .cons t ts, ss => (match ss with
    | s :: ss => chkT c t s && chkTs c ts ss
    | [] => false)
  | .bld i j e body rest, ss => (match ss with
    | s :: ss => chkSet c i e s && chkTs c body (ss.take body.len) && (match ss.drop body.len with
      | .Expr (.Call (.Attribute o m ap) [v] [] cp) _ :: rs => decide (m = "append") && (ap.endLine == cp.line) && notCall o && plainE v && chkE c (.var j) o && chkE c (.var i) v && chkTs c rest rs
      | _ => false)
    | [] => false)
end
theorem tS_congr {K : PySem.W.Frag} {mg : Mg} {E : XK} {f f' : Rf.Env → Store → Out} (q : ∀ ρ S, f' ρ S = f ρ S) : tS K mg E f' = tS K mg E f := by
  have : f' = f := funext fun ρ => funext (q ρ)
  subst this; rfl
variable {G : List Mir} {C : List D}
theorem sndSet {X : Cx} {CX : CXT} {E1 : XK} {lv : Nat} {c : Ct} (g : Gs X CX E1 lv c G C) (i : Nat) (m : Md) (e : E) (s : Stmt) (h : chkSet c i e s = true) : PS X s (tS X.K X.mg E1 fun ρ S => (ev G C e ρ S).out fun x S1 => (conv m x S1).out fun v S2 => .nx (ρ.set i (some v)) S2) := by
    unfold chkSet at h
    split at h
    · rename_i x py v p
      simp only [Bool.and_eq_true, Bool.or_eq_true] at h
      obtain ⟨⟨⟨h1, h2⟩, h3⟩, h4⟩ := h
      rcases h4 with h4 | h4
      · exact ps_set' g h1 h2 (sw_no h4) (sndE e g.toGd v h3).pe
      · split at h4
        · rename_i elt gs scope lp
          simp only [Bool.or_eq_true, Bool.and_eq_true, Bool.not_eq_true', decide_eq_true_eq] at h4
          rcases h4 with (h4 | h4) | h4
          · exact ps_set' g h1 h2 (sw_far h4) (sndE e g.toGd _ h3).pe
          · exact ps_set' g h1 h2 (sw_cell (by rw [g.sc]; exact h4)) (sndE e g.toGd _ h3).pe
          · by_cases hl : (py.line == lp.line) = true
            · exact ps_lc' g h1 h4.1 hl h4.2 h3
            · exact ps_set' g h1 h2 (sw_far (by simpa using hl)) (sndE e g.toGd _ h3).pe
        · cases h4
    · cases h
mutual
theorem sndT : ∀ (m : T) {X : Cx} {CX : CXT} {E : XK} {lv : Nat} {c : Ct} (g : Gs X CX E lv c G C) (s : Stmt), chkT c m s = true → PS X s (tS X.K X.mg E (ex G C m))
  | .set i m e, X, CX, E, lv, c, g, s, h => by
    rw [chkT.eq_def] at h; dsimp only at h
    split at h
    · rename_i x py v p
      simp only [Bool.and_eq_true, Bool.or_eq_true] at h
      obtain ⟨⟨⟨h1, h2⟩, h3⟩, h4⟩ := h
      rw [tS_congr fun ρ S => by rw [ex]]
      rcases h4 with h4 | h4
      · exact ps_set' g h1 h2 (sw_no h4) (sndE e g.toGd v h3).pe
      · split at h4
        · rename_i elt gs scope lp
          simp only [Bool.or_eq_true, Bool.and_eq_true, Bool.not_eq_true', decide_eq_true_eq] at h4
          rcases h4 with (h4 | h4) | h4
          · exact ps_set' g h1 h2 (sw_far h4) (sndE e g.toGd _ h3).pe
          · exact ps_set' g h1 h2 (sw_cell (by rw [g.sc]; exact h4)) (sndE e g.toGd _ h3).pe
          · by_cases hl : (py.line == lp.line) = true
            · exact ps_lc' g h1 h4.1 hl h4.2 h3
            · exact ps_set' g h1 h2 (sw_far (by simpa using hl)) (sndE e g.toGd _ h3).pe
        · cases h4
    · cases h
  | .unp is e, X, CX, E, lv, c, g, s, h => by
    rw [chkT.eq_def] at h; dsimp only at h
    split at h
    · simp only [Bool.and_eq_true] at h
      rw [tS_congr fun ρ S => by rw [ex]]
      exact ps_unp' g h.1.1 h.1.2 (sndE e g.toGd _ h.2).pe
    · cases h
  | .par is ms, X, CX, E, lv, c, g, s, h => by
    rw [chkT.eq_def] at h; dsimp only at h
    split at h
    · rename_i ts k tp vs k2 p2 p
      simp only [Bool.and_eq_true, decide_eq_true_eq] at h
      obtain ⟨⟨⟨⟨h1, h2⟩, h3⟩, h4⟩, h5⟩ := h
      have ha := sndEs ms g.toGd vs h2 h3
      rw [tS_congr fun ρ S => by rw [ex]]
      split at h5
      · rename_i x px y py a b i j
        simp only [chkNs, Bool.and_eq_true, Bool.or_eq_true, decide_eq_true_eq] at h1 h5
        rcases h5 with h5 | h5
        · obtain ⟨⟨⟨a1, a2⟩, a3⟩, a4⟩ := h5
          exact ps_par2' g h1.1.1 h1.2.1.1 a1 a2 a3 a4 ha
        · exact ps_parN' g (by simp only [chkNs, Bool.and_eq_true]; exact h1) h4 h5 ha
      · rename_i x px y py z pz a b d i j l
        simp only [chkNs, Bool.and_eq_true, Bool.or_eq_true, decide_eq_true_eq] at h1 h5
        rcases h5 with h5 | h5
        · obtain ⟨⟨⟨⟨⟨⟨a1, a2⟩, a3⟩, a4⟩, a5⟩, a6⟩, a7⟩ := h5
          exact ps_par3' g h1.1.1 h1.2.1.1 h1.2.2.1.1 a1 a2 a3 a4 a5 a6 a7 ha
        · exact ps_parN' g (by simp only [chkNs, Bool.and_eq_true]; exact h1) h4 h5 ha
      · exact ps_parN' g h1 h4 (by simpa using h5) ha
    · cases h
  | .sub o i e, X, CX, E, lv, c, g, s, h => by
    rw [chkT.eq_def] at h; dsimp only at h
    split at h
    · simp only [Bool.and_eq_true] at h
      obtain ⟨⟨⟨h1, h2⟩, h3⟩, h4⟩ := h
      rw [tS_congr (f := fSub (ev G C o) (ev G C i) (ev G C e)) fun ρ S => by rw [ex]; rfl]
      exact ps_sub' g h1 (sndE o g.toGd _ h2).pe (sndE i g.toGd _ h3).pe (sndE e g.toGd _ h4).pe
    · cases h
  | .dvm o i j e, X, CX, E, lv, c, g, s, h => by
    rw [chkT.eq_def] at h; dsimp only at h
    split at h
    · simp only [Bool.and_eq_true] at h
      obtain ⟨⟨⟨⟨⟨⟨h1, h2⟩, h3⟩, h4⟩, h5⟩, h6⟩, h7⟩ := h
      rw [tS_congr (f := fDvm (ev G C o) (ev G C i) (ev G C e) j) fun ρ S => by rw [ex]; rfl]
      exact ps_dvm' g h1 h2 h3 h4 (sndE o g.toGd _ h5).pe (sndE i g.toGd _ h6).pe (sndE e g.toGd _ h7).pe
    · cases h
  | .aug i op e, X, CX, E, lv, c, g, s, h => by
    rw [chkT.eq_def] at h; dsimp only at h
    split at h
    · simp only [Bool.and_eq_true, decide_eq_true_eq] at h
      obtain ⟨⟨⟨⟨e0, h1⟩, h2⟩, h3⟩, h4⟩ := h
      rw [e0]
      rw [tS_congr (f := fAug i op (ev G C e)) fun ρ S => by rw [ex]; rfl]
      exact ps_aug' g h1 h2 h3 (sndE e g.toGd _ h4).pe
    · cases h
  | .exp e, X, CX, E, lv, c, g, s, h => by
    rw [chkT.eq_def] at h; dsimp only at h
    split at h
    · simp only [Bool.and_eq_true] at h
      rw [tS_congr fun ρ S => by rw [ex]]
      exact ps_exp' g h.1 (sndE e g.toGd _ h.2).pe
    · cases h
  | .app i e, X, CX, E, lv, c, g, s, h => by
    rw [chkT.eq_def] at h; dsimp only at h
    split at h
    · simp only [Bool.and_eq_true, decide_eq_true_eq] at h
      obtain ⟨⟨⟨⟨⟨⟨⟨h1, h2⟩, h3⟩, h4⟩, h5⟩, h6⟩, h7⟩, h8⟩ := h
      rw [tS_congr fun ρ S => by rw [ex]]
      exact ps_app' g h1 h2 h3 h4 h5 h6 h7 (sndE e g.toGd _ h8).pe
    · cases h
  | .apx o e, X, CX, E, lv, c, g, s, h => by
    rw [chkT.eq_def] at h; dsimp only at h
    split at h
    · simp only [Bool.and_eq_true, decide_eq_true_eq] at h
      obtain ⟨⟨⟨⟨⟨h1, h2⟩, h3⟩, h4⟩, h5⟩, h6⟩ := h
      rw [tS_congr (f := fApx (ev G C o) (ev G C e)) fun ρ S => by rw [ex]; rfl]
      exact ps_apx' g h1 h2 h3 h4 (sndE o g.toGd _ h5).pe (sndE e g.toGd _ h6).pe
    · cases h
  | .ext i e, X, CX, E, lv, c, g, s, h => by
    rw [chkT.eq_def] at h; dsimp only at h
    split at h
    · simp only [Bool.and_eq_true, decide_eq_true_eq] at h
      obtain ⟨⟨⟨⟨⟨⟨⟨h1, h2⟩, h3⟩, h4⟩, h5⟩, h6⟩, h7⟩, h8⟩ := h
      rw [tS_congr fun ρ S => by rw [ex]]
      exact ps_ext' g h1 h2 h3 h4 h5 h6 h7 (sndE e g.toGd _ h8).pe
    · cases h
  | .ret e, X, CX, E, lv, c, g, s, h => by
    rw [chkT.eq_def] at h; dsimp only at h
    split at h
    · rw [tS_congr fun ρ S => by rw [ex]]
      exact ps_ret' (sndE e g.toGd _ h).pe
    · cases h
  | .retN, X, CX, E, lv, c, g, s, h => by
    rw [chkT.eq_def] at h; dsimp only at h
    split at h
    · rw [tS_congr fun ρ S => by rw [ex]]
      exact ps_retN'
    · cases h
  | .ite t a b, X, CX, E, lv, c, g, s, h => by
    rw [chkT.eq_def] at h; dsimp only at h
    split at h
    · simp only [Bool.and_eq_true] at h
      rw [tS_congr fun ρ S => by rw [ex]]
      exact PS.imp (ps_if (sndE t g.toGd _ h.1.1).pt (sndTs a g _ h.1.2) (sndTs b g _ h.2)) fun Dn σ H hh => rd_test hh
    · cases h
  | .fr tg it body, X, CX, E, lv, c, g, s, h => by
    rw [chkT.eq_def] at h; dsimp only at h
    split at h
    · rename_i tgE iter b p
      simp only [Bool.and_eq_true] at h
      obtain ⟨⟨⟨⟨h1, h2⟩, h3⟩, h4⟩, h5⟩ := h
      rw [tS_congr (f := fun ρ S => (evi G C it ρ S).out fun p S1 => forGo p.1 (fBody tg (exs G C body)) p.2 ρ S1) fun ρ S => by rw [ex]; rfl]
      exact ps_for' g (sndI it g.toGd iter tgE h3 h4) h1 (sndTs body g b h5) h2
    · cases h
  | .wh n t body, X, CX, E, lv, c, g, s, h => by
    rw [chkT.eq_def] at h; dsimp only at h
    split at h
    · simp only [Bool.and_eq_true] at h
      rw [tS_congr (f := fun ρ S => whGo (fun ρ S => (ev G C t ρ S).tru) (exs G C body) n ρ S) fun ρ S => by rw [ex]; rfl]
      exact PS.imp (ps_while g.pown (sndE t g.toGd _ h.1).pt (sndTs body g _ h.2)) fun Dn σ H hh => rd_while hh
    · cases h
  | .brk, X, CX, E, lv, c, g, s, h => by
    rw [chkT.eq_def] at h; dsimp only at h
    split at h
    · rw [tS_congr fun ρ S => by rw [ex]]
      exact ps_brk'
    · cases h
  | .cnt, X, CX, E, lv, c, g, s, h => by
    rw [chkT.eq_def] at h; dsimp only at h
    split at h
    · rw [tS_congr fun ρ S => by rw [ex]]
      exact ps_cnt'
    · cases h
  | .pass, X, CX, E, lv, c, g, s, h => by
    rw [chkT.eq_def] at h; dsimp only at h
    split at h
    · rw [tS_congr fun ρ S => by rw [ex]]
      exact ps_pass'
    · rw [tS_congr fun ρ S => by rw [ex]]
      exact ps_doc'
    · cases h
  | .rais _ _ _, X, CX, E, lv, c, g, s, h => by rw [chkT.eq_def] at h; cases h
  | .nev, X, CX, E, lv, c, g, s, h => PS.imp ps_never fun Dn σ H ⟨ρ, cm, S, hs, he, q⟩ => by rw [ex] at q; exact q
theorem sndTs : ∀ (m : Ts) {X : Cx} {CX : CXT} {E : XK} {lv : Nat} {c : Ct} (g : Gs X CX E lv c G C) (ss : List Stmt), chkTs c m ss = true → PSs X ss (tS X.K X.mg E (exs G C m))
  | .nil, X, CX, E, lv, c, g, ss, h => by
    rw [chkTs.eq_def] at h; dsimp only at h
    cases ss with
    | cons s ss => cases h
    | nil =>
      rw [tS_congr fun ρ S => by rw [exs]]
      exact PSs.imp pss_nil fun Dn σ H hh => rd_nx hh
  | .cons t ts, X, CX, E, lv, c, g, ss, h => by
    rw [chkTs.eq_def] at h; dsimp only at h
    cases ss with
    | nil => cases h
    | cons s ss =>
      simp only [Bool.and_eq_true] at h
      rw [tS_congr fun ρ S => by rw [exs]]
      exact PSs.imp (pss_cons (sndT t g s h.1) (sndTs ts g ss h.2)) fun Dn σ H hh => rd_seq hh
  | .bld i j e body rest, X, CX, E, lv, c, g, ss, h => by
    rw [chkTs.eq_def] at h; dsimp only at h
    cases ss with
    | nil => cases h
    | cons s ss =>
      simp only [Bool.and_eq_true] at h
      obtain ⟨⟨h1, h2⟩, h3⟩ := h
      have hb := sndTs body g _ h2
      have es : ss = ss.take body.len ++ ss.drop body.len := (List.take_append_drop _ _).symm
      generalize ss.take body.len = bs at es hb
      generalize ss.drop body.len = qs at es h3
      subst es
      split at h3
      · simp only [Bool.and_eq_true, decide_eq_true_eq] at h3
        obtain ⟨⟨⟨⟨⟨⟨k1, k2⟩, k3⟩, k4⟩, k5⟩, k6⟩, k7⟩ := h3
        subst k1
        rw [tS_congr (f := fBld i j (ev G C e) (exs G C body) (exs G C rest)) fun ρ S => by rw [exs]; rfl]
        exact pss_bld g (sndSet g i .cel e s h1) hb k2 k3 k4 (sndE (.var j) g.toGd _ k5).pe (sndE (.var i) g.toGd _ k6).pe (sndTs rest g _ k7)
      · cases h3
end
end Rf

set_option Elab.async false
set_option linter.all false
set_option maxRecDepth 100000
set_option maxHeartbeats 4000000
namespace Rf
open PySem PySem.Spec PyProof.Rows L2
section
variable {K : PySem.W.Frag} {mg : Mg} {E : XK} {H H' : Hp} {cm cm' : List CA} {S S' : Store} {Q : VK}
/-- what a body's end is worth to the caller -/
theorem run_end (s : SR K H cm S) {o : Out} (q : okG K mg E (PX K) Q H cm S (match o with
    | .ret (.d d) S1 => .ok (.d d) (S1.take S.length)
    | .ret (.f ds) S1 => .ok (.f ds) (S1.take S.length)
    | .ret (.c n) S1 => if S.length ≤ n then (match S1[n]? with
      | some (.lst ds) => .ok (.f ds) (S1.take S.length)
      | some (.mx es) => .ok (.fm es) (S1.take S.length)
      | _ => .stuck) else .ok (.c n) (S1.take S.length)
    | .ret (.fm es) S1 => .ok (.fm es) (S1.take S.length)
    | .ret (.tf d0 ds) S1 => .ok (.tf d0 ds) (S1.take S.length)
    | .ret (.tc d0 n) S1 => if S.length ≤ n then (match S1[n]? with
      | some (.lst ds) => .ok (.tf d0 ds) (S1.take S.length)
      | _ => .stuck) else .stuck
    | .nx _ S1 => .ok (.d .non) (S1.take S.length)
    | .exc x S1 => .exc x (S1.take S.length)
    | _ => .stuck)) : okS K mg E { nx := fun _ H' => Q .non H', rt := Q } H cm S o := by
  have full : ∀ {H' : Hp} {cm' : List CA} {S1 : Store} (t : Tr H cm S H' cm' S1) (r : SR K H' cm' S1), ∃ cm2, cm2 = cm'.take S.length ∧ Tr H cm S H' cm2 (S1.take S.length) ∧ SR K H' cm2 (S1.take S.length) ∧ Ext H' H' (Lv cm' S1) (Lv cm2 (S1.take S.length)) := fun {H' cm' S1} t r => by
    have sub := sub_take r S.length
    exact ⟨_, rfl, sub.tr t (take_pre t s), sub.sr r, sub.ext r⟩
  have hle : ∀ {H' : Hp} {cm' : List CA} {S1 : Store} (t : Pre cm cm') (hl : cm'.length = S1.length), S.length ≤ S1.length := fun {H' cm' S1} t hl => by
    have := t.len
    rw [s.len, hl] at this
    exact this
  cases o with
  | stuck => exact q
  | brk ρ S1 => exact q.elim
  | cnt ρ S1 => exact q.elim
  | nx ρ S1 =>
    intro σ' H' cm' t r _
    obtain ⟨cm2, _, t2, r2, _⟩ := full t r
    exact q .non H' cm2 ⟨t2, r2, .non⟩
  | exc x S1 =>
    intro cls d H' cm' t r xo
    obtain ⟨cm2, _, t2, r2, e2⟩ := full t r
    obtain ⟨h1, a, fs, h2, h3, h4, h5⟩ := xo
    exact q cls d H' cm2 t2 r2 ⟨h1, a, fs, h2, h3, h4, h5.mono e2⟩
  | ret r S1 =>
    cases r with
    | g a b => exact q.elim
    | r a b => exact q.elim
    | d d =>
      intro v H' cm' p
      obtain ⟨t, r, rp⟩ := p
      obtain ⟨cm2, _, t2, r2, e2⟩ := full t r
      exact q v H' cm2 ⟨t2, r2, rp.mono e2⟩
    | f ds =>
      intro v H' cm' p
      obtain ⟨pa, ev, pre, t, r⟩ := p
      have hl := fr_len r
      have hlen := hle (H' := H') pre hl
      have sub := sub_one (n := S.length) (j := S1.length) (p := (pa, [])) (c := .lst ds) r hlen (by rw [← hl]; simp) (by simp)
      have hlc : S.length ≤ cm'.length := by rw [hl]; exact hlen
      rw [List.take_append_of_le_length hlc, List.take_append_of_le_length hlen] at sub
      have pre2 := pre.take (n := S.length) (Nat.le_of_eq s.len)
      exact q v H' (cm'.take S.length) ⟨pa, ev, pre2, sub.tr t pre2.left, sub.sr r⟩
    | fm ds =>
      intro v H' cm' p
      obtain ⟨pa, os, ev, pre, t, r⟩ := p
      have hl := fr_len r
      have hlen := hle (H' := H') pre hl
      have sub := sub_one (n := S.length) (j := S1.length) (p := (pa, os)) (c := .mx ds) r hlen (by rw [← hl]; simp) (by simp)
      have hlc : S.length ≤ cm'.length := by rw [hl]; exact hlen
      rw [List.take_append_of_le_length hlc, List.take_append_of_le_length hlen] at sub
      have pre2 := pre.take (n := S.length) (Nat.le_of_eq s.len)
      exact q v H' (cm'.take S.length) ⟨pa, os, ev, pre2, sub.tr t pre2.left, sub.sr r⟩
    | tf d0 ds =>
      intro v H' cm' p
      obtain ⟨pa, b, w0, ev, ht, hw, pre, t, r⟩ := p
      have hl := fr_len r
      have hlen := hle (H' := H') pre hl
      have sub := sub_one (n := S.length) (j := S1.length) (p := (pa, [])) (c := .lst ds) r hlen (by rw [← hl]; simp) (by simp)
      have hlc : S.length ≤ cm'.length := by rw [hl]; exact hlen
      rw [List.take_append_of_le_length hlc, List.take_append_of_le_length hlen] at sub
      have pre2 := pre.take (n := S.length) (Nat.le_of_eq s.len)
      have s1 := fr_sr r
      exact q v H' (cm'.take S.length) ⟨pa, b, w0, ev, ht, hw.mono ((sub_take s1 S.length).ext s1), pre2, sub.tr t pre2.left, sub.sr r⟩
    | tc d0 n =>
      intro v H' cm' p
      obtain ⟨t, r, b, w0, a, os, ev, ht, hw, ha⟩ := p
      have pre2 := t.pre.take (n := S.length) (Nat.le_of_eq s.len)
      dsimp only at q
      split at q
      · rename_i hn
        cases e : S1[n]? with
        | none => rw [e] at q; exact q.elim
        | some cl => cases cl with
          | fz ds => rw [e] at q; exact q.elim
          | mx ds => rw [e] at q; exact q.elim
          | lst ds =>
            rw [e] at q
            obtain ⟨_, _, ho, _⟩ := r.ok n a os _ ha e
            subst ho
            have sub := sub_one (n := S.length) (j := n) (p := (a, [])) (c := .lst ds) r hn ha e
            exact q v H' (cm'.take S.length) ⟨a, b, w0, ev, ht, hw.mono ((sub_take r S.length).ext r), pre2, sub.tr t pre2.left, sub.sr r⟩
      · exact q.elim
    | c n =>
      intro v H' cm' p
      obtain ⟨t, r, a, os, ev, ha⟩ := p
      have pre2 := t.pre.take (n := S.length) (Nat.le_of_eq s.len)
      dsimp only at q
      split at q
      · rename_i hn
        cases e : S1[n]? with
        | none => rw [e] at q; exact q.elim
        | some cl => cases cl with
          | fz ds => rw [e] at q; exact q.elim
          | lst ds =>
            rw [e] at q
            obtain ⟨_, _, ho, _⟩ := r.ok n a os _ ha e
            subst ho
            have sub := sub_one (n := S.length) (j := n) (p := (a, [])) (c := .lst ds) r hn ha e
            exact q v H' (cm'.take S.length) ⟨a, ev, pre2, sub.tr t pre2.left, sub.sr r⟩
          | mx ds =>
            rw [e] at q
            have sub := sub_one (n := S.length) (j := n) (p := (a, os)) (c := .mx ds) r hn ha e
            exact q v H' (cm'.take S.length) ⟨a, os, ev, pre2, sub.tr t pre2.left, sub.sr r⟩
      · rename_i hn
        obtain ⟨cm2, ec, t2, r2, e2⟩ := full t r
        exact q v H' cm2 ⟨t2, r2, a, os, ev, by rw [ec, List.getElem?_take_of_lt (by omega)]; exact ha⟩
theorem er_start {N : List Str} {np : Nat} : ∀ {vs : List V} {rs : List RV}, VsOk K H cm S vs rs → ∀ k, ER K H cm S (rs.map some ++ List.replicate k none) (vs.map some ++ List.replicate k none)
  | [], [], .nil, k => ⟨by simp, fun i r h => by
      simp only [List.map_nil, List.nil_append, List.getElem?_replicate] at h
      split at h <;> cases h⟩
  | v :: vs, r :: rs, .cons h q, k => by
    have ih := er_start (N := N) (np := np) q k
    refine ⟨by have := ih.len; simp at this ⊢; omega, fun i x hx => ?_⟩
    cases i with
    | zero => simp at hx; subst hx; exact ⟨v, by simp, h⟩
    | succ i => simp at hx; obtain ⟨w, a, b⟩ := ih.at' i x (by simpa using hx); exact ⟨w, by simpa using a, b⟩
end
/-- what callees let out -/
structure CxOk (P : Program) (w : World) (K : PySem.W.Frag) (mg : Mg) (base : Heap) (CX : CXT) : Prop where
  pass : ∀ N qual scope f cd A outer s H E, Passes CX (cxOf CX P w K mg base N qual scope f cd A outer s H E) E
  pass0 : ∀ X, Passes CX X E0
def Ct.main (N : List Str) (sc : Scope) (fns : List (Str × List Str)) (kws : List (List (Nat × List Str × List Nat))) (cons : List Str) (gcd : Bool) : Ct := ⟨N, sc, fns, kws, cons, gcd, fun _ => true⟩
theorem fnG_run {P : Program} {w : World} {K : PySem.W.Frag} {mg : Mg} {base : Heap} {CX : CXT} {k : Nat} {x qual : Str} {st : Stmt} {f : Addr} {fd : FuncData} {N ps : List Str} {fns : List (Str × List Str)} {kws : List (List (Nat × List Str × List Nat))} {cons : List Str} {gcd : Bool} {G : List Mir} {C : List D} {body : Ts}
    (F : Fun K x qual st f fd) (S : FnScope N ps (defScope st)) (top : Top P w K mg base CX k (Ct.main N (defScope st) fns kws cons gcd) G C) (cx : CxOk P w K mg base CX) (h : chkTs (Ct.main N (defScope st) fns kws cons gcd) body (defBody st) = true) :
    FnG P w K mg base CX (k + 1) f fd ps (spOf K mg ps.length (runD G C ps.length N.length body)) := by
  refine fnG_of F S (fun vs H Q E hsp => by obtain ⟨_, _, _, h, _⟩ := hsp; exact h) fun cdv A outer s H vs Q E g hr hsp => ?_
  obtain ⟨rvs, cm, Sr, hl, hs, hv, q⟩ := hsp
  have gs : Gs (cxOf CX P w K mg base N qual (defScope st) f cdv A outer s H E) CX E k (Ct.main N (defScope st) fns kws cons gcd) G C :=
    { N := rfl, nd := S.nd, sc := rfl, fn := fun _ _ => rfl, calm := rfl, room := hr, grd := g, pass := cx.pass _ _ _ _ _ _ _ _ _ _, pass0 := cx.pass0, top := top, kind := S.kind, pown := passes_of rfl, allfn := fun _ => rfl }
  refine ⟨_, sndTs body gs _ h, rvs.map some ++ List.replicate (N.length - ps.length) none, cm, Sr, hs, ?_, ?_⟩
  · show ER K H cm Sr _ (vs.map some ++ List.replicate (N.length - vs.length) none)
    rw [hl]
    exact er_start (N := N) (np := 0) hv _
  · refine run_end hs ?_
    unfold runD at q
    rw [if_pos (by rw [← hv.length]; exact hl)] at q
    exact q
/-- the defs that a def names, as they stand -/
structure FnAt (P : Program) (w : World) (K : PySem.W.Frag) (mg : Mg) (base : Heap) (CX : CXT) (lv : Nat) (x : Str) (ps : List Str) (kl : List (Nat × List Str × List Nat)) (m : Mir) : Prop where
  ex : ∃ f fd, mg x = some (.ref f) ∧ PySem.W.keepIn K (.ref f) = true ∧ (∀ us : List Value, us.length = ps.length → bindArgs fd ⟨us, []⟩ = pure (ps.zip us)) ∧ (∀ np ks perm, (np, ks, perm) ∈ kl → KwOk fd ps np ks perm) ∧ FnG P w K mg base CX lv f fd ps (spOf K mg ps.length m)
theorem FnAt.mono {P : Program} {w : World} {K : PySem.W.Frag} {mg : Mg} {base : Heap} {CX : CXT} {j k : Nat} {x : Str} {ps : List Str} {kl : List (Nat × List Str × List Nat)} {m : Mir} (F : FnAt P w K mg base CX j x ps kl m) (h : j ≤ k) : FnAt P w K mg base CX k x ps kl m := by
  obtain ⟨f, fd, h1, h2, h3, h4, h5⟩ := F.ex
  exact ⟨f, fd, h1, h2, h3, h4, h5.mono h⟩
inductive FnsAt (P : Program) (w : World) (K : PySem.W.Frag) (mg : Mg) (base : Heap) (CX : CXT) (lv : Nat) : List (Str × List Str) → List (List (Nat × List Str × List Nat)) → List Mir → Prop
  | nil : FnsAt P w K mg base CX lv [] [] []
  | cons {x : Str} {ps : List Str} {kl : List (Nat × List Str × List Nat)} {m : Mir} {fs : List (Str × List Str)} {kls : List (List (Nat × List Str × List Nat))} {G : List Mir} : FnAt P w K mg base CX lv x ps kl m → FnsAt P w K mg base CX lv fs kls G → FnsAt P w K mg base CX lv ((x, ps) :: fs) (kl :: kls) (m :: G)
theorem FnsAt.get {P : Program} {w : World} {K : PySem.W.Frag} {mg : Mg} {base : Heap} {CX : CXT} {lv : Nat} : ∀ {fs : List (Str × List Str)} {kls : List (List (Nat × List Str × List Nat))} {G : List Mir}, FnsAt P w K mg base CX lv fs kls G → ∀ {i : Nat} {x : Str} {ps : List Str}, fs[i]? = some (x, ps) →
    ∃ m, G[i]? = some m ∧ FnAt P w K mg base CX lv x ps ((kls[i]?).getD []) m
  | _, _, _, .nil, i, x, ps, h => by simp at h
  | _, _, _, .cons F r, 0, x, ps, h => by simp at h; obtain ⟨rfl, rfl⟩ := h; exact ⟨_, rfl, F⟩
  | _, _, _, .cons F r, i + 1, x, ps, h => by simpa using FnsAt.get r (by simpa using h)
/-- the module's own constants -/
structure ConAt (mg : Mg) (K : PySem.W.Frag) (x : Str) (d : D) : Prop where
  ex : ∃ v u, mg x = some u ∧ RelV v u ∧ ∀ H L, Rp K H L v d
inductive ConsAt (mg : Mg) (K : PySem.W.Frag) : List Str → List D → Prop
  | nil : ConsAt mg K [] []
  | cons {x : Str} {d : D} {xs : List Str} {ds : List D} : ConAt mg K x d → ConsAt mg K xs ds → ConsAt mg K (x :: xs) (d :: ds)
theorem ConsAt.get {mg : Mg} {K : PySem.W.Frag} : ∀ {xs : List Str} {ds : List D}, ConsAt mg K xs ds → ∀ {i : Nat} {x : Str}, xs[i]? = some x → ∃ d v u, ds[i]? = some d ∧ mg x = some u ∧ RelV v u ∧ ∀ H L, Rp K H L v d
  | _, _, .nil, i, x, h => by simp at h
  | _, _, .cons F r, 0, x, h => by simp at h; subst h; obtain ⟨v, u, a, b, c⟩ := F.ex; exact ⟨_, v, u, rfl, a, b, c⟩
  | _, _, .cons F r, i + 1, x, h => by simpa using ConsAt.get r (by simpa using h)
theorem con_int {mg : Mg} {K : PySem.W.Frag} {x : Str} {i : Int} {t : Tok} (h : mg x = some (.int i t)) : ConAt mg K x (.int i) := ⟨.int i, _, h, ⟨t, rfl⟩, fun _ _ => .int i⟩
theorem con_str {mg : Mg} {K : PySem.W.Frag} {x : Str} {z : Str} {t : Tok} (h : mg x = some (.str z t)) : ConAt mg K x (.str z) := ⟨.str z, _, h, ⟨t, rfl⟩, fun _ _ => .str z⟩
theorem con_tup {mg : Mg} {K : PySem.W.Frag} {x : Str} {a : Addr} {od : Option Addr} {its : Array Value} {n : Nat} {sl : Array (Option Value)} {vs : List V} {ds : List D} (h : mg x = some (.ref a)) (hk : K.lookup a = some ⟨.type "tuple", od, .seq its n, sl⟩) (hs : its.size ≤ sizeLine) (hv : Vals vs its.toList) (hr : ∀ H L, Rps K H L vs ds) : ConAt mg K x (.tup ds) :=
  ⟨.ref a, _, h, rfl, fun H L => .tup (.inr ⟨_, its, n, hk, rfl, rfl, hs, hv⟩) (hr H L)⟩
/-- what the top has written, for every def of the law -/
structure TopC (mg : Mg) (K : PySem.W.Frag) (cons : List Str) (C : List D) (gcd : Bool) : Prop where
  cons : ConsAt mg K cons C
  blt : ∀ x ∈ bltNames, mg x = none
  gcd : gcd = true → mg "gcd" = some (.builtin "math.gcd")
theorem top_mk {P : Program} {w : World} {K : PySem.W.Frag} {mg : Mg} {base : Heap} {CX : CXT} {lv : Nat} {N : List Str} {sc : Scope} {fns : List (Str × List Str)} {kws : List (List (Nat × List Str × List Nat))} {cons : List Str} {gcd : Bool} {G : List Mir} {C : List D}
    (tc : TopC mg K cons C gcd) (fs : FnsAt P w K mg base CX lv fns kws G) : Top P w K mg base CX lv (Ct.main N sc fns kws cons gcd) G C where
  fns := fun i x ps h => by
    obtain ⟨m, h1, F⟩ := fs.get h
    obtain ⟨f, fd, a, b, c, d, e⟩ := F.ex
    exact ⟨m, f, fd, h1, a, b, c, d, e⟩
  cons := fun i x h => tc.cons.get h
  blt := tc.blt
  gcd := tc.gcd
/-- a def, by its text -/
theorem fnAt_mk {P : Program} {w : World} {K : PySem.W.Frag} {mg : Mg} {base : Heap} {CX : CXT} {k : Nat} {x qual : Str} {st : Stmt} {f : Addr} {fd : FuncData} {N ps : List Str} {fns : List (Str × List Str)} {kws : List (List (Nat × List Str × List Nat))} {cons : List Str} {gcd : Bool} {G : List Mir} {C : List D} {body : Ts} {n np : Nat}
    (F : Fun K x qual st f fd) (S : FnScope N ps (defScope st)) (tc : TopC mg K cons C gcd) (cx : CxOk P w K mg base CX) (fs : FnsAt P w K mg base CX k fns kws G) (h : chkTs (Ct.main N (defScope st) fns kws cons gcd) body (defBody st) = true) (e1 : np = ps.length) (e2 : n = N.length) :
    FnG P w K mg base CX (k + 1) f fd ps (spOf K mg ps.length (runD G C np n body)) := by
  subst e1 e2
  exact fnG_run F S (top_mk tc fs) cx h
/-- the mirror that has no fuel left -/
theorem fnG_stuck {P : Program} {w : World} {K : PySem.W.Frag} {mg : Mg} {base : Heap} {CX : CXT} {k : Nat} {f : Addr} {fd : FuncData} {ps : List Str} : FnG P w K mg base CX k f fd ps (spOf K mg ps.length fun _ _ => .stuck) :=
  ⟨fun vs H Q E h => by obtain ⟨_, _, _, h, _⟩ := h; exact h, fun A outer s H args us vs Q E g hr e0 hb r h => by obtain ⟨_, _, _, _, _, _, q⟩ := h; exact q.elim⟩
/-- no exception at all -/
abbrev CX0 : CXT := fun _ _ _ _ _ _ => False
theorem cxOk0 {P : Program} {w : World} {K : PySem.W.Frag} {mg : Mg} {base : Heap} : CxOk P w K mg base CX0 := ⟨fun _ _ _ _ _ _ _ _ _ _ _ _ _ _ _ _ _ h => h.elim, fun _ _ _ _ _ _ _ _ h => h.elim⟩
end Rf

set_option Elab.async false
set_option linter.all false
set_option maxRecDepth 100000
set_option maxHeartbeats 4000000
namespace Rf
open PySem PySem.Spec PyProof.Rows L2
/-! ### the law is called -/
/-- the abstract heap of a script: nothing is tracked but the list itself, frozen -/
def hpOf (a : Addr) (o : Obj) (xs : List V) : Hp := fun b => if b = a then some (.frz o (.lst xs)) else none
def hp0 : Hp := fun _ => none
theorem noneHid {h : Heap} {H : Hp} {a : Addr} {vs : List Value} (hA : ∀ b, H b ≠ none → b = a) (ha : h.get? a = some { cls := .type "list", data := .seq vs.toArray }) {b : Addr} {o : Obj} {es : Array DictEntry} {ep : Nat} (e : h.get? b = some o) (d : o.data = .dict es ep) : H b = none := by
  by_cases z : H b = none
  · exact z
  · have e' := hA b z
    subst e'
    rw [ha] at e
    cases e
    cases d
/-- the promise of a law's def, met by its mirror -/
theorem call_law {P : Program} {w : World} {K : PySem.W.Frag} {mg mb : Str → Option Value} {CX : CXT} {k : Nat} {fa a : Addr} {fd : FuncData} {x : Str} {m : Mir} {s₁ : Shared} {vs : List Value} {ns : List Int}
    (KX : K.In s₁.heap) (hns : s₁.heap.Ns mainGlobals mg) (hb : s₁.heap.Ns builtinsNs mb) (hbb : ∀ x : Str, x ≠ "__name__" → mb x = bootBuiltins x) (hlim : s₁.heap.NoLimit) (hg : s₁.gens = #[])
    (ha : s₁.heap.get? a = some { cls := .type "list", data := .seq vs.toArray }) (hi : IntsAre vs ns) (hl : ns.length ≤ sizeLine) (hr : Room k callerA)
    (F : ∀ base : Heap, K.In base → base.Ns mainGlobals mg → FnG P w K mg base CX k fa fd [x] (spOf K mg 1 m)) (hbind : ∀ (s : Shared) (u : Value), BindsTo s fd ⟨[u], []⟩ [(x, u)])
    (hm : m [.d (.lst (ns.map .int))] [] = .ok (.d (.bl true)) [])
    (hCX : ∀ H e s', CX [] H s₁ (fun _ _ _ => False) e s' → False) :
    codeAny (model P w) callerA (.call (.ref fa) ⟨[.ref a], []⟩) (fun r s' => r = .ok (.ret (.bool true)) ∧ OldK s₁.heap s'.heap ∧ s'.os = s₁.os ∧ AllBare s'.gens) s₁ := by
  have rv := vals_ints hi
  have lenV := hi.length
  have main : ∀ H : Hp, Only H → Frz K H (Lv [] []) a (ns.map V.int) → HOk P w H s₁.heap → (∀ b, H b ≠ none → b = a) → (H a ≠ none → K.lookup a = none) →
      codeAny (model P w) callerA (.call (.ref fa) ⟨[.ref a], []⟩) (fun r s' => r = .ok (.ret (.bool true)) ∧ OldK s₁.heap s'.heap ∧ s'.os = s₁.os ∧ AllBare s'.gens) s₁ := by
    intro H hO hF hok hA hK
    have nsK : ∀ {b : Addr} {m : Str → Option Value}, s₁.heap.Ns b m → (hidT s₁.heap H).Ns b m := fun {b m} ⟨o, es, ep, e, d, r⟩ => ⟨o, es, ep, hidT_get e (noneHid hA ha e d), d, r⟩
    have hKb : K.In (hidT s₁.heap H) := fun b o e => hidT_get (KX b o e) (by
      by_cases z : H b = none
      · exact z
      · have e' := hA b z
        subst e'
        rw [hK z] at e
        cases e)
    obtain ⟨mc, l1, l2⟩ := hlim
    have e0 : Env0 P w K mg (hidT s₁.heap H) callerA [] s₁ H :=
      ⟨rfl, ⟨hKb, nsK hns, ⟨mb, nsK hb, hbb⟩, ⟨mc, nsK l1, l2⟩⟩, fun b o e => of_hidT e, Nat.le_of_eq (hidT_size _ _), trivial, fun b hb => absurd (show b ∈ ([] : List Addr) from hb) (by simp), hok, .of_eq hg⟩
    have rp : Rp K H (Lv [] []) (.ref a) (.lst (ns.map .int)) := .lst hF (rps_ints K H _ ns)
    have no : ∀ n b, ¬ Own [] n b := fun n b ⟨a, os, e, _⟩ => by simp at e
    have sr : SR K H [] [] := ⟨rfl, fun n m b o => absurd o (no n b), fun n a os e => by simp at e, fun n b o => absurd o (no n b), fun n a os c h _ => by simp at h⟩
    have sp : spOf K mg 1 m [.ref a] H (fun v _ => v = .bl true) (fun _ _ _ => False) := ⟨[.d (.lst (ns.map .int))], [], [], rfl, sr, .cons rp .nil, by
      rw [hm]
      intro v H' cm' p
      obtain ⟨_, _, r⟩ := p
      cases r
      rfl⟩
    refine codeAny_mono ((F _ hKb (nsK hns)).run callerA [] s₁ H ⟨[.ref a], []⟩ [.ref a] [.ref a] _ _ rfl hr e0 (hbind s₁ (.ref a)) (.cons rfl .nil) sp) fun r s' h => ?_
    cases r with
    | error e => exact (hCX H e s' h).elim
    | ok fl =>
      cases fl with
      | ret u =>
        obtain ⟨v, H', os, bare, un, hok', r', q⟩ := h
        cases (show v = .bl true from q)
        cases (show u = Value.bool true from r')
        refine ⟨rfl, OldK.of_keep fun b o e => ?_, os, bare⟩
        rcases hO b with z | ⟨ob, xs, z⟩
        · exact un.keep b o e z (fun z => absurd (show b ∈ ([] : List Addr) from z) (by simp)) (by simp)
        · obtain ⟨e1, _⟩ := hok b _ z
          obtain ⟨e2, _⟩ := hok' b _ (un.frzs b ob _ z)
          rw [e] at e1
          cases e1
          exact e2
      | _ => exact False.elim h
  cases hk : K.lookup a with
  | some o =>
    have e := KX a o hk
    rw [ha] at e
    cases e
    refine main hp0 (fun _ => .inl rfl) (.inr (.inr ⟨vs.toArray, _, hk, by rw [List.size_toArray, lenV]; exact hl, by simpa using rv⟩)) (fun b u z => ?_) (fun b z => absurd rfl z) fun z => absurd rfl z
    exact nomatch (show (none : Option HO) = some u from z)
  | none =>
    have at' : hpOf a { cls := .type "list", data := .seq vs.toArray } (ns.map V.int) a = some (.frz { cls := .type "list", data := .seq vs.toArray } (.lst (ns.map V.int))) := if_pos rfl
    have off : ∀ b, b ≠ a → hpOf a { cls := .type "list", data := .seq vs.toArray } (ns.map V.int) b = none := fun b hb => if_neg hb
    refine main (hpOf a { cls := .type "list", data := .seq vs.toArray } (ns.map V.int)) (fun b => ?_) (.inr (.inl ⟨_, at'⟩)) (fun b u z => ?_) (fun b z => ?_) fun _ => hk
    · by_cases hb : b = a
      · subst hb; exact .inr ⟨_, _, at'⟩
      · exact .inl (off b hb)
    · by_cases hb : b = a
      · subst hb
        rw [at'] at z
        cases z
        exact ⟨ha, by rw [List.length_map]; exact hl, vs, _, rv, ha⟩
      · rw [off b hb] at z; cases z
    · by_cases hb : b = a
      · exact hb
      · exact absurd (off b hb) z
/-- what the head leaves, from the law's mirror -/
theorem walk_law {l : PySem.W.OpenLaw} {n k : Nat} {q : Program} {loose : List Str} {XP : (Str → Option Value) → Heap → Prop} {YP : World → Heap → Prop} {d : DefRec} {K : Params → PySem.W.Frag} {CX : World → CXT} {m : Mir} {x : Str}
    (hn : l.most = some n) (hn2 : n ≤ sizeLine) (hdf : d.params.defaults = []) (hr : Room k callerA)
    (hY : ∀ (w : World) (h : Heap), YP w h → (K w.params).In h)
    (F : ∀ (w : World) (mg : Str → Option Value) (fa : Addr) (h : Heap), (K w.params).In h → h.Ns mainGlobals mg → mg d.name = some (.ref fa) →
      ∃ fd : FuncData, (∀ (s : Shared) (u : Value), BindsTo s fd ⟨[u], []⟩ [(x, u)]) ∧
        ∀ base : Heap, (K w.params).In base → base.Ns mainGlobals mg → FnG l.prog w (K w.params) mg base (CX w) k fa fd [x] (spOf (K w.params) mg 1 m))
    (hm : ∀ ns : List Int, ns.length ≤ n → (∀ z ∈ ns, Builtin.Int.intBits z ≤ 1048576) → m [.d (.lst (ns.map .int))] [] = .ok (.d (.bl true)) [])
    (hCX : ∀ (w : World) (H : Hp) (s : Shared) (e : Value) (s' : Shared), CX w [] H s (fun _ _ _ => False) e s' → False) :
    PySem.W.WalkO q loose XP YP l.row.toRowW d [] (fun f vs => PySem.call f vs) := by
  refine Att.attach_callB hn hdf fun w s₀ s₁ mg mb fa o pm cd doc a vs ns G Y ho hd hcd hmg hobj hints hlen hbits hg => ?_
  have KX := hY w _ Y
  obtain ⟨fd, hb, hF⟩ := F w mg fa _ KX G.T.g hmg
  exact call_law KX G.T.g G.T.b G.T.builtins G.T.nolimit hg hobj hints (Nat.le_trans hlen hn2) hr hF hb (hm ns hlen hbits) fun H e s' => hCX w H s₁ e s'
end Rf

set_option Elab.async false
set_option linter.all false
set_option maxRecDepth 100000
set_option maxHeartbeats 1000000
namespace Rf
open PySem PySem.Spec PyProof.Rows L2
/-! ### rules of computation, constructor by constructor -/
/-- not to be looked into by the kernel -/
noncomputable def opq {α : Type} (a : α) : α := Classical.choose (⟨a, rfl⟩ : ∃ b, b = a)
theorem opq_eq {α : Type} (a : α) : opq a = a := Classical.choose_spec (⟨a, rfl⟩ : ∃ b, b = a)
def lookV : Option (Option RV) → Store → Res RX
  | some (some (.d d)), S => .ok (.d d) S
  | some (some (.c n)), S => .ok (.c n) S
  | some (some (.g a b)), S => .ok (.g a b) S
  | some (some (.r a b)), S => .ok (.r a b) S
  | _, _ => .stuck
theorem lookV_g (a b : Int) (S : Store) : lookV (some (some (.g a b))) S = .ok (.g a b) S := rfl
theorem lookV_r (a b : Nat) (S : Store) : lookV (some (some (.r a b))) S = .ok (.r a b) S := rfl
theorem lookV_d (d : D) (S : Store) : lookV (some (some (.d d))) S = .ok (.d d) S := rfl
theorem lookV_c (n : Nat) (S : Store) : lookV (some (some (.c n))) S = .ok (.c n) S := rfl
def lookC : Option D → Store → Res RX
  | some d, S => .ok (.d d) S
  | none, _ => .stuck
theorem lookC_some (d : D) (S : Store) : lookC (some d) S = .ok (.d d) S := Eq.trans rfl rfl
def mkTup : Option (List D) → Store → Res RX
  | some ds, S => if ds.length ≤ line then .ok (.d (.tup ds)) S else .stuck
  | none, _ => .stuck
def mkLst : Option (List D) → Store → Res RX
  | some ds, S => if ds.length ≤ line then .ok (.f ds) S else .stuck
  | none, _ => .stuck
theorem mkTup_eq (ds : List D) (S : Store) : mkTup (some ds) S = if ds.length ≤ line then .ok (.d (.tup ds)) S else .stuck := Eq.trans rfl rfl
theorem mkLst_eq (ds : List D) (S : Store) : mkLst (some ds) S = if ds.length ≤ line then .ok (.f ds) S else .stuck := Eq.trans rfl rfl
theorem mkTup_some {ds : List D} (h : ds.length ≤ line) (S : Store) : mkTup (some ds) S = .ok (.d (.tup ds)) S := if_pos h
theorem mkLst_some {ds : List D} (h : ds.length ≤ line) (S : Store) : mkLst (some ds) S = .ok (.f ds) S := if_pos h
def bin2 (op : Operator) : Option D → Option D → Store → Res RX
  | some d, some e, S => ofOpt (binD op d e) S
  | _, _, _ => .stuck
theorem bin2_some (op : Operator) (d e : D) (S : Store) : bin2 op (some d) (some e) S = ofOpt (binD op d e) S := Eq.trans rfl rfl
def cmp2 (op : CmpOp) : Option D → Option D → Store → Res Bool
  | some d, some e, S => ofOpt (cmpD op d e) S
  | _, _, _ => .stuck
theorem cmp2_some (op : CmpOp) (d e : D) (S : Store) : cmp2 op (some d) (some e) S = ofOpt (cmpD op d e) S := Eq.trans rfl rfl
def idx2 : Option D → Option D → Store → Res D
  | some d, some e, S => ofOpt (idxD d e) S
  | _, _, _ => .stuck
theorem idx2_some (d e : D) (S : Store) : idx2 (some d) (some e) S = ofOpt (idxD d e) S := rfl
def toBl : Res Bool → Res RX := fun r => r.bind fun b S => .ok (.d (.bl b)) S
theorem toBl_ok (b : Bool) (S : Store) : toBl (.ok b S) = .ok (.d (.bl b)) S := Eq.trans rfl rfl
def toRX : Res D → Res RX := fun r => r.bind fun b S => .ok (.d b) S
theorem toRX_ok (d : D) (S : Store) : toRX (.ok d S) = .ok (.d d) S := Eq.trans rfl rfl
def neg1 : RV → Store → Res RX
  | .d (.int i), S => .ok (.d (.int (-i))) S
  | _, _ => .stuck
theorem neg1_int (i : Int) (S : Store) : neg1 (.d (.int i)) S = .ok (.d (.int (-i))) S := rfl
def Res.tr (r : Res RX) : Res Bool := r.bind fun x S => match boolV x with
  | some b => .ok b S
  | none => .stuck
theorem tr_ok (b : Bool) (S : Store) : (Res.ok (.d (.bl b)) S).tr = .ok b S := rfl
theorem tr_stuck : (Res.stuck : Res RX).tr = .stuck := rfl
class Bx (α : Type) where
  v : α
theorem Bx_v {α : Type} (x : α) : @Bx.v α ⟨x⟩ = x := Eq.trans rfl rfl
def Res.bB {α β : Type} (r : Res α) [k : Bx (α → Store → Res β)] : Res β := r.bind k.v
def Res.oB {α : Type} (r : Res α) [k : Bx (α → Store → Out)] : Out := r.out k.v
def Out.tB (r : Out) [k : Bx (Env → Store → Out)] : Out := r.then k.v
theorem bB_ok {α β : Type} (a : α) (S : Store) (k : Bx (α → Store → Res β)) : Res.bB (Res.ok a S) = k.v a S := Eq.trans rfl rfl
theorem oB_ok {α : Type} (a : α) (S : Store) (k : Bx (α → Store → Out)) : Res.oB (Res.ok a S) = k.v a S := Eq.trans rfl rfl
theorem tB_nx (ρ : Env) (S : Store) (k : Bx (Env → Store → Out)) : Out.tB (.nx ρ S) = k.v ρ S := Eq.trans rfl rfl
theorem tB_ret (r : RX) (S : Store) (k : Bx (Env → Store → Out)) : Out.tB (.ret r S) = .ret r S := Eq.trans rfl rfl
theorem tB_brk (ρ : Env) (S : Store) (k : Bx (Env → Store → Out)) : Out.tB (.brk ρ S) = .brk ρ S := Eq.trans rfl rfl
theorem tB_cnt (ρ : Env) (S : Store) (k : Bx (Env → Store → Out)) : Out.tB (.cnt ρ S) = .cnt ρ S := Eq.trans rfl rfl
theorem bind_okN {α β : Type} (a : α) (S : Store) (k : α → Store → Res β) : (Res.ok a S).bind k = k a S := Eq.trans rfl rfl
theorem out_okN {α : Type} (a : α) (S : Store) (k : α → Store → Out) : (Res.ok a S).out k = k a S := Eq.trans rfl rfl
theorem then_nxN (ρ : Env) (S : Store) (k : Env → Store → Out) : (Out.nx ρ S).then k = k ρ S := Eq.trans rfl rfl
def ifR {α : Type} (k : Bool) (a b : α) : α := match k with
  | true => a
  | false => b
def ifB {α : Type} (k : Bool) [a : Bx (α × α)] : α := ifR k a.v.1 a.v.2
theorem ifB_t {α : Type} (a : Bx (α × α)) : ifB true = a.v.1 := Eq.trans rfl rfl
theorem ifB_f {α : Type} (a : Bx (α × α)) : ifB false = a.v.2 := Eq.trans rfl rfl
theorem ifR_t {α : Type} (a b : α) : ifR true a b = a := Eq.trans rfl rfl
theorem ifR_f {α : Type} (a b : α) : ifR false a b = b := Eq.trans rfl rfl
theorem rv_d (d : D) (S : Store) : (Res.ok (.d d) S).rv = .ok (.d d) S := rfl
theorem rv_c (n : Nat) (S : Store) : (Res.ok (.c n) S).rv = .ok (.c n) S := rfl
theorem rv_g (i j : Int) (S : Store) : (Res.ok (.g i j) S).rv = .ok (.g i j) S := rfl
theorem rv_r (i j : Nat) (S : Store) : (Res.ok (.r i j) S).rv = .ok (.r i j) S := rfl
theorem rv_fm (es : List MX) (S : Store) : (Res.ok (.fm es) S).rv = .ok (.d (.lst (es.map MX.dat))) S := rfl
theorem rv_f (ds : List D) (S : Store) : (Res.ok (.f ds) S).rv = .ok (.d (.lst ds)) S := rfl
theorem rv_tf (d0 : D) (ds : List D) (S : Store) : (Res.ok (.tf d0 ds) S).rv = .ok (.d (.tup [d0, .lst ds])) S := rfl
theorem conv_tf (m : Md) (d0 : D) (ds : List D) (S : Store) : conv m (.tf d0 ds) S = .ok (.d (.tup [d0, .lst ds])) S := by cases m <;> rfl
theorem rv_stuck : (Res.stuck : Res RX).rv = .stuck := rfl
theorem conv_d (m : Md) (d : D) (S : Store) : conv m (.d d) S = .ok (.d d) S := by cases m <;> rfl
theorem conv_cel_f (ds : List D) (S : Store) : conv .cel (.f ds) S = .ok (.c S.length) (S ++ [.lst ds]) := rfl
theorem conv_dat_f (ds : List D) (S : Store) : conv .dat (.f ds) S = .ok (.d (.lst ds)) S := rfl
theorem conv_rd_f (ds : List D) (S : Store) : conv .rd (.f ds) S = .ok (.d (.lst ds)) S := rfl
theorem conv_g (m : Md) (i j : Int) (S : Store) : conv m (.g i j) S = .ok (.g i j) S := by cases m <;> rfl
theorem conv_cel_fm (es : List MX) (S : Store) : conv .cel (.fm es) S = .ok (.c S.length) (S ++ [.mx es]) := rfl
theorem conv_mxl_fm (es : List MX) (S : Store) : conv .mxl (.fm es) S = .ok (.c S.length) (S ++ [.mx es]) := rfl
theorem conv_mxl_f (ds : List D) (S : Store) : conv .mxl (.f ds) S = .ok (.c S.length) (S ++ [.mx (ds.map .a)]) := rfl
theorem conv_dat_fm (es : List MX) (S : Store) : conv .dat (.fm es) S = .ok (.d (.lst (es.map MX.dat))) S := rfl
theorem conv_rd_fm (es : List MX) (S : Store) : conv .rd (.fm es) S = .ok (.d (.lst (es.map MX.dat))) S := rfl
theorem conv_cel_r (n i : Nat) (S : Store) : conv .cel (.r n i) S = .ok (.r n i) S := rfl
theorem conv_rd_r (n i : Nat) (S : Store) : conv .rd (.r n i) S = .ok (.r n i) S := rfl
def datC (n : Nat) (S : Store) : Option Cell → Res RV
  | some (.lst ds) => .ok (.d (.lst ds)) (S.set n (.fz ds))
  | some (.fz ds) => .ok (.d (.lst ds)) S
  | some (.mx es) => .ok (.d (.lst (es.map MX.dat))) (S.set n (.fz (es.map MX.dat)))
  | none => .stuck
theorem datC_lst (n : Nat) (S : Store) (ds : List D) : datC n S (some (.lst ds)) = .ok (.d (.lst ds)) (S.set n (.fz ds)) := rfl
theorem datC_fz (n : Nat) (S : Store) (ds : List D) : datC n S (some (.fz ds)) = .ok (.d (.lst ds)) S := rfl
theorem datC_mx (n : Nat) (S : Store) (es : List MX) : datC n S (some (.mx es)) = .ok (.d (.lst (es.map MX.dat))) (S.set n (.fz (es.map MX.dat))) := rfl
theorem conv_dat_c (n : Nat) (S : Store) : conv .dat (.c n) S = datC n S S[n]? := by
  show (match S[n]? with
    | some (.lst ds) => (Res.ok (.d (.lst ds)) (S.set n (.fz ds)) : Res RV)
    | some (.fz ds) => .ok (.d (.lst ds)) S
    | some (.mx es) => .ok (.d (.lst (es.map MX.dat))) (S.set n (.fz (es.map MX.dat)))
    | none => .stuck) = _
  cases S[n]? with
  | none => rfl
  | some c => cases c <;> rfl
theorem conv_cel_c (n : Nat) (S : Store) : conv .cel (.c n) S = .ok (.c n) S := rfl
theorem conv_rd_c (n : Nat) (S : Store) : conv .rd (.c n) S = .ok (.c n) S := rfl
theorem rdV_d (d : D) (S : Store) : rdV S (.d d) = some d := rfl
theorem rdV_c (n : Nat) (S : Store) : rdV S (.c n) = (cellAt S n).map .lst := rfl
theorem rdV_g (i j : Int) (S : Store) : rdV S (.g i j) = none := rfl
theorem rdV_r (n i : Nat) (S : Store) : rdV S (.r n i) = (rowAt S n i).map .lst := rfl
def celC : Option Cell → Option (List D)
  | some (.lst ds) => some ds
  | some (.fz ds) => some ds
  | _ => none
theorem celC_lst (ds : List D) : celC (some (.lst ds)) = some ds := rfl
theorem celC_fz (ds : List D) : celC (some (.fz ds)) = some ds := rfl
theorem celC_mx (es : List MX) : celC (some (.mx es)) = none := rfl
theorem cellAt_eq (S : Store) (n : Nat) : cellAt S n = celC S[n]? := by
  unfold cellAt
  cases S[n]? with
  | none => rfl
  | some c => cases c <;> rfl
def mxC : Option Cell → Option (List MX)
  | some (.mx es) => some es
  | _ => none
theorem mxC_mx (es : List MX) : mxC (some (.mx es)) = some es := rfl
theorem mxAt_eq (S : Store) (n : Nat) : mxAt S n = mxC S[n]? := by
  unfold mxAt
  cases S[n]? with
  | none => rfl
  | some c => cases c <;> rfl
def rowC : Option MX → Option (List D)
  | some (.l ds) => some ds
  | _ => none
theorem rowC_l (ds : List D) : rowC (some (.l ds)) = some ds := rfl
theorem rowAt_eq (S : Store) (n i : Nat) : rowAt S n i = (mxAt S n).bind fun es => rowC es[i]? := by
  unfold rowAt
  cases mxAt S n with
  | none => rfl
  | some es =>
    show (match es[i]? with
      | some (.l ds) => some ds
      | _ => none) = rowC es[i]?
    cases es[i]? with
    | none => rfl
    | some c => cases c <;> rfl
theorem rdW_d (d : D) (S : Store) : rdW S (.d d) = some d := rfl
theorem rdW_r (n i : Nat) (S : Store) : rdW S (.r n i) = (rowAt S n i).map .lst := rfl
theorem rdW_g (i j : Int) (S : Store) : rdW S (.g i j) = none := rfl
def rdC : Option Cell → Option D
  | some (.lst ds) => some (.lst ds)
  | some (.fz ds) => some (.lst ds)
  | some (.mx es) => some (.lst (es.map MX.dat))
  | none => none
theorem rdC_lst (ds : List D) : rdC (some (.lst ds)) = some (.lst ds) := rfl
theorem rdC_fz (ds : List D) : rdC (some (.fz ds)) = some (.lst ds) := rfl
theorem rdC_mx (es : List MX) : rdC (some (.mx es)) = some (.lst (es.map MX.dat)) := rfl
theorem rdW_c (n : Nat) (S : Store) : rdW S (.c n) = rdC S[n]? := by
  show (match S[n]? with
    | some (.lst ds) => some (D.lst ds)
    | some (.fz ds) => some (D.lst ds)
    | some (.mx es) => some (D.lst (es.map MX.dat))
    | none => none) = _
  cases S[n]? with
  | none => rfl
  | some c => cases c <;> rfl
theorem rdWs_nil (S : Store) : rdWs S [] = some [] := rfl
theorem rdWs_cons (S : Store) (v : RV) (vs : List RV) : rdWs S (v :: vs) = (rdW S v).bind fun d => (rdWs S vs).map (d :: ·) := rfl
theorem rdVs_nil (S : Store) : rdVs S [] = some [] := rfl
theorem rdVs_cons (S : Store) (v : RV) (vs : List RV) : rdVs S (v :: vs) = (rdV S v).bind fun d => (rdVs S vs).map (d :: ·) := rfl
theorem ofOpt_some {α : Type} (a : α) (S : Store) : ofOpt (some a) S = .ok a S := rfl
theorem asD_d (d : D) (S : Store) : asD (.d d) S = .ok d S := rfl
theorem asD_f (d : List D) (S : Store) : asD (.f d) S = .ok (.lst d) S := rfl
section
variable {G : List Mir} {C : List D} {ρ : Env} {S : Store}
theorem ev_var (i : Nat) : ev G C (.var i) ρ S = lookV ρ[i]? S := by
  rw [ev]
  cases ρ[i]? with
  | none => rfl
  | some o => cases o with
    | none => rfl
    | some r => cases r <;> rfl
theorem ev_lit (d : D) : ev G C (.lit d) ρ S = .ok (.d d) S := by rw [ev]
theorem ev_con (k : Nat) : ev G C (.con k) ρ S = lookC C[k]? S := by
  rw [ev]; cases C[k]? <;> rfl
theorem ev_tup (es : Es) : ev G C (.tup es) ρ S = (evs G C es ρ S).bB (k := ⟨fun vs S1 => mkTup (rdVs [] vs) S1⟩) := by
  show ev G C (.tup es) ρ S = (evs G C es ρ S).bind fun vs S1 => mkTup (rdVs [] vs) S1
  rw [ev]; congr 1; funext vs S1; cases rdVs [] vs <;> rfl
theorem ev_lst (es : Es) : ev G C (.lst es) ρ S = (evs G C es ρ S).bB (k := ⟨fun vs S1 => mkLst (rdVs [] vs) S1⟩) := by
  show ev G C (.lst es) ρ S = (evs G C es ρ S).bind fun vs S1 => mkLst (rdVs [] vs) S1
  rw [ev]; congr 1; funext vs S1; cases rdVs [] vs <;> rfl
theorem ev_bin (op : Operator) (a b : E) : ev G C (.bin op a b) ρ S = (ev G C a ρ S).rv.bB (k := ⟨fun x S1 => (ev G C b ρ S1).rv.bB (k := ⟨fun y S2 => bin2 op (rdV S2 x) (rdV S2 y) S2⟩)⟩) := by
  show ev G C (.bin op a b) ρ S = (ev G C a ρ S).rv.bind fun x S1 => (ev G C b ρ S1).rv.bind fun y S2 => bin2 op (rdV S2 x) (rdV S2 y) S2
  rw [ev]; congr 1; funext x S1; congr 1; funext y S2; cases rdV S2 x <;> cases rdV S2 y <;> rfl
theorem ev_neg (a : E) : ev G C (.neg a) ρ S = (ev G C a ρ S).rv.bind neg1 := by
  rw [ev]; congr 1; funext x S1
  cases x with
  | d d => cases d <;> rfl
  | _ => rfl
theorem ev_nt (a : E) : ev G C (.nt a) ρ S = (ev G C a ρ S).tr.bB (k := ⟨fun b S1 => .ok (.d (.bl (!b))) S1⟩) := by
  show ev G C (.nt a) ρ S = (ev G C a ρ S).tr.bind fun b S1 => .ok (.d (.bl (!b))) S1
  rw [ev]; unfold Res.tr
  cases ev G C a ρ S with
  | ok x S1 => simp only [Res.bind_ok]; cases boolV x <;> rfl
  | _ => rfl
theorem ev_cmp (op : CmpOp) (a b : E) : ev G C (.cmp op a b) ρ S = (ev G C a ρ S).rv.bB (k := ⟨fun x S1 => (ev G C b ρ S1).rv.bB (k := ⟨fun y S2 => toBl (cmp2 op (rdW S2 x) (rdW S2 y) S2)⟩)⟩) := by
  show ev G C (.cmp op a b) ρ S = (ev G C a ρ S).rv.bind fun x S1 => (ev G C b ρ S1).rv.bind fun y S2 => toBl (cmp2 op (rdW S2 x) (rdW S2 y) S2)
  rw [ev]; congr 1; funext x S1; congr 1; funext y S2; cases rdW S2 x <;> cases rdW S2 y <;> rfl
theorem ev_ch2 (o1 o2 : CmpOp) (a b c : E) : ev G C (.ch2 o1 o2 a b c) ρ S = (ev G C a ρ S).rv.bB (k := ⟨fun x S1 => (ev G C b ρ S1).rv.bB (k := ⟨fun y S2 => (cmp2 o1 (rdW S2 x) (rdW S2 y) S2).bB (k := ⟨fun k S3 => ifB k (a := ⟨(((ev G C c ρ S3).rv.bB (k := ⟨fun z S4 => toBl (cmp2 o2 (rdW S4 y) (rdW S4 z) S4)⟩)), (.ok (.d (.bl false)) S3))⟩)⟩)⟩)⟩) := by
  show ev G C (.ch2 o1 o2 a b c) ρ S = (ev G C a ρ S).rv.bind fun x S1 => (ev G C b ρ S1).rv.bind fun y S2 => (cmp2 o1 (rdW S2 x) (rdW S2 y) S2).bind fun k S3 => ifR k ((ev G C c ρ S3).rv.bind fun z S4 => toBl (cmp2 o2 (rdW S4 y) (rdW S4 z) S4)) (.ok (.d (.bl false)) S3)
  rw [ev]; congr 1; funext x S1; congr 1; funext y S2
  cases rdW S2 x with
  | none => rfl
  | some d => cases rdW S2 y with
    | none => rfl
    | some e =>
      show (ofOpt (cmpD o1 d e) S2).bind _ = (ofOpt (cmpD o1 d e) S2).bind _
      congr 1; funext k S3
      cases k with
      | false => rfl
      | true =>
        show (ev G C c ρ S3).rv.bind _ = (ev G C c ρ S3).rv.bind _
        congr 1; funext z S4
        cases rdW S4 y <;> cases rdW S4 z <;> rfl
theorem ev_ch3 (o1 o2 o3 : CmpOp) (a b c d : E) : ev G C (.ch3 o1 o2 o3 a b c d) ρ S = (ev G C a ρ S).rv.bB (k := ⟨fun x S1 => (ev G C b ρ S1).rv.bB (k := ⟨fun y S2 => (cmp2 o1 (rdW S2 x) (rdW S2 y) S2).bB (k := ⟨fun k S3 => ifB k (a := ⟨(((ev G C c ρ S3).rv.bB (k := ⟨fun z S4 => (cmp2 o2 (rdW S4 y) (rdW S4 z) S4).bB (k := ⟨fun k2 S5 => ifB k2 (a := ⟨(((ev G C d ρ S5).rv.bB (k := ⟨fun w S6 => toBl (cmp2 o3 (rdW S6 z) (rdW S6 w) S6)⟩)), (.ok (.d (.bl false)) S5))⟩)⟩)⟩)), (.ok (.d (.bl false)) S3))⟩)⟩)⟩)⟩) := by
  show ev G C (.ch3 o1 o2 o3 a b c d) ρ S = (ev G C a ρ S).rv.bind fun x S1 => (ev G C b ρ S1).rv.bind fun y S2 => (cmp2 o1 (rdW S2 x) (rdW S2 y) S2).bind fun k S3 => ifR k ((ev G C c ρ S3).rv.bind fun z S4 => (cmp2 o2 (rdW S4 y) (rdW S4 z) S4).bind fun k2 S5 => ifR k2 ((ev G C d ρ S5).rv.bind fun w S6 => toBl (cmp2 o3 (rdW S6 z) (rdW S6 w) S6)) (.ok (.d (.bl false)) S5)) (.ok (.d (.bl false)) S3)
  rw [ev]; congr 1; funext x S1; congr 1; funext y S2
  cases rdW S2 x with
  | none => rfl
  | some d1 => cases rdW S2 y with
    | none => rfl
    | some e =>
      show (ofOpt (cmpD o1 d1 e) S2).bind _ = (ofOpt (cmpD o1 d1 e) S2).bind _
      congr 1; funext k S3
      cases k with
      | false => rfl
      | true =>
        show (ev G C c ρ S3).rv.bind _ = (ev G C c ρ S3).rv.bind _
        congr 1; funext z S4
        cases rdW S4 y with
        | none => rfl
        | some d2 => cases rdW S4 z with
          | none => rfl
          | some e2 =>
            show (ofOpt (cmpD o2 d2 e2) S4).bind _ = (ofOpt (cmpD o2 d2 e2) S4).bind _
            congr 1; funext k S5
            cases k with
            | false => rfl
            | true =>
              show (ev G C d ρ S5).rv.bind _ = (ev G C d ρ S5).rv.bind _
              congr 1; funext w S6
              cases rdW S6 z <;> cases rdW S6 w <;> rfl
theorem ev_and (a b : E) : ev G C (.and a b) ρ S = (ev G C a ρ S).tr.bB (k := ⟨fun k S1 => ifB k (a := ⟨((ev G C b ρ S1), (.ok (.d (.bl false)) S1))⟩)⟩) := by
  show ev G C (.and a b) ρ S = (ev G C a ρ S).tr.bind fun k S1 => ifR k (ev G C b ρ S1) (.ok (.d (.bl false)) S1)
  rw [ev]; unfold Res.tr
  cases ev G C a ρ S with
  | ok x S1 => simp only [Res.bind_ok]; cases boolV x with
    | none => rfl
    | some k => cases k <;> rfl
  | _ => rfl
theorem ev_or (a b : E) : ev G C (.or a b) ρ S = (ev G C a ρ S).tr.bB (k := ⟨fun k S1 => ifB k (a := ⟨((.ok (.d (.bl true)) S1), (ev G C b ρ S1))⟩)⟩) := by
  show ev G C (.or a b) ρ S = (ev G C a ρ S).tr.bind fun k S1 => ifR k (.ok (.d (.bl true)) S1) (ev G C b ρ S1)
  rw [ev]; unfold Res.tr
  cases ev G C a ρ S with
  | ok x S1 => simp only [Res.bind_ok]; cases boolV x with
    | none => rfl
    | some k => cases k <;> rfl
  | _ => rfl
theorem ev_ite (c a b : E) : ev G C (.ite c a b) ρ S = (ev G C c ρ S).tr.bB (k := ⟨fun k S1 => ifB k (a := ⟨((ev G C a ρ S1), (ev G C b ρ S1))⟩)⟩) := by
  show ev G C (.ite c a b) ρ S = (ev G C c ρ S).tr.bind fun k S1 => ifR k (ev G C a ρ S1) (ev G C b ρ S1)
  rw [ev]; unfold Res.tr
  cases ev G C c ρ S with
  | ok x S1 => simp only [Res.bind_ok]; cases boolV x with
    | none => rfl
    | some k => cases k <;> rfl
  | _ => rfl
def mxI (n : Nat) (S : Store) : Option (List MX) → Int → Res RX
  | some es, k => (match ixN es.length k with
    | some j => (match es[j]? with
      | some (.a d) => .ok (.d d) S
      | some (.l _) => .ok (.r n j) S
      | none => .stuck)
    | none => .stuck)
  | none, _ => .stuck
def mxX (S : Store) : RV → Int → Res RX
  | .c n, k => mxI n S (mxAt S n) k
  | _, _ => .stuck
def idx3 (x : RV) (S : Store) : Option D → Option D → Res RX
  | some d, some e => toRX (ofOpt (idxD d e) S)
  | none, some (.int k) => mxX S x k
  | _, _ => .stuck
theorem idx3_d (x : RV) (S : Store) (d e : D) : idx3 x S (some d) (some e) = toRX (ofOpt (idxD d e) S) := Eq.trans rfl rfl
theorem idx3_m (n : Nat) (S : Store) (k : Int) : idx3 (.c n) S none (some (.int k)) = mxI n S (mxAt S n) k := Eq.trans rfl rfl
theorem ev_idx (a i : E) : ev G C (.idx a i) ρ S = (ev G C a ρ S).rv.bB (k := ⟨fun x S1 => (ev G C i ρ S1).rv.bB (k := ⟨fun y S2 => idx3 x S2 (rdV S2 x) (rdV S2 y)⟩)⟩) := by
  show ev G C (.idx a i) ρ S = (ev G C a ρ S).rv.bind fun x S1 => (ev G C i ρ S1).rv.bind fun y S2 => idx3 x S2 (rdV S2 x) (rdV S2 y)
  rw [ev]; congr 1; funext x S1; congr 1; funext y S2
  cases rdV S2 x with
  | some d => cases rdV S2 y <;> rfl
  | none => cases rdV S2 y with
    | none => rfl
    | some e => cases e with
      | int k => cases x with
        | c n =>
          show (match mxAt S2 n with
            | some es => _
            | none => _) = mxI n S2 (mxAt S2 n) k
          cases mxAt S2 n <;> rfl
        | _ => rfl
      | _ => rfl
def slc : Option D → Option Int → Option Int → Store → Res RX
  | some d, l, h, S => ofOpt (sliceD d l h) S
  | none, _, _, _ => .stuck
theorem slc_some (d : D) (l h : Option Int) (S : Store) : slc (some d) l h S = ofOpt (sliceD d l h) S := Eq.trans rfl rfl
theorem ev_sl (a : E) (lo hi : Eo) : ev G C (.sl a lo hi) ρ S = (ev G C a ρ S).rv.bB (k := ⟨fun x S1 => (evo G C lo ρ S1).bB (k := ⟨fun l S2 => (evo G C hi ρ S2).bB (k := ⟨fun h S3 => slc (rdV S3 x) l h S3⟩)⟩)⟩) := by
  show ev G C (.sl a lo hi) ρ S = (ev G C a ρ S).rv.bind fun x S1 => (evo G C lo ρ S1).bind fun l S2 => (evo G C hi ρ S2).bind fun h S3 => slc (rdV S3 x) l h S3
  rw [ev]; congr 1; funext x S1; congr 1; funext l S2; congr 1; funext h S3; cases rdV S3 x <;> rfl
def rev1 : Option D → Store → Res RX
  | some d, S => ofOpt (revD d) S
  | none, _ => .stuck
theorem rev1_some (d : D) (S : Store) : rev1 (some d) S = ofOpt (revD d) S := Eq.trans rfl rfl
theorem ev_rev (a : E) : ev G C (.rev a) ρ S = (ev G C a ρ S).rv.bB (k := ⟨fun x S1 => rev1 (rdV S1 x) S1⟩) := by
  show ev G C (.rev a) ρ S = (ev G C a ρ S).rv.bind fun x S1 => rev1 (rdV S1 x) S1
  rw [ev]; congr 1; funext x S1; cases rdV S1 x <;> rfl
def callM : Option Mir → List RV → Store → Res RX
  | some m, vs, S => m vs S
  | none, _, _ => .stuck
theorem callM_some (m : Mir) (vs : List RV) (S : Store) : callM (some m) vs S = m vs S := Eq.trans rfl rfl
theorem ev_call (f : Nat) (es : Es) : ev G C (.call f es) ρ S = (evs G C es ρ S).bB (k := ⟨fun vs S1 => callM G[f]? vs S1⟩) := by
  show ev G C (.call f es) ρ S = (evs G C es ρ S).bind fun vs S1 => callM G[f]? vs S1
  rw [ev]; congr 1; funext vs S1; cases G[f]? <;> rfl
def callK : Option Mir → Option (List RV) → Store → Res RX
  | some m, some vs, S => m vs S
  | _, _, _ => .stuck
theorem callK_some (m : Mir) (vs : List RV) (S : Store) : callK (some m) (some vs) S = m vs S := Eq.trans rfl rfl
theorem ev_kall (f : Nat) (ps ks : Es) (perm : List Nat) : ev G C (.kall f ps ks perm) ρ S = (evs G C ps ρ S).bB (k := ⟨fun vs S1 => (evs G C ks ρ S1).bB (k := ⟨fun ws S2 => callK G[f]? (permV perm (vs ++ ws)) S2⟩)⟩) := by
  show ev G C (.kall f ps ks perm) ρ S = (evs G C ps ρ S).bind fun vs S1 => (evs G C ks ρ S1).bind fun ws S2 => callK G[f]? (permV perm (vs ++ ws)) S2
  rw [ev]; congr 1; funext vs S1; congr 1; funext ws S2; cases G[f]? <;> cases permV perm (vs ++ ws) <;> rfl
theorem permV_nil (vs : List RV) : permV [] vs = some [] := rfl
theorem permV_cons (i : Nat) (p : List Nat) (vs : List RV) : permV (i :: p) vs = (vs[i]?).bind fun v => (permV p vs).map (v :: ·) := by
  unfold permV
  rw [List.mapM_cons]
  cases vs[i]? with
  | none => rfl
  | some v =>
    show (do let b ← List.mapM (fun i => vs[i]?) p; pure (v :: b)) = _
    cases List.mapM (fun i => vs[i]?) p <;> rfl
def bltM (f : Bf) : Option (List D) → Store → Res RX
  | some ds, S => ofOpt (bltD f ds) S
  | none, _ => .stuck
theorem bltM_some (f : Bf) (ds : List D) (S : Store) : bltM f (some ds) S = ofOpt (bltD f ds) S := Eq.trans rfl rfl
theorem ev_blt (f : Bf) (es : Es) : ev G C (.blt f es) ρ S = (evs G C es ρ S).bB (k := ⟨fun vs S1 => bltM f (rdF f S1 vs) S1⟩) := by
  show ev G C (.blt f es) ρ S = (evs G C es ρ S).bind fun vs S1 => bltM f (rdF f S1 vs) S1
  rw [ev]; congr 1; funext vs S1; cases rdF f S1 vs <;> rfl
theorem rdF_len (S : Store) (vs : List RV) : rdF .len S vs = rdWs S vs := rfl
theorem rdF_repr (S : Store) (vs : List RV) : rdF .repr S vs = rdWs S vs := rfl
def isiM (ts : List Ty) : Option D → Store → Res RX
  | some d, S => .ok (.d (.bl (ts.any (isD d)))) S
  | none, _ => .stuck
theorem isiM_some (ts : List Ty) (d : D) (S : Store) : isiM ts (some d) S = .ok (.d (.bl (ts.any (isD d)))) S := Eq.trans rfl rfl
theorem ev_isi (a : E) (ts : List Ty) : ev G C (.isi a ts) ρ S = (ev G C a ρ S).rv.bB (k := ⟨fun x S1 => isiM ts (rdW S1 x) S1⟩) := by
  show ev G C (.isi a ts) ρ S = (ev G C a ρ S).rv.bind fun x S1 => isiM ts (rdW S1 x) S1
  rw [ev]; congr 1; funext x S1; cases rdW S1 x <;> rfl
def compT (G : List Mir) (C : List D) (elt : E) (tg : Tg) (cond : Eo) (own : List Nat) (ρ : Env) : D → Store → Res (Option D) := fun d S => match bindT tg d (wipeE ρ own) with
      | some ρ1 => (evc G C cond ρ1 S).bind fun b S2 => if b then (ev G C elt ρ1 S2).bind fun x S3 => (asD x S3).bind fun y S4 => .ok (some y) S4 else .ok none S2
      | none => .stuck
def cpM (G : List Mir) (C : List D) (elt : E) (tg : Tg) (cond : Eo) (own : List Nat) (ρ : Env) (p : List (Nat × List D) × List D) (S1 : Store) : Res RX := (compGo p.1 (compT G C elt tg cond own ρ) S1.length p.2 (S1 ++ [.lst []])).nox.bind fun _ S2 => lastL S1.length S2
theorem ev_comp (elt : E) (tg : Tg) (it : I) (cond : Eo) (own : List Nat) : ev G C (.comp elt tg it cond own) ρ S = (evi G C it ρ S).bB (k := ⟨fun p S1 => cpM G C elt tg cond own ρ p S1⟩) := by
  show ev G C (.comp elt tg it cond own) ρ S = (evi G C it ρ S).bind fun p S1 => cpM G C elt tg cond own ρ p S1
  rw [ev]; rfl
def compX (G : List Mir) (C : List D) (elt : E) (tg : Tg) (cond : Eo) (own : List Nat) (ρ : Env) : D → Store → Res (Option MX) := fun d S => match bindT tg d (wipeE ρ own) with
      | some ρ1 => (evc G C cond ρ1 S).bind fun b S2 => if b then (ev G C elt ρ1 S2).bind fun x S3 => (asX x S3).bind fun y S4 => .ok (some y) S4 else .ok none S2
      | none => .stuck
def cxM (G : List Mir) (C : List D) (elt : E) (tg : Tg) (cond : Eo) (own : List Nat) (ρ : Env) (p : List (Nat × List D) × List D) (S1 : Store) : Res RX := (compGx p.1 (compX G C elt tg cond own ρ) S1.length p.2 (S1 ++ [.mx []])).nox.bind fun _ S2 => lastX S1.length S2
theorem ev_compx (elt : E) (tg : Tg) (it : I) (cond : Eo) (own : List Nat) : ev G C (.compx elt tg it cond own) ρ S = (evi G C it ρ S).bB (k := ⟨fun p S1 => cxM G C elt tg cond own ρ p S1⟩) := by
  show ev G C (.compx elt tg it cond own) ρ S = (evi G C it ρ S).bind fun p S1 => cxM G C elt tg cond own ρ p S1
  rw [ev]; rfl
def gathM (k : Nat) (S : Store) (vs : List RV) : Res RX := if vs.length ≤ line then (match gath k S vs with
    | some es => .ok (.fm es) (S.take k)
    | none => .stuck) else .stuck
theorem ev_lsx (es : Es) : ev G C (.lsx es) ρ S = (evs G C es ρ S).bB (k := ⟨fun vs S1 => gathM S.length S1 vs⟩) := by
  show ev G C (.lsx es) ρ S = (evs G C es ρ S).bind fun vs S1 => gathM S.length S1 vs
  rw [ev]; rfl
def rngV : Option (List D) → Store → Res RX
  | some [.int i, .int j], S => .ok (.g i j) S
  | some [.int j], S => .ok (.g 0 j) S
  | _, _ => .stuck
theorem rngV_1 (j : Int) (S : Store) : rngV (some [.int j]) S = .ok (.g 0 j) S := rfl
theorem rngV_2 (i j : Int) (S : Store) : rngV (some [.int i, .int j]) S = .ok (.g i j) S := rfl
theorem ev_rngv (es : Es) : ev G C (.rngv es) ρ S = (evs G C es ρ S).bB (k := ⟨fun vs S1 => rngV (rdVs S1 vs) S1⟩) := by
  show ev G C (.rngv es) ρ S = (evs G C es ρ S).bind fun vs S1 => rngV (rdVs S1 vs) S1
  rw [ev]; congr 1; funext vs S1; unfold rngV; split <;> simp_all
def lrngV0 : Option (List D) → Store → Res RX
  | some ds, S => (match rangeD ds with
    | some r => if r.length ≤ line then .ok (.f r) S else .stuck
    | none => .stuck)
  | none, _ => .stuck
noncomputable def lrngV (o : Option (List D)) (S : Store) : Res RX := opq (lrngV0 o S)
theorem lrngV_1 (j : Int) (S : Store) (h : 0 ≤ j ∧ j ≤ 1000000) : lrngV (some [.int j]) S = .ok (.f (rngD 0 j.toNat)) S := by
  unfold lrngV
  rw [opq_eq]
  unfold lrngV0 rangeD
  simp only [if_pos (show -4611686018427387904 ≤ j ∧ j < 4611686018427387904 by omega)]
  rw [if_pos]
  unfold rngD line
  simp
  omega
theorem ev_lrng (es : Es) : ev G C (.lrng es) ρ S = (evs G C es ρ S).bB (k := ⟨fun vs S1 => lrngV (rdVs S1 vs) S1⟩) := by
  show ev G C (.lrng es) ρ S = (evs G C es ρ S).bind fun vs S1 => lrngV (rdVs S1 vs) S1
  rw [ev]; congr 1; funext vs S1; unfold lrngV; rw [opq_eq]; cases rdVs S1 vs <;> rfl
def trngV0 : Option (List D) → Store → Res RX
  | some ds, S => (match rangeD ds with
    | some r => if r.length ≤ line then .ok (.d (.tup r)) S else .stuck
    | none => .stuck)
  | none, _ => .stuck
noncomputable def trngV (o : Option (List D)) (S : Store) : Res RX := opq (trngV0 o S)
theorem trngV_1 (j : Int) (S : Store) (h : 0 ≤ j ∧ j ≤ 1000000) : trngV (some [.int j]) S = .ok (.d (.tup (rngD 0 j.toNat))) S := by
  unfold trngV
  rw [opq_eq]
  unfold trngV0 rangeD
  simp only [if_pos (show -4611686018427387904 ≤ j ∧ j < 4611686018427387904 by omega)]
  rw [if_pos]
  unfold rngD line
  simp
  omega
theorem trngV_2 (i j : Int) (S : Store) (h : 0 ≤ i ∧ i ≤ 1000000 ∧ 0 ≤ j ∧ j ≤ 1000000) : trngV (some [.int i, .int j]) S = .ok (.d (.tup (rngD i (j - i).toNat))) S := by
  unfold trngV
  rw [opq_eq]
  unfold trngV0 rangeD
  simp only [if_pos (show -4611686018427387904 ≤ i ∧ i < 4611686018427387904 ∧ -4611686018427387904 ≤ j ∧ j < 4611686018427387904 by omega)]
  rw [if_pos]
  unfold rngD line
  simp
  omega
theorem ev_trng (es : Es) : ev G C (.trng es) ρ S = (evs G C es ρ S).bB (k := ⟨fun vs S1 => trngV (rdVs S1 vs) S1⟩) := by
  show ev G C (.trng es) ρ S = (evs G C es ρ S).bind fun vs S1 => trngV (rdVs S1 vs) S1
  rw [ev]; congr 1; funext vs S1; unfold trngV; rw [opq_eq]; cases rdVs S1 vs <;> rfl
def ixoM : Option D → Option D → Store → Res RX
  | some d, some e, S => ofOpt (ixoD d e) S
  | _, _, _ => .stuck
theorem ixoM_some (d e : D) (S : Store) : ixoM (some d) (some e) S = ofOpt (ixoD d e) S := Eq.trans rfl rfl
def slenM : Option D → Store → Res RX
  | some (.lst ds), S => (match intsOf ds with
      | some ns => if ns.length ≤ 4000 then .ok (.d (.int ((dcnt ns : Nat) : Int))) S else .stuck
      | none => .stuck)
  | _, _ => .stuck
theorem slenM_ok {ds : List D} {ns : List Int} (h : intsOf ds = some ns) (hl : ns.length ≤ 4000) (S : Store) : slenM (some (.lst ds)) S = .ok (.d (.int ((dcnt ns : Nat) : Int))) S := by
  show (match intsOf ds with
      | some ns => if ns.length ≤ 4000 then Res.ok (RX.d (.int ((dcnt ns : Nat) : Int))) S else .stuck
      | none => .stuck) = _
  rw [h]
  exact if_pos hl
theorem ev_slen (a : E) : ev G C (.slen a) ρ S = (ev G C a ρ S).rv.bB (k := ⟨fun x S1 => slenM (rdV S1 x) S1⟩) := by
  show ev G C (.slen a) ρ S = (ev G C a ρ S).rv.bind fun x S1 => slenM (rdV S1 x) S1
  rw [ev]; congr 1; funext x S1
  cases rdV S1 x with
  | none => rfl
  | some d => cases d <;> rfl
def tpcM : List RV → Store → Res RX
  | [.d d0, .c n], S => .ok (.tc d0 n) S
  | _, _ => .stuck
theorem tpcM_ok (d0 : D) (n : Nat) (S : Store) : tpcM [.d d0, .c n] S = .ok (.tc d0 n) S := Eq.trans rfl rfl
theorem ev_tpc (es : Es) : ev G C (.tpc es) ρ S = (evs G C es ρ S).bB (k := ⟨fun vs S1 => tpcM vs S1⟩) := by
  show ev G C (.tpc es) ρ S = (evs G C es ρ S).bind fun vs S1 => tpcM vs S1
  rw [ev]; congr 1; funext vs S1
  rcases vs with _ | ⟨a, _ | ⟨b, _ | ⟨c, t⟩⟩⟩
  · rfl
  · cases a <;> rfl
  · cases a <;> first | rfl | (cases b <;> rfl)
  · cases a <;> first | rfl | (cases b <;> rfl)
def tixM : RX → Store → Res RX
  | .tf _ ds, S => .ok (.f ds) S
  | _, _ => .stuck
theorem tixM_ok (d0 : D) (ds : List D) (S : Store) : tixM (.tf d0 ds) S = .ok (.f ds) S := Eq.trans rfl rfl
theorem ev_tix (a : E) : ev G C (.tix a) ρ S = (ev G C a ρ S).bB (k := ⟨fun x S1 => tixM x S1⟩) := by
  show ev G C (.tix a) ρ S = (ev G C a ρ S).bind fun x S1 => tixM x S1
  rw [ev]; congr 1; funext x S1
  cases x <;> rfl
theorem ev_ixo (o x : E) : ev G C (.ixo o x) ρ S = (ev G C o ρ S).rv.bB (k := ⟨fun y S1 => if isLs y then (ev G C x ρ S1).rv.bB (k := ⟨fun z S2 => ixoM (rdW S2 y) (rdW S2 z) S2⟩) else .stuck⟩) := by
  show ev G C (.ixo o x) ρ S = (ev G C o ρ S).rv.bind fun y S1 => if isLs y then (ev G C x ρ S1).rv.bind fun z S2 => ixoM (rdW S2 y) (rdW S2 z) S2 else .stuck
  rw [ev]; congr 1; funext y S1; split
  · congr 1; funext z S2; cases rdW S2 y <;> cases rdW S2 z <;> rfl
  · rfl
theorem isLs_lst (ds : List D) : isLs (.d (.lst ds)) = true := rfl
theorem isLs_c (n : Nat) : isLs (.c n) = true := rfl
def peekM : Option Mir → List RV → Store → Res RX
  | some m, vs, S => peek m vs S
  | none, _, _ => .stuck
theorem peekM_some (m : Mir) (vs : List RV) (S : Store) : peekM (some m) vs S = peek m vs S := Eq.trans rfl rfl
def peek1 (m : Mir) (S : Store) : Option (List D) → Res RX
  | some ds => (match m (ds.map .d) (S.map Cell.fzn) with
    | .ok (.d d) _ => if d.nol then .ok (.d d) S else .stuck
    | _ => .stuck)
  | none => .stuck
theorem peek_eq (m : Mir) (vs : List RV) (S : Store) : peek m vs S = peek1 m S (rdWs S vs) := by
  unfold peek
  cases rdWs S vs <;> rfl
/-- .. its answer known -/
theorem peek1_ok {m : Mir} {S S' : Store} {ds : List D} {d : D} (h : m (ds.map .d) (S.map Cell.fzn) = .ok (.d d) S') (hd : d.nol = true) : peek1 m S (some ds) = .ok (.d d) S := by
  unfold peek1
  simp only [h, hd, if_true]
theorem ev_pk (f : Nat) (es : Es) : ev G C (.pk f es) ρ S = (evs G C es ρ S).bB (k := ⟨fun vs S1 => peekM G[f]? vs S1⟩) := by
  show ev G C (.pk f es) ρ S = (evs G C es ρ S).bind fun vs S1 => peekM G[f]? vs S1
  rw [ev]; congr 1; funext vs S1; cases G[f]? <;> rfl
theorem ev_frz (e : E) : ev G C (.frz e) ρ S = frzR (ev G C e ρ (S.map Cell.fzn)) S := by rw [ev]
theorem frzR_ok {d : D} (S S' : Store) (h : d.nol = true) : frzR (.ok (.d d) S') S = .ok (.d d) S := by
  show (if d.nol then _ else _) = _
  rw [if_pos h]
theorem frzR_bl (b : Bool) (S S' : Store) : frzR (.ok (.d (.bl b)) S') S = .ok (.d (.bl b)) S := frzR_ok S S' rfl
theorem evo_no : evo G C .no ρ S = .ok none S := by rw [evo]
def toI : RX → Store → Res (Option Int)
  | .d (.int i), S => .ok (some i) S
  | _, _ => .stuck
theorem toI_int (i : Int) (S : Store) : toI (.d (.int i)) S = .ok (some i) S := rfl
theorem evo_yes (e : E) : evo G C (.yes e) ρ S = (ev G C e ρ S).bind toI := by
  rw [evo]; congr 1; funext x S1
  cases x with
  | d d => cases d <;> rfl
  | _ => rfl
theorem evc_no : evc G C .no ρ S = .ok true S := by rw [evc]
theorem evc_yes (e : E) : evc G C (.yes e) ρ S = (ev G C e ρ S).tr := by rw [evc]; rfl
theorem evs_nil : evs G C .nil ρ S = .ok [] S := by rw [evs]
theorem evs_cons (m : Md) (e : E) (es : Es) : evs G C (.cons m e es) ρ S = (ev G C e ρ S).bB (k := ⟨fun x S1 => (conv m x S1).bB (k := ⟨fun v S2 => (evs G C es ρ S2).bB (k := ⟨fun vs S3 => .ok (v :: vs) S3⟩)⟩)⟩) := by
  show evs G C (.cons m e es) ρ S = (ev G C e ρ S).bind fun x S1 => (conv m x S1).bind fun v S2 => (evs G C es ρ S2).bind fun vs S3 => .ok (v :: vs) S3
  rw [evs]
/-! statements -/
theorem exs_nil : exs G C .nil ρ S = .nx ρ S := by rw [exs]
theorem exs_cons (t : T) (ts : Ts) : exs G C (.cons t ts) ρ S = (ex G C t ρ S).tB (k := ⟨fun ρ1 S1 => exs G C ts ρ1 S1⟩) := by
  show exs G C (.cons t ts) ρ S = (ex G C t ρ S).then fun ρ1 S1 => exs G C ts ρ1 S1
  rw [exs]
theorem exs_bld (i j : Nat) (e : E) (body rest : Ts) : exs G C (.bld i j e body rest) ρ S = (ev G C e ρ S).oB (k := ⟨fun x S1 => (conv .cel x S1).oB (k := ⟨fun v S2 => (exs G C body (ρ.set i (some v)) S2).tB (k := ⟨fun ρ2 S3 => (bldM S.length i j ρ2 S3).tB (k := ⟨fun ρ3 S4 => exs G C rest ρ3 S4⟩)⟩)⟩)⟩) := by
  show exs G C (.bld i j e body rest) ρ S = (ev G C e ρ S).out fun x S1 => (conv .cel x S1).out fun v S2 => (exs G C body (ρ.set i (some v)) S2).then fun ρ2 S3 => (bldM S.length i j ρ2 S3).then fun ρ3 S4 => exs G C rest ρ3 S4
  rw [exs]
theorem ex_set (i : Nat) (m : Md) (e : E) : ex G C (.set i m e) ρ S = (ev G C e ρ S).oB (k := ⟨fun x S1 => (conv m x S1).oB (k := ⟨fun v S2 => .nx (ρ.set i (some v)) S2⟩)⟩) := by
  show ex G C (.set i m e) ρ S = (ev G C e ρ S).out fun x S1 => (conv m x S1).out fun v S2 => .nx (ρ.set i (some v)) S2
  rw [ex]
theorem ex_par (is : List Nat) (es : Es) : ex G C (.par is es) ρ S = (evs G C es ρ S).oB (k := ⟨fun vs S1 => if vs.length = is.length then .nx (setsV is vs ρ) S1 else .stuck⟩) := by
  show ex G C (.par is es) ρ S = (evs G C es ρ S).out fun vs S1 => if vs.length = is.length then .nx (setsV is vs ρ) S1 else .stuck
  rw [ex]
def unpT (is : List Nat) (ρ : Env) : RV → Store → Out
  | .d (.tup ds), S => if ds.length = is.length then .nx (setsV is (ds.map .d) ρ) S else .stuck
  | .d (.lst ds), S => if ds.length = is.length then .nx (setsV is (ds.map .d) ρ) S else .stuck
  | _, _ => .stuck
theorem ex_unp (is : List Nat) (e : E) : ex G C (.unp is e) ρ S = (ev G C e ρ S).rv.out (unpT is ρ) := by
  rw [ex]; congr 1; funext x S1
  cases x with
  | d d => cases d <;> rfl
  | _ => rfl
theorem ex_exp (e : E) : ex G C (.exp e) ρ S = (ev G C e ρ S).oB (k := ⟨fun _ S1 => .nx ρ S1⟩) := by
  show ex G C (.exp e) ρ S = (ev G C e ρ S).out fun _ S1 => .nx ρ S1
  rw [ex]
theorem ex_ret (e : E) : ex G C (.ret e) ρ S = (ev G C e ρ S).oB (k := ⟨fun x S1 => .ret x S1⟩) := by
  show ex G C (.ret e) ρ S = (ev G C e ρ S).out fun x S1 => .ret x S1
  rw [ex]
theorem ex_retN : ex G C .retN ρ S = .ret (.d .non) S := by rw [ex]
theorem ex_ite (c : E) (a b : Ts) : ex G C (.ite c a b) ρ S = (ev G C c ρ S).tr.oB (k := ⟨fun k S1 => ifB k (a := ⟨((exs G C a ρ S1), (exs G C b ρ S1))⟩)⟩) := by
  show ex G C (.ite c a b) ρ S = (ev G C c ρ S).tr.out fun k S1 => ifR k (exs G C a ρ S1) (exs G C b ρ S1)
  rw [ex]; unfold Res.tr
  cases ev G C c ρ S with
  | ok x S1 => simp only [Res.bind_ok, Res.out_ok]; cases boolV x with
    | none => rfl
    | some k => cases k <;> rfl
  | _ => rfl
def frB (G : List Mir) (C : List D) (tg : Tg) (body : Ts) : D → Env → Store → Out := fun d ρ S => match bindT tg d ρ with
      | some ρ1 => exs G C body ρ1 S
      | none => .stuck
def frM (G : List Mir) (C : List D) (tg : Tg) (body : Ts) (p : List (Nat × List D) × List D) (ρ : Env) (S : Store) : Out := forGo p.1 (frB G C tg body) p.2 ρ S
theorem ex_fr (tg : Tg) (it : I) (body : Ts) : ex G C (.fr tg it body) ρ S = (evi G C it ρ S).oB (k := ⟨fun p S1 => frM G C tg body p ρ S1⟩) := by
  show ex G C (.fr tg it body) ρ S = (evi G C it ρ S).out fun p S1 => frM G C tg body p ρ S1
  rw [ex]; rfl
def whM (G : List Mir) (C : List D) (c : E) (body : Ts) (n : Nat) (ρ : Env) (S : Store) : Out := whGo (fun ρ S => (ev G C c ρ S).tr) (fun ρ S => exs G C body ρ S) n ρ S
theorem ex_wh (n : Nat) (c : E) (body : Ts) : ex G C (.wh n c body) ρ S = whM G C c body n ρ S := by rw [ex]; rfl
end
/-- a body's end -/
def endD (n : Nat) : Out → Res RX
  | .ret (.d d) S1 => .ok (.d d) (S1.take n)
  | .ret (.f ds) S1 => .ok (.f ds) (S1.take n)
  | .ret (.fm es) S1 => .ok (.fm es) (S1.take n)
  | .ret (.tf d0 ds) S1 => .ok (.tf d0 ds) (S1.take n)
  | .ret (.tc d0 k) S1 => if n ≤ k then (match S1[k]? with
      | some (.lst ds) => .ok (.tf d0 ds) (S1.take n)
      | _ => .stuck) else .stuck
  | .ret (.c k) S1 => if n ≤ k then (match S1[k]? with
      | some (.lst ds) => .ok (.f ds) (S1.take n)
      | some (.mx es) => .ok (.fm es) (S1.take n)
      | _ => .stuck) else .ok (.c k) (S1.take n)
  | .nx _ S1 => .ok (.d .non) (S1.take n)
  | .exc x S1 => .exc x (S1.take n)
  | _ => .stuck
theorem runD_eq {G : List Mir} {C : List D} {np nn : Nat} {body : Ts} {vs : List RV} {S : Store} (h : vs.length = np) : runD G C np nn body vs S = endD S.length (exs G C body (vs.map some ++ List.replicate (nn - np) none) S) := by
  unfold runD
  rw [if_pos h]
  cases exs G C body (vs.map some ++ List.replicate (nn - np) none) S with
  | ret r S1 => cases r <;> rfl
  | _ => rfl
theorem endD_d (n : Nat) (d : D) (S : Store) : endD n (.ret (.d d) S) = .ok (.d d) (S.take n) := rfl
theorem endD_f (n : Nat) (d : List D) (S : Store) : endD n (.ret (.f d) S) = .ok (.f d) (S.take n) := rfl
theorem endD_fm (n : Nat) (d : List MX) (S : Store) : endD n (.ret (.fm d) S) = .ok (.fm d) (S.take n) := rfl
theorem endD_c {n k : Nat} (S : Store) (h : k < n) : endD n (.ret (.c k) S) = .ok (.c k) (S.take n) := by
  show (if n ≤ k then _ else _) = _
  rw [if_neg (by omega)]
def endC : Option Cell → Store → Res RX
  | some (.lst ds), S => .ok (.f ds) S
  | some (.mx es), S => .ok (.fm es) S
  | _, _ => .stuck
theorem endD_c2 {n k : Nat} (S : Store) (h : n ≤ k) : endD n (.ret (.c k) S) = endC S[k]? (S.take n) := by
  show (if n ≤ k then _ else _) = _
  rw [if_pos h]
  cases S[k]? with
  | none => rfl
  | some c => cases c <;> rfl
theorem endD_tf (n : Nat) (d0 : D) (d : List D) (S : Store) : endD n (.ret (.tf d0 d) S) = .ok (.tf d0 d) (S.take n) := rfl
theorem endD_tc {n k : Nat} {d0 : D} {ds : List D} (S : Store) (h : n ≤ k) (e : S[k]? = some (.lst ds)) : endD n (.ret (.tc d0 k) S) = .ok (.tf d0 ds) (S.take n) := by
  show (if n ≤ k then _ else _) = _
  rw [if_pos h, e]
theorem endD_nx (n : Nat) (ρ : Env) (S : Store) : endD n (.nx ρ S) = .ok (.d .non) (S.take n) := rfl
end Rf
namespace Rf
open PySem PySem.Spec PyProof.Rows L2
theorem binD_add (i j : Int) : binD .Add (.int i) (.int j) = some (.d (.int (i + j))) := rfl
theorem binD_sub (i j : Int) : binD .Sub (.int i) (.int j) = some (.d (.int (i - j))) := rfl
theorem binD_mul (i j : Int) : binD .Mult (.int i) (.int j) = if mulOk i j then some (.d (.int (i * j))) else none := rfl
theorem binD_fdiv (i j : Int) : binD .FloorDiv (.int i) (.int j) = if j ≠ 0 ∧ j.natAbs.log2 < 9000 then some (.d (.int (i.fdiv j))) else none := rfl
theorem binD_mod (i j : Int) : binD .Mod (.int i) (.int j) = if j ≠ 0 then some (.d (.int (i.fmod j))) else none := rfl
theorem binD_pow (i j : Int) : binD .Pow (.int i) (.int j) = if 0 ≤ j ∧ j ≤ 1000000 ∧ i.natAbs < 18446744073709551616 then some (.d (.int (i ^ j.toNat))) else none := rfl
theorem binD_lst (a b : List D) : binD .Add (.lst a) (.lst b) = if a.length + b.length ≤ line then some (.f (a ++ b)) else none := rfl
theorem binD_tup (a b : List D) : binD .Add (.tup a) (.tup b) = if a.length + b.length ≤ line then some (.d (.tup (a ++ b))) else none := rfl
theorem binD_rep (a : List D) (k : Int) : binD .Mult (.lst a) (.int k) = if -9223372036854775808 ≤ k ∧ k < 9223372036854775808 ∧ a.length * k.toNat ≤ line then some (.f (repD a k)) else none := rfl
theorem cmpD_lt (i j : Int) : cmpD .Lt (.int i) (.int j) = some (decide (i < j)) := rfl
theorem cmpD_le (i j : Int) : cmpD .LtE (.int i) (.int j) = some (decide (i ≤ j)) := rfl
theorem cmpD_gt (i j : Int) : cmpD .Gt (.int i) (.int j) = some (decide (j < i)) := rfl
theorem cmpD_ge (i j : Int) : cmpD .GtE (.int i) (.int j) = some (decide (j ≤ i)) := rfl
theorem cmpD_eqi (i j : Int) : cmpD .Eq (.int i) (.int j) = some (decide (i = j)) := rfl
theorem cmpD_nei (i j : Int) : cmpD .NotEq (.int i) (.int j) = some (!decide (i = j)) := rfl
theorem cmpD_eqs (i j : Str) : cmpD .Eq (.str i) (.str j) = some (decide (i = j)) := rfl
theorem cmpD_nes (i j : Str) : cmpD .NotEq (.str i) (.str j) = some (!decide (i = j)) := rfl
theorem idxD_l (xs : List D) (i : Int) : idxD (.lst xs) (.int i) = atI xs i := rfl
theorem idxD_t (xs : List D) (i : Int) : idxD (.tup xs) (.int i) = atI xs i := rfl
theorem bltD_len_l (xs : List D) : bltD .len [.lst xs] = some (.d (.int xs.length)) := rfl
theorem bltD_len_t (xs : List D) : bltD .len [.tup xs] = some (.d (.int xs.length)) := rfl
theorem bltD_abs (i : Int) : bltD .abs [.int i] = some (.d (.int (if i < 0 then -i else i))) := rfl
theorem bltD_int (i : Int) : bltD .int [.int i] = some (.d (.int i)) := rfl
theorem bltD_max2 (i j : Int) : bltD .max2 [.int i, .int j] = some (.d (.int (if j > i then j else i))) := rfl
theorem bltD_min2 (i j : Int) : bltD .min2 [.int i, .int j] = some (.d (.int (if j < i then j else i))) := rfl
theorem bltD_gcd (a b : Int) : bltD .gcd [.int a, .int b] = some (.d (.int ((Nat.gcd a.natAbs b.natAbs : Nat) : Int))) := rfl
theorem bltD_tupl (xs : List D) : bltD .tuple [.lst xs] = some (.d (.tup xs)) := rfl
theorem bltD_tupt (xs : List D) : bltD .tuple [.tup xs] = some (.d (.tup xs)) := rfl
theorem bltD_listl (xs : List D) : bltD .list [.lst xs] = some (.f xs) := rfl
theorem bltD_listt (xs : List D) : bltD .list [.tup xs] = some (.f xs) := rfl
theorem bltD_repr (d : D) : bltD .repr [d] = if d.rpOk then some (.d (.str d.py.shown)) else none := rfl
theorem bltD_divmod (i j : Int) : bltD .divmod [.int i, .int j] = if 0 < j ∧ j < 1073741824 then some (.d (.tup [.int (i / j), .int (i % j)])) else none := rfl
theorem bltD_maxL {xs : List D} {n : Int} {ns : List Int} (h : intsOf xs = some (n :: ns)) : bltD .maxL [.lst xs] = some (.d (.int (maxI (n :: ns)))) := by
  show (match intsOf xs with
    | some (n :: ns) => some (RX.d (D.int (maxI (n :: ns))))
    | _ => none) = _
  rw [h]
theorem bltD_minL {xs : List D} {n : Int} {ns : List Int} (h : intsOf xs = some (n :: ns)) : bltD .minL [.lst xs] = some (.d (.int (minI (n :: ns)))) := by
  show (match intsOf xs with
    | some (n :: ns) => some (RX.d (D.int (minI (n :: ns))))
    | _ => minG xs) = _
  rw [h]
theorem bltD_minG {x : D} {xs : List D} (h : intsOf (x :: xs) = none) (hk : mOk (x :: xs) = true) : bltD .minL [.lst (x :: xs)] = some (.d (minDD x xs)) := by
  show (match intsOf (x :: xs) with
    | some (n :: ns) => some (RX.d (D.int (minI (n :: ns))))
    | _ => minG (x :: xs)) = _
  rw [h]
  exact if_pos hk
theorem bltD_sorted {xs : List D} {ns : List Int} (h : intsOf xs = some ns) : bltD .sorted [.lst xs] = some (.f ((sortI ns).map .int)) := by
  simp only [bltD, h]
theorem bltD_sortT {xs : List D} {tss : List (List Int)} (h0 : intsOf xs = none) (h : tupsOf xs = some tss) (hk : tOk tss = true) : bltD .sorted [.lst xs] = some (.f ((sortT tss).map tupD)) := by
  simp only [bltD, h0, h, hk, if_true]
theorem bltD_any (xs : List D) : bltD .any [.lst xs] = (bls xs).map fun bs => .d (.bl (bs.any id)) := rfl
theorem bltD_all (xs : List D) : bltD .all [.lst xs] = (bls xs).map fun bs => .d (.bl (bs.all id)) := rfl
theorem bltD_sum (xs : List D) : bltD .sum [.lst xs] = (intsOf xs).map fun ns => .d (.int ns.sum) := rfl
theorem bls_n : bls [] = some [] := rfl
theorem bls_c (b : Bool) (r : List D) : bls (.bl b :: r) = (bls r).map (b :: ·) := rfl
theorem intsOf_n : intsOf [] = some [] := rfl
theorem intsOf_c (b : Int) (r : List D) : intsOf (.int b :: r) = (intsOf r).map (b :: ·) := rfl
theorem atI_0 {α : Type} (x : α) (xs : List α) : atI (x :: xs) 0 = some x := by
  unfold atI ixN
  rw [if_pos (by omega), if_pos (by simp)]; rfl
theorem atI_1 {α : Type} (x y : α) (xs : List α) : atI (x :: y :: xs) 1 = some y := by
  unfold atI ixN
  rw [if_pos (by omega), if_pos (by simp; omega)]; rfl
section
variable {G : List Mir} {C : List D} {ρ : Env} {S : Store}
def subC (ρ : Env) (d : D) (n : Nat) (S4 : Store) (k : Int) : Option Cell → Out
  | some (.lst ds) => (match ixN ds.length k with
        | some j => .nx ρ (S4.set n (.lst (ds.set j d)))
        | none => .stuck)
  | some (.mx es) => (match ixN es.length k with
          | some j => (match es[j]? with
            | some (.a _) => .nx ρ (S4.set n (.mx (es.set j (.a d))))
            | _ => .stuck)
          | none => .stuck)
  | _ => .stuck
def subZ (ρ : Env) (d : D) (n : Nat) : RV → Store → Out
  | .d (.int k), S4 => subC ρ d n S4 k S4[n]?
  | _, _ => .stuck
theorem subZ_int (ρ : Env) (d : D) (n : Nat) (k : Int) (S : Store) : subZ ρ d n (.d (.int k)) S = subC ρ d n S k S[n]? := Eq.trans rfl rfl
def subR (ρ : Env) (d : D) (n h : Nat) (S4 : Store) (k : Int) : Option (List MX) → Out
  | some es => (match es[h]? with
          | some (.l ds) => (match ixN ds.length k with
            | some j => .nx ρ (S4.set n (.mx (es.set h (.l (ds.set j d)))))
            | none => .stuck)
          | _ => .stuck)
  | none => .stuck
def subW (ρ : Env) (d : D) (n h : Nat) : RV → Store → Out
  | .d (.int k), S4 => subR ρ d n h S4 k (mxAt S4 n)
  | _, _ => .stuck
theorem subW_int (ρ : Env) (d : D) (n h : Nat) (k : Int) (S : Store) : subW ρ d n h (.d (.int k)) S = subR ρ d n h S k (mxAt S n) := Eq.trans rfl rfl
def subY (ρ : Env) (d : D) (z : Res RV) : RX → Out
  | .c n => z.out (subZ ρ d n)
  | .r n h => z.out (subW ρ d n h)
  | _ => .stuck
theorem subY_c (ρ : Env) (d : D) (z : Res RV) (n : Nat) : subY ρ d z (.c n) = z.out (subZ ρ d n) := Eq.trans rfl rfl
theorem subY_r (ρ : Env) (d : D) (z : Res RV) (n h : Nat) : subY ρ d z (.r n h) = z.out (subW ρ d n h) := Eq.trans rfl rfl
theorem ex_sub (o i e : E) : ex G C (.sub o i e) ρ S = (ev G C e ρ S).oB (k := ⟨fun x S1 => (asD x S1).oB (k := ⟨fun d S2 => (ev G C o ρ S2).oB (k := ⟨fun y S3 => subY ρ d (ev G C i ρ S3).rv y⟩)⟩)⟩) := by
  show ex G C (.sub o i e) ρ S = (ev G C e ρ S).out fun x S1 => (asD x S1).out fun d S2 => (ev G C o ρ S2).out fun y S3 => subY ρ d (ev G C i ρ S3).rv y
  rw [ex]; congr 1; funext x S1; congr 1; funext d S2; congr 1; funext y S3
  cases y with
  | c n =>
    show _ = (ev G C i ρ S3).rv.out (subZ ρ d n)
    dsimp only
    congr 1; funext z S4
    cases z with
    | d dz => cases dz with
      | int k =>
        show _ = subC ρ d n S4 k S4[n]?
        dsimp only
        cases S4[n]? with
        | none => rfl
        | some c => cases c <;> rfl
      | _ => rfl
    | _ => rfl
  | r n h =>
    show _ = (ev G C i ρ S3).rv.out (subW ρ d n h)
    dsimp only
    congr 1; funext z S4
    cases z with
    | d dz => cases dz with
      | int k =>
        show _ = subR ρ d n h S4 k (mxAt S4 n)
        dsimp only
        cases mxAt S4 n <;> rfl
      | _ => rfl
    | _ => rfl
  | _ => rfl
def dvmZ (ρ : Env) (d d2 : D) (n j : Nat) : RV → Store → Out
  | .d (.int k), S4 => (match S4[n]? with
          | some (.lst ds) => (match ixN ds.length k with
            | some t => .nx (ρ.set j (some (.d d2))) (S4.set n (.lst (ds.set t d)))
            | none => .stuck)
          | _ => .stuck)
  | _, _ => .stuck
def dvmY (ρ : Env) (d d2 : D) (j : Nat) (z : Res RV) : RX → Out
  | .c n => z.out (dvmZ ρ d d2 n j)
  | _ => .stuck
theorem dvmY_c (ρ : Env) (d d2 : D) (j : Nat) (z : Res RV) (n : Nat) : dvmY ρ d d2 j z (.c n) = z.out (dvmZ ρ d d2 n j) := Eq.trans rfl rfl
def dvmX (k : D → D → Out) : RV → Out
  | .d (.tup [d, d2]) => k d d2
  | _ => .stuck
theorem dvmX_t (k : D → D → Out) (d d2 : D) : dvmX k (.d (.tup [d, d2])) = k d d2 := Eq.trans rfl rfl
theorem ex_dvm (o i : E) (j : Nat) (e : E) : ex G C (.dvm o i j e) ρ S = (ev G C e ρ S).rv.oB (k := ⟨fun x S1 => dvmX (fun d d2 => (ev G C o ρ S1).oB (k := ⟨fun y S3 => dvmY ρ d d2 j (ev G C i ρ S3).rv y⟩)) x⟩) := by
  show ex G C (.dvm o i j e) ρ S = (ev G C e ρ S).rv.out fun x S1 => dvmX (fun d d2 => (ev G C o ρ S1).out fun y S3 => dvmY ρ d d2 j (ev G C i ρ S3).rv y) x
  rw [ex]; congr 1; funext x S1
  cases x with
  | d x => cases x with
    | tup xs => match xs with
      | [] => rfl
      | [_] => rfl
      | _ :: _ :: _ :: _ => rfl
      | [a, b] =>
        show (ev G C o ρ S1).out _ = (ev G C o ρ S1).out _
        congr 1; funext y S3
        cases y with
        | c n =>
          show _ = (ev G C i ρ S3).rv.out (dvmZ ρ a b n j)
          dsimp only
          congr 1; funext z S4
          cases z with
          | d dz => cases dz <;> rfl
          | _ => rfl
        | _ => rfl
    | _ => rfl
  | _ => rfl
theorem dvmZ_0 (ρ : Env) (d d2 x : D) (j : Nat) (xs : List D) (R : Store) : dvmZ ρ d d2 0 j (.d (.int 0)) (.lst (x :: xs) :: R) = .nx (ρ.set j (some (.d d2))) (.lst (d :: xs) :: R) := by
  unfold dvmZ ixN
  simp
theorem subZ_0 (ρ : Env) (d x : D) (xs : List D) (R : Store) : subZ ρ d 0 (.d (.int 0)) (.lst (x :: xs) :: R) = .nx ρ (.lst (d :: xs) :: R) := by
  unfold subZ subC ixN
  simp
theorem subZ_1 (ρ : Env) (d x y : D) (xs : List D) (R : Store) : subZ ρ d 0 (.d (.int 1)) (.lst (x :: y :: xs) :: R) = .nx ρ (.lst (x :: d :: xs) :: R) := by
  unfold subZ subC ixN
  simp
  rw [if_pos (by omega)]
  rfl
def appY (ρ : Env) : Option (Option RV) → (Nat → Out) → Out
  | some (some (.c n)), k => k n
  | _, _ => .stuck
theorem appY_c (n : Nat) (k : Nat → Out) : appY ρ (some (some (.c n))) k = k n := Eq.trans rfl rfl
def appZ (ρ : Env) (n : Nat) (d : D) (S : Store) : Out := match S[n]? with
  | some (.lst ds) => if ds.length < line then .nx ρ (S.set n (.lst (ds ++ [d]))) else .stuck
  | _ => .stuck
def extZ (ρ : Env) (n : Nat) (S1 : Store) : Option Cell → Option D → Out
  | some (.lst ds), some (.lst es) => if ds.length + es.length ≤ line then .nx ρ (S1.set n (.lst (ds ++ es))) else .stuck
  | some (.lst ds), some (.tup es) => if ds.length + es.length ≤ line then .nx ρ (S1.set n (.lst (ds ++ es))) else .stuck
  | _, _ => .stuck
theorem extZ_t (ρ : Env) (n : Nat) (S1 : Store) (ds es : List D) (h : ds.length + es.length ≤ line) : extZ ρ n S1 (some (.lst ds)) (some (.tup es)) = .nx ρ (S1.set n (.lst (ds ++ es))) := if_pos h
theorem ex_ext (i : Nat) (e : E) : ex G C (.ext i e) ρ S = appY ρ ρ[i]? fun n => (ev G C e ρ S).rv.oB (k := ⟨fun x S1 => extZ ρ n S1 S1[n]? (rdV S1 x)⟩) := by
  show ex G C (.ext i e) ρ S = appY ρ ρ[i]? fun n => (ev G C e ρ S).rv.out fun x S1 => extZ ρ n S1 S1[n]? (rdV S1 x)
  rw [ex]
  cases ρ[i]? with
  | none => rfl
  | some o => cases o with
    | none => rfl
    | some r => cases r with
      | c n =>
        show (ev G C e ρ S).rv.out _ = (ev G C e ρ S).rv.out _
        congr 1
      | _ => rfl
def apxR (ρ : Env) (n h : Nat) (d : D) (S3 : Store) : Option (List MX) → Out
  | some es => (match es[h]? with
        | some (.l ds) => if ds.length < line then .nx ρ (S3.set n (.mx (es.set h (.l (ds ++ [d]))))) else .stuck
        | _ => .stuck)
  | none => .stuck
def apxM (ρ : Env) (n : Nat) (v : MX) (S3 : Store) : Option (List MX) → Out
  | some es => if es.length < line then .nx ρ (S3.set n (.mx (es ++ [v]))) else .stuck
  | none => .stuck
def apxC (ρ : Env) (n : Nat) (x : RX) (S2 : Store) : Option Cell → Out
  | some (.mx _) => (asX x S2).out fun v S3 => apxM ρ n v S3 (mxAt S3 n)
  | some (.lst _) => (asD x S2).out (appZ ρ n)
  | _ => .stuck
def apxY (ρ : Env) (z : Res RX) : RV → Out
  | .c n => z.out fun x S2 => apxC ρ n x S2 S2[n]?
  | .r n h => z.out fun x S2 => (asD x S2).out fun d S3 => apxR ρ n h d S3 (mxAt S3 n)
  | _ => .stuck
theorem apxY_c (ρ : Env) (z : Res RX) (n : Nat) : apxY ρ z (.c n) = z.out fun x S2 => apxC ρ n x S2 S2[n]? := Eq.trans rfl rfl
theorem apxY_r (ρ : Env) (z : Res RX) (n h : Nat) : apxY ρ z (.r n h) = z.out fun x S2 => (asD x S2).out fun d S3 => apxR ρ n h d S3 (mxAt S3 n) := Eq.trans rfl rfl
theorem apxC_mx (ρ : Env) (n : Nat) (x : RX) (S2 : Store) (es : List MX) : apxC ρ n x S2 (some (.mx es)) = (asX x S2).out fun v S3 => apxM ρ n v S3 (mxAt S3 n) := Eq.trans rfl rfl
theorem apxC_lst (ρ : Env) (n : Nat) (x : RX) (S2 : Store) (es : List D) : apxC ρ n x S2 (some (.lst es)) = (asD x S2).out (appZ ρ n) := Eq.trans rfl rfl
theorem ex_apx (o e : E) : ex G C (.apx o e) ρ S = (ev G C o ρ S).oB (k := ⟨fun y S0 => (conv .cel y S0).oB (k := ⟨fun w S1 => apxY ρ (ev G C e ρ S1) w⟩)⟩) := by
  show ex G C (.apx o e) ρ S = (ev G C o ρ S).out fun y S0 => (conv .cel y S0).out fun w S1 => apxY ρ (ev G C e ρ S1) w
  rw [ex]; congr 1; funext y S0; congr 1; funext w S1
  cases w with
  | c n =>
    show _ = (ev G C e ρ S1).out fun x S2 => apxC ρ n x S2 S2[n]?
    dsimp only
    congr 1; funext x S2
    cases S2[n]? with
    | none => rfl
    | some c => cases c with
      | mx es =>
        show _ = (asX x S2).out fun v S3 => apxM ρ n v S3 (mxAt S3 n)
        dsimp only
        congr 1; funext v S3
        rw [mxAt_eq]
        cases S3[n]? with
        | none => rfl
        | some c => cases c <;> rfl
      | lst ds =>
        show _ = (asD x S2).out (appZ ρ n)
        dsimp only
        congr 1
      | fz ds => rfl
  | r n h =>
    show _ = (ev G C e ρ S1).out fun x S2 => (asD x S2).out fun d S3 => apxR ρ n h d S3 (mxAt S3 n)
    dsimp only
    congr 1
  | _ => rfl
theorem ex_app (i : Nat) (e : E) : ex G C (.app i e) ρ S = appY ρ ρ[i]? fun n => (ev G C e ρ S).oB (k := ⟨fun x S1 => (asD x S1).out (appZ ρ n)⟩) := by
  show ex G C (.app i e) ρ S = appY ρ ρ[i]? fun n => (ev G C e ρ S).out fun x S1 => (asD x S1).out (appZ ρ n)
  rw [ex]
  cases ρ[i]? with
  | none => rfl
  | some o => cases o with
    | none => rfl
    | some r => cases r <;> rfl
def augZ (ρ : Env) (i : Nat) (op : Operator) (a : Int) : RX → Store → Out
  | .d (.int b), S1 => (match op with
    | .Add => .nx (ρ.set i (some (.d (.int (a + b))))) S1
    | .Sub => .nx (ρ.set i (some (.d (.int (a - b))))) S1
    | _ => .stuck)
  | _, _ => .stuck
def augY : Option (Option RV) → (Int → Out) → Out
  | some (some (.d (.int a))), k => k a
  | _, _ => .stuck
theorem augY_int (a : Int) (k : Int → Out) : augY (some (some (.d (.int a)))) k = k a := Eq.trans rfl rfl
theorem augZ_add (i : Nat) (a b : Int) : augZ ρ i .Add a (.d (.int b)) S = .nx (ρ.set i (some (.d (.int (a + b))))) S := rfl
theorem augZ_sub (i : Nat) (a b : Int) : augZ ρ i .Sub a (.d (.int b)) S = .nx (ρ.set i (some (.d (.int (a - b))))) S := rfl
theorem ex_aug (i : Nat) (op : Operator) (e : E) : ex G C (.aug i op e) ρ S = augY ρ[i]? fun a => (ev G C e ρ S).out (augZ ρ i op a) := by
  show ex G C (.aug i op e) ρ S = augY ρ[i]? fun a => (ev G C e ρ S).out (augZ ρ i op a)
  rw [ex]
  cases ρ[i]? with
  | none => rfl
  | some o => cases o with
    | none => rfl
    | some r => cases r with
      | d d => cases d with
        | int a =>
          show (ev G C e ρ S).out _ = (ev G C e ρ S).out _
          congr 1; funext x S1
          cases x with
          | d d => cases d <;> cases op <;> rfl
          | _ => rfl
        | _ => rfl
      | _ => rfl
noncomputable def seqG (i j : Int) (S2 : Store) : Res (List (Nat × List D) × List D) := opq (if -4611686018427387904 ≤ i ∧ i < 4611686018427387904 ∧ -4611686018427387904 ≤ j ∧ j < 4611686018427387904 then .ok ([], rngD i (j - i).toNat) S2 else .stuck)
noncomputable def seqI : RV → Store → Res (List (Nat × List D) × List D)
  | .d (.lst ds), S2 => .ok ([], ds) S2
  | .d (.tup ds), S2 => .ok ([], ds) S2
  | .d (.str x), S2 => .ok ([], strItems x) S2
  | .g i j, S2 => seqG i j S2
  | .c n, S2 => (match cellAt S2 n with
      | some ds => .ok ([(n, ds)], ds) S2
      | none => (match mxAt S2 n with
        | some es => .ok ([], es.map MX.dat) (S2.set n (.fz (es.map MX.dat)))
        | none => .stuck))
  | _, _ => .stuck
theorem seqI_l (ds : List D) : seqI (.d (.lst ds)) S = .ok ([], ds) S := rfl
theorem seqI_t (ds : List D) : seqI (.d (.tup ds)) S = .ok ([], ds) S := rfl
theorem seqI_g (i j : Int) (h : -4611686018427387904 ≤ i ∧ i < 4611686018427387904 ∧ -4611686018427387904 ≤ j ∧ j < 4611686018427387904) : seqI (.g i j) S = .ok ([], rngD i (j - i).toNat) S := (opq_eq _).trans (if_pos h)
theorem seqI_s (x : Str) : seqI (.d (.str x)) S = .ok ([], strItems x) S := rfl
theorem evi_seq (e : E) : evi G C (.seq e) ρ S = (ev G C e ρ S).rv.bind seqI := by
  rw [evi]
  cases ev G C e ρ S with
  | ok x S1 =>
    simp only [Res.bind_ok, Res.rv]
    congr 1; funext v S2
    cases v with
    | d d => cases d <;> rfl
    | g i j => exact (opq_eq _).symm
    | _ => rfl
  | _ => rfl
def rngI0 : Option (List D) → Store → Res (List (Nat × List D) × List D)
  | some ds, S => (match rangeD ds with
      | some r => .ok ([], r) S
      | none => .stuck)
  | none, _ => .stuck
noncomputable def rngI (o : Option (List D)) (S : Store) : Res (List (Nat × List D) × List D) := opq (rngI0 o S)
theorem rngI_1 (j : Int) (h : -4611686018427387904 ≤ j ∧ j < 4611686018427387904) : rngI (some [.int j]) S = .ok ([], rngD 0 j.toNat) S := by
  unfold rngI; rw [opq_eq]; unfold rngI0 rangeD; simp only [if_pos h]
theorem rngI_2 (i j : Int) (h : -4611686018427387904 ≤ i ∧ i < 4611686018427387904 ∧ -4611686018427387904 ≤ j ∧ j < 4611686018427387904) : rngI (some [.int i, .int j]) S = .ok ([], rngD i (j - i).toNat) S := by
  unfold rngI; rw [opq_eq]; unfold rngI0 rangeD; simp only [if_pos h]
theorem evi_rng (es : Es) : evi G C (.rng es) ρ S = (evs G C es ρ S).bB (k := ⟨fun vs S1 => rngI (rdVs S1 vs) S1⟩) := by
  show evi G C (.rng es) ρ S = (evs G C es ρ S).bind fun vs S1 => rngI (rdVs S1 vs) S1
  rw [evi]; congr 1; funext vs S1; unfold rngI; rw [opq_eq]; cases rdVs S1 vs <;> rfl
def enI : RV → Store → Res (List (Nat × List D) × List D)
  | .d (.lst ds), S2 => .ok ([], enumD 0 ds) S2
  | .d (.tup ds), S2 => .ok ([], enumD 0 ds) S2
  | .c n, S2 => (match cellAt S2 n with
      | some ds => .ok ([(n, ds)], enumD 0 ds) S2
      | none => .stuck)
  | _, _ => .stuck
theorem enI_l (ds : List D) : enI (.d (.lst ds)) S = .ok ([], enumD 0 ds) S := rfl
theorem enI_t (ds : List D) : enI (.d (.tup ds)) S = .ok ([], enumD 0 ds) S := rfl
theorem evi_enum (e : E) : evi G C (.enum e) ρ S = (ev G C e ρ S).rv.bind enI := by
  rw [evi]
  cases ev G C e ρ S with
  | ok x S1 =>
    simp only [Res.bind_ok, Res.rv]
    congr 1; funext v S2
    cases v with
    | d d => cases d <;> rfl
    | _ => rfl
  | _ => rfl
def zipI : RV → RV → Store → Res (List (Nat × List D) × List D)
  | .d (.lst ds), .d (.lst es), S4 => .ok ([], zipD ds es) S4
  | .d (.tup ds), .d (.tup es), S4 => .ok ([], zipD ds es) S4
  | _, _, _ => .stuck
theorem zipI_l (ds es : List D) : zipI (.d (.lst ds)) (.d (.lst es)) S = .ok ([], zipD ds es) S := rfl
theorem zipI_t (ds es : List D) : zipI (.d (.tup ds)) (.d (.tup es)) S = .ok ([], zipD ds es) S := rfl
theorem evi_zip (a b : E) : evi G C (.zip a b) ρ S = (ev G C a ρ S).bB (k := ⟨fun x S1 => (conv .dat x S1).bB (k := ⟨fun v S2 => (ev G C b ρ S2).bB (k := ⟨fun y S3 => (conv .dat y S3).bB (k := ⟨fun w S4 => zipI v w S4⟩)⟩)⟩)⟩) := by
  show evi G C (.zip a b) ρ S = (ev G C a ρ S).bind fun x S1 => (conv .dat x S1).bind fun v S2 => (ev G C b ρ S2).bind fun y S3 => (conv .dat y S3).bind fun w S4 => zipI v w S4
  rw [evi]; congr 1; funext x S1; congr 1; funext v S2; congr 1; funext y S3; congr 1; funext w S4
  cases v with
  | d d => cases w with
    | d e => cases d <;> cases e <;> rfl
    | _ => cases d <;> rfl
  | _ => rfl
end
end Rf
open PySem PySem.Spec PyProof.Rows L2 Rf
local macro_rules
  | `(tactic| simp! [$ts,*] $[$loc]?) => `(tactic| simp only [ev_var, ev_lit, ev_con, ev_tup, ev_lst, ev_bin, ev_neg, ev_nt, ev_cmp, ev_ch2, ev_ch3, ev_and, ev_or, ev_ite, ev_idx, ev_sl, ev_rev, ev_call, ev_kall, ev_pk, peekM_some, peek_eq, ev_frz, frzR_bl, ev_blt, rdF_len, rdF_repr, rdF, ev_isi, ev_compx, ev_lsx, ev_rngv, rngV_1, rngV_2, ev_lrng, ev_trng, ev_slen, ev_tpc, tpcM_ok, ev_tix, tixM_ok, ev_ixo, isLs_lst, isLs_c, ixoM_some, evs_nil, evs_cons, evo_no, evo_yes,
  exs_nil, exs_cons, exs_bld, ex_set, ex_par, ex_unp, ex_exp, ex_ret, ex_retN, ex_ite, ex_sub, subY_c, subY_r, subZ_0, subZ_1, ex_dvm, dvmX_t, dvmY_c, dvmZ_0, ex_ext, ex_apx, apxY_c, apxY_r, apxC_mx, apxC_lst, ex_app, appY_c, ex_aug, augY_int, augZ_add, augZ_sub, evi_seq, seqI_l, seqI_t, seqI_s, evi_zip, zipI_l, zipI_t, evi_rng, evi_enum, enI_l, enI_t, ev_comp, ex_fr, ex_wh, evc_no, evc_yes, lookV_d, lookV_c, lookV_g, lookV_r, lookC_some, mkTup_eq, mkLst_eq, line, Nat.reduceLeDiff, List.length_append, bin2_some, cmp2_some, idx3_d, idx3_m, toBl_ok, toRX_ok, neg1_int, tr_ok, ifR_t, ifR_f, ifB_t, ifB_f, Bx_v, bB_ok, oB_ok, tB_nx, tB_ret, tB_brk, tB_cnt, rv_d, rv_c, rv_f, rv_g, rv_r, rv_fm, rv_tf, conv_tf, conv_d, conv_cel_f, conv_dat_f, conv_rd_f, conv_cel_c, conv_rd_c, conv_g, conv_cel_fm, conv_mxl_fm, conv_mxl_f, conv_dat_fm, conv_rd_fm, conv_cel_r, conv_rd_r, conv_dat_c, datC_lst, datC_fz, datC_mx,
  rdV_d, rdV_c, rdV_g, rdV_r, cellAt_eq, celC_lst, celC_fz, celC_mx, mxAt_eq, mxC_mx, rowAt_eq, rowC_l, rdW_d, rdW_r, rdW_g, rdW_c, rdC_lst, rdC_fz, rdC_mx, rdWs_nil, rdWs_cons, Option.map_none, Option.bind_none, rdVs_nil, rdVs_cons, ofOpt_some, asD_d, asD_f, slc_some, rev1_some, callM_some, callK_some, permV_nil, permV_cons, bltM_some, isiM_some, toI_int, unpT, setsV, endD_d, endD_f, endD_fm, endD_tf, endD_nx,
  bind_okN, out_okN, then_nxN, Out.then_ret, Out.then_brk, Out.then_cnt, Option.bind_some, Option.map_some, List.getElem?_cons_zero, List.getElem?_cons_succ, List.set_cons_zero, List.set_cons_succ, List.map_cons, List.map_nil, List.cons_append, List.nil_append, List.length_cons, List.length_nil, List.replicate_succ, List.replicate_zero,
  binD_add, binD_sub, binD_mul, binD_fdiv, binD_mod, binD_pow, binD_lst, binD_tup, binD_rep, cmpD_lt, cmpD_le, cmpD_gt, cmpD_ge, cmpD_eqi, cmpD_nei, cmpD_eqs, cmpD_nes, idxD_l, idxD_t, bltD_len_l, bltD_len_t, bltD_abs, bltD_int, bltD_max2, bltD_min2, bltD_gcd, bltD_tupl, bltD_tupt, bltD_listl, bltD_listt, bltD_repr, bltD_all, bltD_any, bltD_divmod, bltD_sum, bls_n, bls_c, intsOf_n, intsOf_c, List.all_cons, List.all_nil, id_eq, atI_0, atI_1,
  List.any_cons, List.any_nil, isD, Bool.or_false, Bool.or_true, Bool.false_or, Bool.true_or, Bool.not_true, Bool.not_false, Bool.not_not, decide_true, decide_false, Nat.reduceAdd, Nat.reduceSub, if_true, reduceIte, Nat.reduceEqDiff, Int.cast_ofNat_Int, Int.reduceEq, Int.reduceLT, Int.reduceLE, Int.reduceNeg, Bool.and_true, Bool.true_and, Bool.and_false, Bool.false_and, ne_eq, not_false_eq_true, not_true_eq_false, and_self, and_true, true_and, List.take_length, List.take_succ_cons, $ts,*] $[$loc]?)

set_option Elab.async false
set_option linter.all false
set_option maxRecDepth 100000
set_option maxHeartbeats 1000000
namespace Rf
open PySem PySem.Spec PyProof.Rows L2
/-! ### loops -/
theorem srcOk_nil (S : Store) : srcOk [] S = true := rfl
theorem compGo_st {src : List (Nat × List D)} {f : D → Store → Res (Option D)} (Inv : Nat → Store → List D → Prop) {items : List D} {n : Nat}
    (hsrc : ∀ i S acc A, Inv i S acc → srcOk src (S ++ [A]) = true) (hlen : ∀ i S acc, Inv i S acc → S.length = n)
    (hs : ∀ i d S acc, items[i]? = some d → Inv i S acc → ∃ o S', (∀ A, f d (S ++ [A]) = .ok o (S' ++ [A])) ∧ S'.length = S.length ∧ Inv (i + 1) S' (acc ++ o.toList)) :
    ∀ (k i : Nat) (S : Store) (acc : List D), k = items.length - i → i ≤ items.length → Inv i S acc → acc.length + (items.length - i) ≤ line → ∃ S' acc', compGo src f n (items.drop i) (S ++ [.lst acc]) = .ok () (S' ++ [.lst acc']) ∧ Inv items.length S' acc'
  | 0, i, S, acc, hk, hi, I, _ => by
    have : i = items.length := by omega
    subst this
    refine ⟨S, acc, ?_, I⟩
    rw [List.drop_length]
    unfold compGo
    rw [if_pos (hsrc _ _ _ _ I)]
  | k + 1, i, S, acc, hk, hi, I, hl => by
    have hlt : i < items.length := by omega
    obtain ⟨o, S', hf, hl', I'⟩ := hs i items[i] S acc (by simp [hlt]) I
    rw [List.drop_eq_getElem_cons hlt]
    unfold compGo
    rw [if_pos (hsrc _ _ _ _ I), hf]
    simp only [Res.bind_ok]
    have hn := hlen _ _ _ I
    cases o with
    | none =>
      simp only [Option.toList, List.append_nil] at I'
      exact compGo_st Inv hsrc hlen hs k (i + 1) S' acc (by omega) (by omega) I' (by omega)
    | some x =>
      have e1 : (S' ++ [Cell.lst acc])[n]? = some (.lst acc) := by rw [← hn, ← hl']; simp
      have e2 : (S' ++ [Cell.lst acc]).set n (.lst (acc ++ [x])) = S' ++ [.lst (acc ++ [x])] := by
        rw [← hn, ← hl', List.set_append_right _ _ (Nat.le_refl _)]; simp
      simp only [e1, e2]
      have e3 : (S' ++ [Cell.lst (acc ++ [x])]).take (n + 1) = S' ++ [.lst (acc ++ [x])] := List.take_of_length_le (by simp; omega)
      rw [if_pos (by omega), e3]
      exact compGo_st Inv hsrc hlen hs k (i + 1) S' (acc ++ [x]) (by omega) (by omega) I' (by simp; omega)
theorem lastL_app (S : Store) (ds : List D) : lastL S.length (S ++ [.lst ds]) = .ok (.f ds) S := by
  unfold lastL
  rw [if_pos (by simp)]
  simp
/-- a comprehension whose turns keep an invariant -/
theorem comp_st {src : List (Nat × List D)} {f : D → Store → Res (Option D)} (Inv : Nat → Store → List D → Prop) {items : List D} {S : Store}
    (hsrc : ∀ i S acc A, Inv i S acc → srcOk src (S ++ [A]) = true) (hlen : ∀ i S' acc, Inv i S' acc → S'.length = S.length)
    (hs : ∀ i d S acc, items[i]? = some d → Inv i S acc → ∃ o S', (∀ A, f d (S ++ [A]) = .ok o (S' ++ [A])) ∧ S'.length = S.length ∧ Inv (i + 1) S' (acc ++ o.toList))
    (h0 : Inv 0 S []) (hl : items.length ≤ line) : ∃ S' acc, (compGo src f S.length items (S ++ [.lst []])).nox.bind (fun _ S2 => lastL S.length S2) = .ok (.f acc) S' ∧ Inv items.length S' acc := by
  obtain ⟨S', acc, e, I⟩ := compGo_st Inv hsrc hlen hs items.length 0 S [] (by simp) (Nat.zero_le _) h0 (by simpa using hl)
  rw [List.drop_zero] at e
  refine ⟨S', acc, ?_, I⟩
  rw [e]
  simp only [Res.nox_ok, Res.bind_ok]
  rw [← hlen _ _ _ I]
  exact lastL_app S' acc
/-- .. that change nothing -/
theorem comp_pure {src : List (Nat × List D)} {f : D → Store → Res (Option D)} {g : D → Option D} {items : List D} {S : Store} (hsrc : ∀ A, srcOk src (S ++ [A]) = true)
    (hf : ∀ d ∈ items, ∀ A, f d (S ++ [A]) = .ok (g d) (S ++ [A])) (hl : items.length ≤ line) : (compGo src f S.length items (S ++ [.lst []])).nox.bind (fun _ S2 => lastL S.length S2) = .ok (.f (items.filterMap g)) S := by
  obtain ⟨S', acc, e, I⟩ := comp_st (src := src) (f := f) (items := items) (S := S) (fun i S' acc => S' = S ∧ acc = (items.take i).filterMap g) (fun i S' acc A I => by rw [I.1]; exact hsrc A) (fun i S' acc I => by rw [I.1])
    (fun i d S' acc h I => by
      obtain ⟨rfl, rfl⟩ := I
      refine ⟨g d, S', fun A => hf d (List.mem_of_getElem? h) A, rfl, rfl, ?_⟩
      rw [List.take_succ, h, List.filterMap_append]
      cases e : g d <;> simp [e]) ⟨rfl, by simp⟩ hl
  obtain ⟨rfl, rfl⟩ := I
  rw [e, List.take_length]
theorem forGo_st {src : List (Nat × List D)} {f : D → Env → Store → Out} (Inv : Nat → Env → Store → Prop) {items : List D}
    (hsrc : ∀ i ρ S, Inv i ρ S → srcOk src S = true) (hs : ∀ i d ρ S, items[i]? = some d → Inv i ρ S → ∃ ρ' S', f d ρ S = .nx ρ' S' ∧ Inv (i + 1) ρ' S') :
    ∀ (k i : Nat) (ρ : Env) (S : Store), k = items.length - i → i ≤ items.length → Inv i ρ S → ∃ ρ' S', forGo src f (items.drop i) ρ S = .nx ρ' S' ∧ Inv items.length ρ' S'
  | 0, i, ρ, S, hk, hi, I => by
    have : i = items.length := by omega
    subst this
    refine ⟨ρ, S, ?_, I⟩
    rw [List.drop_length]
    unfold forGo
    rw [if_pos (hsrc _ _ _ I)]
  | k + 1, i, ρ, S, hk, hi, I => by
    have hlt : i < items.length := by omega
    obtain ⟨ρ', S', hf, I'⟩ := hs i items[i] ρ S (by simp [hlt]) I
    rw [List.drop_eq_getElem_cons hlt]
    unfold forGo
    rw [if_pos (hsrc _ _ _ I), hf]
    exact forGo_st Inv hsrc hs k (i + 1) ρ' S' (by omega) (by omega) I'
/-- a for whose turns keep an invariant -/
theorem for_st {src : List (Nat × List D)} {f : D → Env → Store → Out} (Inv : Nat → Env → Store → Prop) {items : List D} {ρ : Env} {S : Store}
    (hsrc : ∀ i ρ S, Inv i ρ S → srcOk src S = true) (hs : ∀ i d ρ S, items[i]? = some d → Inv i ρ S → ∃ ρ' S', f d ρ S = .nx ρ' S' ∧ Inv (i + 1) ρ' S') (h0 : Inv 0 ρ S) :
    ∃ ρ' S', forGo src f items ρ S = .nx ρ' S' ∧ Inv items.length ρ' S' := by
  have := forGo_st Inv hsrc hs items.length 0 ρ S (by simp) (Nat.zero_le _) h0
  rwa [List.drop_zero] at this
theorem forGo_rt {src : List (Nat × List D)} {f : D → Env → Store → Out} (Inv : Nat → Env → Store → Prop) (Post : RX → Store → Prop) {items : List D}
    (hsrc : ∀ i ρ S, Inv i ρ S → srcOk src S = true) (hs : ∀ i d ρ S, items[i]? = some d → Inv i ρ S → (∃ ρ' S', f d ρ S = .nx ρ' S' ∧ Inv (i + 1) ρ' S') ∨ ∃ r S', f d ρ S = .ret r S' ∧ Post r S') :
    ∀ (k i : Nat) (ρ : Env) (S : Store), k = items.length - i → i ≤ items.length → Inv i ρ S → (∃ ρ' S', forGo src f (items.drop i) ρ S = .nx ρ' S' ∧ Inv items.length ρ' S') ∨ ∃ r S', forGo src f (items.drop i) ρ S = .ret r S' ∧ Post r S'
  | 0, i, ρ, S, hk, hi, I => by
    have : i = items.length := by omega
    subst this
    refine .inl ⟨ρ, S, ?_, I⟩
    rw [List.drop_length]
    unfold forGo
    rw [if_pos (hsrc _ _ _ I)]
  | k + 1, i, ρ, S, hk, hi, I => by
    have hlt : i < items.length := by omega
    rw [List.drop_eq_getElem_cons hlt]
    unfold forGo
    rw [if_pos (hsrc _ _ _ I)]
    rcases hs i items[i] ρ S (by simp [hlt]) I with ⟨ρ', S', hf, I'⟩ | ⟨r, S', hf, hp⟩
    · rw [hf]
      exact forGo_rt Inv Post hsrc hs k (i + 1) ρ' S' (by omega) (by omega) I'
    · rw [hf]
      exact .inr ⟨r, S', rfl, hp⟩
/-- a for that may return -/
theorem for_rt {src : List (Nat × List D)} {f : D → Env → Store → Out} (Inv : Nat → Env → Store → Prop) (Post : RX → Store → Prop) {items : List D} {ρ : Env} {S : Store}
    (hsrc : ∀ i ρ S, Inv i ρ S → srcOk src S = true) (hs : ∀ i d ρ S, items[i]? = some d → Inv i ρ S → (∃ ρ' S', f d ρ S = .nx ρ' S' ∧ Inv (i + 1) ρ' S') ∨ ∃ r S', f d ρ S = .ret r S' ∧ Post r S') (h0 : Inv 0 ρ S) :
    (∃ ρ' S', forGo src f items ρ S = .nx ρ' S' ∧ Inv items.length ρ' S') ∨ ∃ r S', forGo src f items ρ S = .ret r S' ∧ Post r S' := by
  have := forGo_rt Inv Post hsrc hs items.length 0 ρ S (by simp) (Nat.zero_le _) h0
  rwa [List.drop_zero] at this
/-- a while with its measure -/
theorem wh_st {c : Env → Store → Res Bool} {f : Env → Store → Out} (Inv : Nat → Env → Store → Prop)
    (hs : ∀ m ρ S, Inv m ρ S → (∃ S', c ρ S = .ok true S' ∧ ∃ ρ' S2 m', f ρ S' = .nx ρ' S2 ∧ m' < m ∧ Inv m' ρ' S2) ∨ ∃ S', c ρ S = .ok false S' ∧ Inv 0 ρ S') :
    ∀ (n m : Nat) (ρ : Env) (S : Store), m < n → Inv m ρ S → ∃ ρ' S', whGo c f n ρ S = .nx ρ' S' ∧ Inv 0 ρ' S'
  | 0, m, ρ, S, h, _ => by omega
  | n + 1, m, ρ, S, h, I => by
    unfold whGo
    rcases hs m ρ S I with ⟨S', h1, ρ', S2, m', h2, h3, I'⟩ | ⟨S', h1, I'⟩
    · rw [h1]
      simp only [Res.out_ok, if_true]
      rw [h2]
      exact wh_st Inv hs n m' ρ' S2 (by omega) I'
    · rw [h1]
      exact ⟨ρ, S', rfl, I'⟩
theorem whM_st {G : List Mir} {C : List D} {c : E} {body : Ts} (Inv : Nat → Env → Store → Prop)
    (hs : ∀ m ρ S, Inv m ρ S → (∃ S', (ev G C c ρ S).tr = .ok true S' ∧ ∃ ρ' S2 m', exs G C body ρ S' = .nx ρ' S2 ∧ m' < m ∧ Inv m' ρ' S2) ∨ ∃ S', (ev G C c ρ S).tr = .ok false S' ∧ Inv 0 ρ S')
    {n m : Nat} {ρ : Env} {S : Store} (h : m < n) (I : Inv m ρ S) : ∃ ρ' S', whM G C c body n ρ S = .nx ρ' S' ∧ Inv 0 ρ' S' := wh_st Inv hs n m ρ S h I
end Rf
namespace Rf
open PySem PySem.Spec PyProof.Rows L2
theorem bls_map (f : D → Bool) : ∀ xs : List D, bls (xs.map fun d => .bl (f d)) = some (xs.map f)
  | [] => rfl
  | x :: xs => by simp [bls, bls_map f xs]
theorem all_map_id {α : Type} (f : α → Bool) (xs : List α) : (xs.map f).all id = xs.all f := by simp [List.all_map]
/-- a comprehension that changes nothing, without a test -/
theorem cpM_map {G : List Mir} {C : List D} {elt : E} {tg : Tg} {own : List Nat} {ρ : Env} {S : Store} {items : List D} (g : D → D) (hl : items.length ≤ line)
    (hf : ∀ d ∈ items, ∀ A, compT G C elt tg .no own ρ d (S ++ [A]) = .ok (some (g d)) (S ++ [A])) : cpM G C elt tg .no own ρ ([], items) S = .ok (.f (items.map g)) S := by
  unfold cpM
  have := comp_pure (src := []) (f := compT G C elt tg .no own ρ) (g := fun d => some (g d)) (items := items) (S := S) (fun A => rfl) hf hl
  rw [show (fun d => some (g d)) = some ∘ g from rfl, List.filterMap_eq_map] at this
  exact this
/-- one turn over a name, without a test -/
theorem compT_one {G : List Mir} {C : List D} {elt : E} {i : Nat} {ρ : Env} {d : D} {S : Store} : compT G C elt (.n i) .no [i] ρ d S = (ev G C elt ((ρ.set i none).set i (some (.d d))) S).bind fun x S3 => (asD x S3).bind fun y S4 => .ok (some y) S4 := by
  unfold compT
  simp only [bindT, if_true, wipeE, evc_no, Res.bind_ok]
theorem compX_one {G : List Mir} {C : List D} {elt : E} {i : Nat} {ρ : Env} {d : D} {S : Store} : compX G C elt (.n i) .no [i] ρ d S = (ev G C elt ((ρ.set i none).set i (some (.d d))) S).bind fun x S3 => (asX x S3).bind fun y S4 => .ok (some y) S4 := by
  unfold compX
  simp only [bindT, if_true, wipeE, evc_no, Res.bind_ok]
end Rf
namespace Rf
open PySem PySem.Spec PyProof.Rows L2
theorem frM_st {G : List Mir} {C : List D} {tg : Tg} {body : Ts} {items : List D} {ρ : Env} {S : Store} (Inv : Nat → Env → Store → Prop)
    (hs : ∀ i d ρ S, items[i]? = some d → Inv i ρ S → ∃ ρ1 ρ' S', bindT tg d ρ = some ρ1 ∧ exs G C body ρ1 S = .nx ρ' S' ∧ Inv (i + 1) ρ' S') (h0 : Inv 0 ρ S) :
    ∃ ρ' S', frM G C tg body ([], items) ρ S = .nx ρ' S' ∧ Inv items.length ρ' S' :=
  for_st (src := []) Inv (fun _ _ _ _ => rfl) (fun i d ρ S hi I => by
    obtain ⟨ρ1, ρ', S', e1, e2, I'⟩ := hs i d ρ S hi I
    exact ⟨ρ', S', by unfold frB; rw [e1]; exact e2, I'⟩) h0
theorem frM_rt {G : List Mir} {C : List D} {tg : Tg} {body : Ts} {items : List D} {ρ : Env} {S : Store} (Inv : Nat → Env → Store → Prop) (Post : RX → Store → Prop)
    (hs : ∀ i d ρ S, items[i]? = some d → Inv i ρ S → ∃ ρ1, bindT tg d ρ = some ρ1 ∧ ((∃ ρ' S', exs G C body ρ1 S = .nx ρ' S' ∧ Inv (i + 1) ρ' S') ∨ ∃ r S', exs G C body ρ1 S = .ret r S' ∧ Post r S')) (h0 : Inv 0 ρ S) :
    (∃ ρ' S', frM G C tg body ([], items) ρ S = .nx ρ' S' ∧ Inv items.length ρ' S') ∨ ∃ r S', frM G C tg body ([], items) ρ S = .ret r S' ∧ Post r S' :=
  for_rt (src := []) Inv Post (fun _ _ _ _ => rfl) (fun i d ρ S hi I => by
    obtain ⟨ρ1, e1, h⟩ := hs i d ρ S hi I
    rcases h with ⟨ρ', S', e2, I'⟩ | ⟨r, S', e2, p⟩
    · exact .inl ⟨ρ', S', by unfold frB; rw [e1]; exact e2, I'⟩
    · exact .inr ⟨r, S', by unfold frB; rw [e1]; exact e2, p⟩) h0
/-- a comprehension that may draw, without a test -/
theorem cpM_st {G : List Mir} {C : List D} {elt : E} {tg : Tg} {own : List Nat} {ρ : Env} {S : Store} {items : List D} (Inv : Nat → Store → List D → Prop) (hlen : ∀ i S' acc, Inv i S' acc → S'.length = S.length)
    (hs : ∀ i d S acc, items[i]? = some d → Inv i S acc → ∃ y S', (∀ A, compT G C elt tg .no own ρ d (S ++ [A]) = .ok (some y) (S' ++ [A])) ∧ S'.length = S.length ∧ Inv (i + 1) S' (acc ++ [y])) (h0 : Inv 0 S []) (hl : items.length ≤ line) :
    ∃ S' acc, cpM G C elt tg .no own ρ ([], items) S = .ok (.f acc) S' ∧ Inv items.length S' acc :=
  comp_st (src := []) Inv (fun _ _ _ _ _ => rfl) hlen (fun i d S acc hi I => by
    obtain ⟨y, S', h1, h2, h3⟩ := hs i d S acc hi I
    exact ⟨some y, S', h1, h2, h3⟩) h0 hl
/-! ### what may be shown -/
structure Nc (w k : Nat) (d : D) : Prop where
  okc : d.okc = true
  shw : d.shw = true
  dep : d.dep ≤ k
  wt : d.wt ≤ w
theorem Nc.rp {w k : Nat} {d : D} (h : Nc w k d) (hk : k ≤ 64) (hw : w ≤ 16777216) : d.rpOk = true := by
  unfold D.rpOk
  have h1 : d.dep ≤ 64 := Nat.le_trans h.dep hk
  have h2 : d.wt ≤ line := Nat.le_trans h.wt hw
  simp [h.okc, h.shw, h1, h2]
theorem ncs {w k : Nat} : ∀ {ds : List D}, (∀ d ∈ ds, Nc w k d) → D.okcs ds = true ∧ D.shws ds = true ∧ D.deps ds ≤ k ∧ D.wts ds ≤ ds.length * (w + 2)
  | [], _ => ⟨rfl, rfl, Nat.zero_le _, Nat.zero_le _⟩
  | d :: ds, h => by
    obtain ⟨h1, h2, h3, h4⟩ := ncs fun e he => h e (List.mem_cons_of_mem _ he)
    have hd := h d List.mem_cons_self
    refine ⟨by simp [D.okcs, hd.okc, h1], by simp [D.shws, hd.shw, h2], Nat.max_le.mpr ⟨hd.dep, h3⟩, ?_⟩
    have := hd.wt
    show d.wt + 2 + D.wts ds ≤ (ds.length + 1) * (w + 2)
    rw [Nat.add_mul]
    omega
theorem nc_lst {w k n : Nat} {ds : List D} (h : ∀ d ∈ ds, Nc w k d) (hl : ds.length ≤ n) : Nc (n * (w + 2) + 8) (k + 1) (.lst ds) := by
  obtain ⟨h1, h2, h3, h4⟩ := ncs h
  have := Nat.mul_le_mul_right (w + 2) hl
  exact ⟨h1, h2, Nat.succ_le_succ h3, by show D.wts ds + 8 ≤ _; omega⟩
theorem nc_tup {w k n : Nat} {ds : List D} (h : ∀ d ∈ ds, Nc w k d) (hl : ds.length ≤ n) : Nc (n * (w + 2) + 8) (k + 1) (.tup ds) := by
  obtain ⟨h1, h2, h3, h4⟩ := ncs h
  have := Nat.mul_le_mul_right (w + 2) hl
  exact ⟨h1, h2, Nat.succ_le_succ h3, by show D.wts ds + 8 ≤ _; omega⟩
theorem Nc.mono {w k w' k' : Nat} {d : D} (h : Nc w k d) (hw : w ≤ w') (hk : k ≤ k') : Nc w' k' d := ⟨h.okc, h.shw, Nat.le_trans h.dep hk, Nat.le_trans h.wt hw⟩
theorem nc_int {i : Int} (h : i.natAbs < 2 ^ 1900) : Nc 2000 0 (.int i) := ⟨rfl, by
  show decide (i.natAbs.log2 < 1920) = true
  refine decide_eq_true ?_
  by_cases h0 : i.natAbs = 0
  · rw [h0]; decide
  · have := (Nat.log2_lt h0).mpr h
    omega, Nat.le_refl _, Nat.le_refl _⟩
theorem nc_bl (b : Bool) : Nc 2000 0 (.bl b) := ⟨rfl, rfl, Nat.le_refl _, by show 8 ≤ 2000; decide⟩
theorem nc_non : Nc 2000 0 .non := ⟨rfl, rfl, Nat.le_refl _, by show 8 ≤ 2000; decide⟩
end Rf
namespace Rf
open PySem PySem.Spec PyProof.Rows L2
def takeTs : Nat → Ts → Ts
  | 0, _ => .nil
  | _, .nil => .nil
  | n + 1, .cons t ts => .cons t (takeTs n ts)
  | _, .bld _ _ _ _ _ => .nil
def dropTs : Nat → Ts → Ts
  | 0, ts => ts
  | _, .nil => .nil
  | n + 1, .cons _ ts => dropTs n ts
  | _, ts => ts
theorem then_assoc (o : Out) (f g : Env → Store → Out) : (o.then f).then g = o.then fun ρ S => (f ρ S).then g := by cases o <;> rfl
theorem exs_cons0 {G : List Mir} {C : List D} {ρ : Env} {S : Store} (t : T) (ts : Ts) : exs G C (.cons t ts) ρ S = (ex G C t ρ S).then fun ρ1 S1 => exs G C ts ρ1 S1 := by rw [exs]
theorem exs_split {G : List Mir} {C : List D} : ∀ (n : Nat) (b : Ts) (ρ : Env) (S : Store), exs G C b ρ S = (exs G C (takeTs n b) ρ S).then fun ρ1 S1 => exs G C (dropTs n b) ρ1 S1
  | 0, b, ρ, S => by rw [takeTs, exs_nil]; rfl
  | n + 1, .nil, ρ, S => by rw [takeTs, exs_nil, Out.then_nx, dropTs, exs_nil] <;> simp
  | n + 1, .cons t ts, ρ, S => by
    rw [takeTs, exs_cons0, exs_cons0, then_assoc, dropTs]
    congr 1
    funext ρ1 S1
    exact exs_split n ts ρ1 S1
  | n + 1, .bld _ _ _ _ _, ρ, S => by rw [takeTs, exs_nil, Out.then_nx, dropTs] <;> simp
end Rf
namespace Rf
open PySem PySem.Spec PyProof.Rows L2
theorem compGo_pot {f : Env → D → Store → Res (Option D)} (Pr : Env → Prop) (Inv : Nat → Cell → List D → Prop) {items : List D}
    (hs : ∀ i d p acc, items[i]? = some d → Inv i p acc → ∃ y p', (∀ ρ R, Pr ρ → f ρ d (p :: R) = .ok (some y) (p' :: R)) ∧ Inv (i + 1) p' (acc ++ [y])) :
    ∀ (k i : Nat) (p : Cell) (acc : List D), k = items.length - i → i ≤ items.length → Inv i p acc → acc.length + (items.length - i) ≤ line →
      ∃ p' acc', (∀ (ρ : Env) (R : Store), Pr ρ → compGo [] (f ρ) (R.length + 1) (items.drop i) (p :: (R ++ [.lst acc])) = .ok () (p' :: (R ++ [.lst acc']))) ∧ Inv items.length p' acc'
  | 0, i, p, acc, hk, hi, I, _ => by
    have : i = items.length := by omega
    subst this
    refine ⟨p, acc, fun ρ R hρ => ?_, I⟩
    rw [List.drop_length]
    unfold compGo
    rw [if_pos (srcOk_nil _)]
  | k + 1, i, p, acc, hk, hi, I, hl => by
    have hlt : i < items.length := by omega
    obtain ⟨y, p', hf, I'⟩ := hs i items[i] p acc (by simp [hlt]) I
    obtain ⟨p2, acc2, h2, I2⟩ := compGo_pot Pr Inv hs k (i + 1) p' (acc ++ [y]) (by omega) (by omega) I' (by simp; omega)
    refine ⟨p2, acc2, fun ρ R hρ => ?_, I2⟩
    rw [List.drop_eq_getElem_cons hlt]
    unfold compGo
    rw [if_pos (srcOk_nil _), hf ρ _ hρ]
    simp only [Res.bind_ok]
    have e1 : (p' :: (R ++ [Cell.lst acc]))[R.length + 1]? = some (.lst acc) := by simp
    have e2 : (p' :: (R ++ [Cell.lst acc])).set (R.length + 1) (.lst (acc ++ [y])) = p' :: (R ++ [.lst (acc ++ [y])]) := by
      rw [List.set_cons_succ, List.set_append_right _ _ (Nat.le_refl _)]; simp
    simp only [e1, e2]
    have e3 : (p' :: (R ++ [Cell.lst (acc ++ [y])])).take (R.length + 1 + 1) = p' :: (R ++ [.lst (acc ++ [y])]) := List.take_of_length_le (by simp)
    rw [if_pos (by omega), e3]
    exact h2 ρ R hρ
/-- a comprehension that draws from the pot in cell 0 -/
theorem cpM_pot {G : List Mir} {C : List D} {elt : E} {tg : Tg} {own : List Nat} {p : Cell} {items : List D} (Pr : Env → Prop) (Inv : Nat → Cell → List D → Prop)
    (hs : ∀ i d p acc, items[i]? = some d → Inv i p acc → ∃ y p', (∀ ρ R, Pr ρ → compT G C elt tg .no own ρ d (p :: R) = .ok (some y) (p' :: R)) ∧ Inv (i + 1) p' (acc ++ [y])) (h0 : Inv 0 p []) (hl : items.length ≤ line) :
    ∃ p' acc, (∀ ρ R, Pr ρ → cpM G C elt tg .no own ρ ([], items) (p :: R) = .ok (.f acc) (p' :: R)) ∧ Inv items.length p' acc := by
  obtain ⟨p', acc, h, I⟩ := compGo_pot (f := fun ρ => compT G C elt tg .no own ρ) Pr Inv hs items.length 0 p [] (by simp) (Nat.zero_le _) h0 (by simpa using hl)
  refine ⟨p', acc, fun ρ R hρ => ?_, I⟩
  have e := h ρ R hρ
  rw [List.drop_zero] at e
  unfold cpM
  show ((compGo [] _ (R.length + 1) items (p :: (R ++ [.lst []]))).nox.bind fun _ S2 => lastL (R.length + 1) S2) = _
  rw [e]
  simp only [Res.nox_ok, Res.bind_ok]
  exact lastL_app (p' :: R) acc
end Rf

namespace Rf
open PySem PySem.Spec PyProof.Rows L2
theorem lastX_app (S : Store) (es : List MX) : lastX S.length (S ++ [.mx es]) = .ok (.fm es) S := by
  unfold lastX
  rw [if_pos (by simp)]
  simp
theorem compGx_pure {f : D → Store → Res (Option MX)} {g : D → MX} {S : Store} : ∀ (items : List D) (acc : List MX), (∀ d ∈ items, ∀ A, f d (S ++ [A]) = .ok (some (g d)) (S ++ [A])) → acc.length + items.length ≤ line → compGx [] f S.length items (S ++ [.mx acc]) = .ok () (S ++ [.mx (acc ++ items.map g)])
  | [], acc, _, _ => by
    unfold compGx
    rw [if_pos (srcOk_nil _)]
    simp
  | d :: ds, acc, h, hl => by
    unfold compGx
    rw [if_pos (srcOk_nil _), h d List.mem_cons_self]
    simp only [Res.bind_ok]
    have e1 : (S ++ [Cell.mx acc])[S.length]? = some (.mx acc) := by simp
    have e2 : (S ++ [Cell.mx acc]).set S.length (.mx (acc ++ [g d])) = S ++ [.mx (acc ++ [g d])] := by
      rw [List.set_append_right _ _ (Nat.le_refl _)]; simp
    simp only [e1, e2]
    simp only [List.length_cons] at hl
    rw [if_pos (by omega), compGx_pure ds (acc ++ [g d]) (fun e he => h e (List.mem_cons_of_mem _ he)) (by simp; omega)]
    simp
/-- a comprehension of lists that changes nothing, without a test -/
theorem cxM_map {G : List Mir} {C : List D} {elt : E} {tg : Tg} {own : List Nat} {ρ : Env} {S : Store} {items : List D} (g : D → MX) (hl : items.length ≤ line)
    (hf : ∀ d ∈ items, ∀ A, compX G C elt tg .no own ρ d (S ++ [A]) = .ok (some (g d)) (S ++ [A])) : cxM G C elt tg .no own ρ ([], items) S = .ok (.fm (items.map g)) S := by
  unfold cxM
  dsimp only
  rw [compGx_pure items [] hf (by simpa using hl)]
  simp only [Res.nox_ok, Res.bind_ok, List.nil_append]
  exact lastX_app S _
/-- a comprehension with a test that changes nothing -/
theorem cpM_filter {G : List Mir} {C : List D} {elt : E} {tg : Tg} {cond : Eo} {own : List Nat} {ρ : Env} {S : Store} {items : List D} (g : D → Option D) (hl : items.length ≤ line)
    (hf : ∀ d ∈ items, ∀ A, compT G C elt tg cond own ρ d (S ++ [A]) = .ok (g d) (S ++ [A])) : cpM G C elt tg cond own ρ ([], items) S = .ok (.f (items.filterMap g)) S := by
  unfold cpM
  exact comp_pure (src := []) (f := compT G C elt tg cond own ρ) (g := g) (items := items) (S := S) (fun A => rfl) hf hl
end Rf

namespace Rf
open PySem PySem.Spec PyProof.Rows L2
theorem lastL_more (S M : Store) (ds : List D) : lastL S.length (S ++ .lst ds :: M) = .ok (.f ds) S := by
  unfold lastL
  rw [if_pos (by simp)]
  have e : (S ++ .lst ds :: M)[S.length]? = some (.lst ds) := by simp
  simp only [e, List.take_left]
end Rf

set_option maxHeartbeats 4000000
namespace Rf.Law
open PySem PySem.Spec PyProof.Rows L2 Rf
def top (i : Nat) : Stmt := PySem.Challenge.pw_splitroads_k68_whole_enough_and_lowered.main.body.getD i (.Pass ⟨0, 0, 0, 0⟩)
def cs : List D := [(.int 8), (.int 999), (.tup [(.int 0), (.int 1)])]
def cnames : List Str := ["MOST_TOWNS", "MOST_FAR", "NOUGHT"]
def b_law_pot : Ts := (.cons (.set 2 .rd (.ite (.cmp .Lt (.var 1) (.blt .len (.cons .rd (.var 0) .nil))) (.blt .abs (.cons .rd (.idx (.var 0) (.var 1)) .nil)) (.bin .Add (.bin .Mult (.lit (.int 887)) (.var 1)) (.lit (.int 219))))) (.cons (.set 3 .rd (.bin .Add (.bin .Mod (.blt .int (.cons .rd (.bin .Add (.bin .Add (.bin .Mult (.bin .Mod (.blt .int (.cons .rd (.var 2) .nil)) (.lit (.int 2147483549))) (.lit (.int 40692))) (.bin .Mult (.lit (.int 4909)) (.var 1))) (.lit (.int 137))) .nil)) (.lit (.int 2147483563))) (.lit (.int 1)))) (.cons (.ret (.lst (.cons .dat (.blt .max2 (.cons .rd (.lit (.int 0)) (.cons .rd (.bin .Sub (.var 2) (.bin .Pow (.lit (.int 10)) (.lit (.int 18)))) .nil))) (.cons .dat (.var 3) .nil)))) .nil)))
def m_law_pot : Mir := runD [] cs 2 4 b_law_pot
def b_law_many : Ts := (.cons (.ret (.bin .Add (.blt .len (.cons .rd (.idx (.var 0) (.lit (.int 1))) .nil)) (.lit (.int 1)))) .nil)
def m_law_many : Mir := runD [] cs 1 1 b_law_many
def b_law_draw : Ts := (.cons (.ite (.cmp .Gt (.idx (.var 0) (.lit (.int 0))) (.lit (.int 0))) (.cons (.dvm (.var 0) (.lit (.int 0)) 2 (.blt .divmod (.cons .rd (.idx (.var 0) (.lit (.int 0))) (.cons .rd (.var 1) .nil)))) (.cons (.ret (.var 2)) .nil)) .nil) (.cons (.sub (.var 0) (.lit (.int 1)) (.bin .Mod (.blt .int (.cons .rd (.bin .Add (.bin .Mult (.idx (.var 0) (.lit (.int 1))) (.lit (.int 40692))) (.lit (.int 4909))) .nil)) (.lit (.int 2147483587)))) (.cons (.ret (.bin .Mod (.blt .int (.cons .rd (.bin .FloorDiv (.bin .Mod (.blt .int (.cons .rd (.bin .Mult (.idx (.var 0) (.lit (.int 1))) (.idx (.var 0) (.lit (.int 1)))) .nil)) (.lit (.int 2147483563))) (.lit (.int 19))) .nil)) (.var 1))) .nil)))
def m_law_draw : Mir := runD [] cs 2 3 b_law_draw
def b_law_made : Ts := (.cons (.par [2, 3] (.cons .rd (.blt .abs (.cons .rd (.var 0) .nil)) (.cons .rd (.blt .abs (.cons .rd (.var 1) .nil)) .nil))) (.cons (.wh 100000000000000000000000000000000000000000000000000000000000000000000000000000000000000000000000000000000000000000000000000000000000000000000000000000000000000000000000000000000000000000000000000000000 (.cmp .Gt (.var 3) (.lit (.int 0))) (.cons (.par [2, 3] (.cons .rd (.var 3) (.cons .rd (.bin .Mod (.var 2) (.var 3)) .nil))) .nil)) (.cons (.set 4 .rd (.ite (.cmp .Gt (.var 1) (.lit (.int 0))) (.lit (.int 1)) (.neg (.lit (.int 1))))) (.cons (.ret (.tup (.cons .dat (.bin .FloorDiv (.bin .Mult (.var 4) (.var 0)) (.var 2)) (.cons .dat (.bin .FloorDiv (.blt .abs (.cons .rd (.var 1) .nil)) (.var 2)) .nil)))) .nil))))
def m_law_made : Mir := runD [] cs 2 5 b_law_made
def b_law_plus : Ts := (.cons (.ret (.call 0 (.cons .dat (.bin .Add (.bin .Mult (.idx (.var 0) (.lit (.int 0))) (.idx (.var 1) (.lit (.int 1)))) (.bin .Mult (.idx (.var 1) (.lit (.int 0))) (.idx (.var 0) (.lit (.int 1))))) (.cons .dat (.bin .Mult (.idx (.var 0) (.lit (.int 1))) (.idx (.var 1) (.lit (.int 1)))) .nil)))) .nil)
def m_law_plus : Mir := runD [m_law_made] cs 2 2 b_law_plus
def b_law_far : Ts := (.cons (.ite (.cmp .Eq (.var 1) (.var 2)) (.cons (.ret (.lit (.int 0))) .nil) .nil) (.cons (.ret (.idx (.idx (.idx (.var 0) (.lit (.int 1))) (.bin .Sub (.blt .max2 (.cons .rd (.var 1) (.cons .rd (.var 2) .nil))) (.lit (.int 1)))) (.blt .min2 (.cons .rd (.var 1) (.cons .rd (.var 2) .nil))))) .nil))
def m_law_far : Mir := runD [] cs 3 3 b_law_far
def b_law_numbers : Ts := (.cons (.par [2, 3] (.cons .rd (.call 0 (.cons .dat (.var 1) .nil)) (.cons .rd (.call 1 (.cons .cel (.var 0) (.cons .dat (.call 0 (.cons .dat (.var 1) .nil)) .nil))) .nil))) (.cons (.set 4 .rd (.call 2 (.cons .dat (.call 1 (.cons .cel (.var 0) (.cons .dat (.lit (.int 7)) .nil))) (.cons .dat (.lit (.int 2)) .nil)))) (.cons (.set 5 .rd (.comp (.call 3 (.cons .dat (.tup (.cons .dat (.call 4 (.cons .dat (.var 1) (.cons .dat (.var 3) (.cons .dat (.var 6) .nil)))) (.cons .dat (.lit (.int 1)) .nil))) (.cons .dat (.call 3 (.cons .dat (.var 4) (.cons .dat (.call 2 (.cons .dat (.call 1 (.cons .cel (.var 0) (.cons .dat (.lit (.int 5)) .nil))) (.cons .dat (.bin .Add (.lit (.int 1)) (.call 1 (.cons .cel (.var 0) (.cons .dat (.lit (.int 2)) .nil)))) .nil))) .nil))) .nil))) (.n 6) (.rng (.cons .rd (.var 2) .nil)) .no [6])) (.cons (.ret (.var 5)) .nil))))
def m_law_numbers : Mir := runD [m_law_many, m_law_draw, m_law_made, m_law_plus, m_law_far] cs 2 7 b_law_numbers
def b_law_minus : Ts := (.cons (.ret (.call 0 (.cons .dat (.bin .Sub (.bin .Mult (.idx (.var 0) (.lit (.int 0))) (.idx (.var 1) (.lit (.int 1)))) (.bin .Mult (.idx (.var 1) (.lit (.int 0))) (.idx (.var 0) (.lit (.int 1))))) (.cons .dat (.bin .Mult (.idx (.var 0) (.lit (.int 1))) (.idx (.var 1) (.lit (.int 1)))) .nil)))) .nil)
def m_law_minus : Mir := runD [m_law_made] cs 2 2 b_law_minus
def b_law_less : Ts := (.cons (.ret (.cmp .Lt (.bin .Mult (.idx (.var 0) (.lit (.int 0))) (.idx (.var 1) (.lit (.int 1)))) (.bin .Mult (.idx (.var 1) (.lit (.int 0))) (.idx (.var 0) (.lit (.int 1)))))) .nil)
def m_law_less : Mir := runD [] cs 2 2 b_law_less
def b_law_slack : Ts := (.cons (.set 3 .rd (.idx (.var 1) (.var 2))) (.cons (.fr (.n 4) (.rng (.cons .rd (.blt .len (.cons .rd (.var 1) .nil)) .nil)) (.cons (.ite (.cmp .NotEq (.var 4) (.var 2)) (.cons (.set 5 .rd (.call 0 (.cons .dat (.call 1 (.cons .dat (.idx (.var 1) (.var 2)) (.cons .dat (.idx (.var 1) (.var 4)) .nil))) (.cons .dat (.tup (.cons .dat (.call 3 (.cons .dat (.var 0) (.cons .dat (.var 2) (.cons .dat (.var 4) .nil)))) (.cons .dat (.lit (.int 1)) .nil))) .nil)))) (.cons (.set 3 .rd (.ite (.call 2 (.cons .dat (.var 5) (.cons .dat (.var 3) .nil))) (.var 5) (.var 3))) .nil)) .nil) .nil)) (.cons (.ret (.var 3)) .nil)))
def m_law_slack : Mir := runD [m_law_minus, m_law_plus, m_law_less, m_law_far] cs 3 6 b_law_slack
def b_law_lowered : Ts := (.cons (.set 2 .cel (.blt .list (.cons .rd (.var 1) .nil))) (.cons (.fr (.n 3) (.rng (.cons .rd (.blt .len (.cons .rd (.var 1) .nil)) .nil)) (.cons (.sub (.var 2) (.var 3) (.call 0 (.cons .dat (.idx (.var 2) (.var 3)) (.cons .dat (.pk 1 (.cons .rd (.var 0) (.cons .rd (.var 2) (.cons .rd (.var 3) .nil)))) .nil)))) .nil)) (.cons (.ret (.var 2)) .nil)))
def m_law_lowered : Mir := runD [m_law_minus, m_law_slack] cs 2 4 b_law_lowered
def b_law_bent : Ts := (.cons (.set 2 .rd (.call 0 (.cons .cel (.var 0) (.cons .dat (.blt .len (.cons .rd (.var 1) .nil)) .nil)))) (.cons (.set 3 .cel (.lst (.cons .dat (.var 1) (.cons .dat (.blt .tuple (.cons .rd (.var 1) .nil)) (.cons .dat (.sl (.var 1) .no (.yes (.neg (.lit (.int 1))))) (.cons .dat (.bin .Add (.var 1) (.lst (.cons .dat (.tup (.cons .dat (.lit (.int 0)) (.cons .dat (.lit (.int 1)) .nil))) .nil))) (.cons .dat (.lit .non) (.cons .dat (.comp (.idx (.var 5) (.lit (.int 0))) (.n 5) (.seq (.var 1)) .no [5]) (.cons .dat (.comp (.tup (.cons .dat (.bin .Mult (.lit (.int 2)) (.var 6)) (.cons .dat (.bin .Mult (.lit (.int 2)) (.var 7)) .nil))) (.t (.cons (.n 6) (.cons (.n 7) .nil))) (.seq (.var 1)) .no [6, 7]) .nil))))))))) (.cons (.fr (.n 4) (.seq (.lst (.cons .dat (.tup (.cons .dat (.lit (.int 1)) (.cons .dat (.lit (.int 2)) .nil))) (.cons .dat (.tup (.cons .dat (.neg (.lit (.int 1))) (.cons .dat (.lit (.int 2)) .nil))) (.cons .dat (.tup (.cons .dat (.lit (.int 3)) (.cons .dat (.lit (.int 1)) .nil))) (.cons .dat (.tup (.cons .dat (.neg (.lit (.int 2))) (.cons .dat (.lit (.int 1)) .nil))) .nil)))))) (.cons (.app 3 (.comp (.ite (.cmp .Eq (.var 8) (.var 2)) (.call 1 (.cons .dat (.var 5) (.cons .dat (.var 4) .nil))) (.var 5)) (.t (.cons (.n 8) (.cons (.n 5) .nil))) (.enum (.var 1)) .no [8, 5])) .nil)) (.cons (.app 3 (.comp (.call 1 (.cons .dat (.var 5) (.cons .dat (.tup (.cons .dat (.lit (.int 1)) (.cons .dat (.lit (.int 1)) .nil))) .nil))) (.n 5) (.seq (.var 1)) .no [5])) (.cons (.app 3 (.bin .Mult (.lst (.cons .dat (.tup (.cons .dat (.lit (.int 0)) (.cons .dat (.lit (.int 1)) .nil))) .nil)) (.blt .len (.cons .rd (.var 1) .nil)))) (.cons (.ret (.var 3)) .nil))))))
def m_law_bent : Mir := runD [m_law_draw, m_law_plus] cs 2 9 b_law_bent
def b_sizes_are_right : Ts := (.cons (.ret (.and (.ch2 .LtE .Lt (.lit (.int 1)) (.blt .len (.cons .rd (.var 0) .nil)) (.con 0)) (.blt .all (.cons .rd (.comp (.cmp .Eq (.blt .len (.cons .rd (.var 2) .nil)) (.bin .Add (.var 1) (.lit (.int 1)))) (.t (.cons (.n 1) (.cons (.n 2) .nil))) (.enum (.var 0)) .no [1, 2]) .nil)))) .nil)
def m_sizes_are_right : Mir := runD [] cs 1 3 b_sizes_are_right
def b_is_integer : Ts := (.cons (.ret (.and (.isi (.var 0) [.int]) (.nt (.isi (.var 0) [.bool])))) .nil)
def m_is_integer : Mir := runD [] cs 1 1 b_is_integer
def b_is_count : Ts := (.cons (.ret (.and (.call 0 (.cons .dat (.var 0) .nil)) (.cmp .GtE (.var 0) (.lit (.int 0))))) .nil)
def m_is_count : Mir := runD [m_is_integer] cs 1 1 b_is_count
def b_flaw_of : Ts := (.cons (.ite (.or (.nt (.isi (.var 0) [.tuple])) (.or (.cmp .NotEq (.blt .len (.cons .rd (.var 0) .nil)) (.lit (.int 2))) (.or (.nt (.isi (.idx (.var 0) (.lit (.int 0))) [.str])) (.cmp .NotEq (.idx (.var 0) (.lit (.int 0))) (.lit (.str (Str.ofString "table"))))))) (.cons (.ret (.lit (.str (Str.ofString "form")))) .nil) .nil) (.cons (.ite (.or (.nt (.isi (.idx (.var 0) (.lit (.int 1))) [.tuple])) (.nt (.blt .all (.cons .rd (.comp (.isi (.var 1) [.tuple]) (.n 1) (.seq (.idx (.var 0) (.lit (.int 1)))) .no [1]) .nil)))) (.cons (.ret (.lit (.str (Str.ofString "rows")))) .nil) .nil) (.cons (.ite (.nt (.call 0 (.cons .dat (.idx (.var 0) (.lit (.int 1))) .nil))) (.cons (.ret (.lit (.str (Str.ofString "rows")))) .nil) .nil) (.cons (.fr (.n 1) (.seq (.idx (.var 0) (.lit (.int 1)))) (.cons (.ite (.nt (.blt .all (.cons .rd (.comp (.and (.call 1 (.cons .dat (.var 2) .nil)) (.cmp .LtE (.var 2) (.con 1))) (.n 2) (.seq (.var 1)) .no [2]) .nil))) (.cons (.ret (.lit (.str (Str.ofString "numbers")))) .nil) .nil) .nil)) (.cons (.ret (.lit .non)) .nil)))))
def m_flaw_of : Mir := runD [m_sizes_are_right, m_is_count] cs 1 3 b_flaw_of
def b_table_is_right : Ts := (.cons (.ret (.cmp .Is (.call 0 (.cons .dat (.var 0) .nil)) (.lit .non))) .nil)
def m_table_is_right : Mir := runD [m_flaw_of] cs 1 1 b_table_is_right
def b_is_table : Ts := (.cons (.ret (.call 0 (.cons .dat (.var 0) .nil))) .nil)
def m_is_table : Mir := runD [m_table_is_right] cs 1 1 b_is_table
def b_check_table_posts : Ts := (.cons (.ite (.nt (.call 0 (.cons .dat (.var 0) .nil))) (.cons .nev .nil) .nil) .nil)
def m_check_table_posts : Mir := runD [m_is_table] cs 1 1 b_check_table_posts
def b_many_of_webs : Ts := (.cons (.ret (.bin .Add (.blt .len (.cons .rd (.idx (.var 0) (.lit (.int 1))) .nil)) (.lit (.int 1)))) .nil)
def m_many_of_webs : Mir := runD [] cs 1 1 b_many_of_webs
def b_is_list : Ts := (.cons (.ret (.isi (.var 0) [.list, .tuple])) .nil)
def m_is_list : Mir := runD [] cs 1 1 b_is_list
def b_is_ratio : Ts := (.cons (.ite (.or (.nt (.isi (.var 0) [.tuple])) (.or (.cmp .NotEq (.blt .len (.cons .rd (.var 0) .nil)) (.lit (.int 2))) (.nt (.blt .all (.cons .rd (.comp (.call 0 (.cons .dat (.var 1) .nil)) (.n 1) (.seq (.var 0)) .no [1]) .nil))))) (.cons (.ret (.lit (.bl false))) .nil) .nil) (.cons (.ret (.and (.cmp .GtE (.idx (.var 0) (.lit (.int 1))) (.lit (.int 1))) (.cmp .Eq (.blt .gcd (.cons .rd (.idx (.var 0) (.lit (.int 0))) (.cons .rd (.idx (.var 0) (.lit (.int 1))) .nil))) (.lit (.int 1))))) .nil))
def m_is_ratio : Mir := runD [m_is_integer] cs 1 2 b_is_ratio
def b_made : Ts := (.cons (.set 2 .rd (.bin .Mult (.blt .gcd (.cons .rd (.var 0) (.cons .rd (.var 1) .nil))) (.ite (.cmp .Gt (.var 1) (.lit (.int 0))) (.lit (.int 1)) (.neg (.lit (.int 1)))))) (.cons (.ret (.tup (.cons .dat (.bin .FloorDiv (.var 0) (.var 2)) (.cons .dat (.bin .FloorDiv (.var 1) (.var 2)) .nil)))) .nil))
def m_made : Mir := runD [] cs 2 3 b_made
def b_r_minus : Ts := (.cons (.ret (.call 0 (.cons .dat (.bin .Sub (.bin .Mult (.idx (.var 0) (.lit (.int 0))) (.idx (.var 1) (.lit (.int 1)))) (.bin .Mult (.idx (.var 1) (.lit (.int 0))) (.idx (.var 0) (.lit (.int 1))))) (.cons .dat (.bin .Mult (.idx (.var 0) (.lit (.int 1))) (.idx (.var 1) (.lit (.int 1)))) .nil)))) .nil)
def m_r_minus : Mir := runD [m_made] cs 2 2 b_r_minus
def b_r_plus : Ts := (.cons (.ret (.call 0 (.cons .dat (.bin .Add (.bin .Mult (.idx (.var 0) (.lit (.int 0))) (.idx (.var 1) (.lit (.int 1)))) (.bin .Mult (.idx (.var 1) (.lit (.int 0))) (.idx (.var 0) (.lit (.int 1))))) (.cons .dat (.bin .Mult (.idx (.var 0) (.lit (.int 1))) (.idx (.var 1) (.lit (.int 1)))) .nil)))) .nil)
def m_r_plus : Mir := runD [m_made] cs 2 2 b_r_plus
def b_far : Ts := (.cons (.ret (.ite (.cmp .Eq (.var 1) (.var 2)) (.lit (.int 0)) (.idx (.idx (.idx (.var 0) (.lit (.int 1))) (.bin .Sub (.blt .max2 (.cons .rd (.var 1) (.cons .rd (.var 2) .nil))) (.lit (.int 1)))) (.blt .min2 (.cons .rd (.var 1) (.cons .rd (.var 2) .nil)))))) .nil)
def m_far : Mir := runD [] cs 3 3 b_far
def b_slack_of : Ts := (.cons (.ret (.call 0 (.cons .dat (.call 1 (.cons .dat (.idx (.var 1) (.var 2)) (.cons .dat (.idx (.var 1) (.var 3)) .nil))) (.cons .dat (.tup (.cons .dat (.call 2 (.cons .dat (.var 0) (.cons .dat (.var 2) (.cons .dat (.var 3) .nil)))) (.cons .dat (.lit (.int 1)) .nil))) .nil)))) .nil)
def m_slack_of : Mir := runD [m_r_minus, m_r_plus, m_far] cs 4 4 b_slack_of
def b_numbers_are_right : Ts := (.cons (.set 2 .rd (.call 0 (.cons .dat (.var 0) .nil))) (.cons (.ite (.or (.nt (.call 1 (.cons .dat (.var 1) .nil))) (.or (.cmp .NotEq (.blt .len (.cons .rd (.var 1) .nil)) (.var 2)) (.nt (.blt .all (.cons .rd (.comp (.call 2 (.cons .dat (.var 3) .nil)) (.n 3) (.seq (.var 1)) .no [3]) .nil))))) (.cons (.ret (.lit (.bl false))) .nil) .nil) (.cons (.fr (.n 3) (.rng (.cons .rd (.var 2) .nil)) (.cons (.ite (.blt .any (.cons .rd (.comp (.cmp .Lt (.idx (.call 3 (.cons .dat (.var 0) (.cons .dat (.var 1) (.cons .dat (.var 3) (.cons .dat (.var 4) .nil))))) (.lit (.int 0))) (.lit (.int 0))) (.n 4) (.rng (.cons .rd (.var 3) (.cons .rd (.var 2) .nil))) .no [4]) .nil)) (.cons (.ret (.lit (.bl false))) .nil) .nil) .nil)) (.cons (.ret (.lit (.bl true))) .nil))))
def m_numbers_are_right : Mir := runD [m_many_of_webs, m_is_list, m_is_ratio, m_slack_of] cs 2 5 b_numbers_are_right
def b_check_numbers : Ts := (.cons (.exp (.call 0 (.cons .dat (.var 0) .nil))) (.cons (.ite (.nt (.call 1 (.cons .dat (.var 0) (.cons .dat (.var 1) .nil)))) (.cons .nev .nil) .nil) .nil))
def m_check_numbers : Mir := runD [m_check_table_posts, m_numbers_are_right] cs 2 2 b_check_numbers
def b_is_town : Ts := (.cons (.ret (.and (.call 0 (.cons .dat (.var 1) .nil)) (.ch2 .LtE .Lt (.lit (.int 0)) (.var 1) (.call 1 (.cons .dat (.var 0) .nil))))) .nil)
def m_is_town : Mir := runD [m_is_integer, m_many_of_webs] cs 2 2 b_is_town
def b_check_town : Ts := (.cons (.ite (.nt (.call 0 (.cons .dat (.var 0) (.cons .dat (.var 1) .nil)))) (.cons .nev .nil) .nil) .nil)
def m_check_town : Mir := runD [m_is_town] cs 2 2 b_check_town
def b_check_table_tables : Ts := (.cons (.ite (.nt (.call 0 (.cons .dat (.var 0) .nil))) (.cons .nev .nil) .nil) .nil)
def m_check_table_tables : Mir := runD [m_table_is_right] cs 1 1 b_check_table_tables
def b_many_of_tables : Ts := (.cons (.ret (.bin .Add (.blt .len (.cons .rd (.idx (.var 0) (.lit (.int 1))) .nil)) (.lit (.int 1)))) .nil)
def m_many_of_tables : Mir := runD [] cs 1 1 b_many_of_tables
def b_far_of : Ts := (.cons (.ret (.ite (.cmp .Eq (.var 1) (.var 2)) (.lit (.int 0)) (.idx (.idx (.idx (.var 0) (.lit (.int 1))) (.bin .Sub (.blt .max2 (.cons .rd (.var 1) (.cons .rd (.var 2) .nil))) (.lit (.int 1)))) (.blt .min2 (.cons .rd (.var 1) (.cons .rd (.var 2) .nil)))))) .nil)
def m_far_of : Mir := runD [] cs 3 3 b_far_of
def b_short_of : Ts := (.cons (.set 1 .rd (.rngv (.cons .rd (.call 0 (.cons .dat (.var 0) .nil)) .nil))) (.cons (.fr (.n 2) (.seq (.var 1)) (.cons (.fr (.n 3) (.seq (.var 1)) (.cons (.fr (.n 4) (.rng (.cons .rd (.bin .Add (.var 2) (.lit (.int 1))) (.cons .rd (.call 0 (.cons .dat (.var 0) .nil)) .nil))) (.cons (.ite (.cmp .NotIn (.var 3) (.tup (.cons .dat (.var 2) (.cons .dat (.var 4) .nil)))) (.cons (.ite (.cmp .Gt (.call 1 (.cons .dat (.var 0) (.cons .dat (.var 2) (.cons .dat (.var 4) .nil)))) (.bin .Add (.call 1 (.cons .dat (.var 0) (.cons .dat (.var 2) (.cons .dat (.var 3) .nil)))) (.call 1 (.cons .dat (.var 0) (.cons .dat (.var 3) (.cons .dat (.var 4) .nil)))))) (.cons (.ret (.tup (.cons .dat (.var 2) (.cons .dat (.var 3) (.cons .dat (.var 4) .nil))))) .nil) .nil) .nil) .nil) .nil)) .nil)) .nil)) (.cons (.ret (.lit .non)) .nil)))
def m_short_of : Mir := runD [m_many_of_tables, m_far_of] cs 1 5 b_short_of
def b_short_triple : Ts := (.cons (.exp (.call 0 (.cons .dat (.var 0) .nil))) (.cons (.ret (.call 1 (.cons .dat (.var 0) .nil))) .nil))
def m_short_triple : Mir := runD [m_check_table_tables, m_short_of] cs 1 1 b_short_triple
def b_check_metric : Ts := (.cons (.set 1 .rd (.call 0 (.cons .dat (.var 0) .nil))) (.cons (.ite (.cmp .IsNot (.var 1) (.lit .non)) (.cons .nev .nil) .nil) .nil))
def m_check_metric : Mir := runD [m_short_triple] cs 1 2 b_check_metric
def b_r_less : Ts := (.cons (.ret (.cmp .Lt (.bin .Mult (.idx (.var 0) (.lit (.int 0))) (.idx (.var 1) (.lit (.int 1)))) (.bin .Mult (.idx (.var 1) (.lit (.int 0))) (.idx (.var 0) (.lit (.int 1)))))) .nil)
def m_r_less : Mir := runD [] cs 2 2 b_r_less
def b_lose_of : Ts := (.cons (.set 3 .rd (.idx (.var 1) (.var 2))) (.cons (.fr (.n 4) (.rng (.cons .rd (.blt .len (.cons .rd (.var 1) .nil)) .nil)) (.cons (.ite (.cmp .NotEq (.var 4) (.var 2)) (.cons (.set 5 .rd (.call 0 (.cons .dat (.var 0) (.cons .dat (.var 1) (.cons .dat (.var 2) (.cons .dat (.var 4) .nil)))))) (.cons (.set 3 .rd (.ite (.call 1 (.cons .dat (.var 5) (.cons .dat (.var 3) .nil))) (.var 5) (.var 3))) .nil)) .nil) .nil)) (.cons (.ret (.var 3)) .nil)))
def m_lose_of : Mir := runD [m_slack_of, m_r_less] cs 3 6 b_lose_of
def b_can_lose : Ts := (.cons (.exp (.call 0 (.cons .dat (.var 0) (.cons .dat (.var 1) .nil)))) (.cons (.exp (.call 1 (.cons .dat (.var 0) (.cons .dat (.var 2) .nil)))) (.cons (.exp (.call 2 (.cons .dat (.var 0) .nil))) (.cons (.ret (.call 3 (.cons .dat (.var 0) (.cons .dat (.var 1) (.cons .dat (.var 2) .nil))))) .nil))))
def m_can_lose : Mir := runD [m_check_numbers, m_check_town, m_check_metric, m_lose_of] cs 3 3 b_can_lose
def b_law_is_ratio : Ts := (.cons (.ite (.or (.nt (.isi (.var 0) [.tuple])) (.or (.cmp .NotEq (.blt .len (.cons .rd (.var 0) .nil)) (.lit (.int 2))) (.blt .any (.cons .rd (.comp (.or (.isi (.var 1) [.bool]) (.nt (.isi (.var 1) [.int]))) (.n 1) (.seq (.var 0)) .no [1]) .nil)))) (.cons (.ret (.lit (.bl false))) .nil) .nil) (.cons (.ret (.and (.cmp .Gt (.idx (.var 0) (.lit (.int 1))) (.lit (.int 0))) (.cmp .Eq (.call 0 (.cons .dat (.idx (.var 0) (.lit (.int 0))) (.cons .dat (.idx (.var 0) (.lit (.int 1))) .nil))) (.var 0)))) .nil))
def m_law_is_ratio : Mir := runD [m_law_made] cs 1 2 b_law_is_ratio
def b_law_enough : Ts := (.cons (.ret (.blt .all (.cons .rd (.comp (.cmp .GtE (.idx (.call 0 (.cons .dat (.var 0) (.cons .dat (.var 1) (.cons .dat (.var 2) .nil)))) (.lit (.int 0))) (.lit (.int 0))) (.n 2) (.rng (.cons .rd (.blt .len (.cons .rd (.var 1) .nil)) .nil)) .no [2]) .nil))) .nil)
def m_law_enough : Mir := runD [m_law_slack] cs 2 3 b_law_enough
def b_law_size : Ts := (.cons (.ret (.tup (.cons .dat (.blt .abs (.cons .rd (.idx (.var 0) (.lit (.int 0))) .nil)) (.cons .dat (.idx (.var 0) (.lit (.int 1))) .nil)))) .nil)
def m_law_size : Mir := runD [] cs 1 1 b_law_size
def b_law_says : Ts := (.cons (.ite (.or (.nt (.isi (.var 1) [.list, .tuple])) (.or (.cmp .NotEq (.blt .len (.cons .rd (.var 1) .nil)) (.call 0 (.cons .dat (.var 0) .nil))) (.nt (.blt .all (.cons .rd (.comp (.call 1 (.cons .dat (.var 6) .nil)) (.n 6) (.seq (.var 1)) .no [6]) .nil))))) (.cons (.ret (.lst (.cons .dat (.lit (.bl false)) (.cons .dat (.lit (.bl false)) (.cons .dat (.lit (.bl false)) .nil))))) .nil) .nil) (.cons (.ite (.nt (.call 2 (.cons .dat (.var 0) (.cons .dat (.var 1) .nil)))) (.cons (.ret (.lst (.cons .dat (.lit (.bl false)) (.cons .dat (.lit (.bl false)) (.cons .dat (.lit (.bl false)) .nil))))) .nil) .nil) (.cons (.set 2 .rd (.blt .all (.cons .rd (.comp (.cmp .Eq (.idx (.call 3 (.cons .dat (.var 0) (.cons .dat (.var 1) (.cons .dat (.var 4) .nil)))) (.lit (.int 0))) (.lit (.int 0))) (.n 4) (.rng (.cons .rd (.blt .len (.cons .rd (.var 1) .nil)) .nil)) .no [4]) .nil))) (.cons (.set 3 .rd (.lit (.bl true))) (.cons (.fr (.n 4) (.rng (.cons .rd (.blt .len (.cons .rd (.var 1) .nil)) .nil)) (.cons (.fr (.n 5) (.rng (.cons .rd (.var 4) .nil)) (.cons (.set 3 .rd (.and (.var 3) (.nt (.call 4 (.cons .dat (.tup (.cons .dat (.call 6 (.cons .dat (.var 0) (.cons .dat (.var 4) (.cons .dat (.var 5) .nil)))) (.cons .dat (.lit (.int 1)) .nil))) (.cons .dat (.call 5 (.cons .dat (.call 7 (.cons .dat (.idx (.var 1) (.var 4)) (.cons .dat (.idx (.var 1) (.var 5)) .nil))) .nil)) .nil)))))) .nil)) .nil)) (.cons (.ret (.lst (.cons .dat (.lit (.bl true)) (.cons .dat (.var 2) (.cons .dat (.var 3) .nil))))) .nil))))))
def m_law_says : Mir := runD [m_law_many, m_law_is_ratio, m_law_enough, m_law_slack, m_law_less, m_law_size, m_law_far, m_law_minus] cs 2 7 b_law_says
def b_lowered_by : Ts := (.cons (.set 2 .cel (.blt .list (.cons .rd (.var 1) .nil))) (.cons (.fr (.n 3) (.rng (.cons .rd (.blt .len (.cons .rd (.var 2) .nil)) .nil)) (.cons (.sub (.var 2) (.var 3) (.call 0 (.cons .dat (.idx (.var 2) (.var 3)) (.cons .dat (.pk 1 (.cons .rd (.var 0) (.cons .rd (.var 2) (.cons .rd (.var 3) .nil)))) .nil)))) .nil)) (.cons (.ret (.var 2)) .nil)))
def m_lowered_by : Mir := runD [m_r_minus, m_lose_of] cs 2 4 b_lowered_by
def b_lowered : Ts := (.cons (.exp (.call 0 (.cons .dat (.var 0) (.cons .dat (.var 1) .nil)))) (.cons (.exp (.call 1 (.cons .dat (.var 0) .nil))) (.cons (.ret (.call 2 (.cons .dat (.var 0) (.cons .dat (.var 1) .nil)))) .nil)))
def m_lowered : Mir := runD [m_check_numbers, m_check_metric, m_lowered_by] cs 2 2 b_lowered
def b_are_enough : Ts := (.cons (.exp (.call 0 (.cons .dat (.var 0) .nil))) (.cons (.exp (.call 1 (.cons .dat (.var 0) .nil))) (.cons (.ret (.call 2 (.cons .dat (.var 0) (.cons .dat (.var 1) .nil)))) .nil)))
def m_are_enough : Mir := runD [m_check_table_posts, m_check_metric, m_numbers_are_right] cs 2 2 b_are_enough
def b_loose_of : Ts := (.cons (.set 2 .rd (.comp (.var 3) (.n 3) (.rng (.cons .rd (.blt .len (.cons .rd (.var 1) .nil)) .nil)) (.yes (.cmp .NotEq (.call 0 (.cons .dat (.var 0) (.cons .dat (.var 1) (.cons .dat (.var 3) .nil)))) (.con 2))) [3])) (.cons (.ret (.ite (.cmp .NotEq (.var 2) (.lst .nil)) (.idx (.var 2) (.lit (.int 0))) (.lit .non))) .nil))
def m_loose_of : Mir := runD [m_lose_of] cs 2 4 b_loose_of
def b_post_is_right : Ts := (.cons (.ret (.and (.call 0 (.cons .dat (.var 0) (.cons .dat (.var 1) .nil))) (.cmp .Is (.call 1 (.cons .dat (.var 0) (.cons .dat (.var 1) .nil))) (.lit .non)))) .nil)
def m_post_is_right : Mir := runD [m_numbers_are_right, m_loose_of] cs 2 2 b_post_is_right
def b_is_post : Ts := (.cons (.exp (.call 0 (.cons .dat (.var 0) .nil))) (.cons (.exp (.call 1 (.cons .dat (.var 0) .nil))) (.cons (.ret (.call 2 (.cons .dat (.var 0) (.cons .dat (.var 1) .nil)))) .nil)))
def m_is_post : Mir := runD [m_check_table_posts, m_check_metric, m_post_is_right] cs 2 2 b_is_post
def b_could_be_by : Ts := (.cons (.ite (.nt (.call 0 (.cons .dat (.var 0) (.cons .dat (.var 1) .nil)))) (.cons (.ret (.lit (.bl false))) .nil) .nil) (.cons (.fr (.n 2) (.rng (.cons .rd (.blt .len (.cons .rd (.var 1) .nil)) .nil)) (.cons (.fr (.n 3) (.rng (.cons .rd (.blt .len (.cons .rd (.var 1) .nil)) .nil)) (.cons (.ite (.call 1 (.cons .dat (.tup (.cons .dat (.call 3 (.cons .dat (.var 0) (.cons .dat (.var 2) (.cons .dat (.var 3) .nil)))) (.cons .dat (.lit (.int 1)) .nil))) (.cons .dat (.call 2 (.cons .dat (.idx (.var 1) (.var 2)) (.cons .dat (.idx (.var 1) (.var 3)) .nil))) .nil))) (.cons (.ret (.lit (.bl false))) .nil) .nil) .nil)) .nil)) (.cons (.ret (.lit (.bl true))) .nil)))
def m_could_be_by : Mir := runD [m_numbers_are_right, m_r_less, m_r_minus, m_far] cs 2 4 b_could_be_by
def b_could_be : Ts := (.cons (.exp (.call 0 (.cons .dat (.var 0) .nil))) (.cons (.exp (.call 1 (.cons .dat (.var 0) .nil))) (.cons (.ret (.call 2 (.cons .dat (.var 0) (.cons .dat (.var 1) .nil)))) .nil)))
def m_could_be : Mir := runD [m_check_table_posts, m_check_metric, m_could_be_by] cs 2 2 b_could_be
def b_loose_town : Ts := (.cons (.exp (.call 0 (.cons .dat (.var 0) (.cons .dat (.var 1) .nil)))) (.cons (.exp (.call 1 (.cons .dat (.var 0) .nil))) (.cons (.ret (.call 2 (.cons .dat (.var 0) (.cons .dat (.var 1) .nil)))) .nil)))
def m_loose_town : Mir := runD [m_check_numbers, m_check_metric, m_loose_of] cs 2 2 b_loose_town
def b_law_one_right : Ts := (.cons (.par [2, 3] (.cons .rd (.call 0 (.cons .cel (.var 0) (.cons .dat (.var 1) .nil))) (.cons .rd (.blt .repr (.cons .rd (.var 1) .nil)) .nil))) (.cons (.fr (.n 4) (.rng (.cons .rd (.lit (.int 2)) .nil)) (.cons (.set 5 .rd (.blt .repr (.cons .rd (.var 2) .nil))) (.cons (.set 6 .rd (.comp (.call 3 (.cons .dat (.var 1) (.cons .dat (.var 2) (.cons .dat (.var 13) .nil)))) (.n 13) (.rng (.cons .rd (.blt .len (.cons .rd (.var 2) .nil)) .nil)) .no [13])) (.cons (.set 7 .rd (.comp (.var 13) (.t (.cons (.n 13) (.cons (.n 14) .nil))) (.enum (.var 6)) (.yes (.cmp .Gt (.idx (.var 14) (.lit (.int 0))) (.lit (.int 0)))) [13, 14])) (.cons (.set 8 .rd (.comp (.call 4 (.cons .dat (.var 1) (.cons .dat (.var 2) (.cons .dat (.var 13) .nil)))) (.n 13) (.rng (.cons .rd (.blt .len (.cons .rd (.var 2) .nil)) .nil)) .no [13])) (.cons (.ite (.or (.cmp .NotEq (.blt .repr (.cons .rd (.var 8) .nil)) (.blt .repr (.cons .rd (.var 6) .nil))) (.cmp .NotEq (.blt .repr (.cons .rd (.kall 4 .nil (.cons .dat (.lit (.int 0)) (.cons .dat (.var 2) (.cons .dat (.var 1) .nil))) [2, 1, 0]) .nil)) (.blt .repr (.cons .rd (.idx (.var 6) (.lit (.int 0))) .nil)))) (.cons (.ret (.lit (.bl false))) .nil) .nil) (.cons (.ite (.cmp .NotEq (.blt .repr (.cons .rd (.lst (.cons .dat (.call 10 (.cons .dat (.var 1) (.cons .dat (.var 2) .nil))) (.cons .dat (.kall 10 .nil (.cons .dat (.blt .tuple (.cons .rd (.var 2) .nil)) (.cons .dat (.var 1) .nil)) [1, 0]) .nil))) .nil)) (.blt .repr (.cons .rd (.bin .Mult (.lst (.cons .dat (.ite (.cmp .NotEq (.var 7) (.lst .nil)) (.idx (.var 7) (.lit (.int 0))) (.lit .non)) .nil)) (.lit (.int 2))) .nil))) (.cons (.ret (.lit (.bl false))) .nil) .nil) (.cons (.set 9 .rd (.call 1 (.cons .dat (.var 1) (.cons .dat (.var 2) .nil)))) (.cons (.ite (.or (.cmp .NotEq (.blt .repr (.cons .rd (.lst (.cons .dat (.call 6 (.cons .dat (.var 1) (.cons .dat (.var 2) .nil))) (.cons .dat (.kall 6 .nil (.cons .dat (.var 2) (.cons .dat (.var 1) .nil)) [1, 0]) .nil))) .nil)) (.blt .repr (.cons .rd (.lst (.cons .dat (.var 9) (.cons .dat (.var 9) .nil))) .nil))) (.cmp .NotEq (.blt .repr (.cons .rd (.var 2) .nil)) (.var 5))) (.cons (.ret (.lit (.bl false))) .nil) .nil) (.cons (.ite (.or (.cmp .NotEq (.sl (.call 5 (.cons .dat (.var 1) (.cons .dat (.var 9) .nil))) .no (.yes (.lit (.int 2)))) (.lst (.cons .dat (.lit (.bl true)) (.cons .dat (.lit (.bl true)) .nil)))) (.blt .any (.cons .rd (.comp (.call 11 (.cons .dat (.var 15) (.cons .dat (.var 16) .nil))) (.t (.cons (.n 15) (.cons (.n 16) .nil))) (.zip (.var 2) (.var 9)) .no [15, 16]) .nil))) (.cons (.ret (.lit (.bl false))) .nil) .nil) (.cons (.apx (.call 6 (.cons .dat (.var 1) (.cons .dat (.var 2) .nil))) (.lit .non)) (.cons (.fr (.n 10) (.seq (.call 2 (.cons .cel (.var 0) (.cons .dat (.var 2) .nil)))) (.cons (.set 11 .rd (.call 5 (.cons .dat (.var 1) (.cons .dat (.var 10) .nil)))) (.cons (.set 8 .rd (.lst (.cons .dat (.call 7 (.cons .dat (.var 1) (.cons .dat (.var 10) .nil))) (.cons .dat (.call 8 (.cons .dat (.var 1) (.cons .dat (.var 10) .nil))) (.cons .dat (.call 9 (.cons .dat (.var 1) (.cons .dat (.var 10) .nil))) .nil))))) (.cons (.set 12 .rd (.lst (.cons .dat (.kall 7 .nil (.cons .dat (.var 10) (.cons .dat (.var 1) .nil)) [1, 0]) (.cons .dat (.kall 8 .nil (.cons .dat (.var 10) (.cons .dat (.var 1) .nil)) [1, 0]) (.cons .dat (.kall 9 .nil (.cons .dat (.var 10) (.cons .dat (.var 1) .nil)) [1, 0]) .nil))))) (.cons (.ite (.cmp .NotEq (.blt .repr (.cons .rd (.lst (.cons .dat (.var 8) (.cons .dat (.var 12) .nil))) .nil)) (.blt .repr (.cons .rd (.lst (.cons .dat (.var 11) (.cons .dat (.var 11) .nil))) .nil))) (.cons (.ret (.lit (.bl false))) .nil) .nil) .nil))))) (.cons (.set 2 .rd (.var 9)) .nil))))))))))))) (.cons (.ret (.cmp .Eq (.blt .repr (.cons .rd (.var 1) .nil)) (.var 3))) .nil)))
def m_law_one_right : Mir := runD [m_law_numbers, m_law_lowered, m_law_bent, m_law_slack, m_can_lose, m_law_says, m_lowered, m_are_enough, m_is_post, m_could_be, m_loose_town, m_law_less] cs 2 17 b_law_one_right
def b_law_metric : Ts := (.cons (.set 2 .mxl (.lsx .nil)) (.cons (.fr (.n 3) (.rng (.cons .rd (.lit (.int 1)) (.cons .rd (.var 1) .nil))) (.cons (.apx (.var 2) (.comp (.bin .Add (.call 0 (.cons .cel (.var 0) (.cons .dat (.lit (.int 12)) .nil))) (.lit (.int 1))) (.n 5) (.rng (.cons .rd (.var 3) .nil)) .no [5])) .nil)) (.cons (.ite (.cmp .Eq (.call 0 (.cons .cel (.var 0) (.cons .dat (.lit (.int 4)) .nil))) (.lit (.int 0))) (.cons (.sub (.idx (.var 2) (.neg (.lit (.int 1)))) (.lit (.int 0)) (.lit (.int 0))) .nil) .nil) (.cons (.fr (.n 4) (.rng (.cons .rd (.var 1) .nil)) (.cons (.fr (.n 3) (.rng (.cons .rd (.lit (.int 1)) (.cons .rd (.var 1) .nil))) (.cons (.fr (.n 5) (.rng (.cons .rd (.var 3) .nil)) (.cons (.fr (.n 6) (.rng (.cons .rd (.var 1) .nil)) (.cons (.ite (.cmp .NotIn (.var 6) (.tup (.cons .dat (.var 3) (.cons .dat (.var 5) .nil)))) (.cons (.set 7 .rd (.bin .Add (.idx (.idx (.var 2) (.bin .Sub (.blt .max2 (.cons .rd (.var 3) (.cons .rd (.var 6) .nil))) (.lit (.int 1)))) (.blt .min2 (.cons .rd (.var 3) (.cons .rd (.var 6) .nil)))) (.idx (.idx (.var 2) (.bin .Sub (.blt .max2 (.cons .rd (.var 5) (.cons .rd (.var 6) .nil))) (.lit (.int 1)))) (.blt .min2 (.cons .rd (.var 5) (.cons .rd (.var 6) .nil)))))) (.cons (.sub (.idx (.var 2) (.bin .Sub (.var 3) (.lit (.int 1)))) (.var 5) (.blt .min2 (.cons .rd (.idx (.idx (.var 2) (.bin .Sub (.var 3) (.lit (.int 1)))) (.var 5)) (.cons .rd (.var 7) .nil)))) .nil)) .nil) .nil)) .nil)) .nil)) .nil)) (.cons (.ret (.tup (.cons .dat (.lit (.str (Str.ofString "table"))) (.cons .dat (.blt .tuple (.cons .rd (.comp (.blt .tuple (.cons .rd (.var 8) .nil)) (.n 8) (.seq (.var 2)) .no [8]) .nil)) .nil)))) .nil)))))
def m_law_metric : Mir := runD [m_law_draw] cs 2 9 b_law_metric
def b_law : Ts := (.cons (.par [1, 2] (.cons .cel (.call 0 (.cons .dat (.var 0) (.cons .dat (.lit (.int 0)) .nil))) (.cons .cel (.call 0 (.cons .dat (.var 0) (.cons .dat (.lit (.int 1)) .nil))) .nil))) (.cons (.fr (.n 3) (.rng (.cons .rd (.lit (.int 4)) .nil)) (.cons (.ite (.nt (.call 1 (.cons .cel (.var 2) (.cons .dat (.call 2 (.cons .cel (.var 1) (.cons .dat (.bin .Add (.lit (.int 2)) (.call 3 (.cons .cel (.var 2) (.cons .dat (.lit (.int 6)) .nil)))) .nil))) .nil)))) (.cons (.ret (.lit (.bl false))) .nil) .nil) .nil)) (.cons (.ret (.lit (.bl true))) .nil)))
def m_law : Mir := runD [m_law_pot, m_law_one_right, m_law_metric, m_law_draw] cs 1 4 b_law
section
variable {P : Program} {w : World} {K : PySem.W.Frag} {mg : Str → Option Value} {base : Heap} {CX : CXT}
theorem sc_law_pot : FnScope ["script", "k", "cell", "mixed"] ["script", "k"] (defScope (top 58)) := ⟨rfl, rfl, rfl, by decide +kernel, rfl, by decide +kernel, by decide +kernel⟩
theorem ck_law_pot : chkTs (Ct.main ["script", "k", "cell", "mixed"] (defScope (top 58)) [] [] cnames true) b_law_pot (defBody (top 58)) = true := by decide +kernel
theorem ok_law_pot {f : Addr} {fd : FuncData} (tc : TopC mg K cnames cs true) (cx : CxOk P w K mg base CX) (F : Fun K "_law_pot" "_law_pot" (top 58) f fd)  : FnG P w K mg base CX 1 f fd ["script", "k"] (spOf K mg 2 m_law_pot) :=
  fnAt_mk (k := 0) F sc_law_pot tc cx (.nil) ck_law_pot rfl rfl
theorem sc_law_many : FnScope ["table"] ["table"] (defScope (top 70)) := ⟨rfl, rfl, rfl, by decide +kernel, rfl, by decide +kernel, by decide +kernel⟩
theorem ck_law_many : chkTs (Ct.main ["table"] (defScope (top 70)) [] [] cnames true) b_law_many (defBody (top 70)) = true := by decide +kernel
theorem ok_law_many {f : Addr} {fd : FuncData} (tc : TopC mg K cnames cs true) (cx : CxOk P w K mg base CX) (F : Fun K "_law_many" "_law_many" (top 70) f fd)  : FnG P w K mg base CX 1 f fd ["table"] (spOf K mg 1 m_law_many) :=
  fnAt_mk (k := 0) F sc_law_many tc cx (.nil) ck_law_many rfl rfl
theorem sc_law_draw : FnScope ["pot", "many", "digit"] ["pot", "many"] (defScope (top 59)) := ⟨rfl, rfl, rfl, by decide +kernel, rfl, by decide +kernel, by decide +kernel⟩
theorem ck_law_draw : chkTs (Ct.main ["pot", "many", "digit"] (defScope (top 59)) [] [] cnames true) b_law_draw (defBody (top 59)) = true := by decide +kernel
theorem ok_law_draw {f : Addr} {fd : FuncData} (tc : TopC mg K cnames cs true) (cx : CxOk P w K mg base CX) (F : Fun K "_law_draw" "_law_draw" (top 59) f fd)  : FnG P w K mg base CX 1 f fd ["pot", "many"] (spOf K mg 2 m_law_draw) :=
  fnAt_mk (k := 0) F sc_law_draw tc cx (.nil) ck_law_draw rfl rfl
theorem sc_law_made : FnScope ["top", "bottom", "one", "other", "sign"] ["top", "bottom"] (defScope (top 61)) := ⟨rfl, rfl, rfl, by decide +kernel, rfl, by decide +kernel, by decide +kernel⟩
theorem ck_law_made : chkTs (Ct.main ["top", "bottom", "one", "other", "sign"] (defScope (top 61)) [] [] cnames true) b_law_made (defBody (top 61)) = true := by decide +kernel
theorem ok_law_made {f : Addr} {fd : FuncData} (tc : TopC mg K cnames cs true) (cx : CxOk P w K mg base CX) (F : Fun K "_law_made" "_law_made" (top 61) f fd)  : FnG P w K mg base CX 1 f fd ["top", "bottom"] (spOf K mg 2 m_law_made) :=
  fnAt_mk (k := 0) F sc_law_made tc cx (.nil) ck_law_made rfl rfl
theorem sc_law_plus : FnScope ["one", "other"] ["one", "other"] (defScope (top 62)) := ⟨rfl, rfl, rfl, by decide +kernel, rfl, by decide +kernel, by decide +kernel⟩
theorem ck_law_plus : chkTs (Ct.main ["one", "other"] (defScope (top 62)) [("_law_made", ["top", "bottom"])] [[]] cnames true) b_law_plus (defBody (top 62)) = true := by decide +kernel
theorem ok_law_plus {f : Addr} {fd : FuncData} (tc : TopC mg K cnames cs true) (cx : CxOk P w K mg base CX) (F : Fun K "_law_plus" "_law_plus" (top 62) f fd) (c0 : FnAt P w K mg base CX 1 "_law_made" ["top", "bottom"] [] m_law_made) : FnG P w K mg base CX 2 f fd ["one", "other"] (spOf K mg 2 m_law_plus) :=
  fnAt_mk (k := 1) F sc_law_plus tc cx (.cons (c0.mono (by decide)) .nil) ck_law_plus rfl rfl
theorem sc_law_far : FnScope ["table", "one", "other"] ["table", "one", "other"] (defScope (top 68)) := ⟨rfl, rfl, rfl, by decide +kernel, rfl, by decide +kernel, by decide +kernel⟩
theorem ck_law_far : chkTs (Ct.main ["table", "one", "other"] (defScope (top 68)) [] [] cnames true) b_law_far (defBody (top 68)) = true := by decide +kernel
theorem ok_law_far {f : Addr} {fd : FuncData} (tc : TopC mg K cnames cs true) (cx : CxOk P w K mg base CX) (F : Fun K "_law_far" "_law_far" (top 68) f fd)  : FnG P w K mg base CX 1 f fd ["table", "one", "other"] (spOf K mg 3 m_law_far) :=
  fnAt_mk (k := 0) F sc_law_far tc cx (.nil) ck_law_far rfl rfl
theorem sc_law_numbers : FnScope ["pot", "table", "many", "at", "more", "found", "town"] ["pot", "table"] (defScope (top 74)) := ⟨rfl, rfl, rfl, by decide +kernel, rfl, by decide +kernel, by decide +kernel⟩
theorem ck_law_numbers : chkTs (Ct.main ["pot", "table", "many", "at", "more", "found", "town"] (defScope (top 74)) [("_law_many", ["table"]), ("_law_draw", ["pot", "many"]), ("_law_made", ["top", "bottom"]), ("_law_plus", ["one", "other"]), ("_law_far", ["table", "one", "other"])] [[], [], [], [], []] cnames true) b_law_numbers (defBody (top 74)) = true := by decide +kernel
theorem ok_law_numbers {f : Addr} {fd : FuncData} (tc : TopC mg K cnames cs true) (cx : CxOk P w K mg base CX) (F : Fun K "_law_numbers" "_law_numbers" (top 74) f fd) (c0 : FnAt P w K mg base CX 1 "_law_many" ["table"] [] m_law_many) (c1 : FnAt P w K mg base CX 1 "_law_draw" ["pot", "many"] [] m_law_draw) (c2 : FnAt P w K mg base CX 1 "_law_made" ["top", "bottom"] [] m_law_made) (c3 : FnAt P w K mg base CX 2 "_law_plus" ["one", "other"] [] m_law_plus) (c4 : FnAt P w K mg base CX 1 "_law_far" ["table", "one", "other"] [] m_law_far) : FnG P w K mg base CX 3 f fd ["pot", "table"] (spOf K mg 2 m_law_numbers) :=
  fnAt_mk (k := 2) F sc_law_numbers tc cx (.cons (c0.mono (by decide)) (.cons (c1.mono (by decide)) (.cons (c2.mono (by decide)) (.cons (c3.mono (by decide)) (.cons (c4.mono (by decide)) .nil))))) ck_law_numbers rfl rfl
theorem sc_law_minus : FnScope ["one", "other"] ["one", "other"] (defScope (top 63)) := ⟨rfl, rfl, rfl, by decide +kernel, rfl, by decide +kernel, by decide +kernel⟩
theorem ck_law_minus : chkTs (Ct.main ["one", "other"] (defScope (top 63)) [("_law_made", ["top", "bottom"])] [[]] cnames true) b_law_minus (defBody (top 63)) = true := by decide +kernel
theorem ok_law_minus {f : Addr} {fd : FuncData} (tc : TopC mg K cnames cs true) (cx : CxOk P w K mg base CX) (F : Fun K "_law_minus" "_law_minus" (top 63) f fd) (c0 : FnAt P w K mg base CX 1 "_law_made" ["top", "bottom"] [] m_law_made) : FnG P w K mg base CX 2 f fd ["one", "other"] (spOf K mg 2 m_law_minus) :=
  fnAt_mk (k := 1) F sc_law_minus tc cx (.cons (c0.mono (by decide)) .nil) ck_law_minus rfl rfl
theorem sc_law_less : FnScope ["one", "other"] ["one", "other"] (defScope (top 66)) := ⟨rfl, rfl, rfl, by decide +kernel, rfl, by decide +kernel, by decide +kernel⟩
theorem ck_law_less : chkTs (Ct.main ["one", "other"] (defScope (top 66)) [] [] cnames true) b_law_less (defBody (top 66)) = true := by decide +kernel
theorem ok_law_less {f : Addr} {fd : FuncData} (tc : TopC mg K cnames cs true) (cx : CxOk P w K mg base CX) (F : Fun K "_law_less" "_law_less" (top 66) f fd)  : FnG P w K mg base CX 1 f fd ["one", "other"] (spOf K mg 2 m_law_less) :=
  fnAt_mk (k := 0) F sc_law_less tc cx (.nil) ck_law_less rfl rfl
theorem sc_law_slack : FnScope ["table", "numbers", "town", "best", "other", "here"] ["table", "numbers", "town"] (defScope (top 71)) := ⟨rfl, rfl, rfl, by decide +kernel, rfl, by decide +kernel, by decide +kernel⟩
theorem ck_law_slack : chkTs (Ct.main ["table", "numbers", "town", "best", "other", "here"] (defScope (top 71)) [("_law_minus", ["one", "other"]), ("_law_plus", ["one", "other"]), ("_law_less", ["one", "other"]), ("_law_far", ["table", "one", "other"])] [[], [], [], []] cnames true) b_law_slack (defBody (top 71)) = true := by decide +kernel
theorem ok_law_slack {f : Addr} {fd : FuncData} (tc : TopC mg K cnames cs true) (cx : CxOk P w K mg base CX) (F : Fun K "_law_slack" "_law_slack" (top 71) f fd) (c0 : FnAt P w K mg base CX 2 "_law_minus" ["one", "other"] [] m_law_minus) (c1 : FnAt P w K mg base CX 2 "_law_plus" ["one", "other"] [] m_law_plus) (c2 : FnAt P w K mg base CX 1 "_law_less" ["one", "other"] [] m_law_less) (c3 : FnAt P w K mg base CX 1 "_law_far" ["table", "one", "other"] [] m_law_far) : FnG P w K mg base CX 3 f fd ["table", "numbers", "town"] (spOf K mg 3 m_law_slack) :=
  fnAt_mk (k := 2) F sc_law_slack tc cx (.cons (c0.mono (by decide)) (.cons (c1.mono (by decide)) (.cons (c2.mono (by decide)) (.cons (c3.mono (by decide)) .nil)))) ck_law_slack rfl rfl
theorem sc_law_lowered : FnScope ["table", "numbers", "found", "town"] ["table", "numbers"] (defScope (top 73)) := ⟨rfl, rfl, rfl, by decide +kernel, rfl, by decide +kernel, by decide +kernel⟩
theorem ck_law_lowered : chkTs (Ct.main ["table", "numbers", "found", "town"] (defScope (top 73)) [("_law_minus", ["one", "other"]), ("_law_slack", ["table", "numbers", "town"])] [[], []] cnames true) b_law_lowered (defBody (top 73)) = true := by decide +kernel
theorem ok_law_lowered {f : Addr} {fd : FuncData} (tc : TopC mg K cnames cs true) (cx : CxOk P w K mg base CX) (F : Fun K "_law_lowered" "_law_lowered" (top 73) f fd) (c0 : FnAt P w K mg base CX 2 "_law_minus" ["one", "other"] [] m_law_minus) (c1 : FnAt P w K mg base CX 3 "_law_slack" ["table", "numbers", "town"] [] m_law_slack) : FnG P w K mg base CX 4 f fd ["table", "numbers"] (spOf K mg 2 m_law_lowered) :=
  fnAt_mk (k := 3) F sc_law_lowered tc cx (.cons (c0.mono (by decide)) (.cons (c1.mono (by decide)) .nil)) ck_law_lowered rfl rfl
theorem sc_law_bent : FnScope ["pot", "numbers", "at", "found", "change", "one", "top", "bottom", "place"] ["pot", "numbers"] (defScope (top 78)) := ⟨rfl, rfl, rfl, by decide +kernel, rfl, by decide +kernel, by decide +kernel⟩
theorem ck_law_bent : chkTs (Ct.main ["pot", "numbers", "at", "found", "change", "one", "top", "bottom", "place"] (defScope (top 78)) [("_law_draw", ["pot", "many"]), ("_law_plus", ["one", "other"])] [[], []] cnames true) b_law_bent (defBody (top 78)) = true := by decide +kernel
theorem ok_law_bent {f : Addr} {fd : FuncData} (tc : TopC mg K cnames cs true) (cx : CxOk P w K mg base CX) (F : Fun K "_law_bent" "_law_bent" (top 78) f fd) (c0 : FnAt P w K mg base CX 1 "_law_draw" ["pot", "many"] [] m_law_draw) (c1 : FnAt P w K mg base CX 2 "_law_plus" ["one", "other"] [] m_law_plus) : FnG P w K mg base CX 3 f fd ["pot", "numbers"] (spOf K mg 2 m_law_bent) :=
  fnAt_mk (k := 2) F sc_law_bent tc cx (.cons (c0.mono (by decide)) (.cons (c1.mono (by decide)) .nil)) ck_law_bent rfl rfl
theorem sc_sizes_are_right : FnScope ["rows", "at", "row"] ["rows"] (defScope (top 21)) := ⟨rfl, rfl, rfl, by decide +kernel, rfl, by decide +kernel, by decide +kernel⟩
theorem ck_sizes_are_right : chkTs (Ct.main ["rows", "at", "row"] (defScope (top 21)) [] [] cnames true) b_sizes_are_right (defBody (top 21)) = true := by decide +kernel
theorem ok_sizes_are_right {f : Addr} {fd : FuncData} (tc : TopC mg K cnames cs true) (cx : CxOk P w K mg base CX) (F : Fun K "sizes_are_right" "sizes_are_right" (top 21) f fd)  : FnG P w K mg base CX 1 f fd ["rows"] (spOf K mg 1 m_sizes_are_right) :=
  fnAt_mk (k := 0) F sc_sizes_are_right tc cx (.nil) ck_sizes_are_right rfl rfl
theorem sc_is_integer : FnScope ["value"] ["value"] (defScope (top 3)) := ⟨rfl, rfl, rfl, by decide +kernel, rfl, by decide +kernel, by decide +kernel⟩
theorem ck_is_integer : chkTs (Ct.main ["value"] (defScope (top 3)) [] [] cnames true) b_is_integer (defBody (top 3)) = true := by decide +kernel
theorem ok_is_integer {f : Addr} {fd : FuncData} (tc : TopC mg K cnames cs true) (cx : CxOk P w K mg base CX) (F : Fun K "is_integer" "is_integer" (top 3) f fd)  : FnG P w K mg base CX 1 f fd ["value"] (spOf K mg 1 m_is_integer) :=
  fnAt_mk (k := 0) F sc_is_integer tc cx (.nil) ck_is_integer rfl rfl
theorem sc_is_count : FnScope ["value"] ["value"] (defScope (top 4)) := ⟨rfl, rfl, rfl, by decide +kernel, rfl, by decide +kernel, by decide +kernel⟩
theorem ck_is_count : chkTs (Ct.main ["value"] (defScope (top 4)) [("is_integer", ["value"])] [[]] cnames true) b_is_count (defBody (top 4)) = true := by decide +kernel
theorem ok_is_count {f : Addr} {fd : FuncData} (tc : TopC mg K cnames cs true) (cx : CxOk P w K mg base CX) (F : Fun K "is_count" "is_count" (top 4) f fd) (c0 : FnAt P w K mg base CX 1 "is_integer" ["value"] [] m_is_integer) : FnG P w K mg base CX 2 f fd ["value"] (spOf K mg 1 m_is_count) :=
  fnAt_mk (k := 1) F sc_is_count tc cx (.cons (c0.mono (by decide)) .nil) ck_is_count rfl rfl
theorem sc_flaw_of : FnScope ["value", "row", "far"] ["value"] (defScope (top 22)) := ⟨rfl, rfl, rfl, by decide +kernel, rfl, by decide +kernel, by decide +kernel⟩
theorem ck_flaw_of : chkTs (Ct.main ["value", "row", "far"] (defScope (top 22)) [("sizes_are_right", ["rows"]), ("is_count", ["value"])] [[], []] cnames true) b_flaw_of (defBody (top 22)) = true := by decide +kernel
theorem ok_flaw_of {f : Addr} {fd : FuncData} (tc : TopC mg K cnames cs true) (cx : CxOk P w K mg base CX) (F : Fun K "flaw_of" "flaw_of" (top 22) f fd) (c0 : FnAt P w K mg base CX 1 "sizes_are_right" ["rows"] [] m_sizes_are_right) (c1 : FnAt P w K mg base CX 2 "is_count" ["value"] [] m_is_count) : FnG P w K mg base CX 3 f fd ["value"] (spOf K mg 1 m_flaw_of) :=
  fnAt_mk (k := 2) F sc_flaw_of tc cx (.cons (c0.mono (by decide)) (.cons (c1.mono (by decide)) .nil)) ck_flaw_of rfl rfl
theorem sc_table_is_right : FnScope ["value"] ["value"] (defScope (top 23)) := ⟨rfl, rfl, rfl, by decide +kernel, rfl, by decide +kernel, by decide +kernel⟩
theorem ck_table_is_right : chkTs (Ct.main ["value"] (defScope (top 23)) [("flaw_of", ["value"])] [[]] cnames true) b_table_is_right (defBody (top 23)) = true := by decide +kernel
theorem ok_table_is_right {f : Addr} {fd : FuncData} (tc : TopC mg K cnames cs true) (cx : CxOk P w K mg base CX) (F : Fun K "table_is_right" "table_is_right" (top 23) f fd) (c0 : FnAt P w K mg base CX 3 "flaw_of" ["value"] [] m_flaw_of) : FnG P w K mg base CX 4 f fd ["value"] (spOf K mg 1 m_table_is_right) :=
  fnAt_mk (k := 3) F sc_table_is_right tc cx (.cons (c0.mono (by decide)) .nil) ck_table_is_right rfl rfl
theorem sc_is_table : FnScope ["value"] ["value"] (defScope (top 30)) := ⟨rfl, rfl, rfl, by decide +kernel, rfl, by decide +kernel, by decide +kernel⟩
theorem ck_is_table : chkTs (Ct.main ["value"] (defScope (top 30)) [("table_is_right", ["value"])] [[]] cnames true) b_is_table (defBody (top 30)) = true := by decide +kernel
theorem ok_is_table {f : Addr} {fd : FuncData} (tc : TopC mg K cnames cs true) (cx : CxOk P w K mg base CX) (F : Fun K "is_table" "is_table" (top 30) f fd) (c0 : FnAt P w K mg base CX 4 "table_is_right" ["value"] [] m_table_is_right) : FnG P w K mg base CX 5 f fd ["value"] (spOf K mg 1 m_is_table) :=
  fnAt_mk (k := 4) F sc_is_table tc cx (.cons (c0.mono (by decide)) .nil) ck_is_table rfl rfl
theorem sc_check_table_posts : FnScope ["table"] ["table"] (defScope (top 45)) := ⟨rfl, rfl, rfl, by decide +kernel, rfl, by decide +kernel, by decide +kernel⟩
theorem ck_check_table_posts : chkTs (Ct.main ["table"] (defScope (top 45)) [("is_table", ["value"])] [[]] cnames true) b_check_table_posts (defBody (top 45)) = true := by decide +kernel
theorem ok_check_table_posts {f : Addr} {fd : FuncData} (tc : TopC mg K cnames cs true) (cx : CxOk P w K mg base CX) (F : Fun K "check_table" "check_table" (top 45) f fd) (c0 : FnAt P w K mg base CX 5 "is_table" ["value"] [] m_is_table) : FnG P w K mg base CX 6 f fd ["table"] (spOf K mg 1 m_check_table_posts) :=
  fnAt_mk (k := 5) F sc_check_table_posts tc cx (.cons (c0.mono (by decide)) .nil) ck_check_table_posts rfl rfl
theorem sc_many_of_webs : FnScope ["table"] ["table"] (defScope (top 33)) := ⟨rfl, rfl, rfl, by decide +kernel, rfl, by decide +kernel, by decide +kernel⟩
theorem ck_many_of_webs : chkTs (Ct.main ["table"] (defScope (top 33)) [] [] cnames true) b_many_of_webs (defBody (top 33)) = true := by decide +kernel
theorem ok_many_of_webs {f : Addr} {fd : FuncData} (tc : TopC mg K cnames cs true) (cx : CxOk P w K mg base CX) (F : Fun K "many_of" "many_of" (top 33) f fd)  : FnG P w K mg base CX 1 f fd ["table"] (spOf K mg 1 m_many_of_webs) :=
  fnAt_mk (k := 0) F sc_many_of_webs tc cx (.nil) ck_many_of_webs rfl rfl
theorem sc_is_list : FnScope ["value"] ["value"] (defScope (top 2)) := ⟨rfl, rfl, rfl, by decide +kernel, rfl, by decide +kernel, by decide +kernel⟩
theorem ck_is_list : chkTs (Ct.main ["value"] (defScope (top 2)) [] [] cnames true) b_is_list (defBody (top 2)) = true := by decide +kernel
theorem ok_is_list {f : Addr} {fd : FuncData} (tc : TopC mg K cnames cs true) (cx : CxOk P w K mg base CX) (F : Fun K "is_list" "is_list" (top 2) f fd)  : FnG P w K mg base CX 1 f fd ["value"] (spOf K mg 1 m_is_list) :=
  fnAt_mk (k := 0) F sc_is_list tc cx (.nil) ck_is_list rfl rfl
theorem sc_is_ratio : FnScope ["value", "one"] ["value"] (defScope (top 5)) := ⟨rfl, rfl, rfl, by decide +kernel, rfl, by decide +kernel, by decide +kernel⟩
theorem ck_is_ratio : chkTs (Ct.main ["value", "one"] (defScope (top 5)) [("is_integer", ["value"])] [[]] cnames true) b_is_ratio (defBody (top 5)) = true := by decide +kernel
theorem ok_is_ratio {f : Addr} {fd : FuncData} (tc : TopC mg K cnames cs true) (cx : CxOk P w K mg base CX) (F : Fun K "is_ratio" "is_ratio" (top 5) f fd) (c0 : FnAt P w K mg base CX 1 "is_integer" ["value"] [] m_is_integer) : FnG P w K mg base CX 2 f fd ["value"] (spOf K mg 1 m_is_ratio) :=
  fnAt_mk (k := 1) F sc_is_ratio tc cx (.cons (c0.mono (by decide)) .nil) ck_is_ratio rfl rfl
theorem sc_made : FnScope ["top", "bottom", "part"] ["top", "bottom"] (defScope (top 14)) := ⟨rfl, rfl, rfl, by decide +kernel, rfl, by decide +kernel, by decide +kernel⟩
theorem ck_made : chkTs (Ct.main ["top", "bottom", "part"] (defScope (top 14)) [] [] cnames true) b_made (defBody (top 14)) = true := by decide +kernel
theorem ok_made {f : Addr} {fd : FuncData} (tc : TopC mg K cnames cs true) (cx : CxOk P w K mg base CX) (F : Fun K "made" "made" (top 14) f fd)  : FnG P w K mg base CX 1 f fd ["top", "bottom"] (spOf K mg 2 m_made) :=
  fnAt_mk (k := 0) F sc_made tc cx (.nil) ck_made rfl rfl
theorem sc_r_minus : FnScope ["one", "other"] ["one", "other"] (defScope (top 16)) := ⟨rfl, rfl, rfl, by decide +kernel, rfl, by decide +kernel, by decide +kernel⟩
theorem ck_r_minus : chkTs (Ct.main ["one", "other"] (defScope (top 16)) [("made", ["top", "bottom"])] [[]] cnames true) b_r_minus (defBody (top 16)) = true := by decide +kernel
theorem ok_r_minus {f : Addr} {fd : FuncData} (tc : TopC mg K cnames cs true) (cx : CxOk P w K mg base CX) (F : Fun K "r_minus" "r_minus" (top 16) f fd) (c0 : FnAt P w K mg base CX 1 "made" ["top", "bottom"] [] m_made) : FnG P w K mg base CX 2 f fd ["one", "other"] (spOf K mg 2 m_r_minus) :=
  fnAt_mk (k := 1) F sc_r_minus tc cx (.cons (c0.mono (by decide)) .nil) ck_r_minus rfl rfl
theorem sc_r_plus : FnScope ["one", "other"] ["one", "other"] (defScope (top 15)) := ⟨rfl, rfl, rfl, by decide +kernel, rfl, by decide +kernel, by decide +kernel⟩
theorem ck_r_plus : chkTs (Ct.main ["one", "other"] (defScope (top 15)) [("made", ["top", "bottom"])] [[]] cnames true) b_r_plus (defBody (top 15)) = true := by decide +kernel
theorem ok_r_plus {f : Addr} {fd : FuncData} (tc : TopC mg K cnames cs true) (cx : CxOk P w K mg base CX) (F : Fun K "r_plus" "r_plus" (top 15) f fd) (c0 : FnAt P w K mg base CX 1 "made" ["top", "bottom"] [] m_made) : FnG P w K mg base CX 2 f fd ["one", "other"] (spOf K mg 2 m_r_plus) :=
  fnAt_mk (k := 1) F sc_r_plus tc cx (.cons (c0.mono (by decide)) .nil) ck_r_plus rfl rfl
theorem sc_far : FnScope ["table", "one", "other"] ["table", "one", "other"] (defScope (top 35)) := ⟨rfl, rfl, rfl, by decide +kernel, rfl, by decide +kernel, by decide +kernel⟩
theorem ck_far : chkTs (Ct.main ["table", "one", "other"] (defScope (top 35)) [] [] cnames true) b_far (defBody (top 35)) = true := by decide +kernel
theorem ok_far {f : Addr} {fd : FuncData} (tc : TopC mg K cnames cs true) (cx : CxOk P w K mg base CX) (F : Fun K "far" "far" (top 35) f fd)  : FnG P w K mg base CX 1 f fd ["table", "one", "other"] (spOf K mg 3 m_far) :=
  fnAt_mk (k := 0) F sc_far tc cx (.nil) ck_far rfl rfl
theorem sc_slack_of : FnScope ["table", "numbers", "one", "other"] ["table", "numbers", "one", "other"] (defScope (top 38)) := ⟨rfl, rfl, rfl, by decide +kernel, rfl, by decide +kernel, by decide +kernel⟩
theorem ck_slack_of : chkTs (Ct.main ["table", "numbers", "one", "other"] (defScope (top 38)) [("r_minus", ["one", "other"]), ("r_plus", ["one", "other"]), ("far", ["table", "one", "other"])] [[], [], []] cnames true) b_slack_of (defBody (top 38)) = true := by decide +kernel
theorem ok_slack_of {f : Addr} {fd : FuncData} (tc : TopC mg K cnames cs true) (cx : CxOk P w K mg base CX) (F : Fun K "slack_of" "slack_of" (top 38) f fd) (c0 : FnAt P w K mg base CX 2 "r_minus" ["one", "other"] [] m_r_minus) (c1 : FnAt P w K mg base CX 2 "r_plus" ["one", "other"] [] m_r_plus) (c2 : FnAt P w K mg base CX 1 "far" ["table", "one", "other"] [] m_far) : FnG P w K mg base CX 3 f fd ["table", "numbers", "one", "other"] (spOf K mg 4 m_slack_of) :=
  fnAt_mk (k := 2) F sc_slack_of tc cx (.cons (c0.mono (by decide)) (.cons (c1.mono (by decide)) (.cons (c2.mono (by decide)) .nil))) ck_slack_of rfl rfl
theorem sc_numbers_are_right : FnScope ["table", "value", "many", "one", "other"] ["table", "value"] (defScope (top 42)) := ⟨rfl, rfl, rfl, by decide +kernel, rfl, by decide +kernel, by decide +kernel⟩
theorem ck_numbers_are_right : chkTs (Ct.main ["table", "value", "many", "one", "other"] (defScope (top 42)) [("many_of_webs", ["table"]), ("is_list", ["value"]), ("is_ratio", ["value"]), ("slack_of", ["table", "numbers", "one", "other"])] [[], [], [], []] cnames true) b_numbers_are_right (defBody (top 42)) = true := by decide +kernel
theorem ok_numbers_are_right {f : Addr} {fd : FuncData} (tc : TopC mg K cnames cs true) (cx : CxOk P w K mg base CX) (F : Fun K "numbers_are_right" "numbers_are_right" (top 42) f fd) (c0 : FnAt P w K mg base CX 1 "many_of_webs" ["table"] [] m_many_of_webs) (c1 : FnAt P w K mg base CX 1 "is_list" ["value"] [] m_is_list) (c2 : FnAt P w K mg base CX 2 "is_ratio" ["value"] [] m_is_ratio) (c3 : FnAt P w K mg base CX 3 "slack_of" ["table", "numbers", "one", "other"] [] m_slack_of) : FnG P w K mg base CX 4 f fd ["table", "value"] (spOf K mg 2 m_numbers_are_right) :=
  fnAt_mk (k := 3) F sc_numbers_are_right tc cx (.cons (c0.mono (by decide)) (.cons (c1.mono (by decide)) (.cons (c2.mono (by decide)) (.cons (c3.mono (by decide)) .nil)))) ck_numbers_are_right rfl rfl
theorem sc_check_numbers : FnScope ["table", "numbers"] ["table", "numbers"] (defScope (top 50)) := ⟨rfl, rfl, rfl, by decide +kernel, rfl, by decide +kernel, by decide +kernel⟩
theorem ck_check_numbers : chkTs (Ct.main ["table", "numbers"] (defScope (top 50)) [("check_table_posts", ["table"]), ("numbers_are_right", ["table", "value"])] [[], []] cnames true) b_check_numbers (defBody (top 50)) = true := by decide +kernel
theorem ok_check_numbers {f : Addr} {fd : FuncData} (tc : TopC mg K cnames cs true) (cx : CxOk P w K mg base CX) (F : Fun K "check_numbers" "check_numbers" (top 50) f fd) (c0 : FnAt P w K mg base CX 6 "check_table_posts" ["table"] [] m_check_table_posts) (c1 : FnAt P w K mg base CX 4 "numbers_are_right" ["table", "value"] [] m_numbers_are_right) : FnG P w K mg base CX 7 f fd ["table", "numbers"] (spOf K mg 2 m_check_numbers) :=
  fnAt_mk (k := 6) F sc_check_numbers tc cx (.cons (c0.mono (by decide)) (.cons (c1.mono (by decide)) .nil)) ck_check_numbers rfl rfl
theorem sc_is_town : FnScope ["table", "value"] ["table", "value"] (defScope (top 48)) := ⟨rfl, rfl, rfl, by decide +kernel, rfl, by decide +kernel, by decide +kernel⟩
theorem ck_is_town : chkTs (Ct.main ["table", "value"] (defScope (top 48)) [("is_integer", ["value"]), ("many_of_webs", ["table"])] [[], []] cnames true) b_is_town (defBody (top 48)) = true := by decide +kernel
theorem ok_is_town {f : Addr} {fd : FuncData} (tc : TopC mg K cnames cs true) (cx : CxOk P w K mg base CX) (F : Fun K "is_town" "is_town" (top 48) f fd) (c0 : FnAt P w K mg base CX 1 "is_integer" ["value"] [] m_is_integer) (c1 : FnAt P w K mg base CX 1 "many_of_webs" ["table"] [] m_many_of_webs) : FnG P w K mg base CX 2 f fd ["table", "value"] (spOf K mg 2 m_is_town) :=
  fnAt_mk (k := 1) F sc_is_town tc cx (.cons (c0.mono (by decide)) (.cons (c1.mono (by decide)) .nil)) ck_is_town rfl rfl
theorem sc_check_town : FnScope ["table", "town"] ["table", "town"] (defScope (top 49)) := ⟨rfl, rfl, rfl, by decide +kernel, rfl, by decide +kernel, by decide +kernel⟩
theorem ck_check_town : chkTs (Ct.main ["table", "town"] (defScope (top 49)) [("is_town", ["table", "value"])] [[]] cnames true) b_check_town (defBody (top 49)) = true := by decide +kernel
theorem ok_check_town {f : Addr} {fd : FuncData} (tc : TopC mg K cnames cs true) (cx : CxOk P w K mg base CX) (F : Fun K "check_town" "check_town" (top 49) f fd) (c0 : FnAt P w K mg base CX 2 "is_town" ["table", "value"] [] m_is_town) : FnG P w K mg base CX 3 f fd ["table", "town"] (spOf K mg 2 m_check_town) :=
  fnAt_mk (k := 2) F sc_check_town tc cx (.cons (c0.mono (by decide)) .nil) ck_check_town rfl rfl
theorem sc_check_table_tables : FnScope ["table"] ["table"] (defScope (top 28)) := ⟨rfl, rfl, rfl, by decide +kernel, rfl, by decide +kernel, by decide +kernel⟩
theorem ck_check_table_tables : chkTs (Ct.main ["table"] (defScope (top 28)) [("table_is_right", ["value"])] [[]] cnames true) b_check_table_tables (defBody (top 28)) = true := by decide +kernel
theorem ok_check_table_tables {f : Addr} {fd : FuncData} (tc : TopC mg K cnames cs true) (cx : CxOk P w K mg base CX) (F : Fun K "check_table" "check_table" (top 28) f fd) (c0 : FnAt P w K mg base CX 4 "table_is_right" ["value"] [] m_table_is_right) : FnG P w K mg base CX 5 f fd ["table"] (spOf K mg 1 m_check_table_tables) :=
  fnAt_mk (k := 4) F sc_check_table_tables tc cx (.cons (c0.mono (by decide)) .nil) ck_check_table_tables rfl rfl
theorem sc_many_of_tables : FnScope ["table"] ["table"] (defScope (top 24)) := ⟨rfl, rfl, rfl, by decide +kernel, rfl, by decide +kernel, by decide +kernel⟩
theorem ck_many_of_tables : chkTs (Ct.main ["table"] (defScope (top 24)) [] [] cnames true) b_many_of_tables (defBody (top 24)) = true := by decide +kernel
theorem ok_many_of_tables {f : Addr} {fd : FuncData} (tc : TopC mg K cnames cs true) (cx : CxOk P w K mg base CX) (F : Fun K "many_of" "many_of" (top 24) f fd)  : FnG P w K mg base CX 1 f fd ["table"] (spOf K mg 1 m_many_of_tables) :=
  fnAt_mk (k := 0) F sc_many_of_tables tc cx (.nil) ck_many_of_tables rfl rfl
theorem sc_far_of : FnScope ["table", "one", "other"] ["table", "one", "other"] (defScope (top 26)) := ⟨rfl, rfl, rfl, by decide +kernel, rfl, by decide +kernel, by decide +kernel⟩
theorem ck_far_of : chkTs (Ct.main ["table", "one", "other"] (defScope (top 26)) [] [] cnames true) b_far_of (defBody (top 26)) = true := by decide +kernel
theorem ok_far_of {f : Addr} {fd : FuncData} (tc : TopC mg K cnames cs true) (cx : CxOk P w K mg base CX) (F : Fun K "far_of" "far_of" (top 26) f fd)  : FnG P w K mg base CX 1 f fd ["table", "one", "other"] (spOf K mg 3 m_far_of) :=
  fnAt_mk (k := 0) F sc_far_of tc cx (.nil) ck_far_of rfl rfl
theorem sc_short_of : FnScope ["table", "every", "one", "stop", "other"] ["table"] (defScope (top 27)) := ⟨rfl, rfl, rfl, by decide +kernel, rfl, by decide +kernel, by decide +kernel⟩
theorem ck_short_of : chkTs (Ct.main ["table", "every", "one", "stop", "other"] (defScope (top 27)) [("many_of_tables", ["table"]), ("far_of", ["table", "one", "other"])] [[], []] cnames true) b_short_of (defBody (top 27)) = true := by decide +kernel
theorem ok_short_of {f : Addr} {fd : FuncData} (tc : TopC mg K cnames cs true) (cx : CxOk P w K mg base CX) (F : Fun K "short_of" "short_of" (top 27) f fd) (c0 : FnAt P w K mg base CX 1 "many_of_tables" ["table"] [] m_many_of_tables) (c1 : FnAt P w K mg base CX 1 "far_of" ["table", "one", "other"] [] m_far_of) : FnG P w K mg base CX 2 f fd ["table"] (spOf K mg 1 m_short_of) :=
  fnAt_mk (k := 1) F sc_short_of tc cx (.cons (c0.mono (by decide)) (.cons (c1.mono (by decide)) .nil)) ck_short_of rfl rfl
theorem sc_short_triple : FnScope ["table"] ["table"] (defScope (top 31)) := ⟨rfl, rfl, rfl, by decide +kernel, rfl, by decide +kernel, by decide +kernel⟩
theorem ck_short_triple : chkTs (Ct.main ["table"] (defScope (top 31)) [("check_table_tables", ["table"]), ("short_of", ["table"])] [[], []] cnames true) b_short_triple (defBody (top 31)) = true := by decide +kernel
theorem ok_short_triple {f : Addr} {fd : FuncData} (tc : TopC mg K cnames cs true) (cx : CxOk P w K mg base CX) (F : Fun K "short_triple" "short_triple" (top 31) f fd) (c0 : FnAt P w K mg base CX 5 "check_table_tables" ["table"] [] m_check_table_tables) (c1 : FnAt P w K mg base CX 2 "short_of" ["table"] [] m_short_of) : FnG P w K mg base CX 6 f fd ["table"] (spOf K mg 1 m_short_triple) :=
  fnAt_mk (k := 5) F sc_short_triple tc cx (.cons (c0.mono (by decide)) (.cons (c1.mono (by decide)) .nil)) ck_short_triple rfl rfl
theorem sc_check_metric : FnScope ["table", "way"] ["table"] (defScope (top 47)) := ⟨rfl, rfl, rfl, by decide +kernel, rfl, by decide +kernel, by decide +kernel⟩
theorem ck_check_metric : chkTs (Ct.main ["table", "way"] (defScope (top 47)) [("short_triple", ["table"])] [[]] cnames true) b_check_metric (defBody (top 47)) = true := by decide +kernel
theorem ok_check_metric {f : Addr} {fd : FuncData} (tc : TopC mg K cnames cs true) (cx : CxOk P w K mg base CX) (F : Fun K "check_metric" "check_metric" (top 47) f fd) (c0 : FnAt P w K mg base CX 6 "short_triple" ["table"] [] m_short_triple) : FnG P w K mg base CX 7 f fd ["table"] (spOf K mg 1 m_check_metric) :=
  fnAt_mk (k := 6) F sc_check_metric tc cx (.cons (c0.mono (by decide)) .nil) ck_check_metric rfl rfl
theorem sc_r_less : FnScope ["one", "other"] ["one", "other"] (defScope (top 17)) := ⟨rfl, rfl, rfl, by decide +kernel, rfl, by decide +kernel, by decide +kernel⟩
theorem ck_r_less : chkTs (Ct.main ["one", "other"] (defScope (top 17)) [] [] cnames true) b_r_less (defBody (top 17)) = true := by decide +kernel
theorem ok_r_less {f : Addr} {fd : FuncData} (tc : TopC mg K cnames cs true) (cx : CxOk P w K mg base CX) (F : Fun K "r_less" "r_less" (top 17) f fd)  : FnG P w K mg base CX 1 f fd ["one", "other"] (spOf K mg 2 m_r_less) :=
  fnAt_mk (k := 0) F sc_r_less tc cx (.nil) ck_r_less rfl rfl
theorem sc_lose_of : FnScope ["table", "numbers", "town", "found", "other", "much"] ["table", "numbers", "town"] (defScope (top 39)) := ⟨rfl, rfl, rfl, by decide +kernel, rfl, by decide +kernel, by decide +kernel⟩
theorem ck_lose_of : chkTs (Ct.main ["table", "numbers", "town", "found", "other", "much"] (defScope (top 39)) [("slack_of", ["table", "numbers", "one", "other"]), ("r_less", ["one", "other"])] [[], []] cnames true) b_lose_of (defBody (top 39)) = true := by decide +kernel
theorem ok_lose_of {f : Addr} {fd : FuncData} (tc : TopC mg K cnames cs true) (cx : CxOk P w K mg base CX) (F : Fun K "lose_of" "lose_of" (top 39) f fd) (c0 : FnAt P w K mg base CX 3 "slack_of" ["table", "numbers", "one", "other"] [] m_slack_of) (c1 : FnAt P w K mg base CX 1 "r_less" ["one", "other"] [] m_r_less) : FnG P w K mg base CX 4 f fd ["table", "numbers", "town"] (spOf K mg 3 m_lose_of) :=
  fnAt_mk (k := 3) F sc_lose_of tc cx (.cons (c0.mono (by decide)) (.cons (c1.mono (by decide)) .nil)) ck_lose_of rfl rfl
theorem sc_can_lose : FnScope ["table", "numbers", "town"] ["table", "numbers", "town"] (defScope (top 55)) := ⟨rfl, rfl, rfl, by decide +kernel, rfl, by decide +kernel, by decide +kernel⟩
theorem ck_can_lose : chkTs (Ct.main ["table", "numbers", "town"] (defScope (top 55)) [("check_numbers", ["table", "numbers"]), ("check_town", ["table", "town"]), ("check_metric", ["table"]), ("lose_of", ["table", "numbers", "town"])] [[], [], [], []] cnames true) b_can_lose (defBody (top 55)) = true := by decide +kernel
theorem ok_can_lose {f : Addr} {fd : FuncData} (tc : TopC mg K cnames cs true) (cx : CxOk P w K mg base CX) (F : Fun K "can_lose" "can_lose" (top 55) f fd) (c0 : FnAt P w K mg base CX 7 "check_numbers" ["table", "numbers"] [] m_check_numbers) (c1 : FnAt P w K mg base CX 3 "check_town" ["table", "town"] [] m_check_town) (c2 : FnAt P w K mg base CX 7 "check_metric" ["table"] [] m_check_metric) (c3 : FnAt P w K mg base CX 4 "lose_of" ["table", "numbers", "town"] [] m_lose_of) : FnG P w K mg base CX 8 f fd ["table", "numbers", "town"] (spOf K mg 3 m_can_lose) :=
  fnAt_mk (k := 7) F sc_can_lose tc cx (.cons (c0.mono (by decide)) (.cons (c1.mono (by decide)) (.cons (c2.mono (by decide)) (.cons (c3.mono (by decide)) .nil)))) ck_can_lose rfl rfl
theorem sc_law_is_ratio : FnScope ["value", "one"] ["value"] (defScope (top 75)) := ⟨rfl, rfl, rfl, by decide +kernel, rfl, by decide +kernel, by decide +kernel⟩
theorem ck_law_is_ratio : chkTs (Ct.main ["value", "one"] (defScope (top 75)) [("_law_made", ["top", "bottom"])] [[]] cnames true) b_law_is_ratio (defBody (top 75)) = true := by decide +kernel
theorem ok_law_is_ratio {f : Addr} {fd : FuncData} (tc : TopC mg K cnames cs true) (cx : CxOk P w K mg base CX) (F : Fun K "_law_is_ratio" "_law_is_ratio" (top 75) f fd) (c0 : FnAt P w K mg base CX 1 "_law_made" ["top", "bottom"] [] m_law_made) : FnG P w K mg base CX 2 f fd ["value"] (spOf K mg 1 m_law_is_ratio) :=
  fnAt_mk (k := 1) F sc_law_is_ratio tc cx (.cons (c0.mono (by decide)) .nil) ck_law_is_ratio rfl rfl
theorem sc_law_enough : FnScope ["table", "numbers", "town"] ["table", "numbers"] (defScope (top 72)) := ⟨rfl, rfl, rfl, by decide +kernel, rfl, by decide +kernel, by decide +kernel⟩
theorem ck_law_enough : chkTs (Ct.main ["table", "numbers", "town"] (defScope (top 72)) [("_law_slack", ["table", "numbers", "town"])] [[]] cnames true) b_law_enough (defBody (top 72)) = true := by decide +kernel
theorem ok_law_enough {f : Addr} {fd : FuncData} (tc : TopC mg K cnames cs true) (cx : CxOk P w K mg base CX) (F : Fun K "_law_enough" "_law_enough" (top 72) f fd) (c0 : FnAt P w K mg base CX 3 "_law_slack" ["table", "numbers", "town"] [] m_law_slack) : FnG P w K mg base CX 4 f fd ["table", "numbers"] (spOf K mg 2 m_law_enough) :=
  fnAt_mk (k := 3) F sc_law_enough tc cx (.cons (c0.mono (by decide)) .nil) ck_law_enough rfl rfl
theorem sc_law_size : FnScope ["number"] ["number"] (defScope (top 77)) := ⟨rfl, rfl, rfl, by decide +kernel, rfl, by decide +kernel, by decide +kernel⟩
theorem ck_law_size : chkTs (Ct.main ["number"] (defScope (top 77)) [] [] cnames true) b_law_size (defBody (top 77)) = true := by decide +kernel
theorem ok_law_size {f : Addr} {fd : FuncData} (tc : TopC mg K cnames cs true) (cx : CxOk P w K mg base CX) (F : Fun K "_law_size" "_law_size" (top 77) f fd)  : FnG P w K mg base CX 1 f fd ["number"] (spOf K mg 1 m_law_size) :=
  fnAt_mk (k := 0) F sc_law_size tc cx (.nil) ck_law_size rfl rfl
theorem sc_law_says : FnScope ["table", "value", "firm", "near", "town", "other", "one"] ["table", "value"] (defScope (top 76)) := ⟨rfl, rfl, rfl, by decide +kernel, rfl, by decide +kernel, by decide +kernel⟩
theorem ck_law_says : chkTs (Ct.main ["table", "value", "firm", "near", "town", "other", "one"] (defScope (top 76)) [("_law_many", ["table"]), ("_law_is_ratio", ["value"]), ("_law_enough", ["table", "numbers"]), ("_law_slack", ["table", "numbers", "town"]), ("_law_less", ["one", "other"]), ("_law_size", ["number"]), ("_law_far", ["table", "one", "other"]), ("_law_minus", ["one", "other"])] [[], [], [], [], [], [], [], []] cnames true) b_law_says (defBody (top 76)) = true := by decide +kernel
theorem ok_law_says {f : Addr} {fd : FuncData} (tc : TopC mg K cnames cs true) (cx : CxOk P w K mg base CX) (F : Fun K "_law_says" "_law_says" (top 76) f fd) (c0 : FnAt P w K mg base CX 1 "_law_many" ["table"] [] m_law_many) (c1 : FnAt P w K mg base CX 2 "_law_is_ratio" ["value"] [] m_law_is_ratio) (c2 : FnAt P w K mg base CX 4 "_law_enough" ["table", "numbers"] [] m_law_enough) (c3 : FnAt P w K mg base CX 3 "_law_slack" ["table", "numbers", "town"] [] m_law_slack) (c4 : FnAt P w K mg base CX 1 "_law_less" ["one", "other"] [] m_law_less) (c5 : FnAt P w K mg base CX 1 "_law_size" ["number"] [] m_law_size) (c6 : FnAt P w K mg base CX 1 "_law_far" ["table", "one", "other"] [] m_law_far) (c7 : FnAt P w K mg base CX 2 "_law_minus" ["one", "other"] [] m_law_minus) : FnG P w K mg base CX 5 f fd ["table", "value"] (spOf K mg 2 m_law_says) :=
  fnAt_mk (k := 4) F sc_law_says tc cx (.cons (c0.mono (by decide)) (.cons (c1.mono (by decide)) (.cons (c2.mono (by decide)) (.cons (c3.mono (by decide)) (.cons (c4.mono (by decide)) (.cons (c5.mono (by decide)) (.cons (c6.mono (by decide)) (.cons (c7.mono (by decide)) .nil)))))))) ck_law_says rfl rfl
theorem sc_lowered_by : FnScope ["table", "numbers", "found", "town"] ["table", "numbers"] (defScope (top 40)) := ⟨rfl, rfl, rfl, by decide +kernel, rfl, by decide +kernel, by decide +kernel⟩
theorem ck_lowered_by : chkTs (Ct.main ["table", "numbers", "found", "town"] (defScope (top 40)) [("r_minus", ["one", "other"]), ("lose_of", ["table", "numbers", "town"])] [[], []] cnames true) b_lowered_by (defBody (top 40)) = true := by decide +kernel
theorem ok_lowered_by {f : Addr} {fd : FuncData} (tc : TopC mg K cnames cs true) (cx : CxOk P w K mg base CX) (F : Fun K "lowered_by" "lowered_by" (top 40) f fd) (c0 : FnAt P w K mg base CX 2 "r_minus" ["one", "other"] [] m_r_minus) (c1 : FnAt P w K mg base CX 4 "lose_of" ["table", "numbers", "town"] [] m_lose_of) : FnG P w K mg base CX 5 f fd ["table", "numbers"] (spOf K mg 2 m_lowered_by) :=
  fnAt_mk (k := 4) F sc_lowered_by tc cx (.cons (c0.mono (by decide)) (.cons (c1.mono (by decide)) .nil)) ck_lowered_by rfl rfl
theorem sc_lowered : FnScope ["table", "numbers"] ["table", "numbers"] (defScope (top 56)) := ⟨rfl, rfl, rfl, by decide +kernel, rfl, by decide +kernel, by decide +kernel⟩
theorem ck_lowered : chkTs (Ct.main ["table", "numbers"] (defScope (top 56)) [("check_numbers", ["table", "numbers"]), ("check_metric", ["table"]), ("lowered_by", ["table", "numbers"])] [[], [], []] cnames true) b_lowered (defBody (top 56)) = true := by decide +kernel
theorem ok_lowered {f : Addr} {fd : FuncData} (tc : TopC mg K cnames cs true) (cx : CxOk P w K mg base CX) (F : Fun K "lowered" "lowered" (top 56) f fd) (c0 : FnAt P w K mg base CX 7 "check_numbers" ["table", "numbers"] [] m_check_numbers) (c1 : FnAt P w K mg base CX 7 "check_metric" ["table"] [] m_check_metric) (c2 : FnAt P w K mg base CX 5 "lowered_by" ["table", "numbers"] [] m_lowered_by) : FnG P w K mg base CX 8 f fd ["table", "numbers"] (spOf K mg 2 m_lowered) :=
  fnAt_mk (k := 7) F sc_lowered tc cx (.cons (c0.mono (by decide)) (.cons (c1.mono (by decide)) (.cons (c2.mono (by decide)) .nil))) ck_lowered rfl rfl
theorem sc_are_enough : FnScope ["table", "value"] ["table", "value"] (defScope (top 51)) := ⟨rfl, rfl, rfl, by decide +kernel, rfl, by decide +kernel, by decide +kernel⟩
theorem ck_are_enough : chkTs (Ct.main ["table", "value"] (defScope (top 51)) [("check_table_posts", ["table"]), ("check_metric", ["table"]), ("numbers_are_right", ["table", "value"])] [[], [], []] cnames true) b_are_enough (defBody (top 51)) = true := by decide +kernel
theorem ok_are_enough {f : Addr} {fd : FuncData} (tc : TopC mg K cnames cs true) (cx : CxOk P w K mg base CX) (F : Fun K "are_enough" "are_enough" (top 51) f fd) (c0 : FnAt P w K mg base CX 6 "check_table_posts" ["table"] [] m_check_table_posts) (c1 : FnAt P w K mg base CX 7 "check_metric" ["table"] [] m_check_metric) (c2 : FnAt P w K mg base CX 4 "numbers_are_right" ["table", "value"] [] m_numbers_are_right) : FnG P w K mg base CX 8 f fd ["table", "value"] (spOf K mg 2 m_are_enough) :=
  fnAt_mk (k := 7) F sc_are_enough tc cx (.cons (c0.mono (by decide)) (.cons (c1.mono (by decide)) (.cons (c2.mono (by decide)) .nil))) ck_are_enough rfl rfl
theorem sc_loose_of : FnScope ["table", "numbers", "some", "town"] ["table", "numbers"] (defScope (top 41)) := ⟨rfl, rfl, rfl, by decide +kernel, rfl, by decide +kernel, by decide +kernel⟩
theorem ck_loose_of : chkTs (Ct.main ["table", "numbers", "some", "town"] (defScope (top 41)) [("lose_of", ["table", "numbers", "town"])] [[]] cnames true) b_loose_of (defBody (top 41)) = true := by decide +kernel
theorem ok_loose_of {f : Addr} {fd : FuncData} (tc : TopC mg K cnames cs true) (cx : CxOk P w K mg base CX) (F : Fun K "loose_of" "loose_of" (top 41) f fd) (c0 : FnAt P w K mg base CX 4 "lose_of" ["table", "numbers", "town"] [] m_lose_of) : FnG P w K mg base CX 5 f fd ["table", "numbers"] (spOf K mg 2 m_loose_of) :=
  fnAt_mk (k := 4) F sc_loose_of tc cx (.cons (c0.mono (by decide)) .nil) ck_loose_of rfl rfl
theorem sc_post_is_right : FnScope ["table", "value"] ["table", "value"] (defScope (top 43)) := ⟨rfl, rfl, rfl, by decide +kernel, rfl, by decide +kernel, by decide +kernel⟩
theorem ck_post_is_right : chkTs (Ct.main ["table", "value"] (defScope (top 43)) [("numbers_are_right", ["table", "value"]), ("loose_of", ["table", "numbers"])] [[], []] cnames true) b_post_is_right (defBody (top 43)) = true := by decide +kernel
theorem ok_post_is_right {f : Addr} {fd : FuncData} (tc : TopC mg K cnames cs true) (cx : CxOk P w K mg base CX) (F : Fun K "post_is_right" "post_is_right" (top 43) f fd) (c0 : FnAt P w K mg base CX 4 "numbers_are_right" ["table", "value"] [] m_numbers_are_right) (c1 : FnAt P w K mg base CX 5 "loose_of" ["table", "numbers"] [] m_loose_of) : FnG P w K mg base CX 6 f fd ["table", "value"] (spOf K mg 2 m_post_is_right) :=
  fnAt_mk (k := 5) F sc_post_is_right tc cx (.cons (c0.mono (by decide)) (.cons (c1.mono (by decide)) .nil)) ck_post_is_right rfl rfl
theorem sc_is_post : FnScope ["table", "value"] ["table", "value"] (defScope (top 52)) := ⟨rfl, rfl, rfl, by decide +kernel, rfl, by decide +kernel, by decide +kernel⟩
theorem ck_is_post : chkTs (Ct.main ["table", "value"] (defScope (top 52)) [("check_table_posts", ["table"]), ("check_metric", ["table"]), ("post_is_right", ["table", "value"])] [[], [], []] cnames true) b_is_post (defBody (top 52)) = true := by decide +kernel
theorem ok_is_post {f : Addr} {fd : FuncData} (tc : TopC mg K cnames cs true) (cx : CxOk P w K mg base CX) (F : Fun K "is_post" "is_post" (top 52) f fd) (c0 : FnAt P w K mg base CX 6 "check_table_posts" ["table"] [] m_check_table_posts) (c1 : FnAt P w K mg base CX 7 "check_metric" ["table"] [] m_check_metric) (c2 : FnAt P w K mg base CX 6 "post_is_right" ["table", "value"] [] m_post_is_right) : FnG P w K mg base CX 8 f fd ["table", "value"] (spOf K mg 2 m_is_post) :=
  fnAt_mk (k := 7) F sc_is_post tc cx (.cons (c0.mono (by decide)) (.cons (c1.mono (by decide)) (.cons (c2.mono (by decide)) .nil))) ck_is_post rfl rfl
theorem sc_could_be_by : FnScope ["table", "value", "one", "other"] ["table", "value"] (defScope (top 44)) := ⟨rfl, rfl, rfl, by decide +kernel, rfl, by decide +kernel, by decide +kernel⟩
theorem ck_could_be_by : chkTs (Ct.main ["table", "value", "one", "other"] (defScope (top 44)) [("numbers_are_right", ["table", "value"]), ("r_less", ["one", "other"]), ("r_minus", ["one", "other"]), ("far", ["table", "one", "other"])] [[], [], [], []] cnames true) b_could_be_by (defBody (top 44)) = true := by decide +kernel
theorem ok_could_be_by {f : Addr} {fd : FuncData} (tc : TopC mg K cnames cs true) (cx : CxOk P w K mg base CX) (F : Fun K "could_be_by" "could_be_by" (top 44) f fd) (c0 : FnAt P w K mg base CX 4 "numbers_are_right" ["table", "value"] [] m_numbers_are_right) (c1 : FnAt P w K mg base CX 1 "r_less" ["one", "other"] [] m_r_less) (c2 : FnAt P w K mg base CX 2 "r_minus" ["one", "other"] [] m_r_minus) (c3 : FnAt P w K mg base CX 1 "far" ["table", "one", "other"] [] m_far) : FnG P w K mg base CX 5 f fd ["table", "value"] (spOf K mg 2 m_could_be_by) :=
  fnAt_mk (k := 4) F sc_could_be_by tc cx (.cons (c0.mono (by decide)) (.cons (c1.mono (by decide)) (.cons (c2.mono (by decide)) (.cons (c3.mono (by decide)) .nil)))) ck_could_be_by rfl rfl
theorem sc_could_be : FnScope ["table", "value"] ["table", "value"] (defScope (top 53)) := ⟨rfl, rfl, rfl, by decide +kernel, rfl, by decide +kernel, by decide +kernel⟩
theorem ck_could_be : chkTs (Ct.main ["table", "value"] (defScope (top 53)) [("check_table_posts", ["table"]), ("check_metric", ["table"]), ("could_be_by", ["table", "value"])] [[], [], []] cnames true) b_could_be (defBody (top 53)) = true := by decide +kernel
theorem ok_could_be {f : Addr} {fd : FuncData} (tc : TopC mg K cnames cs true) (cx : CxOk P w K mg base CX) (F : Fun K "could_be" "could_be" (top 53) f fd) (c0 : FnAt P w K mg base CX 6 "check_table_posts" ["table"] [] m_check_table_posts) (c1 : FnAt P w K mg base CX 7 "check_metric" ["table"] [] m_check_metric) (c2 : FnAt P w K mg base CX 5 "could_be_by" ["table", "value"] [] m_could_be_by) : FnG P w K mg base CX 8 f fd ["table", "value"] (spOf K mg 2 m_could_be) :=
  fnAt_mk (k := 7) F sc_could_be tc cx (.cons (c0.mono (by decide)) (.cons (c1.mono (by decide)) (.cons (c2.mono (by decide)) .nil))) ck_could_be rfl rfl
theorem sc_loose_town : FnScope ["table", "numbers"] ["table", "numbers"] (defScope (top 54)) := ⟨rfl, rfl, rfl, by decide +kernel, rfl, by decide +kernel, by decide +kernel⟩
theorem ck_loose_town : chkTs (Ct.main ["table", "numbers"] (defScope (top 54)) [("check_numbers", ["table", "numbers"]), ("check_metric", ["table"]), ("loose_of", ["table", "numbers"])] [[], [], []] cnames true) b_loose_town (defBody (top 54)) = true := by decide +kernel
theorem ok_loose_town {f : Addr} {fd : FuncData} (tc : TopC mg K cnames cs true) (cx : CxOk P w K mg base CX) (F : Fun K "loose_town" "loose_town" (top 54) f fd) (c0 : FnAt P w K mg base CX 7 "check_numbers" ["table", "numbers"] [] m_check_numbers) (c1 : FnAt P w K mg base CX 7 "check_metric" ["table"] [] m_check_metric) (c2 : FnAt P w K mg base CX 5 "loose_of" ["table", "numbers"] [] m_loose_of) : FnG P w K mg base CX 8 f fd ["table", "numbers"] (spOf K mg 2 m_loose_town) :=
  fnAt_mk (k := 7) F sc_loose_town tc cx (.cons (c0.mono (by decide)) (.cons (c1.mono (by decide)) (.cons (c2.mono (by decide)) .nil))) ck_loose_town rfl rfl
theorem sc_law_one_right : FnScope ["pot", "table", "numbers", "shown", "turn", "kept", "slacks", "loose", "told", "due", "value", "says", "named", "town", "slack", "one", "other"] ["pot", "table"] (defScope (top 79)) := ⟨rfl, rfl, rfl, by decide +kernel, rfl, by decide +kernel, by decide +kernel⟩
theorem ck_law_one_right : chkTs (Ct.main ["pot", "table", "numbers", "shown", "turn", "kept", "slacks", "loose", "told", "due", "value", "says", "named", "town", "slack", "one", "other"] (defScope (top 79)) [("_law_numbers", ["pot", "table"]), ("_law_lowered", ["table", "numbers"]), ("_law_bent", ["pot", "numbers"]), ("_law_slack", ["table", "numbers", "town"]), ("can_lose", ["table", "numbers", "town"]), ("_law_says", ["table", "value"]), ("lowered", ["table", "numbers"]), ("are_enough", ["table", "value"]), ("is_post", ["table", "value"]), ("could_be", ["table", "value"]), ("loose_town", ["table", "numbers"]), ("_law_less", ["one", "other"])] [[], [], [], [], [(0, ["town", "numbers", "table"], [2, 1, 0])], [], [(0, ["numbers", "table"], [1, 0])], [(0, ["value", "table"], [1, 0])], [(0, ["value", "table"], [1, 0])], [(0, ["value", "table"], [1, 0])], [(0, ["numbers", "table"], [1, 0])], []] cnames true) b_law_one_right (defBody (top 79)) = true := by decide +kernel
theorem ok_law_one_right {f : Addr} {fd : FuncData} (tc : TopC mg K cnames cs true) (cx : CxOk P w K mg base CX) (F : Fun K "_law_one_right" "_law_one_right" (top 79) f fd) (c0 : FnAt P w K mg base CX 3 "_law_numbers" ["pot", "table"] [] m_law_numbers) (c1 : FnAt P w K mg base CX 4 "_law_lowered" ["table", "numbers"] [] m_law_lowered) (c2 : FnAt P w K mg base CX 3 "_law_bent" ["pot", "numbers"] [] m_law_bent) (c3 : FnAt P w K mg base CX 3 "_law_slack" ["table", "numbers", "town"] [] m_law_slack) (c4 : FnAt P w K mg base CX 8 "can_lose" ["table", "numbers", "town"] [(0, ["town", "numbers", "table"], [2, 1, 0])] m_can_lose) (c5 : FnAt P w K mg base CX 5 "_law_says" ["table", "value"] [] m_law_says) (c6 : FnAt P w K mg base CX 8 "lowered" ["table", "numbers"] [(0, ["numbers", "table"], [1, 0])] m_lowered) (c7 : FnAt P w K mg base CX 8 "are_enough" ["table", "value"] [(0, ["value", "table"], [1, 0])] m_are_enough) (c8 : FnAt P w K mg base CX 8 "is_post" ["table", "value"] [(0, ["value", "table"], [1, 0])] m_is_post) (c9 : FnAt P w K mg base CX 8 "could_be" ["table", "value"] [(0, ["value", "table"], [1, 0])] m_could_be) (c10 : FnAt P w K mg base CX 8 "loose_town" ["table", "numbers"] [(0, ["numbers", "table"], [1, 0])] m_loose_town) (c11 : FnAt P w K mg base CX 1 "_law_less" ["one", "other"] [] m_law_less) : FnG P w K mg base CX 9 f fd ["pot", "table"] (spOf K mg 2 m_law_one_right) :=
  fnAt_mk (k := 8) F sc_law_one_right tc cx (.cons (c0.mono (by decide)) (.cons (c1.mono (by decide)) (.cons (c2.mono (by decide)) (.cons (c3.mono (by decide)) (.cons (c4.mono (by decide)) (.cons (c5.mono (by decide)) (.cons (c6.mono (by decide)) (.cons (c7.mono (by decide)) (.cons (c8.mono (by decide)) (.cons (c9.mono (by decide)) (.cons (c10.mono (by decide)) (.cons (c11.mono (by decide)) .nil)))))))))))) ck_law_one_right rfl rfl
theorem sc_law_metric : FnScope ["pot", "many", "rows", "town", "turn", "other", "third", "way", "row"] ["pot", "many"] (defScope (top 69)) := ⟨rfl, rfl, rfl, by decide +kernel, rfl, by decide +kernel, by decide +kernel⟩
theorem ck_law_metric : chkTs (Ct.main ["pot", "many", "rows", "town", "turn", "other", "third", "way", "row"] (defScope (top 69)) [("_law_draw", ["pot", "many"])] [[]] cnames true) b_law_metric (defBody (top 69)) = true := by decide +kernel
theorem ok_law_metric {f : Addr} {fd : FuncData} (tc : TopC mg K cnames cs true) (cx : CxOk P w K mg base CX) (F : Fun K "_law_metric" "_law_metric" (top 69) f fd) (c0 : FnAt P w K mg base CX 1 "_law_draw" ["pot", "many"] [] m_law_draw) : FnG P w K mg base CX 2 f fd ["pot", "many"] (spOf K mg 2 m_law_metric) :=
  fnAt_mk (k := 1) F sc_law_metric tc cx (.cons (c0.mono (by decide)) .nil) ck_law_metric rfl rfl
theorem sc_law : FnScope ["script", "pot", "late", "turn"] ["script"] (defScope (top 80)) := ⟨rfl, rfl, rfl, by decide +kernel, rfl, by decide +kernel, by decide +kernel⟩
theorem ck_law : chkTs (Ct.main ["script", "pot", "late", "turn"] (defScope (top 80)) [("_law_pot", ["script", "k"]), ("_law_one_right", ["pot", "table"]), ("_law_metric", ["pot", "many"]), ("_law_draw", ["pot", "many"])] [[], [], [], []] cnames true) b_law (defBody (top 80)) = true := by decide +kernel
theorem ok_law {f : Addr} {fd : FuncData} (tc : TopC mg K cnames cs true) (cx : CxOk P w K mg base CX) (F : Fun K "law" "law" (top 80) f fd) (c0 : FnAt P w K mg base CX 1 "_law_pot" ["script", "k"] [] m_law_pot) (c1 : FnAt P w K mg base CX 9 "_law_one_right" ["pot", "table"] [] m_law_one_right) (c2 : FnAt P w K mg base CX 2 "_law_metric" ["pot", "many"] [] m_law_metric) (c3 : FnAt P w K mg base CX 1 "_law_draw" ["pot", "many"] [] m_law_draw) : FnG P w K mg base CX 10 f fd ["script"] (spOf K mg 1 m_law) :=
  fnAt_mk (k := 9) F sc_law tc cx (.cons (c0.mono (by decide)) (.cons (c1.mono (by decide)) (.cons (c2.mono (by decide)) (.cons (c3.mono (by decide)) .nil)))) ck_law rfl rfl
theorem facts {l : PySem.W.OpenLaw} {h : Heap} {fa : Addr} (X : K.In h) (G : h.Ns mainGlobals mg) (hfa : mg "law" = some (.ref fa))
    {f_law_pot : Addr} {od_law_pot an_law_pot : Option Addr} {sl_law_pot : Array (Option Value)} {oc_law_pot kV_law_pot dc_law_pot pm_law_pot cd_law_pot ct_law_pot : Value} {f_law_many : Addr} {od_law_many an_law_many : Option Addr} {sl_law_many : Array (Option Value)} {oc_law_many kV_law_many dc_law_many pm_law_many cd_law_many ct_law_many : Value} {f_law_draw : Addr} {od_law_draw an_law_draw : Option Addr} {sl_law_draw : Array (Option Value)} {oc_law_draw kV_law_draw dc_law_draw pm_law_draw cd_law_draw ct_law_draw : Value} {f_law_made : Addr} {od_law_made an_law_made : Option Addr} {sl_law_made : Array (Option Value)} {oc_law_made kV_law_made dc_law_made pm_law_made cd_law_made ct_law_made : Value} {f_law_plus : Addr} {od_law_plus an_law_plus : Option Addr} {sl_law_plus : Array (Option Value)} {oc_law_plus kV_law_plus dc_law_plus pm_law_plus cd_law_plus ct_law_plus : Value} {f_law_far : Addr} {od_law_far an_law_far : Option Addr} {sl_law_far : Array (Option Value)} {oc_law_far kV_law_far dc_law_far pm_law_far cd_law_far ct_law_far : Value} {f_law_numbers : Addr} {od_law_numbers an_law_numbers : Option Addr} {sl_law_numbers : Array (Option Value)} {oc_law_numbers kV_law_numbers dc_law_numbers pm_law_numbers cd_law_numbers ct_law_numbers : Value} {f_law_minus : Addr} {od_law_minus an_law_minus : Option Addr} {sl_law_minus : Array (Option Value)} {oc_law_minus kV_law_minus dc_law_minus pm_law_minus cd_law_minus ct_law_minus : Value} {f_law_less : Addr} {od_law_less an_law_less : Option Addr} {sl_law_less : Array (Option Value)} {oc_law_less kV_law_less dc_law_less pm_law_less cd_law_less ct_law_less : Value} {f_law_slack : Addr} {od_law_slack an_law_slack : Option Addr} {sl_law_slack : Array (Option Value)} {oc_law_slack kV_law_slack dc_law_slack pm_law_slack cd_law_slack ct_law_slack : Value} {f_law_lowered : Addr} {od_law_lowered an_law_lowered : Option Addr} {sl_law_lowered : Array (Option Value)} {oc_law_lowered kV_law_lowered dc_law_lowered pm_law_lowered cd_law_lowered ct_law_lowered : Value} {f_law_bent : Addr} {od_law_bent an_law_bent : Option Addr} {sl_law_bent : Array (Option Value)} {oc_law_bent kV_law_bent dc_law_bent pm_law_bent cd_law_bent ct_law_bent : Value} {f_sizes_are_right : Addr} {od_sizes_are_right an_sizes_are_right : Option Addr} {sl_sizes_are_right : Array (Option Value)} {oc_sizes_are_right kV_sizes_are_right dc_sizes_are_right pm_sizes_are_right cd_sizes_are_right ct_sizes_are_right : Value} {f_is_integer : Addr} {od_is_integer an_is_integer : Option Addr} {sl_is_integer : Array (Option Value)} {oc_is_integer kV_is_integer dc_is_integer pm_is_integer cd_is_integer ct_is_integer : Value} {f_is_count : Addr} {od_is_count an_is_count : Option Addr} {sl_is_count : Array (Option Value)} {oc_is_count kV_is_count dc_is_count pm_is_count cd_is_count ct_is_count : Value} {f_flaw_of : Addr} {od_flaw_of an_flaw_of : Option Addr} {sl_flaw_of : Array (Option Value)} {oc_flaw_of kV_flaw_of dc_flaw_of pm_flaw_of cd_flaw_of ct_flaw_of : Value} {f_table_is_right : Addr} {od_table_is_right an_table_is_right : Option Addr} {sl_table_is_right : Array (Option Value)} {oc_table_is_right kV_table_is_right dc_table_is_right pm_table_is_right cd_table_is_right ct_table_is_right : Value} {f_is_table : Addr} {od_is_table an_is_table : Option Addr} {sl_is_table : Array (Option Value)} {oc_is_table kV_is_table dc_is_table pm_is_table cd_is_table ct_is_table : Value} {f_check_table_posts : Addr} {od_check_table_posts an_check_table_posts : Option Addr} {sl_check_table_posts : Array (Option Value)} {oc_check_table_posts kV_check_table_posts dc_check_table_posts pm_check_table_posts cd_check_table_posts ct_check_table_posts : Value} {f_many_of_webs : Addr} {od_many_of_webs an_many_of_webs : Option Addr} {sl_many_of_webs : Array (Option Value)} {oc_many_of_webs kV_many_of_webs dc_many_of_webs pm_many_of_webs cd_many_of_webs ct_many_of_webs : Value} {f_is_list : Addr} {od_is_list an_is_list : Option Addr} {sl_is_list : Array (Option Value)} {oc_is_list kV_is_list dc_is_list pm_is_list cd_is_list ct_is_list : Value} {f_is_ratio : Addr} {od_is_ratio an_is_ratio : Option Addr} {sl_is_ratio : Array (Option Value)} {oc_is_ratio kV_is_ratio dc_is_ratio pm_is_ratio cd_is_ratio ct_is_ratio : Value} {f_made : Addr} {od_made an_made : Option Addr} {sl_made : Array (Option Value)} {oc_made kV_made dc_made pm_made cd_made ct_made : Value} {f_r_minus : Addr} {od_r_minus an_r_minus : Option Addr} {sl_r_minus : Array (Option Value)} {oc_r_minus kV_r_minus dc_r_minus pm_r_minus cd_r_minus ct_r_minus : Value} {f_r_plus : Addr} {od_r_plus an_r_plus : Option Addr} {sl_r_plus : Array (Option Value)} {oc_r_plus kV_r_plus dc_r_plus pm_r_plus cd_r_plus ct_r_plus : Value} {f_far : Addr} {od_far an_far : Option Addr} {sl_far : Array (Option Value)} {oc_far kV_far dc_far pm_far cd_far ct_far : Value} {f_slack_of : Addr} {od_slack_of an_slack_of : Option Addr} {sl_slack_of : Array (Option Value)} {oc_slack_of kV_slack_of dc_slack_of pm_slack_of cd_slack_of ct_slack_of : Value} {f_numbers_are_right : Addr} {od_numbers_are_right an_numbers_are_right : Option Addr} {sl_numbers_are_right : Array (Option Value)} {oc_numbers_are_right kV_numbers_are_right dc_numbers_are_right pm_numbers_are_right cd_numbers_are_right ct_numbers_are_right : Value} {f_check_numbers : Addr} {od_check_numbers an_check_numbers : Option Addr} {sl_check_numbers : Array (Option Value)} {oc_check_numbers kV_check_numbers dc_check_numbers pm_check_numbers cd_check_numbers ct_check_numbers : Value} {f_is_town : Addr} {od_is_town an_is_town : Option Addr} {sl_is_town : Array (Option Value)} {oc_is_town kV_is_town dc_is_town pm_is_town cd_is_town ct_is_town : Value} {f_check_town : Addr} {od_check_town an_check_town : Option Addr} {sl_check_town : Array (Option Value)} {oc_check_town kV_check_town dc_check_town pm_check_town cd_check_town ct_check_town : Value} {f_check_table_tables : Addr} {od_check_table_tables an_check_table_tables : Option Addr} {sl_check_table_tables : Array (Option Value)} {oc_check_table_tables kV_check_table_tables dc_check_table_tables pm_check_table_tables cd_check_table_tables ct_check_table_tables : Value} {f_many_of_tables : Addr} {od_many_of_tables an_many_of_tables : Option Addr} {sl_many_of_tables : Array (Option Value)} {oc_many_of_tables kV_many_of_tables dc_many_of_tables pm_many_of_tables cd_many_of_tables ct_many_of_tables : Value} {f_far_of : Addr} {od_far_of an_far_of : Option Addr} {sl_far_of : Array (Option Value)} {oc_far_of kV_far_of dc_far_of pm_far_of cd_far_of ct_far_of : Value} {f_short_of : Addr} {od_short_of an_short_of : Option Addr} {sl_short_of : Array (Option Value)} {oc_short_of kV_short_of dc_short_of pm_short_of cd_short_of ct_short_of : Value} {f_short_triple : Addr} {od_short_triple an_short_triple : Option Addr} {sl_short_triple : Array (Option Value)} {oc_short_triple kV_short_triple dc_short_triple pm_short_triple cd_short_triple ct_short_triple : Value} {f_check_metric : Addr} {od_check_metric an_check_metric : Option Addr} {sl_check_metric : Array (Option Value)} {oc_check_metric kV_check_metric dc_check_metric pm_check_metric cd_check_metric ct_check_metric : Value} {f_r_less : Addr} {od_r_less an_r_less : Option Addr} {sl_r_less : Array (Option Value)} {oc_r_less kV_r_less dc_r_less pm_r_less cd_r_less ct_r_less : Value} {f_lose_of : Addr} {od_lose_of an_lose_of : Option Addr} {sl_lose_of : Array (Option Value)} {oc_lose_of kV_lose_of dc_lose_of pm_lose_of cd_lose_of ct_lose_of : Value} {f_can_lose : Addr} {od_can_lose an_can_lose : Option Addr} {sl_can_lose : Array (Option Value)} {oc_can_lose kV_can_lose dc_can_lose pm_can_lose cd_can_lose ct_can_lose : Value} {f_law_is_ratio : Addr} {od_law_is_ratio an_law_is_ratio : Option Addr} {sl_law_is_ratio : Array (Option Value)} {oc_law_is_ratio kV_law_is_ratio dc_law_is_ratio pm_law_is_ratio cd_law_is_ratio ct_law_is_ratio : Value} {f_law_enough : Addr} {od_law_enough an_law_enough : Option Addr} {sl_law_enough : Array (Option Value)} {oc_law_enough kV_law_enough dc_law_enough pm_law_enough cd_law_enough ct_law_enough : Value} {f_law_size : Addr} {od_law_size an_law_size : Option Addr} {sl_law_size : Array (Option Value)} {oc_law_size kV_law_size dc_law_size pm_law_size cd_law_size ct_law_size : Value} {f_law_says : Addr} {od_law_says an_law_says : Option Addr} {sl_law_says : Array (Option Value)} {oc_law_says kV_law_says dc_law_says pm_law_says cd_law_says ct_law_says : Value} {f_lowered_by : Addr} {od_lowered_by an_lowered_by : Option Addr} {sl_lowered_by : Array (Option Value)} {oc_lowered_by kV_lowered_by dc_lowered_by pm_lowered_by cd_lowered_by ct_lowered_by : Value} {f_lowered : Addr} {od_lowered an_lowered : Option Addr} {sl_lowered : Array (Option Value)} {oc_lowered kV_lowered dc_lowered pm_lowered cd_lowered ct_lowered : Value} {f_are_enough : Addr} {od_are_enough an_are_enough : Option Addr} {sl_are_enough : Array (Option Value)} {oc_are_enough kV_are_enough dc_are_enough pm_are_enough cd_are_enough ct_are_enough : Value} {f_loose_of : Addr} {od_loose_of an_loose_of : Option Addr} {sl_loose_of : Array (Option Value)} {oc_loose_of kV_loose_of dc_loose_of pm_loose_of cd_loose_of ct_loose_of : Value} {f_post_is_right : Addr} {od_post_is_right an_post_is_right : Option Addr} {sl_post_is_right : Array (Option Value)} {oc_post_is_right kV_post_is_right dc_post_is_right pm_post_is_right cd_post_is_right ct_post_is_right : Value} {f_is_post : Addr} {od_is_post an_is_post : Option Addr} {sl_is_post : Array (Option Value)} {oc_is_post kV_is_post dc_is_post pm_is_post cd_is_post ct_is_post : Value} {f_could_be_by : Addr} {od_could_be_by an_could_be_by : Option Addr} {sl_could_be_by : Array (Option Value)} {oc_could_be_by kV_could_be_by dc_could_be_by pm_could_be_by cd_could_be_by ct_could_be_by : Value} {f_could_be : Addr} {od_could_be an_could_be : Option Addr} {sl_could_be : Array (Option Value)} {oc_could_be kV_could_be dc_could_be pm_could_be cd_could_be ct_could_be : Value} {f_loose_town : Addr} {od_loose_town an_loose_town : Option Addr} {sl_loose_town : Array (Option Value)} {oc_loose_town kV_loose_town dc_loose_town pm_loose_town cd_loose_town ct_loose_town : Value} {f_law_one_right : Addr} {od_law_one_right an_law_one_right : Option Addr} {sl_law_one_right : Array (Option Value)} {oc_law_one_right kV_law_one_right dc_law_one_right pm_law_one_right cd_law_one_right ct_law_one_right : Value} {f_law_metric : Addr} {od_law_metric an_law_metric : Option Addr} {sl_law_metric : Array (Option Value)} {oc_law_metric kV_law_metric dc_law_metric pm_law_metric cd_law_metric ct_law_metric : Value} {f_law : Addr} {od_law an_law : Option Addr} {sl_law : Array (Option Value)} {oc_law kV_law dc_law pm_law cd_law ct_law : Value} {t_0 : Tok} {t_1 : Tok} {t_2 : Addr} {td_2 : Option Addr} {tn_2 : Nat} {ts_2 : Array (Option Value)} {tk_2_0 : Tok} {tk_2_1 : Tok}
    (a_law_pot___law_pot : PySem.W.nsIn K mainGlobals "_law_pot" = some (some (.ref f_law_pot)))
    (l_law_pot : K.lookup f_law_pot = some ⟨oc_law_pot, od_law_pot, .func (PySem.W.fnOf "_law_pot" "_law_pot" (defArgs (top 58)) (defBody (top 58)) (defScope (top 58)) .none kV_law_pot dc_law_pot pm_law_pot an_law_pot cd_law_pot ct_law_pot), sl_law_pot⟩)
    (c_law_pot : PySem.W.codeIn K cd_law_pot "_law_pot" = true)
    (k_law_pot : PySem.W.keepIn K (.ref f_law_pot) = true)
    (a_law_many___law_many : PySem.W.nsIn K mainGlobals "_law_many" = some (some (.ref f_law_many)))
    (l_law_many : K.lookup f_law_many = some ⟨oc_law_many, od_law_many, .func (PySem.W.fnOf "_law_many" "_law_many" (defArgs (top 70)) (defBody (top 70)) (defScope (top 70)) .none kV_law_many dc_law_many pm_law_many an_law_many cd_law_many ct_law_many), sl_law_many⟩)
    (c_law_many : PySem.W.codeIn K cd_law_many "_law_many" = true)
    (k_law_many : PySem.W.keepIn K (.ref f_law_many) = true)
    (a_law_draw___law_draw : PySem.W.nsIn K mainGlobals "_law_draw" = some (some (.ref f_law_draw)))
    (l_law_draw : K.lookup f_law_draw = some ⟨oc_law_draw, od_law_draw, .func (PySem.W.fnOf "_law_draw" "_law_draw" (defArgs (top 59)) (defBody (top 59)) (defScope (top 59)) .none kV_law_draw dc_law_draw pm_law_draw an_law_draw cd_law_draw ct_law_draw), sl_law_draw⟩)
    (c_law_draw : PySem.W.codeIn K cd_law_draw "_law_draw" = true)
    (k_law_draw : PySem.W.keepIn K (.ref f_law_draw) = true)
    (a_law_made___law_made : PySem.W.nsIn K mainGlobals "_law_made" = some (some (.ref f_law_made)))
    (l_law_made : K.lookup f_law_made = some ⟨oc_law_made, od_law_made, .func (PySem.W.fnOf "_law_made" "_law_made" (defArgs (top 61)) (defBody (top 61)) (defScope (top 61)) .none kV_law_made dc_law_made pm_law_made an_law_made cd_law_made ct_law_made), sl_law_made⟩)
    (c_law_made : PySem.W.codeIn K cd_law_made "_law_made" = true)
    (k_law_made : PySem.W.keepIn K (.ref f_law_made) = true)
    (a_law_plus___law_plus : PySem.W.nsIn K mainGlobals "_law_plus" = some (some (.ref f_law_plus)))
    (l_law_plus : K.lookup f_law_plus = some ⟨oc_law_plus, od_law_plus, .func (PySem.W.fnOf "_law_plus" "_law_plus" (defArgs (top 62)) (defBody (top 62)) (defScope (top 62)) .none kV_law_plus dc_law_plus pm_law_plus an_law_plus cd_law_plus ct_law_plus), sl_law_plus⟩)
    (c_law_plus : PySem.W.codeIn K cd_law_plus "_law_plus" = true)
    (k_law_plus : PySem.W.keepIn K (.ref f_law_plus) = true)
    (a_law_far___law_far : PySem.W.nsIn K mainGlobals "_law_far" = some (some (.ref f_law_far)))
    (l_law_far : K.lookup f_law_far = some ⟨oc_law_far, od_law_far, .func (PySem.W.fnOf "_law_far" "_law_far" (defArgs (top 68)) (defBody (top 68)) (defScope (top 68)) .none kV_law_far dc_law_far pm_law_far an_law_far cd_law_far ct_law_far), sl_law_far⟩)
    (c_law_far : PySem.W.codeIn K cd_law_far "_law_far" = true)
    (k_law_far : PySem.W.keepIn K (.ref f_law_far) = true)
    (a_law_numbers___law_numbers : PySem.W.nsIn K mainGlobals "_law_numbers" = some (some (.ref f_law_numbers)))
    (l_law_numbers : K.lookup f_law_numbers = some ⟨oc_law_numbers, od_law_numbers, .func (PySem.W.fnOf "_law_numbers" "_law_numbers" (defArgs (top 74)) (defBody (top 74)) (defScope (top 74)) .none kV_law_numbers dc_law_numbers pm_law_numbers an_law_numbers cd_law_numbers ct_law_numbers), sl_law_numbers⟩)
    (c_law_numbers : PySem.W.codeIn K cd_law_numbers "_law_numbers" = true)
    (k_law_numbers : PySem.W.keepIn K (.ref f_law_numbers) = true)
    (a_law_minus___law_minus : PySem.W.nsIn K mainGlobals "_law_minus" = some (some (.ref f_law_minus)))
    (l_law_minus : K.lookup f_law_minus = some ⟨oc_law_minus, od_law_minus, .func (PySem.W.fnOf "_law_minus" "_law_minus" (defArgs (top 63)) (defBody (top 63)) (defScope (top 63)) .none kV_law_minus dc_law_minus pm_law_minus an_law_minus cd_law_minus ct_law_minus), sl_law_minus⟩)
    (c_law_minus : PySem.W.codeIn K cd_law_minus "_law_minus" = true)
    (k_law_minus : PySem.W.keepIn K (.ref f_law_minus) = true)
    (a_law_less___law_less : PySem.W.nsIn K mainGlobals "_law_less" = some (some (.ref f_law_less)))
    (l_law_less : K.lookup f_law_less = some ⟨oc_law_less, od_law_less, .func (PySem.W.fnOf "_law_less" "_law_less" (defArgs (top 66)) (defBody (top 66)) (defScope (top 66)) .none kV_law_less dc_law_less pm_law_less an_law_less cd_law_less ct_law_less), sl_law_less⟩)
    (c_law_less : PySem.W.codeIn K cd_law_less "_law_less" = true)
    (k_law_less : PySem.W.keepIn K (.ref f_law_less) = true)
    (a_law_slack___law_slack : PySem.W.nsIn K mainGlobals "_law_slack" = some (some (.ref f_law_slack)))
    (l_law_slack : K.lookup f_law_slack = some ⟨oc_law_slack, od_law_slack, .func (PySem.W.fnOf "_law_slack" "_law_slack" (defArgs (top 71)) (defBody (top 71)) (defScope (top 71)) .none kV_law_slack dc_law_slack pm_law_slack an_law_slack cd_law_slack ct_law_slack), sl_law_slack⟩)
    (c_law_slack : PySem.W.codeIn K cd_law_slack "_law_slack" = true)
    (k_law_slack : PySem.W.keepIn K (.ref f_law_slack) = true)
    (a_law_lowered___law_lowered : PySem.W.nsIn K mainGlobals "_law_lowered" = some (some (.ref f_law_lowered)))
    (l_law_lowered : K.lookup f_law_lowered = some ⟨oc_law_lowered, od_law_lowered, .func (PySem.W.fnOf "_law_lowered" "_law_lowered" (defArgs (top 73)) (defBody (top 73)) (defScope (top 73)) .none kV_law_lowered dc_law_lowered pm_law_lowered an_law_lowered cd_law_lowered ct_law_lowered), sl_law_lowered⟩)
    (c_law_lowered : PySem.W.codeIn K cd_law_lowered "_law_lowered" = true)
    (k_law_lowered : PySem.W.keepIn K (.ref f_law_lowered) = true)
    (a_law_bent___law_bent : PySem.W.nsIn K mainGlobals "_law_bent" = some (some (.ref f_law_bent)))
    (l_law_bent : K.lookup f_law_bent = some ⟨oc_law_bent, od_law_bent, .func (PySem.W.fnOf "_law_bent" "_law_bent" (defArgs (top 78)) (defBody (top 78)) (defScope (top 78)) .none kV_law_bent dc_law_bent pm_law_bent an_law_bent cd_law_bent ct_law_bent), sl_law_bent⟩)
    (c_law_bent : PySem.W.codeIn K cd_law_bent "_law_bent" = true)
    (k_law_bent : PySem.W.keepIn K (.ref f_law_bent) = true)
    (a_sizes_are_right__sizes_are_right : PySem.W.nsIn K mainGlobals "sizes_are_right" = some (some (.ref f_sizes_are_right)))
    (l_sizes_are_right : K.lookup f_sizes_are_right = some ⟨oc_sizes_are_right, od_sizes_are_right, .func (PySem.W.fnOf "sizes_are_right" "sizes_are_right" (defArgs (top 21)) (defBody (top 21)) (defScope (top 21)) .none kV_sizes_are_right dc_sizes_are_right pm_sizes_are_right an_sizes_are_right cd_sizes_are_right ct_sizes_are_right), sl_sizes_are_right⟩)
    (c_sizes_are_right : PySem.W.codeIn K cd_sizes_are_right "sizes_are_right" = true)
    (k_sizes_are_right : PySem.W.keepIn K (.ref f_sizes_are_right) = true)
    (a_is_integer__is_integer : PySem.W.nsIn K mainGlobals "is_integer" = some (some (.ref f_is_integer)))
    (l_is_integer : K.lookup f_is_integer = some ⟨oc_is_integer, od_is_integer, .func (PySem.W.fnOf "is_integer" "is_integer" (defArgs (top 3)) (defBody (top 3)) (defScope (top 3)) .none kV_is_integer dc_is_integer pm_is_integer an_is_integer cd_is_integer ct_is_integer), sl_is_integer⟩)
    (c_is_integer : PySem.W.codeIn K cd_is_integer "is_integer" = true)
    (k_is_integer : PySem.W.keepIn K (.ref f_is_integer) = true)
    (a_is_count__is_count : PySem.W.nsIn K mainGlobals "is_count" = some (some (.ref f_is_count)))
    (l_is_count : K.lookup f_is_count = some ⟨oc_is_count, od_is_count, .func (PySem.W.fnOf "is_count" "is_count" (defArgs (top 4)) (defBody (top 4)) (defScope (top 4)) .none kV_is_count dc_is_count pm_is_count an_is_count cd_is_count ct_is_count), sl_is_count⟩)
    (c_is_count : PySem.W.codeIn K cd_is_count "is_count" = true)
    (k_is_count : PySem.W.keepIn K (.ref f_is_count) = true)
    (a_flaw_of__flaw_of : PySem.W.nsIn K mainGlobals "flaw_of" = some (some (.ref f_flaw_of)))
    (l_flaw_of : K.lookup f_flaw_of = some ⟨oc_flaw_of, od_flaw_of, .func (PySem.W.fnOf "flaw_of" "flaw_of" (defArgs (top 22)) (defBody (top 22)) (defScope (top 22)) .none kV_flaw_of dc_flaw_of pm_flaw_of an_flaw_of cd_flaw_of ct_flaw_of), sl_flaw_of⟩)
    (c_flaw_of : PySem.W.codeIn K cd_flaw_of "flaw_of" = true)
    (k_flaw_of : PySem.W.keepIn K (.ref f_flaw_of) = true)
    (a_table_is_right__table_is_right : PySem.W.nsIn K mainGlobals "table_is_right" = some (some (.ref f_table_is_right)))
    (l_table_is_right : K.lookup f_table_is_right = some ⟨oc_table_is_right, od_table_is_right, .func (PySem.W.fnOf "table_is_right" "table_is_right" (defArgs (top 23)) (defBody (top 23)) (defScope (top 23)) .none kV_table_is_right dc_table_is_right pm_table_is_right an_table_is_right cd_table_is_right ct_table_is_right), sl_table_is_right⟩)
    (c_table_is_right : PySem.W.codeIn K cd_table_is_right "table_is_right" = true)
    (k_table_is_right : PySem.W.keepIn K (.ref f_table_is_right) = true)
    (a_is_table__is_table : PySem.W.nsIn K mainGlobals "is_table" = some (some (.ref f_is_table)))
    (l_is_table : K.lookup f_is_table = some ⟨oc_is_table, od_is_table, .func (PySem.W.fnOf "is_table" "is_table" (defArgs (top 30)) (defBody (top 30)) (defScope (top 30)) .none kV_is_table dc_is_table pm_is_table an_is_table cd_is_table ct_is_table), sl_is_table⟩)
    (c_is_table : PySem.W.codeIn K cd_is_table "is_table" = true)
    (k_is_table : PySem.W.keepIn K (.ref f_is_table) = true)
    (a_check_table_posts__check_table_posts : PySem.W.nsIn K mainGlobals "check_table_posts" = some (some (.ref f_check_table_posts)))
    (l_check_table_posts : K.lookup f_check_table_posts = some ⟨oc_check_table_posts, od_check_table_posts, .func (PySem.W.fnOf "check_table" "check_table" (defArgs (top 45)) (defBody (top 45)) (defScope (top 45)) .none kV_check_table_posts dc_check_table_posts pm_check_table_posts an_check_table_posts cd_check_table_posts ct_check_table_posts), sl_check_table_posts⟩)
    (c_check_table_posts : PySem.W.codeIn K cd_check_table_posts "check_table" = true)
    (k_check_table_posts : PySem.W.keepIn K (.ref f_check_table_posts) = true)
    (a_many_of_webs__many_of_webs : PySem.W.nsIn K mainGlobals "many_of_webs" = some (some (.ref f_many_of_webs)))
    (l_many_of_webs : K.lookup f_many_of_webs = some ⟨oc_many_of_webs, od_many_of_webs, .func (PySem.W.fnOf "many_of" "many_of" (defArgs (top 33)) (defBody (top 33)) (defScope (top 33)) .none kV_many_of_webs dc_many_of_webs pm_many_of_webs an_many_of_webs cd_many_of_webs ct_many_of_webs), sl_many_of_webs⟩)
    (c_many_of_webs : PySem.W.codeIn K cd_many_of_webs "many_of" = true)
    (k_many_of_webs : PySem.W.keepIn K (.ref f_many_of_webs) = true)
    (a_is_list__is_list : PySem.W.nsIn K mainGlobals "is_list" = some (some (.ref f_is_list)))
    (l_is_list : K.lookup f_is_list = some ⟨oc_is_list, od_is_list, .func (PySem.W.fnOf "is_list" "is_list" (defArgs (top 2)) (defBody (top 2)) (defScope (top 2)) .none kV_is_list dc_is_list pm_is_list an_is_list cd_is_list ct_is_list), sl_is_list⟩)
    (c_is_list : PySem.W.codeIn K cd_is_list "is_list" = true)
    (k_is_list : PySem.W.keepIn K (.ref f_is_list) = true)
    (a_is_ratio__is_ratio : PySem.W.nsIn K mainGlobals "is_ratio" = some (some (.ref f_is_ratio)))
    (l_is_ratio : K.lookup f_is_ratio = some ⟨oc_is_ratio, od_is_ratio, .func (PySem.W.fnOf "is_ratio" "is_ratio" (defArgs (top 5)) (defBody (top 5)) (defScope (top 5)) .none kV_is_ratio dc_is_ratio pm_is_ratio an_is_ratio cd_is_ratio ct_is_ratio), sl_is_ratio⟩)
    (c_is_ratio : PySem.W.codeIn K cd_is_ratio "is_ratio" = true)
    (k_is_ratio : PySem.W.keepIn K (.ref f_is_ratio) = true)
    (a_made__made : PySem.W.nsIn K mainGlobals "made" = some (some (.ref f_made)))
    (l_made : K.lookup f_made = some ⟨oc_made, od_made, .func (PySem.W.fnOf "made" "made" (defArgs (top 14)) (defBody (top 14)) (defScope (top 14)) .none kV_made dc_made pm_made an_made cd_made ct_made), sl_made⟩)
    (c_made : PySem.W.codeIn K cd_made "made" = true)
    (k_made : PySem.W.keepIn K (.ref f_made) = true)
    (a_r_minus__r_minus : PySem.W.nsIn K mainGlobals "r_minus" = some (some (.ref f_r_minus)))
    (l_r_minus : K.lookup f_r_minus = some ⟨oc_r_minus, od_r_minus, .func (PySem.W.fnOf "r_minus" "r_minus" (defArgs (top 16)) (defBody (top 16)) (defScope (top 16)) .none kV_r_minus dc_r_minus pm_r_minus an_r_minus cd_r_minus ct_r_minus), sl_r_minus⟩)
    (c_r_minus : PySem.W.codeIn K cd_r_minus "r_minus" = true)
    (k_r_minus : PySem.W.keepIn K (.ref f_r_minus) = true)
    (a_r_plus__r_plus : PySem.W.nsIn K mainGlobals "r_plus" = some (some (.ref f_r_plus)))
    (l_r_plus : K.lookup f_r_plus = some ⟨oc_r_plus, od_r_plus, .func (PySem.W.fnOf "r_plus" "r_plus" (defArgs (top 15)) (defBody (top 15)) (defScope (top 15)) .none kV_r_plus dc_r_plus pm_r_plus an_r_plus cd_r_plus ct_r_plus), sl_r_plus⟩)
    (c_r_plus : PySem.W.codeIn K cd_r_plus "r_plus" = true)
    (k_r_plus : PySem.W.keepIn K (.ref f_r_plus) = true)
    (a_far__far : PySem.W.nsIn K mainGlobals "far" = some (some (.ref f_far)))
    (l_far : K.lookup f_far = some ⟨oc_far, od_far, .func (PySem.W.fnOf "far" "far" (defArgs (top 35)) (defBody (top 35)) (defScope (top 35)) .none kV_far dc_far pm_far an_far cd_far ct_far), sl_far⟩)
    (c_far : PySem.W.codeIn K cd_far "far" = true)
    (k_far : PySem.W.keepIn K (.ref f_far) = true)
    (a_slack_of__slack_of : PySem.W.nsIn K mainGlobals "slack_of" = some (some (.ref f_slack_of)))
    (l_slack_of : K.lookup f_slack_of = some ⟨oc_slack_of, od_slack_of, .func (PySem.W.fnOf "slack_of" "slack_of" (defArgs (top 38)) (defBody (top 38)) (defScope (top 38)) .none kV_slack_of dc_slack_of pm_slack_of an_slack_of cd_slack_of ct_slack_of), sl_slack_of⟩)
    (c_slack_of : PySem.W.codeIn K cd_slack_of "slack_of" = true)
    (k_slack_of : PySem.W.keepIn K (.ref f_slack_of) = true)
    (a_numbers_are_right__numbers_are_right : PySem.W.nsIn K mainGlobals "numbers_are_right" = some (some (.ref f_numbers_are_right)))
    (l_numbers_are_right : K.lookup f_numbers_are_right = some ⟨oc_numbers_are_right, od_numbers_are_right, .func (PySem.W.fnOf "numbers_are_right" "numbers_are_right" (defArgs (top 42)) (defBody (top 42)) (defScope (top 42)) .none kV_numbers_are_right dc_numbers_are_right pm_numbers_are_right an_numbers_are_right cd_numbers_are_right ct_numbers_are_right), sl_numbers_are_right⟩)
    (c_numbers_are_right : PySem.W.codeIn K cd_numbers_are_right "numbers_are_right" = true)
    (k_numbers_are_right : PySem.W.keepIn K (.ref f_numbers_are_right) = true)
    (a_check_numbers__check_numbers : PySem.W.nsIn K mainGlobals "check_numbers" = some (some (.ref f_check_numbers)))
    (l_check_numbers : K.lookup f_check_numbers = some ⟨oc_check_numbers, od_check_numbers, .func (PySem.W.fnOf "check_numbers" "check_numbers" (defArgs (top 50)) (defBody (top 50)) (defScope (top 50)) .none kV_check_numbers dc_check_numbers pm_check_numbers an_check_numbers cd_check_numbers ct_check_numbers), sl_check_numbers⟩)
    (c_check_numbers : PySem.W.codeIn K cd_check_numbers "check_numbers" = true)
    (k_check_numbers : PySem.W.keepIn K (.ref f_check_numbers) = true)
    (a_is_town__is_town : PySem.W.nsIn K mainGlobals "is_town" = some (some (.ref f_is_town)))
    (l_is_town : K.lookup f_is_town = some ⟨oc_is_town, od_is_town, .func (PySem.W.fnOf "is_town" "is_town" (defArgs (top 48)) (defBody (top 48)) (defScope (top 48)) .none kV_is_town dc_is_town pm_is_town an_is_town cd_is_town ct_is_town), sl_is_town⟩)
    (c_is_town : PySem.W.codeIn K cd_is_town "is_town" = true)
    (k_is_town : PySem.W.keepIn K (.ref f_is_town) = true)
    (a_check_town__check_town : PySem.W.nsIn K mainGlobals "check_town" = some (some (.ref f_check_town)))
    (l_check_town : K.lookup f_check_town = some ⟨oc_check_town, od_check_town, .func (PySem.W.fnOf "check_town" "check_town" (defArgs (top 49)) (defBody (top 49)) (defScope (top 49)) .none kV_check_town dc_check_town pm_check_town an_check_town cd_check_town ct_check_town), sl_check_town⟩)
    (c_check_town : PySem.W.codeIn K cd_check_town "check_town" = true)
    (k_check_town : PySem.W.keepIn K (.ref f_check_town) = true)
    (a_check_table_tables__check_table_tables : PySem.W.nsIn K mainGlobals "check_table_tables" = some (some (.ref f_check_table_tables)))
    (l_check_table_tables : K.lookup f_check_table_tables = some ⟨oc_check_table_tables, od_check_table_tables, .func (PySem.W.fnOf "check_table" "check_table" (defArgs (top 28)) (defBody (top 28)) (defScope (top 28)) .none kV_check_table_tables dc_check_table_tables pm_check_table_tables an_check_table_tables cd_check_table_tables ct_check_table_tables), sl_check_table_tables⟩)
    (c_check_table_tables : PySem.W.codeIn K cd_check_table_tables "check_table" = true)
    (k_check_table_tables : PySem.W.keepIn K (.ref f_check_table_tables) = true)
    (a_many_of_tables__many_of_tables : PySem.W.nsIn K mainGlobals "many_of_tables" = some (some (.ref f_many_of_tables)))
    (l_many_of_tables : K.lookup f_many_of_tables = some ⟨oc_many_of_tables, od_many_of_tables, .func (PySem.W.fnOf "many_of" "many_of" (defArgs (top 24)) (defBody (top 24)) (defScope (top 24)) .none kV_many_of_tables dc_many_of_tables pm_many_of_tables an_many_of_tables cd_many_of_tables ct_many_of_tables), sl_many_of_tables⟩)
    (c_many_of_tables : PySem.W.codeIn K cd_many_of_tables "many_of" = true)
    (k_many_of_tables : PySem.W.keepIn K (.ref f_many_of_tables) = true)
    (a_far_of__far_of : PySem.W.nsIn K mainGlobals "far_of" = some (some (.ref f_far_of)))
    (l_far_of : K.lookup f_far_of = some ⟨oc_far_of, od_far_of, .func (PySem.W.fnOf "far_of" "far_of" (defArgs (top 26)) (defBody (top 26)) (defScope (top 26)) .none kV_far_of dc_far_of pm_far_of an_far_of cd_far_of ct_far_of), sl_far_of⟩)
    (c_far_of : PySem.W.codeIn K cd_far_of "far_of" = true)
    (k_far_of : PySem.W.keepIn K (.ref f_far_of) = true)
    (a_short_of__short_of : PySem.W.nsIn K mainGlobals "short_of" = some (some (.ref f_short_of)))
    (l_short_of : K.lookup f_short_of = some ⟨oc_short_of, od_short_of, .func (PySem.W.fnOf "short_of" "short_of" (defArgs (top 27)) (defBody (top 27)) (defScope (top 27)) .none kV_short_of dc_short_of pm_short_of an_short_of cd_short_of ct_short_of), sl_short_of⟩)
    (c_short_of : PySem.W.codeIn K cd_short_of "short_of" = true)
    (k_short_of : PySem.W.keepIn K (.ref f_short_of) = true)
    (a_short_triple__short_triple : PySem.W.nsIn K mainGlobals "short_triple" = some (some (.ref f_short_triple)))
    (l_short_triple : K.lookup f_short_triple = some ⟨oc_short_triple, od_short_triple, .func (PySem.W.fnOf "short_triple" "short_triple" (defArgs (top 31)) (defBody (top 31)) (defScope (top 31)) .none kV_short_triple dc_short_triple pm_short_triple an_short_triple cd_short_triple ct_short_triple), sl_short_triple⟩)
    (c_short_triple : PySem.W.codeIn K cd_short_triple "short_triple" = true)
    (k_short_triple : PySem.W.keepIn K (.ref f_short_triple) = true)
    (a_check_metric__check_metric : PySem.W.nsIn K mainGlobals "check_metric" = some (some (.ref f_check_metric)))
    (l_check_metric : K.lookup f_check_metric = some ⟨oc_check_metric, od_check_metric, .func (PySem.W.fnOf "check_metric" "check_metric" (defArgs (top 47)) (defBody (top 47)) (defScope (top 47)) .none kV_check_metric dc_check_metric pm_check_metric an_check_metric cd_check_metric ct_check_metric), sl_check_metric⟩)
    (c_check_metric : PySem.W.codeIn K cd_check_metric "check_metric" = true)
    (k_check_metric : PySem.W.keepIn K (.ref f_check_metric) = true)
    (a_r_less__r_less : PySem.W.nsIn K mainGlobals "r_less" = some (some (.ref f_r_less)))
    (l_r_less : K.lookup f_r_less = some ⟨oc_r_less, od_r_less, .func (PySem.W.fnOf "r_less" "r_less" (defArgs (top 17)) (defBody (top 17)) (defScope (top 17)) .none kV_r_less dc_r_less pm_r_less an_r_less cd_r_less ct_r_less), sl_r_less⟩)
    (c_r_less : PySem.W.codeIn K cd_r_less "r_less" = true)
    (k_r_less : PySem.W.keepIn K (.ref f_r_less) = true)
    (a_lose_of__lose_of : PySem.W.nsIn K mainGlobals "lose_of" = some (some (.ref f_lose_of)))
    (l_lose_of : K.lookup f_lose_of = some ⟨oc_lose_of, od_lose_of, .func (PySem.W.fnOf "lose_of" "lose_of" (defArgs (top 39)) (defBody (top 39)) (defScope (top 39)) .none kV_lose_of dc_lose_of pm_lose_of an_lose_of cd_lose_of ct_lose_of), sl_lose_of⟩)
    (c_lose_of : PySem.W.codeIn K cd_lose_of "lose_of" = true)
    (k_lose_of : PySem.W.keepIn K (.ref f_lose_of) = true)
    (a_can_lose__can_lose : PySem.W.nsIn K mainGlobals "can_lose" = some (some (.ref f_can_lose)))
    (l_can_lose : K.lookup f_can_lose = some ⟨oc_can_lose, od_can_lose, .func (PySem.W.fnOf "can_lose" "can_lose" (defArgs (top 55)) (defBody (top 55)) (defScope (top 55)) .none kV_can_lose dc_can_lose pm_can_lose an_can_lose cd_can_lose ct_can_lose), sl_can_lose⟩)
    (c_can_lose : PySem.W.codeIn K cd_can_lose "can_lose" = true)
    (k_can_lose : PySem.W.keepIn K (.ref f_can_lose) = true)
    (a_law_is_ratio___law_is_ratio : PySem.W.nsIn K mainGlobals "_law_is_ratio" = some (some (.ref f_law_is_ratio)))
    (l_law_is_ratio : K.lookup f_law_is_ratio = some ⟨oc_law_is_ratio, od_law_is_ratio, .func (PySem.W.fnOf "_law_is_ratio" "_law_is_ratio" (defArgs (top 75)) (defBody (top 75)) (defScope (top 75)) .none kV_law_is_ratio dc_law_is_ratio pm_law_is_ratio an_law_is_ratio cd_law_is_ratio ct_law_is_ratio), sl_law_is_ratio⟩)
    (c_law_is_ratio : PySem.W.codeIn K cd_law_is_ratio "_law_is_ratio" = true)
    (k_law_is_ratio : PySem.W.keepIn K (.ref f_law_is_ratio) = true)
    (a_law_enough___law_enough : PySem.W.nsIn K mainGlobals "_law_enough" = some (some (.ref f_law_enough)))
    (l_law_enough : K.lookup f_law_enough = some ⟨oc_law_enough, od_law_enough, .func (PySem.W.fnOf "_law_enough" "_law_enough" (defArgs (top 72)) (defBody (top 72)) (defScope (top 72)) .none kV_law_enough dc_law_enough pm_law_enough an_law_enough cd_law_enough ct_law_enough), sl_law_enough⟩)
    (c_law_enough : PySem.W.codeIn K cd_law_enough "_law_enough" = true)
    (k_law_enough : PySem.W.keepIn K (.ref f_law_enough) = true)
    (a_law_size___law_size : PySem.W.nsIn K mainGlobals "_law_size" = some (some (.ref f_law_size)))
    (l_law_size : K.lookup f_law_size = some ⟨oc_law_size, od_law_size, .func (PySem.W.fnOf "_law_size" "_law_size" (defArgs (top 77)) (defBody (top 77)) (defScope (top 77)) .none kV_law_size dc_law_size pm_law_size an_law_size cd_law_size ct_law_size), sl_law_size⟩)
    (c_law_size : PySem.W.codeIn K cd_law_size "_law_size" = true)
    (k_law_size : PySem.W.keepIn K (.ref f_law_size) = true)
    (a_law_says___law_says : PySem.W.nsIn K mainGlobals "_law_says" = some (some (.ref f_law_says)))
    (l_law_says : K.lookup f_law_says = some ⟨oc_law_says, od_law_says, .func (PySem.W.fnOf "_law_says" "_law_says" (defArgs (top 76)) (defBody (top 76)) (defScope (top 76)) .none kV_law_says dc_law_says pm_law_says an_law_says cd_law_says ct_law_says), sl_law_says⟩)
    (c_law_says : PySem.W.codeIn K cd_law_says "_law_says" = true)
    (k_law_says : PySem.W.keepIn K (.ref f_law_says) = true)
    (a_lowered_by__lowered_by : PySem.W.nsIn K mainGlobals "lowered_by" = some (some (.ref f_lowered_by)))
    (l_lowered_by : K.lookup f_lowered_by = some ⟨oc_lowered_by, od_lowered_by, .func (PySem.W.fnOf "lowered_by" "lowered_by" (defArgs (top 40)) (defBody (top 40)) (defScope (top 40)) .none kV_lowered_by dc_lowered_by pm_lowered_by an_lowered_by cd_lowered_by ct_lowered_by), sl_lowered_by⟩)
    (c_lowered_by : PySem.W.codeIn K cd_lowered_by "lowered_by" = true)
    (k_lowered_by : PySem.W.keepIn K (.ref f_lowered_by) = true)
    (a_lowered__lowered : PySem.W.nsIn K mainGlobals "lowered" = some (some (.ref f_lowered)))
    (l_lowered : K.lookup f_lowered = some ⟨oc_lowered, od_lowered, .func (PySem.W.fnOf "lowered" "lowered" (defArgs (top 56)) (defBody (top 56)) (defScope (top 56)) .none kV_lowered dc_lowered pm_lowered an_lowered cd_lowered ct_lowered), sl_lowered⟩)
    (c_lowered : PySem.W.codeIn K cd_lowered "lowered" = true)
    (k_lowered : PySem.W.keepIn K (.ref f_lowered) = true)
    (a_are_enough__are_enough : PySem.W.nsIn K mainGlobals "are_enough" = some (some (.ref f_are_enough)))
    (l_are_enough : K.lookup f_are_enough = some ⟨oc_are_enough, od_are_enough, .func (PySem.W.fnOf "are_enough" "are_enough" (defArgs (top 51)) (defBody (top 51)) (defScope (top 51)) .none kV_are_enough dc_are_enough pm_are_enough an_are_enough cd_are_enough ct_are_enough), sl_are_enough⟩)
    (c_are_enough : PySem.W.codeIn K cd_are_enough "are_enough" = true)
    (k_are_enough : PySem.W.keepIn K (.ref f_are_enough) = true)
    (a_loose_of__loose_of : PySem.W.nsIn K mainGlobals "loose_of" = some (some (.ref f_loose_of)))
    (l_loose_of : K.lookup f_loose_of = some ⟨oc_loose_of, od_loose_of, .func (PySem.W.fnOf "loose_of" "loose_of" (defArgs (top 41)) (defBody (top 41)) (defScope (top 41)) .none kV_loose_of dc_loose_of pm_loose_of an_loose_of cd_loose_of ct_loose_of), sl_loose_of⟩)
    (c_loose_of : PySem.W.codeIn K cd_loose_of "loose_of" = true)
    (k_loose_of : PySem.W.keepIn K (.ref f_loose_of) = true)
    (a_post_is_right__post_is_right : PySem.W.nsIn K mainGlobals "post_is_right" = some (some (.ref f_post_is_right)))
    (l_post_is_right : K.lookup f_post_is_right = some ⟨oc_post_is_right, od_post_is_right, .func (PySem.W.fnOf "post_is_right" "post_is_right" (defArgs (top 43)) (defBody (top 43)) (defScope (top 43)) .none kV_post_is_right dc_post_is_right pm_post_is_right an_post_is_right cd_post_is_right ct_post_is_right), sl_post_is_right⟩)
    (c_post_is_right : PySem.W.codeIn K cd_post_is_right "post_is_right" = true)
    (k_post_is_right : PySem.W.keepIn K (.ref f_post_is_right) = true)
    (a_is_post__is_post : PySem.W.nsIn K mainGlobals "is_post" = some (some (.ref f_is_post)))
    (l_is_post : K.lookup f_is_post = some ⟨oc_is_post, od_is_post, .func (PySem.W.fnOf "is_post" "is_post" (defArgs (top 52)) (defBody (top 52)) (defScope (top 52)) .none kV_is_post dc_is_post pm_is_post an_is_post cd_is_post ct_is_post), sl_is_post⟩)
    (c_is_post : PySem.W.codeIn K cd_is_post "is_post" = true)
    (k_is_post : PySem.W.keepIn K (.ref f_is_post) = true)
    (a_could_be_by__could_be_by : PySem.W.nsIn K mainGlobals "could_be_by" = some (some (.ref f_could_be_by)))
    (l_could_be_by : K.lookup f_could_be_by = some ⟨oc_could_be_by, od_could_be_by, .func (PySem.W.fnOf "could_be_by" "could_be_by" (defArgs (top 44)) (defBody (top 44)) (defScope (top 44)) .none kV_could_be_by dc_could_be_by pm_could_be_by an_could_be_by cd_could_be_by ct_could_be_by), sl_could_be_by⟩)
    (c_could_be_by : PySem.W.codeIn K cd_could_be_by "could_be_by" = true)
    (k_could_be_by : PySem.W.keepIn K (.ref f_could_be_by) = true)
    (a_could_be__could_be : PySem.W.nsIn K mainGlobals "could_be" = some (some (.ref f_could_be)))
    (l_could_be : K.lookup f_could_be = some ⟨oc_could_be, od_could_be, .func (PySem.W.fnOf "could_be" "could_be" (defArgs (top 53)) (defBody (top 53)) (defScope (top 53)) .none kV_could_be dc_could_be pm_could_be an_could_be cd_could_be ct_could_be), sl_could_be⟩)
    (c_could_be : PySem.W.codeIn K cd_could_be "could_be" = true)
    (k_could_be : PySem.W.keepIn K (.ref f_could_be) = true)
    (a_loose_town__loose_town : PySem.W.nsIn K mainGlobals "loose_town" = some (some (.ref f_loose_town)))
    (l_loose_town : K.lookup f_loose_town = some ⟨oc_loose_town, od_loose_town, .func (PySem.W.fnOf "loose_town" "loose_town" (defArgs (top 54)) (defBody (top 54)) (defScope (top 54)) .none kV_loose_town dc_loose_town pm_loose_town an_loose_town cd_loose_town ct_loose_town), sl_loose_town⟩)
    (c_loose_town : PySem.W.codeIn K cd_loose_town "loose_town" = true)
    (k_loose_town : PySem.W.keepIn K (.ref f_loose_town) = true)
    (a_law_one_right___law_one_right : PySem.W.nsIn K mainGlobals "_law_one_right" = some (some (.ref f_law_one_right)))
    (l_law_one_right : K.lookup f_law_one_right = some ⟨oc_law_one_right, od_law_one_right, .func (PySem.W.fnOf "_law_one_right" "_law_one_right" (defArgs (top 79)) (defBody (top 79)) (defScope (top 79)) .none kV_law_one_right dc_law_one_right pm_law_one_right an_law_one_right cd_law_one_right ct_law_one_right), sl_law_one_right⟩)
    (c_law_one_right : PySem.W.codeIn K cd_law_one_right "_law_one_right" = true)
    (k_law_one_right : PySem.W.keepIn K (.ref f_law_one_right) = true)
    (a_law_metric___law_metric : PySem.W.nsIn K mainGlobals "_law_metric" = some (some (.ref f_law_metric)))
    (l_law_metric : K.lookup f_law_metric = some ⟨oc_law_metric, od_law_metric, .func (PySem.W.fnOf "_law_metric" "_law_metric" (defArgs (top 69)) (defBody (top 69)) (defScope (top 69)) .none kV_law_metric dc_law_metric pm_law_metric an_law_metric cd_law_metric ct_law_metric), sl_law_metric⟩)
    (c_law_metric : PySem.W.codeIn K cd_law_metric "_law_metric" = true)
    (k_law_metric : PySem.W.keepIn K (.ref f_law_metric) = true)
    (a_law__law : PySem.W.nsIn K mainGlobals "law" = some (some (.ref f_law)))
    (l_law : K.lookup f_law = some ⟨oc_law, od_law, .func (PySem.W.fnOf "law" "law" (defArgs (top 80)) (defBody (top 80)) (defScope (top 80)) .none kV_law dc_law pm_law an_law cd_law ct_law), sl_law⟩)
    (c_law : PySem.W.codeIn K cd_law "law" = true)
    (k_law : PySem.W.keepIn K (.ref f_law) = true)
    (z_len : PySem.W.nsIn K mainGlobals "len" = some none)
    (z_abs : PySem.W.nsIn K mainGlobals "abs" = some none)
    (z_int : PySem.W.nsIn K mainGlobals "int" = some none)
    (z_max : PySem.W.nsIn K mainGlobals "max" = some none)
    (z_min : PySem.W.nsIn K mainGlobals "min" = some none)
    (z_sum : PySem.W.nsIn K mainGlobals "sum" = some none)
    (z_all : PySem.W.nsIn K mainGlobals "all" = some none)
    (z_any : PySem.W.nsIn K mainGlobals "any" = some none)
    (z_tuple : PySem.W.nsIn K mainGlobals "tuple" = some none)
    (z_list : PySem.W.nsIn K mainGlobals "list" = some none)
    (z_repr : PySem.W.nsIn K mainGlobals "repr" = some none)
    (z_divmod : PySem.W.nsIn K mainGlobals "divmod" = some none)
    (z_sorted : PySem.W.nsIn K mainGlobals "sorted" = some none)
    (z_str : PySem.W.nsIn K mainGlobals "str" = some none)
    (z_bool : PySem.W.nsIn K mainGlobals "bool" = some none)
    (z_isinstance : PySem.W.nsIn K mainGlobals "isinstance" = some none)
    (z_range : PySem.W.nsIn K mainGlobals "range" = some none)
    (z_enumerate : PySem.W.nsIn K mainGlobals "enumerate" = some none)
    (z_zip : PySem.W.nsIn K mainGlobals "zip" = some none)
    (z_set : PySem.W.nsIn K mainGlobals "set" = some none)
    (z_gcd : PySem.W.nsIn K mainGlobals "gcd" = some (some (.builtin "math.gcd")))
    (n_0 : PySem.W.nsIn K mainGlobals "MOST_TOWNS" = some (some (.int 8 t_0)))
    (n_1 : PySem.W.nsIn K mainGlobals "MOST_FAR" = some (some (.int 999 t_1)))
    (n_2 : PySem.W.nsIn K mainGlobals "NOUGHT" = some (some (.ref t_2)))
    (u_2 : K.lookup t_2 = some ⟨.type "tuple", td_2, .seq #[.int 0 tk_2_0, .int 1 tk_2_1] tn_2, ts_2⟩) :
    ∃ fd : FuncData, (∀ (s : Shared) (v : Value), BindsTo s fd ⟨[v], []⟩ [("script", v)]) ∧ ∀ base : Heap, K.In base → base.Ns mainGlobals mg → FnG l.prog w K mg base CX0 10 fa fd ["script"] (spOf K mg 1 m_law) := by
  have e := hfa.symm.trans (PySem.W.mg_of X G a_law__law)
  cases e
  have hz : ∀ x ∈ bltNames, mg x = none := by
    intro x hx
    simp only [bltNames, List.mem_cons, List.not_mem_nil, or_false] at hx
    rcases hx with rfl | rfl | rfl | rfl | rfl | rfl | rfl | rfl | rfl | rfl | rfl | rfl | rfl | rfl | rfl | rfl | rfl | rfl | rfl | rfl
    · exact PySem.W.mg_none_of X G z_len
    · exact PySem.W.mg_none_of X G z_abs
    · exact PySem.W.mg_none_of X G z_int
    · exact PySem.W.mg_none_of X G z_max
    · exact PySem.W.mg_none_of X G z_min
    · exact PySem.W.mg_none_of X G z_sum
    · exact PySem.W.mg_none_of X G z_all
    · exact PySem.W.mg_none_of X G z_any
    · exact PySem.W.mg_none_of X G z_tuple
    · exact PySem.W.mg_none_of X G z_list
    · exact PySem.W.mg_none_of X G z_repr
    · exact PySem.W.mg_none_of X G z_divmod
    · exact PySem.W.mg_none_of X G z_sorted
    · exact PySem.W.mg_none_of X G z_str
    · exact PySem.W.mg_none_of X G z_bool
    · exact PySem.W.mg_none_of X G z_isinstance
    · exact PySem.W.mg_none_of X G z_range
    · exact PySem.W.mg_none_of X G z_enumerate
    · exact PySem.W.mg_none_of X G z_zip
    · exact PySem.W.mg_none_of X G z_set
  have tc : TopC mg K cnames cs true := ⟨.cons (con_int (PySem.W.mg_of X G n_0)) (.cons (con_int (PySem.W.mg_of X G n_1)) (.cons (con_tup (vs := [.int 0, .int 1]) (PySem.W.mg_of X G n_2) u_2 (by show 2 ≤ sizeLine; decide) (.cons ⟨_, rfl⟩ (.cons ⟨_, rfl⟩ .nil)) fun _ _ => (.cons (.int _) (.cons (.int _) .nil))) (.nil))), hz, fun h => PySem.W.mg_of X G z_gcd⟩
  have F_law_pot := L2.fun_mk (st := top 58) l_law_pot c_law_pot k_law_pot
  have F_law_many := L2.fun_mk (st := top 70) l_law_many c_law_many k_law_many
  have F_law_draw := L2.fun_mk (st := top 59) l_law_draw c_law_draw k_law_draw
  have F_law_made := L2.fun_mk (st := top 61) l_law_made c_law_made k_law_made
  have F_law_plus := L2.fun_mk (st := top 62) l_law_plus c_law_plus k_law_plus
  have F_law_far := L2.fun_mk (st := top 68) l_law_far c_law_far k_law_far
  have F_law_numbers := L2.fun_mk (st := top 74) l_law_numbers c_law_numbers k_law_numbers
  have F_law_minus := L2.fun_mk (st := top 63) l_law_minus c_law_minus k_law_minus
  have F_law_less := L2.fun_mk (st := top 66) l_law_less c_law_less k_law_less
  have F_law_slack := L2.fun_mk (st := top 71) l_law_slack c_law_slack k_law_slack
  have F_law_lowered := L2.fun_mk (st := top 73) l_law_lowered c_law_lowered k_law_lowered
  have F_law_bent := L2.fun_mk (st := top 78) l_law_bent c_law_bent k_law_bent
  have F_sizes_are_right := L2.fun_mk (st := top 21) l_sizes_are_right c_sizes_are_right k_sizes_are_right
  have F_is_integer := L2.fun_mk (st := top 3) l_is_integer c_is_integer k_is_integer
  have F_is_count := L2.fun_mk (st := top 4) l_is_count c_is_count k_is_count
  have F_flaw_of := L2.fun_mk (st := top 22) l_flaw_of c_flaw_of k_flaw_of
  have F_table_is_right := L2.fun_mk (st := top 23) l_table_is_right c_table_is_right k_table_is_right
  have F_is_table := L2.fun_mk (st := top 30) l_is_table c_is_table k_is_table
  have F_check_table_posts := L2.fun_mk (st := top 45) l_check_table_posts c_check_table_posts k_check_table_posts
  have F_many_of_webs := L2.fun_mk (st := top 33) l_many_of_webs c_many_of_webs k_many_of_webs
  have F_is_list := L2.fun_mk (st := top 2) l_is_list c_is_list k_is_list
  have F_is_ratio := L2.fun_mk (st := top 5) l_is_ratio c_is_ratio k_is_ratio
  have F_made := L2.fun_mk (st := top 14) l_made c_made k_made
  have F_r_minus := L2.fun_mk (st := top 16) l_r_minus c_r_minus k_r_minus
  have F_r_plus := L2.fun_mk (st := top 15) l_r_plus c_r_plus k_r_plus
  have F_far := L2.fun_mk (st := top 35) l_far c_far k_far
  have F_slack_of := L2.fun_mk (st := top 38) l_slack_of c_slack_of k_slack_of
  have F_numbers_are_right := L2.fun_mk (st := top 42) l_numbers_are_right c_numbers_are_right k_numbers_are_right
  have F_check_numbers := L2.fun_mk (st := top 50) l_check_numbers c_check_numbers k_check_numbers
  have F_is_town := L2.fun_mk (st := top 48) l_is_town c_is_town k_is_town
  have F_check_town := L2.fun_mk (st := top 49) l_check_town c_check_town k_check_town
  have F_check_table_tables := L2.fun_mk (st := top 28) l_check_table_tables c_check_table_tables k_check_table_tables
  have F_many_of_tables := L2.fun_mk (st := top 24) l_many_of_tables c_many_of_tables k_many_of_tables
  have F_far_of := L2.fun_mk (st := top 26) l_far_of c_far_of k_far_of
  have F_short_of := L2.fun_mk (st := top 27) l_short_of c_short_of k_short_of
  have F_short_triple := L2.fun_mk (st := top 31) l_short_triple c_short_triple k_short_triple
  have F_check_metric := L2.fun_mk (st := top 47) l_check_metric c_check_metric k_check_metric
  have F_r_less := L2.fun_mk (st := top 17) l_r_less c_r_less k_r_less
  have F_lose_of := L2.fun_mk (st := top 39) l_lose_of c_lose_of k_lose_of
  have F_can_lose := L2.fun_mk (st := top 55) l_can_lose c_can_lose k_can_lose
  have F_law_is_ratio := L2.fun_mk (st := top 75) l_law_is_ratio c_law_is_ratio k_law_is_ratio
  have F_law_enough := L2.fun_mk (st := top 72) l_law_enough c_law_enough k_law_enough
  have F_law_size := L2.fun_mk (st := top 77) l_law_size c_law_size k_law_size
  have F_law_says := L2.fun_mk (st := top 76) l_law_says c_law_says k_law_says
  have F_lowered_by := L2.fun_mk (st := top 40) l_lowered_by c_lowered_by k_lowered_by
  have F_lowered := L2.fun_mk (st := top 56) l_lowered c_lowered k_lowered
  have F_are_enough := L2.fun_mk (st := top 51) l_are_enough c_are_enough k_are_enough
  have F_loose_of := L2.fun_mk (st := top 41) l_loose_of c_loose_of k_loose_of
  have F_post_is_right := L2.fun_mk (st := top 43) l_post_is_right c_post_is_right k_post_is_right
  have F_is_post := L2.fun_mk (st := top 52) l_is_post c_is_post k_is_post
  have F_could_be_by := L2.fun_mk (st := top 44) l_could_be_by c_could_be_by k_could_be_by
  have F_could_be := L2.fun_mk (st := top 53) l_could_be c_could_be k_could_be
  have F_loose_town := L2.fun_mk (st := top 54) l_loose_town c_loose_town k_loose_town
  have F_law_one_right := L2.fun_mk (st := top 79) l_law_one_right c_law_one_right k_law_one_right
  have F_law_metric := L2.fun_mk (st := top 69) l_law_metric c_law_metric k_law_metric
  have F_law := L2.fun_mk (st := top 80) l_law c_law k_law
  refine ⟨PySem.W.fnOf "law" "law" (defArgs (top 80)) (defBody (top 80)) (defScope (top 80)) .none kV_law dc_law pm_law an_law cd_law ct_law, fun s v => .of_eq rfl, fun base _ _ => ?_⟩
  have g_law_pot := ok_law_pot (base := base) tc (cxOk0 (P := l.prog) (w := w)) F_law_pot 
  have t_law_pot___law_pot : FnAt l.prog w K mg base CX0 1 "_law_pot" ["script", "k"] [] m_law_pot := ⟨_, _, PySem.W.mg_of X G a_law_pot___law_pot, k_law_pot, (fun us hl => match us, hl with | [_, _], _ => rfl), fun np ks perm h => by simp at h, g_law_pot⟩
  have g_law_many := ok_law_many (base := base) tc (cxOk0 (P := l.prog) (w := w)) F_law_many 
  have t_law_many___law_many : FnAt l.prog w K mg base CX0 1 "_law_many" ["table"] [] m_law_many := ⟨_, _, PySem.W.mg_of X G a_law_many___law_many, k_law_many, (fun us hl => match us, hl with | [_], _ => rfl), fun np ks perm h => by simp at h, g_law_many⟩
  have g_law_draw := ok_law_draw (base := base) tc (cxOk0 (P := l.prog) (w := w)) F_law_draw 
  have t_law_draw___law_draw : FnAt l.prog w K mg base CX0 1 "_law_draw" ["pot", "many"] [] m_law_draw := ⟨_, _, PySem.W.mg_of X G a_law_draw___law_draw, k_law_draw, (fun us hl => match us, hl with | [_, _], _ => rfl), fun np ks perm h => by simp at h, g_law_draw⟩
  have g_law_made := ok_law_made (base := base) tc (cxOk0 (P := l.prog) (w := w)) F_law_made 
  have t_law_made___law_made : FnAt l.prog w K mg base CX0 1 "_law_made" ["top", "bottom"] [] m_law_made := ⟨_, _, PySem.W.mg_of X G a_law_made___law_made, k_law_made, (fun us hl => match us, hl with | [_, _], _ => rfl), fun np ks perm h => by simp at h, g_law_made⟩
  have g_law_plus := ok_law_plus (base := base) tc (cxOk0 (P := l.prog) (w := w)) F_law_plus t_law_made___law_made
  have t_law_plus___law_plus : FnAt l.prog w K mg base CX0 2 "_law_plus" ["one", "other"] [] m_law_plus := ⟨_, _, PySem.W.mg_of X G a_law_plus___law_plus, k_law_plus, (fun us hl => match us, hl with | [_, _], _ => rfl), fun np ks perm h => by simp at h, g_law_plus⟩
  have g_law_far := ok_law_far (base := base) tc (cxOk0 (P := l.prog) (w := w)) F_law_far 
  have t_law_far___law_far : FnAt l.prog w K mg base CX0 1 "_law_far" ["table", "one", "other"] [] m_law_far := ⟨_, _, PySem.W.mg_of X G a_law_far___law_far, k_law_far, (fun us hl => match us, hl with | [_, _, _], _ => rfl), fun np ks perm h => by simp at h, g_law_far⟩
  have g_law_numbers := ok_law_numbers (base := base) tc (cxOk0 (P := l.prog) (w := w)) F_law_numbers t_law_many___law_many t_law_draw___law_draw t_law_made___law_made t_law_plus___law_plus t_law_far___law_far
  have t_law_numbers___law_numbers : FnAt l.prog w K mg base CX0 3 "_law_numbers" ["pot", "table"] [] m_law_numbers := ⟨_, _, PySem.W.mg_of X G a_law_numbers___law_numbers, k_law_numbers, (fun us hl => match us, hl with | [_, _], _ => rfl), fun np ks perm h => by simp at h, g_law_numbers⟩
  have g_law_minus := ok_law_minus (base := base) tc (cxOk0 (P := l.prog) (w := w)) F_law_minus t_law_made___law_made
  have t_law_minus___law_minus : FnAt l.prog w K mg base CX0 2 "_law_minus" ["one", "other"] [] m_law_minus := ⟨_, _, PySem.W.mg_of X G a_law_minus___law_minus, k_law_minus, (fun us hl => match us, hl with | [_, _], _ => rfl), fun np ks perm h => by simp at h, g_law_minus⟩
  have g_law_less := ok_law_less (base := base) tc (cxOk0 (P := l.prog) (w := w)) F_law_less 
  have t_law_less___law_less : FnAt l.prog w K mg base CX0 1 "_law_less" ["one", "other"] [] m_law_less := ⟨_, _, PySem.W.mg_of X G a_law_less___law_less, k_law_less, (fun us hl => match us, hl with | [_, _], _ => rfl), fun np ks perm h => by simp at h, g_law_less⟩
  have g_law_slack := ok_law_slack (base := base) tc (cxOk0 (P := l.prog) (w := w)) F_law_slack t_law_minus___law_minus t_law_plus___law_plus t_law_less___law_less t_law_far___law_far
  have t_law_slack___law_slack : FnAt l.prog w K mg base CX0 3 "_law_slack" ["table", "numbers", "town"] [] m_law_slack := ⟨_, _, PySem.W.mg_of X G a_law_slack___law_slack, k_law_slack, (fun us hl => match us, hl with | [_, _, _], _ => rfl), fun np ks perm h => by simp at h, g_law_slack⟩
  have g_law_lowered := ok_law_lowered (base := base) tc (cxOk0 (P := l.prog) (w := w)) F_law_lowered t_law_minus___law_minus t_law_slack___law_slack
  have t_law_lowered___law_lowered : FnAt l.prog w K mg base CX0 4 "_law_lowered" ["table", "numbers"] [] m_law_lowered := ⟨_, _, PySem.W.mg_of X G a_law_lowered___law_lowered, k_law_lowered, (fun us hl => match us, hl with | [_, _], _ => rfl), fun np ks perm h => by simp at h, g_law_lowered⟩
  have g_law_bent := ok_law_bent (base := base) tc (cxOk0 (P := l.prog) (w := w)) F_law_bent t_law_draw___law_draw t_law_plus___law_plus
  have t_law_bent___law_bent : FnAt l.prog w K mg base CX0 3 "_law_bent" ["pot", "numbers"] [] m_law_bent := ⟨_, _, PySem.W.mg_of X G a_law_bent___law_bent, k_law_bent, (fun us hl => match us, hl with | [_, _], _ => rfl), fun np ks perm h => by simp at h, g_law_bent⟩
  have g_sizes_are_right := ok_sizes_are_right (base := base) tc (cxOk0 (P := l.prog) (w := w)) F_sizes_are_right 
  have t_sizes_are_right__sizes_are_right : FnAt l.prog w K mg base CX0 1 "sizes_are_right" ["rows"] [] m_sizes_are_right := ⟨_, _, PySem.W.mg_of X G a_sizes_are_right__sizes_are_right, k_sizes_are_right, (fun us hl => match us, hl with | [_], _ => rfl), fun np ks perm h => by simp at h, g_sizes_are_right⟩
  have g_is_integer := ok_is_integer (base := base) tc (cxOk0 (P := l.prog) (w := w)) F_is_integer 
  have t_is_integer__is_integer : FnAt l.prog w K mg base CX0 1 "is_integer" ["value"] [] m_is_integer := ⟨_, _, PySem.W.mg_of X G a_is_integer__is_integer, k_is_integer, (fun us hl => match us, hl with | [_], _ => rfl), fun np ks perm h => by simp at h, g_is_integer⟩
  have g_is_count := ok_is_count (base := base) tc (cxOk0 (P := l.prog) (w := w)) F_is_count t_is_integer__is_integer
  have t_is_count__is_count : FnAt l.prog w K mg base CX0 2 "is_count" ["value"] [] m_is_count := ⟨_, _, PySem.W.mg_of X G a_is_count__is_count, k_is_count, (fun us hl => match us, hl with | [_], _ => rfl), fun np ks perm h => by simp at h, g_is_count⟩
  have g_flaw_of := ok_flaw_of (base := base) tc (cxOk0 (P := l.prog) (w := w)) F_flaw_of t_sizes_are_right__sizes_are_right t_is_count__is_count
  have t_flaw_of__flaw_of : FnAt l.prog w K mg base CX0 3 "flaw_of" ["value"] [] m_flaw_of := ⟨_, _, PySem.W.mg_of X G a_flaw_of__flaw_of, k_flaw_of, (fun us hl => match us, hl with | [_], _ => rfl), fun np ks perm h => by simp at h, g_flaw_of⟩
  have g_table_is_right := ok_table_is_right (base := base) tc (cxOk0 (P := l.prog) (w := w)) F_table_is_right t_flaw_of__flaw_of
  have t_table_is_right__table_is_right : FnAt l.prog w K mg base CX0 4 "table_is_right" ["value"] [] m_table_is_right := ⟨_, _, PySem.W.mg_of X G a_table_is_right__table_is_right, k_table_is_right, (fun us hl => match us, hl with | [_], _ => rfl), fun np ks perm h => by simp at h, g_table_is_right⟩
  have g_is_table := ok_is_table (base := base) tc (cxOk0 (P := l.prog) (w := w)) F_is_table t_table_is_right__table_is_right
  have t_is_table__is_table : FnAt l.prog w K mg base CX0 5 "is_table" ["value"] [] m_is_table := ⟨_, _, PySem.W.mg_of X G a_is_table__is_table, k_is_table, (fun us hl => match us, hl with | [_], _ => rfl), fun np ks perm h => by simp at h, g_is_table⟩
  have g_check_table_posts := ok_check_table_posts (base := base) tc (cxOk0 (P := l.prog) (w := w)) F_check_table_posts t_is_table__is_table
  have t_check_table_posts__check_table_posts : FnAt l.prog w K mg base CX0 6 "check_table_posts" ["table"] [] m_check_table_posts := ⟨_, _, PySem.W.mg_of X G a_check_table_posts__check_table_posts, k_check_table_posts, (fun us hl => match us, hl with | [_], _ => rfl), fun np ks perm h => by simp at h, g_check_table_posts⟩
  have g_many_of_webs := ok_many_of_webs (base := base) tc (cxOk0 (P := l.prog) (w := w)) F_many_of_webs 
  have t_many_of_webs__many_of_webs : FnAt l.prog w K mg base CX0 1 "many_of_webs" ["table"] [] m_many_of_webs := ⟨_, _, PySem.W.mg_of X G a_many_of_webs__many_of_webs, k_many_of_webs, (fun us hl => match us, hl with | [_], _ => rfl), fun np ks perm h => by simp at h, g_many_of_webs⟩
  have g_is_list := ok_is_list (base := base) tc (cxOk0 (P := l.prog) (w := w)) F_is_list 
  have t_is_list__is_list : FnAt l.prog w K mg base CX0 1 "is_list" ["value"] [] m_is_list := ⟨_, _, PySem.W.mg_of X G a_is_list__is_list, k_is_list, (fun us hl => match us, hl with | [_], _ => rfl), fun np ks perm h => by simp at h, g_is_list⟩
  have g_is_ratio := ok_is_ratio (base := base) tc (cxOk0 (P := l.prog) (w := w)) F_is_ratio t_is_integer__is_integer
  have t_is_ratio__is_ratio : FnAt l.prog w K mg base CX0 2 "is_ratio" ["value"] [] m_is_ratio := ⟨_, _, PySem.W.mg_of X G a_is_ratio__is_ratio, k_is_ratio, (fun us hl => match us, hl with | [_], _ => rfl), fun np ks perm h => by simp at h, g_is_ratio⟩
  have g_made := ok_made (base := base) tc (cxOk0 (P := l.prog) (w := w)) F_made 
  have t_made__made : FnAt l.prog w K mg base CX0 1 "made" ["top", "bottom"] [] m_made := ⟨_, _, PySem.W.mg_of X G a_made__made, k_made, (fun us hl => match us, hl with | [_, _], _ => rfl), fun np ks perm h => by simp at h, g_made⟩
  have g_r_minus := ok_r_minus (base := base) tc (cxOk0 (P := l.prog) (w := w)) F_r_minus t_made__made
  have t_r_minus__r_minus : FnAt l.prog w K mg base CX0 2 "r_minus" ["one", "other"] [] m_r_minus := ⟨_, _, PySem.W.mg_of X G a_r_minus__r_minus, k_r_minus, (fun us hl => match us, hl with | [_, _], _ => rfl), fun np ks perm h => by simp at h, g_r_minus⟩
  have g_r_plus := ok_r_plus (base := base) tc (cxOk0 (P := l.prog) (w := w)) F_r_plus t_made__made
  have t_r_plus__r_plus : FnAt l.prog w K mg base CX0 2 "r_plus" ["one", "other"] [] m_r_plus := ⟨_, _, PySem.W.mg_of X G a_r_plus__r_plus, k_r_plus, (fun us hl => match us, hl with | [_, _], _ => rfl), fun np ks perm h => by simp at h, g_r_plus⟩
  have g_far := ok_far (base := base) tc (cxOk0 (P := l.prog) (w := w)) F_far 
  have t_far__far : FnAt l.prog w K mg base CX0 1 "far" ["table", "one", "other"] [] m_far := ⟨_, _, PySem.W.mg_of X G a_far__far, k_far, (fun us hl => match us, hl with | [_, _, _], _ => rfl), fun np ks perm h => by simp at h, g_far⟩
  have g_slack_of := ok_slack_of (base := base) tc (cxOk0 (P := l.prog) (w := w)) F_slack_of t_r_minus__r_minus t_r_plus__r_plus t_far__far
  have t_slack_of__slack_of : FnAt l.prog w K mg base CX0 3 "slack_of" ["table", "numbers", "one", "other"] [] m_slack_of := ⟨_, _, PySem.W.mg_of X G a_slack_of__slack_of, k_slack_of, (fun us hl => match us, hl with | [_, _, _, _], _ => rfl), fun np ks perm h => by simp at h, g_slack_of⟩
  have g_numbers_are_right := ok_numbers_are_right (base := base) tc (cxOk0 (P := l.prog) (w := w)) F_numbers_are_right t_many_of_webs__many_of_webs t_is_list__is_list t_is_ratio__is_ratio t_slack_of__slack_of
  have t_numbers_are_right__numbers_are_right : FnAt l.prog w K mg base CX0 4 "numbers_are_right" ["table", "value"] [] m_numbers_are_right := ⟨_, _, PySem.W.mg_of X G a_numbers_are_right__numbers_are_right, k_numbers_are_right, (fun us hl => match us, hl with | [_, _], _ => rfl), fun np ks perm h => by simp at h, g_numbers_are_right⟩
  have g_check_numbers := ok_check_numbers (base := base) tc (cxOk0 (P := l.prog) (w := w)) F_check_numbers t_check_table_posts__check_table_posts t_numbers_are_right__numbers_are_right
  have t_check_numbers__check_numbers : FnAt l.prog w K mg base CX0 7 "check_numbers" ["table", "numbers"] [] m_check_numbers := ⟨_, _, PySem.W.mg_of X G a_check_numbers__check_numbers, k_check_numbers, (fun us hl => match us, hl with | [_, _], _ => rfl), fun np ks perm h => by simp at h, g_check_numbers⟩
  have g_is_town := ok_is_town (base := base) tc (cxOk0 (P := l.prog) (w := w)) F_is_town t_is_integer__is_integer t_many_of_webs__many_of_webs
  have t_is_town__is_town : FnAt l.prog w K mg base CX0 2 "is_town" ["table", "value"] [] m_is_town := ⟨_, _, PySem.W.mg_of X G a_is_town__is_town, k_is_town, (fun us hl => match us, hl with | [_, _], _ => rfl), fun np ks perm h => by simp at h, g_is_town⟩
  have g_check_town := ok_check_town (base := base) tc (cxOk0 (P := l.prog) (w := w)) F_check_town t_is_town__is_town
  have t_check_town__check_town : FnAt l.prog w K mg base CX0 3 "check_town" ["table", "town"] [] m_check_town := ⟨_, _, PySem.W.mg_of X G a_check_town__check_town, k_check_town, (fun us hl => match us, hl with | [_, _], _ => rfl), fun np ks perm h => by simp at h, g_check_town⟩
  have g_check_table_tables := ok_check_table_tables (base := base) tc (cxOk0 (P := l.prog) (w := w)) F_check_table_tables t_table_is_right__table_is_right
  have t_check_table_tables__check_table_tables : FnAt l.prog w K mg base CX0 5 "check_table_tables" ["table"] [] m_check_table_tables := ⟨_, _, PySem.W.mg_of X G a_check_table_tables__check_table_tables, k_check_table_tables, (fun us hl => match us, hl with | [_], _ => rfl), fun np ks perm h => by simp at h, g_check_table_tables⟩
  have g_many_of_tables := ok_many_of_tables (base := base) tc (cxOk0 (P := l.prog) (w := w)) F_many_of_tables 
  have t_many_of_tables__many_of_tables : FnAt l.prog w K mg base CX0 1 "many_of_tables" ["table"] [] m_many_of_tables := ⟨_, _, PySem.W.mg_of X G a_many_of_tables__many_of_tables, k_many_of_tables, (fun us hl => match us, hl with | [_], _ => rfl), fun np ks perm h => by simp at h, g_many_of_tables⟩
  have g_far_of := ok_far_of (base := base) tc (cxOk0 (P := l.prog) (w := w)) F_far_of 
  have t_far_of__far_of : FnAt l.prog w K mg base CX0 1 "far_of" ["table", "one", "other"] [] m_far_of := ⟨_, _, PySem.W.mg_of X G a_far_of__far_of, k_far_of, (fun us hl => match us, hl with | [_, _, _], _ => rfl), fun np ks perm h => by simp at h, g_far_of⟩
  have g_short_of := ok_short_of (base := base) tc (cxOk0 (P := l.prog) (w := w)) F_short_of t_many_of_tables__many_of_tables t_far_of__far_of
  have t_short_of__short_of : FnAt l.prog w K mg base CX0 2 "short_of" ["table"] [] m_short_of := ⟨_, _, PySem.W.mg_of X G a_short_of__short_of, k_short_of, (fun us hl => match us, hl with | [_], _ => rfl), fun np ks perm h => by simp at h, g_short_of⟩
  have g_short_triple := ok_short_triple (base := base) tc (cxOk0 (P := l.prog) (w := w)) F_short_triple t_check_table_tables__check_table_tables t_short_of__short_of
  have t_short_triple__short_triple : FnAt l.prog w K mg base CX0 6 "short_triple" ["table"] [] m_short_triple := ⟨_, _, PySem.W.mg_of X G a_short_triple__short_triple, k_short_triple, (fun us hl => match us, hl with | [_], _ => rfl), fun np ks perm h => by simp at h, g_short_triple⟩
  have g_check_metric := ok_check_metric (base := base) tc (cxOk0 (P := l.prog) (w := w)) F_check_metric t_short_triple__short_triple
  have t_check_metric__check_metric : FnAt l.prog w K mg base CX0 7 "check_metric" ["table"] [] m_check_metric := ⟨_, _, PySem.W.mg_of X G a_check_metric__check_metric, k_check_metric, (fun us hl => match us, hl with | [_], _ => rfl), fun np ks perm h => by simp at h, g_check_metric⟩
  have g_r_less := ok_r_less (base := base) tc (cxOk0 (P := l.prog) (w := w)) F_r_less 
  have t_r_less__r_less : FnAt l.prog w K mg base CX0 1 "r_less" ["one", "other"] [] m_r_less := ⟨_, _, PySem.W.mg_of X G a_r_less__r_less, k_r_less, (fun us hl => match us, hl with | [_, _], _ => rfl), fun np ks perm h => by simp at h, g_r_less⟩
  have g_lose_of := ok_lose_of (base := base) tc (cxOk0 (P := l.prog) (w := w)) F_lose_of t_slack_of__slack_of t_r_less__r_less
  have t_lose_of__lose_of : FnAt l.prog w K mg base CX0 4 "lose_of" ["table", "numbers", "town"] [] m_lose_of := ⟨_, _, PySem.W.mg_of X G a_lose_of__lose_of, k_lose_of, (fun us hl => match us, hl with | [_, _, _], _ => rfl), fun np ks perm h => by simp at h, g_lose_of⟩
  have g_can_lose := ok_can_lose (base := base) tc (cxOk0 (P := l.prog) (w := w)) F_can_lose t_check_numbers__check_numbers t_check_town__check_town t_check_metric__check_metric t_lose_of__lose_of
  have t_can_lose__can_lose : FnAt l.prog w K mg base CX0 8 "can_lose" ["table", "numbers", "town"] [(0, ["town", "numbers", "table"], [2, 1, 0])] m_can_lose := ⟨_, _, PySem.W.mg_of X G a_can_lose__can_lose, k_can_lose, (fun us hl => match us, hl with | [_, _, _], _ => rfl), fun np ks perm h => by
      simp only [List.mem_cons, List.not_mem_nil, or_false, Prod.mk.injEq] at h
      rcases h with ⟨rfl, rfl, rfl⟩
      · exact fun us ws h1 h2 => match us, h1, ws, h2 with | [], _, [_, _, _], _ => ⟨_, rfl, rfl⟩, g_can_lose⟩
  have g_law_is_ratio := ok_law_is_ratio (base := base) tc (cxOk0 (P := l.prog) (w := w)) F_law_is_ratio t_law_made___law_made
  have t_law_is_ratio___law_is_ratio : FnAt l.prog w K mg base CX0 2 "_law_is_ratio" ["value"] [] m_law_is_ratio := ⟨_, _, PySem.W.mg_of X G a_law_is_ratio___law_is_ratio, k_law_is_ratio, (fun us hl => match us, hl with | [_], _ => rfl), fun np ks perm h => by simp at h, g_law_is_ratio⟩
  have g_law_enough := ok_law_enough (base := base) tc (cxOk0 (P := l.prog) (w := w)) F_law_enough t_law_slack___law_slack
  have t_law_enough___law_enough : FnAt l.prog w K mg base CX0 4 "_law_enough" ["table", "numbers"] [] m_law_enough := ⟨_, _, PySem.W.mg_of X G a_law_enough___law_enough, k_law_enough, (fun us hl => match us, hl with | [_, _], _ => rfl), fun np ks perm h => by simp at h, g_law_enough⟩
  have g_law_size := ok_law_size (base := base) tc (cxOk0 (P := l.prog) (w := w)) F_law_size 
  have t_law_size___law_size : FnAt l.prog w K mg base CX0 1 "_law_size" ["number"] [] m_law_size := ⟨_, _, PySem.W.mg_of X G a_law_size___law_size, k_law_size, (fun us hl => match us, hl with | [_], _ => rfl), fun np ks perm h => by simp at h, g_law_size⟩
  have g_law_says := ok_law_says (base := base) tc (cxOk0 (P := l.prog) (w := w)) F_law_says t_law_many___law_many t_law_is_ratio___law_is_ratio t_law_enough___law_enough t_law_slack___law_slack t_law_less___law_less t_law_size___law_size t_law_far___law_far t_law_minus___law_minus
  have t_law_says___law_says : FnAt l.prog w K mg base CX0 5 "_law_says" ["table", "value"] [] m_law_says := ⟨_, _, PySem.W.mg_of X G a_law_says___law_says, k_law_says, (fun us hl => match us, hl with | [_, _], _ => rfl), fun np ks perm h => by simp at h, g_law_says⟩
  have g_lowered_by := ok_lowered_by (base := base) tc (cxOk0 (P := l.prog) (w := w)) F_lowered_by t_r_minus__r_minus t_lose_of__lose_of
  have t_lowered_by__lowered_by : FnAt l.prog w K mg base CX0 5 "lowered_by" ["table", "numbers"] [] m_lowered_by := ⟨_, _, PySem.W.mg_of X G a_lowered_by__lowered_by, k_lowered_by, (fun us hl => match us, hl with | [_, _], _ => rfl), fun np ks perm h => by simp at h, g_lowered_by⟩
  have g_lowered := ok_lowered (base := base) tc (cxOk0 (P := l.prog) (w := w)) F_lowered t_check_numbers__check_numbers t_check_metric__check_metric t_lowered_by__lowered_by
  have t_lowered__lowered : FnAt l.prog w K mg base CX0 8 "lowered" ["table", "numbers"] [(0, ["numbers", "table"], [1, 0])] m_lowered := ⟨_, _, PySem.W.mg_of X G a_lowered__lowered, k_lowered, (fun us hl => match us, hl with | [_, _], _ => rfl), fun np ks perm h => by
      simp only [List.mem_cons, List.not_mem_nil, or_false, Prod.mk.injEq] at h
      rcases h with ⟨rfl, rfl, rfl⟩
      · exact fun us ws h1 h2 => match us, h1, ws, h2 with | [], _, [_, _], _ => ⟨_, rfl, rfl⟩, g_lowered⟩
  have g_are_enough := ok_are_enough (base := base) tc (cxOk0 (P := l.prog) (w := w)) F_are_enough t_check_table_posts__check_table_posts t_check_metric__check_metric t_numbers_are_right__numbers_are_right
  have t_are_enough__are_enough : FnAt l.prog w K mg base CX0 8 "are_enough" ["table", "value"] [(0, ["value", "table"], [1, 0])] m_are_enough := ⟨_, _, PySem.W.mg_of X G a_are_enough__are_enough, k_are_enough, (fun us hl => match us, hl with | [_, _], _ => rfl), fun np ks perm h => by
      simp only [List.mem_cons, List.not_mem_nil, or_false, Prod.mk.injEq] at h
      rcases h with ⟨rfl, rfl, rfl⟩
      · exact fun us ws h1 h2 => match us, h1, ws, h2 with | [], _, [_, _], _ => ⟨_, rfl, rfl⟩, g_are_enough⟩
  have g_loose_of := ok_loose_of (base := base) tc (cxOk0 (P := l.prog) (w := w)) F_loose_of t_lose_of__lose_of
  have t_loose_of__loose_of : FnAt l.prog w K mg base CX0 5 "loose_of" ["table", "numbers"] [] m_loose_of := ⟨_, _, PySem.W.mg_of X G a_loose_of__loose_of, k_loose_of, (fun us hl => match us, hl with | [_, _], _ => rfl), fun np ks perm h => by simp at h, g_loose_of⟩
  have g_post_is_right := ok_post_is_right (base := base) tc (cxOk0 (P := l.prog) (w := w)) F_post_is_right t_numbers_are_right__numbers_are_right t_loose_of__loose_of
  have t_post_is_right__post_is_right : FnAt l.prog w K mg base CX0 6 "post_is_right" ["table", "value"] [] m_post_is_right := ⟨_, _, PySem.W.mg_of X G a_post_is_right__post_is_right, k_post_is_right, (fun us hl => match us, hl with | [_, _], _ => rfl), fun np ks perm h => by simp at h, g_post_is_right⟩
  have g_is_post := ok_is_post (base := base) tc (cxOk0 (P := l.prog) (w := w)) F_is_post t_check_table_posts__check_table_posts t_check_metric__check_metric t_post_is_right__post_is_right
  have t_is_post__is_post : FnAt l.prog w K mg base CX0 8 "is_post" ["table", "value"] [(0, ["value", "table"], [1, 0])] m_is_post := ⟨_, _, PySem.W.mg_of X G a_is_post__is_post, k_is_post, (fun us hl => match us, hl with | [_, _], _ => rfl), fun np ks perm h => by
      simp only [List.mem_cons, List.not_mem_nil, or_false, Prod.mk.injEq] at h
      rcases h with ⟨rfl, rfl, rfl⟩
      · exact fun us ws h1 h2 => match us, h1, ws, h2 with | [], _, [_, _], _ => ⟨_, rfl, rfl⟩, g_is_post⟩
  have g_could_be_by := ok_could_be_by (base := base) tc (cxOk0 (P := l.prog) (w := w)) F_could_be_by t_numbers_are_right__numbers_are_right t_r_less__r_less t_r_minus__r_minus t_far__far
  have t_could_be_by__could_be_by : FnAt l.prog w K mg base CX0 5 "could_be_by" ["table", "value"] [] m_could_be_by := ⟨_, _, PySem.W.mg_of X G a_could_be_by__could_be_by, k_could_be_by, (fun us hl => match us, hl with | [_, _], _ => rfl), fun np ks perm h => by simp at h, g_could_be_by⟩
  have g_could_be := ok_could_be (base := base) tc (cxOk0 (P := l.prog) (w := w)) F_could_be t_check_table_posts__check_table_posts t_check_metric__check_metric t_could_be_by__could_be_by
  have t_could_be__could_be : FnAt l.prog w K mg base CX0 8 "could_be" ["table", "value"] [(0, ["value", "table"], [1, 0])] m_could_be := ⟨_, _, PySem.W.mg_of X G a_could_be__could_be, k_could_be, (fun us hl => match us, hl with | [_, _], _ => rfl), fun np ks perm h => by
      simp only [List.mem_cons, List.not_mem_nil, or_false, Prod.mk.injEq] at h
      rcases h with ⟨rfl, rfl, rfl⟩
      · exact fun us ws h1 h2 => match us, h1, ws, h2 with | [], _, [_, _], _ => ⟨_, rfl, rfl⟩, g_could_be⟩
  have g_loose_town := ok_loose_town (base := base) tc (cxOk0 (P := l.prog) (w := w)) F_loose_town t_check_numbers__check_numbers t_check_metric__check_metric t_loose_of__loose_of
  have t_loose_town__loose_town : FnAt l.prog w K mg base CX0 8 "loose_town" ["table", "numbers"] [(0, ["numbers", "table"], [1, 0])] m_loose_town := ⟨_, _, PySem.W.mg_of X G a_loose_town__loose_town, k_loose_town, (fun us hl => match us, hl with | [_, _], _ => rfl), fun np ks perm h => by
      simp only [List.mem_cons, List.not_mem_nil, or_false, Prod.mk.injEq] at h
      rcases h with ⟨rfl, rfl, rfl⟩
      · exact fun us ws h1 h2 => match us, h1, ws, h2 with | [], _, [_, _], _ => ⟨_, rfl, rfl⟩, g_loose_town⟩
  have g_law_one_right := ok_law_one_right (base := base) tc (cxOk0 (P := l.prog) (w := w)) F_law_one_right t_law_numbers___law_numbers t_law_lowered___law_lowered t_law_bent___law_bent t_law_slack___law_slack t_can_lose__can_lose t_law_says___law_says t_lowered__lowered t_are_enough__are_enough t_is_post__is_post t_could_be__could_be t_loose_town__loose_town t_law_less___law_less
  have t_law_one_right___law_one_right : FnAt l.prog w K mg base CX0 9 "_law_one_right" ["pot", "table"] [] m_law_one_right := ⟨_, _, PySem.W.mg_of X G a_law_one_right___law_one_right, k_law_one_right, (fun us hl => match us, hl with | [_, _], _ => rfl), fun np ks perm h => by simp at h, g_law_one_right⟩
  have g_law_metric := ok_law_metric (base := base) tc (cxOk0 (P := l.prog) (w := w)) F_law_metric t_law_draw___law_draw
  have t_law_metric___law_metric : FnAt l.prog w K mg base CX0 2 "_law_metric" ["pot", "many"] [] m_law_metric := ⟨_, _, PySem.W.mg_of X G a_law_metric___law_metric, k_law_metric, (fun us hl => match us, hl with | [_, _], _ => rfl), fun np ks perm h => by simp at h, g_law_metric⟩
  exact ok_law (base := base) tc (cxOk0 (P := l.prog) (w := w)) F_law t_law_pot___law_pot t_law_one_right___law_one_right t_law_metric___law_metric t_law_draw___law_draw
end
end Rf.Law

set_option Elab.async false
set_option linter.all false
set_option maxRecDepth 100000
set_option maxHeartbeats 2000000
namespace Rf.Law
open PySem PySem.Spec PyProof.Rows L2 Rf
/-! ### numbers -/
def sg (b : Int) : Int := if 0 < b then 1 else -1
def gc (t b : Int) : Int := ((Nat.gcd t.natAbs b.natAbs : Nat) : Int)
/-- the ratio in its lowest form -/
def red (t b : Int) : Int × Int := (sg b * t / gc t b, (b.natAbs : Int) / gc t b)
def RD (p : Int × Int) : D := .tup [.int p.1, .int p.2]
theorem gc_pos {t b : Int} (hb : b ≠ 0) : 0 < gc t b := by
  unfold gc
  have : 0 < Nat.gcd t.natAbs b.natAbs := Nat.gcd_pos_of_pos_right _ (by omega)
  omega
theorem gc_dvd_l (t b : Int) : gc t b ∣ t := by
  unfold gc
  exact Int.ofNat_dvd_left.mpr (Nat.gcd_dvd_left _ _)
theorem gc_dvd_r (t b : Int) : gc t b ∣ b := by
  unfold gc
  exact Int.ofNat_dvd_left.mpr (Nat.gcd_dvd_right _ _)
theorem sg_mul (b : Int) : sg b * b = (b.natAbs : Int) := by
  unfold sg; split <;> omega
theorem gc_le {t b : Int} (hb : b ≠ 0) : (gc t b).natAbs ≤ b.natAbs := by
  unfold gc
  rw [Int.natAbs_natCast]
  exact Nat.le_of_dvd (by omega) (Nat.gcd_dvd_right _ _)
theorem log_lt {a b : Nat} (h : a ≤ b) (hb : b.log2 < 9000) : a.log2 < 9000 := by
  by_cases ha : a = 0
  · subst ha; decide
  · have h1 : 2 ^ a.log2 ≤ a := Nat.log2_self_le ha
    have hb0 : b ≠ 0 := by omega
    have h2 := (Nat.log2_lt hb0).mp (Nat.lt_succ_self b.log2)
    have : 2 ^ a.log2 < 2 ^ (b.log2 + 1) := by omega
    have := (Nat.pow_lt_pow_iff_right (show 1 < 2 by decide)).mp this
    omega
theorem mulOk_sg (i b : Int) : mulOk i (sg b) = true := by
  unfold mulOk sg; split <;> simp
theorem mulOk_sgl (i b : Int) : mulOk (sg b) i = true := by
  unfold mulOk sg; split <;> simp
theorem sg_cases (b : Int) : (if decide (0 < b) = true then (1 : Int) else -1) = sg b := by
  unfold sg; simp
/-! ### made -/
theorem fdiv_sg {t g s : Int} (hg : 0 < g) (hs : s = 1 ∨ s = -1) (hd : g ∣ t) : t.fdiv (g * s) = s * t / g := by
  obtain ⟨k, rfl⟩ := hd
  rcases hs with rfl | rfl
  · rw [Int.mul_one, Int.one_mul, Int.fdiv_eq_ediv_of_nonneg _ (by omega)]
  · have e1 : g * k = (-k) * (g * -1) := by rw [Int.mul_neg, Int.mul_one, Int.neg_mul_neg, Int.mul_comm]
    have e2 : -1 * (g * k) = g * (-k) := by rw [Int.mul_neg, Int.neg_mul, Int.one_mul]
    rw [e1, Int.mul_fdiv_cancel _ (by omega), ← e1, e2, Int.mul_ediv_cancel_left _ (by omega)]
theorem sg_or (b : Int) : sg b = 1 ∨ sg b = -1 := by unfold sg; split <;> simp
theorem made_spec {t b : Int} (S : Store) (hb : b ≠ 0) (hl : b.natAbs.log2 < 9000) : m_made [.d (.int t), .d (.int b)] S = .ok (.d (RD (red t b))) S := by
  unfold m_made b_made
  refine (runD_eq rfl).trans ?_
  have hg := gc_pos (t := t) hb
  have h1 : ∀ s : Int, s = 1 ∨ s = -1 → ¬ gc t b * s = 0 := fun s hs => by rcases hs with rfl | rfl <;> omega
  have h2 : ∀ s : Int, s = 1 ∨ s = -1 → (gc t b * s).natAbs.log2 < 9000 := fun s hs => by
    refine log_lt ?_ hl
    have := gc_le (t := t) hb
    rcases hs with rfl | rfl <;> simpa using this
  have e : ((Nat.gcd t.natAbs b.natAbs : Nat) : Int) = gc t b := rfl
  have hd := gc_dvd_l t b
  have hd2 := gc_dvd_r t b
  have fin : ∀ s, s = sg b → (Res.ok (RX.d (.tup [.int (t.fdiv (gc t b * s)), .int (b.fdiv (gc t b * s))])) S : Res RX) = .ok (.d (RD (red t b))) S := fun s hs => by
    subst hs
    rw [fdiv_sg hg (sg_or b) hd, fdiv_sg hg (sg_or b) hd2, sg_mul]; rfl
  by_cases hp : 0 < b
  · have hs : sg b = 1 := if_pos hp
    have m1 : mulOk (gc t b) 1 = true := by simp [mulOk]
    simp! [e, hp, m1, h1 1 (.inl rfl), h2 1 (.inl rfl)]
    exact fin 1 hs.symm
  · have hs : sg b = -1 := if_neg hp
    have m1 : mulOk (gc t b) (-1) = true := by simp [mulOk]
    simp! [e, hp, m1, h1 (-1) (.inr rfl), h2 (-1) (.inr rfl)]
    exact fin (-1) hs.symm
end Rf.Law

set_option Elab.async false
set_option linter.all false
set_option maxRecDepth 100000
set_option maxHeartbeats 2000000
namespace Rf.Law
open PySem PySem.Spec PyProof.Rows L2 Rf
theorem abs_eq (i : Int) : (if i < 0 then -i else i) = (i.natAbs : Int) := by split <;> omega
theorem fmod_nat (x y : Nat) : (x : Int).fmod (y : Int) = ((x % y : Nat) : Int) := by
  rw [Int.fmod_eq_emod_of_nonneg _ (Int.natCast_nonneg y)]; rfl
/-- half a number, in its lowest form -/
def q2 (t : Int) : D := RD (red t 2)
theorem q2_odd {t : Int} (h : t % 2 = 1) : q2 t = .tup [.int t, .int 2] := by
  unfold q2 red RD gc
  have : Nat.gcd t.natAbs 2 = 1 := by
    have h1 : t.natAbs % 2 = 1 := by omega
    rw [Nat.gcd_comm, Nat.gcd_rec, h1]; rfl
  show D.tup [.int (sg 2 * t / ((Nat.gcd t.natAbs (2 : Int).natAbs : Nat) : Int)), .int (((2 : Int).natAbs : Int) / ((Nat.gcd t.natAbs (2 : Int).natAbs : Nat) : Int))] = _
  rw [show (2 : Int).natAbs = 2 from rfl, this]
  have : sg 2 = 1 := rfl
  rw [this]
  simp
theorem q2_even {t : Int} (h : t % 2 = 0) : q2 t = .tup [.int (t / 2), .int 1] := by
  unfold q2 red RD gc
  have : Nat.gcd t.natAbs 2 = 2 := by
    have h1 : t.natAbs % 2 = 0 := by omega
    rw [Nat.gcd_comm, Nat.gcd_rec, h1]; rfl
  show D.tup [.int (sg 2 * t / ((Nat.gcd t.natAbs (2 : Int).natAbs : Nat) : Int)), .int (((2 : Int).natAbs : Int) / ((Nat.gcd t.natAbs (2 : Int).natAbs : Nat) : Int))] = _
  rw [show (2 : Int).natAbs = 2 from rfl, this]
  have : sg 2 = 1 := rfl
  rw [this]
  simp
theorem law_made_spec {t b : Int} (S : Store) (hb : b ≠ 0) (hl : b.natAbs.log2 < 9000) (hb2 : b.natAbs < 1000) : m_law_made [.d (.int t), .d (.int b)] S = .ok (.d (RD (red t b))) S := by
  unfold m_law_made b_law_made
  refine (runD_eq (np := 2) rfl).trans ?_
  simp! [abs_eq]
  generalize hF : (100000000000000000000000000000000000000000000000000000000000000000000000000000000000000000000000000000000000000000000000000000000000000000000000000000000000000000000000000000000000000000000000000000000 : Nat) = F
  have hFl : b.natAbs < F := by
    rw [← hF]
    exact Nat.lt_of_lt_of_le hb2 (by decide +kernel)
  clear hF
  obtain ⟨ρ', S', e, x, y, rfl, rfl, hg, hy⟩ := whM_st (G := []) (C := cs) (c := E.cmp CmpOp.Gt (E.var 3) (E.lit (D.int 0))) (body := Ts.cons (T.par [2, 3] (Es.cons Md.rd (E.var 3) (Es.cons Md.rd (E.bin Operator.Mod (E.var 2) (E.var 3)) Es.nil))) Ts.nil)
    (fun m ρ S' => ∃ x y : Nat, ρ = [some (.d (.int t)), some (.d (.int b)), some (.d (.int x)), some (.d (.int y)), none] ∧ S' = S ∧ Nat.gcd x y = Nat.gcd t.natAbs b.natAbs ∧ y = m)
    (fun m ρ S' ⟨x, y, e1, e2, hg, hy⟩ => by
      subst e1 e2 hy
      by_cases h0 : 0 < y
      · refine .inl ⟨S', ?_, [some (.d (.int t)), some (.d (.int b)), some (.d (.int y)), some (.d (.int ((x % y : Nat) : Int))), none], S', x % y, ?_, Nat.mod_lt _ h0, y, x % y, rfl, rfl, ?_, rfl⟩
        · have : (0 : Int) < (y : Int) := by omega
          simp! [this]
        · have h1 : ¬ (y : Int) = 0 := by omega
          simp! [h1, fmod_nat]
        · rw [← hg, Nat.gcd_comm y, Nat.gcd_comm x y]
          exact (Nat.gcd_rec y x).symm
      · have hy0 : y = 0 := by omega
        subst hy0
        refine .inr ⟨S', ?_, x, 0, rfl, rfl, hg, rfl⟩
        simp! []) (ρ := [some (.d (.int t)), some (.d (.int b)), some (.d (.int t.natAbs)), some (.d (.int b.natAbs)), none]) (S := S) (m := b.natAbs) hFl ⟨t.natAbs, b.natAbs, rfl, rfl, rfl, rfl⟩
  rw [e]
  subst hy
  rw [Nat.gcd_zero_right] at hg
  have hx : (x : Int) = gc t b := by unfold gc; rw [hg]
  rw [hx]
  have g0 := gc_pos (t := t) (b := b) hb
  have h1 : ¬ gc t b = 0 := by omega
  have h2 : (gc t b).natAbs.log2 < 9000 := log_lt (gc_le hb) hl
  have h3 : ∀ z : Int, z.fdiv (gc t b) = z / gc t b := fun z => Int.fdiv_eq_ediv_of_nonneg _ (by omega)
  have ms := mulOk_sgl t b
  by_cases hp : 0 < b
  · have hs : sg b = 1 := if_pos hp
    rw [hs] at ms
    simp! [hp, ms, h1, h2, h3, abs_eq]
    unfold red RD
    rw [hs]
  · have hs : sg b = -1 := if_neg hp
    rw [hs] at ms
    simp! [hp, neg1_int, ms, h1, h2, h3, abs_eq]
    unfold red RD
    rw [hs]
/-! ### halves -/
theorem emod2 (x : Int) : x % 2 = 0 ∨ x % 2 = 1 := by omega
theorem q2_eq (h : Int) : ∃ n d : Int, q2 h = .tup [.int n, .int d] ∧ 2 * n = h * d ∧ (d = 1 ∨ d = 2) := by
  rcases emod2 h with e | e
  · exact ⟨h / 2, 1, q2_even e, by omega, .inl rfl⟩
  · exact ⟨h, 2, q2_odd e, by omega, .inr rfl⟩
theorem red1 (t : Int) : RD (red t 1) = .tup [.int t, .int 1] := by
  unfold red RD gc
  have : Nat.gcd t.natAbs (1 : Int).natAbs = 1 := Nat.gcd_one_right _
  rw [this]
  have : sg 1 = 1 := rfl
  rw [this]
  simp
theorem red_half {t b h : Int} (hb : b = 1 ∨ b = 2 ∨ b = 4) (e : 2 * t = h * b) : RD (red t b) = q2 h := by
  rcases hb with rfl | rfl | rfl
  · rw [red1, q2_even (by omega), show h / 2 = t by omega]
  · have : t = h := by omega
    subst this; rfl
  · have et : t = 2 * h := by omega
    subst et
    rcases emod2 h with q | q
    · rw [q2_even q]
      obtain ⟨m, rfl⟩ : ∃ m, h = 2 * m := ⟨h / 2, by omega⟩
      have g4 : gc (2 * (2 * m)) 4 = 4 := by
        unfold gc
        have : Nat.gcd (2 * (2 * m)).natAbs (4 : Int).natAbs = 4 := Nat.gcd_eq_right (by show 4 ∣ _; exact ⟨m.natAbs, by omega⟩)
        rw [this]; rfl
      unfold red RD
      rw [g4]
      have : sg 4 = 1 := rfl
      rw [this, show 1 * (2 * (2 * m)) / 4 = 2 * m / 2 by omega]
      rfl
    · rw [q2_odd q]
      have g2 : gc (2 * h) 4 = 2 := by
        unfold gc
        have h1 : (2 * h).natAbs = 2 * h.natAbs := by omega
        have h2 : Nat.gcd h.natAbs 2 = 1 := by
          have h1 : h.natAbs % 2 = 1 := by omega
          rw [Nat.gcd_comm, Nat.gcd_rec, h1]; rfl
        have : Nat.gcd (2 * h).natAbs (4 : Int).natAbs = 2 := by
          rw [h1, show (4 : Int).natAbs = 2 * 2 from rfl, Nat.gcd_mul_left, h2]
        rw [this]; rfl
      unfold red RD
      rw [g2]
      have : sg 4 = 1 := rfl
      rw [this, show 1 * (2 * h) / 2 = h by omega]
      rfl
theorem far_q2 (f : Int) : D.tup [.int f, .int 1] = q2 (2 * f) := by
  rw [q2_even (by omega), show 2 * f / 2 = f by omega]
theorem mulOk_s {i j : Int} (h : j = 1 ∨ j = 2 ∨ j = 4) : mulOk i j = true := by
  rcases h with rfl | rfl | rfl <;> simp [mulOk]
theorem mulOk_s2 {i j : Int} (h : j = 1 ∨ j = 2 ∨ j = 4) : mulOk j i = true := by
  rcases h with rfl | rfl | rfl <;> simp [mulOk]
theorem law_plus_spec (x y : Int) (S : Store) : m_law_plus [.d (q2 x), .d (q2 y)] S = .ok (.d (q2 (x + y))) S := by
  obtain ⟨a, b, e1, h1, hb⟩ := q2_eq x
  obtain ⟨c, d, e2, h2, hd⟩ := q2_eq y
  rw [e1, e2]
  have hb' : b = 1 ∨ b = 2 ∨ b = 4 := by omega
  have hd' : d = 1 ∨ d = 2 ∨ d = 4 := by omega
  have hb4 : b * d = 1 ∨ b * d = 2 ∨ b * d = 4 := by
    rcases hb with rfl | rfl <;> rcases hd with rfl | rfl <;> decide
  have key : 2 * (a * d + c * b) = (x + y) * (b * d) := by
    rcases hb with rfl | rfl <;> rcases hd with rfl | rfl <;> omega
  have m := law_made_spec S (t := a * d + c * b) (b := b * d) (by omega) (by rcases hb4 with h | h | h <;> rw [h] <;> decide) (by rcases hb4 with h | h | h <;> rw [h] <;> decide)
  rw [red_half hb4 key] at m
  unfold m_law_plus b_law_plus
  refine (runD_eq (np := 2) rfl).trans ?_
  simp! [mulOk_s hd', mulOk_s hb', m]
theorem law_minus_spec (x y : Int) (S : Store) : m_law_minus [.d (q2 x), .d (q2 y)] S = .ok (.d (q2 (x - y))) S := by
  obtain ⟨a, b, e1, h1, hb⟩ := q2_eq x
  obtain ⟨c, d, e2, h2, hd⟩ := q2_eq y
  rw [e1, e2]
  have hb' : b = 1 ∨ b = 2 ∨ b = 4 := by omega
  have hd' : d = 1 ∨ d = 2 ∨ d = 4 := by omega
  have hb4 : b * d = 1 ∨ b * d = 2 ∨ b * d = 4 := by
    rcases hb with rfl | rfl <;> rcases hd with rfl | rfl <;> decide
  have key : 2 * (a * d - c * b) = (x - y) * (b * d) := by
    rcases hb with rfl | rfl <;> rcases hd with rfl | rfl <;> omega
  have m := law_made_spec S (t := a * d - c * b) (b := b * d) (by omega) (by rcases hb4 with h | h | h <;> rw [h] <;> decide) (by rcases hb4 with h | h | h <;> rw [h] <;> decide)
  rw [red_half hb4 key] at m
  unfold m_law_minus b_law_minus
  refine (runD_eq (np := 2) rfl).trans ?_
  simp! [mulOk_s hd', mulOk_s hb', m]
theorem r_plus_spec (x y : Int) (S : Store) : m_r_plus [.d (q2 x), .d (q2 y)] S = .ok (.d (q2 (x + y))) S := by
  obtain ⟨a, b, e1, h1, hb⟩ := q2_eq x
  obtain ⟨c, d, e2, h2, hd⟩ := q2_eq y
  rw [e1, e2]
  have hb' : b = 1 ∨ b = 2 ∨ b = 4 := by omega
  have hd' : d = 1 ∨ d = 2 ∨ d = 4 := by omega
  have hb4 : b * d = 1 ∨ b * d = 2 ∨ b * d = 4 := by
    rcases hb with rfl | rfl <;> rcases hd with rfl | rfl <;> decide
  have key : 2 * (a * d + c * b) = (x + y) * (b * d) := by
    rcases hb with rfl | rfl <;> rcases hd with rfl | rfl <;> omega
  have m := made_spec S (t := a * d + c * b) (b := b * d) (by omega) (by rcases hb4 with h | h | h <;> rw [h] <;> decide)
  rw [red_half hb4 key] at m
  unfold m_r_plus b_r_plus
  refine (runD_eq (np := 2) rfl).trans ?_
  simp! [mulOk_s hd', mulOk_s hb', m]
theorem r_minus_spec (x y : Int) (S : Store) : m_r_minus [.d (q2 x), .d (q2 y)] S = .ok (.d (q2 (x - y))) S := by
  obtain ⟨a, b, e1, h1, hb⟩ := q2_eq x
  obtain ⟨c, d, e2, h2, hd⟩ := q2_eq y
  rw [e1, e2]
  have hb' : b = 1 ∨ b = 2 ∨ b = 4 := by omega
  have hd' : d = 1 ∨ d = 2 ∨ d = 4 := by omega
  have hb4 : b * d = 1 ∨ b * d = 2 ∨ b * d = 4 := by
    rcases hb with rfl | rfl <;> rcases hd with rfl | rfl <;> decide
  have key : 2 * (a * d - c * b) = (x - y) * (b * d) := by
    rcases hb with rfl | rfl <;> rcases hd with rfl | rfl <;> omega
  have m := made_spec S (t := a * d - c * b) (b := b * d) (by omega) (by rcases hb4 with h | h | h <;> rw [h] <;> decide)
  rw [red_half hb4 key] at m
  unfold m_r_minus b_r_minus
  refine (runD_eq (np := 2) rfl).trans ?_
  simp! [mulOk_s hd', mulOk_s hb', m]
theorem law_less_spec (x y : Int) (S : Store) : m_law_less [.d (q2 x), .d (q2 y)] S = .ok (.d (.bl (decide (x < y)))) S := by
  obtain ⟨a, b, e1, h1, hb⟩ := q2_eq x
  obtain ⟨c, d, e2, h2, hd⟩ := q2_eq y
  rw [e1, e2]
  have hb' : b = 1 ∨ b = 2 ∨ b = 4 := by omega
  have hd' : d = 1 ∨ d = 2 ∨ d = 4 := by omega
  have key : decide (a * d < c * b) = decide (x < y) := by
    refine decide_eq_decide.mpr ?_
    rcases hb with rfl | rfl <;> rcases hd with rfl | rfl <;> omega
  unfold m_law_less b_law_less
  refine (runD_eq (np := 2) rfl).trans ?_
  simp! [mulOk_s hd', mulOk_s hb', key]
theorem r_less_spec (x y : Int) (S : Store) : m_r_less [.d (q2 x), .d (q2 y)] S = .ok (.d (.bl (decide (x < y)))) S := by
  obtain ⟨a, b, e1, h1, hb⟩ := q2_eq x
  obtain ⟨c, d, e2, h2, hd⟩ := q2_eq y
  rw [e1, e2]
  have hb' : b = 1 ∨ b = 2 ∨ b = 4 := by omega
  have hd' : d = 1 ∨ d = 2 ∨ d = 4 := by omega
  have key : decide (a * d < c * b) = decide (x < y) := by
    refine decide_eq_decide.mpr ?_
    rcases hb with rfl | rfl <;> rcases hd with rfl | rfl <;> omega
  unfold m_r_less b_r_less
  refine (runD_eq (np := 2) rfl).trans ?_
  simp! [mulOk_s hd', mulOk_s hb', key]
theorem law_size_spec (x : Int) (S : Store) : m_law_size [.d (q2 x)] S = .ok (.d (q2 (x.natAbs : Int))) S := by
  unfold m_law_size b_law_size
  refine (runD_eq (np := 1) rfl).trans ?_
  rcases emod2 x with e | e
  · rw [q2_even e, q2_even (by omega)]
    simp! [abs_eq]
    rw [show (((x / 2).natAbs : Nat) : Int) = (x.natAbs : Int) / 2 by omega]
  · rw [q2_odd e, q2_odd (by omega)]
    simp! [abs_eq]
/-! ### the draws -/
def PotC (p : Cell) : Prop := ∃ a b : Int, p = .lst [.int a, .int b] ∧ 0 ≤ a ∧ 0 ≤ b ∧ b < 2147483600
theorem fmod_pos {a k : Int} (hk : 0 < k) : 0 ≤ a.fmod k ∧ a.fmod k < k := by
  rw [Int.fmod_eq_emod_of_nonneg _ (by omega)]
  exact ⟨Int.emod_nonneg _ (by omega), Int.emod_lt_of_pos _ hk⟩
theorem fdiv_nn {a k : Int} (ha : 0 ≤ a) (hk : 0 < k) : 0 ≤ a.fdiv k := by
  rw [Int.fdiv_eq_ediv_of_nonneg _ (by omega)]
  exact Int.ediv_nonneg ha (by omega)
theorem dvmZ_at {n : Nat} {S : Store} {x : D} {xs : List D} (h : S[n]? = some (.lst (x :: xs))) (ρ : Env) (d d2 : D) (j : Nat) : dvmZ ρ d d2 n j (.d (.int 0)) S = .nx (ρ.set j (some (.d d2))) (S.set n (.lst (d :: xs))) := by
  unfold dvmZ ixN
  simp [h]
theorem subZ_at {n : Nat} {S : Store} {x y : D} {xs : List D} (h : S[n]? = some (.lst (x :: y :: xs))) (ρ : Env) (d : D) : subZ ρ d n (.d (.int 1)) S = .nx ρ (S.set n (.lst (x :: d :: xs))) := by
  unfold subZ subC ixN
  simp [h]
  rw [if_pos (by omega)]
  rfl
theorem draw_at {p : Cell} {k : Int} (hp : PotC p) (hk : 0 < k) (hk2 : k < 1000) : ∃ (j : Int) (p' : Cell), (∀ (n : Nat) (S : Store), S[n]? = some p → m_law_draw [.c n, .d (.int k)] S = .ok (.d (.int j)) (S.set n p')) ∧ PotC p' ∧ 0 ≤ j ∧ j < k := by
  obtain ⟨a, b, rfl, ha, hb, hb2⟩ := hp
  unfold m_law_draw b_law_draw
  have hk0 : ¬ k = 0 := by omega
  by_cases h0 : 0 < a
  · refine ⟨a % k, .lst [.int (a / k), .int b], ?_, ⟨_, _, rfl, Int.ediv_nonneg ha (by omega), hb, hb2⟩, Int.emod_nonneg _ (by omega), Int.emod_lt_of_pos _ hk⟩
    intro n S hn
    refine (runD_eq (np := 2) rfl).trans ?_
    have dm : 0 < k ∧ k < 1073741824 := by omega
    simp! [h0, dm, hn, dvmZ_at hn]
    rw [List.take_of_length_le (by simp)]
  · have m1 : mulOk b 40692 = true := by simp [mulOk]
    have h2 := fmod_pos (a := b * 40692 + 4909) (k := 2147483587) (by omega)
    generalize hb' : (b * 40692 + 4909).fmod 2147483587 = b' at h2
    have m2 : mulOk b' b' = true := by
      unfold mulOk
      have : b'.natAbs < 18446744073709551616 := by omega
      simp [this]
    have l17 : (19 : Int).natAbs.log2 < 9000 := by decide
    refine ⟨_, .lst [.int a, .int b'], ?_, ⟨_, _, rfl, ha, h2.1, by omega⟩, fmod_pos (a := ((b' * b').fmod 2147483563).fdiv 19) hk⟩
    intro n S hn
    have hl : n < S.length := (List.getElem?_eq_some_iff.mp hn).1
    have hn2 : ∀ c : Cell, (S.set n c)[n]? = some c := fun c => by simp [hl]
    refine (runD_eq (np := 2) rfl).trans ?_
    simp! [h0, hk0, hn, m1, hb', subZ_at hn, hn2, m2, l17, Int.reduceEq]
    rw [List.take_of_length_le (by simp)]
end Rf.Law

set_option Elab.async false
set_option linter.all false
set_option maxRecDepth 100000
set_option maxHeartbeats 2000000
namespace Rf.Law
open PySem PySem.Spec PyProof.Rows L2 Rf
theorem all_map_id' : True := trivial
/-- one turn over a pair of names, without a test -/
theorem compT_two {G : List Mir} {C : List D} {elt : E} {i j : Nat} {ρ : Env} {a b : D} {S : Store} : compT G C elt (.t (.cons (.n i) (.cons (.n j) .nil))) .no [i, j] ρ (.tup [a, b]) S = (ev G C elt ((((ρ.set j none).set i none).set i (some (.d a))).set j (some (.d b))) S).bind fun x S3 => (asD x S3).bind fun y S4 => .ok (some y) S4 := by
  unfold compT
  simp only [bindT, bindTs, Option.bind_some, wipeE, evc_no, Res.bind_ok, if_true]
/-! ### flaws -/
def sTable : Str := Str.ofString "table"
def dForm : D := .str (Str.ofString "form")
def dRows : D := .str (Str.ofString "rows")
def dNumbers : D := .str (Str.ofString "numbers")
def isT : D → Bool
  | .tup _ => true
  | _ => false
def itemsT : D → List D
  | .tup ds => ds
  | _ => []
def okn : D → Bool
  | .int i => decide (0 ≤ i) && decide (i ≤ 999)
  | _ => false
def sizesOk (k : Nat) : List D → Bool
  | [] => true
  | r :: rs => decide ((itemsT r).length = k + 1) && sizesOk (k + 1) rs
def flawR (rows : List D) : D := if rows.all isT && decide (1 ≤ rows.length ∧ rows.length < 8) && sizesOk 0 rows then (if rows.all (fun r => (itemsT r).all okn) then .non else dNumbers) else dRows
def flawW : D → D
  | .tup rows => flawR rows
  | _ => dRows
def flaw2 : D → D → D
  | .str s, w => if s = sTable then flawW w else dForm
  | _, _ => dForm
def flawD : D → D
  | .tup [a, w] => flaw2 a w
  | _ => dForm
/-- its rows, if it is a table's form, are not many and not long -/
def Short (v : D) : Prop := ∀ s rows, v = .tup [.str s, .tup rows] → rows.length ≤ line ∧ ∀ r ∈ rows, (itemsT r).length ≤ line
def isI : D → Bool
  | .int _ => true
  | _ => false
theorem is_integer_spec (d : D) (S : Store) : m_is_integer [.d d] S = .ok (.d (.bl (isI d))) S := by
  unfold m_is_integer b_is_integer
  refine (runD_eq rfl).trans ?_
  cases d <;> (simp! []; rfl)
theorem is_count_spec (d : D) (S : Store) : m_is_count [.d d] S = .ok (.d (.bl (match d with | .int i => decide (0 ≤ i) | _ => false))) S := by
  unfold m_is_count b_is_count
  refine (runD_eq rfl).trans ?_
  cases d <;> simp! [is_integer_spec, isI]
theorem sizes_spec {rows : List D} (S : Store) (h : rows.all isT = true) (hl : rows.length ≤ line) : m_sizes_are_right [.d (.tup rows)] S = .ok (.d (.bl (decide (1 ≤ rows.length ∧ rows.length < 8) && sizesOk 0 rows))) S := by
  unfold m_sizes_are_right b_sizes_are_right
  refine (runD_eq rfl).trans ?_
  have c0 : cs[0]? = some (.int 8) := rfl
  have key : ∀ (ds : List D) (k : Nat), ds.all isT = true → ((enumD k ds).map fun d => match d with
      | .tup [.int i, r] => decide (((itemsT r).length : Int) = i + 1)
      | _ => false).all id = sizesOk k ds := fun ds => by
    induction ds with
    | nil => intro k _; rfl
    | cons r rs ih =>
      intro k h
      rw [List.all_cons, Bool.and_eq_true] at h
      simp only [enumD, List.map_cons, List.all_cons, id_eq, sizesOk]
      rw [ih (k + 1) h.2]
      congr 1
      exact decide_eq_decide.mpr (by omega)
  have el : ∀ (ds : List D) (k : Nat), (enumD k ds).length = ds.length := fun ds => by
    induction ds with
    | nil => intro k; rfl
    | cons r rs ih => intro k; simp [enumD, ih]
  have em : ∀ (ds : List D) (k : Nat) (d : D), d ∈ enumD k ds → ∃ i r, d = .tup [.int i, r] ∧ r ∈ ds := fun ds => by
    induction ds with
    | nil => intro k d h; simp [enumD] at h
    | cons r rs ih =>
      intro k d h
      simp only [enumD, List.mem_cons] at h
      rcases h with rfl | h
      · exact ⟨_, r, rfl, List.mem_cons_self⟩
      · obtain ⟨i, r', e, hr⟩ := ih _ _ h
        exact ⟨i, r', e, List.mem_cons_of_mem _ hr⟩
  simp! [c0]
  by_cases h1 : (1 : Int) ≤ (rows.length : Int)
  · by_cases h2 : (rows.length : Int) < 8
    · simp! [h1, h2, c0]
      rw [cpM_map fun d => .bl (match d with
        | .tup [.int i, r] => decide (((itemsT r).length : Int) = i + 1)
        | _ => false)]
      · simp! []
        rw [bls_map]
        simp! []
        rw [key rows 0 h]
        have h3 : 1 ≤ rows.length ∧ rows.length < 8 := by omega
        simp only [h3, decide_true, Bool.true_and, and_self]
      · rw [el]; exact Nat.le_trans hl (by decide)
      · intro d hd A
        obtain ⟨i, r, rfl, hr⟩ := em _ _ _ hd
        rw [compT_two]
        have : isT r = true := List.all_eq_true.mp h r hr
        cases r with
        | tup ds => simp! []; rfl
        | _ => cases this
    · simp! [h1, h2, c0]
      have h3 : ¬ (1 ≤ rows.length ∧ rows.length < 8) := by omega
      simp only [h3, decide_false, Bool.false_and]
  · simp! [h1, c0]
    have h3 : ¬ (1 ≤ rows.length ∧ rows.length < 8) := by omega
    simp only [h3, decide_false, Bool.false_and]
end Rf.Law

set_option Elab.async false
set_option linter.all false
set_option maxRecDepth 100000
set_option maxHeartbeats 2000000
namespace Rf.Law
open PySem PySem.Spec PyProof.Rows L2 Rf
theorem all_true_of {α : Type} {p : α → Bool} {xs : List α} (h : ¬ xs.all p = true) : ∃ x ∈ xs, p x = false := by
  simpa [List.all_eq_true] using h
/-- the last loop: rows whose numbers are looked at -/
theorem num_loop {G : List Mir} {C : List D} {tg : Tg} {body : Ts} {rows : List D} {ρ : Env} {S : Store} (good : Env → Prop) (h0 : good ρ)
    (hs : ∀ r ∈ rows, ∀ ρ, good ρ → ∃ ρ1, bindT tg r ρ = some ρ1 ∧ (((itemsT r).all okn = true ∧ ∃ ρ', exs G C body ρ1 S = .nx ρ' S ∧ good ρ') ∨ ((itemsT r).all okn = false ∧ exs G C body ρ1 S = .ret (.d dNumbers) S))) :
    (∃ ρ', frM G C tg body ([], rows) ρ S = .nx ρ' S ∧ good ρ' ∧ rows.all (fun r => (itemsT r).all okn) = true) ∨ (frM G C tg body ([], rows) ρ S = .ret (.d dNumbers) S ∧ rows.all (fun r => (itemsT r).all okn) = false) := by
  rcases frM_rt (G := G) (C := C) (tg := tg) (body := body) (items := rows) (ρ := ρ) (S := S)
    (fun i ρ S' => S' = S ∧ good ρ ∧ (rows.take i).all (fun r => (itemsT r).all okn) = true) (fun r S' => r = .d dNumbers ∧ S' = S ∧ rows.all (fun r => (itemsT r).all okn) = false)
    (fun i d ρ S' hi ⟨e1, g, ha⟩ => by
      subst e1
      have hd := List.mem_of_getElem? hi
      obtain ⟨ρ1, e2, h⟩ := hs d hd ρ g
      refine ⟨ρ1, e2, ?_⟩
      rcases h with ⟨k1, ρ', e3, g'⟩ | ⟨k1, e3⟩
      · refine .inl ⟨ρ', S', e3, rfl, g', ?_⟩
        rw [List.take_succ, hi, List.all_append, ha]
        simp [k1]
      · refine .inr ⟨_, S', e3, rfl, rfl, ?_⟩
        rw [List.all_eq_false]
        exact ⟨d, hd, by simp [k1]⟩) ⟨rfl, h0, rfl⟩ with ⟨ρ', S', e, rfl, g, ha⟩ | ⟨r, S', e, rfl, rfl, ha⟩
  · exact .inl ⟨ρ', e, g, by simpa using ha⟩
  · exact .inr ⟨e, ha⟩
theorem flaw_of_spec (v : D) (S : Store) (hv : Short v) : m_flaw_of [.d v] S = .ok (.d (flawD v)) S := by
  unfold m_flaw_of b_flaw_of
  refine (runD_eq rfl).trans ?_
  have c1 : cs[1]? = some (.int 999) := rfl
  cases v with
  | tup ds =>
    match ds, hv with
    | [], _ => simp! []; rfl
    | [x], _ => simp! []; rfl
    | x :: y :: z :: r, _ =>
      have : ¬ (((r.length + 1 + 1 + 1 : Nat) : Int) = 2) := by omega
      simp! [this]
      rfl
    | [a, w], hv =>
      cases a with
      | str s =>
        by_cases hs : s = Str.ofString "table"
        · have fl : flawD (.tup [.str s, w]) = flawW w := if_pos hs
          rw [fl]
          cases w with
          | tup rows =>
            obtain ⟨hl, hl2⟩ := hv s rows rfl
            simp! [hs]
            rw [cpM_map fun d => .bl (isT d)]
            · simp! []
              rw [bls_map]
              simp! []
              rw [all_map_id]
              by_cases hT : rows.all isT = true
              · simp! [hT, sizes_spec S hT hl]
                show _ = Res.ok (RX.d (flawR rows)) S
                unfold flawR
                rw [hT, Bool.true_and]
                by_cases hz : (decide (1 ≤ rows.length ∧ rows.length < 8) && sizesOk 0 rows) = true
                · rw [hz]
                  simp! []
                  generalize hfr : frM _ _ _ _ _ _ _ = o2
                  let good : Env → Prop := fun ρ => ∃ u : Option RV, ρ = [some (.d (.tup [.str (Str.ofString "table"), .tup rows])), u, none]
                  have H : (∃ ρ', o2 = .nx ρ' S ∧ good ρ' ∧ rows.all (fun r => (itemsT r).all okn) = true) ∨ (o2 = .ret (.d dNumbers) S ∧ rows.all (fun r => (itemsT r).all okn) = false) := by
                    rw [← hfr]
                    refine num_loop good ⟨none, rfl⟩ (fun r hr ρ ⟨u, e⟩ => ?_)
                    subst e
                    refine ⟨_, rfl, ?_⟩
                    have hTr := List.all_eq_true.mp hT r hr
                    cases r with
                    | tup ns =>
                      have hn : ns.length ≤ line := hl2 _ hr
                      have key : ∀ u, cpM [m_sizes_are_right, m_is_count] cs (E.and (E.call 1 (Es.cons Md.dat (E.var 2) Es.nil)) (E.cmp CmpOp.LtE (E.var 2) (E.con 1))) (Tg.n 2) Eo.no [2] [some (.d (.tup [.str (Str.ofString "table"), .tup rows])), u, none] ([], ns) S = .ok (.f (ns.map fun d => .bl (okn d))) S := fun u => by
                        refine cpM_map _ (Nat.le_trans hn (by decide)) fun d _ A => ?_
                        rw [compT_one]
                        cases d with
                        | int i =>
                          simp! [is_count_spec]
                          by_cases h0 : 0 ≤ i
                          · simp! [h0, c1]
                            simp [okn, h0]
                          · simp! [h0, c1]
                            simp [okn, h0]
                        | _ => simp! [is_count_spec]; rfl
                      by_cases ho : ns.all okn = true
                      · refine .inl ⟨ho, [some (.d (.tup [.str (Str.ofString "table"), .tup rows])), some (.d (.tup ns)), none], ?_, some (.d (.tup ns)), rfl⟩
                        simp! [List.set_cons_succ]
                        rw [key]
                        simp! []
                        rw [bls_map]
                        simp! []
                        rw [all_map_id, ho]
                        simp! []
                      · have ho' : ns.all okn = false := by simpa using ho
                        refine .inr ⟨ho', ?_⟩
                        simp! [List.set_cons_succ]
                        rw [key]
                        simp! []
                        rw [bls_map]
                        simp! []
                        rw [all_map_id, ho']
                        simp! []
                        rfl
                    | _ => cases hTr
                  rcases H with ⟨ρ', e, ⟨u, rfl⟩, ha⟩ | ⟨e, ha⟩
                  · rw [e, ha]
                    simp! []
                  · rw [e, ha]
                    simp! []
                    rfl
                · have hz' : (decide (1 ≤ rows.length ∧ rows.length < 8) && sizesOk 0 rows) = false := by simpa using hz
                  rw [hz']
                  simp! []
                  rfl
              · have hT' : rows.all isT = false := by simpa using hT
                simp! [hT']
                show _ = Res.ok (RX.d (flawR rows)) S
                unfold flawR
                rw [hT']
                rfl
            · exact Nat.le_trans hl (by decide)
            · intro d _ A
              rw [compT_one]
              cases d <;> simp! [] <;> rfl
          | _ => simp! [hs]; rfl
        · have fl : flawD (.tup [.str s, w]) = dForm := if_neg hs
          rw [fl]
          simp! [hs]
          rfl
      | _ => simp! []; rfl
  | _ => simp! []; rfl
/-- a loop that returns where a test fails -/
theorem test_loop {G : List Mir} {C : List D} {tg : Tg} {body : Ts} {items : List D} {ρ : Env} {S : Store} (t : D → Bool) (rv : D) (good : Env → Prop) (h0 : good ρ)
    (hs : ∀ r ∈ items, ∀ ρ, good ρ → ∃ ρ1, bindT tg r ρ = some ρ1 ∧ ((t r = true ∧ ∃ ρ', exs G C body ρ1 S = .nx ρ' S ∧ good ρ') ∨ (t r = false ∧ exs G C body ρ1 S = .ret (.d rv) S))) :
    (∃ ρ', frM G C tg body ([], items) ρ S = .nx ρ' S ∧ good ρ' ∧ items.all t = true) ∨ (frM G C tg body ([], items) ρ S = .ret (.d rv) S ∧ items.all t = false) := by
  rcases frM_rt (G := G) (C := C) (tg := tg) (body := body) (items := items) (ρ := ρ) (S := S)
    (fun i ρ S' => S' = S ∧ good ρ ∧ (items.take i).all t = true) (fun r S' => r = .d rv ∧ S' = S ∧ items.all t = false)
    (fun i d ρ S' hi ⟨e1, g, ha⟩ => by
      subst e1
      have hd := List.mem_of_getElem? hi
      obtain ⟨ρ1, e2, h⟩ := hs d hd ρ g
      refine ⟨ρ1, e2, ?_⟩
      rcases h with ⟨k1, ρ', e3, g'⟩ | ⟨k1, e3⟩
      · refine .inl ⟨ρ', S', e3, rfl, g', ?_⟩
        rw [List.take_succ, hi, List.all_append, ha]
        simp [k1]
      · refine .inr ⟨_, S', e3, rfl, rfl, ?_⟩
        rw [List.all_eq_false]
        exact ⟨d, hd, by simp [k1]⟩) ⟨rfl, h0, rfl⟩ with ⟨ρ', S', e, rfl, g, ha⟩ | ⟨r, S', e, rfl, rfl, ha⟩
  · exact .inl ⟨ρ', e, g, by simpa using ha⟩
  · exact .inr ⟨e, ha⟩
def tRow : D → Bool
  | .tup [.int i, r] => isT r && decide (((itemsT r).length : Int) = i + 1)
  | _ => false
theorem tRow_all : ∀ (rows : List D) (k : Nat), (enumD k rows).all tRow = (rows.all isT && sizesOk k rows)
  | [], _ => rfl
  | r :: rs, k => by
    simp only [enumD, List.all_cons, tRow, sizesOk]
    rw [tRow_all rs (k + 1)]
    have : decide (((itemsT r).length : Int) = (k : Int) + 1) = decide ((itemsT r).length = k + 1) := decide_eq_decide.mpr (by omega)
    rw [this]
    cases isT r <;> cases decide ((itemsT r).length = k + 1) <;> cases rs.all isT <;> rfl
theorem enum_mem : ∀ (ds : List D) (k : Nat) (d : D), d ∈ enumD k ds → ∃ i r, d = .tup [.int i, r] ∧ r ∈ ds
  | [], k, d, h => by simp [enumD] at h
  | r :: rs, k, d, h => by
    simp only [enumD, List.mem_cons] at h
    rcases h with rfl | h
    · exact ⟨_, r, rfl, List.mem_cons_self⟩
    · obtain ⟨i, r', e, hr⟩ := enum_mem rs _ d h
      exact ⟨i, r', e, List.mem_cons_of_mem _ hr⟩
def isNon : D → Bool
  | .non => true
  | _ => false
theorem is_non (d : D) : cmpD .Is d .non = some (isNon d) := by cases d <;> rfl
theorem is_table_spec (v : D) (S : Store) (hv : Short v) : m_is_table [.d v] S = .ok (.d (.bl (isNon (flawD v)))) S := by
  have h : m_table_is_right [.d v] S = .ok (.d (.bl (isNon (flawD v)))) S := by
    unfold m_table_is_right b_table_is_right
    refine (runD_eq rfl).trans ?_
    simp! [flaw_of_spec v S hv, is_non]
  unfold m_is_table b_is_table
  refine (runD_eq rfl).trans ?_
  simp! [h]
end Rf.Law

set_option Elab.async false
set_option linter.all false
set_option maxRecDepth 100000
set_option maxHeartbeats 2000000
namespace Rf.Law
open PySem PySem.Spec PyProof.Rows L2 Rf
/-! ### tables -/
def rowT (f : Nat → Nat → Int) (i : Nat) : D := .tup ((List.range i).map fun j => .int (f i j))
def rowsT (n : Nat) (f : Nat → Nat → Int) : List D := (List.range (n - 1)).map fun i => rowT f (i + 1)
noncomputable def tabD (n : Nat) (f : Nat → Nat → Int) : D := opq (.tup [.str (Str.ofString "table"), .tup (rowsT n f)])
theorem tabD_eq (n : Nat) (f : Nat → Nat → Int) : tabD n f = .tup [.str (Str.ofString "table"), .tup (rowsT n f)] := opq_eq _
def ds (f : Nat → Nat → Int) (i j : Nat) : Int := if i = j then 0 else f (max i j) (min i j)
theorem ds_self (f : Nat → Nat → Int) (i : Nat) : ds f i i = 0 := if_pos rfl
theorem ds_comm (f : Nat → Nat → Int) (i j : Nat) : ds f i j = ds f j i := by
  unfold ds
  by_cases h : i = j
  · rw [h]
  · rw [if_neg h, if_neg (Ne.symm h), Nat.max_comm, Nat.min_comm]
structure Tab (n : Nat) (f : Nat → Nat → Int) : Prop where
  lo : 2 ≤ n
  hi : n ≤ 8
  nn : ∀ i j, j < i → i < n → 0 ≤ f i j ∧ f i j ≤ 999
structure Met (n : Nat) (f : Nat → Nat → Int) : Prop extends Tab n f where
  tri : ∀ i j k, i < n → j < n → k < n → ds f i j ≤ ds f i k + ds f k j
theorem Tab.ds {n : Nat} {f : Nat → Nat → Int} (h : Tab n f) {i j : Nat} (hi : i < n) (hj : j < n) : 0 ≤ ds f i j ∧ ds f i j ≤ 999 := by
  unfold Law.ds
  split
  · exact ⟨by decide, by decide⟩
  · exact h.nn _ _ (by omega) (by omega)
theorem atI_nat {α : Type} {xs : List α} {k : Nat} {x : α} (h : xs[k]? = some x) : atI xs (k : Int) = some x := by
  unfold atI ixN
  have : k < xs.length := (List.getElem?_eq_some_iff.mp h).1
  rw [if_pos (by omega), if_pos (by omega)]
  simpa using h
theorem rows_len (n : Nat) (f : Nat → Nat → Int) : (rowsT n f).length = n - 1 := by simp [rowsT]
theorem rows_at {n : Nat} {f : Nat → Nat → Int} {i : Nat} (h0 : 0 < i) (h : i < n) : atI (rowsT n f) ((i : Int) - 1) = some (rowT f i) := by
  have e : ((i : Int) - 1) = ((i - 1 : Nat) : Int) := by omega
  rw [e]
  refine atI_nat ?_
  unfold rowsT
  rw [List.getElem?_map, List.getElem?_range (by omega)]
  simp only [Option.map_some]
  rw [show i - 1 + 1 = i by omega]
theorem row_at {f : Nat → Nat → Int} {i j : Nat} (h : j < i) : atI ((List.range i).map fun j => D.int (f i j)) (j : Int) = some (.int (f i j)) := by
  refine atI_nat ?_
  rw [List.getElem?_map, List.getElem?_range h]; rfl
theorem cast_eq (a b : Nat) : ((a : Int) = (b : Int)) = (a = b) := by
  apply propext; omega
theorem max_cast (a b : Nat) : (if (b : Int) > (a : Int) then (b : Int) else (a : Int)) = ((max a b : Nat) : Int) := by split <;> omega
theorem min_cast (a b : Nat) : (if (b : Int) < (a : Int) then (b : Int) else (a : Int)) = ((min a b : Nat) : Int) := by split <;> omega
theorem far_webs {n : Nat} {f : Nat → Nat → Int} {a b : Nat} (S : Store) (ha : a < n) (hb : b < n) : m_far [.d (tabD n f), .d (.int a), .d (.int b)] S = .ok (.d (.int (ds f a b))) S := by
  unfold m_far b_far
  refine (runD_eq (np := 3) rfl).trans ?_
  rw [tabD_eq]
  by_cases h : a = b
  · subst h
    simp! []
    rw [ds_self]
  · have h' : ¬ (a : Int) = (b : Int) := by omega
    have e1 := rows_at (f := f) (n := n) (i := max a b) (by omega) (by omega)
    have e2 := row_at (f := f) (i := max a b) (j := min a b) (by omega)
    simp! [h', max_cast, min_cast, e1, rowT, e2]
    unfold ds
    rw [if_neg h]
theorem law_far_spec {n : Nat} {f : Nat → Nat → Int} {a b : Nat} (S : Store) (ha : a < n) (hb : b < n) : m_law_far [.d (tabD n f), .d (.int a), .d (.int b)] S = .ok (.d (.int (ds f a b))) S := by
  unfold m_law_far b_law_far
  refine (runD_eq (np := 3) rfl).trans ?_
  rw [tabD_eq]
  by_cases h : a = b
  · subst h
    simp! []
    rw [ds_self]
  · have h' : ¬ (a : Int) = (b : Int) := by omega
    have e1 := rows_at (f := f) (n := n) (i := max a b) (by omega) (by omega)
    have e2 := row_at (f := f) (i := max a b) (j := min a b) (by omega)
    simp! [h', max_cast, min_cast, e1, rowT, e2]
    unfold ds
    rw [if_neg h]
theorem far_spec3 {n : Nat} {f : Nat → Nat → Int} {a b : Nat} (S : Store) (ha : a < n) (hb : b < n) : m_far_of [.d (tabD n f), .d (.int a), .d (.int b)] S = .ok (.d (.int (ds f a b))) S := far_webs S ha hb
theorem many_webs {n : Nat} {f : Nat → Nat → Int} (S : Store) (h : 1 ≤ n) : m_many_of_webs [.d (tabD n f)] S = .ok (.d (.int n)) S := by
  unfold m_many_of_webs b_many_of_webs
  refine (runD_eq (np := 1) rfl).trans ?_
  rw [tabD_eq]
  simp! [rows_len]
  rw [show ((n - 1 : Nat) : Int) + 1 = (n : Int) by omega]
theorem many_tabs {n : Nat} {f : Nat → Nat → Int} (S : Store) (h : 1 ≤ n) : m_many_of_tables [.d (tabD n f)] S = .ok (.d (.int n)) S := many_webs S h
theorem many_law {n : Nat} {f : Nat → Nat → Int} (S : Store) (h : 1 ≤ n) : m_law_many [.d (tabD n f)] S = .ok (.d (.int n)) S := many_webs S h
/-! ### no flaw -/
theorem Tab.noflaw {n : Nat} {f : Nat → Nat → Int} (h : Tab n f) : flawD (tabD n f) = .non := by
  have fl : flawD (tabD n f) = flawR (rowsT n f) := by
    rw [tabD_eq]
    show (if Str.ofString "table" = sTable then flawW (.tup (rowsT n f)) else dForm) = _
    exact if_pos rfl
  rw [fl]
  unfold flawR
  have hT : (rowsT n f).all isT = true := by
    rw [List.all_eq_true]
    intro r hr
    unfold rowsT at hr
    obtain ⟨i, _, rfl⟩ := List.mem_map.mp hr
    rfl
  have hz : decide (1 ≤ (rowsT n f).length ∧ (rowsT n f).length < 8) = true := decide_eq_true (by rw [rows_len]; have := h.lo; have := h.hi; omega)
  have hs : ∀ (m k : Nat), sizesOk k ((List.range m).map fun i => rowT f (i + k + 1)) = true := fun m => by
    induction m with
    | zero => intro k; rfl
    | succ m ih =>
      intro k
      rw [List.range_succ_eq_map, List.map_cons, List.map_map]
      unfold sizesOk
      have e1 : decide ((itemsT (rowT f (0 + k + 1))).length = k + 1) = true := by simp [rowT, itemsT]
      rw [e1, Bool.true_and]
      have := ih (k + 1)
      rw [show (fun i => rowT f (i + (k + 1) + 1)) = (fun i => rowT f (i + k + 1)) ∘ Nat.succ from funext fun i => by
        show rowT f (i + (k + 1) + 1) = rowT f (i.succ + k + 1)
        rw [show i + (k + 1) + 1 = i.succ + k + 1 by omega]] at this
      exact this
  have hs0 : sizesOk 0 (rowsT n f) = true := hs (n - 1) 0
  rw [hT, hz, hs0]
  have ha : (rowsT n f).all (fun r => (itemsT r).all okn) = true := by
    rw [List.all_eq_true]
    intro r hr
    unfold rowsT at hr
    obtain ⟨i, hi, rfl⟩ := List.mem_map.mp hr
    rw [List.mem_range] at hi
    show ((List.range (i + 1)).map fun j => D.int (f (i + 1) j)).all okn = true
    rw [List.all_eq_true]
    intro d hd
    obtain ⟨j, hj, rfl⟩ := List.mem_map.mp hd
    rw [List.mem_range] at hj
    have := h.nn (i + 1) j hj (by omega)
    simp [okn, this]
  rw [ha]; rfl
theorem Tab.short {n : Nat} {f : Nat → Nat → Int} (h : Tab n f) : Short (tabD n f) := fun s rows e => by
  rw [tabD_eq] at e
  simp only [D.tup.injEq, List.cons.injEq, D.str.injEq, and_true] at e
  obtain ⟨_, rfl⟩ := e
  have := h.hi
  refine ⟨by rw [rows_len]; show n - 1 ≤ 16777216; omega, fun r hr => ?_⟩
  unfold rowsT at hr
  obtain ⟨i, hi, rfl⟩ := List.mem_map.mp hr
  rw [List.mem_range] at hi
  simp [rowT, itemsT, line]
  omega
theorem Tab.is_table {n : Nat} {f : Nat → Nat → Int} (h : Tab n f) (S : Store) : m_is_table [.d (tabD n f)] S = .ok (.d (.bl true)) S := by
  rw [is_table_spec _ S h.short, h.noflaw]; rfl
theorem Tab.right {n : Nat} {f : Nat → Nat → Int} (h : Tab n f) (S : Store) : m_table_is_right [.d (tabD n f)] S = .ok (.d (.bl true)) S := by
  unfold m_table_is_right b_table_is_right
  refine (runD_eq (np := 1) rfl).trans ?_
  simp! [flaw_of_spec _ S h.short, is_non, h.noflaw]
  rfl
theorem Tab.check_tables {n : Nat} {f : Nat → Nat → Int} (h : Tab n f) (S : Store) : m_check_table_tables [.d (tabD n f)] S = .ok (.d .non) S := by
  have k0 := h.right S
  generalize tabD n f = T at k0 ⊢
  unfold m_check_table_tables b_check_table_tables
  refine (runD_eq (np := 1) rfl).trans ?_
  simp! [k0]
/-! ### no short triple -/
theorem rng_mem {a : Int} {k : Nat} {d : D} (h : d ∈ rngD a k) : ∃ j : Nat, j < k ∧ d = .int (a + j) := by
  unfold rngD at h
  obtain ⟨j, hj, rfl⟩ := List.mem_map.mp h
  exact ⟨j, List.mem_range.mp hj, rfl⟩
theorem seqN {n : Nat} (h : n ≤ 1000) (S : Store) : seqI (.g 0 (n : Int)) S = .ok ([], rngD 0 n) S := by
  rw [seqI_g 0 n (by omega)]
  rw [show ((n : Int) - 0).toNat = n by omega]
theorem rng2 {a b : Int} (ha : 0 ≤ a ∧ a ≤ 1000) (hb : 0 ≤ b ∧ b ≤ 1000) (S : Store) : rngI (some [.int a, .int b]) S = .ok ([], rngD a (b - a).toNat) S := rngI_2 a b (by omega)
theorem rng1 {b : Int} (hb : 0 ≤ b ∧ b ≤ 1000) (S : Store) : rngI (some [.int b]) S = .ok ([], rngD 0 b.toNat) S := rngI_1 b (by omega)
theorem frM_keep {G : List Mir} {C : List D} {tg : Tg} {body : Ts} {items : List D} {ρ : Env} {S : Store} (good : Env → Prop) (h0 : good ρ)
    (hs : ∀ d ∈ items, ∀ ρ, good ρ → ∃ ρ1, bindT tg d ρ = some ρ1 ∧ ∃ ρ', exs G C body ρ1 S = .nx ρ' S ∧ good ρ') : ∃ ρ', frM G C tg body ([], items) ρ S = .nx ρ' S ∧ good ρ' := by
  obtain ⟨ρ', S', e, rfl, g⟩ := frM_st (G := G) (C := C) (tg := tg) (body := body) (items := items) (ρ := ρ) (S := S) (fun _ ρ S' => S' = S ∧ good ρ)
    (fun i d ρ S' hi ⟨e1, g⟩ => by
      subst e1
      obtain ⟨ρ1, e2, ρ', e3, g'⟩ := hs d (List.mem_of_getElem? hi) ρ g
      exact ⟨ρ1, ρ', S', e2, e3, rfl, g'⟩) ⟨rfl, h0⟩
  exact ⟨ρ', e, g⟩
theorem notin2 (s a b : Nat) : cmpD .NotIn (.int (s : Int)) (.tup [.int (a : Int), .int (b : Int)]) = some (!(decide (a = s) || decide (b = s))) := by
  have c : ∀ x y : Nat, decide ((x : Int) = (y : Int)) = decide (x = y) := fun x y => decide_eq_decide.mpr (by omega)
  simp only [cmpD, memOk, D.flat, memD, D.eq, List.all_cons, List.all_nil, List.any_cons, List.any_nil, Bool.or_false, Bool.and_self, Bool.true_or, if_true, c]
theorem Met.short_of {n : Nat} {f : Nat → Nat → Int} (h : Met n f) (S : Store) : m_short_of [.d (tabD n f)] S = .ok (.d .non) S := by
  have h1 := h.lo
  have h2 := h.hi
  have fr : ∀ {a b : Nat}, a < n → b < n → m_far_of [.d (tabD n f), .d (.int a), .d (.int b)] S = .ok (.d (.int (ds f a b))) S := fun ha hb => far_spec3 S ha hb
  have mt := many_tabs (n := n) (f := f) S (show 1 ≤ n by omega)
  generalize tabD n f = T at fr mt ⊢
  unfold m_short_of b_short_of
  refine (runD_eq (np := 1) rfl).trans ?_
  simp! [mt, seqN (show n ≤ 1000 by omega)]
  generalize hfr : frM _ _ _ _ _ _ _ = o
  let good : Env → Prop := fun ρ => ∃ u v w : Option RV, ρ = [some (.d T), some (.g 0 (n : Int)), u, v, w]
  have H : ∃ ρ', o = .nx ρ' S ∧ good ρ' := by
    rw [← hfr]
    refine frM_keep good ⟨none, none, none, rfl⟩ fun d hd ρ ⟨u, v, w, e⟩ => ?_
    subst e
    obtain ⟨i, hi, rfl⟩ := rng_mem hd
    rw [show ((0 : Int) + (i : Int)) = (i : Int) by omega]
    refine ⟨[some (.d T), some (.g 0 (n : Int)), some (.d (.int i)), v, w], rfl, ?_⟩
    simp! [seqN (show n ≤ 1000 by omega)]
    generalize hfr2 : frM _ _ _ _ _ _ _ = o2
    have H2 : ∃ ρ', o2 = .nx ρ' S ∧ (∃ v w : Option RV, ρ' = [some (.d T), some (.g 0 (n : Int)), some (.d (.int i)), v, w]) := by
      rw [← hfr2]
      refine frM_keep (fun ρ' => ∃ v w : Option RV, ρ' = [some (.d T), some (.g 0 (n : Int)), some (.d (.int i)), v, w]) ⟨v, w, rfl⟩ fun d hd ρ ⟨v, w, e⟩ => ?_
      subst e
      obtain ⟨s, hs, rfl⟩ := rng_mem hd
      rw [show ((0 : Int) + (s : Int)) = (s : Int) by omega]
      refine ⟨[some (.d T), some (.g 0 (n : Int)), some (.d (.int i)), some (.d (.int s)), w], rfl, ?_⟩
      simp! [mt, rng2 (a := (i : Int) + 1) (b := (n : Int)) (by omega) (by omega)]
      generalize hfr3 : frM _ _ _ _ _ _ _ = o3
      have H3 : ∃ ρ', o3 = .nx ρ' S ∧ (∃ w : Option RV, ρ' = [some (.d T), some (.g 0 (n : Int)), some (.d (.int i)), some (.d (.int s)), w]) := by
        rw [← hfr3]
        refine frM_keep (fun ρ' => ∃ w : Option RV, ρ' = [some (.d T), some (.g 0 (n : Int)), some (.d (.int i)), some (.d (.int s)), w]) ⟨w, rfl⟩ fun d hd ρ ⟨w, e⟩ => ?_
        subst e
        obtain ⟨j', hj', rfl⟩ := rng_mem hd
        obtain ⟨j, rfl⟩ : ∃ j : Nat, j = i + 1 + j' := ⟨_, rfl⟩
        rw [show ((i : Int) + 1 + (j' : Int)) = ((i + 1 + j' : Nat) : Int) by omega]
        have hj : i + 1 + j' < n := by omega
        generalize i + 1 + j' = j at hj
        refine ⟨[some (.d T), some (.g 0 (n : Int)), some (.d (.int i)), some (.d (.int s)), some (.d (.int j))], rfl, [some (.d T), some (.g 0 (n : Int)), some (.d (.int i)), some (.d (.int s)), some (.d (.int j))], ?_, _, rfl⟩
        have t := h.tri i j s hi hj hs
        have t' : ¬ ds f i s + ds f s j < ds f i j := by omega
        by_cases hc : (!(decide (i = s) || decide (j = s))) = true
        · simp! [notin2, hc, fr hi hj, fr hi hs, fr hs hj, t']
        · have hc' : (!(decide (i = s) || decide (j = s))) = false := by simpa using hc
          simp! [notin2, hc']
      obtain ⟨ρ', e, w', rfl⟩ := H3
      rw [e]
      exact ⟨_, by simp! []; rfl, _, _, rfl⟩
    obtain ⟨ρ', e, v', w', rfl⟩ := H2
    rw [e]
    exact ⟨_, by simp! []; rfl, _, _, _, rfl⟩
  obtain ⟨ρ', e, u, v, w, rfl⟩ := H
  rw [e]
  simp! []
theorem Met.short_triple {n : Nat} {f : Nat → Nat → Int} (h : Met n f) (S : Store) : m_short_triple [.d (tabD n f)] S = .ok (.d .non) S := by
  have k0 := h.toTab.check_tables S
  have k1 := h.short_of S
  generalize tabD n f = T at k0 k1 ⊢
  unfold m_short_triple b_short_triple
  refine (runD_eq (np := 1) rfl).trans ?_
  simp! [k0, k1]
theorem isnot_non : cmpD .IsNot .non .non = some false := rfl
theorem Met.check_metric {n : Nat} {f : Nat → Nat → Int} (h : Met n f) (S : Store) : m_check_metric [.d (tabD n f)] S = .ok (.d .non) S := by
  have k0 := h.short_triple S
  generalize tabD n f = T at k0 ⊢
  unfold m_check_metric b_check_metric
  refine (runD_eq (np := 1) rfl).trans ?_
  simp! [k0, isnot_non]
theorem Tab.check_posts {n : Nat} {f : Nat → Nat → Int} (h : Tab n f) (S : Store) : m_check_table_posts [.d (tabD n f)] S = .ok (.d .non) S := by
  have k0 := h.is_table S
  generalize tabD n f = T at k0 ⊢
  unfold m_check_table_posts b_check_table_posts
  refine (runD_eq (np := 1) rfl).trans ?_
  simp! [k0]
theorem extZ_l (ρ : Env) (n : Nat) (S : Store) (xs ys : List D) : extZ ρ n S (some (.lst xs)) (some (.lst ys)) = if xs.length + ys.length ≤ line then .nx ρ (S.set n (.lst (xs ++ ys))) else .stuck := rfl
theorem set_last (S : Store) (x y : Cell) : (S ++ [x]).set S.length y = S ++ [y] := by
  rw [List.set_append_right _ _ (Nat.le_refl _)]; simp
theorem get_last (S : Store) (x : Cell) : (S ++ [x])[S.length]? = some x := by simp
theorem flat_len {g : Nat → List D} {M : Nat} : ∀ t : Nat, (∀ s, s < t → (g s).length ≤ M) → ((List.range t).flatMap g).length ≤ t * M
  | 0, _ => by simp
  | t + 1, h => by
    rw [List.range_succ, List.flatMap_append, List.length_append]
    have h1 := flat_len t fun s hs => h s (by omega)
    have h2 := h t (by omega)
    simp only [List.flatMap_cons, List.flatMap_nil, List.append_nil]
    rw [Nat.add_mul]
    omega
theorem rng_get {a : Int} {c i : Nat} {d : D} (h : (rngD a c)[i]? = some d) : i < c ∧ d = .int (a + (i : Nat)) := by
  unfold rngD at h
  rw [List.getElem?_map] at h
  by_cases hi : i < c
  · rw [List.getElem?_range hi] at h
    simp only [Option.map_some, Option.some.injEq] at h
    exact ⟨hi, h.symm⟩
  · rw [List.getElem?_eq_none (by simpa using hi)] at h
    cases h
theorem rng_len (a : Int) (c : Nat) : (rngD a c).length = c := by simp [rngD]
theorem ext_loop {G : List Mir} {C : List D} {tg : Tg} {body : Ts} {a : Int} {cnt M : Nat} {ρ : Env} {S : Store} {base : List D} (g : Nat → List D) (good : Env → Prop) (h0 : good ρ) (hM : ∀ t, t < cnt → (g t).length ≤ M)
    (hs : ∀ t, t < cnt → ∀ ρ acc, good ρ → acc.length ≤ base.length + t * M → ∃ ρ1, bindT tg (.int (a + (t : Nat))) ρ = some ρ1 ∧ ∃ ρ', exs G C body ρ1 (S ++ [.lst acc]) = .nx ρ' (S ++ [.lst (acc ++ g t)]) ∧ good ρ') :
    ∃ ρ', frM G C tg body ([], rngD a cnt) ρ (S ++ [.lst base]) = .nx ρ' (S ++ [.lst (base ++ (List.range cnt).flatMap g)]) ∧ good ρ' := by
  obtain ⟨ρ', S', e, e1, g'⟩ := frM_st (G := G) (C := C) (tg := tg) (body := body) (items := rngD a cnt) (ρ := ρ) (S := S ++ [.lst base]) (fun i ρ S' => S' = S ++ [.lst (base ++ (List.range i).flatMap g)] ∧ good ρ)
    (fun i d ρ S' hi ⟨e1, g1⟩ => by
      subst e1
      obtain ⟨hlt, rfl⟩ := rng_get hi
      have hl : (base ++ (List.range i).flatMap g).length ≤ base.length + i * M := by
        rw [List.length_append]
        have := flat_len (g := g) i fun s hs => hM s (by omega)
        omega
      obtain ⟨ρ1, e2, ρ', e3, g2⟩ := hs i hlt ρ _ g1 hl
      refine ⟨ρ1, ρ', _, e2, e3, ?_, g2⟩
      rw [List.range_succ, List.flatMap_append, List.append_assoc]
      simp) ⟨by simp, h0⟩
  rw [rng_len] at e1
  subst e1
  exact ⟨ρ', e, g'⟩
/-! ### small tools -/
section
variable {G : List Mir} {C : List D}
theorem frM_nil {tg : Tg} {body : Ts} {ρ : Env} {S : Store} : frM G C tg body ([], []) ρ S = .nx ρ S := by
  unfold frM forGo
  rw [if_pos (srcOk_nil _)]
theorem frM_step {tg : Tg} {body : Ts} {d : D} {ds : List D} {ρ ρ1 ρ' : Env} {S S' : Store} (h1 : bindT tg d ρ = some ρ1) (h2 : exs G C body ρ1 S = .nx ρ' S') : frM G C tg body ([], d :: ds) ρ S = frM G C tg body ([], ds) ρ' S' := by
  unfold frM
  have e : frB G C tg body d ρ S = .nx ρ' S' := by
    unfold frB
    rw [h1]; exact h2
  show forGo [] (frB G C tg body) (d :: ds) ρ S = _
  conv => lhs; unfold forGo
  rw [if_pos (srcOk_nil _), e]
theorem compT_if {elt e : E} {i : Nat} {ρ : Env} {d : D} {S : Store} : compT G C elt (.n i) (.yes e) [i] ρ d S = (ev G C e ((ρ.set i none).set i (some (.d d))) S).tr.bind fun b S2 => if b then (ev G C elt ((ρ.set i none).set i (some (.d d))) S2).bind fun x S3 => (asD x S3).bind fun y S4 => .ok (some y) S4 else .ok none S2 := by
  unfold compT
  simp only [bindT, wipeE, evc_yes]
theorem cpM_filt_src {src : List (Nat × List D)} {elt : E} {tg : Tg} {cond : Eo} {own : List Nat} {ρ : Env} {S : Store} {items : List D} (g : D → Option D) (hsrc : ∀ A, srcOk src (S ++ [A]) = true) (hl : items.length ≤ line)
    (hf : ∀ d ∈ items, ∀ A, compT G C elt tg cond own ρ d (S ++ [A]) = .ok (g d) (S ++ [A])) : cpM G C elt tg cond own ρ (src, items) S = .ok (.f (items.filterMap g)) S := by
  unfold cpM
  exact comp_pure (src := src) (f := compT G C elt tg cond own ρ) (g := g) (items := items) (S := S) hsrc hf hl
end
theorem seqI_c {n : Nat} {S : Store} {ds : List D} (h : cellAt S n = some ds) : seqI (.c n) S = .ok ([(n, ds)], ds) S := by
  show (match cellAt S n with
      | some ds => Res.ok ([(n, ds)], ds) S
      | none => (match mxAt S n with
        | some es => .ok ([], es.map MX.dat) (S.set n (.fz (es.map MX.dat)))
        | none => .stuck)) = _
  rw [h]
theorem seqI_m {n : Nat} {S : Store} {es : List MX} (h : S[n]? = some (.mx es)) : seqI (.c n) S = .ok ([], es.map MX.dat) (S.set n (.fz (es.map MX.dat))) := by
  have h1 : cellAt S n = none := by unfold cellAt; rw [h]
  have h2 : mxAt S n = some es := by unfold mxAt; rw [h]
  show (match cellAt S n with
      | some ds => Res.ok ([(n, ds)], ds) S
      | none => (match mxAt S n with
        | some es => .ok ([], es.map MX.dat) (S.set n (.fz (es.map MX.dat)))
        | none => .stuck)) = _
  rw [h1]
  show (match mxAt S n with
        | some es => Res.ok ([], es.map MX.dat) (S.set n (.fz (es.map MX.dat)))
        | none => .stuck) = _
  rw [h2]
theorem get_0 (S : Store) (x y : Cell) : (S ++ [x] ++ [y])[S.length]? = some x := by simp
theorem get_1 (S : Store) (x y : Cell) : (S ++ [x] ++ [y])[S.length + 1]? = some y := by simp
theorem set_1 (S : Store) (x y w : Cell) : (S ++ [x] ++ [y]).set (S.length + 1) w = S ++ [x] ++ [w] := by
  rw [show S.length + 1 = (S ++ [x]).length by simp, set_last]
end Rf.Law

set_option Elab.async false
set_option linter.all false
set_option maxRecDepth 100000
set_option maxHeartbeats 2000000
namespace Rf.Law
open PySem PySem.Spec PyProof.Rows L2 Rf
/-! ### squares of numbers -/
def rowL (n : Nat) (f : Nat → Nat → Int) (i : Nat) : List D := (List.range n).map fun j => .int (f i j)
section
variable {n : Nat} {f g : Nat → Nat → Int} {i j : Nat}
theorem rowL_len : (rowL n f i).length = n := by simp [rowL]
theorem rowL_at (h : j < n) : (rowL n f i)[j]? = some (.int (f i j)) := by
  unfold rowL
  rw [List.getElem?_map, List.getElem?_range h]; rfl
theorem atRow (h : j < n) : atI (rowL n f i) (j : Int) = some (.int (f i j)) := atI_nat (rowL_at h)
theorem ixN_nat {m k : Nat} (h : k < m) : ixN m (k : Int) = some k := by
  unfold ixN
  rw [if_pos (by omega), if_pos (by omega)]
  simp
end
theorem st_loop {G : List Mir} {C : List D} {tg : Tg} {body : Ts} {a : Int} {cnt : Nat} {ρ : Env} {S0 : Store} (F : Nat → Store) (e0 : S0 = F 0) (good : Env → Prop) (h0 : good ρ)
    (hs : ∀ t, t < cnt → ∀ ρ, good ρ → ∃ ρ1, bindT tg (.int (a + (t : Nat))) ρ = some ρ1 ∧ ∃ ρ', exs G C body ρ1 (F t) = .nx ρ' (F (t + 1)) ∧ good ρ') :
    ∃ ρ', frM G C tg body ([], rngD a cnt) ρ S0 = .nx ρ' (F cnt) ∧ good ρ' := by
  subst e0
  obtain ⟨ρ', S', e, e1, g'⟩ := frM_st (G := G) (C := C) (tg := tg) (body := body) (items := rngD a cnt) (ρ := ρ) (S := F 0) (fun i ρ S' => S' = F i ∧ good ρ)
    (fun i d ρ S' hi ⟨e1, g1⟩ => by
      subst e1
      obtain ⟨hlt, rfl⟩ := rng_get hi
      obtain ⟨ρ1, e2, ρ', e3, g2⟩ := hs i hlt ρ g1
      exact ⟨ρ1, ρ', _, e2, e3, rfl, g2⟩) ⟨rfl, h0⟩
  rw [rng_len] at e1
  subst e1
  exact ⟨ρ', e, g'⟩
theorem inv_loop {G : List Mir} {C : List D} {tg : Tg} {body : Ts} {a : Int} {cnt : Nat} {ρ : Env} {S : Store} (Inv : Nat → Env → Store → Prop) (h0 : Inv 0 ρ S)
    (hs : ∀ t, t < cnt → ∀ ρ S, Inv t ρ S → ∃ ρ1, bindT tg (.int (a + (t : Nat))) ρ = some ρ1 ∧ ∃ ρ' S', exs G C body ρ1 S = .nx ρ' S' ∧ Inv (t + 1) ρ' S') :
    ∃ ρ' S', frM G C tg body ([], rngD a cnt) ρ S = .nx ρ' S' ∧ Inv cnt ρ' S' := by
  obtain ⟨ρ', S', e, i⟩ := frM_st (G := G) (C := C) (tg := tg) (body := body) (items := rngD a cnt) (ρ := ρ) (S := S) Inv
    (fun i d ρ S' hi I => by
      obtain ⟨hlt, rfl⟩ := rng_get hi
      obtain ⟨ρ1, e2, ρ', S2, e3, g2⟩ := hs i hlt ρ S' I
      exact ⟨ρ1, ρ', _, e2, e3, g2⟩) h0
  rw [rng_len] at i
  exact ⟨ρ', S', e, i⟩
theorem take_row (n : Nat) (f : Nat → Nat → Int) (i : Nat) (h : i ≤ n) : D.tup ((rowL n f i).take i) = rowT f i := by
  unfold rowL rowT
  rw [← List.map_take, List.take_range, Nat.min_eq_left h]
theorem cut_to {xs : List D} {n : Nat} (h : n ≤ xs.length) : cutD xs none (some (n : Int)) = xs.take n := by
  unfold cutD
  rw [HT.sIx_none, HT.sIx_nat, Nat.min_eq_left h]
  simp
def stF (d : Nat → Nat → Int) (s : Nat) : Nat → Nat → Int := fun a b => if d a s + d s b < d a b then d a s + d s b else d a b
def fw (d : Nat → Nat → Int) : Nat → Nat → Nat → Int
  | 0 => d
  | s + 1 => stF (fw d s) s
structure FI (n s : Nat) (g : Nat → Nat → Int) : Prop where
  sym : ∀ a b, a < n → b < n → g a b = g b a
  nn : ∀ a b, a < n → b < n → 0 ≤ g a b ∧ g a b ≤ 999
  dg : ∀ a, a < n → g a a = 0
  tri : ∀ a b k, a < n → b < n → k < s → g a b ≤ g a k + g k b
theorem FI.step {n s : Nat} {g : Nat → Nat → Int} (h : FI n s g) (hs : s < n) : FI n (s + 1) (stF g s) where
  sym a b ha hb := by
    have h1 := h.sym a b ha hb
    have h2 := h.sym a s ha hs
    have h3 := h.sym s b hs hb
    unfold stF
    split <;> split <;> omega
  nn a b ha hb := by
    have h1 := h.nn a b ha hb
    have h2 := h.nn a s ha hs
    have h3 := h.nn s b hs hb
    unfold stF
    split <;> omega
  dg a ha := by
    have h1 := h.dg a ha
    have h2 := h.nn a s ha hs
    have h3 := h.nn s a hs ha
    unfold stF
    split <;> omega
  tri a b k ha hb hk := by
    have d0 := h.dg s hs
    by_cases e : k = s
    · subst e
      have h1 := h.nn a k ha hs
      have h2 := h.nn k b hs hb
      unfold stF
      (repeat' split) <;> omega
    · have hk' : k < s := by omega
      have hkn : k < n := by omega
      have t1 := h.tri a b k ha hb hk'
      have t2 := h.tri s b k hs hb hk'
      have t3 := h.tri a s k ha hs hk'
      have n1 := h.nn k s hkn hs
      have n2 := h.nn s k hs hkn
      unfold stF
      (repeat' split) <;> omega
theorem FI.fw {n : Nat} {d : Nat → Nat → Int} (h : FI n 0 d) : ∀ s, s ≤ n → FI n s (fw d s)
  | 0, _ => h
  | s + 1, hs => (FI.fw h s (by omega)).step (by omega)
theorem FI.met {n : Nat} {d : Nat → Nat → Int} (h : FI n n d) (lo : 2 ≤ n) (hi : n ≤ 8) : Met n d where
  lo := lo
  hi := hi
  nn i j h1 h2 := h.nn i j h2 (by omega)
  tri i j k h1 h2 h3 := by
    have e : ∀ a b, a < n → b < n → ds d a b = d a b := fun a b ha hb => by
      unfold ds
      by_cases q : a = b
      · subst q
        rw [if_pos rfl, h.dg a ha]
      · rw [if_neg q]
        by_cases w : a < b
        · rw [Nat.max_eq_right (by omega), Nat.min_eq_left (by omega), h.sym a b ha hb]
        · rw [Nat.max_eq_left (by omega), Nat.min_eq_right (by omega)]
    rw [e i j h1 h2, e i k h1 h3, e k j h3 h2]
    exact h.tri i j k h1 h2 h3
def addF (f : Nat → Nat → Int) (t : Nat) (v : Nat → Int) : Nat → Nat → Int := fun a b => if a = t then v b else f a b
theorem addF_old {f : Nat → Nat → Int} {t : Nat} {v : Nat → Int} {a b : Nat} (ha : a < t) (hb : b < t) : ds (addF f t v) a b = ds f a b := by
  unfold ds addF
  by_cases h : a = b
  · simp [h]
  · rw [if_neg h, if_neg h, if_neg (by omega)]
theorem addF_new {f : Nat → Nat → Int} {t : Nat} {v : Nat → Int} {b : Nat} (hb : b < t) : ds (addF f t v) t b = v b := by
  unfold ds addF
  rw [if_neg (by omega), if_pos (by omega), Nat.min_eq_right (by omega)]
theorem addF_new2 {f : Nat → Nat → Int} {t : Nat} {v : Nat → Int} {b : Nat} (hb : b < t) : ds (addF f t v) b t = v b := by
  rw [ds_comm, addF_new hb]
/-- rows that stand in a list -/
def triL (t : Nat) (f : Nat → Nat → Int) : List MX := (List.range (t - 1)).map fun i => .l ((List.range (i + 1)).map fun j => .int (f (i + 1) j))
theorem triL_len (t : Nat) (f : Nat → Nat → Int) : (triL t f).length = t - 1 := by simp [triL]
theorem triL_at {t : Nat} {f : Nat → Nat → Int} {i : Nat} (h0 : 0 < i) (h : i < t) : (triL t f)[i - 1]? = some (.l ((List.range i).map fun j => .int (f i j))) := by
  unfold triL
  rw [List.getElem?_map, List.getElem?_range (by omega)]
  simp only [Option.map_some]
  rw [show i - 1 + 1 = i by omega]
theorem ixN_1 {m i : Nat} (h0 : 0 < i) (h : i ≤ m) : ixN m ((i : Int) - 1) = some (i - 1) := by
  rw [show ((i : Int) - 1) = ((i - 1 : Nat) : Int) by omega]
  exact ixN_nat (by omega)
theorem mxI_tri {t : Nat} {f : Nat → Nat → Int} {i : Nat} (h0 : 0 < i) (h : i < t) (m : Nat) (S : Store) : mxI m S (some (triL t f)) ((i : Int) - 1) = .ok (.r m (i - 1)) S := by
  show (match ixN (triL t f).length ((i : Int) - 1) with
    | some j => (match (triL t f)[j]? with
      | some (.a d) => Res.ok (RX.d d) S
      | some (.l _) => .ok (.r m j) S
      | none => .stuck)
    | none => .stuck) = _
  rw [triL_len, ixN_1 h0 (by omega)]
  show (match (triL t f)[i - 1]? with
    | some (.a d) => Res.ok (RX.d d) S
    | some (.l _) => .ok (.r m (i - 1)) S
    | none => .stuck) = _
  rw [triL_at h0 h]
theorem triL_add (t : Nat) (f : Nat → Nat → Int) (v : Nat → Int) (h : 1 ≤ t) : triL t f ++ [.l ((List.range t).map fun j => .int (v j))] = triL (t + 1) (addF f t v) := by
  unfold triL
  obtain ⟨m, rfl⟩ : ∃ m, t = m + 1 := ⟨t - 1, by omega⟩
  rw [show m + 1 + 1 - 1 = m + 1 by omega, show m + 1 - 1 = m by omega]
  have e : ∀ g : Nat → MX, (List.range (m + 1)).map g = (List.range m).map g ++ [g m] := fun g => by rw [List.range_succ, List.map_append]; rfl
  rw [e]
  congr 1
  · apply List.map_congr_left
    intro i hi
    rw [List.mem_range] at hi
    congr 1
    apply List.map_congr_left
    intro j _
    unfold addF
    rw [if_neg (by omega)]
  · simp [addF]
theorem gt1 (p x : Cell) (R : Store) : (p :: (R ++ [x]))[R.length + 1]? = some x := by simp
theorem gt2 (p x y : Cell) (R : Store) : (p :: (R ++ [x] ++ [y]))[R.length + 1]? = some x := by simp
theorem gt3 (p x y : Cell) (R : Store) : (p :: (R ++ [x] ++ [y]))[R.length + 1 + 1]? = some y := by simp
theorem st1 (p x y : Cell) (R : Store) : (p :: (R ++ [x])).set (R.length + 1) y = p :: (R ++ [y]) := by
  rw [List.set_cons_succ, set_last]
theorem st3 (p x y z : Cell) (R : Store) : (p :: (R ++ [x] ++ [y])).set (R.length + 1 + 1) z = p :: (R ++ [x] ++ [z]) := by
  rw [List.set_cons_succ, show R.length + 1 = (R ++ [x]).length by simp, set_last]
theorem appZ_l (ρ : Env) (n : Nat) (d : D) (S : Store) (ds : List D) (h : S[n]? = some (.lst ds)) (hl : ds.length < line) : appZ ρ n d S = .nx ρ (S.set n (.lst (ds ++ [d]))) := by
  unfold appZ
  rw [h]
  exact if_pos hl
theorem tri_item {t : Nat} {f : Nat → Nat → Int} {i j : Nat} (hj : j < i) (hi : i < t) : ∃ ds, (triL t f)[i - 1]? = some (.l ds) ∧ atI ds (j : Int) = some (.int (f i j)) := ⟨_, triL_at (by omega) hi, row_at hj⟩
theorem gath1 (k : Nat) (S : Store) (ds : List D) (h : S.length = k) : gathM k (S ++ [.lst ds]) [.c k] = .ok (.fm [.l ds]) S := by
  subst h
  have e : gath S.length (S ++ [.lst ds]) [.c S.length] = some [.l ds] := by
    simp [gath]
  unfold gathM
  rw [e, if_pos (by show 1 ≤ 16777216; decide)]
  simp
/-! ### distances changed -/
def updT (f : Nat → Nat → Int) (i j : Nat) (v : Int) : Nat → Nat → Int := fun a b => if a = i ∧ b = j then v else f a b
theorem triL_set {t : Nat} {f : Nat → Nat → Int} {i j : Nat} (h0 : 0 < i) (hi : i < t) (hj : j < i) (v : Int) : (triL t f).set (i - 1) (.l (((List.range i).map fun j => D.int (f i j)).set j (.int v))) = triL t (updT f i j v) := by
  apply List.ext_getElem?
  intro a
  by_cases ha : a < t - 1
  · by_cases e : a = i - 1
    · subst e
      rw [List.getElem?_set_self (by rw [triL_len]; exact ha), triL_at h0 hi]
      congr 2
      apply List.ext_getElem?
      intro b
      by_cases hb : b < i
      · by_cases e2 : b = j
        · subst e2
          rw [List.getElem?_set_self (by simpa using hb), List.getElem?_map, List.getElem?_range hb]
          simp [updT]
        · rw [List.getElem?_set_ne (Ne.symm e2), List.getElem?_map, List.getElem?_map, List.getElem?_range hb]
          simp [updT, e2]
      · rw [List.getElem?_eq_none (by simpa using hb), List.getElem?_eq_none (by simpa using hb)]
    · rw [List.getElem?_set_ne (Ne.symm e)]
      unfold triL
      rw [List.getElem?_map, List.getElem?_map, List.getElem?_range ha]
      simp only [Option.map_some]
      congr 2
      apply List.map_congr_left
      intro b _
      unfold updT
      rw [if_neg (by omega)]
  · rw [List.getElem?_eq_none (by rw [List.length_set, triL_len]; omega), List.getElem?_eq_none (by rw [triL_len]; omega)]
theorem subR_tri {t : Nat} {f : Nat → Nat → Int} {i j : Nat} (h0 : 0 < i) (hi : i < t) (hj : j < i) (ρ : Env) (v : Int) (m : Nat) (S : Store) : subR ρ (.int v) m (i - 1) S (j : Int) (some (triL t f)) = .nx ρ (S.set m (.mx (triL t (updT f i j v)))) := by
  show (match (triL t f)[i - 1]? with
    | some (.l ds) => (match ixN ds.length (j : Int) with
      | some t' => Out.nx ρ (S.set m (.mx ((triL t f).set (i - 1) (.l (ds.set t' (.int v))))))
      | none => .stuck)
    | _ => .stuck) = _
  rw [triL_at h0 hi]
  show (match ixN ((List.range i).map fun j => D.int (f i j)).length (j : Int) with
      | some t' => Out.nx ρ (S.set m (.mx ((triL t f).set (i - 1) (.l (((List.range i).map fun j => D.int (f i j)).set t' (.int v))))))
      | none => .stuck) = _
  rw [ixN_nat (by simpa using hj), ← triL_set h0 hi hj]
def OK (n : Nat) (f : Nat → Nat → Int) : Prop := ∀ i j, j < i → i < n → 0 ≤ f i j ∧ f i j ≤ 999
theorem OK.upd {n : Nat} {f : Nat → Nat → Int} (h : OK n f) (i j : Nat) {v : Int} (hv : 0 ≤ v ∧ v ≤ 999) : OK n (updT f i j v) := fun a b h1 h2 => by
  unfold updT
  split
  · exact hv
  · exact h a b h1 h2
theorem tri_dat (n : Nat) (f : Nat → Nat → Int) : (triL n f).map MX.dat = (List.range (n - 1)).map fun i => D.lst ((List.range (i + 1)).map fun j => D.int (f (i + 1) j)) := by
  unfold triL
  rw [List.map_map]; rfl
theorem tri_at {n : Nat} {f : Nat → Nat → Int} {i : Nat} (h0 : 0 < i) (h : i < n) : atI ((triL n f).map MX.dat) ((i : Int) - 1) = some (.lst ((List.range i).map fun j => D.int (f i j))) := by
  rw [show ((i : Int) - 1) = ((i - 1 : Nat) : Int) by omega]
  refine atI_nat ?_
  rw [List.getElem?_map, triL_at h0 h]; rfl
theorem subC_at {ds : List D} {i : Nat} (h : i < ds.length) (ρ : Env) (d : D) (n : Nat) (S : Store) : subC ρ d n S (i : Int) (some (.lst ds)) = .nx ρ (S.set n (.lst (ds.set i d))) := by
  show (match ixN ds.length (i : Int) with
    | some t => Out.nx ρ (S.set n (.lst (ds.set t d)))
    | none => .stuck) = _
  rw [ixN_nat h]
end Rf.Law

set_option Elab.async false
set_option linter.all false
set_option maxRecDepth 100000
set_option maxHeartbeats 2000000
namespace Rf.Law
open PySem PySem.Spec PyProof.Rows L2 Rf
/-! ### ways made shorter, again and again -/
def rlx (f : Nat → Nat → Int) (t o k : Nat) : Nat → Nat → Int := updT f t o (if ds f t k + ds f o k < f t o then ds f t k + ds f o k else f t o)
theorem ds_lt {f : Nat → Nat → Int} {i j : Nat} (h : j < i) : ds f i j = f i j := by
  unfold ds
  rw [if_neg (by omega), Nat.max_eq_left (by omega), Nat.min_eq_right (by omega)]
theorem ds_upd {f : Nat → Nat → Int} {t o : Nat} (h : o < t) (v : Int) (i j : Nat) : ds (updT f t o v) i j = if (i = t ∧ j = o) ∨ (i = o ∧ j = t) then v else ds f i j := by
  unfold ds updT
  by_cases e : i = j
  · rw [if_pos e, if_pos e, if_neg (by omega)]
  · rw [if_neg e, if_neg e]
    rcases Nat.lt_or_gt_of_ne e with q | q
    · rw [Nat.max_eq_right (by omega), Nat.min_eq_left (by omega)]
      by_cases z : j = t ∧ i = o
      · rw [if_pos z, if_pos (.inr ⟨z.2, z.1⟩)]
      · rw [if_neg z, if_neg (by omega)]
    · rw [Nat.max_eq_left (by omega), Nat.min_eq_right (by omega)]
      by_cases z : i = t ∧ j = o
      · rw [if_pos z, if_pos (.inl z)]
      · rw [if_neg z, if_neg (by omega)]
theorem rlx_le {f : Nat → Nat → Int} {t o k : Nat} (h : o < t) (i j : Nat) : ds (rlx f t o k) i j ≤ ds f i j := by
  unfold rlx
  rw [ds_upd h]
  split
  · rename_i z
    have e : ds f i j = f t o := by
      rcases z with ⟨rfl, rfl⟩ | ⟨rfl, rfl⟩
      · exact ds_lt h
      · rw [ds_comm]; exact ds_lt h
    rw [e]
    split <;> omega
  · exact Int.le_refl _
theorem rlx_at {f : Nat → Nat → Int} {t o k : Nat} (h : o < t) : ds (rlx f t o k) t o ≤ ds f t k + ds f o k := by
  unfold rlx
  rw [ds_upd h, if_pos (.inl ⟨rfl, rfl⟩)]
  split <;> omega
/-- never below what keeps the triangles -/
structure LB (n : Nat) (δ f : Nat → Nat → Int) : Prop where
  lb : ∀ i j, i < n → j < n → δ i j ≤ ds f i j
  ok : OK n f
theorem LB.rlx {n : Nat} {δ f : Nat → Nat → Int} (H : LB n δ f) (D : FI n n δ) {t o k : Nat} (ho : o < t) (ht : t < n) (hk : k < n) : LB n δ (rlx f t o k) := by
  refine ⟨fun i j hi hj => ?_, ?_⟩
  · unfold Law.rlx
    rw [ds_upd ho]
    split
    · rename_i z
      have e : δ i j = δ t o := by
        rcases z with ⟨rfl, rfl⟩ | ⟨rfl, rfl⟩
        · rfl
        · exact D.sym _ _ hi hj
      rw [e]
      have h1 := H.lb t k ht hk
      have h2 := H.lb o k (by omega) hk
      have h3 := D.tri t o k ht (by omega) hk
      have h4 := D.sym k o hk (by omega)
      have h5 := H.lb t o ht (by omega)
      rw [ds_lt ho] at h5
      split <;> omega
    · exact H.lb i j hi hj
  · have h1 := H.lb t k ht hk
    have h2 := H.lb o k (by omega) hk
    have n1 := D.nn t k ht hk
    have n2 := D.nn o k (by omega) hk
    have h0 := H.ok t o ho ht
    refine H.ok.upd t o ?_
    split <;> omega
/-- one round's aim: pairs already looked at -/
def UB (n : Nat) (g f : Nat → Nat → Int) : Prop := ∀ i j, i < n → j < n → i ≠ j → ds f i j ≤ g i j
theorem UB.rlx {n : Nat} {g f : Nat → Nat → Int} (H : UB n g f) {t o k : Nat} (ho : o < t) : UB n g (rlx f t o k) := fun i j hi hj ne => Int.le_trans (rlx_le ho i j) (H i j hi hj ne)
theorem fw_le (n : Nat) (d : Nat → Nat → Int) : ∀ (s : Nat) (i j : Nat), fw d (s + 1) i j ≤ fw d s i j := fun s i j => by
  show stF (fw d s) s i j ≤ _
  unfold stF
  split <;> omega
/-- a pair looked at by the round's third town is good -/
theorem aim {n s : Nat} {d f : Nat → Nat → Int} (hf : FI n 0 d) (hs : s < n) (H : UB n (fw d s) f) {t o : Nat} (ho : o < t) (ht : t < n) (h : t ≠ s ∧ o ≠ s → ds f t o ≤ ds f t s + ds f o s ∨ ds f t o ≤ fw d (s + 1) t o) : ds f t o ≤ fw d (s + 1) t o := by
  have F := hf.fw s (by omega)
  have h0 := H t o ht (by omega) (by omega)
  show _ ≤ stF (fw d s) s t o
  unfold stF
  split
  · rename_i z
    by_cases q : t ≠ s ∧ o ≠ s
    · rcases h q with h | h
      · have h1 := H t s ht hs q.1
        have h2 := H o s (by omega) hs q.2
        have h3 := F.sym o s (by omega) hs
        omega
      · have h : ds f t o ≤ stF (fw d s) s t o := h
        unfold stF at h
        rw [if_pos z] at h
        exact h
    · have hz : t = s ∨ o = s := by omega
      rcases hz with rfl | rfl
      · have := F.nn t t ht ht
        omega
      · have := F.nn o o hs hs
        omega
  · exact h0
end Rf.Law

set_option Elab.async false
set_option linter.all false
set_option maxRecDepth 100000
set_option maxHeartbeats 2000000
namespace Rf.Law
open PySem PySem.Spec PyProof.Rows L2 Rf
/-! ### drawn metrics -/
def mB : Ts := match b_law_metric with
  | .cons _ (.cons _ (.cons _ (.cons (.fr _ _ b) _))) => b
  | _ => .nil
def mB3 : Ts := match mB with
  | .cons (.fr _ _ b) _ => b
  | _ => .nil
def mB5 : Ts := match mB3 with
  | .cons (.fr _ _ b) _ => b
  | _ => .nil
def mB6 : Ts := match mB5 with
  | .cons (.fr _ _ b) _ => b
  | _ => .nil
section
variable {n s : Nat} {d δ : Nat → Nat → Int}
/-- one third town -/
theorem third_step {f : Nat → Nat → Int} {t o k : Nat} (ho : o < t) (ht : t < n) (hk : k < n) (p : Cell) (R : Store) (a4 a7 a8 : Option RV) :
    ∃ b7, exs [m_law_draw] cs mB6 [some (.c 0), some (.d (.int n)), some (.c (R.length + 1)), some (.d (.int t)), a4, some (.d (.int o)), some (.d (.int k)), a7, a8] (p :: (R ++ [.mx (triL n f)]))
      = .nx [some (.c 0), some (.d (.int n)), some (.c (R.length + 1)), some (.d (.int t)), a4, some (.d (.int o)), some (.d (.int k)), b7, a8] (p :: (R ++ [.mx (triL n (if k = t ∨ k = o then f else rlx f t o k))])) := by
  have nt := notin2 k t o
  unfold mB6 mB5 mB3 mB b_law_metric
  by_cases q : k = t ∨ k = o
  · rw [if_pos q]
    have h1 : (!(decide (t = k) || decide (o = k))) = false := by
      rcases q with rfl | rfl <;> simp
    rw [h1] at nt
    refine ⟨a7, ?_⟩
    simp! [nt]
  · rw [if_neg q]
    have h1 : (!(decide (t = k) || decide (o = k))) = true := by
      have q1 : ¬ t = k := fun e => q (.inl e.symm)
      have q2 : ¬ o = k := fun e => q (.inr e.symm)
      simp [q1, q2]
    rw [h1] at nt
    have c1 : t ≠ k := fun e => q (.inl e.symm)
    have c2 : o ≠ k := fun e => q (.inr e.symm)
    have tri := fun (i : Nat) (h0 : 0 < i) (h : i < n) (S : Store) => mxI_tri (t := n) (f := f) h0 h (R.length + 1) S
    have x1 := tri (max t k) (by omega) (by omega)
    have x2 := tri (max o k) (by omega) (by omega)
    have x3 := tri t (by omega) ht
    have y1 := triL_at (t := n) (f := f) (i := max t k) (by omega) (by omega)
    have y2 := triL_at (t := n) (f := f) (i := max o k) (by omega) (by omega)
    have y3 := triL_at (t := n) (f := f) (i := t) (by omega) ht
    have z1 := row_at (f := f) (i := max t k) (j := min t k) (by omega)
    have z2 := row_at (f := f) (i := max o k) (j := min o k) (by omega)
    have z3 := row_at (f := f) ho
    have e1 : ds f t k = f (max t k) (min t k) := if_neg c1
    have e2 : ds f o k = f (max o k) (min o k) := if_neg c2
    have sb := fun (v : Int) (ρ : Env) (S : Store) => subR_tri (t := n) (f := f) (i := t) (j := o) (by omega) ht ho ρ v (R.length + 1) S
    unfold rlx
    rw [e1, e2]
    refine ⟨some (.d (.int (f (max t k) (min t k) + f (max o k) (min o k)))), ?_⟩
    simp! [nt, max_cast, min_cast, get_last, x1, x2, x3, y1, y2, y3, z1, z2, z3, subW_int, sb, st1, set_last]
/-- what a round keeps -/
structure RI (n s : Nat) (d δ : Nat → Nat → Int) (f : Nat → Nat → Int) (t o : Nat) : Prop where
  lb : LB n δ f
  ub : UB n (fw d s) f
  dn : ∀ a b, b < a → a < n → (a < t ∨ a = t ∧ b < o) → ds f a b ≤ fw d (s + 1) a b
theorem RI.rlx {f : Nat → Nat → Int} {t o : Nat} (H : RI n s d δ f t o) (D : FI n n δ) (ho : o < t) (ht : t < n) {k : Nat} (hk : k < n) : RI n s d δ (rlx f t o k) t o :=
  ⟨H.lb.rlx D ho ht hk, H.ub.rlx ho, fun a b h1 h2 h3 => Int.le_trans (rlx_le ho a b) (H.dn a b h1 h2 h3)⟩
theorem pair_loop {f : Nat → Nat → Int} {t o : Nat} (hd : FI n 0 d) (D : FI n n δ) (hn : n ≤ 8) (hs : s < n) (ho : o < t) (ht : t < n) (H : RI n s d δ f t o) (p : Cell) (R : Store) (a6 a7 a8 : Option RV) :
    ∃ f' b6 b7, RI n s d δ f' t (o + 1) ∧ exs [m_law_draw] cs mB5 [some (.c 0), some (.d (.int n)), some (.c (R.length + 1)), some (.d (.int t)), some (.d (.int s)), some (.d (.int o)), a6, a7, a8] (p :: (R ++ [.mx (triL n f)]))
      = .nx [some (.c 0), some (.d (.int n)), some (.c (R.length + 1)), some (.d (.int t)), some (.d (.int s)), some (.d (.int o)), b6, b7, a8] (p :: (R ++ [.mx (triL n f')])) := by
  obtain ⟨ρ', S', e, f', h1, h2, rfl, b6, b7, rfl⟩ := inv_loop (G := [m_law_draw]) (C := cs) (tg := .n 6) (body := mB6) (a := 0) (cnt := n) (ρ := [some (.c 0), some (.d (.int n)), some (.c (R.length + 1)), some (.d (.int t)), some (.d (.int s)), some (.d (.int o)), a6, a7, a8]) (S := p :: (R ++ [.mx (triL n f)]))
    (fun k ρ S => ∃ f', RI n s d δ f' t o ∧ (s < k → ds f' t o ≤ fw d (s + 1) t o) ∧ S = p :: (R ++ [.mx (triL n f')]) ∧ ∃ b6 b7 : Option RV, ρ = [some (.c 0), some (.d (.int n)), some (.c (R.length + 1)), some (.d (.int t)), some (.d (.int s)), some (.d (.int o)), b6, b7, a8])
    ⟨f, H, fun h => by omega, rfl, _, _, rfl⟩ fun k hk ρ S ⟨f', h1, h2, eS, b6, b7, eρ⟩ => by
      subst eS eρ
      obtain ⟨c7, e⟩ := third_step (f := f') ho ht hk p R (some (.d (.int s))) b7 a8
      rw [show ((0 : Int) + (k : Int)) = (k : Int) by omega]
      refine ⟨_, rfl, _, _, e, (if k = t ∨ k = o then f' else rlx f' t o k), ?_, fun hk2 => ?_, rfl, _, _, rfl⟩
      · split
        · exact h1
        · exact h1.rlx D ho ht hk
      · by_cases hks : s < k
        · have := h2 hks
          split
          · exact this
          · exact Int.le_trans (rlx_le ho t o) this
        · have : k = s := by omega
          subst this
          split
          · rename_i z
            exact aim hd hs h1.ub ho ht fun w => by omega
          · refine aim hd hs (h1.ub.rlx ho) ho ht fun w => .inr ?_
            have r := rlx_at (f := f') (k := k) ho
            have u1 := h1.ub t k ht hk w.1
            have u2 := h1.ub o k (by omega) hk w.2
            have F := hd.fw k (by omega)
            have u3 := F.sym o k (by omega) hk
            have u4 := (h1.ub.rlx (k := k) ho) t o ht (by omega) (by omega)
            show _ ≤ stF (fw d k) k t o
            unfold stF
            split <;> omega
  refine ⟨f', b6, b7, ⟨h1.lb, h1.ub, fun a b q1 q2 q3 => ?_⟩, ?_⟩
  · by_cases z : a = t ∧ b = o
    · obtain ⟨rfl, rfl⟩ := z
      exact h2 (by omega)
    · exact h1.dn a b q1 q2 (by omega)
  · have rg : ∀ S, rngI (some [.int (n : Int)]) S = .ok ([], rngD 0 n) S := fun S => by
      rw [rng1 (b := (n : Int)) (by omega)]; rfl
    unfold mB6 at e
    have e5 : mB5 = .cons (.fr (.n 6) (.rng (.cons .rd (.var 1) .nil)) mB6) .nil := rfl
    rw [e5]
    unfold mB6
    simp! [rg, e]
theorem town_loop {f : Nat → Nat → Int} {t : Nat} (hd : FI n 0 d) (D : FI n n δ) (hn : n ≤ 8) (hs : s < n) (h0 : 0 < t) (ht : t < n) (H : RI n s d δ f t 0) (p : Cell) (R : Store) (a5 a6 a7 a8 : Option RV) :
    ∃ f' b5 b6 b7, RI n s d δ f' (t + 1) 0 ∧ exs [m_law_draw] cs mB3 [some (.c 0), some (.d (.int n)), some (.c (R.length + 1)), some (.d (.int t)), some (.d (.int s)), a5, a6, a7, a8] (p :: (R ++ [.mx (triL n f)]))
      = .nx [some (.c 0), some (.d (.int n)), some (.c (R.length + 1)), some (.d (.int t)), some (.d (.int s)), b5, b6, b7, a8] (p :: (R ++ [.mx (triL n f')])) := by
  obtain ⟨ρ', S', e, f', h1, rfl, b5, b6, b7, rfl⟩ := inv_loop (G := [m_law_draw]) (C := cs) (tg := .n 5) (body := mB5) (a := 0) (cnt := t) (ρ := [some (.c 0), some (.d (.int n)), some (.c (R.length + 1)), some (.d (.int t)), some (.d (.int s)), a5, a6, a7, a8]) (S := p :: (R ++ [.mx (triL n f)]))
    (fun o ρ S => ∃ f', RI n s d δ f' t o ∧ S = p :: (R ++ [.mx (triL n f')]) ∧ ∃ b5 b6 b7 : Option RV, ρ = [some (.c 0), some (.d (.int n)), some (.c (R.length + 1)), some (.d (.int t)), some (.d (.int s)), b5, b6, b7, a8])
    ⟨f, H, rfl, _, _, _, rfl⟩ fun o ho ρ S ⟨f', h1, eS, b5, b6, b7, eρ⟩ => by
      subst eS eρ
      obtain ⟨f2, c6, c7, h2, e⟩ := pair_loop hd D hn hs ho ht h1 p R b6 b7 a8
      rw [show ((0 : Int) + (o : Int)) = (o : Int) by omega]
      exact ⟨_, rfl, _, _, e, f2, h2, rfl, _, _, _, rfl⟩
  refine ⟨f', b5, b6, b7, ⟨h1.lb, h1.ub, fun a b q1 q2 q3 => h1.dn a b q1 q2 (by omega)⟩, ?_⟩
  have rg : ∀ S, rngI (some [.int (t : Int)]) S = .ok ([], rngD 0 t) S := fun S => by
    rw [rng1 (b := (t : Int)) (by omega)]; rfl
  have e3 : mB3 = .cons (.fr (.n 5) (.rng (.cons .rd (.var 3) .nil)) mB5) .nil := rfl
  rw [e3]
  unfold mB5 at e ⊢
  simp! [rg, e]
theorem round_loop {f : Nat → Nat → Int} (hd : FI n 0 d) (D : FI n n δ) (h2 : 2 ≤ n) (hn : n ≤ 8) (hs : s < n) (H : LB n δ f) (U : UB n (fw d s) f) (p : Cell) (R : Store) (a3 a5 a6 a7 a8 : Option RV) :
    ∃ f' b3 b5 b6 b7, LB n δ f' ∧ UB n (fw d (s + 1)) f' ∧ exs [m_law_draw] cs mB [some (.c 0), some (.d (.int n)), some (.c (R.length + 1)), a3, some (.d (.int s)), a5, a6, a7, a8] (p :: (R ++ [.mx (triL n f)]))
      = .nx [some (.c 0), some (.d (.int n)), some (.c (R.length + 1)), b3, some (.d (.int s)), b5, b6, b7, a8] (p :: (R ++ [.mx (triL n f')])) := by
  obtain ⟨ρ', S', e, f', h1, rfl, b3, b5, b6, b7, rfl⟩ := inv_loop (G := [m_law_draw]) (C := cs) (tg := .n 3) (body := mB3) (a := 1) (cnt := n - 1) (ρ := [some (.c 0), some (.d (.int n)), some (.c (R.length + 1)), a3, some (.d (.int s)), a5, a6, a7, a8]) (S := p :: (R ++ [.mx (triL n f)]))
    (fun t ρ S => ∃ f', RI n s d δ f' (t + 1) 0 ∧ S = p :: (R ++ [.mx (triL n f')]) ∧ ∃ b3 b5 b6 b7 : Option RV, ρ = [some (.c 0), some (.d (.int n)), some (.c (R.length + 1)), b3, some (.d (.int s)), b5, b6, b7, a8])
    ⟨f, ⟨H, U, fun a b q1 q2 q3 => by omega⟩, rfl, _, _, _, _, rfl⟩ fun t ht ρ S ⟨f', h1, eS, b3, b5, b6, b7, eρ⟩ => by
      subst eS eρ
      obtain ⟨f2, c5, c6, c7, h2, e⟩ := town_loop hd D hn hs (by omega) (by omega) h1 p R b5 b6 b7 a8
      rw [show ((1 : Int) + (t : Int)) = ((t + 1 : Nat) : Int) by omega]
      exact ⟨_, rfl, _, _, e, f2, h2, rfl, _, _, _, _, rfl⟩
  refine ⟨f', b3, b5, b6, b7, h1.lb, fun i j hi hj ne => ?_, ?_⟩
  · have F := hd.fw (s + 1) (by omega)
    rcases Nat.lt_or_gt_of_ne ne with q | q
    · rw [ds_comm, F.sym i j hi hj]
      exact h1.dn j i q hj (by omega)
    · exact h1.dn i j q hi (by omega)
  · have rg : ∀ S, rngI (some [.int 1, .int (n : Int)]) S = .ok ([], rngD 1 (n - 1)) S := fun S => by
      rw [rng2 (a := 1) (b := (n : Int)) (by omega) (by omega), show ((n : Int) - 1).toNat = n - 1 by omega]
    have e0 : mB = .cons (.fr (.n 3) (.rng (.cons .rd (.lit (.int 1)) (.cons .rd (.var 1) .nil))) mB3) .nil := rfl
    rw [e0]
    unfold mB3 at e ⊢
    simp! [rg, e]
end
end Rf.Law

set_option Elab.async false
set_option linter.all false
set_option maxRecDepth 100000
set_option maxHeartbeats 2000000
namespace Rf
open PySem PySem.Spec PyProof.Rows L2 Rf.Law
/-! ### comprehensions over what stands for other things -/
section
variable {α : Type} {G : List Mir} {C : List D} {elt : E} {tg : Tg} {cond : Eo} {own : List Nat} {ρ : Env} {S : Store}
theorem fm_congr {α β : Type} {f g : α → Option β} : ∀ {xs : List α}, (∀ x ∈ xs, f x = g x) → xs.filterMap f = xs.filterMap g
  | [], _ => rfl
  | x :: xs, h => by rw [List.filterMap_cons, List.filterMap_cons, h x List.mem_cons_self, fm_congr fun y hy => h y (List.mem_cons_of_mem _ hy)]
open Classical in
theorem cp_fm (e : α → D) (r : α → Option D) {xs : List α} (hl : xs.length ≤ line) (hf : ∀ x ∈ xs, ∀ A, compT G C elt tg cond own ρ (e x) (S ++ [A]) = .ok (r x) (S ++ [A])) :
    cpM G C elt tg cond own ρ ([], xs.map e) S = .ok (.f (xs.filterMap r)) S := by
  have key : ∀ x ∈ xs, (if h : ∃ y ∈ xs, e y = e x then r h.choose else none) = r x := fun x hx => by
    have h : ∃ y ∈ xs, e y = e x := ⟨x, hx, rfl⟩
    rw [dif_pos h]
    obtain ⟨h1, h2⟩ := h.choose_spec
    have e1 := hf _ h1 (.lst [])
    rw [h2, hf x hx (.lst [])] at e1
    injection e1 with e1
    exact e1.symm
  rw [cpM_filter fun d => if h : ∃ y ∈ xs, e y = d then r h.choose else none]
  · rw [List.filterMap_map]
    congr 2
    exact fm_congr fun x hx => key x hx
  · rw [List.length_map]; exact hl
  · intro d hd A
    obtain ⟨x, hx, rfl⟩ := List.mem_map.mp hd
    rw [key x hx]
    exact hf x hx A
theorem cp_map (e : α → D) (g : α → D) {xs : List α} (hl : xs.length ≤ line) (hf : ∀ x ∈ xs, ∀ A, compT G C elt tg cond own ρ (e x) (S ++ [A]) = .ok (some (g x)) (S ++ [A])) :
    cpM G C elt tg cond own ρ ([], xs.map e) S = .ok (.f (xs.map g)) S := by
  rw [cp_fm e (fun x => some (g x)) hl hf, show (fun x => some (g x)) = some ∘ g from rfl, List.filterMap_eq_map]
theorem filt_map (e : α → D) (p : α → Bool) (xs : List α) : xs.filterMap (fun x => if p x = true then some (e x) else none) = (xs.filter p).map e := by
  induction xs with
  | nil => rfl
  | cons x xs ih =>
    rw [List.filterMap_cons]
    by_cases h : p x = true
    · rw [if_pos h, List.filter_cons_of_pos h, List.map_cons, ih]
    · rw [if_neg h, List.filter_cons_of_neg h, ih]
theorem cp_filt (e : α → D) (p : α → Bool) {xs : List α} (hl : xs.length ≤ line) (hf : ∀ x ∈ xs, ∀ A, compT G C elt tg cond own ρ (e x) (S ++ [A]) = .ok (if p x = true then some (e x) else none) (S ++ [A])) :
    cpM G C elt tg cond own ρ ([], xs.map e) S = .ok (.f ((xs.filter p).map e)) S := by
  rw [cp_fm e _ hl hf, filt_map]
theorem bls_of (f : α → Bool) : ∀ xs : List α, bls (xs.map fun x => .bl (f x)) = some (xs.map f)
  | [] => rfl
  | x :: xs => by simp [bls, bls_of f xs]
theorem any_map_id (f : α → Bool) (xs : List α) : (xs.map f).any id = xs.any f := by simp [List.any_map]
/-! loops over what stands for other things, a list grows -/
variable {body : Ts}
theorem frM_nil' {src : List (Nat × List D)} (h : srcOk src S = true) : frM G C tg body (src, []) ρ S = .nx ρ S := by
  unfold frM forGo
  rw [if_pos h]
theorem frM_step' {src : List (Nat × List D)} {d : D} {ds : List D} {ρ1 ρ' : Env} {S' : Store} (h : srcOk src S = true) (h1 : bindT tg d ρ = some ρ1) (h2 : exs G C body ρ1 S = .nx ρ' S') : frM G C tg body (src, d :: ds) ρ S = frM G C tg body (src, ds) ρ' S' := by
  unfold frM
  have e : frB G C tg body d ρ S = .nx ρ' S' := by
    unfold frB
    rw [h1]; exact h2
  show forGo src (frB G C tg body) (d :: ds) ρ S = _
  conv => lhs; unfold forGo
  rw [if_pos h, e]
theorem frM_ret' {src : List (Nat × List D)} {d : D} {ds : List D} {ρ1 : Env} {r : RX} {S' : Store} (h : srcOk src S = true) (h1 : bindT tg d ρ = some ρ1) (h2 : exs G C body ρ1 S = .ret r S') : frM G C tg body (src, d :: ds) ρ S = .ret r S' := by
  unfold frM
  have e : frB G C tg body d ρ S = .ret r S' := by
    unfold frB
    rw [h1]; exact h2
  show forGo src (frB G C tg body) (d :: ds) ρ S = _
  conv => lhs; unfold forGo
  rw [if_pos h, e]
theorem ext_src {src : List (Nat × List D)} (e : α → D) (g : α → List D) (good : Env → Prop) (hsrc : ∀ A, srcOk src (S ++ [A]) = true) : ∀ {xs : List α} {ρ : Env} {base : List D}, good ρ → base.length + (xs.flatMap g).length ≤ line →
    (∀ x ∈ xs, ∀ ρ acc, good ρ → acc.length + (g x).length ≤ line → ∃ ρ1, bindT tg (e x) ρ = some ρ1 ∧ ∃ ρ', exs G C body ρ1 (S ++ [.lst acc]) = .nx ρ' (S ++ [.lst (acc ++ g x)]) ∧ good ρ') →
    ∃ ρ', frM G C tg body (src, xs.map e) ρ (S ++ [.lst base]) = .nx ρ' (S ++ [.lst (base ++ xs.flatMap g)]) ∧ good ρ'
  | [], ρ, base, h0, _, _ => ⟨ρ, by rw [List.map_nil, frM_nil' (hsrc _)]; simp, h0⟩
  | x :: xs, ρ, base, h0, hl, hs => by
    rw [List.flatMap_cons, List.length_append] at hl
    obtain ⟨ρ1, e1, ρ', e2, g'⟩ := hs x List.mem_cons_self ρ base h0 (by omega)
    obtain ⟨ρ2, e3, g2⟩ := ext_src e g good hsrc (xs := xs) (ρ := ρ') (base := base ++ g x) g' (by rw [List.length_append]; omega) fun y hy => hs y (List.mem_cons_of_mem _ hy)
    refine ⟨ρ2, ?_, g2⟩
    rw [List.map_cons, frM_step' (hsrc _) e1 e2, e3, List.flatMap_cons, List.append_assoc]
theorem find_loop (e : α → D) (p : α → Bool) (good : Env → Prop) : ∀ {xs : List α} {ρ : Env}, good ρ →
    (∀ x ∈ xs, ∀ ρ, good ρ → ∃ ρ1, bindT tg (e x) ρ = some ρ1 ∧ ((p x = false ∧ ∃ ρ', exs G C body ρ1 S = .nx ρ' S ∧ good ρ') ∨ (p x = true ∧ exs G C body ρ1 S = .ret (.d (e x)) S))) →
    (∃ ρ', frM G C tg body ([], xs.map e) ρ S = .nx ρ' S ∧ good ρ' ∧ xs.filter p = []) ∨ ∃ c r, frM G C tg body ([], xs.map e) ρ S = .ret (.d (e c)) S ∧ xs.filter p = c :: r
  | [], ρ, h0, _ => .inl ⟨ρ, by rw [List.map_nil, frM_nil' (srcOk_nil _)], h0, rfl⟩
  | x :: xs, ρ, h0, hs => by
    obtain ⟨ρ1, e1, h⟩ := hs x List.mem_cons_self ρ h0
    rcases h with ⟨hp, ρ', e2, g'⟩ | ⟨hp, e2⟩
    · rw [List.map_cons, frM_step' (srcOk_nil _) e1 e2, List.filter_cons_of_neg (by rw [hp]; decide)]
      exact find_loop e p good g' fun y hy => hs y (List.mem_cons_of_mem _ hy)
    · refine .inr ⟨x, xs.filter p, ?_, by rw [List.filter_cons_of_pos hp]⟩
      rw [List.map_cons, frM_ret' (srcOk_nil _) e1 e2]
end
end Rf
namespace Rf
open PySem PySem.Spec PyProof.Rows L2 Rf.Law
theorem find_ret {α : Type} {G : List Mir} {C : List D} {tg : Tg} {body : Ts} {S : Store} (e : α → D) (p : α → Bool) (r : α → RX) (good : Env → Prop) : ∀ {xs : List α} {ρ : Env}, good ρ →
    (∀ x ∈ xs, ∀ ρ, good ρ → ∃ ρ1, bindT tg (e x) ρ = some ρ1 ∧ ((p x = false ∧ ∃ ρ', exs G C body ρ1 S = .nx ρ' S ∧ good ρ') ∨ (p x = true ∧ exs G C body ρ1 S = .ret (r x) S))) →
    (∃ ρ', frM G C tg body ([], xs.map e) ρ S = .nx ρ' S ∧ good ρ' ∧ xs.filter p = []) ∨ ∃ c t, frM G C tg body ([], xs.map e) ρ S = .ret (r c) S ∧ xs.filter p = c :: t
  | [], ρ, h0, _ => .inl ⟨ρ, by rw [List.map_nil, frM_nil' (srcOk_nil _)], h0, rfl⟩
  | x :: xs, ρ, h0, hs => by
    obtain ⟨ρ1, e1, h⟩ := hs x List.mem_cons_self ρ h0
    rcases h with ⟨hp, ρ', e2, g'⟩ | ⟨hp, e2⟩
    · rw [List.map_cons, frM_step' (srcOk_nil _) e1 e2, List.filter_cons_of_neg (by rw [hp]; decide)]
      exact find_ret e p r good g' fun y hy => hs y (List.mem_cons_of_mem _ hy)
    · refine .inr ⟨x, xs.filter p, ?_, by rw [List.filter_cons_of_pos hp]⟩
      rw [List.map_cons, frM_ret' (srcOk_nil _) e1 e2]
end Rf
namespace Rf
open PySem PySem.Spec PyProof.Rows L2 Rf.Law
section
variable {α : Type} {G : List Mir} {C : List D} {elt : E} {tg : Tg} {cond : Eo} {own : List Nat} {ρ : Env} {S : Store}
open Classical in
theorem cp_fm_src {src : List (Nat × List D)} (hsrc : ∀ A, srcOk src (S ++ [A]) = true) (e : α → D) (r : α → Option D) {xs : List α} (hl : xs.length ≤ line) (hf : ∀ x ∈ xs, ∀ A, compT G C elt tg cond own ρ (e x) (S ++ [A]) = .ok (r x) (S ++ [A])) :
    cpM G C elt tg cond own ρ (src, xs.map e) S = .ok (.f (xs.filterMap r)) S := by
  have key : ∀ x ∈ xs, (if h : ∃ y ∈ xs, e y = e x then r h.choose else none) = r x := fun x hx => by
    have h : ∃ y ∈ xs, e y = e x := ⟨x, hx, rfl⟩
    rw [dif_pos h]
    obtain ⟨h1, h2⟩ := h.choose_spec
    have e1 := hf _ h1 (.lst [])
    rw [h2, hf x hx (.lst [])] at e1
    injection e1 with e1
    exact e1.symm
  rw [cpM_filt_src (fun d => if h : ∃ y ∈ xs, e y = d then r h.choose else none) hsrc]
  · rw [List.filterMap_map]
    congr 2
    exact fm_congr fun x hx => key x hx
  · rw [List.length_map]; exact hl
  · intro d hd A
    obtain ⟨x, hx, rfl⟩ := List.mem_map.mp hd
    rw [key x hx]
    exact hf x hx A
theorem cp_map_src {src : List (Nat × List D)} (hsrc : ∀ A, srcOk src (S ++ [A]) = true) (e : α → D) (g : α → D) {xs : List α} (hl : xs.length ≤ line) (hf : ∀ x ∈ xs, ∀ A, compT G C elt tg cond own ρ (e x) (S ++ [A]) = .ok (some (g x)) (S ++ [A])) :
    cpM G C elt tg cond own ρ (src, xs.map e) S = .ok (.f (xs.map g)) S := by
  rw [cp_fm_src hsrc e (fun x => some (g x)) hl hf, show (fun x => some (g x)) = some ∘ g from rfl, List.filterMap_eq_map]
theorem cp_filt_src {src : List (Nat × List D)} (hsrc : ∀ A, srcOk src (S ++ [A]) = true) (e : α → D) (p : α → Bool) {xs : List α} (hl : xs.length ≤ line) (hf : ∀ x ∈ xs, ∀ A, compT G C elt tg cond own ρ (e x) (S ++ [A]) = .ok (if p x = true then some (e x) else none) (S ++ [A])) :
    cpM G C elt tg cond own ρ (src, xs.map e) S = .ok (.f ((xs.filter p).map e)) S := by
  rw [cp_fm_src hsrc e _ hl hf, filt_map]
end
end Rf
namespace Rf
open PySem PySem.Spec PyProof.Rows L2 Rf.Law
section
variable {α : Type} {G : List Mir} {C : List D} {tg : Tg} {body : Ts} {S : Store}
theorem find_const (e : α → D) (p : α → Bool) (rv : D) (good : Env → Prop) : ∀ {xs : List α} {ρ : Env}, good ρ →
    (∀ x ∈ xs, ∀ ρ, good ρ → ∃ ρ1, bindT tg (e x) ρ = some ρ1 ∧ ((p x = true ∧ ∃ ρ', exs G C body ρ1 S = .nx ρ' S ∧ good ρ') ∨ (p x = false ∧ exs G C body ρ1 S = .ret (.d rv) S))) →
    (∃ ρ', frM G C tg body ([], xs.map e) ρ S = .nx ρ' S ∧ good ρ' ∧ xs.all p = true) ∨ (frM G C tg body ([], xs.map e) ρ S = .ret (.d rv) S ∧ xs.all p = false)
  | [], ρ, h0, _ => .inl ⟨ρ, by rw [List.map_nil, frM_nil' (srcOk_nil _)], h0, rfl⟩
  | x :: xs, ρ, h0, hs => by
    obtain ⟨ρ1, e1, h⟩ := hs x List.mem_cons_self ρ h0
    rcases h with ⟨hp, ρ', e2, g'⟩ | ⟨hp, e2⟩
    · rw [List.map_cons, frM_step' (srcOk_nil _) e1 e2, List.all_cons, hp, Bool.true_and]
      exact find_const e p rv good g' fun y hy => hs y (List.mem_cons_of_mem _ hy)
    · refine .inr ⟨?_, by rw [List.all_cons, hp, Bool.false_and]⟩
      rw [List.map_cons, frM_ret' (srcOk_nil _) e1 e2]
theorem frM_all (e : α → D) (good : Env → Prop) : ∀ {xs : List α} {ρ : Env}, good ρ → (∀ x ∈ xs, ∀ ρ, good ρ → ∃ ρ1, bindT tg (e x) ρ = some ρ1 ∧ ∃ ρ', exs G C body ρ1 S = .nx ρ' S ∧ good ρ') → ∃ ρ', frM G C tg body ([], xs.map e) ρ S = .nx ρ' S ∧ good ρ'
  | [], ρ, h0, _ => ⟨ρ, by rw [List.map_nil, frM_nil' (srcOk_nil _)], h0⟩
  | x :: xs, ρ, h0, hs => by
    obtain ⟨ρ1, e1, ρ', e2, g'⟩ := hs x List.mem_cons_self ρ h0
    rw [List.map_cons, frM_step' (srcOk_nil _) e1 e2]
    exact frM_all e good g' fun y hy => hs y (List.mem_cons_of_mem _ hy)
end
end Rf
namespace Rf
open PySem PySem.Spec PyProof.Rows L2 Rf.Law
theorem compGo_spo {f : D → Store → Res (Option D)} (Inv : Nat → Store → List D → Prop) {items : List D} {n : Nat} (hlen : ∀ i S acc, Inv i S acc → S.length = n)
    (hs : ∀ i d S acc, items[i]? = some d → Inv i S acc → (∃ S', f d (S ++ [.lst acc]) = .ok none (S' ++ [.lst acc]) ∧ Inv (i + 1) S' acc) ∨ ∃ y S', f d (S ++ [.lst acc]) = .ok (some y) (S' ++ [.lst acc]) ∧ Inv (i + 1) S' (acc ++ [y])) :
    ∀ (k i : Nat) (S : Store) (acc : List D), k = items.length - i → i ≤ items.length → Inv i S acc → acc.length + (items.length - i) ≤ line → ∃ S' acc', compGo [] f n (items.drop i) (S ++ [.lst acc]) = .ok () (S' ++ [.lst acc']) ∧ Inv items.length S' acc'
  | 0, i, S, acc, hk, hi, I, _ => by
    have : i = items.length := by omega
    subst this
    refine ⟨S, acc, ?_, I⟩
    rw [List.drop_length]
    unfold compGo
    rw [if_pos (srcOk_nil _)]
  | k + 1, i, S, acc, hk, hi, I, hl => by
    have hlt : i < items.length := by omega
    rw [List.drop_eq_getElem_cons hlt]
    unfold compGo
    rw [if_pos (srcOk_nil _)]
    rcases hs i items[i] S acc (by simp [hlt]) I with ⟨S', hf, I'⟩ | ⟨y, S', hf, I'⟩
    · rw [hf]
      simp only [Res.bind_ok]
      exact compGo_spo Inv hlen hs k (i + 1) S' acc (by omega) (by omega) I' (by omega)
    · rw [hf]
      simp only [Res.bind_ok]
      have hn' := hlen _ _ _ I'
      have e1 : (S' ++ [Cell.lst acc])[n]? = some (.lst acc) := by rw [← hn']; simp
      have e2 : (S' ++ [Cell.lst acc]).set n (.lst (acc ++ [y])) = S' ++ [.lst (acc ++ [y])] := by
        rw [← hn', List.set_append_right _ _ (Nat.le_refl _)]; simp
      simp only [e1, e2]
      have e3 : (S' ++ [Cell.lst (acc ++ [y])]).take (n + 1) = S' ++ [.lst (acc ++ [y])] := List.take_of_length_le (by simp; omega)
      rw [if_pos (by omega), e3]
      exact compGo_spo Inv hlen hs k (i + 1) S' (acc ++ [y]) (by omega) (by omega) I' (by simp; omega)
/-- a comprehension that may draw, with a test -/
theorem cpM_spo {G : List Mir} {C : List D} {elt : E} {tg : Tg} {cond : Eo} {own : List Nat} {ρ : Env} {S : Store} {items : List D} (Inv : Nat → Store → List D → Prop) (hlen : ∀ i S' acc, Inv i S' acc → S'.length = S.length)
    (hs : ∀ i d S acc, items[i]? = some d → Inv i S acc → (∃ S', compT G C elt tg cond own ρ d (S ++ [.lst acc]) = .ok none (S' ++ [.lst acc]) ∧ Inv (i + 1) S' acc) ∨ ∃ y S', compT G C elt tg cond own ρ d (S ++ [.lst acc]) = .ok (some y) (S' ++ [.lst acc]) ∧ Inv (i + 1) S' (acc ++ [y])) (h0 : Inv 0 S []) (hl : items.length ≤ line) :
    ∃ S' acc, cpM G C elt tg cond own ρ ([], items) S = .ok (.f acc) S' ∧ Inv items.length S' acc := by
  obtain ⟨S', acc, e, I⟩ := compGo_spo Inv hlen hs items.length 0 S [] (by simp) (Nat.zero_le _) h0 (by simpa using hl)
  rw [List.drop_zero] at e
  refine ⟨S', acc, ?_, I⟩
  unfold cpM
  rw [e]
  simp only [Res.nox_ok, Res.bind_ok]
  rw [← hlen _ _ _ I]
  exact lastL_app S' acc
end Rf
namespace Rf.Law
open PySem PySem.Spec PyProof.Rows L2 Rf
theorem frM_keep_src {G : List Mir} {C : List D} {tg : Tg} {body : Ts} {S : Store} {src : List (Nat × List D)} (hsrc : srcOk src S = true) (good : Env → Prop) : ∀ {items : List D} {ρ : Env}, good ρ →
    (∀ d ∈ items, ∀ ρ, good ρ → ∃ ρ1, bindT tg d ρ = some ρ1 ∧ ∃ ρ', exs G C body ρ1 S = .nx ρ' S ∧ good ρ') → ∃ ρ', frM G C tg body (src, items) ρ S = .nx ρ' S ∧ good ρ'
  | [], ρ, h0, _ => ⟨ρ, frM_nil' hsrc, h0⟩
  | d :: ds, ρ, h0, hs => by
    obtain ⟨ρ1, e1, ρ', e2, g'⟩ := hs d List.mem_cons_self ρ h0
    rw [frM_step' hsrc e1 e2]
    exact frM_keep_src hsrc good g' fun y hy => hs y (List.mem_cons_of_mem _ hy)
end Rf.Law

set_option Elab.async false
set_option linter.all false
set_option maxRecDepth 100000
set_option maxHeartbeats 2000000
namespace Rf.Law
open PySem PySem.Spec PyProof.Rows L2 Rf
def rowV (j : Nat) (v : Nat → Int) : List D := (List.range j).map fun i => .int (v i)
theorem rowV_add (j : Nat) (v : Nat → Int) (x : Int) : rowV j v ++ [.int x] = rowV (j + 1) fun i => if i = j then x else v i := by
  unfold rowV
  rw [List.range_succ, List.map_append]
  congr 1
  · apply List.map_congr_left
    intro i hi
    rw [List.mem_range] at hi
    show D.int (v i) = D.int (if i = j then x else v i)
    rw [if_neg (by omega)]
  · simp
theorem rowV_len (j : Nat) (v : Nat → Int) : (rowV j v).length = j := by simp [rowV]
/-- a row is drawn -/
theorem row_drawn {p : Cell} (hp : PotC p) (M : Store) (t : Nat) (ht : t ≤ 8) (ρ : Env) (h0 : ∀ x : Option RV, ((ρ.set 5 none).set 5 x)[0]? = some (some (.c 0))) :
    ∃ p' v, PotC p' ∧ (∀ i, i < t → 0 ≤ v i ∧ v i ≤ 12) ∧ cpM [m_law_draw] cs (.bin .Add (.call 0 (.cons .cel (.var 0) (.cons .dat (.lit (.int 12)) .nil))) (.lit (.int 1))) (.n 5) .no [5] ρ ([], rngD 0 t) (p :: M) = .ok (.f (rowV t v)) (p' :: M) := by
  obtain ⟨S', acc, e, p', v, hp', hv, rfl, rfl⟩ := cpM_spo (G := [m_law_draw]) (C := cs) (elt := .bin .Add (.call 0 (.cons .cel (.var 0) (.cons .dat (.lit (.int 12)) .nil))) (.lit (.int 1))) (tg := .n 5) (cond := .no) (own := [5]) (ρ := ρ) (S := p :: M) (items := rngD 0 t)
    (fun i S' acc => ∃ p' v, PotC p' ∧ (∀ i', i' < i → 0 ≤ v i' ∧ v i' ≤ 12) ∧ S' = p' :: M ∧ acc = rowV i v) (fun i S' acc ⟨p', v, _, _, e, _⟩ => by rw [e]; rfl)
    (fun i d S acc hi ⟨p1, v, hp1, hv, e, ha⟩ => by
      subst e ha
      obtain ⟨x, p2, e2, hp2, x0, x1⟩ := draw_at (p := p1) (k := 12) hp1 (by decide) (by decide)
      have e3 := e2 0 (p1 :: (M ++ [.lst (rowV i v)])) rfl
      refine .inr ⟨.int (x + 1), p2 :: M, ?_, p2, (fun i' => if i' = i then x + 1 else v i'), hp2, fun i' hi' => ?_, rfl, rowV_add i v (x + 1)⟩
      · rw [compT_one]
        have e3 : m_law_draw [.c 0, .d (.int 12)] (p1 :: (M ++ [.lst (rowV i v)])) = .ok (.d (.int x)) (p2 :: (M ++ [.lst (rowV i v)])) := e3
        simp! [h0, e3]
      · show 0 ≤ (if i' = i then x + 1 else v i') ∧ (if i' = i then x + 1 else v i') ≤ 12
        split
        · omega
        · exact hv i' (by omega)) ⟨p, fun _ => 0, hp, fun i hi => by omega, rfl, rfl⟩ (by rw [rng_len]; show t ≤ 16777216; omega)
  rw [rng_len] at hv e
  exact ⟨p', v, hp', hv, e⟩
theorem ixN_last {m : Nat} (h : 1 ≤ m) : ixN m (-1) = some (m - 1) := by
  unfold ixN
  rw [if_neg (by omega), if_pos (by omega)]
  congr 1
  omega
theorem mxI_last {n : Nat} {f : Nat → Nat → Int} (h : 2 ≤ n) (m : Nat) (S : Store) : mxI m S (some (triL n f)) (-1) = .ok (.r m (n - 1 - 1)) S := by
  show (match ixN (triL n f).length (-1) with
    | some j => (match (triL n f)[j]? with
      | some (.a d) => Res.ok (RX.d d) S
      | some (.l _) => .ok (.r m j) S
      | none => .stuck)
    | none => .stuck) = _
  rw [triL_len, ixN_last (by omega)]
  show (match (triL n f)[n - 1 - 1]? with
    | some (.a d) => Res.ok (RX.d d) S
    | some (.l _) => .ok (.r m (n - 1 - 1)) S
    | none => .stuck) = _
  rw [triL_at (i := n - 1) (by omega) (by omega)]
def rB : Ts := match b_law_metric with
  | .cons _ (.cons (.fr _ _ b) _) => b
  | _ => .nil
theorem metric_spec {p : Cell} {n : Nat} (h2 : 2 ≤ n) (hn : n ≤ 8) (hp : PotC p) (R : Store) : ∃ f p', PotC p' ∧ Met n f ∧ (∀ i j, j < i → i < n → f i j ≤ 12) ∧ m_law_metric [.c 0, .d (.int n)] (p :: R) = .ok (.d (tabD n f)) (p' :: R) := by
  -- rows
  have rows : ∃ f p1 b3 b5, PotC p1 ∧ (∀ i j, j < i → i < n → 0 ≤ f i j ∧ f i j ≤ 12) ∧ frM [m_law_draw] cs (.n 3) rB ([], rngD 1 (n - 1)) [some (.c 0), some (.d (.int n)), some (.c (R.length + 1)), none, none, none, none, none, none] (p :: (R ++ [.mx []])) = .nx [some (.c 0), some (.d (.int n)), some (.c (R.length + 1)), b3, none, b5, none, none, none] (p1 :: (R ++ [.mx (triL n f)])) := by
    obtain ⟨ρ', S', e, f, p1, hp1, hf, rfl, b3, b5, rfl⟩ := inv_loop (G := [m_law_draw]) (C := cs) (tg := .n 3) (body := rB) (a := 1) (cnt := n - 1) (ρ := [some (.c 0), some (.d (.int n)), some (.c (R.length + 1)), none, none, none, none, none, none]) (S := p :: (R ++ [.mx []]))
      (fun t ρ S => ∃ f p1, PotC p1 ∧ (∀ i j, j < i → i < t + 1 → 0 ≤ f i j ∧ f i j ≤ 12) ∧ S = p1 :: (R ++ [.mx (triL (t + 1) f)]) ∧ ∃ b3 b5 : Option RV, ρ = [some (.c 0), some (.d (.int n)), some (.c (R.length + 1)), b3, none, b5, none, none, none])
      ⟨fun _ _ => 0, p, hp, fun i j _ _ => by omega, rfl, _, _, rfl⟩ fun t ht ρ S ⟨f, p1, hp1, hf, eS, b3, b5, eρ⟩ => by
        subst eS eρ
        rw [show ((1 : Int) + (t : Int)) = ((t + 1 : Nat) : Int) by omega]
        obtain ⟨p2, v, hp2, hv, e⟩ := row_drawn hp1 (R ++ [.mx (triL (t + 1) f)]) (t + 1) (by omega) [some (.c 0), some (.d (.int n)), some (.c (R.length + 1)), some (.d (.int ((t + 1 : Nat) : Int))), none, b5, none, none, none] fun x => rfl
        have rg : ∀ S, rngI (some [.int ((t + 1 : Nat) : Int)]) S = .ok ([], rngD 0 (t + 1)) S := fun S => by
          rw [rng1 (b := ((t + 1 : Nat) : Int)) (by omega)]; rfl
        refine ⟨[some (.c 0), some (.d (.int n)), some (.c (R.length + 1)), some (.d (.int ((t + 1 : Nat) : Int))), none, b5, none, none, none], rfl, [some (.c 0), some (.d (.int n)), some (.c (R.length + 1)), some (.d (.int ((t + 1 : Nat) : Int))), none, b5, none, none, none], p2 :: (R ++ [.mx (triL (t + 2) (addF f (t + 1) v))]), ?_, addF f (t + 1) v, p2, hp2, fun i j hj hi => ?_, rfl, _, _, rfl⟩
        · have am : ∀ ρ : Env, apxM ρ (R.length + 1) (.l (rowV (t + 1) v)) (p2 :: (R ++ [.mx (triL (t + 1) f)])) (some (triL (t + 1) f)) = .nx ρ (p2 :: (R ++ [.mx (triL (t + 2) (addF f (t + 1) v))])) := fun ρ => by
            show (if (triL (t + 1) f).length < line then Out.nx ρ ((p2 :: (R ++ [Cell.mx (triL (t + 1) f)])).set (R.length + 1) (Cell.mx (triL (t + 1) f ++ [MX.l (rowV (t + 1) v)]))) else Out.stuck) = _
            rw [if_pos (by rw [triL_len]; show t < 16777216; omega), st1]
            congr 4
            exact congrArg Cell.mx (triL_add (t + 1) f v (by omega))
          have ax : ∀ S, asX (.f (rowV (t + 1) v)) S = .ok (.l (rowV (t + 1) v)) S := fun S => rfl
          unfold rB b_law_metric
          simp! [rg, get_last, e, ax, am]
        · unfold addF
          split
          · have := hv j (by omega)
            exact this
          · exact hf i j hj (by omega)
    rw [show n - 1 + 1 = n by omega] at hf e
    exact ⟨f, p1, b3, b5, hp1, hf, e⟩
  obtain ⟨f0, p1, b3, b5, hp1, hf0, e1⟩ := rows
  obtain ⟨j4, p2, e2, hp2, l2, u2⟩ := draw_at (p := p1) (k := 4) hp1 (by decide) (by decide)
  have e2 := e2 0 (p1 :: (R ++ [.mx (triL n f0)])) rfl
  have e2 : m_law_draw [.c 0, .d (.int 4)] (p1 :: (R ++ [.mx (triL n f0)])) = .ok (.d (.int j4)) (p2 :: (R ++ [.mx (triL n f0)])) := e2
  obtain ⟨f1, hf1, e3⟩ : ∃ f1, (∀ i j, j < i → i < n → 0 ≤ f1 i j ∧ f1 i j ≤ 12) ∧ ∀ ρ : Env, ρ[2]? = some (some (.c (R.length + 1))) → ρ[0]? = some (some (.c 0)) → ex [m_law_draw] cs (.ite (.cmp .Eq (.call 0 (.cons .cel (.var 0) (.cons .dat (.lit (.int 4)) .nil))) (.lit (.int 0))) (.cons (.sub (.idx (.var 2) (.neg (.lit (.int 1)))) (.lit (.int 0)) (.lit (.int 0))) .nil) .nil) ρ (p1 :: (R ++ [.mx (triL n f0)])) = .nx ρ (p2 :: (R ++ [.mx (triL n f1)])) := by
    by_cases q : j4 = 0
    · subst q
      refine ⟨updT f0 (n - 1) 0 0, fun i j hj hi => ?_, fun ρ h1 h0 => ?_⟩
      · unfold updT
        split
        · omega
        · exact hf0 i j hj hi
      · have ml := fun S => mxI_last (f := f0) h2 (R.length + 1) S
        have sb : ∀ (ρ : Env) (S : Store), subR ρ (.int 0) (R.length + 1) (n - 1 - 1) S 0 (some (triL n f0)) = .nx ρ (S.set (R.length + 1) (.mx (triL n (updT f0 (n - 1) 0 0)))) := fun ρ S => subR_tri (i := n - 1) (j := 0) (by omega) (by omega) (by omega) ρ 0 (R.length + 1) S
        simp! [h0, h1, e2, get_last, neg1_int, ml, subW_int, sb, set_last]
    · refine ⟨f0, hf0, fun ρ h1 h0 => ?_⟩
      simp! [h0, e2, q]
  have ok1 : OK n f1 := fun i j h1 h2 => by have := hf1 i j h1 h2; omega
  have FI0 : FI n 0 (ds f1) := ⟨fun a b _ _ => ds_comm f1 a b, fun a b ha hb => by
    unfold ds
    split
    · omega
    · have := hf1 (max a b) (min a b) (by omega) (by omega)
      omega, fun a _ => ds_self f1 a, fun a b k _ _ hk => by omega⟩
  have FIn := FI0.fw n (Nat.le_refl _)
  have le0 : ∀ s i j, fw (ds f1) s i j ≤ ds f1 i j := fun s => by
    induction s with
    | zero => exact fun i j => Int.le_refl _
    | succ s ih => exact fun i j => Int.le_trans (fw_le n _ s i j) (ih i j)
  obtain ⟨ρ', S', e4, f2, hL, hU, rfl, c3, c4, c5, c6, c7, rfl⟩ := inv_loop (G := [m_law_draw]) (C := cs) (tg := .n 4) (body := mB) (a := 0) (cnt := n) (ρ := [some (.c 0), some (.d (.int n)), some (.c (R.length + 1)), b3, none, b5, none, none, none]) (S := p2 :: (R ++ [.mx (triL n f1)]))
    (fun s ρ S => ∃ f', LB n (fw (ds f1) n) f' ∧ UB n (fw (ds f1) s) f' ∧ S = p2 :: (R ++ [.mx (triL n f')]) ∧ ∃ b3 b4 b5 b6 b7 : Option RV, ρ = [some (.c 0), some (.d (.int n)), some (.c (R.length + 1)), b3, b4, b5, b6, b7, none])
    ⟨f1, ⟨fun i j _ _ => le0 n i j, ok1⟩, fun i j _ _ _ => Int.le_refl _, rfl, _, _, _, _, _, rfl⟩ fun s hs ρ S ⟨f', h1, h2', eS, b3, b4, b5, b6, b7, eρ⟩ => by
      subst eS eρ
      obtain ⟨f2, c3, c5, c6, c7, g1, g2, e⟩ := round_loop FI0 FIn h2 hn hs h1 h2' p2 R b3 b5 b6 b7 none
      rw [show ((0 : Int) + (s : Int)) = (s : Int) by omega]
      exact ⟨_, rfl, _, _, e, f2, g1, g2, rfl, _, _, _, _, _, rfl⟩
  have eq : ∀ i j, i < n → j < n → i ≠ j → ds f2 i j = fw (ds f1) n i j := fun i j hi hj ne => Int.le_antisymm (hU i j hi hj ne) (hL.lb i j hi hj)
  have eq0 : ∀ i j, i < n → j < n → ds f2 i j = fw (ds f1) n i j := fun i j hi hj => by
    by_cases q : i = j
    · subst q; rw [ds_self, FIn.dg i hi]
    · exact eq i j hi hj q
  refine ⟨f2, p2, hp2, ⟨⟨h2, hn, hL.ok⟩, fun i j k hi hj hk => ?_⟩, fun i j hj hi => ?_, ?_⟩
  · rw [eq0 i j hi hj, eq0 i k hi hk, eq0 k j hk hj]
    exact FIn.tri i j k hi hj hk
  · have h1 := le0 n i j
    have h2 := eq0 i j hi (by omega)
    rw [ds_lt hj] at h1 h2
    have := hf1 i j hj hi
    omega
  · have rg1 : ∀ S, rngI (some [.int 1, .int (n : Int)]) S = .ok ([], rngD 1 (n - 1)) S := fun S => by
      rw [rng2 (a := 1) (b := (n : Int)) (by omega) (by omega), show ((n : Int) - 1).toNat = n - 1 by omega]
    have rg0 : ∀ S, rngI (some [.int (n : Int)]) S = .ok ([], rngD 0 n) S := fun S => by
      rw [rng1 (b := (n : Int)) (by omega)]; rfl
    have sq := seqI_m (n := R.length + 1) (S := p2 :: (R ++ [.mx (triL n f2)])) (es := triL n f2) (by simp)
    have g0 : ∀ S : Store, gathM S.length S [] = .ok (.fm []) S := fun S => by
      unfold gathM gath
      rw [if_pos (by show 0 ≤ 16777216; decide)]
      simp
    have g0' : gathM (R.length + 1) (p :: R) [] = .ok (.fm []) (p :: R) := g0 (p :: R)
    unfold m_law_metric
    refine (runD_eq (np := 2) rfl).trans ?_
    have split : b_law_metric = .cons (.set 2 .mxl (.lsx .nil)) (.cons (.fr (.n 3) (.rng (.cons .rd (.lit (.int 1)) (.cons .rd (.var 1) .nil))) rB) (.cons (.ite (.cmp .Eq (.call 0 (.cons .cel (.var 0) (.cons .dat (.lit (.int 4)) .nil))) (.lit (.int 0))) (.cons (.sub (.idx (.var 2) (.neg (.lit (.int 1)))) (.lit (.int 0)) (.lit (.int 0))) .nil) .nil) (.cons (.fr (.n 4) (.rng (.cons .rd (.var 1) .nil)) mB) (.cons (.ret (.tup (.cons .dat (.lit (.str (Str.ofString "table"))) (.cons .dat (.blt .tuple (.cons .rd (.comp (.blt .tuple (.cons .rd (.var 8) .nil)) (.n 8) (.seq (.var 2)) .no [8]) .nil)) .nil)))) .nil)))) := rfl
    rw [split]
    show endD _ (exs [m_law_draw] cs _ [some (.c 0), some (.d (.int n)), none, none, none, none, none, none, none] (p :: R)) = _
    have s1 : ex [m_law_draw] cs (.set 2 .mxl (.lsx .nil)) [some (.c 0), some (.d (.int n)), none, none, none, none, none, none, none] (p :: R) = .nx [some (.c 0), some (.d (.int n)), some (.c (R.length + 1)), none, none, none, none, none, none] (p :: (R ++ [.mx []])) := by
      simp! [g0']
    have s2 : ex [m_law_draw] cs (.fr (.n 3) (.rng (.cons .rd (.lit (.int 1)) (.cons .rd (.var 1) .nil))) rB) [some (.c 0), some (.d (.int n)), some (.c (R.length + 1)), none, none, none, none, none, none] (p :: (R ++ [.mx []])) = .nx [some (.c 0), some (.d (.int n)), some (.c (R.length + 1)), b3, none, b5, none, none, none] (p1 :: (R ++ [.mx (triL n f0)])) := by
      simp! [rg1, e1]
    have s4 : ex [m_law_draw] cs (.fr (.n 4) (.rng (.cons .rd (.var 1) .nil)) mB) [some (.c 0), some (.d (.int n)), some (.c (R.length + 1)), b3, none, b5, none, none, none] (p2 :: (R ++ [.mx (triL n f1)])) = .nx [some (.c 0), some (.d (.int n)), some (.c (R.length + 1)), c3, c4, c5, c6, c7, none] (p2 :: (R ++ [.mx (triL n f2)])) := by
      simp! [rg0, e4]
    have e3 := e3 [some (.c 0), some (.d (.int n)), some (.c (R.length + 1)), b3, none, b5, none, none, none] rfl rfl
    rw [exs_cons0, s1, then_nxN, exs_cons0, s2, then_nxN, exs_cons0, e3, then_nxN, exs_cons0, s4, then_nxN]
    have mp : (triL n f2).map MX.dat = (List.range (n - 1)).map fun i => D.lst ((List.range (i + 1)).map fun j => D.int (f2 (i + 1) j)) := tri_dat n f2
    rw [mp] at sq
    simp! [sq]
    rw [cp_map (fun i => D.lst ((List.range (i + 1)).map fun j => D.int (f2 (i + 1) j))) (fun i => rowT f2 (i + 1)) (by rw [List.length_range]; show n - 1 ≤ 16777216; omega)]
    · simp! []
      rw [tabD_eq]
      rw [set_last, List.take_left]
      rfl
    · intro i _ A
      rw [compT_one]
      simp! []
      rfl
end Rf.Law

set_option Elab.async false
set_option linter.all false
set_option maxRecDepth 100000
set_option maxHeartbeats 2000000
namespace Rf.Law
open PySem PySem.Spec PyProof.Rows L2 Rf
/-! ### numbers at towns, in halves -/
def numL (n : Nat) (h : Nat → Int) : List D := (List.range n).map fun i => q2 (h i)
theorem numL_len (n : Nat) (h : Nat → Int) : (numL n h).length = n := by simp [numL]
theorem numL_at {n : Nat} {h : Nat → Int} {i : Nat} (hi : i < n) : atI (numL n h) (i : Int) = some (q2 (h i)) := by
  refine atI_nat ?_
  unfold numL
  rw [List.getElem?_map, List.getElem?_range hi]; rfl
def updF (h : Nat → Int) (k : Nat) (v : Int) : Nat → Int := fun i => if i = k then v else h i
theorem numL_set {n : Nat} {h : Nat → Int} {k : Nat} (hk : k < n) (v : Int) : (numL n h).set k (q2 v) = numL n (updF h k v) := by
  apply List.ext_getElem?
  intro i
  by_cases hi : i < n
  · unfold numL updF
    by_cases e : i = k
    · subst e
      rw [List.getElem?_set_self (by simpa using hi), List.getElem?_map, List.getElem?_range hi]
      simp
    · rw [List.getElem?_set_ne (Ne.symm e), List.getElem?_map, List.getElem?_map, List.getElem?_range hi]
      simp [e]
  · rw [List.getElem?_eq_none (by rw [List.length_set, numL_len]; omega), List.getElem?_eq_none (by rw [numL_len]; omega)]
/-- a list or a tuple of such numbers -/
structure Num (n : Nat) (h : Nat → Int) (V : D) : Prop where
  ex : V = .lst (numL n h) ∨ V = .tup (numL n h)
theorem Num.at {n : Nat} {h : Nat → Int} {V : D} (N : Num n h V) {i : Nat} (hi : i < n) : idxD V (.int (i : Int)) = some (q2 (h i)) := by
  rcases N.ex with rfl | rfl
  · exact numL_at hi
  · exact numL_at hi
theorem Num.len {n : Nat} {h : Nat → Int} {V : D} (N : Num n h V) : bltD .len [V] = some (.d (.int n)) := by
  rcases N.ex with rfl | rfl
  · show some (RX.d (.int ((numL n h).length : Nat))) = _; rw [numL_len]
  · show some (RX.d (.int ((numL n h).length : Nat))) = _; rw [numL_len]
/-! ### by how much -/
def sst (d : Nat → Nat → Int) (h : Nat → Int) (t : Nat) (b : Int) (o : Nat) : Int := if o = t then b else if h t + h o - 2 * d t o < b then h t + h o - 2 * d t o else b
def slk (n : Nat) (d : Nat → Nat → Int) (h : Nat → Int) (t : Nat) : Int := (List.range n).foldl (sst d h t) (h t)
theorem foldl_rng {β : Type} (g : β → Nat → β) (b : β) (i : Nat) : (List.range (i + 1)).foldl g b = g ((List.range i).foldl g b) i := by
  rw [List.range_succ, List.foldl_append]; rfl
section
variable {n : Nat} {f : Nat → Nat → Int} {h : Nat → Int} {V : D}
theorem rng_of (hn : n ≤ 8) (S : Store) : rngI (some [.int (n : Int)]) S = .ok ([], rngD 0 n) S := by
  rw [rng1 (b := (n : Int)) (by omega)]; rfl
theorem law_slack_spec (hn : n ≤ 8) (N : Num n h V) {t : Nat} (ht : t < n) (S : Store) : m_law_slack [.d (tabD n f), .d V, .d (.int t)] S = .ok (.d (q2 (slk n (ds f) h t))) S := by
  have k1 := N.at ht
  have k2 := N.len
  unfold m_law_slack b_law_slack
  refine (runD_eq (np := 3) rfl).trans ?_
  simp! [k1, k2, rng_of hn]
  generalize hfr : frM _ _ _ _ _ _ _ = O
  have H : ∃ ρ' S', O = .nx ρ' S' ∧ S' = S ∧ ∃ b4 b5 : Option RV, ρ' = [some (.d (tabD n f)), some (.d V), some (.d (.int t)), some (.d (q2 (slk n (ds f) h t))), b4, b5] := by
    rw [← hfr]
    refine inv_loop (fun o ρ S' => S' = S ∧ ∃ b4 b5 : Option RV, ρ = [some (.d (tabD n f)), some (.d V), some (.d (.int t)), some (.d (q2 ((List.range o).foldl (sst (ds f) h t) (h t)))), b4, b5]) ⟨rfl, _, _, rfl⟩ fun o ho ρ S' ⟨eS, b4, b5, eρ⟩ => ?_
    subst eS eρ
    rw [show ((0 : Int) + (o : Int)) = (o : Int) by omega, foldl_rng]
    generalize (List.range o).foldl (sst (ds f) h t) (h t) = b
    refine ⟨_, rfl, ?_⟩
    by_cases q : o = t
    · subst q
      refine ⟨[some (.d (tabD n f)), some (.d V), some (.d (.int o)), some (.d (q2 b)), some (.d (.int o)), b5], S', ?_, rfl, _, _, by rw [show sst (ds f) h o b o = b from if_pos rfl]⟩
      simp! []
    · have q1 : ¬ (o : Int) = (t : Int) := by omega
      have k3 := N.at ho
      have k4 := law_plus_spec (h t) (h o)
      have k5 := fun S => law_far_spec (f := f) S ht ho
      have k6 := law_minus_spec (h t + h o) (2 * ds f t o)
      have k7 := law_less_spec (h t + h o - 2 * ds f t o) b
      refine ⟨[some (.d (tabD n f)), some (.d V), some (.d (.int t)), some (.d (q2 (sst (ds f) h t b o))), some (.d (.int o)), some (.d (q2 (h t + h o - 2 * ds f t o)))], S', ?_, rfl, _, _, rfl⟩
      unfold sst
      rw [if_neg q]
      by_cases w : h t + h o - 2 * ds f t o < b
      · simp! [q1, k1, k3, k4, k5, far_q2, k6, k7, w]
      · simp! [q1, k1, k3, k4, k5, far_q2, k6, k7, w]
  obtain ⟨ρ', S', e, rfl, b4, b5, rfl⟩ := H
  rw [e]
  simp! []
theorem slack_of_spec (N : Num n h V) {t o : Nat} (ht : t < n) (ho : o < n) (S : Store) : m_slack_of [.d (tabD n f), .d V, .d (.int t), .d (.int o)] S = .ok (.d (q2 (h t + h o - 2 * ds f t o))) S := by
  have k1 := N.at ht
  have k3 := N.at ho
  have k4 := r_plus_spec (h t) (h o)
  have k5 := fun S => far_webs (f := f) S ht ho
  have k6 := r_minus_spec (h t + h o) (2 * ds f t o)
  unfold m_slack_of b_slack_of
  refine (runD_eq (np := 4) rfl).trans ?_
  simp! [k1, k3, k4, k5, far_q2, k6]
theorem lose_spec (hn : n ≤ 8) (N : Num n h V) {t : Nat} (ht : t < n) (S : Store) : m_lose_of [.d (tabD n f), .d V, .d (.int t)] S = .ok (.d (q2 (slk n (ds f) h t))) S := by
  have k1 := N.at ht
  have k2 := N.len
  unfold m_lose_of b_lose_of
  refine (runD_eq (np := 3) rfl).trans ?_
  simp! [k1, k2, rng_of hn]
  generalize hfr : frM _ _ _ _ _ _ _ = O
  have H : ∃ ρ' S', O = .nx ρ' S' ∧ S' = S ∧ ∃ b4 b5 : Option RV, ρ' = [some (.d (tabD n f)), some (.d V), some (.d (.int t)), some (.d (q2 (slk n (ds f) h t))), b4, b5] := by
    rw [← hfr]
    refine inv_loop (fun o ρ S' => S' = S ∧ ∃ b4 b5 : Option RV, ρ = [some (.d (tabD n f)), some (.d V), some (.d (.int t)), some (.d (q2 ((List.range o).foldl (sst (ds f) h t) (h t)))), b4, b5]) ⟨rfl, _, _, rfl⟩ fun o ho ρ S' ⟨eS, b4, b5, eρ⟩ => ?_
    subst eS eρ
    rw [show ((0 : Int) + (o : Int)) = (o : Int) by omega, foldl_rng]
    generalize (List.range o).foldl (sst (ds f) h t) (h t) = b
    refine ⟨_, rfl, ?_⟩
    by_cases q : o = t
    · subst q
      refine ⟨[some (.d (tabD n f)), some (.d V), some (.d (.int o)), some (.d (q2 b)), some (.d (.int o)), b5], S', ?_, rfl, _, _, by rw [show sst (ds f) h o b o = b from if_pos rfl]⟩
      simp! []
    · have q1 : ¬ (o : Int) = (t : Int) := by omega
      have k5 := fun S => slack_of_spec (f := f) N ht ho S
      have k7 := r_less_spec (h t + h o - 2 * ds f t o) b
      refine ⟨[some (.d (tabD n f)), some (.d V), some (.d (.int t)), some (.d (q2 (sst (ds f) h t b o))), some (.d (.int o)), some (.d (q2 (h t + h o - 2 * ds f t o)))], S', ?_, rfl, _, _, rfl⟩
      unfold sst
      rw [if_neg q]
      by_cases w : h t + h o - 2 * ds f t o < b
      · simp! [q1, k5, k7, w]
      · simp! [q1, k5, k7, w]
  obtain ⟨ρ', S', e, rfl, b4, b5, rfl⟩ := H
  rw [e]
  simp! []
/-! ### lowered, town by town -/
def low (n : Nat) (d : Nat → Nat → Int) (h : Nat → Int) : Nat → Nat → Int
  | 0 => h
  | k + 1 => updF (low n d h k) k (low n d h k k - slk n d (low n d h k) k)
theorem blt_list (N : Num n h V) : bltD .list [V] = some (.f (numL n h)) := by
  rcases N.ex with rfl | rfl <;> rfl
theorem subZ_num {n : Nat} {h : Nat → Int} {S : Store} {k : Nat} (hk : k < n) (v : Int) (ρ : Env) : subZ ρ (q2 v) S.length (.d (.int (k : Int))) (S ++ [.lst (numL n h)]) = .nx ρ (S ++ [.lst (numL n (updF h k v))]) := by
  rw [subZ_int, get_last]
  show (match ixN (numL n h).length (k : Int) with
        | some j => Out.nx ρ ((S ++ [Cell.lst (numL n h)]).set S.length (.lst ((numL n h).set j (q2 v))))
        | none => .stuck) = _
  rw [ixN_nat (by rw [numL_len]; exact hk)]
  show Out.nx ρ ((S ++ [Cell.lst (numL n h)]).set S.length (.lst ((numL n h).set k (q2 v)))) = _
  rw [numL_set hk, set_last]
theorem law_lowered_spec (hn : n ≤ 8) (N : Num n h V) (S : Store) : m_law_lowered [.d (tabD n f), .d V] S = .ok (.f (numL n (low n (ds f) h n))) S := by
  have k1 := blt_list N
  have k2 := N.len
  unfold m_law_lowered b_law_lowered
  refine (runD_eq (np := 2) rfl).trans ?_
  simp! [k1, k2, rng_of hn]
  generalize hfr : frM _ _ _ _ _ _ _ = O
  have H : ∃ ρ' S', O = .nx ρ' S' ∧ S' = S ++ [.lst (numL n (low n (ds f) h n))] ∧ ∃ b3 : Option RV, ρ' = [some (.d (tabD n f)), some (.d V), some (.c S.length), b3] := by
    rw [← hfr]
    refine inv_loop (fun k ρ S' => S' = S ++ [.lst (numL n (low n (ds f) h k))] ∧ ∃ b3 : Option RV, ρ = [some (.d (tabD n f)), some (.d V), some (.c S.length), b3]) ⟨rfl, _, rfl⟩ fun k hk ρ S' ⟨eS, b3, eρ⟩ => ?_
    subst eS eρ
    rw [show ((0 : Int) + (k : Int)) = (k : Int) by omega]
    generalize hg : low n (ds f) h k = g
    have e : low n (ds f) h (k + 1) = updF g k (g k - slk n (ds f) g k) := by
      show updF (low n (ds f) h k) k _ = _
      rw [hg]
    rw [e]
    have a1 : atI (numL n g) (k : Int) = some (q2 (g k)) := numL_at hk
    have g1 : (S ++ [Cell.lst (numL n g)])[S.length]? = some (.lst (numL n g)) := get_last _ _
    have pk : ∀ Y, peek1 m_law_slack Y (some [tabD n f, .lst (numL n g), .int k]) = .ok (.d (q2 (slk n (ds f) g k))) Y := fun Y => peek1_ok (law_slack_spec hn ⟨.inl rfl⟩ hk _) rfl
    have k6 := law_minus_spec (g k) (slk n (ds f) g k)
    refine ⟨_, rfl, [some (.d (tabD n f)), some (.d V), some (.c S.length), some (.d (.int k))], _, ?_, rfl, _, rfl⟩
    simp! [g1, a1, pk, k6, subZ_num hk]
  obtain ⟨ρ', S', e, rfl, b3, rfl⟩ := H
  rw [e]
  simp! [get_last]
  rw [endD_c2 _ (Nat.le_refl _), get_last, List.take_left]
  rfl
theorem lowered_by_spec (hn : n ≤ 8) (N : Num n h V) (S : Store) : m_lowered_by [.d (tabD n f), .d V] S = .ok (.f (numL n (low n (ds f) h n))) S := by
  have k1 := blt_list N
  have k2 := N.len
  unfold m_lowered_by b_lowered_by
  refine (runD_eq (np := 2) rfl).trans ?_
  simp! [k1, get_last, numL_len, rng_of hn]
  generalize hfr : frM _ _ _ _ _ _ _ = O
  have H : ∃ ρ' S', O = .nx ρ' S' ∧ S' = S ++ [.lst (numL n (low n (ds f) h n))] ∧ ∃ b3 : Option RV, ρ' = [some (.d (tabD n f)), some (.d V), some (.c S.length), b3] := by
    rw [← hfr]
    refine inv_loop (fun k ρ S' => S' = S ++ [.lst (numL n (low n (ds f) h k))] ∧ ∃ b3 : Option RV, ρ = [some (.d (tabD n f)), some (.d V), some (.c S.length), b3]) ⟨rfl, _, rfl⟩ fun k hk ρ S' ⟨eS, b3, eρ⟩ => ?_
    subst eS eρ
    rw [show ((0 : Int) + (k : Int)) = (k : Int) by omega]
    generalize hg : low n (ds f) h k = g
    have e : low n (ds f) h (k + 1) = updF g k (g k - slk n (ds f) g k) := by
      show updF (low n (ds f) h k) k _ = _
      rw [hg]
    rw [e]
    have a1 : atI (numL n g) (k : Int) = some (q2 (g k)) := numL_at hk
    have g1 : (S ++ [Cell.lst (numL n g)])[S.length]? = some (.lst (numL n g)) := get_last _ _
    have pk : ∀ Y, peek1 m_lose_of Y (some [tabD n f, .lst (numL n g), .int k]) = .ok (.d (q2 (slk n (ds f) g k))) Y := fun Y => peek1_ok (lose_spec hn ⟨.inl rfl⟩ hk _) rfl
    have k6 := r_minus_spec (g k) (slk n (ds f) g k)
    refine ⟨_, rfl, [some (.d (tabD n f)), some (.d V), some (.c S.length), some (.d (.int k))], _, ?_, rfl, _, rfl⟩
    simp! [g1, a1, pk, k6, subZ_num hk]
  obtain ⟨ρ', S', e, rfl, b3, rfl⟩ := H
  rw [e]
  simp! [get_last]
  rw [endD_c2 _ (Nat.le_refl _), get_last, List.take_left]
  rfl
end
end Rf.Law

set_option Elab.async false
set_option linter.all false
set_option maxRecDepth 100000
set_option maxHeartbeats 2000000
namespace Rf.Law
open PySem PySem.Spec PyProof.Rows L2 Rf
/-! ### plain laws of numbers at towns -/
section
variable {n : Nat} {d : Nat → Nat → Int} {h : Nat → Int} {t : Nat}
theorem fold_sst (d : Nat → Nat → Int) (h : Nat → Int) (t : Nat) : ∀ (m : Nat) (b : Int), (List.range m).foldl (sst d h t) b ≤ b ∧ (∀ o, o < m → o ≠ t → (List.range m).foldl (sst d h t) b ≤ h t + h o - 2 * d t o) ∧ ((List.range m).foldl (sst d h t) b = b ∨ ∃ o, o < m ∧ o ≠ t ∧ (List.range m).foldl (sst d h t) b = h t + h o - 2 * d t o)
  | 0, b => ⟨Int.le_refl _, fun o ho => by omega, .inl rfl⟩
  | m + 1, b => by
    obtain ⟨h1, h2, h3⟩ := fold_sst d h t m b
    rw [foldl_rng]
    generalize (List.range m).foldl (sst d h t) b = c at h1 h2 h3
    unfold sst
    by_cases q : m = t
    · rw [if_pos q]
      refine ⟨h1, fun o ho ne => h2 o (by omega) ne, ?_⟩
      rcases h3 with h3 | ⟨o, ho, ne, e⟩
      · exact .inl h3
      · exact .inr ⟨o, by omega, ne, e⟩
    · rw [if_neg q]
      split
      · rename_i z
        refine ⟨by omega, fun o ho ne => ?_, .inr ⟨m, by omega, q, rfl⟩⟩
        by_cases e : o = m
        · subst e; omega
        · have := h2 o (by omega) ne
          omega
      · rename_i z
        refine ⟨h1, fun o ho ne => ?_, ?_⟩
        · by_cases e : o = m
          · subst e; omega
          · exact h2 o (by omega) ne
        · rcases h3 with h3 | ⟨o, ho, ne, e⟩
          · exact .inl h3
          · exact .inr ⟨o, by omega, ne, e⟩
theorem slk_le (n : Nat) (d : Nat → Nat → Int) (h : Nat → Int) (t : Nat) : slk n d h t ≤ h t := (fold_sst d h t n (h t)).1
theorem slk_pair {o : Nat} (ho : o < n) (ne : o ≠ t) : slk n d h t ≤ h t + h o - 2 * d t o := (fold_sst d h t n (h t)).2.1 o ho ne
theorem slk_at (n : Nat) (d : Nat → Nat → Int) (h : Nat → Int) (t : Nat) : slk n d h t = h t ∨ ∃ o, o < n ∧ o ≠ t ∧ slk n d h t = h t + h o - 2 * d t o := (fold_sst d h t n (h t)).2.2
/-- they are enough -/
structure En (n : Nat) (d : Nat → Nat → Int) (h : Nat → Int) : Prop where
  nn : ∀ i, i < n → 0 ≤ h i
  pr : ∀ i j, i < n → j < n → i ≠ j → 2 * d i j ≤ h i + h j
def enB (n : Nat) (d : Nat → Nat → Int) (h : Nat → Int) : Bool := (List.range n).all fun t => decide (0 ≤ slk n d h t)
theorem enB_iff : enB n d h = true ↔ En n d h := by
  unfold enB
  rw [List.all_eq_true]
  constructor
  · intro H
    have H : ∀ t, t < n → 0 ≤ slk n d h t := fun t ht => of_decide_eq_true (H t (List.mem_range.mpr ht))
    exact ⟨fun i hi => Int.le_trans (H i hi) (slk_le n d h i), fun i j hi hj ne => by
      have h1 := H i hi
      have h2 := slk_pair (n := n) (d := d) (h := h) (t := i) hj (Ne.symm ne)
      omega⟩
  · intro E t ht
    rw [List.mem_range] at ht
    refine decide_eq_true ?_
    rcases slk_at n d h t with e | ⟨o, ho, ne, e⟩
    · rw [e]; exact E.nn t ht
    · rw [e]
      have := E.pr t o ht ho (Ne.symm ne)
      omega
def enB2 (n : Nat) (d : Nat → Nat → Int) (h : Nat → Int) : Bool := (List.range n).all fun i => !(List.range (n - i)).any fun k => decide (h i + h (i + k) - 2 * d i (i + k) < 0)
theorem enB2_eq (sym : ∀ i j, d i j = d j i) (d0 : ∀ i, d i i = 0) : enB2 n d h = enB n d h := by
  apply Bool.eq_iff_iff.mpr
  rw [enB_iff]
  unfold enB2
  rw [List.all_eq_true]
  constructor
  · intro H
    have H : ∀ i j, i ≤ j → j < n → 0 ≤ h i + h j - 2 * d i j := fun i j hij hj => by
      have := H i (List.mem_range.mpr (by omega))
      rw [Bool.not_eq_true', Bool.eq_false_iff] at this
      refine Int.not_lt.mp fun hlt => this ?_
      refine List.any_eq_true.mpr ⟨j - i, List.mem_range.mpr (by omega), ?_⟩
      rw [show i + (j - i) = j by omega]
      exact decide_eq_true hlt
    refine ⟨fun i hi => ?_, fun i j hi hj ne => ?_⟩
    · have := H i i (Nat.le_refl _) hi
      rw [d0] at this
      omega
    · rcases Nat.le_total i j with q | q
      · have := H i j q hj
        omega
      · have := H j i q hi
        rw [sym j i] at this
        omega
  · intro E i hi
    rw [List.mem_range] at hi
    rw [Bool.not_eq_true', Bool.eq_false_iff]
    intro ha
    obtain ⟨k, hk, hlt⟩ := List.any_eq_true.mp ha
    rw [List.mem_range] at hk
    have hlt := of_decide_eq_true hlt
    by_cases k0 : k = 0
    · subst k0
      have := E.nn i hi
      rw [Nat.add_zero, d0] at hlt
      omega
    · have := E.pr i (i + k) hi (by omega) (by omega)
      omega
/-- lowered ones: posts, nowhere above -/
structure LW (n : Nat) (d : Nat → Nat → Int) (h g : Nat → Int) (k : Nat) : Prop where
  en : En n d g
  le : ∀ i, g i ≤ h i
  z : ∀ i, i < k → slk n d g i = 0
theorem En.slk (E : En n d h) (ht : t < n) : 0 ≤ Law.slk n d h t := by
  rcases slk_at n d h t with e | ⟨o, ho, ne, e⟩
  · rw [e]; exact E.nn t ht
  · rw [e]
    have := E.pr t o ht ho (Ne.symm ne)
    omega
theorem slk_mono {g : Nat → Int} (E : En n d g) (hi : t < n) {k : Nat} {v : Int} (hk : k < n) (hv : v ≤ g k) (E2 : En n d (updF g k v)) (ne : t ≠ k) (z : Law.slk n d g t = 0) : Law.slk n d (updF g k v) t = 0 := by
  have h0 := E2.slk hi
  have gt : updF g k v t = g t := if_neg ne
  have gk : updF g k v k = v := if_pos rfl
  rcases slk_at n d g t with e | ⟨o, ho, no, e⟩
  · have := slk_le n d (updF g k v) t
    rw [gt] at this
    omega
  · have h1 := slk_pair (n := n) (d := d) (h := updF g k v) (t := t) ho no
    rw [gt] at h1
    by_cases q : o = k
    · subst q
      rw [gk] at h1
      omega
    · rw [show updF g k v o = g o from if_neg q] at h1
      omega
theorem LW.step (sym : ∀ i j, d i j = d j i) {g : Nat → Int} {k : Nat} (L : LW n d h g k) (hk : k < n) : LW n d h (updF g k (g k - Law.slk n d g k)) (k + 1) := by
  have s0 := L.en.slk hk
  have sl := slk_le n d g k
  have gk : updF g k (g k - Law.slk n d g k) k = g k - Law.slk n d g k := if_pos rfl
  have gn : ∀ i, i ≠ k → updF g k (g k - Law.slk n d g k) i = g i := fun i hi => if_neg hi
  have pr : ∀ o, o < n → o ≠ k → Law.slk n d g k ≤ g k + g o - 2 * d k o := fun o ho ne => slk_pair ho ne
  have E2 : En n d (updF g k (g k - Law.slk n d g k)) := by
    refine ⟨fun i hi => ?_, fun i j hi hj ne => ?_⟩
    · by_cases q : i = k
      · subst q; rw [gk]; omega
      · rw [gn i q]; exact L.en.nn i hi
    · by_cases q : i = k
      · subst q
        rw [gk, gn j (Ne.symm ne)]
        have := pr j hj (Ne.symm ne)
        omega
      · by_cases w : j = k
        · subst w
          rw [gk, gn i q]
          have := pr i hi q
          rw [sym i j]
          omega
        · rw [gn i q, gn j w]
          exact L.en.pr i j hi hj ne
  refine ⟨E2, fun i => ?_, fun i hi => ?_⟩
  · by_cases q : i = k
    · subst q; rw [gk]; have := L.le i; omega
    · rw [gn i q]; exact L.le i
  · by_cases q : i = k
    · subst q
      have h0 := E2.slk hk
      rcases slk_at n d g i with e | ⟨o, ho, no, e⟩
      · have := slk_le n d (updF g i (g i - Law.slk n d g i)) i
        rw [gk] at this
        omega
      · have h1 := slk_pair (n := n) (d := d) (h := updF g i (g i - Law.slk n d g i)) (t := i) ho no
        rw [gk, gn o no] at h1
        omega
    · exact slk_mono L.en (by omega) hk (by omega) E2 q (L.z i (by omega))
theorem low_lw (sym : ∀ i j, d i j = d j i) (E : En n d h) : ∀ k, k ≤ n → LW n d h (low n d h k) k
  | 0, _ => ⟨E, fun i => Int.le_refl _, fun i hi => by omega⟩
  | k + 1, hk => (low_lw sym E k (by omega)).step sym (by omega)
end
end Rf.Law

set_option Elab.async false
set_option linter.all false
set_option maxRecDepth 100000
set_option maxHeartbeats 2000000
namespace Rf.Law
open PySem PySem.Spec PyProof.Rows L2 Rf
def iD (i : Nat) : D := .int (i : Int)
theorem rngN (n : Nat) : rngD 0 n = (List.range n).map iD := by
  unfold rngD
  apply List.map_congr_left
  intro i _
  show D.int (0 + (i : Int)) = _
  rw [Int.zero_add]; rfl
theorem rngNk (i m : Nat) : rngD (i : Int) m = (List.range m).map fun k => iD (i + k) := by
  unfold rngD
  apply List.map_congr_left
  intro k _
  show D.int ((i : Int) + (k : Int)) = .int ((i + k : Nat) : Int)
  rw [Int.natCast_add]
/-- its top and its sign -/
theorem q2_top (x : Int) : ∃ a : Int, idxD (q2 x) (.int 0) = some (.int a) ∧ decide (0 ≤ a) = decide (0 ≤ x) ∧ decide (a = 0) = decide (x = 0) ∧ decide (0 < a) = decide (0 < x) ∧ decide (a < 0) = decide (x < 0) := by
  obtain ⟨a, b, e, h, hb⟩ := q2_eq x
  rw [e]
  refine ⟨a, atI_0 _ _, ?_, ?_, ?_, ?_⟩ <;> (refine decide_eq_decide.mpr ?_; rcases hb with rfl | rfl <;> omega)
theorem ints_ok {a b : Int} : eqOk (.tup [.int a, .int b]) (.tup [.int a, .int b]) = true := by rfl
theorem eq_tup2 (a b c e : Int) : cmpD .Eq (.tup [.int a, .int b]) (.tup [.int c, .int e]) = some (decide (a = c) && decide (b = e)) := by
  have : eqOk (.tup [.int a, .int b]) (.tup [.int c, .int e]) = true := rfl
  show (if eqOk (.tup [.int a, .int b]) (.tup [.int c, .int e]) then some (D.eq (.tup [.int a, .int b]) (.tup [.int c, .int e])) else none) = _
  rw [if_pos this]
  show some (decide (a = c) && (decide (b = e) && true)) = _
  rw [Bool.and_true]
theorem ne_tup2 (a b c e : Int) : cmpD .NotEq (.tup [.int a, .int b]) (.tup [.int c, .int e]) = some (!(decide (a = c) && decide (b = e))) := by
  have : eqOk (.tup [.int a, .int b]) (.tup [.int c, .int e]) = true := rfl
  show (if eqOk (.tup [.int a, .int b]) (.tup [.int c, .int e]) then some (!D.eq (.tup [.int a, .int b]) (.tup [.int c, .int e])) else none) = _
  rw [if_pos this]
  show some (!(decide (a = c) && (decide (b = e) && true))) = _
  rw [Bool.and_true]
theorem q2_ne0 (x : Int) : cmpD .NotEq (q2 x) (.tup [.int 0, .int 1]) = some (!decide (x = 0)) := by
  obtain ⟨a, b, e, h, hb⟩ := q2_eq x
  rw [e, ne_tup2]
  congr 2
  rw [← Bool.decide_and]
  refine decide_eq_decide.mpr ?_
  have hp : b = 1 → True := fun _ => trivial
  rcases hb with rfl | rfl
  · omega
  · constructor
    · intro ⟨_, h⟩; omega
    · intro hx
      subst hx
      exfalso
      rw [q2_even (by decide)] at e
      injection e with e
      injection e with _ e
      injection e with e
      injection e with e
      omega
/-! ### is it a RATIO -/
theorem q2_gcd (x : Int) : ∃ a b : Int, q2 x = .tup [.int a, .int b] ∧ 2 * a = x * b ∧ (b = 1 ∨ b = 2) ∧ Nat.gcd a.natAbs b.natAbs = 1 := by
  rcases emod2 x with e | e
  · exact ⟨x / 2, 1, q2_even e, by omega, .inl rfl, Nat.gcd_one_right _⟩
  · refine ⟨x, 2, q2_odd e, by omega, .inr rfl, ?_⟩
    have h1 : x.natAbs % 2 = 1 := by omega
    show Nat.gcd x.natAbs 2 = 1
    rw [Nat.gcd_comm, Nat.gcd_rec, h1]; rfl
theorem is_int_spec (a : Int) (S : Store) : m_is_integer [.d (.int a)] S = .ok (.d (.bl true)) S := is_integer_spec (.int a) S
theorem is_ratio_pair (a b : Int) (hb : 1 ≤ b) (S : Store) : m_is_ratio [.d (.tup [.int a, .int b])] S = .ok (.d (.bl (decide (Nat.gcd a.natAbs b.natAbs = 1)))) S := by
  have k := fun (a : Int) S => is_int_spec a S
  have c : ∀ S, cpM [m_is_integer] cs (.call 0 (.cons .dat (.var 1) .nil)) (.n 1) .no [1] [some (.d (.tup [.int a, .int b])), none] ([], [.int a, .int b]) S = .ok (.f [.bl true, .bl true]) S := fun S => by
    rw [show ([D.int a, D.int b] : List D) = [a, b].map fun x => D.int x from rfl, cp_map (fun x => D.int x) (fun _ => .bl true) (by show 2 ≤ 16777216; decide)]
    · rfl
    · intro x _ A
      rw [compT_one]
      simp! [k]
  have g : decide (((Nat.gcd a.natAbs b.natAbs : Nat) : Int) = 1) = decide (Nat.gcd a.natAbs b.natAbs = 1) := decide_eq_decide.mpr (by omega)
  unfold m_is_ratio b_is_ratio
  refine (runD_eq (np := 1) rfl).trans ?_
  simp! [c, hb, g]
theorem law_ratio_pair (a b : Int) (hb : 1 ≤ b) (hb2 : b < 1000) (S : Store) : m_law_is_ratio [.d (.tup [.int a, .int b])] S = .ok (.d (.bl (decide (Nat.gcd a.natAbs b.natAbs = 1)))) S := by
  have c : ∀ S, cpM [m_law_made] cs (.or (.isi (.var 1) [.bool]) (.nt (.isi (.var 1) [.int]))) (.n 1) .no [1] [some (.d (.tup [.int a, .int b])), none] ([], [.int a, .int b]) S = .ok (.f [.bl false, .bl false]) S := fun S => by
    rw [show ([D.int a, D.int b] : List D) = [a, b].map fun x => D.int x from rfl, cp_map (fun x => D.int x) (fun _ => .bl false) (by show 2 ≤ 16777216; decide)]
    · rfl
    · intro x _ A
      rw [compT_one]
      simp! []
  have m := fun S => law_made_spec (t := a) (b := b) S (by omega) (by
    have := (Nat.log2_lt (show b.natAbs ≠ 0 by omega) (k := 9000)).mpr (Nat.lt_of_lt_of_le (show b.natAbs < 2 ^ 10 by omega) (Nat.pow_le_pow_right (by decide) (by decide)))
    exact this) (by omega)
  have hp : 0 < b := by omega
  have g : (decide (sg b * a / gc a b = a) && decide ((b.natAbs : Int) / gc a b = b)) = decide (Nat.gcd a.natAbs b.natAbs = 1) := by
    have hs : sg b = 1 := if_pos hp
    have g0 := gc_pos (t := a) (b := b) (by omega)
    have ge : gc a b = ((Nat.gcd a.natAbs b.natAbs : Nat) : Int) := rfl
    have bn : (b.natAbs : Int) = b := by omega
    rw [hs, Int.one_mul, bn]
    by_cases q : Nat.gcd a.natAbs b.natAbs = 1
    · rw [decide_eq_true q, show gc a b = 1 by rw [ge, q]; rfl]; simp
    · have : ¬ b / gc a b = b := by
        intro e
        have h2 : 2 ≤ gc a b := by rw [ge] at g0 ⊢; omega
        have := Int.ediv_lt_self_of_pos_of_ne_one hp (by omega : gc a b ≠ 1)
        omega
      simp [q, this]
  unfold m_law_is_ratio b_law_is_ratio
  refine (runD_eq (np := 1) rfl).trans ?_
  simp! [c, hp, m]
  rw [show RD (red a b) = .tup [.int (sg b * a / gc a b), .int ((b.natAbs : Int) / gc a b)] from rfl]
  simp! [eq_tup2, g]
theorem is_ratio_q2 (x : Int) (S : Store) : m_is_ratio [.d (q2 x)] S = .ok (.d (.bl true)) S := by
  obtain ⟨a, b, e, h, hb, g⟩ := q2_gcd x
  rw [e, is_ratio_pair a b (by omega), decide_eq_true g]
theorem law_ratio_q2 (x : Int) (S : Store) : m_law_is_ratio [.d (q2 x)] S = .ok (.d (.bl true)) S := by
  obtain ⟨a, b, e, h, hb, g⟩ := q2_gcd x
  rw [e, law_ratio_pair a b (by omega) (by omega), decide_eq_true g]
/-- what is none -/
structure NoR (x : D) : Prop where
  a : ∀ S, m_is_ratio [.d x] S = .ok (.d (.bl false)) S
  b : ∀ S, m_law_is_ratio [.d x] S = .ok (.d (.bl false)) S
theorem nor_int (i : Int) : NoR (.int i) := by
  refine ⟨fun S => ?_, fun S => ?_⟩
  · unfold m_is_ratio b_is_ratio
    refine (runD_eq (np := 1) rfl).trans ?_
    simp! []
  · unfold m_law_is_ratio b_law_is_ratio
    refine (runD_eq (np := 1) rfl).trans ?_
    simp! []
theorem nor_dbl (a b : Int) (hb : b = 1 ∨ b = 2) : NoR (.tup [.int (2 * a), .int (2 * b)]) := by
  have g : ¬ Nat.gcd (2 * a).natAbs (2 * b).natAbs = 1 := by
    rw [show (2 * a).natAbs = 2 * a.natAbs by omega, show (2 * b).natAbs = 2 * b.natAbs by omega, Nat.gcd_mul_left]
    omega
  exact ⟨fun S => by rw [is_ratio_pair _ _ (by omega), decide_eq_false g], fun S => by rw [law_ratio_pair _ _ (by omega) (by omega), decide_eq_false g]⟩
end Rf.Law

set_option Elab.async false
set_option linter.all false
set_option maxRecDepth 100000
set_option maxHeartbeats 2000000
namespace Rf.Law
open PySem PySem.Spec PyProof.Rows L2 Rf
def okp (d : Nat → Nat → Int) (h : Nat → Int) (a b : Nat) : Bool := !decide (2 * d a b < ((h a - h b).natAbs : Int))
def nearB (n : Nat) (d : Nat → Nat → Int) (h : Nat → Int) : Bool := (List.range n).all fun a => (List.range a).all (okp d h a)
def cbB (n : Nat) (d : Nat → Nat → Int) (h : Nat → Int) : Bool := (List.range n).all fun a => (List.range n).all fun b => !decide (2 * d a b < h a - h b)
def firmB (n : Nat) (d : Nat → Nat → Int) (h : Nat → Int) : Bool := (List.range n).all fun t => decide (slk n d h t = 0)
theorem near_cb {n : Nat} {d : Nat → Nat → Int} {h : Nat → Int} (sym : ∀ i j, d i j = d j i) (d0 : ∀ i, d i i = 0) : nearB n d h = cbB n d h := by
  unfold nearB cbB okp
  apply Bool.eq_iff_iff.mpr
  simp only [List.all_eq_true, List.mem_range, Bool.not_eq_true', decide_eq_false_iff_not]
  constructor
  · intro H a ha b hb
    by_cases e : a = b
    · subst e; rw [d0]; omega
    · rcases Nat.lt_or_gt_of_ne e with q | q
      · have := H b hb a q
        rw [sym a b]
        omega
      · have := H a ha b q
        omega
  · intro H a ha b hb
    have h1 := H a ha b (by omega)
    have h2 := H b (by omega) a ha
    rw [sym b a] at h2
    omega
section
variable {n : Nat} {f : Nat → Nat → Int} {h : Nat → Int} {V : D}
theorem Num.isi (N : Num n h V) : [Ty.list, Ty.tuple].any (isD V) = true := by
  rcases N.ex with rfl | rfl <;> rfl
theorem Num.seq (N : Num n h V) (S : Store) : seqI (.d V) S = .ok ([], (List.range n).map fun i => q2 (h i)) S := by
  rcases N.ex with rfl | rfl <;> rfl
theorem law_enough_spec (hn : n ≤ 8) (N : Num n h V) (S : Store) : m_law_enough [.d (tabD n f), .d V] S = .ok (.d (.bl (enB n (ds f) h))) S := by
  have k2 := N.len
  unfold m_law_enough b_law_enough
  refine (runD_eq (np := 2) rfl).trans ?_
  simp! [k2, rng_of hn, rngN]
  rw [cp_map iD (fun t => .bl (decide (0 ≤ slk n (ds f) h t)))]
  · simp! []
    rw [bls_of]
    simp! [all_map_id]
    rfl
  · rw [List.length_range]; show n ≤ 16777216; omega
  · intro t ht A
    rw [List.mem_range] at ht
    rw [compT_one]
    obtain ⟨a, e1, e2, _⟩ := q2_top (slk n (ds f) h t)
    have k := fun S => law_slack_spec (f := f) hn N ht S
    unfold iD
    simp! [k, e1, e2]
theorem is_list_num (N : Num n h V) (S : Store) : m_is_list [.d V] S = .ok (.d (.bl true)) S := by
  have := N.isi
  unfold m_is_list b_is_list
  refine (runD_eq (np := 1) rfl).trans ?_
  simp! [this]
theorem numbers_spec (h2 : 2 ≤ n) (hn : n ≤ 8) (N : Num n h V) (S : Store) : m_numbers_are_right [.d (tabD n f), .d V] S = .ok (.d (.bl (enB n (ds f) h))) S := by
  rw [← enB2_eq (ds_comm f) (ds_self f)]
  have k1 := fun S => many_webs (n := n) (f := f) S (by omega)
  have k2 := N.len
  have k3 := fun S => is_list_num N S
  unfold m_numbers_are_right b_numbers_are_right
  refine (runD_eq (np := 2) rfl).trans ?_
  simp! [k1, k2, k3, N.seq]
  rw [cp_map (fun i => q2 (h i)) (fun _ => .bl true)]
  · simp! []
    rw [bls_of]
    simp! [all_map_id]
    have at' : ((List.range n).all fun _ => true) = true := by simp
    simp! [at', rng_of hn, rngN]
    generalize hfr : frM _ _ _ _ _ _ _ = O
    have H : (∃ ρ', O = .nx ρ' S ∧ (∃ b3 : Option RV, ρ' = [some (.d (tabD n f)), some (.d V), some (.d (.int n)), b3, none]) ∧ enB2 n (ds f) h = true) ∨ (O = .ret (.d (.bl false)) S ∧ enB2 n (ds f) h = false) := by
      rw [← hfr]
      refine find_const iD (fun i => !(List.range (n - i)).any fun k => decide (h i + h (i + k) - 2 * ds f i (i + k) < 0)) (.bl false) (fun ρ' => ∃ b3 : Option RV, ρ' = [some (.d (tabD n f)), some (.d V), some (.d (.int n)), b3, none]) ⟨_, rfl⟩ fun i hi ρ ⟨b3, hρ⟩ => ?_
      subst hρ
      rw [List.mem_range] at hi
      refine ⟨_, rfl, ?_⟩
      have c : ∀ S, cpM [m_many_of_webs, m_is_list, m_is_ratio, m_slack_of] cs (.cmp .Lt (.idx (.call 3 (.cons .dat (.var 0) (.cons .dat (.var 1) (.cons .dat (.var 3) (.cons .dat (.var 4) .nil))))) (.lit (.int 0))) (.lit (.int 0))) (.n 4) .no [4] [some (.d (tabD n f)), some (.d V), some (.d (.int n)), some (.d (.int i)), none] ([], (List.range (n - i)).map fun k => iD (i + k)) S = .ok (.f ((List.range (n - i)).map fun k => .bl (decide (h i + h (i + k) - 2 * ds f i (i + k) < 0)))) S := fun S => by
        rw [cp_map (fun k => iD (i + k)) (fun k => .bl (decide (h i + h (i + k) - 2 * ds f i (i + k) < 0)))]
        · rw [List.length_range]; show n - i ≤ 16777216; omega
        · intro k hk A
          rw [List.mem_range] at hk
          rw [compT_one]
          obtain ⟨a, e1, _, _, _, e2⟩ := q2_top (h i + h (i + k) - 2 * ds f i (i + k))
          have k := fun S => slack_of_spec (f := f) N hi (show i + k < n by omega) S
          unfold iD
          simp! [k, e1, e2]
      have rg : ∀ S, rngI (some [.int (i : Int), .int (n : Int)]) S = .ok ([], (List.range (n - i)).map fun k => iD (i + k)) S := fun S => by
        rw [rng2 (by omega) (by omega), show ((n : Int) - (i : Int)).toNat = n - i by omega, rngNk]
      have an := bls_of (fun k => decide (h i + h (i + k) - 2 * ds f i (i + k) < 0)) (List.range (n - i))
      cases hb : (List.range (n - i)).any fun k => decide (h i + h (i + k) - 2 * ds f i (i + k) < 0) with
      | true =>
        refine .inr ⟨rfl, ?_⟩
        unfold iD
        simp! [rg, c, an, any_map_id, hb]
      | false =>
        refine .inl ⟨rfl, [some (.d (tabD n f)), some (.d V), some (.d (.int n)), some (.d (.int i)), none], ?_, _, rfl⟩
        unfold iD
        simp! [rg, c, an, any_map_id, hb]
    rcases H with ⟨ρ', e, ⟨b3, rfl⟩, hb⟩ | ⟨e, hb⟩
    · rw [e, hb]
      simp! []
    · rw [e, hb]
      simp! []
  · rw [List.length_range]; show n ≤ 16777216; omega
  · intro i hi A
    rw [compT_one]
    simp! [is_ratio_q2]
theorem loose_spec (hn : n ≤ 8) (N : Num n h V) (S : Store) : m_loose_of [.d (tabD n f), .d V] S = .ok (.d (match (List.range n).filter (fun t => !decide (slk n (ds f) h t = 0)) with | t :: _ => iD t | [] => .non)) S := by
  have k2 := N.len
  unfold m_loose_of b_loose_of
  refine (runD_eq (np := 2) rfl).trans ?_
  simp! [k2, rng_of hn, rngN]
  rw [cp_filt iD fun t => !decide (slk n (ds f) h t = 0)]
  · have ne : ∀ L : List Nat, cmpD .NotEq (.lst (L.map iD)) (.lst []) = some (!L.isEmpty) := fun L => by
      have ok : eqOk (.lst (L.map iD)) (.lst []) = true := by
        have h1 : ∀ L : List Nat, D.okcs (L.map iD) = true ∧ D.deps (L.map iD) = 0 := fun L => by
          induction L with
          | nil => exact ⟨rfl, rfl⟩
          | cons x L ih => exact ⟨by show (true && D.okcs (L.map iD)) = true; rw [ih.1]; rfl, by show max 0 (D.deps (L.map iD)) = 0; rw [ih.2]; rfl⟩
        unfold eqOk
        rw [show (D.lst (L.map iD)).okc = true from (h1 L).1, show (D.lst (L.map iD)).dep = 1 from by show D.deps (L.map iD) + 1 = 1; rw [(h1 L).2]]
        rfl
      show (if eqOk (.lst (L.map iD)) (.lst []) then some (!D.eq (.lst (L.map iD)) (.lst [])) else none) = _
      rw [if_pos ok]
      cases L <;> rfl
    generalize (List.range n).filter (fun t => !decide (slk n (ds f) h t = 0)) = L
    cases L with
    | nil =>
      have : cmpD .NotEq (.lst []) (.lst []) = some false := ne []
      simp! [this]
    | cons t L =>
      have : cmpD .NotEq (.lst (iD t :: L.map iD)) (.lst []) = some true := ne (t :: L)
      have i0 : idxD (.lst (iD t :: L.map iD)) (.int 0) = some (iD t) := atI_0 _ _
      simp! [this, i0]
  · rw [List.length_range]; show n ≤ 16777216; omega
  · intro t ht A
    rw [List.mem_range] at ht
    rw [compT_if]
    have k := fun S => lose_spec (f := f) hn N ht S
    have hc : (cs[2]? : Option D) = some (.tup [.int 0, .int 1]) := rfl
    have q := q2_ne0 (slk n (ds f) h t)
    unfold iD
    simp! [k, hc, q]
    cases decide (slk n (ds f) h t = 0) <;> rfl
theorem firm_filter (n : Nat) (d : Nat → Nat → Int) (h : Nat → Int) : ((List.range n).filter (fun t => !decide (slk n d h t = 0))).isEmpty = firmB n d h := by
  unfold firmB
  apply Bool.eq_iff_iff.mpr
  rw [List.isEmpty_iff, List.filter_eq_nil_iff, List.all_eq_true]
  constructor
  · intro H t ht
    have := H t ht
    simpa using this
  · intro H t ht
    have := H t ht
    simpa using this
theorem post_spec (h2 : 2 ≤ n) (hn : n ≤ 8) (N : Num n h V) (S : Store) : m_post_is_right [.d (tabD n f), .d V] S = .ok (.d (.bl (enB n (ds f) h && firmB n (ds f) h))) S := by
  have k1 := fun S => numbers_spec (f := f) h2 hn N S
  have k2 := fun S => loose_spec (f := f) hn N S
  rw [← firm_filter]
  unfold m_post_is_right b_post_is_right
  refine (runD_eq (np := 2) rfl).trans ?_
  generalize (List.range n).filter (fun t => !decide (slk n (ds f) h t = 0)) = L at k2 ⊢
  cases hE : enB n (ds f) h with
  | false => simp! [k1, hE]
  | true =>
    cases L with
    | nil =>
      have : cmpD .Is .non .non = some true := rfl
      simp! [k1, hE, k2, this]
      rfl
    | cons t L =>
      have : cmpD .Is (iD t) .non = some false := rfl
      simp! [k1, hE, k2, this]
      rfl
theorem could_spec (h2 : 2 ≤ n) (hn : n ≤ 8) (N : Num n h V) (S : Store) : m_could_be_by [.d (tabD n f), .d V] S = .ok (.d (.bl (enB n (ds f) h && nearB n (ds f) h))) S := by
  have k1 := fun S => numbers_spec (f := f) h2 hn N S
  have k2 := N.len
  rw [near_cb (ds_comm f) (ds_self f)]
  unfold m_could_be_by b_could_be_by
  refine (runD_eq (np := 2) rfl).trans ?_
  cases hE : enB n (ds f) h with
  | false => simp! [k1, hE]
  | true =>
    simp! [k1, hE, k2, rng_of hn, rngN]
    generalize hfr : frM _ _ _ _ _ _ _ = O
    have H : (∃ ρ', O = .nx ρ' S ∧ (∃ b2 b3 : Option RV, ρ' = [some (.d (tabD n f)), some (.d V), b2, b3]) ∧ cbB n (ds f) h = true) ∨ (O = .ret (.d (.bl false)) S ∧ cbB n (ds f) h = false) := by
      rw [← hfr]
      refine find_const iD (fun a => (List.range n).all fun b => !decide (2 * ds f a b < h a - h b)) (.bl false) (fun ρ' => ∃ b2 b3 : Option RV, ρ' = [some (.d (tabD n f)), some (.d V), b2, b3]) ⟨_, _, rfl⟩ fun a ha ρ ⟨b2, b3, hρ⟩ => ?_
      subst hρ
      rw [List.mem_range] at ha
      refine ⟨_, rfl, ?_⟩
      simp! [k2, rng_of hn, rngN]
      generalize hfr2 : frM _ _ _ _ _ _ _ = O2
      have H2 : (∃ ρ', O2 = .nx ρ' S ∧ (∃ b3 : Option RV, ρ' = [some (.d (tabD n f)), some (.d V), some (.d (iD a)), b3]) ∧ ((List.range n).all fun b => !decide (2 * ds f a b < h a - h b)) = true) ∨ (O2 = .ret (.d (.bl false)) S ∧ ((List.range n).all fun b => !decide (2 * ds f a b < h a - h b)) = false) := by
        rw [← hfr2]
        refine find_const iD (fun b => !decide (2 * ds f a b < h a - h b)) (.bl false) (fun ρ' => ∃ b3 : Option RV, ρ' = [some (.d (tabD n f)), some (.d V), some (.d (iD a)), b3]) ⟨_, rfl⟩ fun b hb ρ ⟨b3, hρ⟩ => ?_
        subst hρ
        rw [List.mem_range] at hb
        refine ⟨_, rfl, ?_⟩
        have k3 := fun S => far_webs (f := f) S ha hb
        have k4 := N.at ha
        have k5 := N.at hb
        have k6 := r_minus_spec (h a) (h b)
        have k7 := r_less_spec (2 * ds f a b) (h a - h b)
        cases hl : decide (2 * ds f a b < h a - h b) with
        | true =>
          refine .inr ⟨rfl, ?_⟩
          unfold iD
          simp! [k3, far_q2, k4, k5, k6, k7, hl]
        | false =>
          refine .inl ⟨rfl, [some (.d (tabD n f)), some (.d V), some (.d (iD a)), some (.d (iD b))], ?_, _, rfl⟩
          unfold iD
          simp! [k3, far_q2, k4, k5, k6, k7, hl]
      rcases H2 with ⟨ρ', e, ⟨b3, rfl⟩, hb⟩ | ⟨e, hb⟩
      · rw [e, hb]
        exact .inl ⟨rfl, [some (.d (tabD n f)), some (.d V), some (.d (iD a)), b3], by simp! [], _, _, rfl⟩
      · rw [e, hb]
        exact .inr ⟨rfl, by simp! []⟩
    rcases H with ⟨ρ', e, ⟨b2, b3, rfl⟩, hb⟩ | ⟨e, hb⟩
    · rw [e, hb]
      simp! []
    · rw [e, hb]
      simp! []
def nearT (n : Nat) (d : Nat → Nat → Int) (h : Nat → Int) : Bool := (List.range n).all fun a => (List.range a).all (okp d h a)
theorem law_says_spec (h2 : 2 ≤ n) (hn : n ≤ 8) (N : Num n h V) (S : Store) : m_law_says [.d (tabD n f), .d V] S = .ok (.f [.bl (enB n (ds f) h), .bl (enB n (ds f) h && firmB n (ds f) h), .bl (enB n (ds f) h && nearB n (ds f) h)]) S := by
  have k1 := fun S => many_law (n := n) (f := f) S (by omega)
  have k2 := N.len
  have k3 := N.isi
  have k4 := fun S => law_enough_spec (f := f) hn N S
  have c1 : ∀ S, cpM [m_law_many, m_law_is_ratio, m_law_enough, m_law_slack, m_law_less, m_law_size, m_law_far, m_law_minus] cs (.call 1 (.cons .dat (.var 6) .nil)) (.n 6) .no [6] [some (.d (tabD n f)), some (.d V), none, none, none, none, none] ([], (List.range n).map fun i => q2 (h i)) S = .ok (.f ((List.range n).map fun _ => .bl true)) S := fun S => by
    rw [cp_map (fun i => q2 (h i)) (fun _ => .bl true)]
    · rw [List.length_range]; show n ≤ 16777216; omega
    · intro i hi A
      rw [compT_one]
      simp! [law_ratio_q2]
  have c2 : ∀ S, cpM [m_law_many, m_law_is_ratio, m_law_enough, m_law_slack, m_law_less, m_law_size, m_law_far, m_law_minus] cs (.cmp .Eq (.idx (.call 3 (.cons .dat (.var 0) (.cons .dat (.var 1) (.cons .dat (.var 4) .nil)))) (.lit (.int 0))) (.lit (.int 0))) (.n 4) .no [4] [some (.d (tabD n f)), some (.d V), none, none, none, none, none] ([], (List.range n).map iD) S = .ok (.f ((List.range n).map fun t => .bl (decide (slk n (ds f) h t = 0)))) S := fun S => by
    rw [cp_map iD (fun t => .bl (decide (slk n (ds f) h t = 0)))]
    · rw [List.length_range]; show n ≤ 16777216; omega
    · intro t ht A
      rw [List.mem_range] at ht
      rw [compT_one]
      obtain ⟨a, e1, _, e2, _⟩ := q2_top (slk n (ds f) h t)
      have k := fun S => law_slack_spec (f := f) hn N ht S
      unfold iD
      simp! [k, e1, e2]
  have b1 := bls_of (fun _ : Nat => true) (List.range n)
  have b2 := bls_of (fun t => decide (slk n (ds f) h t = 0)) (List.range n)
  have at' : ((List.range n).all fun _ => true) = true := by simp
  have fm : ((List.range n).all fun t => decide (slk n (ds f) h t = 0)) = firmB n (ds f) h := rfl
  unfold m_law_says b_law_says
  refine (runD_eq (np := 2) rfl).trans ?_
  simp! [k1, k2, k3, N.seq, c1, b1, all_map_id, at']
  cases hE : enB n (ds f) h with
  | false => simp! [k4, hE]
  | true =>
    simp! [k4, hE, k2, rng_of hn, rngN, c2, b2, all_map_id, fm]
    rw [← rngN]
    generalize hfr : frM _ _ _ _ _ _ _ = O
    have H : ∃ ρ' S', O = .nx ρ' S' ∧ S' = S ∧ ∃ b4 b5 : Option RV, ρ' = [some (.d (tabD n f)), some (.d V), some (.d (.bl (firmB n (ds f) h))), some (.d (.bl (nearB n (ds f) h))), b4, b5, none] := by
      rw [← hfr]
      refine inv_loop (fun a ρ S' => S' = S ∧ ∃ b4 b5 : Option RV, ρ = [some (.d (tabD n f)), some (.d V), some (.d (.bl (firmB n (ds f) h))), some (.d (.bl ((List.range a).all fun a => (List.range a).all (okp (ds f) h a)))), b4, b5, none]) ⟨rfl, _, _, rfl⟩ fun a ha ρ S' ⟨eS, b4, b5, eρ⟩ => ?_
      subst eS eρ
      rw [show ((0 : Int) + (a : Int)) = (a : Int) by omega]
      refine ⟨_, rfl, ?_⟩
      have rg : ∀ S, rngI (some [.int (a : Int)]) S = .ok ([], rngD 0 a) S := fun S => rng_of (by omega) S
      simp! [rg]
      generalize hB : (List.range a).all (fun a => (List.range a).all (okp (ds f) h a)) = B
      generalize hfr2 : frM _ _ _ _ _ _ _ = O2
      have H2 : ∃ ρ' S2, O2 = .nx ρ' S2 ∧ S2 = S' ∧ ∃ b5 : Option RV, ρ' = [some (.d (tabD n f)), some (.d V), some (.d (.bl (firmB n (ds f) h))), some (.d (.bl (B && (List.range a).all (okp (ds f) h a)))), some (.d (.int a)), b5, none] := by
        rw [← hfr2]
        refine inv_loop (fun b ρ S2 => S2 = S' ∧ ∃ b5 : Option RV, ρ = [some (.d (tabD n f)), some (.d V), some (.d (.bl (firmB n (ds f) h))), some (.d (.bl (B && (List.range b).all (okp (ds f) h a)))), some (.d (.int a)), b5, none]) ⟨rfl, _, by rw [List.range_zero, List.all_nil, Bool.and_true]⟩ fun b hb ρ S2 ⟨eS, b5, eρ⟩ => ?_
        subst eS eρ
        rw [show ((0 : Int) + (b : Int)) = (b : Int) by omega]
        have e : (B && (List.range (b + 1)).all (okp (ds f) h a)) = ((B && (List.range b).all (okp (ds f) h a)) && okp (ds f) h a b) := by
          rw [List.range_succ, List.all_append, List.all_cons, List.all_nil, Bool.and_true, Bool.and_assoc]
        rw [e]
        generalize (B && (List.range b).all (okp (ds f) h a)) = B2
        have k5 := fun S => law_far_spec (f := f) S ha (show b < n by omega)
        have k6 := N.at ha
        have k7 := N.at (show b < n by omega)
        have k8 := law_minus_spec (h a) (h b)
        have k9 := law_size_spec (h a - h b)
        have k10 := law_less_spec (2 * ds f a b) ((h a - h b).natAbs : Int)
        refine ⟨_, rfl, [some (.d (tabD n f)), some (.d V), some (.d (.bl (firmB n (ds f) h))), some (.d (.bl (B2 && okp (ds f) h a b))), some (.d (.int a)), some (.d (.int b)), none], S2, ?_, rfl, _, rfl⟩
        unfold okp
        cases B2 with
        | false => simp! []
        | true => simp! [k5, far_q2, k6, k7, k8, k9, k10]
      obtain ⟨ρ', S2, e, rfl, b5, rfl⟩ := H2
      rw [e]
      refine ⟨[some (.d (tabD n f)), some (.d V), some (.d (.bl (firmB n (ds f) h))), some (.d (.bl (B && (List.range a).all (okp (ds f) h a)))), some (.d (.int a)), b5, none], S2, by simp! [], rfl, some (.d (.int a)), b5, ?_⟩
      rw [List.range_succ, List.all_append, List.all_cons, List.all_nil, Bool.and_true, hB]
    obtain ⟨ρ', S', e, rfl, b4, b5, rfl⟩ := H
    rw [e]
    simp! []
end
end Rf.Law

set_option Elab.async false
set_option linter.all false
set_option maxRecDepth 100000
set_option maxHeartbeats 2000000
namespace Rf.Law
open PySem PySem.Spec PyProof.Rows L2 Rf
/-! ### any value that is tried -/
structure Jd (n : Nat) (f : Nat → Nat → Int) (V : D) (b1 b2 b3 : Bool) : Prop where
  says : ∀ S, m_law_says [.d (tabD n f), .d V] S = .ok (.f [.bl b1, .bl b2, .bl b3]) S
  en : ∀ S, m_are_enough [.d (tabD n f), .d V] S = .ok (.d (.bl b1)) S
  po : ∀ S, m_is_post [.d (tabD n f), .d V] S = .ok (.d (.bl b2)) S
  co : ∀ S, m_could_be [.d (tabD n f), .d V] S = .ok (.d (.bl b3)) S
section
variable {n : Nat} {f : Nat → Nat → Int}
theorem jd_mk (M : Met n f) {V : D} {b1 b2 b3 : Bool} (says : ∀ S, m_law_says [.d (tabD n f), .d V] S = .ok (.f [.bl b1, .bl b2, .bl b3]) S) (h1 : ∀ S, m_numbers_are_right [.d (tabD n f), .d V] S = .ok (.d (.bl b1)) S) (h2 : ∀ S, m_post_is_right [.d (tabD n f), .d V] S = .ok (.d (.bl b2)) S) (h3 : ∀ S, m_could_be_by [.d (tabD n f), .d V] S = .ok (.d (.bl b3)) S) : Jd n f V b1 b2 b3 := by
  have c1 := fun S => M.toTab.check_posts S
  have c2 := fun S => M.check_metric S
  refine ⟨says, fun S => ?_, fun S => ?_, fun S => ?_⟩
  · unfold m_are_enough b_are_enough
    refine (runD_eq (np := 2) rfl).trans ?_
    simp! [c1, c2, h1]
  · unfold m_is_post b_is_post
    refine (runD_eq (np := 2) rfl).trans ?_
    simp! [c1, c2, h2]
  · unfold m_could_be b_could_be
    refine (runD_eq (np := 2) rfl).trans ?_
    simp! [c1, c2, h3]
theorem jd_num (M : Met n f) {h : Nat → Int} {V : D} (N : Num n h V) : Jd n f V (enB n (ds f) h) (enB n (ds f) h && firmB n (ds f) h) (enB n (ds f) h && nearB n (ds f) h) :=
  jd_mk M (fun S => law_says_spec M.lo M.hi N S) (fun S => numbers_spec M.lo M.hi N S) (fun S => post_spec M.lo M.hi N S) (fun S => could_spec M.lo M.hi N S)
theorem jd_no (M : Met n f) {V : D} (says : ∀ S, m_law_says [.d (tabD n f), .d V] S = .ok (.f [.bl false, .bl false, .bl false]) S) (h1 : ∀ S, m_numbers_are_right [.d (tabD n f), .d V] S = .ok (.d (.bl false)) S) : Jd n f V false false false := by
  refine jd_mk M says h1 (fun S => ?_) fun S => ?_
  · unfold m_post_is_right b_post_is_right
    refine (runD_eq (np := 2) rfl).trans ?_
    simp! [h1]
  · unfold m_could_be_by b_could_be_by
    refine (runD_eq (np := 2) rfl).trans ?_
    simp! [h1]
theorem jd_non (M : Met n f) : Jd n f .non false false false := by
  have k1 := fun S => many_webs (n := n) (f := f) S (by have := M.lo; omega)
  refine jd_no M (fun S => ?_) fun S => ?_
  · unfold m_law_says b_law_says
    refine (runD_eq (np := 2) rfl).trans ?_
    simp! []
  · have k2 : ∀ S, m_is_list [.d .non] S = .ok (.d (.bl false)) S := fun S => by
      unfold m_is_list b_is_list
      refine (runD_eq (np := 1) rfl).trans ?_
      simp! []
    unfold m_numbers_are_right b_numbers_are_right
    refine (runD_eq (np := 2) rfl).trans ?_
    simp! [k1, k2]
theorem is_list_l (xs : List D) (S : Store) : m_is_list [.d (.lst xs)] S = .ok (.d (.bl true)) S := by
  unfold m_is_list b_is_list
  refine (runD_eq (np := 1) rfl).trans ?_
  simp! []
theorem jd_len (M : Met n f) {xs : List D} (hl : xs.length ≠ n) : Jd n f (.lst xs) false false false := by
  have k1 := fun S => many_webs (n := n) (f := f) S (by have := M.lo; omega)
  have k3 := fun S => many_law (n := n) (f := f) S (by have := M.lo; omega)
  have d : ¬ ((xs.length : Nat) : Int) = (n : Int) := by omega
  refine jd_no M (fun S => ?_) fun S => ?_
  · unfold m_law_says b_law_says
    refine (runD_eq (np := 2) rfl).trans ?_
    simp! [k3, d]
  · unfold m_numbers_are_right b_numbers_are_right
    refine (runD_eq (np := 2) rfl).trans ?_
    simp! [k1, is_list_l, d]
theorem jd_bad (M : Met n f) {g : Nat → D} (hg : ∀ i, NoR (g i)) : Jd n f (.lst ((List.range n).map g)) false false false := by
  have k1 := fun S => many_webs (n := n) (f := f) S (by have := M.lo; omega)
  have k3 := fun S => many_law (n := n) (f := f) S (by have := M.lo; omega)
  have b1 := bls_of (fun _ : Nat => false) (List.range n)
  have al : ((List.range n).all fun _ => false) = false := by
    have := M.lo
    obtain ⟨m, rfl⟩ : ∃ m, n = m + 1 := ⟨n - 1, by omega⟩
    rw [List.range_succ_eq_map]
    rfl
  have l : n ≤ 16777216 := by have := M.hi; omega
  refine jd_no M (fun S => ?_) fun S => ?_
  · unfold m_law_says b_law_says
    refine (runD_eq (np := 2) rfl).trans ?_
    simp! [k3, List.length_map, List.length_range]
    rw [cp_map g (fun _ => .bl false)]
    · simp! [b1, all_map_id, al]
    · rw [List.length_range]; exact l
    · intro i _ A
      rw [compT_one]
      simp! [(hg i).b]
  · unfold m_numbers_are_right b_numbers_are_right
    refine (runD_eq (np := 2) rfl).trans ?_
    simp! [k1, is_list_l, List.length_map, List.length_range]
    rw [cp_map g (fun _ => .bl false)]
    · simp! [b1, all_map_id, al]
    · rw [List.length_range]; exact l
    · intro i _ A
      rw [compT_one]
      simp! [(hg i).a]
/-- a value both sides judge alike -/
def Jud (n : Nat) (f : Nat → Nat → Int) (V : D) : Prop := ∃ b1 b2 b3, Jd n f V b1 b2 b3
end
/-! ### what may be shown -/
theorem nc_q2 {x : Int} (h : x.natAbs ≤ 1000000) : Nc 4012 1 (q2 x) := by
  obtain ⟨a, b, e, h1, hb⟩ := q2_eq x
  rw [e]
  have k : ∀ z : Int, z.natAbs ≤ 1000000 → Nc 2000 0 (.int z) := fun z hz => nc_int (Nat.lt_of_lt_of_le (show z.natAbs < 2 ^ 20 by omega) (Nat.pow_le_pow_right (by decide) (by decide)))
  refine nc_tup (w := 2000) (k := 0) (n := 2) (ds := [.int a, .int b]) (fun d hd => ?_) (Nat.le_refl 2)
  simp only [List.mem_cons, List.not_mem_nil, or_false] at hd
  rcases hd with rfl | rfl
  · exact k a (by rcases hb with rfl | rfl <;> omega)
  · exact k b (by rcases hb with rfl | rfl <;> decide)
theorem nc_numL {n : Nat} {h : Nat → Int} (hn : n ≤ 8) (hb : ∀ i, i < n → (h i).natAbs ≤ 1000000) : Nc 32120 2 (.lst (numL n h)) := by
  refine nc_lst (w := 4012) (k := 1) (n := 8) (ds := numL n h) (fun d hd => ?_) (by rw [numL_len]; exact hn)
  unfold numL at hd
  obtain ⟨i, hi, rfl⟩ := List.mem_map.mp hd
  exact nc_q2 (hb i (List.mem_range.mp hi))
theorem nc_two {w k : Nat} {a b : D} (ha : Nc w k a) (hb : Nc w k b) : Nc (2 * (w + 2) + 8) (k + 1) (.lst [a, b]) := nc_lst (fun d hd => by
  simp only [List.mem_cons, List.not_mem_nil, or_false] at hd
  rcases hd with rfl | rfl
  · exact ha
  · exact hb) (Nat.le_refl _)
/-- numbers that are no great ones -/
def Sm (n : Nat) (B : Int) (h : Nat → Int) : Prop := ∀ i, i < n → -B ≤ h i ∧ h i ≤ B
theorem slk_sm {n : Nat} {d : Nat → Nat → Int} {h : Nat → Int} {B : Int} (hh : Sm n B h) (hd : ∀ i j, i < n → j < n → 0 ≤ d i j ∧ d i j ≤ 999) : Sm n (2 * B + 2000) (slk n d h) := fun t ht => by
  have h1 := slk_le n d h t
  have h2 := hh t ht
  rcases slk_at n d h t with e | ⟨o, ho, ne, e⟩
  · omega
  · have := hh o ho
    have := hd t o ht ho
    omega
end Rf.Law

set_option Elab.async false
set_option linter.all false
set_option maxRecDepth 100000
set_option maxHeartbeats 2000000
namespace Rf.Law
open PySem PySem.Spec PyProof.Rows L2 Rf
/-! ### drawn numbers -/
theorem draw1 {p : Cell} {k : Int} (hp : PotC p) (hk : 0 < k) (hk2 : k < 1000) : ∃ (j : Int) (p' : Cell), (∀ (z : Cell) (R : Store), m_law_draw [.c 1, .d (.int k)] (z :: p :: R) = .ok (.d (.int j)) (z :: p' :: R)) ∧ PotC p' ∧ 0 ≤ j ∧ j < k := by
  obtain ⟨j, p', e, h1, h2, h3⟩ := draw_at hp hk hk2
  exact ⟨j, p', fun z R => e 1 (z :: p :: R) rfl, h1, h2, h3⟩
theorem draw0 {p : Cell} {k : Int} (hp : PotC p) (hk : 0 < k) (hk2 : k < 1000) : ∃ (j : Int) (p' : Cell), (∀ (R : Store), m_law_draw [.c 0, .d (.int k)] (p :: R) = .ok (.d (.int j)) (p' :: R)) ∧ PotC p' ∧ 0 ≤ j ∧ j < k := by
  obtain ⟨j, p', e, h1, h2, h3⟩ := draw_at hp hk hk2
  exact ⟨j, p', fun R => e 0 (p :: R) rfl, h1, h2, h3⟩
theorem made_half {t b x : Int} (hb : b = 1 ∨ b = 2) (e : 2 * t = x * b) (S : Store) : m_law_made [.d (.int t), .d (.int b)] S = .ok (.d (q2 x)) S := by
  rw [law_made_spec S (by omega) (by rcases hb with rfl | rfl <;> decide) (by omega), red_half (by omega) e]
theorem numL_add (j : Nat) (v : Nat → Int) (x : Int) : numL j v ++ [q2 x] = numL (j + 1) (updF v j x) := by
  unfold numL
  rw [List.range_succ, List.map_append]
  congr 1
  · apply List.map_congr_left
    intro i hi
    rw [List.mem_range] at hi
    show q2 (v i) = q2 (if i = j then x else v i)
    rw [if_neg (by omega)]
  · show [q2 x] = [q2 (if j = j then x else v j)]
    rw [if_pos rfl]
def GN : List Mir := [m_law_many, m_law_draw, m_law_made, m_law_plus, m_law_far]
theorem numbers_drawn {n : Nat} {f : Nat → Nat → Int} (M : Met n f) (hf : ∀ i j, j < i → i < n → f i j ≤ 12) {p : Cell} (hp : PotC p) (z : Cell) (R : Store) :
    ∃ h p', PotC p' ∧ En n (ds f) h ∧ Sm n 100 h ∧ m_law_numbers [.c 1, .d (tabD n f)] (z :: p :: R) = .ok (.d (.lst (numL n h))) (z :: p' :: R) := by
  have h2 := M.lo
  have h8 := M.hi
  obtain ⟨j1, p1, e1, hp1, l1, u1⟩ := draw1 (p := p) (k := (n : Int)) hp (by omega) (by omega)
  obtain ⟨at', rfl⟩ : ∃ a : Nat, j1 = a := ⟨j1.toNat, by omega⟩
  obtain ⟨mo, p2, e2, hp2, l2, u2⟩ := draw1 (p := p1) (k := 7) hp1 (by decide) (by decide)
  have k1 := fun S => many_law (n := n) (f := f) S (by omega)
  have k2 := made_half (t := mo) (b := 2) (x := mo) (.inr rfl) (by omega)
  have d12 : ∀ i, i < n → 0 ≤ ds f at' i ∧ ds f at' i ≤ 12 := fun i hi => by
    have := (M.toTab.ds (show at' < n by omega) hi).1
    refine ⟨this, ?_⟩
    unfold ds
    split
    · decide
    · exact hf _ _ (by omega) (by omega)
  obtain ⟨S', acc, e3, p3, h, hp3, hh, rfl, rfl⟩ := cpM_spo (G := GN) (C := cs) (elt := .call 3 (.cons .dat (.tup (.cons .dat (.call 4 (.cons .dat (.var 1) (.cons .dat (.var 3) (.cons .dat (.var 6) .nil)))) (.cons .dat (.lit (.int 1)) .nil))) (.cons .dat (.call 3 (.cons .dat (.var 4) (.cons .dat (.call 2 (.cons .dat (.call 1 (.cons .cel (.var 0) (.cons .dat (.lit (.int 5)) .nil))) (.cons .dat (.bin .Add (.lit (.int 1)) (.call 1 (.cons .cel (.var 0) (.cons .dat (.lit (.int 2)) .nil)))) .nil))) .nil))) .nil))) (tg := .n 6) (cond := .no) (own := [6]) (ρ := [some (.c 1), some (.d (tabD n f)), some (.d (.int n)), some (.d (.int at')), some (.d (q2 mo)), none, none]) (S := z :: p2 :: R) (items := rngD 0 n)
    (fun i S' acc => ∃ p3 h, PotC p3 ∧ (∀ k, k < i → 2 * ds f at' k ≤ h k ∧ h k ≤ 2 * ds f at' k + 20) ∧ S' = z :: p3 :: R ∧ acc = numL i h) (fun i S' acc ⟨p3, h, _, _, e, _⟩ => by rw [e]; rfl)
    (fun i d S acc hi ⟨p3, h, hp3, hh, eS, ea⟩ => by
      subst eS ea
      obtain ⟨hi2, rfl⟩ := rng_get hi
      rw [show ((0 : Int) + (i : Int)) = (i : Int) by omega]
      obtain ⟨x, p4, e4, hp4, l4, u4⟩ := draw1 (p := p3) (k := 5) hp3 (by decide) (by decide)
      obtain ⟨y, p5, e5, hp5, l5, u5⟩ := draw1 (p := p4) (k := 2) hp4 (by decide) (by decide)
      obtain ⟨w, hw, hw2⟩ : ∃ w : Int, 2 * x = w * (1 + y) ∧ (0 ≤ w ∧ w ≤ 8) := by
        have : y = 0 ∨ y = 1 := by omega
        rcases this with rfl | rfl
        · exact ⟨2 * x, by omega, by omega⟩
        · exact ⟨x, by omega, by omega⟩
      have m := made_half (t := x) (b := 1 + y) (x := w) (by omega) hw
      have pl := law_plus_spec mo w
      have pl2 := law_plus_spec (2 * ds f at' i) (mo + w)
      have fr := fun S => law_far_spec (f := f) S (show at' < n by omega) hi2
      have e4 := e4 z (R ++ [.lst (numL i h)])
      have e5 := e5 z (R ++ [.lst (numL i h)])
      refine .inr ⟨q2 (2 * ds f at' i + (mo + w)), z :: p5 :: R, ?_, p5, updF h i (2 * ds f at' i + (mo + w)), hp5, fun k hk => ?_, rfl, numL_add i h _⟩
      · rw [compT_one]
        unfold GN
        simp! [fr, far_q2, e4, e5, m, pl, pl2]
      · unfold updF
        split
        · rename_i q; subst q; omega
        · exact hh k (by omega)) ⟨p2, fun _ => 0, hp2, fun k hk => by omega, rfl, rfl⟩ (by rw [rng_len]; show n ≤ 16777216; omega)
  rw [rng_len] at hh e3
  refine ⟨h, p3, hp3, ⟨fun i hi => ?_, fun i j hi hj ne => ?_⟩, fun i hi => ?_, ?_⟩
  · have := hh i hi; have := d12 i hi; omega
  · have t := M.tri i j at' hi hj (by omega)
    rw [ds_comm f i at'] at t
    have := hh i hi
    have := hh j hj
    omega
  · have := hh i hi; have := d12 i hi; omega
  · unfold GN at e3
    unfold m_law_numbers b_law_numbers
    refine (runD_eq (np := 2) rfl).trans ?_
    simp! [k1, e1, e2, k2, rng_of h8, e3]
/-! ### bent ones -/
def GB : List Mir := [m_law_draw, m_law_plus]
theorem numL_map (n : Nat) (h : Nat → Int) : numL n h = (List.range n).map fun i => q2 (h i) := rfl
theorem enum_range {α : Type} (g : Nat → D) : ∀ (n k : Nat), enumD k ((List.range' k n).map g) = (List.range' k n).map fun i => .tup [iD i, g i]
  | 0, k => rfl
  | n + 1, k => by
    rw [List.range'_succ, List.map_cons, enumD, List.map_cons, enum_range (α := α) g n (k + 1)]; rfl
theorem enum_rng (g : Nat → D) (n : Nat) : enumD 0 ((List.range n).map g) = (List.range n).map fun i => .tup [iD i, g i] := by
  rw [List.range_eq_range']
  exact enum_range (α := Nat) g n 0
theorem fracD {a b x : Int} (hb : b = 1 ∨ b = 2) (e : 2 * a = x * b) (h : b = 2 → a % 2 = 1) : D.tup [.int a, .int b] = q2 x := by
  rcases hb with rfl | rfl
  · rw [q2_even (by omega), show x / 2 = a by omega]
  · have : a = x := by omega
    subst this
    rw [q2_odd (h rfl)]
theorem bent_spec {n : Nat} {f : Nat → Nat → Int} (M : Met n f) {h : Nat → Int} (hs : Sm n 1000 h) {p : Cell} (hp : PotC p) (z : Cell) (R : Store) :
    ∃ p' vs, PotC p' ∧ (∀ V ∈ vs, Jud n f V) ∧ m_law_bent [.c 1, .d (.lst (numL n h))] (z :: p :: R) = .ok (.f vs) (z :: p' :: R) := by
  have h2 := M.lo
  have h8 := M.hi
  have ln : bltD .len [.lst (numL n h)] = some (.d (.int n)) := (Num.mk (V := .lst (numL n h)) (.inl rfl)).len
  obtain ⟨j1, p1, e1, hp1, l1, u1⟩ := draw1 (p := p) (k := (n : Int)) hp (by omega) (by omega)
  obtain ⟨a, rfl⟩ : ∃ a : Nat, j1 = a := ⟨j1.toNat, by omega⟩
  have jn : ∀ g : Nat → Int, Jud n f (.lst (numL n g)) := fun g => ⟨_, _, _, jd_num M ⟨.inl rfl⟩⟩
  have jt : ∀ g : Nat → Int, Jud n f (.tup (numL n g)) := fun g => ⟨_, _, _, jd_num M ⟨.inr rfl⟩⟩
  -- tops and bottoms
  obtain ⟨tp, bt, hq⟩ : ∃ tp bt : Nat → Int, ∀ i, q2 (h i) = .tup [.int (tp i), .int (bt i)] ∧ (bt i = 1 ∨ bt i = 2) := by
    have : ∀ i, ∃ ab : Int × Int, q2 (h i) = .tup [.int ab.1, .int ab.2] ∧ (ab.2 = 1 ∨ ab.2 = 2) := fun i => by
      obtain ⟨a, b, e, _, hb⟩ := q2_eq (h i)
      exact ⟨(a, b), e, hb⟩
    exact ⟨fun i => (this i).choose.1, fun i => (this i).choose.2, fun i => (this i).choose_spec⟩
  have lr : (List.range n).length ≤ 16777216 := by rw [List.length_range]; omega
  let E : Env := [some (.c 1), some (.d (.lst (numL n h))), some (.d (.int a)), none, none, none, none, none, none]
  have c1 : ∀ S, cpM GB cs (.idx (.var 5) (.lit (.int 0))) (.n 5) .no [5] E ([], numL n h) S = .ok (.f ((List.range n).map fun i => .int (tp i))) S := fun S => by
    rw [numL_map, cp_map (fun i => q2 (h i)) (fun i => .int (tp i)) lr]
    intro i _ A
    rw [compT_one, (hq i).1]
    simp! [E]
  have c2 : ∀ S, cpM GB cs (.tup (.cons .dat (.bin .Mult (.lit (.int 2)) (.var 6)) (.cons .dat (.bin .Mult (.lit (.int 2)) (.var 7)) .nil))) (.t (.cons (.n 6) (.cons (.n 7) .nil))) .no [6, 7] E ([], numL n h) S = .ok (.f ((List.range n).map fun i => .tup [.int (2 * tp i), .int (2 * bt i)])) S := fun S => by
    rw [numL_map, cp_map (fun i => q2 (h i)) (fun i => .tup [.int (2 * tp i), .int (2 * bt i)]) lr]
    intro i _ A
    rw [(hq i).1]
    unfold compT
    have m : ∀ x : Int, mulOk 2 x = true := fun x => by simp [mulOk]
    simp! [bindT, bindTs, wipeE, E, m]
  have b1 : Jud n f (.lst ((List.range n).map fun i => .int (tp i))) := ⟨_, _, _, jd_bad M fun i => nor_int _⟩
  have b2 : Jud n f (.lst ((List.range n).map fun i => .tup [.int (2 * tp i), .int (2 * bt i)])) := ⟨_, _, _, jd_bad M fun i => nor_dbl _ _ (hq i).2⟩
  have s1 : sliceD (.lst (numL n h)) none (some (-1)) = some (.f ((numL n h).take (n - 1))) := by
    show some (RX.f (cutD (numL n h) none (some (-1)))) = _
    congr 2
    unfold cutD
    rw [HT.sIx_none]
    have : HT.sIx (numL n h).length (numL n h).length (some (-1)) = ((-1 : Int) + ((numL n h).length : Int)).toNat := rfl
    rw [this, numL_len, show ((-1 : Int) + (n : Int)).toNat = n - 1 by omega]
    rfl
  have b3 : Jud n f (.lst ((numL n h).take (n - 1))) := ⟨_, _, _, jd_len M (by rw [List.length_take, numL_len]; omega)⟩
  have b4 : ∀ x : D, Jud n f (.lst (numL n h ++ [x])) := fun x => ⟨_, _, _, jd_len M (by rw [List.length_append, numL_len, List.length_singleton]; omega)⟩
  have a1 : ∀ x : D, binD .Add (.lst (numL n h)) (.lst [x]) = some (.f (numL n h ++ [x])) := fun x => by
    rw [binD_lst, if_pos (by rw [numL_len]; show n + 1 ≤ 16777216; omega)]
  have tu : bltD .tuple [.lst (numL n h)] = some (.d (.tup (numL n h))) := rfl
  -- a change at one place
  have ch : ∀ (x : Int) (S : Store) (r3 r4 : Option RV), cpM GB cs (.ite (.cmp .Eq (.var 8) (.var 2)) (.call 1 (.cons .dat (.var 5) (.cons .dat (.var 4) .nil))) (.var 5)) (.t (.cons (.n 8) (.cons (.n 5) .nil))) .no [8, 5] [some (.c 1), some (.d (.lst (numL n h))), some (.d (.int a)), r3, some (.d (q2 x)), none, none, none, none] ([], enumD 0 (numL n h)) S = .ok (.f (numL n (updF h a (h a + x)))) S := fun x S r3 r4 => by
    rw [numL_map, enum_rng, cp_map (fun i => .tup [iD i, q2 (h i)]) (fun i => q2 (updF h a (h a + x) i)) lr]
    · rfl
    intro i _ A
    unfold compT updF
    have pl := law_plus_spec (h i) x
    by_cases q : i = a
    · subst q
      have : decide ((i : Int) = (i : Int)) = true := decide_eq_true rfl
      unfold iD GB
      simp! [bindT, bindTs, wipeE, this, pl]
    · have : decide ((i : Int) = (a : Int)) = false := decide_eq_false (by omega)
      rw [if_neg q]
      unfold iD GB
      simp! [bindT, bindTs, wipeE, this]
  have c5 : ∀ (S : Store) (r3 r4 : Option RV), cpM GB cs (.call 1 (.cons .dat (.var 5) (.cons .dat (.tup (.cons .dat (.lit (.int 1)) (.cons .dat (.lit (.int 1)) .nil))) .nil))) (.n 5) .no [5] [some (.c 1), some (.d (.lst (numL n h))), some (.d (.int a)), r3, r4, none, none, none, none] ([], numL n h) S = .ok (.f (numL n fun i => h i + 2)) S := fun S r3 r4 => by
    rw [numL_map, cp_map (fun i => q2 (h i)) (fun i => q2 (h i + 2)) lr]
    · rfl
    intro i _ A
    rw [compT_one]
    have pl := law_plus_spec (h i) 2
    have q1 : D.tup [.int 1, .int 1] = q2 2 := rfl
    unfold GB
    simp! [q1, pl]
  have zr : repD [D.tup [.int 0, .int 1]] (n : Int) = numL n fun _ => 0 := by
    have q0 : D.tup [.int 0, .int 1] = q2 0 := rfl
    unfold repD numL
    rw [q0, show ((n : Int)).toNat = n by omega]
    clear hs ln lr c1 c2 b1 b2 s1 b3 b4 a1 tu ch c5 e1 u1 hq jn jt h2 h8 E M
    induction n with
    | zero => rfl
    | succ n ih => rw [List.replicate_succ', List.flatten_append, ih, List.range_succ, List.map_append]; rfl
  refine ⟨p1, [.lst (numL n h), .tup (numL n h), .lst ((numL n h).take (n - 1)), .lst (numL n h ++ [.tup [.int 0, .int 1]]), .non, .lst ((List.range n).map fun i => .int (tp i)), .lst ((List.range n).map fun i => .tup [.int (2 * tp i), .int (2 * bt i)]), .lst (numL n (updF h a (h a + 1))), .lst (numL n (updF h a (h a + -1))), .lst (numL n (updF h a (h a + 6))), .lst (numL n (updF h a (h a + -4))), .lst (numL n fun i => h i + 2), .lst (numL n fun _ => 0)], hp1, fun V hV => ?_, ?_⟩
  · simp only [List.mem_cons, List.not_mem_nil, or_false] at hV
    rcases hV with rfl | rfl | rfl | rfl | rfl | rfl | rfl | rfl | rfl | rfl | rfl | rfl | rfl
    · exact jn h
    · exact jt h
    · exact b3
    · exact b4 _
    · exact ⟨_, _, _, jd_non M⟩
    · exact b1
    · exact b2
    · exact jn _
    · exact jn _
    · exact jn _
    · exact jn _
    · exact jn _
    · exact jn _
  · have gz : ∀ bs : List D, (z :: p1 :: (R ++ [Cell.lst bs]))[R.length + 2]? = some (.lst bs) := fun bs => by simp
    have sz : ∀ bs cs : List D, (z :: p1 :: (R ++ [Cell.lst bs])).set (R.length + 2) (.lst cs) = z :: p1 :: (R ++ [.lst cs]) := fun bs cs => by
      rw [List.set_cons_succ, List.set_cons_succ, set_last]
    have ap : ∀ (bs : List D) (d : D) (ρ : Env), bs.length < 100 → appZ ρ (R.length + 2) d (z :: p1 :: (R ++ [.lst bs])) = .nx ρ (z :: p1 :: (R ++ [.lst (bs ++ [d])])) := fun bs d ρ hl => by
      rw [appZ_l _ _ _ _ bs (gz bs) (by show _ < 16777216; omega), sz]
    have st : ∀ (bs : List D) (x : Int) (r4 : Option RV), bs.length < 100 → ∃ ρ1, bindT (.n 4) (q2 x) [some (.c 1), some (.d (.lst (numL n h))), some (.d (.int a)), some (.c (R.length + 2)), r4, none, none, none, none] = some ρ1 ∧ exs GB cs (.cons (.app 3 (.comp (.ite (.cmp .Eq (.var 8) (.var 2)) (.call 1 (.cons .dat (.var 5) (.cons .dat (.var 4) .nil))) (.var 5)) (.t (.cons (.n 8) (.cons (.n 5) .nil))) (.enum (.var 1)) .no [8, 5])) .nil) ρ1 (z :: p1 :: (R ++ [.lst bs])) = .nx [some (.c 1), some (.d (.lst (numL n h))), some (.d (.int a)), some (.c (R.length + 2)), some (.d (q2 x)), none, none, none, none] (z :: p1 :: (R ++ [.lst (bs ++ [.lst (numL n (updF h a (h a + x)))])])) := fun bs x r4 hl => by
      refine ⟨_, rfl, ?_⟩
      have c := ch x (z :: p1 :: (R ++ [.lst bs])) (some (.c (R.length + 2))) none
      have ap := fun d ρ => ap bs d ρ hl
      unfold GB at c ⊢
      simp! [c, ap]
    have f1 : D.tup [.int 1, .int 2] = q2 1 := fracD (.inr rfl) (by decide) (by decide)
    have f2 : D.tup [.int (-1), .int 2] = q2 (-1) := fracD (.inr rfl) (by decide) (by decide)
    have f3 : D.tup [.int 3, .int 1] = q2 6 := fracD (.inl rfl) (by decide) (by decide)
    have f4 : D.tup [.int (-2), .int 1] = q2 (-4) := fracD (.inl rfl) (by decide) (by decide)
    let bs0 : List D := [.lst (numL n h), .tup (numL n h), .lst ((numL n h).take (n - 1)), .lst (numL n h ++ [.tup [.int 0, .int 1]]), .non, .lst ((List.range n).map fun i => .int (tp i)), .lst ((List.range n).map fun i => .tup [.int (2 * tp i), .int (2 * bt i)])]
    have lp : frM GB cs (.n 4) (.cons (.app 3 (.comp (.ite (.cmp .Eq (.var 8) (.var 2)) (.call 1 (.cons .dat (.var 5) (.cons .dat (.var 4) .nil))) (.var 5)) (.t (.cons (.n 8) (.cons (.n 5) .nil))) (.enum (.var 1)) .no [8, 5])) .nil) ([], [.tup [.int 1, .int 2], .tup [.int (-1), .int 2], .tup [.int 3, .int 1], .tup [.int (-2), .int 1]]) [some (.c 1), some (.d (.lst (numL n h))), some (.d (.int a)), some (.c (R.length + 2)), none, none, none, none, none] (z :: p1 :: (R ++ [.lst bs0]))
        = .nx [some (.c 1), some (.d (.lst (numL n h))), some (.d (.int a)), some (.c (R.length + 2)), some (.d (q2 (-4))), none, none, none, none] (z :: p1 :: (R ++ [.lst (bs0 ++ [.lst (numL n (updF h a (h a + 1)))] ++ [.lst (numL n (updF h a (h a + -1)))] ++ [.lst (numL n (updF h a (h a + 6)))] ++ [.lst (numL n (updF h a (h a + -4)))])])) := by
      rw [f1, f2, f3, f4]
      obtain ⟨ρ1, w1, w2⟩ := st bs0 1 none (by show 7 < 100; decide)
      rw [frM_step w1 w2]
      obtain ⟨ρ1, w1, w2⟩ := st (bs0 ++ [.lst (numL n (updF h a (h a + 1)))]) (-1) (some (.d (q2 1))) (by show 8 < 100; decide)
      rw [frM_step w1 w2]
      obtain ⟨ρ1, w1, w2⟩ := st (bs0 ++ [.lst (numL n (updF h a (h a + 1)))] ++ [.lst (numL n (updF h a (h a + -1)))]) 6 (some (.d (q2 (-1)))) (by show 9 < 100; decide)
      rw [frM_step w1 w2]
      obtain ⟨ρ1, w1, w2⟩ := st (bs0 ++ [.lst (numL n (updF h a (h a + 1)))] ++ [.lst (numL n (updF h a (h a + -1)))] ++ [.lst (numL n (updF h a (h a + 6)))]) (-4) (some (.d (q2 6))) (by show 10 < 100; decide)
      rw [frM_step w1 w2, frM_nil]
    have e1 := e1 z R
    have rp : binD .Mult (.lst [.tup [.int 0, .int 1]]) (.int (n : Int)) = some (.f (numL n fun _ => 0)) := by
      rw [binD_rep, if_pos (by refine ⟨by omega, by omega, ?_⟩; show 1 * _ ≤ 16777216; omega), zr]
    unfold GB at c1 c2 c5
    simp only [E] at c1 c2
    have go : ∀ bs : List D, bs.length < 90 → ∀ ρ : Env, ρ = [some (.c 1), some (.d (.lst (numL n h))), some (.d (.int a)), some (.c (R.length + 2)), some (.d (q2 (-4))), none, none, none, none] →
        exs GB cs (.cons (.app 3 (.comp (.call 1 (.cons .dat (.var 5) (.cons .dat (.tup (.cons .dat (.lit (.int 1)) (.cons .dat (.lit (.int 1)) .nil))) .nil))) (.n 5) (.seq (.var 1)) .no [5])) (.cons (.app 3 (.bin .Mult (.lst (.cons .dat (.tup (.cons .dat (.lit (.int 0)) (.cons .dat (.lit (.int 1)) .nil))) .nil)) (.blt .len (.cons .rd (.var 1) .nil)))) (.cons (.ret (.var 3)) .nil))) ρ (z :: p1 :: (R ++ [.lst bs])) = .ret (.c (R.length + 2)) (z :: p1 :: (R ++ [.lst (bs ++ [.lst (numL n fun i => h i + 2)] ++ [.lst (numL n fun _ => 0)])])) := fun bs hl ρ eρ => by
      subst eρ
      have a5 := fun d ρ => ap bs d ρ (by omega)
      have a6 := fun d ρ => ap (bs ++ [.lst (numL n fun i => h i + 2)]) d ρ (by rw [List.length_append, List.length_singleton]; omega)
      unfold GB
      simp! [c5, a5, ln, rp, a6]
    have go := go (bs0 ++ [.lst (numL n (updF h a (h a + 1)))] ++ [.lst (numL n (updF h a (h a + -1)))] ++ [.lst (numL n (updF h a (h a + 6)))] ++ [.lst (numL n (updF h a (h a + -4)))]) (by show 11 < 90; decide) _ rfl
    have hd : exs GB cs (takeTs 2 b_law_bent) [some (.c 1), some (.d (.lst (numL n h))), none, none, none, none, none, none, none] (z :: p :: R) = .nx [some (.c 1), some (.d (.lst (numL n h))), some (.d (.int a)), some (.c (R.length + 2)), none, none, none, none, none] (z :: p1 :: (R ++ [.lst bs0])) := by
      simp only [b_law_bent, takeTs, GB]
      simp! [ln, e1, tu, neg1_int, toI_int, s1, a1, c1, c2]
      rfl
    have md : exs GB cs (takeTs 1 (dropTs 2 b_law_bent)) [some (.c 1), some (.d (.lst (numL n h))), some (.d (.int a)), some (.c (R.length + 2)), none, none, none, none, none] (z :: p1 :: (R ++ [.lst bs0])) = .nx [some (.c 1), some (.d (.lst (numL n h))), some (.d (.int a)), some (.c (R.length + 2)), some (.d (q2 (-4))), none, none, none, none] (z :: p1 :: (R ++ [.lst (bs0 ++ [.lst (numL n (updF h a (h a + 1)))] ++ [.lst (numL n (updF h a (h a + -1)))] ++ [.lst (numL n (updF h a (h a + 6)))] ++ [.lst (numL n (updF h a (h a + -4)))])])) := by
      simp only [b_law_bent, takeTs, dropTs]
      simp! [neg1_int, lp]
    unfold m_law_bent
    refine (runD_eq (np := 2) rfl).trans ?_
    show endD _ (exs GB cs b_law_bent [some (.c 1), some (.d (.lst (numL n h))), none, none, none, none, none, none, none] (z :: p :: R)) = _
    rw [exs_split 2, hd, then_nxN, exs_split 1 (dropTs 2 b_law_bent), md, then_nxN, show dropTs 1 (dropTs 2 b_law_bent) = .cons (.app 3 (.comp (.call 1 (.cons .dat (.var 5) (.cons .dat (.tup (.cons .dat (.lit (.int 1)) (.cons .dat (.lit (.int 1)) .nil))) .nil))) (.n 5) (.seq (.var 1)) .no [5])) (.cons (.app 3 (.bin .Mult (.lst (.cons .dat (.tup (.cons .dat (.lit (.int 0)) (.cons .dat (.lit (.int 1)) .nil))) .nil)) (.blt .len (.cons .rd (.var 1) .nil)))) (.cons (.ret (.var 3)) .nil)) from rfl, go]
    rw [show (z :: p :: R).length = R.length + 2 from rfl, endD_c2 _ (Nat.le_refl _), show ∀ x : Cell, (z :: p1 :: (R ++ [x]))[R.length + 2]? = some x from fun x => by simp, show ∀ x : Cell, (z :: p1 :: (R ++ [x])).take (R.length + 2) = z :: p1 :: R from fun x => by simp]
    rfl
end Rf.Law

set_option Elab.async false
set_option linter.all false
set_option maxRecDepth 100000
set_option maxHeartbeats 4000000
namespace Rf.Law
open PySem PySem.Spec PyProof.Rows L2 Rf
theorem rp_tab {n : Nat} {f : Nat → Nat → Int} (h : Tab n f) : (tabD n f).rpOk = true := by
  have h8 := h.hi
  have hrow : ∀ r ∈ rowsT n f, Nc 16024 1 r := fun r hr => by
    unfold rowsT at hr
    obtain ⟨i, hi, rfl⟩ := List.mem_map.mp hr
    rw [List.mem_range] at hi
    refine (nc_tup (w := 2000) (k := 0) (n := 8) (fun d hd => ?_) (by simp; omega)).mono (by decide) (by decide)
    obtain ⟨j, hj, rfl⟩ := List.mem_map.mp hd
    rw [List.mem_range] at hj
    have := h.nn (i + 1) j hj (by omega)
    exact nc_int (Nat.lt_of_lt_of_le (show (f (i + 1) j).natAbs < 2 ^ 10 by omega) (Nat.pow_le_pow_right (by decide) (by decide)))
  have hrows : Nc 200000 2 (.tup (rowsT n f)) := (nc_tup (w := 16024) (k := 1) (n := 8) hrow (by rw [rows_len]; omega)).mono (by decide) (by decide)
  rw [tabD_eq]
  refine (nc_tup (w := 200000) (k := 2) (n := 2) (fun d hd => ?_) (Nat.le_refl _)).rp (by decide) (by decide)
  simp only [List.mem_cons, List.not_mem_nil, or_false] at hd
  rcases hd with rfl | rfl
  · exact ⟨by decide +kernel, rfl, by decide, by decide +kernel⟩
  · exact hrows
def GO : List Mir := [m_law_numbers, m_law_lowered, m_law_bent, m_law_slack, m_can_lose, m_law_says, m_lowered, m_are_enough, m_is_post, m_could_be, m_loose_town, m_law_less]
def ob : Ts := match b_law_one_right with
  | .cons _ (.cons (.fr _ _ b) _) => b
  | _ => .nil
def vb : Ts := match dropTs 10 ob with
  | .cons (.fr _ _ b) _ => b
  | _ => .nil
section
variable {n : Nat} {f : Nat → Nat → Int} {h : Nat → Int} {V : D}
theorem check_num (M : Met n f) (N : Num n h V) (E : En n (ds f) h) (S : Store) : m_check_numbers [.d (tabD n f), .d V] S = .ok (.d .non) S := by
  have c1 := fun S => M.toTab.check_posts S
  have k := fun S => numbers_spec (f := f) M.lo M.hi N S
  rw [enB_iff.mpr E] at k
  unfold m_check_numbers b_check_numbers
  refine (runD_eq (np := 2) rfl).trans ?_
  simp! [c1, k]
theorem can_lose_spec (M : Met n f) (N : Num n h V) (E : En n (ds f) h) {t : Nat} (ht : t < n) (S : Store) : m_can_lose [.d (tabD n f), .d V, .d (.int t)] S = .ok (.d (q2 (slk n (ds f) h t))) S := by
  have c1 := fun S => check_num M N E S
  have c2 := fun S => M.check_metric S
  have k1 := fun S => many_webs (n := n) (f := f) S (by have := M.lo; omega)
  have k2 := fun S => lose_spec (f := f) M.hi N ht S
  have c3 : ∀ S, m_check_town [.d (tabD n f), .d (.int t)] S = .ok (.d .non) S := fun S => by
    have c4 : ∀ S, m_is_town [.d (tabD n f), .d (.int t)] S = .ok (.d (.bl true)) S := fun S => by
      have l0 : decide ((0 : Int) ≤ (t : Int)) = true := decide_eq_true (by omega)
      have l1 : decide ((t : Int) < (n : Int)) = true := decide_eq_true (by omega)
      unfold m_is_town b_is_town
      refine (runD_eq (np := 2) rfl).trans ?_
      simp! [is_int_spec, l0, k1, l1]
    unfold m_check_town b_check_town
    refine (runD_eq (np := 2) rfl).trans ?_
    simp! [c4]
  unfold m_can_lose b_can_lose
  refine (runD_eq (np := 3) rfl).trans ?_
  simp! [c1, c3, c2, k2]
def hdI : List Nat → D
  | t :: _ => iD t
  | [] => .non
def loD (n : Nat) (d : Nat → Nat → Int) (h : Nat → Int) : D := hdI ((List.range n).filter (fun t => !decide (slk n d h t = 0)))
theorem hd_spec (L : List Nat) : cmpD .NotEq (.lst (L.map iD)) (.lst []) = some (!L.isEmpty) := by
  have ok : eqOk (.lst (L.map iD)) (.lst []) = true := by
    have h1 : ∀ L : List Nat, D.okcs (L.map iD) = true ∧ D.deps (L.map iD) = 0 := fun L => by
      induction L with
      | nil => exact ⟨rfl, rfl⟩
      | cons x L ih => exact ⟨by show (true && D.okcs (L.map iD)) = true; rw [ih.1]; rfl, by show max 0 (D.deps (L.map iD)) = 0; rw [ih.2]; rfl⟩
    unfold eqOk
    rw [show (D.lst (L.map iD)).okc = true from (h1 L).1, show (D.lst (L.map iD)).dep = 1 from by show D.deps (L.map iD) + 1 = 1; rw [(h1 L).2]]
    rfl
  show (if eqOk (.lst (L.map iD)) (.lst []) then some (!D.eq (.lst (L.map iD)) (.lst [])) else none) = _
  rw [if_pos ok]
  cases L <;> rfl
theorem hd_ev {G : List Mir} {C : List D} {ρ : Env} {i : Nat} {L : List Nat} (h : ρ[i]? = some (some (.d (.lst (L.map iD))))) (S : Store) : ev G C (.ite (.cmp .NotEq (.var i) (.lst .nil)) (.idx (.var i) (.lit (.int 0))) (.lit .non)) ρ S = .ok (.d (hdI L)) S := by
  have k := hd_spec L
  cases L with
  | nil =>
    have k : cmpD .NotEq (.lst []) (.lst []) = some false := k
    have h : ρ[i]? = some (some (.d (.lst []))) := h
    simp! [h, k]
    rfl
  | cons t L =>
    have k : cmpD .NotEq (.lst (iD t :: L.map iD)) (.lst []) = some true := k
    have h : ρ[i]? = some (some (.d (.lst (iD t :: L.map iD)))) := h
    simp! [h, k]
    rfl
theorem rep_two (x : D) : binD .Mult (.lst [x]) (.int 2) = some (.f [x, x]) := by
  rw [binD_rep, if_pos (by refine ⟨by omega, by omega, ?_⟩; show 1 * 2 ≤ 16777216; decide)]
  rfl
theorem loose_town_spec (M : Met n f) (N : Num n h V) (E : En n (ds f) h) (S : Store) : m_loose_town [.d (tabD n f), .d V] S = .ok (.d (loD n (ds f) h)) S := by
  have c1 := fun S => check_num M N E S
  have c2 := fun S => M.check_metric S
  have k2 : ∀ S, m_loose_of [.d (tabD n f), .d V] S = .ok (.d (loD n (ds f) h)) S := fun S => by
    rw [loose_spec (f := f) M.hi N S]
    unfold loD hdI
    rfl
  unfold m_loose_town b_loose_town
  refine (runD_eq (np := 2) rfl).trans ?_
  simp! [c1, c2, k2]
theorem lowered_spec (M : Met n f) (N : Num n h V) (E : En n (ds f) h) (S : Store) : m_lowered [.d (tabD n f), .d V] S = .ok (.f (numL n (low n (ds f) h n))) S := by
  have c1 := fun S => check_num M N E S
  have c2 := fun S => M.check_metric S
  have k2 := fun S => lowered_by_spec (f := f) M.hi N S
  unfold m_lowered b_lowered
  refine (runD_eq (np := 2) rfl).trans ?_
  simp! [c1, c2, k2]
theorem says_bl (b1 b2 b3 : Bool) : (D.lst [.lst [.bl b1, .bl b2, .bl b3], .lst [.bl b1, .bl b2, .bl b3]]).rpOk = true := by
  cases b1 <;> cases b2 <;> cases b3 <;> decide +kernel
/-- one value -/
theorem val_turn (J : Jud n f V) (S : Store) (a2 a3 a4 a5 a6 a7 a8 a9 a11 a12 : Option RV) :
    ∃ b8 b11 b12, exs GO cs vb [some (.c 1), some (.d (tabD n f)), a2, a3, a4, a5, a6, a7, a8, a9, some (.d V), a11, a12, none, none, none, none] S = .nx [some (.c 1), some (.d (tabD n f)), a2, a3, a4, a5, a6, a7, b8, a9, some (.d V), b11, b12, none, none, none, none] S := by
  obtain ⟨b1, b2, b3, j1, j2, j3, j4⟩ := J
  have rp := says_bl b1 b2 b3
  refine ⟨some (.d (.lst [.bl b1, .bl b2, .bl b3])), some (.d (.lst [.bl b1, .bl b2, .bl b3])), some (.d (.lst [.bl b1, .bl b2, .bl b3])), ?_⟩
  unfold vb ob
  simp only [b_law_one_right, dropTs, GO]
  simp! [j1, j2, j3, j4, rp, cmpD_nes, eq_self]
end
section
variable {n : Nat} {f : Nat → Nat → Int} {h : Nat → Int}
theorem lo_rp (h8 : n ≤ 8) : ((D.lst [loD n (ds f) h, loD n (ds f) h]).rpOk = true) := by
  have k : Nc 2000 0 (loD n (ds f) h) := by
    unfold loD hdI
    have k : ∀ t ∈ (List.range n).filter (fun t => !decide (slk n (ds f) h t = 0)), t < n := fun t ht => List.mem_range.mp (List.mem_filter.mp ht).1
    generalize (List.range n).filter (fun t => !decide (slk n (ds f) h t = 0)) = L at k
    cases L with
    | nil => exact nc_non
    | cons t L =>
      have := k t List.mem_cons_self
      exact nc_int (Nat.lt_of_lt_of_le (show ((t : Int)).natAbs < 2 ^ 20 by omega) (Nat.pow_le_pow_right (by decide) (by decide)))
  exact (nc_two k k).rp (by decide) (by decide)
/-- up to the values -/
theorem turn_a (M : Met n f) (E : En n (ds f) h) (hs : Sm n 1000 h) (S : Store) (a3 a4 a5 a6 a7 a8 a9 a10 a11 a12 : Option RV) :
    ∃ b5 b6 b7 b8 x, exs GO cs (takeTs 10 ob) [some (.c 1), some (.d (tabD n f)), some (.d (.lst (numL n h))), a3, a4, a5, a6, a7, a8, a9, a10, a11, a12, none, none, none, none] S
      = .nx [some (.c 1), some (.d (tabD n f)), some (.d (.lst (numL n h))), a3, a4, b5, b6, b7, b8, some (.d (.lst (numL n (low n (ds f) h n)))), a10, a11, a12, none, none, none, none] (S ++ [x]) := by
  have h2 := M.lo
  have h8 := M.hi
  have N : Num n h (.lst (numL n h)) := ⟨.inl rfl⟩
  have N2 : Num n h (.tup (numL n h)) := ⟨.inr rfl⟩
  have L := low_lw (ds_comm f) E n (Nat.le_refl _)
  generalize hg : low n (ds f) h n = g at L ⊢
  have lr : (List.range n).length ≤ 16777216 := by rw [List.length_range]; omega
  have dd : ∀ i j, i < n → j < n → 0 ≤ ds f i j ∧ ds f i j ≤ 999 := fun i j hi hj => M.toTab.ds hi hj
  have ss := slk_sm (d := ds f) hs dd
  have nb : ∀ {g : Nat → Int} {B : Int}, Sm n B g → B ≤ 1000000 → ∀ i, i < n → (g i).natAbs ≤ 1000000 := fun hg hB i hi => by have := hg i hi; omega
  have gs : Sm n 1000 g := fun i hi => by have := L.le i; have := L.en.nn i hi; have := hs i hi; omega
  have r1 : (D.lst (numL n h)).rpOk = true := (nc_numL h8 (nb hs (by decide))).rp (by decide) (by decide)
  have r2 : (D.lst (numL n (slk n (ds f) h))).rpOk = true := (nc_numL h8 (nb ss (by decide))).rp (by decide) (by decide)
  have r3 : (q2 (slk n (ds f) h 0)).rpOk = true := (nc_q2 (nb ss (by decide) 0 (by omega))).rp (by decide) (by decide)
  have r4 : (D.lst [.lst (numL n g), .lst (numL n g)]).rpOk = true := (nc_two (nc_numL h8 (nb gs (by decide))) (nc_numL h8 (nb gs (by decide)))).rp (by decide) (by decide)
  have r5 := lo_rp (n := n) (f := f) (h := h) h8
  have k2 := N.len
  have c1 : ∀ S (a5 a6 a7 a8 a9 a10 a11 a12 : Option RV), cpM GO cs (.call 3 (.cons .dat (.var 1) (.cons .dat (.var 2) (.cons .dat (.var 13) .nil)))) (.n 13) .no [13] [some (.c 1), some (.d (tabD n f)), some (.d (.lst (numL n h))), a3, a4, a5, a6, a7, a8, a9, a10, a11, a12, none, none, none, none] ([], (List.range n).map iD) S = .ok (.f (numL n (slk n (ds f) h))) S := fun S a5 a6 a7 a8 a9 a10 a11 a12 => by
    rw [cp_map iD (fun t => q2 (slk n (ds f) h t)) lr]
    · rfl
    · intro t ht A
      rw [List.mem_range] at ht
      rw [compT_one]
      have k := fun S => law_slack_spec (f := f) h8 N ht S
      unfold iD GO
      simp! [k]
  have c2 : ∀ S (a5 a6 a7 a8 a9 a10 a11 a12 : Option RV), cpM GO cs (.call 4 (.cons .dat (.var 1) (.cons .dat (.var 2) (.cons .dat (.var 13) .nil)))) (.n 13) .no [13] [some (.c 1), some (.d (tabD n f)), some (.d (.lst (numL n h))), a3, a4, a5, a6, a7, a8, a9, a10, a11, a12, none, none, none, none] ([], (List.range n).map iD) S = .ok (.f (numL n (slk n (ds f) h))) S := fun S a5 a6 a7 a8 a9 a10 a11 a12 => by
    rw [cp_map iD (fun t => q2 (slk n (ds f) h t)) lr]
    · rfl
    · intro t ht A
      rw [List.mem_range] at ht
      rw [compT_one]
      have k := fun S => can_lose_spec M N E ht S
      unfold iD GO
      simp! [k]
  have c3 : ∀ S (a5 a6 a7 a8 a9 a10 a11 a12 : Option RV), cpM GO cs (.var 13) (.t (.cons (.n 13) (.cons (.n 14) .nil))) (.yes (.cmp .Gt (.idx (.var 14) (.lit (.int 0))) (.lit (.int 0)))) [13, 14] [some (.c 1), some (.d (tabD n f)), some (.d (.lst (numL n h))), a3, a4, a5, a6, a7, a8, a9, a10, a11, a12, none, none, none, none] ([], enumD 0 (numL n (slk n (ds f) h))) S = .ok (.f (((List.range n).filter fun t => !decide (slk n (ds f) h t = 0)).map iD)) S := fun S a5 a6 a7 a8 a9 a10 a11 a12 => by
    rw [numL_map n (slk n (ds f) h), enum_rng, cp_fm (fun i => .tup [iD i, q2 (slk n (ds f) h i)]) (fun t => if (!decide (slk n (ds f) h t = 0)) = true then some (iD t) else none) lr]
    · rw [filt_map iD]
    · intro t ht A
      rw [List.mem_range] at ht
      obtain ⟨a, e1, _, _, e2, _⟩ := q2_top (slk n (ds f) h t)
      have e3 : decide (0 < slk n (ds f) h t) = !decide (slk n (ds f) h t = 0) := by
        have := E.slk ht
        by_cases q : slk n (ds f) h t = 0
        · rw [q]; rfl
        · rw [decide_eq_false q, decide_eq_true (by omega)]; rfl
      unfold compT
      simp! [bindT, bindTs, wipeE, e1, e2, e3]
      cases decide (slk n (ds f) h t = 0) <;> rfl
  have i0 : idxD (.lst (numL n (slk n (ds f) h))) (.int 0) = some (q2 (slk n (ds f) h 0)) := numL_at (show 0 < n by omega)
  have k4 : ∀ S, m_can_lose [.d (tabD n f), .d (.lst (numL n h)), .d (.int 0)] S = .ok (.d (q2 (slk n (ds f) h 0))) S := fun S => can_lose_spec M N E (show 0 < n by omega) S
  have k5 := fun S => loose_town_spec M N E S
  have k6 := fun S => loose_town_spec M N2 E S
  have tu : bltD .tuple [.lst (numL n h)] = some (.d (.tup (numL n h))) := rfl
  have k7 := fun S => law_lowered_spec (f := f) h8 N S
  rw [hg] at k7
  have k8 := fun S => lowered_spec M N E S
  rw [hg] at k8
  have k9 := fun S => law_says_spec (f := f) (V := .lst (numL n g)) h2 h8 ⟨.inl rfl⟩ S
  have en : enB n (ds f) g = true := enB_iff.mpr L.en
  have fm : firmB n (ds f) g = true := by
    unfold firmB
    rw [List.all_eq_true]
    intro t ht
    exact decide_eq_true (L.z t (List.mem_range.mp ht))
  rw [en, fm, Bool.true_and, Bool.true_and] at k9
  have sl : ∀ b : Bool, sliceD (.lst [.bl true, .bl true, .bl b]) none (some 2) = some (.f [.bl true, .bl true]) := fun b => rfl
  have ne2 : cmpD .NotEq (.lst [.bl true, .bl true]) (.lst [.bl true, .bl true]) = some false := rfl
  have zp : zipD (numL n h) (numL n g) = (List.range n).map fun i => .tup [q2 (h i), q2 (g i)] := by
    rw [numL_map, numL_map]
    generalize List.range n = l
    induction l with
    | nil => rfl
    | cons x l ih => rw [List.map_cons, List.map_cons, zipD, ih]; rfl
  have c4 : ∀ S (a5 a6 a7 a8 a9 a10 a11 a12 : Option RV), cpM GO cs (.call 11 (.cons .dat (.var 15) (.cons .dat (.var 16) .nil))) (.t (.cons (.n 15) (.cons (.n 16) .nil))) .no [15, 16] [some (.c 1), some (.d (tabD n f)), some (.d (.lst (numL n h))), a3, a4, a5, a6, a7, a8, a9, a10, a11, a12, none, none, none, none] ([], (List.range n).map fun i => .tup [q2 (h i), q2 (g i)]) S = .ok (.f ((List.range n).map fun _ => .bl false)) S := fun S a5 a6 a7 a8 a9 a10 a11 a12 => by
    rw [cp_map (fun i => .tup [q2 (h i), q2 (g i)]) (fun _ => .bl false) lr]
    intro i hi A
    have k := law_less_spec (h i) (g i)
    have : decide (h i < g i) = false := decide_eq_false (by have := L.le i; omega)
    rw [this] at k
    unfold compT GO
    simp! [bindT, bindTs, wipeE, k]
  have b4 := bls_of (fun _ : Nat => false) (List.range n)
  have an : ((List.range n).any fun _ => false) = false := by simp
  have ap : ∀ ρ : Env, appZ ρ S.length .non (S ++ [.lst (numL n g)]) = .nx ρ (S ++ [.lst (numL n g ++ [.non])]) := fun ρ => by
    rw [appZ_l _ _ _ _ _ (get_last _ _) (by rw [numL_len]; show n < 16777216; omega), set_last]
  have hl : hdI ((List.range n).filter fun t => !decide (slk n (ds f) h t = 0)) = loD n (ds f) h := rfl
  unfold GO at c1 c2 c3 c4
  have p1 : exs GO cs (takeTs 5 ob) [some (.c 1), some (.d (tabD n f)), some (.d (.lst (numL n h))), a3, a4, a5, a6, a7, a8, a9, a10, a11, a12, none, none, none, none] S
      = .nx [some (.c 1), some (.d (tabD n f)), some (.d (.lst (numL n h))), a3, a4, some (.d (.str (D.lst (numL n h)).py.shown)), some (.d (.lst (numL n (slk n (ds f) h)))), some (.d (.lst (((List.range n).filter fun t => !decide (slk n (ds f) h t = 0)).map iD))), some (.d (.lst (numL n (slk n (ds f) h)))), a9, a10, a11, a12, none, none, none, none] S := by
    unfold ob
    simp only [b_law_one_right, takeTs, GO]
    simp! [r1, k2, rng_of h8, rngN, c1, enI_l, c3, c2, r2, cmpD_nes, eq_self, k4, i0, r3]
  have p2 : ∀ b5 b6 b8 : Option RV, exs GO cs (takeTs 1 (dropTs 5 ob)) [some (.c 1), some (.d (tabD n f)), some (.d (.lst (numL n h))), a3, a4, b5, b6, some (.d (.lst (((List.range n).filter fun t => !decide (slk n (ds f) h t = 0)).map iD))), b8, a9, a10, a11, a12, none, none, none, none] S
      = .nx [some (.c 1), some (.d (tabD n f)), some (.d (.lst (numL n h))), a3, a4, b5, b6, some (.d (.lst (((List.range n).filter fun t => !decide (slk n (ds f) h t = 0)).map iD))), b8, a9, a10, a11, a12, none, none, none, none] S := fun b5 b6 b8 => by
    have he := hd_ev (G := GO) (C := cs) (ρ := [some (.c 1), some (.d (tabD n f)), some (.d (.lst (numL n h))), a3, a4, b5, b6, some (.d (.lst (((List.range n).filter fun t => !decide (slk n (ds f) h t = 0)).map iD))), b8, a9, a10, a11, a12, none, none, none, none]) (i := 7) rfl S
    rw [hl] at he
    have sp : takeTs 1 (dropTs 5 ob) = .cons (.ite (.cmp .NotEq (.blt .repr (.cons .rd (.lst (.cons .dat (.call 10 (.cons .dat (.var 1) (.cons .dat (.var 2) .nil))) (.cons .dat (.kall 10 .nil (.cons .dat (.blt .tuple (.cons .rd (.var 2) .nil)) (.cons .dat (.var 1) .nil)) [1, 0]) .nil))) .nil)) (.blt .repr (.cons .rd (.bin .Mult (.lst (.cons .dat (.ite (.cmp .NotEq (.var 7) (.lst .nil)) (.idx (.var 7) (.lit (.int 0))) (.lit .non)) .nil)) (.lit (.int 2))) .nil))) (.cons (.ret (.lit (.bl false))) .nil) .nil) .nil := rfl
    rw [sp]
    have t2 : (1 * Int.toNat 2 ≤ 16777216) = True := eq_true (by decide)
    have rp2 : ∀ x : D, repD [x] 2 = [x, x] := fun x => rfl
    generalize Rf.E.ite (.cmp .NotEq (.var 7) (.lst .nil)) (.idx (.var 7) (.lit (.int 0))) (.lit .non) = w at he ⊢
    unfold GO at he ⊢
    simp! [k5, tu, k6, r5, he, t2, rp2, cmpD_nes, eq_self]
  have p3 : ∀ b6 b7 b8 : Option RV, ∃ x, exs GO cs (takeTs 4 (dropTs 6 ob)) [some (.c 1), some (.d (tabD n f)), some (.d (.lst (numL n h))), a3, a4, some (.d (.str (D.lst (numL n h)).py.shown)), b6, b7, b8, a9, a10, a11, a12, none, none, none, none] S
      = .nx [some (.c 1), some (.d (tabD n f)), some (.d (.lst (numL n h))), a3, a4, some (.d (.str (D.lst (numL n h)).py.shown)), b6, b7, b8, some (.d (.lst (numL n g))), a10, a11, a12, none, none, none, none] (S ++ [x]) := fun b6 b7 b8 => by
    refine ⟨.lst (numL n g ++ [.non]), ?_⟩
    unfold ob
    simp only [b_law_one_right, takeTs, dropTs, GO]
    simp! [k7, k8, r4, cmpD_nes, eq_self, r1, k9, toI_int, sl, ne2, zp, c4, b4, any_map_id, an, get_last, ap]
  obtain ⟨x, p3⟩ := p3 (some (.d (.lst (numL n (slk n (ds f) h))))) (some (.d (.lst (((List.range n).filter fun t => !decide (slk n (ds f) h t = 0)).map iD)))) (some (.d (.lst (numL n (slk n (ds f) h)))))
  refine ⟨some (.d (.str (D.lst (numL n h)).py.shown)), some (.d (.lst (numL n (slk n (ds f) h)))), some (.d (.lst (((List.range n).filter fun t => !decide (slk n (ds f) h t = 0)).map iD))), some (.d (.lst (numL n (slk n (ds f) h)))), x, ?_⟩
  rw [exs_split 5, show takeTs 5 (takeTs 10 ob) = takeTs 5 ob from rfl, p1, then_nxN, exs_split 1 (dropTs 5 (takeTs 10 ob)), show takeTs 1 (dropTs 5 (takeTs 10 ob)) = takeTs 1 (dropTs 5 ob) from rfl, p2, then_nxN, show dropTs 1 (dropTs 5 (takeTs 10 ob)) = takeTs 4 (dropTs 6 ob) from rfl, p3]
/-- one turn -/
theorem turn (M : Met n f) (E : En n (ds f) h) (hs : Sm n 1000 h) {p : Cell} (hp : PotC p) (z : Cell) (R : Store) (a3 a4 a5 a6 a7 a8 a9 a10 a11 a12 : Option RV) :
    ∃ g p' x, En n (ds f) g ∧ Sm n 1000 g ∧ PotC p' ∧ ∃ b5 b6 b7 b8 b9 b10 b11 b12 : Option RV, exs GO cs ob [some (.c 1), some (.d (tabD n f)), some (.d (.lst (numL n h))), a3, a4, a5, a6, a7, a8, a9, a10, a11, a12, none, none, none, none] (z :: p :: R)
      = .nx [some (.c 1), some (.d (tabD n f)), some (.d (.lst (numL n g))), a3, a4, b5, b6, b7, b8, b9, b10, b11, b12, none, none, none, none] (z :: p' :: (R ++ [x])) := by
  obtain ⟨b5, b6, b7, b8, x, e1⟩ := turn_a M E hs (z :: p :: R) a3 a4 a5 a6 a7 a8 a9 a10 a11 a12
  have L := low_lw (ds_comm f) E n (Nat.le_refl _)
  generalize low n (ds f) h n = g at L e1
  obtain ⟨p', vs, hp', hv, e2⟩ := bent_spec M hs hp z (R ++ [x])
  have gs : Sm n 1000 g := fun i hi => by have := L.le i; have := L.en.nn i hi; have := hs i hi; omega
  obtain ⟨ρ', e3, c8, c10, c11, c12, rfl⟩ := frM_keep (G := GO) (C := cs) (tg := .n 10) (body := vb) (items := vs) (S := z :: p' :: (R ++ [x])) (ρ := [some (.c 1), some (.d (tabD n f)), some (.d (.lst (numL n h))), a3, a4, b5, b6, b7, b8, some (.d (.lst (numL n g))), a10, a11, a12, none, none, none, none])
    (fun ρ => ∃ c8 c10 c11 c12 : Option RV, ρ = [some (.c 1), some (.d (tabD n f)), some (.d (.lst (numL n h))), a3, a4, b5, b6, b7, c8, some (.d (.lst (numL n g))), c10, c11, c12, none, none, none, none]) ⟨_, _, _, _, rfl⟩ fun V hV ρ ⟨c8, c10, c11, c12, eρ⟩ => by
      subst eρ
      obtain ⟨d8, d11, d12, e⟩ := val_turn (hv V hV) (z :: p' :: (R ++ [x])) (some (.d (.lst (numL n h)))) a3 a4 b5 b6 b7 c8 (some (.d (.lst (numL n g)))) c11 c12
      exact ⟨_, rfl, _, e, _, _, _, _, rfl⟩
  refine ⟨g, p', x, L.en, gs, hp', b5, b6, b7, c8, some (.d (.lst (numL n g))), c10, c11, c12, ?_⟩
  have e2 : m_law_bent [.c 1, .d (.lst (numL n h))] (z :: p :: (R ++ [x])) = .ok (.f vs) (z :: p' :: (R ++ [x])) := e2
  have ea : (z :: p :: R) ++ [x] = z :: p :: (R ++ [x]) := rfl
  rw [exs_split 10, e1, then_nxN, ea]
  have sp : dropTs 10 ob = .cons (.fr (.n 10) (.seq (.call 2 (.cons .cel (.var 0) (.cons .dat (.var 2) .nil)))) vb) (.cons (.set 2 .rd (.var 9)) .nil) := rfl
  rw [sp]
  unfold GO at e3 ⊢
  simp! [e2, e3]
theorem one_right (M : Met n f) (hf : ∀ i j, j < i → i < n → f i j ≤ 12) {p : Cell} (hp : PotC p) (z : Cell) (R : Store) : ∃ p', PotC p' ∧ m_law_one_right [.c 1, .d (tabD n f)] (z :: p :: R) = .ok (.d (.bl true)) (z :: p' :: R) := by
  obtain ⟨h, p1, hp1, E, hs, e1⟩ := numbers_drawn M hf hp z R
  have rt := rp_tab M.toTab
  obtain ⟨ρ', S', e, g, p2, X, _, _, hp2, rfl, b4, b5, b6, b7, b8, b9, b10, b11, b12, rfl⟩ := inv_loop (G := GO) (C := cs) (tg := .n 4) (body := ob) (a := 0) (cnt := 2) (ρ := [some (.c 1), some (.d (tabD n f)), some (.d (.lst (numL n h))), some (.d (.str (tabD n f).py.shown)), none, none, none, none, none, none, none, none, none, none, none, none, none]) (S := z :: p1 :: R)
    (fun i ρ S => ∃ g p2 X, En n (ds f) g ∧ Sm n 1000 g ∧ PotC p2 ∧ S = z :: p2 :: (R ++ X) ∧ ∃ b4 b5 b6 b7 b8 b9 b10 b11 b12 : Option RV, ρ = [some (.c 1), some (.d (tabD n f)), some (.d (.lst (numL n g))), some (.d (.str (tabD n f).py.shown)), b4, b5, b6, b7, b8, b9, b10, b11, b12, none, none, none, none])
    ⟨h, p1, [], E, fun i hi => by have := hs i hi; omega, hp1, by rw [List.append_nil], _, _, _, _, _, _, _, _, _, rfl⟩ fun i hi ρ S ⟨g, p2, X, Eg, sg, hp2, eS, b4, b5, b6, b7, b8, b9, b10, b11, b12, eρ⟩ => by
      subst eS eρ
      obtain ⟨g2, p3, x, E2, s2, hp3, c5, c6, c7, c8, c9, c10, c11, c12, e⟩ := turn M Eg sg hp2 z (R ++ X) (some (.d (.str (tabD n f).py.shown))) (some (.d (.int (0 + (i : Nat))))) b5 b6 b7 b8 b9 b10 b11 b12
      exact ⟨_, rfl, _, _, e, g2, p3, X ++ [x], E2, s2, hp3, by rw [List.append_assoc], _, _, _, _, _, _, _, _, _, rfl⟩
  refine ⟨p2, hp2, ?_⟩
  have sp : b_law_one_right = .cons (.par [2, 3] (.cons .rd (.call 0 (.cons .cel (.var 0) (.cons .dat (.var 1) .nil))) (.cons .rd (.blt .repr (.cons .rd (.var 1) .nil)) .nil))) (.cons (.fr (.n 4) (.rng (.cons .rd (.lit (.int 2)) .nil)) ob) (.cons (.ret (.cmp .Eq (.blt .repr (.cons .rd (.var 1) .nil)) (.var 3))) .nil)) := rfl
  unfold m_law_one_right
  refine (runD_eq (np := 2) rfl).trans ?_
  rw [sp]
  generalize ob = B at e ⊢
  unfold GO at e
  simp! [e1, rt, setsV, rng1 (b := 2) (by decide), show (2 : Int).toNat = 2 from rfl, e, cmpD_eqs, eq_self]
  rw [List.take_left]
end
theorem mulOk_r {i j : Int} (h : j.natAbs ≤ 10 ^ 18) : mulOk i j = true := by
  have : j.natAbs < 18446744073709551616 := by omega
  simp [mulOk, this]
theorem pot_spec (ns : List Int) (k : Nat) (hk : k ≤ 10) (S : Store) : ∃ a b : Int, m_law_pot [.d (.lst (ns.map .int)), .d (.int k)] S = .ok (.f [.int a, .int b]) S ∧ PotC (.lst [.int a, .int b]) := by
  have c18 : (0 : Int) ≤ 18 ∧ (18 : Int) ≤ 1000000 ∧ (10 : Int).natAbs < 18446744073709551616 := by decide
  have m1 : ∀ i : Int, mulOk i 40692 = true := fun i => mulOk_r (by decide)
  have m2 : ∀ i : Int, mulOk i k = true := fun i => mulOk_r (by rw [Int.natAbs_natCast]; omega)
  have key : ∀ cell : Int, 0 ≤ cell → PotC (.lst [.int (if cell - 10 ^ (18 : Int).toNat > 0 then cell - 10 ^ (18 : Int).toNat else 0), .int ((cell.fmod 2147483549 * 40692 + 4909 * k + 137).fmod 2147483563 + 1)]) := fun cell h => by
    have := fmod_pos (a := cell.fmod 2147483549 * 40692 + 4909 * k + 137) (k := 2147483563) (by omega)
    refine ⟨_, _, rfl, ?_, by omega, by omega⟩
    split <;> omega
  by_cases hl : k < ns.length
  · have hl' : ((k : Nat) : Int) < ((ns.length : Nat) : Int) := by omega
    have ea : atI (ns.map D.int) (k : Int) = some (.int ns[k]) := atI_nat (by simp [hl])
    refine ⟨_, _, ?_, key (ns[k].natAbs : Int) (by omega)⟩
    unfold m_law_pot b_law_pot
    refine (runD_eq (np := 2) rfl).trans ?_
    simp! [c18, m1, m2, List.length_map, hl', ea, abs_eq]
  · have hl' : ¬ ((k : Nat) : Int) < ((ns.length : Nat) : Int) := by omega
    refine ⟨_, _, ?_, key (887 * (k : Int) + 219) (by omega)⟩
    unfold m_law_pot b_law_pot
    refine (runD_eq (np := 2) rfl).trans ?_
    simp! [c18, m1, m2, List.length_map, hl']
theorem math : ∀ ns : List Int, ns.length ≤ 63 → (∀ z ∈ ns, PySem.Builtin.Int.intBits z ≤ 1048576) → m_law [.d (.lst (ns.map .int))] [] = .ok (.d (.bl true)) [] := by
  intro ns hn _
  obtain ⟨a, b, e0, hp0⟩ := pot_spec ns 0 (by decide) []
  obtain ⟨a2, b2, e1, hq0⟩ := pot_spec ns 1 (by decide) [.lst [.int a, .int b]]
  have e0 : m_law_pot [.d (.lst (ns.map .int)), .d (.int 0)] [] = .ok (.f [.int a, .int b]) [] := e0
  have e1 : m_law_pot [.d (.lst (ns.map .int)), .d (.int 1)] [.lst [.int a, .int b]] = .ok (.f [.int a2, .int b2]) [.lst [.int a, .int b]] := e1
  unfold m_law b_law
  refine (runD_eq (np := 1) rfl).trans ?_
  simp! [e0, e1, setsV, rng1 (b := 4) (by decide), show (4 : Int).toNat = 4 from rfl]
  generalize hfr : frM _ _ _ _ _ _ _ = O
  have H : ∃ ρ' S', O = .nx ρ' S' ∧ ∃ p q, PotC p ∧ PotC q ∧ S' = [p, q] ∧ ∃ b3 : Option RV, ρ' = [some (.d (.lst (ns.map .int))), some (.c 0), some (.c 1), b3] := by
    rw [← hfr]
    refine inv_loop (fun i ρ S => ∃ p q, PotC p ∧ PotC q ∧ S = [p, q] ∧ ∃ b3 : Option RV, ρ = [some (.d (.lst (ns.map .int))), some (.c 0), some (.c 1), b3]) ⟨_, _, hp0, hq0, rfl, _, rfl⟩ fun i hi ρ S ⟨p, q, hp, hq, eS, b3, eρ⟩ => ?_
    subst eS eρ
    obtain ⟨j, q1, d1, hq1, l1, u1⟩ := draw1 (p := q) (k := 6) hq (by decide) (by decide)
    obtain ⟨n, hn⟩ : ∃ n : Nat, 2 + j = n := ⟨(2 + j).toNat, by omega⟩
    obtain ⟨f, p1, hp1, M, hf, e2⟩ := metric_spec (n := n) (by omega) (by omega) hp [q1]
    obtain ⟨q2, hq2, e3⟩ := one_right M hf hq1 p1 []
    have d1 := d1 p []
    refine ⟨_, rfl, [some (.d (.lst (ns.map .int))), some (.c 0), some (.c 1), some (.d (.int (0 + (i : Nat))))], [p1, q2], ?_, p1, q2, hp1, hq2, rfl, _, rfl⟩
    simp! [d1, hn, e2, e3]
  obtain ⟨ρ', S', e, p, q, _, _, rfl, b3, rfl⟩ := H
  rw [e]
  simp! []
  rfl
end Rf.Law

open PySem PySem.W PyProof.Rows
set_option maxRecDepth 100000 in
set_option maxHeartbeats 0 in
theorem PySem.Challenge.cw_splitroads_k68_whole_enough_and_lowered_holds : PySem.Challenge.rw_splitroads_k68_whole_enough_and_lowered.Holds := by
  w_on; o_law; k_head; (case hw => w_witness2)
  k_fill
  refine Rf.walk_law (l := PySem.Challenge.rw_splitroads_k68_whole_enough_and_lowered) (n := 63) (k := 10) (x := "script") (CX := fun _ => Rf.CX0) (m := Rf.Law.m_law) rfl (by decide) rfl ⟨rfl, by decide, by decide⟩ (fun w h Y => PySem.W.kIn_of Y) ?F Rf.Law.math (fun _ _ _ _ _ h => h)
  case F =>
    intro w mg fa h KX G hmg
    refine' Rf.Law.facts KX G hmg ?a_law_pot___law_pot ?l_law_pot ?c_law_pot ?k_law_pot ?a_law_many___law_many ?l_law_many ?c_law_many ?k_law_many ?a_law_draw___law_draw ?l_law_draw ?c_law_draw ?k_law_draw ?a_law_made___law_made ?l_law_made ?c_law_made ?k_law_made ?a_law_plus___law_plus ?l_law_plus ?c_law_plus ?k_law_plus ?a_law_far___law_far ?l_law_far ?c_law_far ?k_law_far ?a_law_numbers___law_numbers ?l_law_numbers ?c_law_numbers ?k_law_numbers ?a_law_minus___law_minus ?l_law_minus ?c_law_minus ?k_law_minus ?a_law_less___law_less ?l_law_less ?c_law_less ?k_law_less ?a_law_slack___law_slack ?l_law_slack ?c_law_slack ?k_law_slack ?a_law_lowered___law_lowered ?l_law_lowered ?c_law_lowered ?k_law_lowered ?a_law_bent___law_bent ?l_law_bent ?c_law_bent ?k_law_bent ?a_sizes_are_right__sizes_are_right ?l_sizes_are_right ?c_sizes_are_right ?k_sizes_are_right ?a_is_integer__is_integer ?l_is_integer ?c_is_integer ?k_is_integer ?a_is_count__is_count ?l_is_count ?c_is_count ?k_is_count ?a_flaw_of__flaw_of ?l_flaw_of ?c_flaw_of ?k_flaw_of ?a_table_is_right__table_is_right ?l_table_is_right ?c_table_is_right ?k_table_is_right ?a_is_table__is_table ?l_is_table ?c_is_table ?k_is_table ?a_check_table_posts__check_table_posts ?l_check_table_posts ?c_check_table_posts ?k_check_table_posts ?a_many_of_webs__many_of_webs ?l_many_of_webs ?c_many_of_webs ?k_many_of_webs ?a_is_list__is_list ?l_is_list ?c_is_list ?k_is_list ?a_is_ratio__is_ratio ?l_is_ratio ?c_is_ratio ?k_is_ratio ?a_made__made ?l_made ?c_made ?k_made ?a_r_minus__r_minus ?l_r_minus ?c_r_minus ?k_r_minus ?a_r_plus__r_plus ?l_r_plus ?c_r_plus ?k_r_plus ?a_far__far ?l_far ?c_far ?k_far ?a_slack_of__slack_of ?l_slack_of ?c_slack_of ?k_slack_of ?a_numbers_are_right__numbers_are_right ?l_numbers_are_right ?c_numbers_are_right ?k_numbers_are_right ?a_check_numbers__check_numbers ?l_check_numbers ?c_check_numbers ?k_check_numbers ?a_is_town__is_town ?l_is_town ?c_is_town ?k_is_town ?a_check_town__check_town ?l_check_town ?c_check_town ?k_check_town ?a_check_table_tables__check_table_tables ?l_check_table_tables ?c_check_table_tables ?k_check_table_tables ?a_many_of_tables__many_of_tables ?l_many_of_tables ?c_many_of_tables ?k_many_of_tables ?a_far_of__far_of ?l_far_of ?c_far_of ?k_far_of ?a_short_of__short_of ?l_short_of ?c_short_of ?k_short_of ?a_short_triple__short_triple ?l_short_triple ?c_short_triple ?k_short_triple ?a_check_metric__check_metric ?l_check_metric ?c_check_metric ?k_check_metric ?a_r_less__r_less ?l_r_less ?c_r_less ?k_r_less ?a_lose_of__lose_of ?l_lose_of ?c_lose_of ?k_lose_of ?a_can_lose__can_lose ?l_can_lose ?c_can_lose ?k_can_lose ?a_law_is_ratio___law_is_ratio ?l_law_is_ratio ?c_law_is_ratio ?k_law_is_ratio ?a_law_enough___law_enough ?l_law_enough ?c_law_enough ?k_law_enough ?a_law_size___law_size ?l_law_size ?c_law_size ?k_law_size ?a_law_says___law_says ?l_law_says ?c_law_says ?k_law_says ?a_lowered_by__lowered_by ?l_lowered_by ?c_lowered_by ?k_lowered_by ?a_lowered__lowered ?l_lowered ?c_lowered ?k_lowered ?a_are_enough__are_enough ?l_are_enough ?c_are_enough ?k_are_enough ?a_loose_of__loose_of ?l_loose_of ?c_loose_of ?k_loose_of ?a_post_is_right__post_is_right ?l_post_is_right ?c_post_is_right ?k_post_is_right ?a_is_post__is_post ?l_is_post ?c_is_post ?k_is_post ?a_could_be_by__could_be_by ?l_could_be_by ?c_could_be_by ?k_could_be_by ?a_could_be__could_be ?l_could_be ?c_could_be ?k_could_be ?a_loose_town__loose_town ?l_loose_town ?c_loose_town ?k_loose_town ?a_law_one_right___law_one_right ?l_law_one_right ?c_law_one_right ?k_law_one_right ?a_law_metric___law_metric ?l_law_metric ?c_law_metric ?k_law_metric ?a_law__law ?l_law ?c_law ?k_law ?z_len ?z_abs ?z_int ?z_max ?z_min ?z_sum ?z_all ?z_any ?z_tuple ?z_list ?z_repr ?z_divmod ?z_sorted ?z_str ?z_bool ?z_isinstance ?z_range ?z_enumerate ?z_zip ?z_set ?z_gcd ?n_0 ?n_1 ?n_2 ?u_2
    (case a_law_pot___law_pot => k_is)
    (case l_law_pot => k_is)
    (case c_law_pot => k_is)
    (case k_law_pot => k_is)
    (case a_law_many___law_many => k_is)
    (case l_law_many => k_is)
    (case c_law_many => k_is)
    (case k_law_many => k_is)
    (case a_law_draw___law_draw => k_is)
    (case l_law_draw => k_is)
    (case c_law_draw => k_is)
    (case k_law_draw => k_is)
    (case a_law_made___law_made => k_is)
    (case l_law_made => k_is)
    (case c_law_made => k_is)
    (case k_law_made => k_is)
    (case a_law_plus___law_plus => k_is)
    (case l_law_plus => k_is)
    (case c_law_plus => k_is)
    (case k_law_plus => k_is)
    (case a_law_far___law_far => k_is)
    (case l_law_far => k_is)
    (case c_law_far => k_is)
    (case k_law_far => k_is)
    (case a_law_numbers___law_numbers => k_is)
    (case l_law_numbers => k_is)
    (case c_law_numbers => k_is)
    (case k_law_numbers => k_is)
    (case a_law_minus___law_minus => k_is)
    (case l_law_minus => k_is)
    (case c_law_minus => k_is)
    (case k_law_minus => k_is)
    (case a_law_less___law_less => k_is)
    (case l_law_less => k_is)
    (case c_law_less => k_is)
    (case k_law_less => k_is)
    (case a_law_slack___law_slack => k_is)
    (case l_law_slack => k_is)
    (case c_law_slack => k_is)
    (case k_law_slack => k_is)
    (case a_law_lowered___law_lowered => k_is)
    (case l_law_lowered => k_is)
    (case c_law_lowered => k_is)
    (case k_law_lowered => k_is)
    (case a_law_bent___law_bent => k_is)
    (case l_law_bent => k_is)
    (case c_law_bent => k_is)
    (case k_law_bent => k_is)
    (case a_sizes_are_right__sizes_are_right => k_is)
    (case l_sizes_are_right => k_is)
    (case c_sizes_are_right => k_is)
    (case k_sizes_are_right => k_is)
    (case a_is_integer__is_integer => k_is)
    (case l_is_integer => k_is)
    (case c_is_integer => k_is)
    (case k_is_integer => k_is)
    (case a_is_count__is_count => k_is)
    (case l_is_count => k_is)
    (case c_is_count => k_is)
    (case k_is_count => k_is)
    (case a_flaw_of__flaw_of => k_is)
    (case l_flaw_of => k_is)
    (case c_flaw_of => k_is)
    (case k_flaw_of => k_is)
    (case a_table_is_right__table_is_right => k_is)
    (case l_table_is_right => k_is)
    (case c_table_is_right => k_is)
    (case k_table_is_right => k_is)
    (case a_is_table__is_table => k_is)
    (case l_is_table => k_is)
    (case c_is_table => k_is)
    (case k_is_table => k_is)
    (case a_check_table_posts__check_table_posts => k_is)
    (case l_check_table_posts => k_is)
    (case c_check_table_posts => k_is)
    (case k_check_table_posts => k_is)
    (case a_many_of_webs__many_of_webs => k_is)
    (case l_many_of_webs => k_is)
    (case c_many_of_webs => k_is)
    (case k_many_of_webs => k_is)
    (case a_is_list__is_list => k_is)
    (case l_is_list => k_is)
    (case c_is_list => k_is)
    (case k_is_list => k_is)
    (case a_is_ratio__is_ratio => k_is)
    (case l_is_ratio => k_is)
    (case c_is_ratio => k_is)
    (case k_is_ratio => k_is)
    (case a_made__made => k_is)
    (case l_made => k_is)
    (case c_made => k_is)
    (case k_made => k_is)
    (case a_r_minus__r_minus => k_is)
    (case l_r_minus => k_is)
    (case c_r_minus => k_is)
    (case k_r_minus => k_is)
    (case a_r_plus__r_plus => k_is)
    (case l_r_plus => k_is)
    (case c_r_plus => k_is)
    (case k_r_plus => k_is)
    (case a_far__far => k_is)
    (case l_far => k_is)
    (case c_far => k_is)
    (case k_far => k_is)
    (case a_slack_of__slack_of => k_is)
    (case l_slack_of => k_is)
    (case c_slack_of => k_is)
    (case k_slack_of => k_is)
    (case a_numbers_are_right__numbers_are_right => k_is)
    (case l_numbers_are_right => k_is)
    (case c_numbers_are_right => k_is)
    (case k_numbers_are_right => k_is)
    (case a_check_numbers__check_numbers => k_is)
    (case l_check_numbers => k_is)
    (case c_check_numbers => k_is)
    (case k_check_numbers => k_is)
    (case a_is_town__is_town => k_is)
    (case l_is_town => k_is)
    (case c_is_town => k_is)
    (case k_is_town => k_is)
    (case a_check_town__check_town => k_is)
    (case l_check_town => k_is)
    (case c_check_town => k_is)
    (case k_check_town => k_is)
    (case a_check_table_tables__check_table_tables => k_is)
    (case l_check_table_tables => k_is)
    (case c_check_table_tables => k_is)
    (case k_check_table_tables => k_is)
    (case a_many_of_tables__many_of_tables => k_is)
    (case l_many_of_tables => k_is)
    (case c_many_of_tables => k_is)
    (case k_many_of_tables => k_is)
    (case a_far_of__far_of => k_is)
    (case l_far_of => k_is)
    (case c_far_of => k_is)
    (case k_far_of => k_is)
    (case a_short_of__short_of => k_is)
    (case l_short_of => k_is)
    (case c_short_of => k_is)
    (case k_short_of => k_is)
    (case a_short_triple__short_triple => k_is)
    (case l_short_triple => k_is)
    (case c_short_triple => k_is)
    (case k_short_triple => k_is)
    (case a_check_metric__check_metric => k_is)
    (case l_check_metric => k_is)
    (case c_check_metric => k_is)
    (case k_check_metric => k_is)
    (case a_r_less__r_less => k_is)
    (case l_r_less => k_is)
    (case c_r_less => k_is)
    (case k_r_less => k_is)
    (case a_lose_of__lose_of => k_is)
    (case l_lose_of => k_is)
    (case c_lose_of => k_is)
    (case k_lose_of => k_is)
    (case a_can_lose__can_lose => k_is)
    (case l_can_lose => k_is)
    (case c_can_lose => k_is)
    (case k_can_lose => k_is)
    (case a_law_is_ratio___law_is_ratio => k_is)
    (case l_law_is_ratio => k_is)
    (case c_law_is_ratio => k_is)
    (case k_law_is_ratio => k_is)
    (case a_law_enough___law_enough => k_is)
    (case l_law_enough => k_is)
    (case c_law_enough => k_is)
    (case k_law_enough => k_is)
    (case a_law_size___law_size => k_is)
    (case l_law_size => k_is)
    (case c_law_size => k_is)
    (case k_law_size => k_is)
    (case a_law_says___law_says => k_is)
    (case l_law_says => k_is)
    (case c_law_says => k_is)
    (case k_law_says => k_is)
    (case a_lowered_by__lowered_by => k_is)
    (case l_lowered_by => k_is)
    (case c_lowered_by => k_is)
    (case k_lowered_by => k_is)
    (case a_lowered__lowered => k_is)
    (case l_lowered => k_is)
    (case c_lowered => k_is)
    (case k_lowered => k_is)
    (case a_are_enough__are_enough => k_is)
    (case l_are_enough => k_is)
    (case c_are_enough => k_is)
    (case k_are_enough => k_is)
    (case a_loose_of__loose_of => k_is)
    (case l_loose_of => k_is)
    (case c_loose_of => k_is)
    (case k_loose_of => k_is)
    (case a_post_is_right__post_is_right => k_is)
    (case l_post_is_right => k_is)
    (case c_post_is_right => k_is)
    (case k_post_is_right => k_is)
    (case a_is_post__is_post => k_is)
    (case l_is_post => k_is)
    (case c_is_post => k_is)
    (case k_is_post => k_is)
    (case a_could_be_by__could_be_by => k_is)
    (case l_could_be_by => k_is)
    (case c_could_be_by => k_is)
    (case k_could_be_by => k_is)
    (case a_could_be__could_be => k_is)
    (case l_could_be => k_is)
    (case c_could_be => k_is)
    (case k_could_be => k_is)
    (case a_loose_town__loose_town => k_is)
    (case l_loose_town => k_is)
    (case c_loose_town => k_is)
    (case k_loose_town => k_is)
    (case a_law_one_right___law_one_right => k_is)
    (case l_law_one_right => k_is)
    (case c_law_one_right => k_is)
    (case k_law_one_right => k_is)
    (case a_law_metric___law_metric => k_is)
    (case l_law_metric => k_is)
    (case c_law_metric => k_is)
    (case k_law_metric => k_is)
    (case a_law__law => k_is)
    (case l_law => k_is)
    (case c_law => k_is)
    (case k_law => k_is)
    (case z_len => k_is)
    (case z_abs => k_is)
    (case z_int => k_is)
    (case z_max => k_is)
    (case z_min => k_is)
    (case z_sum => k_is)
    (case z_all => k_is)
    (case z_any => k_is)
    (case z_tuple => k_is)
    (case z_list => k_is)
    (case z_repr => k_is)
    (case z_divmod => k_is)
    (case z_sorted => k_is)
    (case z_str => k_is)
    (case z_bool => k_is)
    (case z_isinstance => k_is)
    (case z_range => k_is)
    (case z_enumerate => k_is)
    (case z_zip => k_is)
    (case z_set => k_is)
    (case z_gcd => k_is)
    (case n_0 => k_is)
    (case n_1 => k_is)
    (case n_2 => k_is)
    (case u_2 => k_is)

