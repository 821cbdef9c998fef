import PyProof.Rows.All
import Wide.All
import OpenK.AllK
import Wide.FinOn
import HandS.ForMost
import HandS.Gcd
import HandS.Wide
import HandS.Zip
import HandS.Walk
import PyProof.ReprRoads
import HandS.TupAny
import HandS.Style
import HandS.TupLe
import HandS.Deep
import HandS.RaiseMore
import HandS.SortInts
import HandS.IsInst
import KE.GoesMore
import HandS.Words
import HandS.EndBits
import PySem.Challenge.RW_splitroads_k11_whole_ratios_and_flaws
set_option Elab.async false
set_option linter.all false
set_option maxRecDepth 100000
namespace Rf
open PySem PySem.Spec PyProof.Rows L2

/-! ### pure data -/
inductive D where
  | non | bl (b : Bool) | int (i : Int) | str (x : Str) | tup (ds : List D) | lst (ds : List D)
  deriving Inhabited

mutual
def D.py : D → PyData
  | .non => .none
  | .bl b => .bool b
  | .int i => .int i
  | .str x => .str x
  | .tup ds => .tuple (D.pys ds)
  | .lst ds => .list (D.pys ds)
def D.pys : List D → List PyData
  | [] => []
  | d :: ds => d.py :: D.pys ds
end

mutual
/-- == -/
def D.eq : D → D → Bool
  | .non, .non => true
  | .bl a, .bl b => a == b
  | .bl a, .int j => (if a then 1 else 0) == j
  | .int i, .bl b => i == (if b then 1 else 0)
  | .int i, .int j => decide (i = j)
  | .str x, .str y => decide (x = y)
  | .tup xs, .tup ys => D.eqs xs ys
  | .lst xs, .lst ys => D.eqs xs ys
  | _, _ => false
def D.eqs : List D → List D → Bool
  | [], [] => true
  | x :: xs, y :: ys => D.eq x y && D.eqs xs ys
  | _, _ => false
end
mutual
/-- the same datum -/
def D.same : D → D → Bool
  | .non, .non => true
  | .bl a, .bl b => a == b
  | .int i, .int j => decide (i = j)
  | .str x, .str y => decide (x = y)
  | .tup xs, .tup ys => D.sames xs ys
  | .lst xs, .lst ys => D.sames xs ys
  | _, _ => false
def D.sames : List D → List D → Bool
  | [], [] => true
  | x :: xs, y :: ys => D.same x y && D.sames xs ys
  | _, _ => false
end
mutual
theorem D.same_self : ∀ d : D, d.same d = true
  | .non => rfl
  | .bl b => by simp [D.same]
  | .int i => by simp [D.same]
  | .str x => by simp [D.same]
  | .tup ds => by simp only [D.same]; exact D.sames_self ds
  | .lst ds => by simp only [D.same]; exact D.sames_self ds
theorem D.sames_self : ∀ ds : List D, D.sames ds ds = true
  | [] => rfl
  | d :: ds => by simp [D.sames, D.same_self d, D.sames_self ds]
end
mutual
theorem D.of_same : ∀ {d e : D}, d.same e = true → d = e
  | .non, e, h => by cases e <;> simp_all [D.same]
  | .bl b, e, h => by cases e <;> simp_all [D.same]
  | .int i, e, h => by cases e <;> simp_all [D.same]
  | .str x, e, h => by cases e <;> simp_all [D.same]
  | .tup ds, e, h => by
    cases e with
    | tup es => simp only [D.same] at h; rw [D.of_sames h]
    | _ => simp [D.same] at h
  | .lst ds, e, h => by
    cases e with
    | lst es => simp only [D.same] at h; rw [D.of_sames h]
    | _ => simp [D.same] at h
theorem D.of_sames : ∀ {ds es : List D}, D.sames ds es = true → ds = es
  | [], [], _ => rfl
  | [], _ :: _, h => by simp [D.sames] at h
  | _ :: _, [], h => by simp [D.sames] at h
  | d :: ds, e :: es, h => by
    simp only [D.sames, Bool.and_eq_true] at h
    rw [D.of_same h.1, D.of_sames h.2]
end

/-! ### the store, results -/
inductive Cell where
  | lst (ds : List D)
  | fz (ds : List D)
abbrev Store := List Cell
/-- what a name holds -/
inductive RV where
  | d (d : D) | c (n : Nat)
/-- what an expression gives: a datum, a cell, a fresh list -/
inductive RX where
  | d (d : D) | c (n : Nat) | f (ds : List D)
structure Exn where
  cls : Str
  flds : List (Str × D)
inductive Res (α : Type) where
  | ok (a : α) (S : Store)
  | exc (x : Exn) (S : Store)
  | stuck
def Res.bind {α β : Type} : Res α → (α → Store → Res β) → Res β
  | .ok a S, k => k a S
  | .exc x S, _ => .exc x S
  | .stuck, _ => .stuck
abbrev Env := List (Option RV)
abbrev Mir := List RV → Store → Res RX

@[simp] theorem Res.bind_ok {α β : Type} (a : α) (S : Store) (k : α → Store → Res β) : (Res.ok a S).bind k = k a S := rfl
@[simp] theorem Res.bind_exc {α β : Type} (a : Exn) (S : Store) (k : α → Store → Res β) : (Res.exc a S : Res α).bind k = .exc a S := rfl
@[simp] theorem Res.bind_stuck {α β : Type} (k : α → Store → Res β) : (Res.stuck : Res α).bind k = .stuck := rfl

/-- what a cell holds -/
def cellAt (S : Store) (n : Nat) : Option (List D) := match S[n]? with
  | some (.lst ds) => some ds
  | some (.fz ds) => some ds
  | none => none
/-- the datum that is read -/
def rdV (S : Store) : RV → Option D
  | .d d => some d
  | .c n => (cellAt S n).map .lst
/-- how a result is kept -/
inductive Md where
  | dat | cel | rd
def conv (m : Md) (r : RX) (S : Store) : Res RV := match m, r with
  | _, .d d => .ok (.d d) S
  | .cel, .f ds => .ok (.c S.length) (S ++ [.lst ds])
  | _, .f ds => .ok (.d (.lst ds)) S
  | .dat, .c n => match S[n]? with
    | some (.lst ds) => .ok (.d (.lst ds)) (S.set n (.fz ds))
    | some (.fz ds) => .ok (.d (.lst ds)) S
    | none => .stuck
  | _, .c n => .ok (.c n) S

/-! ### operations on data -/
def line : Nat := 16777216
def mulOk (i j : Int) : Bool := decide (i.natAbs < 18446744073709551616) || decide (j.natAbs < 18446744073709551616) || decide (i.natAbs.log2 + j.natAbs.log2 < 1000000)
def repD (ds : List D) (k : Int) : List D := (List.replicate k.toNat ds).flatten
def binD : Operator → D → D → Option RX
  | .Add, .int i, .int j => some (.d (.int (i + j)))
  | .Add, .str x, .str y => if x.length + y.length ≤ line then some (.d (.str (x ++ y))) else none
  | .Add, .tup xs, .tup ys => if xs.length + ys.length ≤ line then some (.d (.tup (xs ++ ys))) else none
  | .Add, .lst xs, .lst ys => if xs.length + ys.length ≤ line then some (.f (xs ++ ys)) else none
  | .Sub, .int i, .int j => some (.d (.int (i - j)))
  | .Mult, .int i, .int j => if mulOk i j then some (.d (.int (i * j))) else none
  | .Mult, .lst xs, .int k => if -9223372036854775808 ≤ k ∧ k < 9223372036854775808 ∧ xs.length * k.toNat ≤ line then some (.f (repD xs k)) else none
  | .FloorDiv, .int i, .int j => if j ≠ 0 ∧ j.natAbs.log2 < 9000 then some (.d (.int (i.fdiv j))) else none
  | .Mod, .int i, .int j => if j ≠ 0 then some (.d (.int (i.fmod j))) else none
  | .Pow, .int i, .int j => if 0 ≤ j ∧ j ≤ 1000000 ∧ i.natAbs < 18446744073709551616 then some (.d (.int (i ^ j.toNat))) else none
  | _, _, _ => none

mutual
def D.okc : D → Bool
  | .str x => PyData.strOk x
  | .tup ds => D.okcs ds
  | .lst ds => D.okcs ds
  | _ => true
def D.okcs : List D → Bool
  | [] => true
  | d :: ds => d.okc && D.okcs ds
end
mutual
def D.dep : D → Nat
  | .tup ds => D.deps ds + 1
  | .lst ds => D.deps ds + 1
  | _ => 0
def D.deps : List D → Nat
  | [] => 0
  | d :: ds => max d.dep (D.deps ds)
end
def D.scal : D → Bool
  | .non | .bl _ | .int _ | .str _ => true
  | _ => false
/-- == may be asked -/
def eqOk (a b : D) : Bool := (a.scal && b.scal) || (a.okc && b.okc && decide (a.dep ≤ 64) && decide (b.dep ≤ 64))
def intsOf : List D → Option (List Int)
  | [] => some []
  | .int i :: r => (intsOf r).map (i :: ·)
  | _ :: _ => none
def bls : List D → Option (List Bool)
  | [] => some []
  | .bl i :: r => (bls r).map (i :: ·)
  | _ :: _ => none
def strL : List D → Option (List Str)
  | [] => some []
  | .str i :: r => (strL r).map (i :: ·)
  | _ :: _ => none
def D.flat : D → Bool
  | .non | .bl _ | .int _ | .str _ => true
  | _ => false
def memD (x : D) (xs : List D) : Bool := xs.any fun y => D.eq y x
def memOk (x : D) (xs : List D) : Bool := (x.flat && xs.all D.flat)
def cmpD : CmpOp → D → D → Option Bool
  | .Lt, .int i, .int j => some (decide (i < j))
  | .LtE, .int i, .int j => some (decide (i ≤ j))
  | .Gt, .int i, .int j => some (decide (j < i))
  | .GtE, .int i, .int j => some (decide (j ≤ i))
  | .Eq, a, b => if eqOk a b then some (D.eq a b) else none
  | .NotEq, a, b => if eqOk a b then some (!D.eq a b) else none
  | .Lt, .tup xs, .tup ys => match intsOf xs, intsOf ys with
    | some a, some b => some (HT.lexLt a b)
    | _, _ => none
  | .Lt, .str x, .str y => some (decide (x.cps.toList < y.cps.toList))
  | .Is, .bl a, .bl b => some (decide (a = b))
  | .IsNot, .bl a, .bl b => some (!decide (a = b))
  | .Is, a, .non => some (match a with | .non => true | _ => false)
  | .IsNot, a, .non => some (match a with | .non => false | _ => true)
  | .In, x, .lst xs => if memOk x xs then some (memD x xs) else none
  | .In, x, .tup xs => if memOk x xs then some (memD x xs) else none
  | .In, .str x, .str y => some (!(Builtin.Str.occurrences y x 0 y.length 1).isEmpty)
  | .NotIn, x, .lst xs => if memOk x xs then some (!memD x xs) else none
  | .NotIn, x, .tup xs => if memOk x xs then some (!memD x xs) else none
  | .NotIn, .str x, .str y => some (!(!(Builtin.Str.occurrences y x 0 y.length 1).isEmpty))
  | _, _, _ => none
/-- x[i] -/
def idxD : D → D → Option D
  | .lst xs, .int i => atI xs i
  | .tup xs, .int i => atI xs i
  | .str z, .int i => if z.length ≤ line then (atI z.cps.toList i).map fun c => .str ⟨#[c]⟩ else none
  | _, _ => none
def cutD (xs : List D) (lo hi : Option Int) : List D := (xs.drop (HT.sIx xs.length 0 lo)).take (HT.sIx xs.length xs.length hi - HT.sIx xs.length 0 lo)
def partD : Option D → Option (Option Int)
  | none => some none
  | some (.int i) => some (some i)
  | some _ => none
def sliceD : D → Option Int → Option Int → Option RX
  | .lst xs, lo, hi => some (.f (cutD xs lo hi))
  | .tup xs, lo, hi => some (.d (.tup (cutD xs lo hi)))
  | .str z, lo, hi => if z.length ≤ line then some (.d (.str (cutS z lo hi))) else none
  | _, _, _ => none
def revD : D → Option RX
  | .lst xs => some (.f xs.reverse)
  | .tup xs => some (.d (.tup xs.reverse))
  | _ => none

inductive Ty where
  | int | bool | str | list | tuple
  deriving DecidableEq
def isD : D → Ty → Bool
  | .bl _, .bool => true
  | .bl _, .int => true
  | .int _, .int => true
  | .str _, .str => true
  | .tup _, .tuple => true
  | .lst _, .list => true
  | _, _ => false

/-- built-in functions on data -/
inductive Bf where
  | len | abs | int | max2 | min2 | maxL | minL | sum | all | any | tuple | list | repr | gcd | divmod | sorted | str
  deriving DecidableEq
mutual
/-- a bound of a repr's length -/
def D.wt : D → Nat
  | .non => 8
  | .bl _ => 8
  | .int _ => 2000
  | .str x => 12 * x.length + 8
  | .tup ds => D.wts ds + 8
  | .lst ds => D.wts ds + 8
def D.wts : List D → Nat
  | [] => 0
  | d :: ds => d.wt + 2 + D.wts ds
end
mutual
/-- its ints are below 2 ^ 1920 -/
def D.shw : D → Bool
  | .int i => decide (i.natAbs.log2 < 1920)
  | .tup ds => D.shws ds
  | .lst ds => D.shws ds
  | _ => true
def D.shws : List D → Bool
  | [] => true
  | d :: ds => d.shw && D.shws ds
end
/-- its repr may be asked -/
def D.rpOk (d : D) : Bool := d.okc && d.shw && decide (d.dep ≤ 64) && decide (d.wt ≤ line)
def maxI : List Int → Int
  | [] => 0
  | x :: r => r.foldl (fun a b => if b > a then b else a) x
def minI : List Int → Int
  | [] => 0
  | x :: r => r.foldl (fun a b => if b < a then b else a) x
def insI (x : Int) : List Int → List Int
  | [] => [x]
  | y :: r => if x ≤ y then x :: y :: r else y :: insI x r
def sortI : List Int → List Int
  | [] => []
  | x :: r => insI x (sortI r)
def itemsD : D → Option (List D)
  | .lst xs => some xs
  | .tup xs => some xs
  | _ => none
def bltD : Bf → List D → Option RX
  | .len, [.lst xs] => some (.d (.int xs.length))
  | .len, [.tup xs] => some (.d (.int xs.length))
  | .len, [.str x] => if x.length ≤ line then some (.d (.int x.length)) else none
  | .abs, [.int i] => some (.d (.int (if i < 0 then -i else i)))
  | .int, [.int i] => some (.d (.int i))
  | .int, [.bl b] => some (.d (.int (if b then 1 else 0)))
  | .int, [.str x] => match PySem.intText? x with
    | some n => if x.length ≤ 640 then some (.d (.int n)) else none
    | none => none
  | .max2, [.int i, .int j] => some (.d (.int (if j > i then j else i)))
  | .min2, [.int i, .int j] => some (.d (.int (if j < i then j else i)))
  | .maxL, [.lst xs] => match intsOf xs with
    | some (n :: ns) => some (.d (.int (maxI (n :: ns))))
    | _ => none
  | .minL, [.lst xs] => match intsOf xs with
    | some (n :: ns) => some (.d (.int (minI (n :: ns))))
    | _ => none
  | .sum, [.lst xs] => (intsOf xs).map fun ns => .d (.int ns.sum)
  | .all, [.lst xs] => (bls xs).map fun bs => .d (.bl (bs.all id))
  | .any, [.lst xs] => (bls xs).map fun bs => .d (.bl (bs.any id))
  | .tuple, [.lst xs] => some (.d (.tup xs))
  | .tuple, [.tup xs] => some (.d (.tup xs))
  | .list, [.lst xs] => some (.f xs)
  | .list, [.tup xs] => some (.f xs)
  | .repr, [d] => if d.rpOk then some (.d (.str d.py.shown)) else none
  | .gcd, [.int a, .int b] => some (.d (.int ((Nat.gcd a.natAbs b.natAbs : Nat) : Int)))
  | .divmod, [.int i, .int j] => if 0 < j ∧ j < 1073741824 then some (.d (.tup [.int (i / j), .int (i % j)])) else none
  | .sorted, [.lst xs] => match intsOf xs with
    | some ns => some (.f ((sortI ns).map .int))
    | none => none
  | .str, [.int i] => if i.natAbs.log2 < 1920 then some (.d (.str (toString i))) else none
  | _, _ => none
/-- methods of data -/
inductive Mf where
  | split | join | index | count
  deriving DecidableEq
def mthD : Mf → D → List D → Option RX
  | .split, .str x, [.str y] => if y.length ≠ 0 ∧ x.length + 2 ≤ line then some (.f ((Txt.split x y).map .str)) else none
  | .join, .str x, [.lst ys] => match strL ys with
    | some zs => if (zs.map (·.length)).sum + zs.length * x.length ≤ line then some (.d (.str (Txt.join x zs))) else none
    | none => none
  | _, _, _ => none

/-! ### the small language -/
mutual
inductive E where
  | var (i : Nat)
  | lit (d : D)
  | con (k : Nat)
  | tup (es : Es)
  | lst (es : Es)
  | bin (op : Operator) (a b : E)
  | neg (a : E)
  | nt (a : E)
  | cmp (op : CmpOp) (a b : E)
  | ch2 (o1 o2 : CmpOp) (a b c : E)
  | ch3 (o1 o2 o3 : CmpOp) (a b c d : E)
  | and (a b : E)
  | or (a b : E)
  | ite (c a b : E)
  | idx (a i : E)
  | sl (a : E) (lo hi : Eo)
  | rev (a : E)
  | call (f : Nat) (es : Es)
  | kall (f : Nat) (ps ks : Es) (perm : List Nat)
  | blt (f : Bf) (es : Es)
  | mth (m : Mf) (o : E) (es : Es)
  | pop (i : Nat)
  | isi (a : E) (ts : List Ty)
  | nev
  | comp (elt : E) (tg : List Nat) (one : Bool) (it : I) (cond : Eo) (own : List Nat)
inductive Eo where
  | no | yes (e : E)
inductive Es where
  | nil | cons (m : Md) (e : E) (es : Es)
inductive I where
  | seq (e : E)
  | rng (es : Es)
  | enum (e : E)
  | zip (a b : E)
end
mutual
inductive T where
  | set (i : Nat) (m : Md) (e : E)
  | unp (is : List Nat) (e : E)
  | par (is : List Nat) (es : Es)
  | sub (o i : E) (e : E)
  | dvm (o i : E) (j : Nat) (e : E)
  | aug (i : Nat) (op : Operator) (e : E)
  | exp (e : E)
  | app (i : Nat) (e : E)
  | ext (i : Nat) (e : E)
  | ret (e : E)
  | retN
  | ite (c : E) (a b : Ts)
  | fr (tg : List Nat) (one : Bool) (it : I) (body : Ts)
  | wh (fuel : Nat) (c : E) (body : Ts)
  | brk | cnt | pass
  | rais (cls : Str) (flds : List Str) (es : Es)
  | nev
inductive Ts where
  | nil | cons (t : T) (ts : Ts)
end

/-- the slots of a block's own names forgotten -/
def wipeE (ρ : Env) : List Nat → Env
  | [] => ρ
  | v :: vs => (wipeE ρ vs).set v none
/-- a target's store -/
def bindT (tg : List Nat) (one : Bool) (d : D) (ρ : Env) : Option Env :=
  if one then match tg with
    | [i] => some (ρ.set i (some (.d d)))
    | _ => none
  else match d with
    | .tup ds => if ds.length = tg.length then some ((tg.zip ds).foldl (fun ρ p => ρ.set p.1 (some (.d p.2))) ρ) else none
    | _ => none
/-- a source that is a cell must stay as it is -/
def srcOk (src : List (Nat × List D)) (S : Store) : Bool := src.all fun p => match S[p.1]? with
  | some (.lst ds) => D.sames ds p.2
  | some (.fz ds) => D.sames ds p.2
  | none => false
/-- a comprehension's turns: the new list is cell n -/
def compGo (src : List (Nat × List D)) (f : D → Store → Res (Option D)) (n : Nat) : List D → Store → Res Unit
  | [], S => if srcOk src S then .ok () S else .stuck
  | d :: ds, S => if srcOk src S then (f d S).bind fun o S1 => match o with
      | none => compGo src f n ds S1
      | some x => (match S1[n]? with
        | some (.lst acc) => if acc.length < line then compGo src f n ds (S1.set n (.lst (acc ++ [x]))) else .stuck
        | _ => .stuck)
    else .stuck
/-- nothing that is raised leaves a comprehension -/
def Res.nox {α : Type} : Res α → Res α
  | .exc _ _ => .stuck
  | r => r
@[simp] theorem Res.nox_ok {α : Type} (a : α) (S : Store) : (Res.ok a S).nox = .ok a S := rfl
@[simp] theorem Res.nox_stuck {α : Type} : (Res.stuck : Res α).nox = .stuck := rfl
def ofOpt {α : Type} (o : Option α) (S : Store) : Res α := match o with
  | some a => .ok a S
  | none => .stuck
def rdVs (S : Store) : List RV → Option (List D)
  | [] => some []
  | v :: vs => (rdV S v).bind fun d => (rdVs S vs).map (d :: ·)
def strItems (x : Str) : List D := x.cps.toList.map fun c => .str ⟨#[c]⟩
def rngD (a : Int) (n : Nat) : List D := (List.range n).map fun i => .int (a + (i : Nat))
def rangeD : List D → Option (List D)
  | [.int j] => if -4611686018427387904 ≤ j ∧ j < 4611686018427387904 then some (rngD 0 j.toNat) else none
  | [.int i, .int j] => if -4611686018427387904 ≤ i ∧ i < 4611686018427387904 ∧ -4611686018427387904 ≤ j ∧ j < 4611686018427387904 then some (rngD i (j - i).toNat) else none
  | _ => none
def enumD (k : Nat) : List D → List D
  | [] => []
  | d :: ds => .tup [.int (k : Int), d] :: enumD (k + 1) ds
def zipD : List D → List D → List D
  | a :: as, b :: bs => .tup [a, b] :: zipD as bs
  | _, _ => []
def boolV : RX → Option Bool
  | .d (.bl b) => some b
  | _ => none
def asD (r : RX) (S : Store) : Res D := (conv .dat r S).bind fun v S1 => match v with
  | .d d => .ok d S1
  | .c _ => .stuck
def permV (perm : List Nat) (vs : List RV) : Option (List RV) := perm.mapM fun i => vs[i]?

/-- the newest cell, alone behind the first n -/
def lastL (n : Nat) (S : Store) : Res RX := if S.length = n + 1 then (match S[n]? with
  | some (.lst ds) => .ok (.f ds) (S.take n)
  | _ => .stuck) else .stuck
/-- to be read at once -/
def Res.rv (r : Res RX) : Res RV := r.bind fun x S1 => conv .rd x S1
section
variable (G : List Mir) (C : List D)
mutual
def ev : E → Env → Store → Res RX
  | .var i, ρ, S => match ρ[i]? with
    | some (some (.d d)) => .ok (.d d) S
    | some (some (.c n)) => .ok (.c n) S
    | _ => .stuck
  | .lit d, _, S => .ok (.d d) S
  | .con k, _, S => match C[k]? with
    | some d => .ok (.d d) S
    | none => .stuck
  | .tup es, ρ, S => (evs es ρ S).bind fun vs S1 => match rdVs [] vs with
    | some ds => if ds.length ≤ line then .ok (.d (.tup ds)) S1 else .stuck
    | none => .stuck
  | .lst es, ρ, S => (evs es ρ S).bind fun vs S1 => match rdVs [] vs with
    | some ds => if ds.length ≤ line then .ok (.f ds) S1 else .stuck
    | none => .stuck
  | .bin op a b, ρ, S => (ev a ρ S).rv.bind fun x S1 => (ev b ρ S1).rv.bind fun y S2 => match rdV S2 x, rdV S2 y with
    | some d, some e => ofOpt (binD op d e) S2
    | _, _ => .stuck
  | .neg a, ρ, S => (ev a ρ S).rv.bind fun x S1 => match x with
    | .d (.int i) => .ok (.d (.int (-i))) S1
    | _ => .stuck
  | .nt a, ρ, S => (ev a ρ S).bind fun x S1 => match boolV x with
    | some b => .ok (.d (.bl (!b))) S1
    | none => .stuck
  | .cmp op a b, ρ, S => (ev a ρ S).rv.bind fun x S1 => (ev b ρ S1).rv.bind fun y S2 => match rdV S2 x, rdV S2 y with
    | some d, some e => (ofOpt (cmpD op d e) S2).bind fun b S3 => .ok (.d (.bl b)) S3
    | _, _ => .stuck
  | .ch2 o1 o2 a b c, ρ, S => (ev a ρ S).rv.bind fun x S1 => (ev b ρ S1).rv.bind fun y S2 => match rdV S2 x, rdV S2 y with
    | some d, some e => (ofOpt (cmpD o1 d e) S2).bind fun k S3 => if k then (ev c ρ S3).rv.bind fun z S4 => match rdV S4 y, rdV S4 z with
        | some e, some g => (ofOpt (cmpD o2 e g) S4).bind fun b S5 => .ok (.d (.bl b)) S5
        | _, _ => .stuck
      else .ok (.d (.bl false)) S3
    | _, _ => .stuck
  | .ch3 o1 o2 o3 a b c d, ρ, S => (ev a ρ S).rv.bind fun x S1 => (ev b ρ S1).rv.bind fun y S2 => match rdV S2 x, rdV S2 y with
    | some v1, some v2 => (ofOpt (cmpD o1 v1 v2) S2).bind fun k S3 => if k then (ev c ρ S3).rv.bind fun z S4 => match rdV S4 y, rdV S4 z with
        | some v2, some v3 => (ofOpt (cmpD o2 v2 v3) S4).bind fun k2 S5 => if k2 then (ev d ρ S5).rv.bind fun w S6 => match rdV S6 z, rdV S6 w with
            | some v3, some v4 => (ofOpt (cmpD o3 v3 v4) S6).bind fun b S7 => .ok (.d (.bl b)) S7
            | _, _ => .stuck
          else .ok (.d (.bl false)) S5
        | _, _ => .stuck
      else .ok (.d (.bl false)) S3
    | _, _ => .stuck
  | .and a b, ρ, S => (ev a ρ S).bind fun x S1 => match boolV x with
    | some true => ev b ρ S1
    | some false => .ok (.d (.bl false)) S1
    | none => .stuck
  | .or a b, ρ, S => (ev a ρ S).bind fun x S1 => match boolV x with
    | some true => .ok (.d (.bl true)) S1
    | some false => ev b ρ S1
    | none => .stuck
  | .ite c a b, ρ, S => (ev c ρ S).bind fun x S1 => match boolV x with
    | some true => ev a ρ S1
    | some false => ev b ρ S1
    | none => .stuck
  | .idx a i, ρ, S => (ev a ρ S).rv.bind fun x S1 => (ev i ρ S1).rv.bind fun y S2 => match rdV S2 x, rdV S2 y with
    | some d, some e => (ofOpt (idxD d e) S2).bind fun r S3 => .ok (.d r) S3
    | _, _ => .stuck
  | .sl a lo hi, ρ, S => (ev a ρ S).rv.bind fun x S1 => (evo lo ρ S1).bind fun l S2 => (evo hi ρ S2).bind fun h S3 => match rdV S3 x with
    | some d => ofOpt (sliceD d l h) S3
    | none => .stuck
  | .rev a, ρ, S => (ev a ρ S).rv.bind fun x S1 => match rdV S1 x with
    | some d => ofOpt (revD d) S1
    | none => .stuck
  | .call f es, ρ, S => (evs es ρ S).bind fun vs S1 => match G[f]? with
    | some m => m vs S1
    | none => .stuck
  | .kall f ps ks perm, ρ, S => (evs ps ρ S).bind fun vs S1 => (evs ks ρ S1).bind fun ws S2 => match G[f]?, permV perm (vs ++ ws) with
    | some m, some zs => m zs S2
    | _, _ => .stuck
  | .blt f es, ρ, S => (evs es ρ S).bind fun vs S1 => match rdVs S1 vs with
    | some ds => ofOpt (bltD f ds) S1
    | none => .stuck
  | .mth m o es, ρ, S => (ev o ρ S).bind fun x S1 => match x with
    | .d (.str z) => (evs es ρ S1).bind fun vs S2 => (match rdVs S2 vs with
      | some ds => ofOpt (mthD m (.str z) ds) S2
      | none => .stuck)
    | _ => .stuck
  | .pop i, ρ, S => match ρ[i]? with
    | some (some (.c n)) => (match S[n]? with
      | some (.lst ds) => (match ds.getLast? with
        | some d => .ok (.d d) (S.set n (.lst ds.dropLast))
        | none => .stuck)
      | _ => .stuck)
    | _ => .stuck
  | .nev, _, _ => .stuck
  | .isi a ts, ρ, S => (ev a ρ S).rv.bind fun x S1 => match rdV S1 x with
    | some d => .ok (.d (.bl (ts.any (isD d)))) S1
    | none => .stuck
  | .comp elt tg one it cond own, ρ, S => (evi it ρ S).bind fun p S1 => (compGo p.1 (fun d S => match bindT tg one d (wipeE ρ own) with
      | some ρ1 => (evc cond ρ1 S).bind fun b S2 => if b then (ev elt ρ1 S2).bind fun x S3 => (asD x S3).bind fun y S4 => .ok (some y) S4 else .ok none S2
      | none => .stuck) S1.length p.2 (S1 ++ [.lst []])).nox.bind fun _ S2 => lastL S1.length S2
def evo : Eo → Env → Store → Res (Option Int)
  | .no, _, S => .ok none S
  | .yes e, ρ, S => (ev e ρ S).bind fun x S1 => match x with
    | .d (.int i) => .ok (some i) S1
    | _ => .stuck
/-- a test that may be left out -/
def evc : Eo → Env → Store → Res Bool
  | .no, _, S => .ok true S
  | .yes e, ρ, S => (ev e ρ S).bind fun x S1 => match boolV x with
    | some b => .ok b S1
    | none => .stuck
def evs : Es → Env → Store → Res (List RV)
  | .nil, _, S => .ok [] S
  | .cons m e es, ρ, S => (ev e ρ S).bind fun x S1 => (conv m x S1).bind fun v S2 => (evs es ρ S2).bind fun vs S3 => .ok (v :: vs) S3
/-- what is walked: the cells it leans on, the items -/
def evi : I → Env → Store → Res (List (Nat × List D) × List D)
  | .seq e, ρ, S => (ev e ρ S).bind fun x S1 => (conv .rd x S1).bind fun v S2 => match v with
    | .d (.lst ds) => .ok ([], ds) S2
    | .d (.tup ds) => .ok ([], ds) S2
    | .d (.str x) => .ok ([], strItems x) S2
    | .c n => (match cellAt S2 n with
      | some ds => .ok ([(n, ds)], ds) S2
      | none => .stuck)
    | _ => .stuck
  | .rng es, ρ, S => (evs es ρ S).bind fun vs S1 => match rdVs S1 vs with
    | some ds => (match rangeD ds with
      | some r => .ok ([], r) S1
      | none => .stuck)
    | none => .stuck
  | .enum e, ρ, S => (ev e ρ S).bind fun x S1 => (conv .rd x S1).bind fun v S2 => match v with
    | .d (.lst ds) => .ok ([], enumD 0 ds) S2
    | .d (.tup ds) => .ok ([], enumD 0 ds) S2
    | .c n => (match cellAt S2 n with
      | some ds => .ok ([(n, ds)], enumD 0 ds) S2
      | none => .stuck)
    | _ => .stuck
  | .zip a b, ρ, S => (ev a ρ S).bind fun x S1 => (conv .rd x S1).bind fun v S2 => (ev b ρ S2).bind fun y S3 => (conv .rd y S3).bind fun w S4 => match v, w with
    | .d (.lst ds), .d (.lst es) => .ok ([], zipD ds es) S4
    | .d (.tup ds), .d (.tup es) => .ok ([], zipD ds es) S4
    | _, _ => .stuck
end
end

/-! ### statements -/
inductive Out where
  | nx (ρ : Env) (S : Store)
  | ret (r : RX) (S : Store)
  | brk (ρ : Env) (S : Store)
  | cnt (ρ : Env) (S : Store)
  | exc (x : Exn) (S : Store)
  | stuck
def Out.then : Out → (Env → Store → Out) → Out
  | .nx ρ S, k => k ρ S
  | o, _ => o
def Res.out {α : Type} : Res α → (α → Store → Out) → Out
  | .ok a S, k => k a S
  | .exc x S, _ => .exc x S
  | .stuck, _ => .stuck
@[simp] theorem Res.out_ok {α : Type} (a : α) (S : Store) (k : α → Store → Out) : (Res.ok a S).out k = k a S := rfl
@[simp] theorem Res.out_exc {α : Type} (a : Exn) (S : Store) (k : α → Store → Out) : (Res.exc a S : Res α).out k = .exc a S := rfl
@[simp] theorem Res.out_stuck {α : Type} (k : α → Store → Out) : (Res.stuck : Res α).out k = .stuck := rfl
@[simp] theorem Out.then_nx (ρ : Env) (S : Store) (k : Env → Store → Out) : (Out.nx ρ S).then k = k ρ S := rfl
@[simp] theorem Out.then_ret (r : RX) (S : Store) (k : Env → Store → Out) : (Out.ret r S).then k = .ret r S := rfl
@[simp] theorem Out.then_brk (ρ : Env) (S : Store) (k : Env → Store → Out) : (Out.brk ρ S).then k = .brk ρ S := rfl
@[simp] theorem Out.then_cnt (ρ : Env) (S : Store) (k : Env → Store → Out) : (Out.cnt ρ S).then k = .cnt ρ S := rfl
@[simp] theorem Out.then_exc (x : Exn) (S : Store) (k : Env → Store → Out) : (Out.exc x S).then k = .exc x S := rfl
@[simp] theorem Out.then_stuck (k : Env → Store → Out) : Out.stuck.then k = .stuck := rfl
/-- a for's turns -/
def forGo (src : List (Nat × List D)) (f : D → Env → Store → Out) : List D → Env → Store → Out
  | [], ρ, S => if srcOk src S then .nx ρ S else .stuck
  | d :: ds, ρ, S => if srcOk src S then (match f d ρ S with
    | .nx ρ1 S1 => forGo src f ds ρ1 S1
    | .cnt ρ1 S1 => forGo src f ds ρ1 S1
    | .brk ρ1 S1 => .nx ρ1 S1
    | o => o) else .stuck
/-- a while's turns -/
def whGo (c : Env → Store → Res Bool) (f : Env → Store → Out) : Nat → Env → Store → Out
  | 0, _, _ => .stuck
  | n + 1, ρ, S => (c ρ S).out fun b S1 => if b then (match f ρ S1 with
    | .nx ρ1 S2 => whGo c f n ρ1 S2
    | .cnt ρ1 S2 => whGo c f n ρ1 S2
    | .brk ρ1 S2 => .nx ρ1 S2
    | o => o) else .nx ρ S1
def setsV : List Nat → List RV → Env → Env
  | i :: is, v :: vs, ρ => setsV is vs (ρ.set i (some v))
  | _, _, ρ => ρ

section
variable (G : List Mir) (C : List D)
mutual
def ex : T → Env → Store → Out
  | .set i m e, ρ, S => (ev G C e ρ S).out fun x S1 => (conv m x S1).out fun v S2 => .nx (ρ.set i (some v)) S2
  | .unp is e, ρ, S => (ev G C e ρ S).rv.out fun x S1 => match x with
    | .d (.tup ds) => if ds.length = is.length then .nx (setsV is (ds.map .d) ρ) S1 else .stuck
    | _ => .stuck
  | .par is es, ρ, S => (evs G C es ρ S).out fun vs S1 => if vs.length = is.length then .nx (setsV is vs ρ) S1 else .stuck
  | .sub o i e, ρ, S => (ev G C e ρ S).out fun x S1 => (asD x S1).out fun d S2 => (ev G C o ρ S2).out fun y S3 => match y with
    | .c n => (ev G C i ρ S3).rv.out fun z S4 => (match z with
      | .d (.int k) => (match S4[n]? with
        | some (.lst ds) => (match ixN ds.length k with
          | some j => .nx ρ (S4.set n (.lst (ds.set j d)))
          | none => .stuck)
        | _ => .stuck)
      | _ => .stuck)
    | _ => .stuck
  | .dvm o i j e, ρ, S => (ev G C e ρ S).rv.out fun x S1 => match x with
    | .d (.tup [d, d2]) => (ev G C o ρ S1).out fun y S3 => (ev G C i ρ S3).rv.out fun z S4 => (match y, z with
      | .c n, .d (.int k) => (match S4[n]? with
        | some (.lst ds) => (match ixN ds.length k with
          | some t => .nx (ρ.set j (some (.d d2))) (S4.set n (.lst (ds.set t d)))
          | none => .stuck)
        | _ => .stuck)
      | _, _ => .stuck)
    | _ => .stuck
  | .aug i op e, ρ, S => match ρ[i]? with
    | some (some (.d (.int a))) => (ev G C e ρ S).out fun x S1 => (match x, op with
      | .d (.int b), .Add => .nx (ρ.set i (some (.d (.int (a + b))))) S1
      | .d (.int b), .Sub => .nx (ρ.set i (some (.d (.int (a - b))))) S1
      | _, _ => .stuck)
    | _ => .stuck
  | .exp e, ρ, S => (ev G C e ρ S).out fun _ S1 => .nx ρ S1
  | .app i e, ρ, S => match ρ[i]? with
    | some (some (.c n)) => (ev G C e ρ S).out fun x S1 => (asD x S1).out fun d S2 => (match S2[n]? with
      | some (.lst ds) => if ds.length < line then .nx ρ (S2.set n (.lst (ds ++ [d]))) else .stuck
      | _ => .stuck)
    | _ => .stuck
  | .ext i e, ρ, S => match ρ[i]? with
    | some (some (.c n)) => (ev G C e ρ S).rv.out fun x S1 => (match S1[n]?, (rdV S1 x).bind itemsD with
      | some (.lst ds), some es => if ds.length + es.length ≤ line then .nx ρ (S1.set n (.lst (ds ++ es))) else .stuck
      | _, _ => .stuck)
    | _ => .stuck
  | .ret e, ρ, S => (ev G C e ρ S).out fun x S1 => .ret x S1
  | .retN, _, S => .ret (.d .non) S
  | .ite c a b, ρ, S => (ev G C c ρ S).out fun x S1 => match boolV x with
    | some true => exs a ρ S1
    | some false => exs b ρ S1
    | none => .stuck
  | .fr tg one it body, ρ, S => (evi G C it ρ S).out fun p S1 => forGo p.1 (fun d ρ S => match bindT tg one d ρ with
      | some ρ1 => exs body ρ1 S
      | none => .stuck) p.2 ρ S1
  | .wh n c body, ρ, S => whGo (fun ρ S => (ev G C c ρ S).bind fun x S1 => match boolV x with
      | some b => .ok b S1
      | none => .stuck) (fun ρ S => exs body ρ S) n ρ S
  | .brk, ρ, S => .brk ρ S
  | .cnt, ρ, S => .cnt ρ S
  | .pass, ρ, S => .nx ρ S
  | .nev, _, _ => .stuck
  | .rais cls flds es, ρ, S => (evs G C es ρ S).out fun vs S1 => match rdVs [] vs with
    | some ds => if ds.length = flds.length then .exc ⟨cls, flds.zip ds⟩ S1 else .stuck
    | none => .stuck
def exs : Ts → Env → Store → Out
  | .nil, ρ, S => .nx ρ S
  | .cons t ts, ρ, S => (ex t ρ S).then fun ρ1 S1 => exs ts ρ1 S1
end
end

/-- a def's run: np parameters, nn names in all -/
def runD (G : List Mir) (C : List D) (np nn : Nat) (body : Ts) : Mir := fun vs S =>
  if vs.length = np then
    match exs G C body (vs.map some ++ List.replicate (nn - np) none) S with
    | .ret (.d d) S1 => .ok (.d d) (S1.take S.length)
    | .ret (.f ds) S1 => .ok (.f ds) (S1.take S.length)
    | .ret (.c n) S1 => if S.length ≤ n then (match S1[n]? with
      | some (.lst ds) => .ok (.f ds) (S1.take S.length)
      | _ => .stuck) else .stuck
    | .nx _ S1 => .ok (.d .non) (S1.take S.length)
    | .exc x S1 => .exc x (S1.take S.length)
    | _ => .stuck
  else .stuck
end Rf

set_option Elab.async false
set_option linter.all false
set_option maxRecDepth 100000
set_option maxHeartbeats 1000000
namespace Rf
open PySem PySem.Spec PyProof.Rows L2

/-! ### how data lie in the heap -/
/-- a list that nobody changes any more -/
def KLst (K : PySem.W.Frag) (a : Addr) (xs : List V) : Prop :=
  ∃ (its : Array Value) (n : Nat), K.lookup a = some { cls := .type "list", data := .seq its n } ∧ its.size ≤ sizeLine ∧ Vals xs its.toList
def Frz (K : PySem.W.Frag) (H : Hp) (L : Addr → Prop) (a : Addr) (xs : List V) : Prop :=
  (H a = some (.lst xs) ∧ ¬ L a) ∨ (∃ o, H a = some (.frz o (.lst xs))) ∨ KLst K a xs
/-- a list to be read -/
def SqE (K : PySem.W.Frag) (H : Hp) (a : Addr) (xs : List V) : Prop := H a = some (.lst xs) ∨ (∃ o, H a = some (.frz o (.lst xs))) ∨ KLst K a xs
theorem Frz.sqE {K : PySem.W.Frag} {H : Hp} {L : Addr → Prop} {a : Addr} {xs : List V} (h : Frz K H L a xs) : SqE K H a xs := by
  rcases h with ⟨h, _⟩ | h
  · exact .inl h
  · exact .inr h
theorem SqE.sq {K : PySem.W.Frag} {H : Hp} {a : Addr} {xs : List V} (h : SqE K H a xs) : SqL K H a xs := by
  rcases h with h | ⟨o, h⟩ | ⟨its, n, h, z, v⟩
  · exact .inl (.inl h)
  · exact .inl (.inr ⟨o, h⟩)
  · exact .inr ⟨_, its, n, h, rfl, rfl, rfl, z, v⟩
theorem Frz.sq {K : PySem.W.Frag} {H : Hp} {L : Addr → Prop} {a : Addr} {xs : List V} (h : Frz K H L a xs) : SqL K H a xs := h.sqE.sq
theorem lstE {X : Cx} {pins : List (Addr × Obj)} {σ : L2.St} {H : Hp} {s : Shared} {a : Addr} {xs : List V} (I : Inv X pins σ H s) (h : SqE X.K H a xs) :
    xs.length ≤ sizeLine ∧ ∃ (its : List Value) (n : Nat), Vals xs its ∧ xs.length = its.length ∧ s.heap.get? a = some { cls := .type "list", data := .seq its.toArray n } := by
  rcases h with h | ⟨o, h⟩ | ⟨its, n, h, z, v⟩
  · exact I.lstM h
  · obtain ⟨_, z, its, n, r, e⟩ := I.hok a _ h
    exact ⟨z, its, n, r, r.length, e⟩
  · have e := v.length
    simp only [Array.length_toList] at e
    exact ⟨by omega, its.toList, n, v, v.length, by simpa using I.kIn a _ h⟩
mutual
inductive Rp (K : PySem.W.Frag) (H : Hp) (L : Addr → Prop) : V → D → Prop
  | non : Rp K H L .non .non
  | bl (b : Bool) : Rp K H L (.bl b) (.bl b)
  | int (i : Int) : Rp K H L (.int i) (.int i)
  | str (x : Str) : Rp K H L (.str x) (.str x)
  | tup {a : Addr} {vs : List V} {ds : List D} : SqT K H a vs → Rps K H L vs ds → Rp K H L (.ref a) (.tup ds)
  | lst {a : Addr} {vs : List V} {ds : List D} : Frz K H L a vs → Rps K H L vs ds → Rp K H L (.ref a) (.lst ds)
inductive Rps (K : PySem.W.Frag) (H : Hp) (L : Addr → Prop) : List V → List D → Prop
  | nil : Rps K H L [] []
  | cons {v : V} {vs : List V} {d : D} {ds : List D} : Rp K H L v d → Rps K H L vs ds → Rps K H L (v :: vs) (d :: ds)
end
section
variable {K : PySem.W.Frag} {H H' : Hp} {L L' : Addr → Prop}
/-- what is not live stays -/
structure Ext (H H' : Hp) (L L' : Addr → Prop) : Prop where
  ext : ∀ b o, H b = some o → ¬ L b → H' b = some o
  lst : ∀ b, L b → ∃ xs, H b = some (.lst xs)
  lv : ∀ b, L' b → L b ∨ H b = none
theorem Ext.nl (e : Ext H H' L L') {b : Addr} {o : HO} (h : H b = some o) (n : ∀ xs, o ≠ .lst xs) : H' b = some o :=
  e.ext b o h fun l => by
    obtain ⟨xs, q⟩ := e.lst b l
    rw [h] at q
    exact n xs (Option.some.inj q)
theorem SqT.ext (e : Ext H H' L L') {a : Addr} {xs : List V} (h : SqT K H a xs) : SqT K H' a xs := by
  rcases h with (h | ⟨o, h⟩) | h
  · exact .inl (.inl (e.nl h fun _ z => nomatch z))
  · exact .inl (.inr ⟨o, e.nl h fun _ z => nomatch z⟩)
  · exact .inr h
theorem Frz.mono (e : Ext H H' L L') {a : Addr} {xs : List V} (h : Frz K H L a xs) : Frz K H' L' a xs := by
  rcases h with ⟨h, n⟩ | ⟨o, h⟩ | h
  · refine .inl ⟨e.ext a _ h n, fun l => ?_⟩
    rcases e.lv a l with z | z
    · exact n z
    · rw [h] at z; cases z
  · exact .inr (.inl ⟨o, e.nl h fun _ z => nomatch z⟩)
  · exact .inr (.inr h)
mutual
theorem Rp.mono (e : Ext H H' L L') : ∀ {v : V} {d : D}, Rp K H L v d → Rp K H' L' v d
  | _, _, .non => .non
  | _, _, .bl b => .bl b
  | _, _, .int i => .int i
  | _, _, .str x => .str x
  | _, _, .tup h r => .tup (SqT.ext e h) (Rps.mono e r)
  | _, _, .lst h r => .lst (Frz.mono e h) (Rps.mono e r)
theorem Rps.mono (e : Ext H H' L L') : ∀ {vs : List V} {ds : List D}, Rps K H L vs ds → Rps K H' L' vs ds
  | _, _, .nil => .nil
  | _, _, .cons h r => .cons (Rp.mono e h) (Rps.mono e r)
end
theorem Rps.length : ∀ {vs : List V} {ds : List D}, Rps K H L vs ds → vs.length = ds.length
  | _, _, .nil => rfl
  | _, _, .cons _ r => by simp [Rps.length r]
theorem Rps.get : ∀ {vs : List V} {ds : List D} {i : Nat} {d : D}, Rps K H L vs ds → ds[i]? = some d → ∃ v, vs[i]? = some v ∧ Rp K H L v d
  | _, _, _, _, .nil, e => by simp at e
  | _, _, 0, _, .cons h _, e => by simp at e; subst e; exact ⟨_, rfl, h⟩
  | _, _, i + 1, d, .cons _ r, e => by
    obtain ⟨v, q, z⟩ := Rps.get (i := i) r (by simpa using e)
    exact ⟨v, by simpa using q, z⟩
theorem Rps.get' : ∀ {vs : List V} {ds : List D} {i : Nat} {v : V}, Rps K H L vs ds → vs[i]? = some v → ∃ d, ds[i]? = some d ∧ Rp K H L v d
  | _, _, _, _, .nil, e => by simp at e
  | _, _, 0, _, .cons h _, e => by simp at e; subst e; exact ⟨_, rfl, h⟩
  | _, _, i + 1, d, .cons _ r, e => by
    obtain ⟨v, q, z⟩ := Rps.get' (i := i) r (by simpa using e)
    exact ⟨v, by simpa using q, z⟩
theorem Rps.append : ∀ {vs ws : List V} {ds es : List D}, Rps K H L vs ds → Rps K H L ws es → Rps K H L (vs ++ ws) (ds ++ es)
  | _, _, _, _, .nil, s => s
  | _, _, _, _, .cons h r, s => .cons h (Rps.append r s)
theorem Rps.take : ∀ {vs : List V} {ds : List D} (n : Nat), Rps K H L vs ds → Rps K H L (vs.take n) (ds.take n)
  | _, _, 0, _ => .nil
  | _, _, _ + 1, .nil => .nil
  | _, _, n + 1, .cons h r => .cons h (Rps.take n r)
theorem Rps.drop : ∀ {vs : List V} {ds : List D} (n : Nat), Rps K H L vs ds → Rps K H L (vs.drop n) (ds.drop n)
  | _, _, 0, h => h
  | _, _, _ + 1, .nil => .nil
  | _, _, n + 1, .cons _ r => Rps.drop n r
theorem Rps.set {v : V} {d : D} (q : Rp K H L v d) : ∀ {vs : List V} {ds : List D} (n : Nat), Rps K H L vs ds → Rps K H L (vs.set n v) (ds.set n d)
  | _, _, _, .nil => .nil
  | _, _, 0, .cons _ r => .cons q r
  | _, _, n + 1, .cons h r => .cons h (Rps.set q n r)
theorem Rps.reverse {vs : List V} {ds : List D} (h : Rps K H L vs ds) : Rps K H L vs.reverse ds.reverse := by
  induction vs generalizing ds with
  | nil => cases h; exact .nil
  | cons v vs ih =>
    cases h with
    | cons h r =>
      rw [List.reverse_cons, List.reverse_cons]
      exact (ih r).append (.cons h .nil)
theorem Rps.dropLast {vs : List V} {ds : List D} (h : Rps K H L vs ds) : Rps K H L vs.dropLast ds.dropLast := by
  rw [List.dropLast_eq_take, List.dropLast_eq_take, h.length]
  exact h.take _
theorem Rps.rep {vs : List V} {ds : List D} (h : Rps K H L vs ds) : ∀ n : Nat, Rps K H L (List.replicate n vs).flatten (List.replicate n ds).flatten
  | 0 => .nil
  | n + 1 => by
    rw [List.replicate_succ, List.replicate_succ, List.flatten_cons, List.flatten_cons]
    exact h.append (Rps.rep h n)
mutual
/-- as the layer's own reading has it -/
theorem Rp.dp : ∀ {v : V} {d : D}, Rp K H L v d → Dp K H v d.py
  | _, _, .non => .non
  | _, _, .bl b => .bl b
  | _, _, .int i => .int i
  | _, _, .str x => .str x
  | _, _, .tup h r => .tup h (Rps.dp r)
  | _, _, .lst h r => .lst h.sq (Rps.dp r)
theorem Rps.dp : ∀ {vs : List V} {ds : List D}, Rps K H L vs ds → DpAll K H vs (D.pys ds)
  | _, _, .nil => .nil
  | _, _, .cons h r => .cons (Rp.dp h) (Rps.dp r)
end
end

/-! ### the store in the heap -/
def Lv (cm : List Addr) (S : Store) (b : Addr) : Prop := ∃ (n : Nat) (ds : List D), cm[n]? = some b ∧ S[n]? = some (.lst ds)
def Cell.its : Cell → List D
  | .lst ds => ds
  | .fz ds => ds
structure SR (K : PySem.W.Frag) (H : Hp) (cm : List Addr) (S : Store) : Prop where
  len : cm.length = S.length
  nd : cm.Nodup
  ok : ∀ (n : Nat) (a : Addr) (c : Cell), cm[n]? = some a → S[n]? = some c → ∃ vs, H a = some (.lst vs) ∧ Rps K H (Lv cm S) vs c.its
/-- from one state to a later one -/
structure Tr (H : Hp) (cm : List Addr) (S : Store) (H' : Hp) (cm' : List Addr) (S' : Store) : Prop where
  ext : ∀ b o, H b = some o → ¬ Lv cm S b → H' b = some o
  pre : ∃ more, cm' = cm ++ more
  lv : ∀ b, Lv cm' S' b → Lv cm S b ∨ H b = none
section
variable {K : PySem.W.Frag} {H H1 H' : Hp} {cm cm1 cm' : List Addr} {S S1 S' : Store}
theorem SR.lst (r : SR K H cm S) : ∀ b, Lv cm S b → ∃ xs, H b = some (.lst xs) := fun b ⟨n, ds, h1, h2⟩ => by
  obtain ⟨vs, e, _⟩ := r.ok n b _ h1 h2
  exact ⟨vs, e⟩
theorem Tr.refl : Tr H cm S H cm S := ⟨fun _ _ h _ => h, ⟨[], by simp⟩, fun _ h => .inl h⟩
theorem Tr.trans (a : Tr H cm S H1 cm1 S1) (b : Tr H1 cm1 S1 H' cm' S') : Tr H cm S H' cm' S' where
  ext := fun c o h n => b.ext c o (a.ext c o h n) fun l => by
    rcases a.lv c l with z | z
    · exact n z
    · rw [h] at z; cases z
  pre := by
    obtain ⟨m, rfl⟩ := a.pre
    obtain ⟨m', rfl⟩ := b.pre
    exact ⟨m ++ m', by simp⟩
  lv := fun c l => by
    rcases b.lv c l with z | z
    · exact a.lv c z
    · cases q : H c with
      | none => exact .inr rfl
      | some o =>
        by_cases n : Lv cm S c
        · exact .inl n
        · rw [a.ext c o q n] at z; cases z
theorem Tr.toExt (t : Tr H cm S H' cm' S') (r : SR K H cm S) : Ext H H' (Lv cm S) (Lv cm' S') := ⟨t.ext, r.lst, t.lv⟩
/-- a new tracked object that is no cell -/
theorem Tr.new (r : SR K H cm S) {p : Addr} {o : HO} (h : H p = none) : Tr H cm S (upd H p o) cm S :=
  ⟨fun b u e _ => by rw [upd_ne (ne_of_none e h)]; exact e, ⟨[], by simp⟩, fun _ l => .inl l⟩
theorem Ext.new {L : Addr → Prop} (hl : ∀ b, L b → ∃ xs, H b = some (.lst xs)) {p : Addr} {o : HO} (h : H p = none) : Ext H (upd H p o) L L :=
  ⟨fun b u e _ => by rw [upd_ne (ne_of_none e h)]; exact e, hl, fun _ l => .inl l⟩
theorem SR.new (r : SR K H cm S) {p : Addr} {o : HO} (h : H p = none) : SR K (upd H p o) cm S where
  len := r.len
  nd := r.nd
  ok := fun n a c h1 h2 => by
    obtain ⟨vs, e, q⟩ := r.ok n a c h1 h2
    exact ⟨vs, by rw [upd_ne (ne_of_none e h)]; exact e, q.mono (Ext.new r.lst h)⟩
theorem SR.notin (r : SR K H cm S) {p : Addr} (h : H p = none) : p ∉ cm := fun hm => by
  obtain ⟨n, hn⟩ := List.mem_iff_getElem?.mp hm
  have hl : n < S.length := by rw [← r.len]; exact (List.getElem?_eq_some_iff.mp hn).1
  obtain ⟨vs, e, _⟩ := r.ok n p _ hn (List.getElem?_eq_getElem hl)
  rw [h] at e; cases e
theorem Lv.mem {b : Addr} (h : Lv cm S b) : b ∈ cm := by
  obtain ⟨n, _, h1, _⟩ := h
  exact List.mem_of_getElem? h1
theorem SR.cell (r : SR K H cm S) {n : Nat} {c : Cell} (h : S[n]? = some c) : ∃ a, cm[n]? = some a ∧ ∃ vs, H a = some (.lst vs) ∧ Rps K H (Lv cm S) vs c.its := by
  have hl : n < cm.length := by rw [r.len]; exact (List.getElem?_eq_some_iff.mp h).1
  exact ⟨cm[n], List.getElem?_eq_getElem hl, r.ok n _ c (List.getElem?_eq_getElem hl) h⟩
theorem nd_ix' (nd : cm.Nodup) {i j : Nat} {a : Addr} (h1 : cm[i]? = some a) (h2 : cm[j]? = some a) : i = j := nd_ix nd h1 h2
/-- the live cell n is written -/
theorem wr_tr (r : SR K H cm S) {n : Nat} {a : Addr} {ds es : List D} (h1 : cm[n]? = some a) (h2 : S[n]? = some (.lst ds)) (o : HO) : Tr H cm S (upd H a o) cm (S.set n (.lst es)) where
  ext := fun b u e nl => by
    rw [upd_ne (fun z => nl (by rw [z]; exact ⟨n, ds, h1, h2⟩))]; exact e
  pre := ⟨[], by simp⟩
  lv := fun b ⟨m, fs, e1, e2⟩ => .inl (by
    by_cases hm : m = n
    · subst hm
      exact ⟨m, ds, e1, h2⟩
    · rw [List.getElem?_set_ne (Ne.symm hm)] at e2
      exact ⟨m, fs, e1, e2⟩)
theorem Lv.set {n : Nat} {ds es : List D} (h2 : S[n]? = some (.lst ds)) {b : Addr} : Lv cm (S.set n (.lst es)) b ↔ Lv cm S b := by
  have hn : n < S.length := (List.getElem?_eq_some_iff.mp h2).1
  constructor
  · rintro ⟨m, fs, e1, e2⟩
    by_cases hm : m = n
    · subst hm; exact ⟨m, ds, e1, h2⟩
    · rw [List.getElem?_set_ne (Ne.symm hm)] at e2; exact ⟨m, fs, e1, e2⟩
  · rintro ⟨m, fs, e1, e2⟩
    by_cases hm : m = n
    · subst hm; exact ⟨m, es, e1, List.getElem?_set_self hn⟩
    · exact ⟨m, fs, e1, by rw [List.getElem?_set_ne (Ne.symm hm)]; exact e2⟩
theorem wr_sr (r : SR K H cm S) {n : Nat} {a : Addr} {ds es : List D} {ws : List V} (h1 : cm[n]? = some a) (h2 : S[n]? = some (.lst ds)) (q : Rps K H (Lv cm S) ws es) : SR K (upd H a (.lst ws)) cm (S.set n (.lst es)) := by
  have t := wr_tr (es := es) r h1 h2 (.lst ws)
  have hn : n < S.length := (List.getElem?_eq_some_iff.mp h2).1
  refine ⟨by rw [List.length_set]; exact r.len, r.nd, fun m b c e1 e2 => ?_⟩
  by_cases hm : m = n
  · subst hm
    rw [h1] at e1; cases e1
    rw [List.getElem?_set_self hn] at e2; cases e2
    exact ⟨ws, upd_same, q.mono (t.toExt r)⟩
  · rw [List.getElem?_set_ne (Ne.symm hm)] at e2
    obtain ⟨vs, e, z⟩ := r.ok m b c e1 e2
    have hb : b ≠ a := fun z => hm (nd_ix' r.nd e1 (by rw [z]; exact h1))
    exact ⟨vs, by rw [upd_ne hb]; exact e, z.mono (t.toExt r)⟩
/-- a cell is frozen -/
theorem fz_tr (r : SR K H cm S) {n : Nat} {ds : List D} (h2 : S[n]? = some (.lst ds)) : Tr H cm S H cm (S.set n (.fz ds)) where
  ext := fun _ _ h _ => h
  pre := ⟨[], by simp⟩
  lv := fun b ⟨m, fs, e1, e2⟩ => .inl (by
    have hn : n < S.length := (List.getElem?_eq_some_iff.mp h2).1
    by_cases hm : m = n
    · subst hm; rw [List.getElem?_set_self hn] at e2; cases e2
    · rw [List.getElem?_set_ne (Ne.symm hm)] at e2; exact ⟨m, fs, e1, e2⟩)
theorem fz_sr (r : SR K H cm S) {n : Nat} {ds : List D} (h2 : S[n]? = some (.lst ds)) : SR K H cm (S.set n (.fz ds)) := by
  have hn : n < S.length := (List.getElem?_eq_some_iff.mp h2).1
  refine ⟨by rw [List.length_set]; exact r.len, r.nd, fun m b c e1 e2 => ?_⟩
  by_cases hm : m = n
  · subst hm
    rw [List.getElem?_set_self hn] at e2; cases e2
    obtain ⟨vs, e, z⟩ := r.ok m b _ e1 h2
    exact ⟨vs, e, Rps.mono ((fz_tr r h2).toExt r) z⟩
  · rw [List.getElem?_set_ne (Ne.symm hm)] at e2
    obtain ⟨vs, e, z⟩ := r.ok m b c e1 e2
    exact ⟨vs, e, z.mono ((fz_tr r h2).toExt r)⟩
theorem fz_dead (r : SR K H cm S) {n : Nat} {a : Addr} {ds : List D} (h1 : cm[n]? = some a) (h2 : S[n]? = some (.fz ds)) : ¬ Lv cm S a := fun ⟨m, fs, e1, e2⟩ => by
  have := nd_ix' r.nd e1 h1
  subst this
  rw [h2] at e2; cases e2
theorem Lv.app {c : Cell} {p : Addr} (hl : cm.length = S.length) {b : Addr} : Lv (cm ++ [p]) (S ++ [c]) b → Lv cm S b ∨ (b = p ∧ ∃ ds, c = .lst ds) := by
  rintro ⟨m, fs, e1, e2⟩
  by_cases hm : m < cm.length
  · rw [List.getElem?_append_left hm] at e1
    rw [List.getElem?_append_left (by omega)] at e2
    exact .inl ⟨m, fs, e1, e2⟩
  · have hm' : m < (cm ++ [p]).length := (List.getElem?_eq_some_iff.mp e1).1
    have : m = cm.length := by simp at hm'; omega
    subst this
    simp at e1
    rw [hl] at e2
    simp at e2
    exact .inr ⟨e1.symm, fs, e2⟩
theorem Lv.left {c : Cell} {p : Addr} (hl : cm.length = S.length) {b : Addr} (h : Lv cm S b) : Lv (cm ++ [p]) (S ++ [c]) b := by
  obtain ⟨m, fs, e1, e2⟩ := h
  have hm : m < cm.length := (List.getElem?_eq_some_iff.mp e1).1
  exact ⟨m, fs, by rw [List.getElem?_append_left hm]; exact e1, by rw [List.getElem?_append_left (by omega)]; exact e2⟩
theorem Lv.iff {p : Addr} {ds : List D} (hl : cm.length = S.length) (b : Addr) : Lv (cm ++ [p]) (S ++ [.lst ds]) b ↔ (Lv cm S b ∨ b = p) :=
  ⟨fun h => by
    rcases Lv.app hl h with h | ⟨h, _⟩
    · exact .inl h
    · exact .inr h, fun h => by
    rcases h with h | rfl
    · exact h.left hl
    · exact ⟨cm.length, ds, by simp, by rw [hl]; simp⟩⟩
theorem app_sr (hl : cm.length = S.length) (nd : cm.Nodup) {p : Addr} {vs : List V} {ds : List D} (hp : p ∉ cm)
    (old : ∀ (n : Nat) (a : Addr) (c : Cell), cm[n]? = some a → S[n]? = some c → ∃ ws, H a = some (.lst ws) ∧ Rps K H (fun b => Lv cm S b ∨ b = p) ws c.its)
    (new : H p = some (.lst vs)) (q : Rps K H (fun b => Lv cm S b ∨ b = p) vs ds) : SR K H (cm ++ [p]) (S ++ [.lst ds]) := by
  have cv : ∀ {ws es}, Rps K H (fun b => Lv cm S b ∨ b = p) ws es → Rps K H (Lv (cm ++ [p]) (S ++ [.lst ds])) ws es := fun q =>
    q.mono ⟨fun _ _ h _ => h, fun b h => by
      rcases h with ⟨n, fs, e1, e2⟩ | rfl
      · obtain ⟨ws, e, _⟩ := old n b _ e1 e2
        exact ⟨ws, e⟩
      · exact ⟨_, new⟩, fun b h => .inl ((Lv.iff hl b).mp h)⟩
  refine ⟨by simp [hl], ?_, fun n a c e1 e2 => ?_⟩
  · rw [List.nodup_append]
    exact ⟨nd, by simp, fun x hx y hy => by
      have : y = p := by simpa using hy
      subst this
      exact fun z => hp (z ▸ hx)⟩
  · by_cases hm : n < cm.length
    · rw [List.getElem?_append_left hm] at e1
      rw [List.getElem?_append_left (by rw [← hl]; exact hm)] at e2
      obtain ⟨ws, e, z⟩ := old n a c e1 e2
      exact ⟨ws, e, cv z⟩
    · have hm' : n < (cm ++ [p]).length := (List.getElem?_eq_some_iff.mp e1).1
      have : n = cm.length := by simp at hm'; omega
      subst this
      simp at e1
      rw [hl] at e2
      simp at e2
      subst e1 e2
      exact ⟨vs, new, cv q⟩
/-- a new list -/
theorem fr_mk {p : Addr} {vs : List V} {ds : List D} (r : SR K H cm S) (hp : H p = none) (q : Rps K H (Lv cm S) vs ds) :
    SR K (upd H p (.lst vs)) (cm ++ [p]) (S ++ [.lst ds]) ∧ Tr H cm S (upd H p (.lst vs)) (cm ++ [p]) (S ++ [.lst ds]) := by
  have ex : Ext H (upd H p (.lst vs)) (Lv cm S) (fun b => Lv cm S b ∨ b = p) :=
    ⟨fun b u e _ => by rw [upd_ne (ne_of_none e hp)]; exact e, r.lst, fun b h => by
      rcases h with h | rfl
      · exact .inl h
      · exact .inr hp⟩
  refine ⟨app_sr r.len r.nd (r.notin hp) (fun n a c e1 e2 => ?_) upd_same (q.mono ex), ex.ext, ⟨[p], rfl⟩, fun b l => ex.lv b ((Lv.iff r.len b).mp l)⟩
  obtain ⟨ws, e, z⟩ := r.ok n a c e1 e2
  exact ⟨ws, by rw [upd_ne (ne_of_none e hp)]; exact e, z.mono ex⟩
end
end Rf

set_option Elab.async false
set_option linter.all false
set_option maxRecDepth 100000
set_option maxHeartbeats 1000000
namespace Rf
open PySem PySem.Spec PyProof.Rows L2

/-! ### readings -/
abbrev Mg := Str → Option Value
def VOk (K : PySem.W.Frag) (H : Hp) (cm : List Addr) (S : Store) (v : V) : RV → Prop
  | .d d => Rp K H (Lv cm S) v d
  | .c n => ∃ a, v = .ref a ∧ cm[n]? = some a
def PV (K : PySem.W.Frag) (H : Hp) (cm : List Addr) (S : Store) (v : V) (r : RV) (H' : Hp) (cm' : List Addr) (S' : Store) : Prop :=
  Tr H cm S H' cm' S' ∧ SR K H' cm' S' ∧ VOk K H' cm' S' v r
def PX (K : PySem.W.Frag) (H : Hp) (cm : List Addr) (S : Store) (v : V) (r : RX) (H' : Hp) (cm' : List Addr) (S' : Store) : Prop := match r with
  | .d d => Tr H cm S H' cm' S' ∧ SR K H' cm' S' ∧ Rp K H' (Lv cm' S') v d
  | .c n => Tr H cm S H' cm' S' ∧ SR K H' cm' S' ∧ ∃ a, v = .ref a ∧ cm'[n]? = some a
  | .f ds => ∃ p, v = .ref p ∧ (∃ more, cm' = cm ++ more) ∧ Tr H cm S H' (cm' ++ [p]) (S' ++ [.lst ds]) ∧ SR K H' (cm' ++ [p]) (S' ++ [.lst ds])
def PD (K : PySem.W.Frag) (H : Hp) (cm : List Addr) (S : Store) (v : V) (d : D) (H' : Hp) (cm' : List Addr) (S' : Store) : Prop :=
  Tr H cm S H' cm' S' ∧ SR K H' cm' S' ∧ Rp K H' (Lv cm' S') v d
def PB (K : PySem.W.Frag) (H : Hp) (cm : List Addr) (S : Store) (b : Bool) (a : Bool) (H' : Hp) (cm' : List Addr) (S' : Store) : Prop :=
  Tr H cm S H' cm' S' ∧ SR K H' cm' S' ∧ b = a
inductive VsOk (K : PySem.W.Frag) (H : Hp) (cm : List Addr) (S : Store) : List V → List RV → Prop
  | nil : VsOk K H cm S [] []
  | cons {v : V} {r : RV} {vs : List V} {rs : List RV} : VOk K H cm S v r → VsOk K H cm S vs rs → VsOk K H cm S (v :: vs) (r :: rs)
def PVs (K : PySem.W.Frag) (H : Hp) (cm : List Addr) (S : Store) (vs : List V) (rs : List RV) (H' : Hp) (cm' : List Addr) (S' : Store) : Prop :=
  Tr H cm S H' cm' S' ∧ SR K H' cm' S' ∧ VsOk K H' cm' S' vs rs
/-- an exception lies so -/
def XO (K : PySem.W.Frag) (mg : Mg) (H : Hp) (cm : List Addr) (S : Store) (x : Exn) (cls : Value) (d : Option Addr) : Prop :=
  mg x.cls = some cls ∧ ∃ a fs, d = some a ∧ H a = some (.xd fs) ∧ fs.map (·.1) = x.flds.map (·.1) ∧ Rps K H (Lv cm S) (fs.map (·.2)) (x.flds.map (·.2))
def RE (K : PySem.W.Frag) (mg : Mg) (E : XK) (H : Hp) (cm : List Addr) (S : Store) (x : Exn) (S' : Store) : Prop :=
  ∀ cls d H' cm', Tr H cm S H' cm' S' → SR K H' cm' S' → XO K mg H' cm' S' x cls d → E cls d H'
abbrev Post (α β : Type) := Hp → List Addr → Store → β → α → Hp → List Addr → Store → Prop
def okG {α β : Type} (K : PySem.W.Frag) (mg : Mg) (E : XK) (P : Post α β) (Q : β → Hp → Prop) (H : Hp) (cm : List Addr) (S : Store) : Res α → Prop
  | .ok a S' => ∀ b H' cm', P H cm S b a H' cm' S' → Q b H'
  | .exc x S' => RE K mg E H cm S x S'
  | .stuck => False
structure ER (K : PySem.W.Frag) (H : Hp) (cm : List Addr) (S : Store) (ρ : Rf.Env) (σ : L2.St) : Prop where
  len : ρ.length = σ.length
  at' : ∀ (i : Nat) (r : RV), ρ[i]? = some (some r) → ∃ v, σ[i]? = some (some v) ∧ VOk K H cm S v r
abbrev Rd' (α : Type) := Rf.Env → Store → Res α
def tG {α β : Type} (K : PySem.W.Frag) (mg : Mg) (E : XK) (P : Post α β) (f : Rd' α) : L2.St → Hp → (β → Hp → Prop) → Prop := fun σ H Q =>
  ∃ ρ cm S, SR K H cm S ∧ ER K H cm S ρ σ ∧ okG K mg E P Q H cm S (f ρ S)
abbrev tX (K : PySem.W.Frag) (mg : Mg) (E : XK) (f : Rd' RX) : TE := tG K mg E (PX K) f
abbrev tV (K : PySem.W.Frag) (mg : Mg) (E : XK) (f : Rd' RV) : TE := tG K mg E (PV K) f
abbrev tD (K : PySem.W.Frag) (mg : Mg) (E : XK) (f : Rd' D) : TE := tG K mg E (PD K) f
abbrev tB (K : PySem.W.Frag) (mg : Mg) (E : XK) (f : Rd' Bool) : TT := tG K mg E (PB K) f
abbrev tA (K : PySem.W.Frag) (mg : Mg) (E : XK) (f : Rd' (List RV)) : TA := tG K mg E (PVs K) f

section
variable {K : PySem.W.Frag} {mg : Mg} {E : XK} {H H1 H' : Hp} {cm cm1 cm' : List Addr} {S S1 S' : Store} {ρ : Rf.Env} {σ : L2.St}
theorem VOk.mono (t : Tr H cm S H' cm' S') (r : SR K H cm S) {v : V} : ∀ {x : RV}, VOk K H cm S v x → VOk K H' cm' S' v x
  | .d _, h => Rp.mono (t.toExt r) h
  | .c n, ⟨a, e, h⟩ => by
    obtain ⟨m, rfl⟩ := t.pre
    exact ⟨a, e, by rw [List.getElem?_append_left (List.getElem?_eq_some_iff.mp h).1]; exact h⟩
theorem VsOk.mono (t : Tr H cm S H' cm' S') (r : SR K H cm S) : ∀ {vs : List V} {rs : List RV}, VsOk K H cm S vs rs → VsOk K H' cm' S' vs rs
  | _, _, .nil => .nil
  | _, _, .cons h q => .cons (h.mono t r) (VsOk.mono t r q)
theorem VsOk.length : ∀ {vs : List V} {rs : List RV}, VsOk K H cm S vs rs → vs.length = rs.length
  | _, _, .nil => rfl
  | _, _, .cons _ q => by simp [VsOk.length q]
theorem VsOk.get : ∀ {vs : List V} {rs : List RV} {i : Nat} {r : RV}, VsOk K H cm S vs rs → rs[i]? = some r → ∃ v, vs[i]? = some v ∧ VOk K H cm S v r
  | _, _, _, _, .nil, h => by simp at h
  | _, _, 0, _, .cons h q, e => by simp at e; subst e; exact ⟨_, rfl, h⟩
  | _, _, i + 1, _, .cons h q, e => by simp at e; obtain ⟨v, a, b⟩ := VsOk.get q e; exact ⟨v, by simpa using a, b⟩
theorem VsOk.append : ∀ {vs ws : List V} {rs us : List RV}, VsOk K H cm S vs rs → VsOk K H cm S ws us → VsOk K H cm S (vs ++ ws) (rs ++ us)
  | _, _, _, _, .nil, q => q
  | _, _, _, _, .cons h q, r => .cons h (VsOk.append q r)
theorem ER.mono (t : Tr H cm S H' cm' S') (r : SR K H cm S) (e : ER K H cm S ρ σ) : ER K H' cm' S' ρ σ :=
  ⟨e.len, fun i x h => let ⟨v, a, b⟩ := e.at' i x h; ⟨v, a, b.mono t r⟩⟩
theorem ER.set (e : ER K H cm S ρ σ) {i : Nat} {v : V} {r : RV} (h : VOk K H cm S v r) : ER K H cm S (ρ.set i (some r)) (σ.set i (some v)) := by
  refine ⟨by simp [e.len], fun j x hx => ?_⟩
  by_cases hj : i = j
  · subst hj
    by_cases hl : i < ρ.length
    · rw [List.getElem?_set_self hl] at hx
      cases hx
      exact ⟨v, List.getElem?_set_self (by rw [← e.len]; exact hl), h⟩
    · rw [List.getElem?_eq_none (by simpa using hl)] at hx; cases hx
  · rw [List.getElem?_set_ne hj] at hx
    obtain ⟨w, a, b⟩ := e.at' j x hx
    exact ⟨w, by rw [List.getElem?_set_ne hj]; exact a, b⟩
theorem ER.none (e : ER K H cm S ρ σ) {i : Nat} : ER K H cm S (ρ.set i none) (σ.set i none) := by
  refine ⟨by simp [e.len], fun j x hx => ?_⟩
  by_cases hj : i = j
  · subst hj
    by_cases hl : i < ρ.length
    · rw [List.getElem?_set_self hl] at hx; cases hx
    · rw [List.getElem?_eq_none (by simpa using hl)] at hx; cases hx
  · rw [List.getElem?_set_ne hj] at hx
    obtain ⟨w, a, b⟩ := e.at' j x hx
    exact ⟨w, by rw [List.getElem?_set_ne hj]; exact a, b⟩
theorem ER.wipe (e : ER K H cm S ρ σ) : ∀ vs : List Nat, ER K H cm S (wipeE ρ vs) (L2.wipe σ vs)
  | [] => e
  | v :: vs => by unfold wipeE L2.wipe; exact (ER.wipe e vs).none

/-! what may be forgotten -/
theorem PX.tr {v : V} {r : RX} (h : PX K H cm S v r H' cm' S') (t : Tr H1 cm1 S1 H cm S) : PX K H1 cm1 S1 v r H' cm' S' := by
  cases r with
  | d d => exact ⟨t.trans h.1, h.2⟩
  | c n => exact ⟨t.trans h.1, h.2⟩
  | f ds =>
    obtain ⟨p, a, ⟨m, q⟩, b, c⟩ := h
    obtain ⟨m2, q2⟩ := t.pre
    exact ⟨p, a, ⟨m2 ++ m, by rw [q, q2, List.append_assoc]⟩, t.trans b, c⟩
class Trs {α β : Type} (P : Post α β) : Prop where
  tr : ∀ {H H1 H' : Hp} {cm cm1 cm' : List Addr} {S S1 S' : Store} {b : β} {a : α}, Tr H1 cm1 S1 H cm S → P H cm S b a H' cm' S' → P H1 cm1 S1 b a H' cm' S'
instance : Trs (PX K) := ⟨fun t h => h.tr t⟩
instance : Trs (PV K) := ⟨fun t h => ⟨t.trans h.1, h.2⟩⟩
instance : Trs (PD K) := ⟨fun t h => ⟨t.trans h.1, h.2⟩⟩
instance : Trs (PB K) := ⟨fun t h => ⟨t.trans h.1, h.2⟩⟩
instance : Trs (PVs K) := ⟨fun t h => ⟨t.trans h.1, h.2⟩⟩
theorem RE.step (t : Tr H cm S H1 cm1 S1) {x : Exn} (h : RE K mg E H cm S x S') : RE K mg E H1 cm1 S1 x S' := fun cls d H' cm' t' r' o => h cls d H' cm' (t.trans t') r' o
theorem okG.step {α β : Type} {P : Post α β} [Trs P] {Q : β → Hp → Prop} (t : Tr H cm S H1 cm1 S1) {r : Res α} (h : okG K mg E P Q H cm S r) : okG K mg E P Q H1 cm1 S1 r := by
  cases r with
  | ok a S' => exact fun b H' cm' p => h b H' cm' (Trs.tr t p)
  | exc x S' => exact RE.step t h
  | stuck => exact h
/-- a wish of some later state, that an exception may end -/
structure Zok (K : PySem.W.Frag) (mg : Mg) (E : XK) {β : Type} (exc : Exn → Store → β) (stuck : β) (Z : Hp → List Addr → Store → β → Prop) : Prop where
  ex : ∀ {H cm S x S'}, Z H cm S (exc x S') → RE K mg E H cm S x S'
  st : ∀ {H cm S}, ¬ Z H cm S stuck
  step : ∀ {H cm S H1 cm1 S1 r}, Tr H cm S H1 cm1 S1 → Z H cm S r → Z H1 cm1 S1 r
theorem okG.zok {α β : Type} {P : Post α β} [Trs P] {Q : β → Hp → Prop} : Zok K mg E (Res.exc (α := α)) .stuck (okG K mg E P Q) := ⟨fun h => h, fun h => h, fun t h => okG.step t h⟩
theorem tG_bind {α β γ : Type} {P : Post α β} {f : Rd' α} {k : α → Store → Res γ} {Z : Hp → List Addr → Store → Res γ → Prop} (z : Zok K mg E .exc .stuck Z) {Q : β → Hp → Prop}
    (hs : SR K H cm S) (he : ER K H cm S ρ σ) (h : Z H cm S ((f ρ S).bind k)) (hk : ∀ a S1 b H1 cm1, f ρ S = .ok a S1 → P H cm S b a H1 cm1 S1 → Z H cm S (k a S1) → Q b H1) : tG K mg E P f σ H Q := by
  refine ⟨ρ, cm, S, hs, he, ?_⟩
  cases e : f ρ S with
  | ok a S1 =>
    rw [e] at h
    exact fun b H' cm' p => hk a S1 b H' cm' e p h
  | exc x S1 =>
    rw [e] at h
    exact z.ex h
  | stuck =>
    rw [e] at h
    exact z.st h
theorem tG_out {α β : Type} {P : Post α β} {f : Rd' α} {k : α → Store → Out} {Z : Hp → List Addr → Store → Out → Prop} (z : Zok K mg E .exc .stuck Z) {Q : β → Hp → Prop}
    (hs : SR K H cm S) (he : ER K H cm S ρ σ) (h : Z H cm S ((f ρ S).out k)) (hk : ∀ a S1 b H1 cm1, f ρ S = .ok a S1 → P H cm S b a H1 cm1 S1 → Z H cm S (k a S1) → Q b H1) : tG K mg E P f σ H Q := by
  refine ⟨ρ, cm, S, hs, he, ?_⟩
  cases e : f ρ S with
  | ok a S1 =>
    rw [e] at h
    exact fun b H' cm' p => hk a S1 b H' cm' e p h
  | exc x S1 =>
    rw [e] at h
    exact z.ex h
  | stuck =>
    rw [e] at h
    exact z.st h

/-! ### fresh lists -/
/-- a fresh list that nobody will change -/
theorem fr_tr {p : Addr} {ds : List D} (hl : cm'.length = S'.length) (t : Tr H cm S H' (cm' ++ [p]) (S' ++ [.lst ds])) (h : ∃ more, cm' = cm ++ more) : Tr H cm S H' cm' S' :=
  ⟨t.ext, h, fun b l => t.lv b (l.left hl)⟩
theorem fr_len {p : Addr} {c : Cell} (r : SR K H' (cm' ++ [p]) (S' ++ [c])) : cm'.length = S'.length := by
  have := r.len
  simpa using this
theorem fr_dead {p : Addr} {ds : List D} (r : SR K H' (cm' ++ [p]) (S' ++ [.lst ds])) : ¬ Lv cm' S' p := fun l => by
  have nd := r.nd
  rw [List.nodup_append] at nd
  exact nd.2.2 p l.mem p (by simp) rfl
theorem fr_sr {p : Addr} {ds : List D} (r : SR K H' (cm' ++ [p]) (S' ++ [.lst ds])) : SR K H' cm' S' ∧ Rp K H' (Lv cm' S') (.ref p) (.lst ds) := by
  have hl := fr_len r
  have ex : Ext H' H' (Lv (cm' ++ [p]) (S' ++ [.lst ds])) (Lv cm' S') := ⟨fun _ _ h _ => h, r.lst, fun b l => .inl (l.left hl)⟩
  refine ⟨⟨hl, (List.nodup_append.mp r.nd).1, fun n a c e1 e2 => ?_⟩, ?_⟩
  · have h1 : n < cm'.length := (List.getElem?_eq_some_iff.mp e1).1
    have h2 : n < S'.length := (List.getElem?_eq_some_iff.mp e2).1
    obtain ⟨vs, e, q⟩ := r.ok n a c (by rw [List.getElem?_append_left h1]; exact e1) (by rw [List.getElem?_append_left h2]; exact e2)
    exact ⟨vs, e, q.mono ex⟩
  · obtain ⟨vs, e, q⟩ := r.ok cm'.length p (.lst ds) (by simp) (by rw [hl]; simp)
    exact .lst (.inl ⟨e, fr_dead r⟩) (q.mono ex)
theorem fr_new {p : Addr} {ds : List D} (r : SR K H' (cm' ++ [p]) (S' ++ [.lst ds])) (hs : SR K H cm S) (t : Tr H cm S H' (cm' ++ [p]) (S' ++ [.lst ds])) (hp : ∃ more, cm' = cm ++ more) : H p = none := by
  have hl := fr_len r
  have l : Lv (cm' ++ [p]) (S' ++ [.lst ds]) p := ⟨cm'.length, ds, by simp, by rw [hl]; simp⟩
  rcases t.lv p l with z | z
  · obtain ⟨m, rfl⟩ := hp
    have nd := r.nd
    rw [List.nodup_append] at nd
    exact absurd rfl (nd.2.2 p (List.mem_append_left _ z.mem) p (by simp))
  · exact z
/-- what a result becomes -/
theorem PX.conv {v : V} {r : RX} (hs : SR K H cm S) (hp : PX K H cm S v r H' cm' S') {m : Md} {x : RV} {S2 : Store} (e : conv m r S' = .ok x S2) :
    ∃ cm2, PV K H cm S v x H' cm2 S2 := by
  cases r with
  | d d =>
    cases m <;> (cases e; exact ⟨cm', hp⟩)
  | c n =>
    obtain ⟨t, s, a, ev, ea⟩ := hp
    have keep : x = .c n → S2 = S' → ∃ cm2, PV K H cm S v x H' cm2 S2 := fun e1 e2 => by subst e1 e2; exact ⟨cm', t, s, a, ev, ea⟩
    cases m with
    | cel => cases e; exact keep rfl rfl
    | rd => cases e; exact keep rfl rfl
    | dat =>
      cases q : S'[n]? with
      | none => simp [Rf.conv, q] at e
      | some c =>
        cases c with
        | lst ds =>
          simp only [Rf.conv, q, Res.ok.injEq] at e
          obtain ⟨rfl, rfl⟩ := e
          obtain ⟨vs, e2, z⟩ := s.ok n a _ ea q
          have s2 := fz_sr s q
          have hn : n < S'.length := (List.getElem?_eq_some_iff.mp q).1
          exact ⟨cm', t.trans (fz_tr s q), s2, by subst ev; exact .lst (.inl ⟨e2, fz_dead s2 ea (List.getElem?_set_self hn)⟩) (z.mono ((fz_tr s q).toExt s))⟩
        | fz ds =>
          simp only [Rf.conv, q, Res.ok.injEq] at e
          obtain ⟨rfl, rfl⟩ := e
          obtain ⟨vs, e2, z⟩ := s.ok n a _ ea q
          exact ⟨cm', t, s, by subst ev; exact .lst (.inl ⟨e2, fz_dead s ea q⟩) z⟩
  | f ds =>
    obtain ⟨p, ev, pre, t, s⟩ := hp
    subst ev
    have hl := fr_len s
    obtain ⟨s1, q⟩ := fr_sr s
    cases m with
    | cel =>
      cases e
      exact ⟨cm' ++ [p], t, s, p, rfl, by rw [← hl]; simp⟩
    | rd => cases e; exact ⟨cm', fr_tr hl t pre, s1, q⟩
    | dat => cases e; exact ⟨cm', fr_tr hl t pre, s1, q⟩
end
end Rf

set_option Elab.async false
set_option linter.all false
set_option maxRecDepth 100000
set_option maxHeartbeats 1000000
namespace Rf
open PySem PySem.Spec PyProof.Rows L2

theorem line_eq : line = sizeLine := by rw [sizeLine_eq]; rfl
/-! ### reading -/
def Rq (K : PySem.W.Frag) (H : Hp) (L : Addr → Prop) (v : V) (d : D) : Prop :=
  Rp K H L v d ∨ ∃ a vs ds, v = .ref a ∧ d = .lst ds ∧ SqE K H a vs ∧ Rps K H L vs ds
section
variable {K : PySem.W.Frag} {mg : Mg} {E : XK} {H H1 H' : Hp} {cm cm1 cm' : List Addr} {S S1 S' : Store} {L : Addr → Prop} {v w : V} {d e : D}
theorem rd_ok (r : SR K H cm S) : ∀ {x : RV}, VOk K H cm S v x → rdV S x = some d → Rq K H (Lv cm S) v d
  | .d d', h, e => by cases e; exact .inl h
  | .c n, ⟨a, ev, ea⟩, e => by
    cases q : S[n]? with
    | none => simp [rdV, cellAt, q] at e
    | some c =>
      obtain ⟨vs, e2, z⟩ := r.ok n a c ea q
      cases c with
      | lst ds => simp [rdV, cellAt, q] at e; subst e; exact .inr ⟨a, vs, ds, ev, rfl, .inl e2, z⟩
      | fz ds => simp [rdV, cellAt, q] at e; subst e; exact .inr ⟨a, vs, ds, ev, rfl, .inl e2, z⟩
theorem Rq.non (h : Rq K H L v .non) : v = .non := by
  rcases h with h | ⟨_, _, _, _, e, _⟩
  · cases h; rfl
  · cases e
theorem Rq.bl {b : Bool} (h : Rq K H L v (.bl b)) : v = .bl b := by
  rcases h with h | ⟨_, _, _, _, e, _⟩
  · cases h; rfl
  · cases e
theorem Rq.int {b : Int} (h : Rq K H L v (.int b)) : v = .int b := by
  rcases h with h | ⟨_, _, _, _, e, _⟩
  · cases h; rfl
  · cases e
theorem Rq.str {b : Str} (h : Rq K H L v (.str b)) : v = .str b := by
  rcases h with h | ⟨_, _, _, _, e, _⟩
  · cases h; rfl
  · cases e
theorem Rq.tup {ds : List D} (h : Rq K H L v (.tup ds)) : ∃ a vs, v = .ref a ∧ SqT K H a vs ∧ Rps K H L vs ds := by
  rcases h with h | ⟨_, _, _, _, e, _⟩
  · cases h with | tup a b => exact ⟨_, _, rfl, a, b⟩
  · cases e
theorem Rq.lst {ds : List D} (h : Rq K H L v (.lst ds)) : ∃ a vs, v = .ref a ∧ SqE K H a vs ∧ Rps K H L vs ds := by
  rcases h with h | ⟨a, vs, ds', ev, e, q, z⟩
  · cases h with | lst a b => exact ⟨_, _, rfl, a.sqE, b⟩
  · cases e; exact ⟨a, vs, ev, q, z⟩
theorem Rq.dp (h : Rq K H L v d) : Dp K H v d.py := by
  rcases h with h | ⟨a, vs, ds, ev, e, q, z⟩
  · exact h.dp
  · subst ev e; exact .lst q.sq z.dp
/-! results -/
theorem mkD (r : SR K H cm S) {x : V} {a : D} (h : Rp K H (Lv cm S) x a) : PX K H cm S x (.d a) H cm S := ⟨Tr.refl, r, h⟩
theorem mkT (r : SR K H cm S) {p : Addr} {vs : List V} {ds : List D} (hp : H p = none) (q : Rps K H (Lv cm S) vs ds) : PX K H cm S (.ref p) (.d (.tup ds)) (upd H p (.tup vs)) cm S :=
  ⟨Tr.new r hp, r.new hp, .tup (.inl (.inl upd_same)) (q.mono (Ext.new r.lst hp))⟩
theorem mkF (r : SR K H cm S) {p : Addr} {vs : List V} {ds : List D} (hp : H p = none) (q : Rps K H (Lv cm S) vs ds) : PX K H cm S (.ref p) (.f ds) (upd H p (.lst vs)) cm S :=
  let ⟨a, b⟩ := fr_mk r hp q
  ⟨p, rfl, ⟨[], by simp⟩, b, a⟩
end

/-- what an operation's result is worth, the store being as it was -/
def RX1 (K : PySem.W.Frag) (H : Hp) (Q : VK) (cm : List Addr) (S : Store) : Option RX → Prop
  | some r => ∀ v H' cm', PX K H cm S v r H' cm' S → Q v H'
  | none => False
section
variable {X : Cx}
def rB (K : PySem.W.Frag) (op : Operator) : R2 := fun x y H Q => ∃ cm S d e, SR K H cm S ∧ Rq K H (Lv cm S) x d ∧ Rq K H (Lv cm S) y e ∧ RX1 K H Q cm S (binD op d e)
theorem mulOk_ok {i j : Int} (h : mulOk i j = true) : IntMulOk i j := by
  unfold mulOk at h
  simp only [Bool.or_eq_true, decide_eq_true_eq] at h
  rcases h with (h | h) | h
  · exact CMul.ok (.inl ⟨by omega, by omega⟩)
  · exact CMul.ok (.inr ⟨by omega, by omega⟩)
  · exact CMulW.ok h
theorem op_fdivL : OpR X (binaryOp .FloorDiv) (rI (fun _ j => j ≠ 0 ∧ j.natAbs.log2 < 9000) fun i j => .int (i.fdiv j)) := opI fun _ _ _ _ _ _ _ hc q => floordiv_int hc.1 q (.inl (PyProof.noPylong_of_log2 hc.2))
theorem op_bin (op : Operator) : OpR X (binaryOp op) (rB X.K op) := by
  intro pins s σ H x y v u Q I rx ry h
  obtain ⟨cm, S, d, e, r, hx, hy, q⟩ := h
  cases op with
  | Add =>
    cases d with
    | int i => cases e with
      | int j =>
        have ex := hx.int; have ey := hy.int; subst ex ey
        exact op_add pins s σ H _ _ v u Q I rx ry ⟨i, j, rfl, rfl, q _ _ cm (mkD r (.int _))⟩
      | _ => exact q.elim
    | str a => cases e with
      | str b =>
        have ex := hx.str; have ey := hy.str; subst ex ey
        by_cases hz : a.length + b.length ≤ line
        · simp only [binD, if_pos hz] at q
          exact op_add_str pins s σ H _ _ v u Q I rx ry ⟨a, b, rfl, rfl, by rw [← line_eq]; exact hz, q _ _ cm (mkD r (.str _))⟩
        · simp only [binD, if_neg hz] at q; exact q.elim
      | _ => exact q.elim
    | tup xs => cases e with
      | tup ys =>
        obtain ⟨a, vs, rfl, ha, hva⟩ := hx.tup
        obtain ⟨b, ws, rfl, hb, hvb⟩ := hy.tup
        by_cases hz : xs.length + ys.length ≤ line
        · simp only [binD, if_pos hz] at q
          refine op_catA pins s σ H _ _ v u Q I rx ry ⟨a, b, vs, ws, rfl, rfl, ha, hb, by rw [hva.length, hvb.length, ← line_eq]; exact hz, fun z => ?_, fun z1 z2 => ?_, fun z1 z2 p hp => ?_⟩
          · subst z
            cases hva
            exact q _ _ cm (mkD r (.tup hb hvb))
          · subst z2
            cases hvb
            rw [List.append_nil] at q
            exact q _ _ cm (mkD r (.tup ha hva))
          · exact q _ _ cm (mkT r hp (hva.append hvb))
        · simp only [binD, if_neg hz] at q; exact q.elim
      | _ => exact q.elim
    | lst xs => cases e with
      | lst ys =>
        obtain ⟨a, vs, rfl, ha, hva⟩ := hx.lst
        obtain ⟨b, ws, rfl, hb, hvb⟩ := hy.lst
        by_cases hz : xs.length + ys.length ≤ line
        · simp only [binD, if_pos hz] at q
          cases rx
          cases ry
          obtain ⟨z, its, n, r1, hl, e⟩ := lstE I ha
          obtain ⟨z2, its2, n2, r2, hl2, e2⟩ := lstE I hb
          have hz' : its.length + its2.length ≤ sizeLine := by rw [← hl, ← hl2, hva.length, hvb.length, ← line_eq]; exact hz
          refine PySem.P.add_list e e2 ?_ (by rw [List.size_toArray, List.size_toArray]; exact hz')
          have ea : its.toArray ++ its2.toArray = (its ++ its2).toArray := by simp
          rw [ea]
          exact ⟨.ref _, _, I.lnew (t' := s.toks) (r1.append r2) (by rw [List.length_append]; omega), rfl, q _ _ cm (mkF r I.fresh (hva.append hvb))⟩
        · simp only [binD, if_neg hz] at q; exact q.elim
      | _ => exact q.elim
    | _ => exact q.elim
  | Sub =>
    cases d with
    | int i => cases e with
      | int j =>
        have ex := hx.int; have ey := hy.int; subst ex ey
        exact op_sub pins s σ H _ _ v u Q I rx ry ⟨i, j, rfl, rfl, q _ _ cm (mkD r (.int _))⟩
      | _ => exact q.elim
    | _ => exact q.elim
  | Mult =>
    cases d with
    | int i => cases e with
      | int j =>
        have ex := hx.int; have ey := hy.int; subst ex ey
        by_cases hz : mulOk i j = true
        · simp only [binD, if_pos hz] at q
          obtain ⟨t, rfl⟩ := rx
          obtain ⟨t', rfl⟩ := ry
          exact mul_int ⟨.int _, H, I.tok _, ⟨_, rfl⟩, q _ _ cm (mkD r (.int _))⟩ (mulOk_ok hz)
        · simp only [binD, if_neg hz] at q; exact q.elim
      | _ => exact q.elim
    | lst xs => cases e with
      | int k =>
        obtain ⟨a, vs, rfl, ha, hva⟩ := hx.lst
        have ey := hy.int; subst ey
        by_cases hz : -9223372036854775808 ≤ k ∧ k < 9223372036854775808 ∧ xs.length * k.toNat ≤ line
        · simp only [binD, if_pos hz] at q
          obtain ⟨h1, h2, hz⟩ := hz
          cases rx
          obtain ⟨t, rfl⟩ := ry
          obtain ⟨z, its, n, r1, hl, e⟩ := lstE I ha
          have hz3 : its.length * k.toNat ≤ sizeLine := by rw [← hl, hva.length, ← line_eq]; exact hz
          have hlen : its.toArray.size * k.toNat ≤ sizeLine := by rw [List.size_toArray]; exact hz3
          have hcap : ¬ its.toArray.size * k.toNat > (2 ^ 63 - 1) / 8 := by
            have : (sizeLine : Nat) ≤ (2 ^ 63 - 1) / 8 := by decide
            omega
          have hfit : ¬ (!Builtin.List.listFitsIndex k) = true := by
            rw [fitsIndex_both (by omega) (by omega)]
            exact Bool.false_ne_true
          have hlong : ¬ Builtin.List.listTooLong (its.toArray.size * k.toNat) = true := by
            rw [notLongL hlen]
            exact Bool.false_ne_true
          have hnew : List.foldl (fun x1 x2 => x1 ++ x2) #[] (List.replicate (if its.toArray.isEmpty = true then 0 else k.toNat) its.toArray) = (List.replicate k.toNat its).flatten.toArray := by
            have f0 : ∀ m : Nat, List.foldl (fun x1 x2 => x1 ++ x2) #[] (List.replicate m its.toArray) = (List.replicate m its).flatten.toArray := fun m => by
              have := foldl_rep its m []
              rw [List.nil_append] at this
              exact this
            rw [f0]
            cases its with
            | nil => simp
            | cons a r' => rw [if_neg (by simp)]
          refine wpAny_binaryOp_repeat_ref (T := "list") (U := "int") (by decide) ⟨_, e, rfl⟩ (fun s' => typeIs_int s' k t) noFill_list_mul F.fills_int_mul F.slot_int_rmul repeat_list F.slot_int_index.lookup
            (call_meets F.slot_int_rmul (typeIs_int s k t) F.entry_int_rmul (F.args_int_rmul_2 _ _) (int___rmul___int_list k t _ its.toArray n)
              ⟨e, rfl, ⟨_, e, rfl⟩, call_meets F.slot_list_mul ⟨_, e, rfl⟩ F.entry_list_mul (F.args_list_mul_2 _ _) (AutoListH.list___mul___list_int_3 _ its.toArray n k t hfit hcap hlong) ⟨e, ?_⟩⟩)
          rw [hnew]
          exact ⟨.ref _, _, I.lnew (t' := s.toks) (r1.rep k.toNat) (by rw [PyProof.Rows.lm_len_rep_flat, Nat.mul_comm, hl]; exact hz3), rfl, q _ _ cm (mkF r I.fresh (hva.rep _))⟩
        · simp only [binD, if_neg hz] at q; exact q.elim
      | _ => exact q.elim
    | _ => exact q.elim
  | FloorDiv =>
    cases d with
    | int i => cases e with
      | int j =>
        have ex := hx.int; have ey := hy.int; subst ex ey
        by_cases hz : j ≠ 0 ∧ j.natAbs.log2 < 9000
        · simp only [binD, if_pos hz] at q
          exact op_fdivL pins s σ H _ _ v u Q I rx ry ⟨i, j, rfl, rfl, hz, q _ _ cm (mkD r (.int _))⟩
        · simp only [binD, if_neg hz] at q; exact q.elim
      | _ => exact q.elim
    | _ => exact q.elim
  | Mod =>
    cases d with
    | int i => cases e with
      | int j =>
        have ex := hx.int; have ey := hy.int; subst ex ey
        by_cases hz : j ≠ 0
        · simp only [binD, if_pos hz] at q
          exact op_modN pins s σ H _ _ v u Q I rx ry ⟨i, j, rfl, rfl, hz, q _ _ cm (mkD r (.int _))⟩
        · simp only [binD, if_neg hz] at q; exact q.elim
      | _ => exact q.elim
    | _ => exact q.elim
  | Pow =>
    cases d with
    | int i => cases e with
      | int j =>
        have ex := hx.int; have ey := hy.int; subst ex ey
        by_cases hz : 0 ≤ j ∧ j ≤ 1000000 ∧ i.natAbs < 18446744073709551616
        · simp only [binD, if_pos hz] at q
          exact op_pow pins s σ H _ _ v u Q I rx ry ⟨i, j, rfl, rfl, ⟨hz.1, hz.2.1, hz.2.2⟩, q _ _ cm (mkD r (.int _))⟩
        · simp only [binD, if_neg hz] at q; exact q.elim
      | _ => exact q.elim
    | _ => exact q.elim
  | _ => cases d <;> (try exact q.elim) <;> cases e <;> exact q.elim
end
end Rf

set_option Elab.async false
set_option linter.all false
set_option maxRecDepth 100000
set_option maxHeartbeats 1000000
namespace Rf
open PySem PySem.Spec PyProof.Rows L2

/-! ### comparisons -/
mutual
theorem D.py_eq : ∀ a b : D, PyData.eqv a.py b.py = a.eq b
  | .non, b => by cases b <;> simp [D.py, PyData.eqv, D.eq]
  | .bl x, b => by cases b <;> simp [D.py, PyData.eqv, D.eq]
  | .int i, b => by
    cases b <;> simp [D.py, PyData.eqv, D.eq]
    rw [Bool.eq_iff_iff]; simp
  | .str x, b => by
    cases b <;> simp [D.py, PyData.eqv, D.eq]
    rw [Bool.eq_iff_iff]; simp
  | .tup xs, b => by
    cases b with
    | tup ys => simp only [D.py, PyData.eqv, D.eq]; exact D.pys_eq xs ys
    | _ => simp [D.py, PyData.eqv, D.eq]
  | .lst xs, b => by
    cases b with
    | lst ys => simp only [D.py, PyData.eqv, D.eq]; exact D.pys_eq xs ys
    | _ => simp [D.py, PyData.eqv, D.eq]
theorem D.pys_eq : ∀ a b : List D, PyData.eqvAll (D.pys a) (D.pys b) = D.eqs a b
  | [], [] => rfl
  | [], _ :: _ => rfl
  | _ :: _, [] => rfl
  | x :: xs, y :: ys => by
    simp only [D.pys, PyData.eqvAll, D.eqs]
    rw [D.py_eq x y, D.pys_eq xs ys]
end
mutual
theorem D.py_lay : ∀ a : D, a.py.canLay0 = a.okc
  | .non => by simp [D.py, PyData.canLay0, D.okc]
  | .bl x => by simp [D.py, PyData.canLay0, D.okc]
  | .int i => by simp [D.py, PyData.canLay0, D.okc]
  | .str x => by simp [D.py, PyData.canLay0, D.okc]
  | .tup xs => by simp only [D.py, PyData.canLay0, D.okc]; exact D.pys_lay xs
  | .lst xs => by simp only [D.py, PyData.canLay0, D.okc]; exact D.pys_lay xs
theorem D.pys_lay : ∀ a : List D, PyData.canLayAll0 (D.pys a) = D.okcs a
  | [] => rfl
  | x :: xs => by simp only [D.pys, PyData.canLayAll0, D.okcs]; rw [D.py_lay x, D.pys_lay xs]
end
mutual
theorem D.py_dep : ∀ a : D, a.py.depth = a.dep
  | .non => by simp [D.py, PyData.depth, D.dep]
  | .bl x => by simp [D.py, PyData.depth, D.dep]
  | .int i => by simp [D.py, PyData.depth, D.dep]
  | .str x => by simp [D.py, PyData.depth, D.dep]
  | .tup xs => by simp only [D.py, PyData.depth, D.dep]; rw [D.pys_dep xs]
  | .lst xs => by simp only [D.py, PyData.depth, D.dep]; rw [D.pys_dep xs]
theorem D.pys_dep : ∀ a : List D, PyData.depthAll (D.pys a) = D.deps a
  | [] => rfl
  | x :: xs => by simp only [D.pys, PyData.depthAll, D.deps]; rw [D.py_dep x, D.pys_dep xs]
end
theorem D.shaped {a : D} (h1 : a.okc = true) (h2 : a.dep ≤ 64) : SeqAt.shaped a.py = true := by
  unfold SeqAt.shaped
  rw [D.py_lay, D.py_dep, h1]
  simpa using h2
def okB (H : Hp) (Q : VK) : Option Bool → Prop
  | some b => Q (.bl b) H
  | none => False
section
variable {X : Cx} {K : PySem.W.Frag} {H : Hp} {L : Addr → Prop}
theorem flat_rq {x : V} {d : D} (h : Rq K H L x d) (f : d.flat = true) : flatV x = true := by
  cases d with
  | non => rw [h.non]; rfl
  | bl b => rw [h.bl]; rfl
  | int b => rw [h.int]; rfl
  | str b => rw [h.str]; rfl
  | _ => simp [D.flat] at f
theorem flat_eq {x y : V} {d e : D} (h : Rq K H L x d) (f : d.flat = true) (h' : Rq K H L y e) (f' : e.flat = true) : eqV x y = d.eq e := by
  cases d with
  | non => rw [h.non]; cases e with
    | non => rw [h'.non]; rfl
    | bl b => rw [h'.bl]; rfl
    | int b => rw [h'.int]; rfl
    | str b => rw [h'.str]; rfl
    | _ => simp [D.flat] at f'
  | bl b => rw [h.bl]; cases e with
    | non => rw [h'.non]; rfl
    | bl b => rw [h'.bl]; rfl
    | int b => rw [h'.int]; rfl
    | str b => rw [h'.str]; rfl
    | _ => simp [D.flat] at f'
  | int b => rw [h.int]; cases e with
    | non => rw [h'.non]; rfl
    | bl b => rw [h'.bl]; rfl
    | int b => rw [h'.int]; simp only [eqV, D.eq]; rw [Bool.eq_iff_iff]; simp
    | str b => rw [h'.str]; rfl
    | _ => simp [D.flat] at f'
  | str b => rw [h.str]; cases e with
    | non => rw [h'.non]; rfl
    | bl b => rw [h'.bl]; rfl
    | int b => rw [h'.int]; rfl
    | str b => rw [h'.str]; simp only [eqV, D.eq]; rw [Bool.eq_iff_iff]; simp
    | _ => simp [D.flat] at f'
  | _ => simp [D.flat] at f
theorem flats_rps : ∀ {vs : List V} {ds : List D}, Rps K H L vs ds → ds.all D.flat = true → vs.all flatV = true
  | _, _, .nil, _ => rfl
  | _, _, .cons h r, f => by
    rw [List.all_cons, Bool.and_eq_true] at f
    rw [List.all_cons, flat_rq (.inl h) f.1, flats_rps r f.2]; rfl
theorem mem_rps {x : V} {d : D} (h : Rq K H L x d) (f : d.flat = true) : ∀ {vs : List V} {ds : List D}, Rps K H L vs ds → ds.all D.flat = true → inV x vs = memD d ds
  | _, _, .nil, _ => rfl
  | _, _, .cons h' r, f' => by
    rw [List.all_cons, Bool.and_eq_true] at f'
    have ih := mem_rps h f r f'.2
    unfold inV memD at ih ⊢
    rw [List.any_cons, List.any_cons, flat_eq (.inl h') f'.1 h f, ih]
theorem ints_rps : ∀ {vs : List V} {ds : List D} {ns : List Int}, Rps K H L vs ds → intsOf ds = some ns → vs = ns.map V.int
  | _, [], ns, .nil, e => by simp [intsOf] at e; subst e; rfl
  | v :: vs, d :: ds, ns, .cons h r, e => by
    cases d with
    | int i =>
      simp only [intsOf, Option.map_eq_some_iff] at e
      obtain ⟨ms, e1, rfl⟩ := e
      cases h
      rw [ints_rps r e1]; rfl
    | _ => simp [intsOf] at e
theorem bls_rps : ∀ {vs : List V} {ds : List D} {ns : List Bool}, Rps K H L vs ds → bls ds = some ns → vs = ns.map V.bl
  | _, [], ns, .nil, e => by simp [bls] at e; subst e; rfl
  | v :: vs, d :: ds, ns, .cons h r, e => by
    cases d with
    | bl i =>
      simp only [bls, Option.map_eq_some_iff] at e
      obtain ⟨ms, e1, rfl⟩ := e
      cases h
      rw [bls_rps r e1]; rfl
    | _ => simp [bls] at e
theorem strs_rps : ∀ {vs : List V} {ds : List D} {ns : List Str}, Rps K H L vs ds → strL ds = some ns → vs = ns.map V.str
  | _, [], ns, .nil, e => by simp [strL] at e; subst e; rfl
  | v :: vs, d :: ds, ns, .cons h r, e => by
    cases d with
    | str i =>
      simp only [strL, Option.map_eq_some_iff] at e
      obtain ⟨ms, e1, rfl⟩ := e
      cases h
      rw [strs_rps r e1]; rfl
    | _ => simp [strL] at e
def rC (K : PySem.W.Frag) (op : CmpOp) : R2 := fun x y H Q => ∃ cm S d e, SR K H cm S ∧ Rq K H (Lv cm S) x d ∧ Rq K H (Lv cm S) y e ∧ okB H Q (cmpD op d e)
theorem eq_scal {x y : V} {d e : D} (hx : Rq K H L x d) (hy : Rq K H L y e) (h : (d.scal && e.scal) = true) (n : ¬ (d.okc = true ∧ e.okc = true)) : L2.scal x y = true ∧ decide (x = y) = d.eq e := by
  rw [Bool.and_eq_true] at h
  cases d with
  | non => cases e with
    | str b => rw [hx.non, hy.str]; exact ⟨rfl, rfl⟩
    | _ => first | exact absurd ⟨rfl, rfl⟩ n | simp [D.scal] at h
  | bl a => cases e with
    | str b => rw [hx.bl, hy.str]; exact ⟨rfl, rfl⟩
    | _ => first | exact absurd ⟨rfl, rfl⟩ n | simp [D.scal] at h
  | int a => cases e with
    | str b => rw [hx.int, hy.str]; exact ⟨rfl, rfl⟩
    | _ => first | exact absurd ⟨rfl, rfl⟩ n | simp [D.scal] at h
  | str a => cases e with
    | non => rw [hx.str, hy.non]; exact ⟨rfl, rfl⟩
    | bl b => rw [hx.str, hy.bl]; exact ⟨rfl, rfl⟩
    | int b => rw [hx.str, hy.int]; exact ⟨rfl, rfl⟩
    | str b => rw [hx.str, hy.str]; refine ⟨rfl, ?_⟩; simp only [D.eq]; rw [Bool.eq_iff_iff]; simp
    | _ => simp [D.scal] at h
  | _ => simp [D.scal] at h
theorem dep_scal {d : D} (h : d.scal = true) : d.dep ≤ 64 := by
  cases d <;> simp [D.scal, D.dep] at *
theorem op_cmpD (hu : X.A.units + 64 < cLine) (op : CmpOp) : OpR X (compareOp op) (rC X.K op) := by
  intro pins s σ H x y v u Q I rx ry h
  obtain ⟨cm, S, d, e, r, hx, hy, q⟩ := h
  have neither : ∀ {p : Prop}, False → p := fun h => h.elim
  cases op with
  | Lt =>
    cases d with
    | int i => cases e with
      | int j =>
        have ex := hx.int; have ey := hy.int; subst ex ey
        exact op_lt pins s σ H _ _ v u Q I rx ry ⟨i, j, rfl, rfl, q⟩
      | _ => exact q.elim
    | str i => cases e with
      | str j =>
        have ex := hx.str; have ey := hy.str; subst ex ey
        exact op_lt_str pins s σ H _ _ v u Q I rx ry ⟨i, j, rfl, rfl, q⟩
      | _ => exact q.elim
    | tup xs => cases e with
      | tup ys =>
        obtain ⟨a, vs, rfl, ha, hva⟩ := hx.tup
        obtain ⟨b, ws, rfl, hb, hvb⟩ := hy.tup
        cases e1 : intsOf xs with
        | none => simp only [cmpD, e1] at q; exact q.elim
        | some ns => cases e2 : intsOf ys with
          | none => simp only [cmpD, e1, e2] at q; exact q.elim
          | some ms =>
            simp only [cmpD, e1, e2] at q
            have f1 := ints_rps hva e1; have f2 := ints_rps hvb e2; subst f1 f2
            exact op_ltT (by omega) pins s σ H _ _ v u Q I rx ry ⟨a, b, ns, ms, rfl, rfl, ha, hb, q⟩
      | _ => exact q.elim
    | _ => exact q.elim
  | LtE =>
    cases d with
    | int i => cases e with
      | int j =>
        have ex := hx.int; have ey := hy.int; subst ex ey
        exact op_le pins s σ H _ _ v u Q I rx ry ⟨i, j, rfl, rfl, q⟩
      | _ => exact q.elim
    | _ => exact q.elim
  | Gt =>
    cases d with
    | int i => cases e with
      | int j =>
        have ex := hx.int; have ey := hy.int; subst ex ey
        exact op_gt pins s σ H _ _ v u Q I rx ry ⟨i, j, rfl, rfl, q⟩
      | _ => exact q.elim
    | _ => exact q.elim
  | GtE =>
    cases d with
    | int i => cases e with
      | int j =>
        have ex := hx.int; have ey := hy.int; subst ex ey
        exact op_ge pins s σ H _ _ v u Q I rx ry ⟨i, j, rfl, rfl, q⟩
      | _ => exact q.elim
    | _ => exact q.elim
  | Eq =>
    by_cases h1 : d.okc = true ∧ e.okc = true ∧ d.dep ≤ 64 ∧ e.dep ≤ 64
    · have ok : eqOk d e = true := by unfold eqOk; simp [h1.1, h1.2.1, h1.2.2.1, h1.2.2.2]
      simp only [cmpD, if_pos ok] at q
      refine op_eqD hu pins s σ H _ _ v u Q I rx ry ⟨_, _, hx.dp, hy.dp, D.shaped h1.1 h1.2.2.1, D.shaped h1.2.1 h1.2.2.2, ?_⟩
      rw [D.py_eq]; exact q
    · by_cases ok : eqOk d e = true
      · have h2 : (d.scal && e.scal) = true := by
          unfold eqOk at ok
          rw [Bool.or_eq_true] at ok
          rcases ok with ok | ok
          · exact ok
          · exfalso
            simp only [Bool.and_eq_true, decide_eq_true_eq] at ok
            exact h1 ⟨ok.1.1.1, ok.1.1.2, ok.1.2, ok.2⟩
        have h3 := Bool.and_eq_true_iff.mp h2
        obtain ⟨s1, s2⟩ := eq_scal hx hy h2 fun n => h1 ⟨n.1, n.2, dep_scal h3.1, dep_scal h3.2⟩
        simp only [cmpD, if_pos ok] at q
        exact op_eq pins s σ H _ _ v u Q I rx ry ⟨s1, by rw [s2]; exact q⟩
      · simp only [cmpD, if_neg ok] at q; exact q.elim
  | NotEq =>
    by_cases h1 : d.okc = true ∧ e.okc = true ∧ d.dep ≤ 64 ∧ e.dep ≤ 64
    · have ok : eqOk d e = true := by unfold eqOk; simp [h1.1, h1.2.1, h1.2.2.1, h1.2.2.2]
      simp only [cmpD, if_pos ok] at q
      refine op_neD hu pins s σ H _ _ v u Q I rx ry ⟨_, _, hx.dp, hy.dp, D.shaped h1.1 h1.2.2.1, D.shaped h1.2.1 h1.2.2.2, ?_⟩
      rw [D.py_eq]; exact q
    · by_cases ok : eqOk d e = true
      · have h2 : (d.scal && e.scal) = true := by
          unfold eqOk at ok
          rw [Bool.or_eq_true] at ok
          rcases ok with ok | ok
          · exact ok
          · exfalso
            simp only [Bool.and_eq_true, decide_eq_true_eq] at ok
            exact h1 ⟨ok.1.1.1, ok.1.1.2, ok.1.2, ok.2⟩
        have h3 := Bool.and_eq_true_iff.mp h2
        obtain ⟨s1, s2⟩ := eq_scal hx hy h2 fun n => h1 ⟨n.1, n.2, dep_scal h3.1, dep_scal h3.2⟩
        simp only [cmpD, if_pos ok] at q
        exact op_ne pins s σ H _ _ v u Q I rx ry ⟨s1, by rw [s2]; exact q⟩
      · simp only [cmpD, if_neg ok] at q; exact q.elim
  | Is =>
    cases e with
    | non =>
      have ey := hy.non; subst ey
      refine op_isN pins s σ H _ _ v u Q I rx ry ⟨rfl, ?_⟩
      cases d with
      | non => rw [hx.non]; exact q
      | bl b => rw [hx.bl]; exact q
      | int b => rw [hx.int]; exact q
      | str b => rw [hx.str]; exact q
      | tup b => obtain ⟨a, vs, rfl, _⟩ := hx.tup; exact q
      | lst b => obtain ⟨a, vs, rfl, _⟩ := hx.lst; exact q
    | bl b => cases d with
      | bl a =>
        have ex := hx.bl; have ey := hy.bl; subst ex ey
        exact op_isBl pins s σ H _ _ v u Q I rx ry ⟨a, b, rfl, rfl, q⟩
      | _ => exact q.elim
    | _ => cases d <;> exact q.elim
  | IsNot =>
    cases e with
    | non =>
      have ey := hy.non; subst ey
      refine op_notN pins s σ H _ _ v u Q I rx ry ⟨rfl, ?_⟩
      cases d with
      | non => rw [hx.non]; exact q
      | bl b => rw [hx.bl]; exact q
      | int b => rw [hx.int]; exact q
      | str b => rw [hx.str]; exact q
      | tup b => obtain ⟨a, vs, rfl, _⟩ := hx.tup; exact q
      | lst b => obtain ⟨a, vs, rfl, _⟩ := hx.lst; exact q
    | bl b => cases d with
      | bl a =>
        have ex := hx.bl; have ey := hy.bl; subst ex ey
        exact op_notBl pins s σ H _ _ v u Q I rx ry ⟨a, b, rfl, rfl, q⟩
      | _ => exact q.elim
    | _ => cases d <;> exact q.elim
  | In =>
    cases e with
    | lst xs =>
      obtain ⟨b, ws, rfl, hb, hvb⟩ := hy.lst
      by_cases m : memOk d xs = true
      · have q' : Q (.bl (memD d xs)) H := by
          have : cmpD .In d (.lst xs) = some (memD d xs) := by cases d <;> simp only [cmpD, if_pos m]
          rw [this] at q; exact q
        unfold memOk at m
        rw [Bool.and_eq_true] at m
        refine op_in_seq pins s σ H _ _ v u Q I rx ry ⟨b, ws, rfl, .inl hb.sq, flat_rq hx m.1, flats_rps hvb m.2, ?_⟩
        rw [mem_rps hx m.1 hvb m.2]; exact q'
      · exfalso
        have : cmpD .In d (.lst xs) = none := by cases d <;> simp only [cmpD, if_neg m]
        rw [this] at q; exact q
    | tup xs =>
      obtain ⟨b, ws, rfl, hb, hvb⟩ := hy.tup
      by_cases m : memOk d xs = true
      · have q' : Q (.bl (memD d xs)) H := by
          have : cmpD .In d (.tup xs) = some (memD d xs) := by cases d <;> simp only [cmpD, if_pos m]
          rw [this] at q; exact q
        unfold memOk at m
        rw [Bool.and_eq_true] at m
        refine op_in_seq pins s σ H _ _ v u Q I rx ry ⟨b, ws, rfl, .inr hb, flat_rq hx m.1, flats_rps hvb m.2, ?_⟩
        rw [mem_rps hx m.1 hvb m.2]; exact q'
      · exfalso
        have : cmpD .In d (.tup xs) = none := by cases d <;> simp only [cmpD, if_neg m]
        rw [this] at q; exact q
    | str j => cases d with
      | str i =>
        have ex := hx.str; have ey := hy.str; subst ex ey
        exact op_in_str pins s σ H _ _ v u Q I rx ry ⟨i, j, rfl, rfl, q⟩
      | _ => exact q.elim
    | _ => cases d <;> exact q.elim
  | NotIn =>
    cases e with
    | lst xs =>
      obtain ⟨b, ws, rfl, hb, hvb⟩ := hy.lst
      by_cases m : memOk d xs = true
      · have q' : Q (.bl (!memD d xs)) H := by
          have : cmpD .NotIn d (.lst xs) = some (!memD d xs) := by cases d <;> simp only [cmpD, if_pos m]
          rw [this] at q; exact q
        unfold memOk at m
        rw [Bool.and_eq_true] at m
        refine op_notIn_seq pins s σ H _ _ v u Q I rx ry ⟨b, ws, rfl, .inl hb.sq, flat_rq hx m.1, flats_rps hvb m.2, ?_⟩
        rw [mem_rps hx m.1 hvb m.2]; exact q'
      · exfalso
        have : cmpD .NotIn d (.lst xs) = none := by cases d <;> simp only [cmpD, if_neg m]
        rw [this] at q; exact q
    | tup xs =>
      obtain ⟨b, ws, rfl, hb, hvb⟩ := hy.tup
      by_cases m : memOk d xs = true
      · have q' : Q (.bl (!memD d xs)) H := by
          have : cmpD .NotIn d (.tup xs) = some (!memD d xs) := by cases d <;> simp only [cmpD, if_pos m]
          rw [this] at q; exact q
        unfold memOk at m
        rw [Bool.and_eq_true] at m
        refine op_notIn_seq pins s σ H _ _ v u Q I rx ry ⟨b, ws, rfl, .inr hb, flat_rq hx m.1, flats_rps hvb m.2, ?_⟩
        rw [mem_rps hx m.1 hvb m.2]; exact q'
      · exfalso
        have : cmpD .NotIn d (.tup xs) = none := by cases d <;> simp only [cmpD, if_neg m]
        rw [this] at q; exact q
    | str j => cases d with
      | str i =>
        have ex := hx.str; have ey := hy.str; subst ex ey
        exact op_notin_str pins s σ H _ _ v u Q I rx ry ⟨i, j, rfl, rfl, q⟩
      | _ => exact q.elim
    | _ => cases d <;> exact q.elim
end
end Rf

set_option Elab.async false
set_option linter.all false
set_option maxRecDepth 100000
set_option maxHeartbeats 1000000
namespace Rf
open PySem PySem.Spec PyProof.Rows L2

/-! ### subscripts -/
section
variable {K : PySem.W.Frag} {H : Hp} {L : Addr → Prop}
theorem ixN_eq {n m : Nat} (h : n = m) (i : Int) : ixN n i = ixN m i := by rw [h]
theorem atI_rps {vs : List V} {ds : List D} (r : Rps K H L vs ds) {i : Int} {z : D} (h : atI ds i = some z) : ∃ v, atI vs i = some v ∧ Rp K H L v z := by
  unfold atI at h ⊢
  rw [r.length]
  cases e : ixN ds.length i with
  | none => rw [e] at h; cases h
  | some j =>
    rw [e] at h
    obtain ⟨v, a, b⟩ := r.get (i := j) h
    exact ⟨v, a, b⟩
theorem cut_rps {vs : List V} {ds : List D} (r : Rps K H L vs ds) (lo hi : Option Int) : Rps K H L (cutV vs lo hi) (cutD ds lo hi) := by
  unfold cutV cutD
  rw [r.length]
  exact (r.drop _).take _
end
def okD (K : PySem.W.Frag) (H : Hp) (Q : VK) (L : Addr → Prop) : Option D → Prop
  | some d => ∀ v, Rp K H L v d → Q v H
  | none => False
section
variable {X : Cx}
def rI' (K : PySem.W.Frag) : R2 := fun x y H Q => ∃ cm S d e, SR K H cm S ∧ Rq K H (Lv cm S) x d ∧ Rq K H (Lv cm S) y e ∧ okD K H Q (Lv cm S) (idxD d e)
theorem ix_D : IxR X (rI' X.K) := by
  intro value slice pins s σ H x y v u Q I rx ry h hs
  obtain ⟨cm, S, d, e, r, hx, hy, q⟩ := h
  cases d with
  | lst xs => cases e with
    | int i =>
      obtain ⟨a, vs, rfl, ha, hva⟩ := hx.lst
      have ey := hy.int; subst ey
      cases h : atI xs i with
      | none => simp only [idxD, h] at q; exact q.elim
      | some z =>
        simp only [idxD, h] at q
        obtain ⟨w, h1, h2⟩ := atI_rps hva h
        exact ix_list value slice pins s σ H _ _ v u Q I rx ry ⟨a, vs, i, w, rfl, rfl, ha.sq, h1, q w h2⟩ hs
    | _ => exact q.elim
  | tup xs => cases e with
    | int i =>
      obtain ⟨a, vs, rfl, ha, hva⟩ := hx.tup
      have ey := hy.int; subst ey
      cases h : atI xs i with
      | none => simp only [idxD, h] at q; exact q.elim
      | some z =>
        simp only [idxD, h] at q
        obtain ⟨w, h1, h2⟩ := atI_rps hva h
        exact ix_tup value slice pins s σ H _ _ v u Q I rx ry ⟨a, vs, i, w, rfl, rfl, ha, h1, q w h2⟩ hs
    | _ => exact q.elim
  | str z => cases e with
    | int i =>
      have ex := hx.str; have ey := hy.int; subst ex ey
      by_cases hz : z.length ≤ line
      · cases h : atI z.cps.toList i with
        | none => simp only [idxD, if_pos hz, h, Option.map_none] at q; exact q.elim
        | some c =>
          simp only [idxD, if_pos hz, h, Option.map_some] at q
          exact ix_str value slice pins s σ H _ _ v u Q I rx ry ⟨z, i, c, rfl, rfl, by rw [← line_eq]; exact hz, h, q _ (.str _)⟩ hs
      · simp only [idxD, if_neg hz] at q; exact q.elim
    | _ => exact q.elim
  | _ => exact q.elim
/-! ### slices -/
def rS (K : PySem.W.Frag) : V → Option Int → Option Int → Hp → VK → Prop := fun x lo hi H Q => ∃ cm S d, SR K H cm S ∧ Rq K H (Lv cm S) x d ∧ RX1 K H Q cm S (sliceD d lo hi)
theorem sl_D : SlR X (rS X.K) := by
  intro pins s σ H x v vl vu lo hi sl Q I rx hs pl pu h
  obtain ⟨cm, S, d, r, hx, q⟩ := h
  cases d with
  | lst xs =>
    obtain ⟨a, vs, rfl, ha, hva⟩ := hx.lst
    exact sl_list pins s σ H _ v vl vu lo hi sl Q I rx hs pl pu ⟨a, vs, rfl, ha.sq, fun p hp => q _ _ cm (mkF r hp (cut_rps hva lo hi))⟩
  | tup xs =>
    obtain ⟨a, vs, rfl, ha, hva⟩ := hx.tup
    refine sl_tupA pins s σ H _ v vl vu lo hi sl Q I rx hs pl pu ⟨a, vs, rfl, ha, fun z => ?_, fun _ p hp => q _ _ cm (mkT r hp (cut_rps hva lo hi))⟩
    have e : cutV vs lo hi = vs := by
      unfold cutV
      rw [z.1, z.2, List.drop_zero, Nat.sub_zero, List.take_length]
    have e2 := cut_rps hva lo hi
    rw [e] at e2
    exact q _ _ cm (mkD r (.tup ha e2))
  | str z =>
    have ex := hx.str; subst ex
    by_cases hz : z.length ≤ line
    · simp only [sliceD, if_pos hz] at q
      exact sl_str pins s σ H _ v vl vu lo hi sl Q I rx hs pl pu ⟨z, rfl, by rw [← line_eq]; exact hz, q _ _ cm (mkD r (.str _))⟩
    · simp only [sliceD, if_neg hz] at q; exact q.elim
  | _ => exact q.elim
/-! ### turned round -/
theorem rev_applied {prog : Program} {w : World} {A : Around} {E : Value → Shared → Prop} {s : Shared} {sl : Addr} {vl vu vs : Value} {n : Nat} {Q : Int × Int × Nat → Shared → Prop} (hs : s.heap.IsSliceOf sl vl vu vs) (pl : IsPart vl none) (pu : IsPart vu none) (ps : IsPart vs (some (-1)))
    (h : Q ((n : Int) - 1, -1, n) s) : wpAny (model prog w) A (Builtin.Slice.sliceApplied (.ref sl) (pure (n : Int))) Q E s := by
  obtain ⟨os, hos, hcs, hds⟩ := id hs
  unfold Builtin.Slice.sliceApplied Builtin.Slice.sliceFields
  refine wpAny_bind (wpAny_bind (wpAny_field hos hds (x := vl) rfl (wpAny_bind (wpAny_field hos hds (x := vu) rfl (wpAny_bind (wpAny_field hos hds (x := vs) rfl (wpAny_pure ?_)))))))
  refine wpAny_bind (HT.slicePart_ ps ?_)
  show wpAny _ _ (if ((-1 : Int) == 0) = true then _ else _) _ _ s
  rw [if_neg (by decide)]
  refine wpAny_bind (HT.slicePart_ pl (wpAny_bind (HT.slicePart_ pu (wpAny_bind (wpAny_pure ?_)))))
  show wpAny _ _ (match Builtin.Slice.sliceAdjust none none (-1) (n : Int) with | (lo, hi) => pure (lo, (-1 : Int), Builtin.Slice.slicePlaces lo hi (-1))) _ _ s
  have e1 : Builtin.Slice.sliceAdjust none none (-1) (n : Int) = ((n : Int) - 1, -1) := by
    unfold Builtin.Slice.sliceAdjust
    simp
  rw [e1]
  show wpAny _ _ (pure ((n : Int) - 1, (-1 : Int), Builtin.Slice.slicePlaces ((n : Int) - 1) (-1) (-1))) _ _ s
  have e2 : Builtin.Slice.slicePlaces ((n : Int) - 1) (-1) (-1) = n := by
    unfold Builtin.Slice.slicePlaces
    rw [if_neg (by decide)]
    have h2 : ((n : Int) - 1 - -1 - 1) / (- (-1 : Int)) = (n : Int) - 1 - -1 - 1 := by rw [show (- (-1 : Int)) = 1 by decide, Int.ediv_one]
    rw [h2]
    split <;> omega
  rw [e2]
  exact wpAny_pure h
theorem rev_pick (xs : Array Value) : ((List.range xs.size).filterMap fun (k : Nat) => xs[((xs.size : Int) - 1 + (k : Int) * -1).toNat]?).toArray = xs.toList.reverse.toArray := by
  have e : (List.range xs.size).filterMap (fun (k : Nat) => xs[((xs.size : Int) - 1 + (k : Int) * -1).toNat]?) = ((List.range xs.size).map (fun k => xs.size - 1 - k)).filterMap (xs[·]?) := by
    rw [List.filterMap_map]
    congr 1
    funext k
    have : ((xs.size : Int) - 1 + (k : Int) * -1).toNat = xs.size - 1 - k := by omega
    show xs[((xs.size : Int) - 1 + (k : Int) * -1).toNat]? = xs[xs.size - 1 - k]?
    rw [this]
  rw [e, PySem.W.krv_range, List.filterMap_reverse, PySem.W.krv_all]
theorem getItem_tuple_rev {prog : Program} {w : World} {A : Around} {E : Value → Shared → Prop} {s : Shared} {t sl : Addr} {items : Array Value} {vl vu vs : Value} {Q : Value → Shared → Prop} (ht : IsTup s.heap t items) (hs : s.heap.IsSliceOf sl vl vu vs) (pl : IsPart vl none) (pu : IsPart vu none) (ps : IsPart vs (some (-1)))
    (h : Q (.ref s.heap.objs.size) { s with heap := s.heap.push { cls := .type "tuple", data := .seq items.toList.reverse.toArray } }) (hsz : items.size ≤ sizeLine) : wpAny (model prog w) A (getItem (.ref t) (.ref sl)) Q E s := by
  have hok : sizeOk (.seq items.toList.reverse.toArray) := by
    show items.toList.reverse.toArray.size ≤ sizeLine
    rw [List.size_toArray, List.length_reverse, Array.length_toList]
    exact hsz
  obtain ⟨os, hos, hcs, hds⟩ := id hs
  have hTs : s.TypeIs (.ref sl) "slice" := ⟨os, hos, hcs⟩
  unfold getItem
  try with_reducible refine wpAny_holding ?_
  first | refine wpAny_bind (wpAny_pure ?_) | skip
  refine wpAny_bind (wpAny_sequenceKey ht.typeIs (by decide) ?_)
  refine wpAny_bind (wpAny_callSpecial?_slot (name := Str.ofString "__getitem__") ht.typeIs PyProof.Rows.slot_tuple_getitem
    (wpAny_call_entry PyProof.Rows.slot_tuple_getitem ht.typeIs entry_tuple_getitem ?_ (args_tuple_getitem _ _)))
  show wpAny _ _ (Builtin.Tuple.tupleItemsOf (.ref t) >>= _) _ _ s
  refine wpAny_bind (tupleItemsOf_ ht ?_)
  refine wpAny_bind (wpAny_typeOf hTs ?_)
  rw [if_pos (by decide)]
  refine wpAny_bind (rev_applied hs pl pu ps ?_)
  have hno : ¬ (((items.size : Int) - 1 == 0 && (-1 : Int) == 1 && items.size == items.size) = true) := by
    intro q
    rw [Bool.and_eq_true, Bool.and_eq_true] at q
    exact absurd q.1.2 (by decide)
  show wpAny _ _ (if ((items.size : Int) - 1 == 0 && (-1 : Int) == 1 && items.size == items.size) = true then _ else _) _ _ s
  rw [if_neg hno, rev_pick]
  first
    | exact wpAny_bind (m := Builtin.Tuple.tupleExact _) (wpAny_newObj_type (wpAny_pure ⟨_, rfl, wpAny_pure h⟩) hok)
    | exact wpAny_bind (wpAny_bind (m := Builtin.Tuple.tupleExact _) (wpAny_newObj_type (wpAny_pure ⟨_, rfl, wpAny_pure h⟩) hok))
    | exact wpAny_bind (wpAny_bind (m := Builtin.Tuple.tupleExact _) (wpAny_newObj_type (wpAny_pure (wpAny_pure ⟨_, rfl, wpAny_pure h⟩)) hok))
    | exact wpAny_bind (m := Builtin.Tuple.tupleExact _) (wpAny_newObj_type (wpAny_bind (wpAny_pure (wpAny_pure ⟨_, rfl, wpAny_pure h⟩))) hok)
end
end Rf

set_option Elab.async false
set_option linter.all false
set_option maxRecDepth 100000
set_option maxHeartbeats 1000000
namespace Rf
open PySem PySem.Spec PyProof.Rows L2
section
variable {X : Cx}
/-- a value turned round -/
def tRev (K : PySem.W.Frag) (te : TE) : TE := fun σ H Q => te σ H fun x H1 => ∃ cm S d, SR K H1 cm S ∧ Rq K H1 (Lv cm S) x d ∧ RX1 K H1 Q cm S (revD d)
theorem pe_rev {e : Expr} {te : TE} {k : Nat} {p1 p2 p3 pos : Pos} (he : PE X e te) : PE X (.Subscript e (.Slice none none (some (.UnaryOp .USub (.Constant (.int 1) k p1) p2)) p3) pos) (tRev X.K te) := by
  refine ⟨fun pins s σ H Q I h => ?_⟩
  refine Subscript_ (thn (he.run pins s σ H _ I h) fun v s1 ⟨x, H1, I1, r1, q1⟩ => ?_)
  obtain ⟨cm, S, d, r, hx, q⟩ := q1
  have hst : PO X (some (.UnaryOp .USub (.Constant (.int 1) k p1) p2)) (tPart (tUn (rU fun i => .int (-i)) (tC (.int 1)))) := po_some (pe_un un_neg pe_int)
  refine wpAny_Slice (thn (po_none.run pins s1 σ H1 (fun o H2 => o = none ∧ H2 = H1) I1 ⟨rfl, rfl⟩) fun vl s2 ⟨l, H2, I2, pl, el, e2⟩ => ?_)
  subst el e2
  refine thn (po_none.run pins s2 σ H2 (fun o H3 => o = none ∧ H3 = H2) I2 ⟨rfl, rfl⟩) fun vu s3 ⟨u, H3, I3, pu, eu, e3⟩ => ?_
  subst eu e3
  refine thn (hst.run pins s3 σ H3 (fun o H4 => o = some (-1) ∧ H4 = H3) I3 ⟨1, rfl, -1, rfl, rfl, rfl⟩) fun vs s4 ⟨o, H4, I4, ps, eo, e4⟩ => ?_
  subst eo e4
  have I5 : Inv X pins σ H4 { s4 with heap := s4.heap.push { cls := .type "slice", data := .fields #[vl, vu, vs] } } := I4.kept (t' := s4.toks) fun b ob q => Heap.get?_push_of_some _ q
  cases d with
  | lst xs =>
    obtain ⟨a, ws, rfl, ha, hva⟩ := hx.lst
    cases r1
    obtain ⟨its, rv, ht, hz⟩ := I5.list ha.sq
    have hlen := rv.length
    show wpAny (model X.prog X.w) X.A (subscriptTail e (.Slice none none (some (.UnaryOp .USub (.Constant (.int 1) k p1) p2)) p3) (.ref a) (.ref s4.heap.objs.size)) (EP X pins σ Q) X.xe { s4 with heap := s4.heap.push { cls := .type "slice", data := .fields #[vl, vu, vs] } }
    refine tail_any (ops := [.ref a, .ref s4.heap.objs.size]) ht.isList.typeIs (PySem.slot_list_getitem.lookup) ?_ (by with_unfolding_all rfl)
    refine wpAny_getItem_list_slice ht.isList (Heap.IsSliceOf.new _ vl vu vs) pl pu ps (by decide) ?_ (by rw [List.size_toArray]; omega)
    rw [PySem.W.krv_pick]
    refine ⟨.ref _, _, I5.laid (t' := s4.toks) (o := .lst ws.reverse) (fun b ob q => Heap.get?_push_of_some _ q) (Nat.le_refl _) ?_, rfl, q _ _ cm (mkF r (I5.hok.fresh (Nat.le_refl _)) hva.reverse)⟩
    exact ⟨by rw [List.length_reverse]; exact hz, _, 0, rv.reverse, Heap.get?_push_size _ rfl⟩
  | tup xs =>
    obtain ⟨a, ws, rfl, ha, hva⟩ := hx.tup
    cases r1
    obtain ⟨its, rv, ht, hz⟩ := I5.tuple ha
    have hlen := rv.length
    show wpAny (model X.prog X.w) X.A (subscriptTail e (.Slice none none (some (.UnaryOp .USub (.Constant (.int 1) k p1) p2)) p3) (.ref a) (.ref s4.heap.objs.size)) (EP X pins σ Q) X.xe { s4 with heap := s4.heap.push { cls := .type "slice", data := .fields #[vl, vu, vs] } }
    refine tail_any (ops := [.ref a, .ref s4.heap.objs.size]) ht.typeIs (PyProof.Rows.slot_tuple_getitem.lookup) ?_ (by with_unfolding_all rfl)
    refine getItem_tuple_rev ht (Heap.IsSliceOf.new _ vl vu vs) pl pu ps ?_ (by rw [List.size_toArray]; omega)
    refine ⟨.ref _, _, I5.laid (t' := s4.toks) (o := .tup ws.reverse) (fun b ob q => Heap.get?_push_of_some _ q) (Nat.le_refl _) ?_, rfl, q _ _ cm (mkT r (I5.hok.fresh (Nat.le_refl _)) hva.reverse)⟩
    exact ⟨by rw [List.length_reverse]; exact hz, its.reverse, rv.reverse, IsTup.new _ _⟩
  | _ => exact q.elim

/-! ### built-in functions -/
inductive Rqs (K : PySem.W.Frag) (H : Hp) (L : Addr → Prop) : List V → List D → Prop
  | nil : Rqs K H L [] []
  | cons {v : V} {vs : List V} {d : D} {ds : List D} : Rq K H L v d → Rqs K H L vs ds → Rqs K H L (v :: vs) (d :: ds)
theorem rds_ok {K : PySem.W.Frag} {H : Hp} {cm : List Addr} {S : Store} (r : SR K H cm S) : ∀ {vs : List V} {rs : List RV} {ds : List D}, VsOk K H cm S vs rs → rdVs S rs = some ds → Rqs K H (Lv cm S) vs ds
  | _, [], ds, .nil, e => by simp [rdVs] at e; subst e; exact .nil
  | v :: vs, x :: rs, ds, .cons h q, e => by
    simp only [rdVs, Option.bind_eq_some_iff, Option.map_eq_some_iff] at e
    obtain ⟨d, e1, es, e2, rfl⟩ := e
    exact .cons (rd_ok r h e1) (rds_ok r q e2)
def rF (K : PySem.W.Frag) (f : Bf) : List V → Hp → VK → Prop := fun vs H Q => ∃ cm S ds, SR K H cm S ∧ Rqs K H (Lv cm S) vs ds ∧ RX1 K H Q cm S (bltD f ds)
def Bf.val : Bf → Value
  | .len => .builtin "len"
  | .abs => .builtin "abs"
  | .int => .type "int"
  | .max2 => .builtin "max"
  | .min2 => .builtin "min"
  | .maxL => .builtin "max"
  | .minL => .builtin "min"
  | .sum => .builtin "sum"
  | .all => .builtin "all"
  | .any => .builtin "any"
  | .tuple => .type "tuple"
  | .list => .type "list"
  | .repr => .builtin "repr"
  | .gcd => .builtin "math.gcd"
  | .divmod => .builtin "divmod"
  | .sorted => .builtin "sorted"
  | .str => .type "str"
theorem foldl_max (l : List Int) : ∀ x : Int, x ≤ l.foldl (fun a b => if b > a then b else a) x ∧ (∀ y ∈ l, y ≤ l.foldl (fun a b => if b > a then b else a) x) ∧ (l.foldl (fun a b => if b > a then b else a) x = x ∨ l.foldl (fun a b => if b > a then b else a) x ∈ l) := by
  induction l with
  | nil => intro x; exact ⟨Int.le_refl _, fun y hy => by simp at hy, .inl rfl⟩
  | cons z l ih =>
    intro x
    rw [List.foldl_cons]
    obtain ⟨h1, h2, h3⟩ := ih (if z > x then z else x)
    generalize List.foldl (fun a b => if b > a then b else a) (if z > x then z else x) l = m at h1 h2 h3 ⊢
    refine ⟨by split at h1 <;> omega, fun y hy => ?_, ?_⟩
    · rcases List.mem_cons.mp hy with rfl | hy
      · split at h1 <;> omega
      · exact h2 y hy
    · rcases h3 with h3 | h3
      · split at h3
        · exact .inr (by rw [h3]; exact List.mem_cons_self)
        · exact .inl h3
      · exact .inr (List.mem_cons_of_mem _ h3)
theorem foldl_min (l : List Int) : ∀ x : Int, l.foldl (fun a b => if b < a then b else a) x ≤ x ∧ (∀ y ∈ l, l.foldl (fun a b => if b < a then b else a) x ≤ y) ∧ (l.foldl (fun a b => if b < a then b else a) x = x ∨ l.foldl (fun a b => if b < a then b else a) x ∈ l) := by
  induction l with
  | nil => intro x; exact ⟨Int.le_refl _, fun y hy => by simp at hy, .inl rfl⟩
  | cons z l ih =>
    intro x
    rw [List.foldl_cons]
    obtain ⟨h1, h2, h3⟩ := ih (if z < x then z else x)
    generalize List.foldl (fun a b => if b < a then b else a) (if z < x then z else x) l = m at h1 h2 h3 ⊢
    refine ⟨by split at h1 <;> omega, fun y hy => ?_, ?_⟩
    · rcases List.mem_cons.mp hy with rfl | hy
      · split at h1 <;> omega
      · exact h2 y hy
    · rcases h3 with h3 | h3
      · split at h3
        · exact .inr (by rw [h3]; exact List.mem_cons_self)
        · exact .inl h3
      · exact .inr (List.mem_cons_of_mem _ h3)
theorem maxI_is {n : Int} {ns : List Int} {m : Int} (h1 : m ∈ n :: ns) (h2 : ∀ y ∈ n :: ns, y ≤ m) : m = maxI (n :: ns) := by
  obtain ⟨a, b, c⟩ := foldl_max ns n
  show m = ns.foldl (fun a b => if b > a then b else a) n
  generalize List.foldl (fun a b => if b > a then b else a) n ns = z at a b c ⊢
  have u1 : z ≤ m := h2 z (by rcases c with rfl | c; exact List.mem_cons_self; exact List.mem_cons_of_mem _ c)
  have u2 : m ≤ z := by
    rcases List.mem_cons.mp h1 with rfl | h
    · exact a
    · exact b m h
  omega
theorem minI_is {n : Int} {ns : List Int} {m : Int} (h1 : m ∈ n :: ns) (h2 : ∀ y ∈ n :: ns, m ≤ y) : m = minI (n :: ns) := by
  obtain ⟨a, b, c⟩ := foldl_min ns n
  show m = ns.foldl (fun a b => if b < a then b else a) n
  generalize List.foldl (fun a b => if b < a then b else a) n ns = z at a b c ⊢
  have u1 : m ≤ z := h2 z (by rcases c with rfl | c; exact List.mem_cons_self; exact List.mem_cons_of_mem _ c)
  have u2 : z ≤ m := by
    rcases List.mem_cons.mp h1 with rfl | h
    · exact a
    · exact b m h
  omega
theorem insI_perm (x : Int) : ∀ l : List Int, (insI x l).Perm (x :: l)
  | [] => .refl _
  | y :: l => by
    unfold insI
    split
    · exact .refl _
    · exact ((insI_perm x l).cons y).trans (.swap _ _ _)
theorem sortI_perm : ∀ l : List Int, (sortI l).Perm l
  | [] => .refl _
  | x :: l => (insI_perm x (sortI l)).trans ((sortI_perm l).cons x)
theorem insI_pw (x : Int) : ∀ l : List Int, l.Pairwise (· ≤ ·) → (insI x l).Pairwise (· ≤ ·)
  | [], _ => by simp [insI]
  | y :: l, h => by
    unfold insI
    rw [List.pairwise_cons] at h
    split
    · rename_i hxy
      rw [List.pairwise_cons, List.pairwise_cons]
      refine ⟨fun z hz => ?_, h⟩
      rcases List.mem_cons.mp hz with rfl | hz
      · exact hxy
      · exact Int.le_trans hxy (h.1 z hz)
    · rename_i hxy
      rw [List.pairwise_cons]
      refine ⟨fun z hz => ?_, insI_pw x l h.2⟩
      rcases List.mem_cons.mp ((insI_perm x l).mem_iff.mp hz) with rfl | hz
      · omega
      · exact h.1 z hz
theorem sortI_pw : ∀ l : List Int, (sortI l).Pairwise (· ≤ ·)
  | [] => .nil
  | x :: l => insI_pw x _ (sortI_pw l)
theorem sortI_is {a b : List Int} (hp : a.Perm b) (ha : a.Pairwise (· ≤ ·)) : a = sortI b := PySem.W.ksm_same (hp.trans (sortI_perm b).symm) ha (sortI_pw b)
theorem rps_ints (K : PySem.W.Frag) (H : Hp) (L : Addr → Prop) : ∀ ns : List Int, Rps K H L (ns.map V.int) (ns.map D.int)
  | [] => .nil
  | n :: ns => .cons (.int n) (rps_ints K H L ns)
theorem rps_strs (K : PySem.W.Frag) (H : Hp) (L : Addr → Prop) : ∀ ns : List Str, Rps K H L (ns.map V.str) (ns.map D.str)
  | [] => .nil
  | n :: ns => .cons (.str n) (rps_strs K H L ns)
mutual
theorem D.py_show : ∀ a : D, a.py.showable = a.shw
  | .non => by simp [D.py, PyData.showable, D.shw]
  | .bl x => by simp [D.py, PyData.showable, D.shw]
  | .int i => by simp [D.py, PyData.showable, D.shw]
  | .str x => by simp [D.py, PyData.showable, D.shw]
  | .tup xs => by simp only [D.py, PyData.showable, D.shw]; exact D.pys_show xs
  | .lst xs => by simp only [D.py, PyData.showable, D.shw]; exact D.pys_show xs
theorem D.pys_show : ∀ a : List D, PyData.showableAll (D.pys a) = D.shws a
  | [] => rfl
  | x :: xs => by simp only [D.pys, PyData.showableAll, D.shws]; rw [D.py_show x, D.pys_show xs]
end
mutual
theorem D.py_nd : ∀ a : D, a.py.hasDict = false
  | .non => by simp [D.py, PyData.hasDict]
  | .bl x => by simp [D.py, PyData.hasDict]
  | .int i => by simp [D.py, PyData.hasDict]
  | .str x => by simp [D.py, PyData.hasDict]
  | .tup xs => by simp only [D.py, PyData.hasDict]; exact D.pys_nd xs
  | .lst xs => by simp only [D.py, PyData.hasDict]; exact D.pys_nd xs
theorem D.pys_nd : ∀ a : List D, PyData.hasDictAll (D.pys a) = false
  | [] => rfl
  | x :: xs => by simp only [D.pys, PyData.hasDictAll]; rw [D.py_nd x, D.pys_nd xs]; rfl
end
theorem textFrom_le : ∀ (ts : List Str) (k : Nat) (acc : Str), (textFrom k acc ts).length ≤ acc.length + (ts.map fun t => t.length + 2).sum
  | [], k, acc => by show acc.length ≤ _; simp
  | t :: r, k, acc => by
    have ih := textFrom_le r (k + 1) (acc ++ (if k > 0 then ", " else "" : String) ++ t)
    have e : (acc ++ (if k > 0 then ", " else "" : String) ++ t).length = acc.length + (if k > 0 then 2 else 0) + t.length := by
      rw [strLen_append, strLen_append]
      split <;> rfl
    rw [e] at ih
    show (textFrom (k + 1) _ r).length ≤ _
    rw [List.map_cons, List.sum_cons]
    have : (if k > 0 then 2 else 0 : Nat) ≤ 2 := by split <;> omega
    omega
theorem listText_le (ts : List Str) : (listText ts).length ≤ (ts.map fun t => t.length + 2).sum + 2 := by
  unfold listText
  have h := textFrom_le ts 0 "["
  rw [strLen_append]
  have e1 : (("[" : String) : Str).length = 1 := rfl
  have e2 : (("]" : String) : Str).length = 1 := rfl
  rw [e1] at h
  rw [e2]
  omega
theorem join_le : ∀ ts : List Str, (Str.join ", " ts).length ≤ (ts.map fun t => t.length + 2).sum
  | [] => by decide
  | [x] => by show x.length ≤ _; simp
  | x :: y :: r => by
    have ih := join_le (y :: r)
    show (x ++ ", " ++ Str.join ", " (y :: r)).length ≤ _
    have e2 : ((", " : String) : Str).length = 2 := rfl
    rw [strLen_append, strLen_append, e2, List.map_cons, List.sum_cons]
    omega
theorem tupleText_le (ts : List Str) : (tupleText ts).length ≤ (ts.map fun t => t.length + 2).sum + 4 := by
  unfold tupleText
  rw [strLen_append, strLen_append]
  have e1 : ((("(" : String) : Str)).length = 1 := rfl
  have e3 : (((if ts.length == 1 then ",)" else ")" : String) : Str)).length ≤ 2 := by split <;> decide
  have h := join_le ts
  omega
mutual
theorem D.wt_ok : ∀ a : D, a.okc = true → a.shw = true → a.py.shown.length ≤ a.wt
  | .non, _, _ => by simp only [D.py, PyData.shown, D.wt]; decide
  | .bl x, _, _ => by simp only [D.py, PyData.shown, D.wt]; cases x <;> decide
  | .int i, _, h => by
    simp only [D.shw, decide_eq_true_eq] at h
    simp only [D.py, PyData.shown, D.wt]
    have e := int_text_length_le (k := 1920) (by decide) h
    rw [PySem.ofString_length]; omega
  | .str x, h, _ => by
    simp only [D.py, PyData.shown, D.wt]
    simp only [D.okc] at h
    have := PySem.StrLaws.reprText_len x (fun c hc => by
      unfold PyData.strOk at h
      have h2 := Array.all_eq_true_iff_forall_mem.mp h c (by simpa using hc)
      have h3 := of_decide_eq_true h2
      omega)
    omega
  | .tup xs, h, h' => by
    simp only [D.py, PyData.shown, D.wt]
    simp only [D.okc, D.shw] at h h'
    have := D.wts_ok xs h h'
    have := tupleText_le (PyData.shownAll (D.pys xs))
    omega
  | .lst xs, h, h' => by
    simp only [D.py, PyData.shown, D.wt]
    simp only [D.okc, D.shw] at h h'
    have := D.wts_ok xs h h'
    have := listText_le (PyData.shownAll (D.pys xs))
    omega
theorem D.wts_ok : ∀ a : List D, D.okcs a = true → D.shws a = true → ((PyData.shownAll (D.pys a)).map fun t => t.length + 2).sum ≤ D.wts a
  | [], _, _ => by simp [D.pys, PyData.shownAll, D.wts]
  | x :: xs, h, h' => by
    simp only [D.okcs, D.shws, Bool.and_eq_true] at h h'
    simp only [D.pys, PyData.shownAll, D.wts, List.map_cons, List.sum_cons]
    have := D.wt_ok x h.1 h'.1
    have := D.wts_ok xs h.2 h'.2
    omega
end
end
section
variable {X : Cx}
theorem Dp.flatref {K : PySem.W.Frag} {H : Hp} {v : V} {d : PyData} (h : Dp K H v d) {a : Addr} (e : v = .ref a) : True := trivial
/-- repr of any datum -/
theorem call_reprD {k : Nat} (hr : Room k X.A) (hg : X.A.guards = some []) : CallR X (.builtin "repr") (rF X.K .repr) := by
  intro pins s σ H vs us Q I r h
  obtain ⟨cm, S, ds, rs, hq, q⟩ := h
  cases hq with
  | nil => exact q.elim
  | cons hv hr' =>
    rename_i v vs d ds
    cases hr' with
    | cons _ _ => exact q.elim
    | nil =>
      by_cases ok : d.rpOk = true
      · simp only [bltD, if_pos ok] at q
        unfold D.rpOk at ok
        simp only [Bool.and_eq_true, decide_eq_true_eq] at ok
        obtain ⟨⟨⟨o1, o2⟩, o3⟩, o4⟩ := ok
        obtain ⟨u, rfl, ru⟩ := vals1 r
        have un := hr.un
        have hz : d.py.shown.length ≤ sizeLine := by
          have := D.wt_ok d o1 o2
          rw [← line_eq]; omega
        have fin : ∀ (h' : Heap) (t' : Tok) (tk : Nat), (∀ b o, s.heap.get? b = some o → h'.get? b = some o) → EP X pins σ Q (.str d.py.shown t') { s with heap := h', toks := tk } := fun h' t' tk hk =>
          ⟨.str _, H, I.kept hk, ⟨_, rfl⟩, q _ _ cm (mkD rs (.str _))⟩
        have fin0 : ∀ (t' : Tok) (tk : Nat), EP X pins σ Q (.str d.py.shown t') { s with toks := tk } := fun t' tk => fin s.heap t' tk fun _ _ e => e
        obtain ⟨as, rd⟩ := Dp.reads I _ _ _ hv.dp ru
        cases d with
        | non => rw [hv.non] at ru; cases ru; exact PySem.P.repr_of_none (fin0 _ _)
        | bl b => rw [hv.bl] at ru; cases ru; exact PySem.P.repr_of_bool (by have := fin0 s.toks (s.toks + 1); simp only [D.py, PyData.shown] at this; cases b <;> exact this)
        | int i =>
          rw [hv.int] at ru; obtain ⟨t, rfl⟩ := ru
          simp only [D.shw, decide_eq_true_eq] at o2
          exact PySem.P.repr_of_int o2 (fin0 _ _)
        | str x => rw [hv.str] at ru; obtain ⟨t, rfl⟩ := ru; exact PySem.P.repr_of_str (fin0 _ _) hz
        | tup xs =>
          obtain ⟨a, ws, rfl, _⟩ := hv.tup
          cases ru
          exact repr_of_reads' rd (by rw [D.py_show]; exact o2) (fun z => by rw [D.py_nd] at z; cases z) hg (by rw [D.py_dep]; omega) (fun _ _ e => e) (fun h' u tk hk => fin h' u tk hk) hz
        | lst xs =>
          obtain ⟨a, ws, rfl, _⟩ := hv.lst
          cases ru
          exact repr_of_reads' rd (by rw [D.py_show]; exact o2) (fun z => by rw [D.py_nd] at z; cases z) hg (by rw [D.py_dep]; omega) (fun _ _ e => e) (fun h' u tk hk => fin h' u tk hk) hz
      · simp only [bltD, if_neg ok] at q; exact q.elim
theorem Rqs.one {K : PySem.W.Frag} {H : Hp} {L : Addr → Prop} {vs : List V} {d : D} (h : Rqs K H L vs [d]) : ∃ v, vs = [v] ∧ Rq K H L v d := by
  cases h with
  | cons h r => cases r; exact ⟨_, rfl, h⟩
theorem Rqs.two {K : PySem.W.Frag} {H : Hp} {L : Addr → Prop} {vs : List V} {d e : D} (h : Rqs K H L vs [d, e]) : ∃ v w, vs = [v, w] ∧ Rq K H L v d ∧ Rq K H L w e := by
  cases h with
  | cons h r => cases r with
    | cons h' r => cases r; exact ⟨_, _, rfl, h, h'⟩
theorem one_of {f : Bf} {r : RX} {ds : List D} (h : bltD f ds = some r) (n : f ≠ .max2 ∧ f ≠ .min2 ∧ f ≠ .gcd ∧ f ≠ .divmod) : ∃ d, ds = [d] := by
  match ds, h with
  | [d], _ => exact ⟨d, rfl⟩
  | [], h => cases f <;> simp [bltD] at h
  | a :: b :: c, h => cases f <;> (try simp at n) <;> simp [bltD] at h
theorem call_D {k : Nat} (hr : Room k X.A) (hg : X.A.guards = some []) (hc : X.calm = true) (f : Bf) : CallR X f.val (rF X.K f) := by
  by_cases hf : f = .repr
  · subst hf; exact call_reprD hr hg
  intro pins s σ H vs us Q I r h
  obtain ⟨cm, S, ds, rs, hq, q⟩ := h
  cases e : bltD f ds with
  | none => rw [e] at q; exact q.elim
  | some res =>
    rw [e] at q
    cases f with
    | repr => exact absurd rfl hf
    | len =>
      obtain ⟨d, rfl⟩ := one_of e (by simp)
      obtain ⟨v, rfl, hv⟩ := hq.one
      cases d with
      | lst xs =>
        simp only [bltD, Option.some.injEq] at e; subst e
        obtain ⟨a, ws, rfl, ha, hva⟩ := hv.lst
        exact call_len_seq pins s σ H _ us Q I r ⟨a, ws, rfl, .inl ha.sq, by rw [hva.length]; exact q _ _ cm (mkD rs (.int _))⟩
      | tup xs =>
        simp only [bltD, Option.some.injEq] at e; subst e
        obtain ⟨a, ws, rfl, ha, hva⟩ := hv.tup
        exact call_len_seq pins s σ H _ us Q I r ⟨a, ws, rfl, .inr ha, by rw [hva.length]; exact q _ _ cm (mkD rs (.int _))⟩
      | str x =>
        have ex := hv.str; subst ex
        by_cases hz : x.length ≤ line
        · simp only [bltD, if_pos hz, Option.some.injEq] at e; subst e
          exact call_len_str pins s σ H _ us Q I r ⟨x, rfl, by rw [← line_eq]; exact hz, q _ _ cm (mkD rs (.int _))⟩
        · simp only [bltD, if_neg hz] at e; cases e
      | _ => simp [bltD] at e
    | abs =>
      obtain ⟨d, rfl⟩ := one_of e (by simp)
      obtain ⟨v, rfl, hv⟩ := hq.one
      cases d with
      | int i =>
        simp only [bltD, Option.some.injEq] at e; subst e
        have ex := hv.int; subst ex
        exact call_abs pins s σ H _ us Q I r ⟨i, rfl, q _ _ cm (mkD rs (.int _))⟩
      | _ => simp [bltD] at e
    | int =>
      obtain ⟨d, rfl⟩ := one_of e (by simp)
      obtain ⟨v, rfl, hv⟩ := hq.one
      cases d with
      | int i =>
        simp only [bltD, Option.some.injEq] at e; subst e
        have ex := hv.int; subst ex
        exact call_int1 pins s σ H _ us Q I r (.inl ⟨i, rfl, q _ _ cm (mkD rs (.int _))⟩)
      | bl i =>
        simp only [bltD, Option.some.injEq] at e; subst e
        have ex := hv.bl; subst ex
        exact call_int1 pins s σ H _ us Q I r (.inr ⟨i, rfl, q _ _ cm (mkD rs (.int _))⟩)
      | str x =>
        have ex := hv.str; subst ex
        cases hn : PySem.intText? x with
        | none => simp only [bltD, hn] at e; cases e
        | some n =>
          by_cases hz : x.length ≤ 640
          · simp only [bltD, hn, if_pos hz, Option.some.injEq] at e; subst e
            exact call_int_str pins s σ H _ us Q I r ⟨x, n, rfl, hn, hz, q _ _ cm (mkD rs (.int _))⟩
          · simp only [bltD, hn, if_neg hz] at e; cases e
      | _ => simp [bltD] at e
    | max2 =>
      match ds, e with
      | [.int i, .int j], e =>
        simp only [bltD, Option.some.injEq] at e; subst e
        obtain ⟨v, w, rfl, hv, hw⟩ := hq.two
        have ex := hv.int; have ey := hw.int; subst ex ey
        exact call_max2 hc pins s σ H _ us Q I r ⟨i, j, rfl, q _ _ cm (mkD rs (.int _))⟩
    | min2 =>
      match ds, e with
      | [.int i, .int j], e =>
        simp only [bltD, Option.some.injEq] at e; subst e
        obtain ⟨v, w, rfl, hv, hw⟩ := hq.two
        have ex := hv.int; have ey := hw.int; subst ex ey
        exact call_min2 hc pins s σ H _ us Q I r ⟨i, j, rfl, q _ _ cm (mkD rs (.int _))⟩
    | gcd =>
      match ds, e with
      | [.int i, .int j], e =>
        simp only [bltD, Option.some.injEq] at e; subst e
        obtain ⟨v, w, rfl, hv, hw⟩ := hq.two
        have ex := hv.int; have ey := hw.int; subst ex ey
        exact cr_gcd pins s σ H _ us Q I r ⟨i, j, rfl, q _ _ cm (mkD rs (.int _))⟩
    | divmod =>
      match ds, e with
      | [.int i, .int j], e =>
        obtain ⟨v, w, rfl, hv, hw⟩ := hq.two
        have ex := hv.int; have ey := hw.int; subst ex ey
        by_cases hz : 0 < j ∧ j < 1073741824
        · simp only [bltD, if_pos hz, Option.some.injEq] at e; subst e
          exact call_divmod pins s σ H _ us Q I r ⟨i, j, rfl, hz, fun p hp => q _ _ cm (mkT rs hp (.cons (.int _) (.cons (.int _) .nil)))⟩
        · simp only [bltD, if_neg hz] at e; cases e
    | maxL =>
      obtain ⟨d, rfl⟩ := one_of e (by simp)
      obtain ⟨v, rfl, hv⟩ := hq.one
      cases d with
      | lst xs =>
        obtain ⟨a, ws, rfl, ha, hva⟩ := hv.lst
        cases hn : intsOf xs with
        | none => simp only [bltD, hn] at e; cases e
        | some ns => cases ns with
          | nil => simp only [bltD, hn] at e; cases e
          | cons n ns =>
            simp only [bltD, hn, Option.some.injEq] at e; subst e
            have f1 := ints_rps hva hn; subst f1
            exact cr_max hc pins s σ H _ us Q I r ⟨a, n :: ns, rfl, ha.sq, by simp, fun m h1 h2 => by rw [maxI_is h1 h2]; exact q _ _ cm (mkD rs (.int _))⟩
      | _ => simp [bltD] at e
    | minL =>
      obtain ⟨d, rfl⟩ := one_of e (by simp)
      obtain ⟨v, rfl, hv⟩ := hq.one
      cases d with
      | lst xs =>
        obtain ⟨a, ws, rfl, ha, hva⟩ := hv.lst
        cases hn : intsOf xs with
        | none => simp only [bltD, hn] at e; cases e
        | some ns => cases ns with
          | nil => simp only [bltD, hn] at e; cases e
          | cons n ns =>
            simp only [bltD, hn, Option.some.injEq] at e; subst e
            have f1 := ints_rps hva hn; subst f1
            exact cr_min hc pins s σ H _ us Q I r ⟨a, n :: ns, rfl, ha.sq, by simp, fun m h1 h2 => by rw [minI_is h1 h2]; exact q _ _ cm (mkD rs (.int _))⟩
      | _ => simp [bltD] at e
    | sum =>
      obtain ⟨d, rfl⟩ := one_of e (by simp)
      obtain ⟨v, rfl, hv⟩ := hq.one
      cases d with
      | lst xs =>
        obtain ⟨a, ws, rfl, ha, hva⟩ := hv.lst
        simp only [bltD, Option.map_eq_some_iff] at e
        obtain ⟨ns, hn, rfl⟩ := e
        have f1 := ints_rps hva hn; subst f1
        exact cr_sum hc pins s σ H _ us Q I r ⟨a, ns, rfl, ha.sq, q _ _ cm (mkD rs (.int _))⟩
      | _ => simp [bltD] at e
    | all =>
      obtain ⟨d, rfl⟩ := one_of e (by simp)
      obtain ⟨v, rfl, hv⟩ := hq.one
      cases d with
      | lst xs =>
        obtain ⟨a, ws, rfl, ha, hva⟩ := hv.lst
        simp only [bltD, Option.map_eq_some_iff] at e
        obtain ⟨ns, hn, rfl⟩ := e
        have f1 := bls_rps hva hn; subst f1
        exact cr_all hc pins s σ H _ us Q I r ⟨a, ns, rfl, ha.sq, q _ _ cm (mkD rs (.bl _))⟩
      | _ => simp [bltD] at e
    | any =>
      obtain ⟨d, rfl⟩ := one_of e (by simp)
      obtain ⟨v, rfl, hv⟩ := hq.one
      cases d with
      | lst xs =>
        obtain ⟨a, ws, rfl, ha, hva⟩ := hv.lst
        simp only [bltD, Option.map_eq_some_iff] at e
        obtain ⟨ns, hn, rfl⟩ := e
        have f1 := bls_rps hva hn; subst f1
        exact cr_any hc pins s σ H _ us Q I r ⟨a, ns, rfl, ha.sq, q _ _ cm (mkD rs (.bl _))⟩
      | _ => simp [bltD] at e
    | tuple =>
      obtain ⟨d, rfl⟩ := one_of e (by simp)
      obtain ⟨v, rfl, hv⟩ := hq.one
      cases d with
      | lst xs =>
        simp only [bltD, Option.some.injEq] at e; subst e
        obtain ⟨a, ws, rfl, ha, hva⟩ := hv.lst
        exact call_tuple_of pins s σ H _ us Q I r ⟨a, ws, rfl, .inl ⟨ha.sq, fun p hp => q _ _ cm (mkT rs hp hva)⟩⟩
      | tup xs =>
        simp only [bltD, Option.some.injEq] at e; subst e
        obtain ⟨a, ws, rfl, ha, hva⟩ := hv.tup
        exact call_tuple_of pins s σ H _ us Q I r ⟨a, ws, rfl, .inr ⟨ha, q _ _ cm (mkD rs (.tup ha hva))⟩⟩
      | _ => simp [bltD] at e
    | list =>
      obtain ⟨d, rfl⟩ := one_of e (by simp)
      obtain ⟨v, rfl, hv⟩ := hq.one
      cases d with
      | lst xs =>
        simp only [bltD, Option.some.injEq] at e; subst e
        obtain ⟨a, ws, rfl, ha, hva⟩ := hv.lst
        exact call_list_of pins s σ H _ us Q I r ⟨a, ws, rfl, .inl ha.sq, fun p hp => q _ _ cm (mkF rs hp hva)⟩
      | tup xs =>
        simp only [bltD, Option.some.injEq] at e; subst e
        obtain ⟨a, ws, rfl, ha, hva⟩ := hv.tup
        exact call_list_of pins s σ H _ us Q I r ⟨a, ws, rfl, .inr ha, fun p hp => q _ _ cm (mkF rs hp hva)⟩
      | _ => simp [bltD] at e
    | sorted =>
      obtain ⟨d, rfl⟩ := one_of e (by simp)
      obtain ⟨v, rfl, hv⟩ := hq.one
      cases d with
      | lst xs =>
        obtain ⟨a, ws, rfl, ha, hva⟩ := hv.lst
        cases hn : intsOf xs with
        | none => simp only [bltD, hn] at e; cases e
        | some ns =>
          simp only [bltD, hn, Option.some.injEq] at e; subst e
          have f1 := ints_rps hva hn; subst f1
          exact cr_sortedI pins s σ H _ us Q I r ⟨a, ns, rfl, ha.sq, fun ns' p h1 h2 hp => by rw [sortI_is h1 h2]; exact q _ _ cm (mkF rs hp (rps_ints _ _ _ _))⟩
      | _ => simp [bltD] at e
    | str =>
      obtain ⟨d, rfl⟩ := one_of e (by simp)
      obtain ⟨v, rfl, hv⟩ := hq.one
      cases d with
      | int i =>
        have ex := hv.int; subst ex
        by_cases hz : i.natAbs.log2 < 1920
        · simp only [bltD, if_pos hz, Option.some.injEq] at e; subst e
          exact call_str_int pins s σ H _ us Q I r ⟨i, rfl, hz, q _ _ cm (mkD rs (.str _))⟩
        · simp only [bltD, if_neg hz] at e; cases e
      | _ => simp [bltD] at e
end
end Rf

set_option Elab.async false
set_option linter.all false
set_option maxRecDepth 100000
set_option maxHeartbeats 1000000
namespace Rf
open PySem PySem.Spec PyProof.Rows L2

theorem PE.imp {X : Cx} {e : Expr} {t t' : TE} (h : PE X e t) (w : ∀ σ H Q, t' σ H Q → t σ H Q) : PE X e t' := ⟨fun pins s σ H Q I q => h.run pins s σ H Q I (w σ H Q q)⟩
theorem PT.imp {X : Cx} {e : Expr} {t t' : TT} (h : PT X e t) (w : ∀ σ H Q, t' σ H Q → t σ H Q) : PT X e t' := ⟨fun pins s σ H Q I q => h.run pins s σ H Q I (w σ H Q q)⟩
theorem PW.imp {X : Cx} {e : Expr} {t t' : TT} (h : PW X e t) (w : ∀ σ H Q, t' σ H Q → t σ H Q) : PW X e t' := ⟨fun wh pins s σ H Q I q => h.run wh pins s σ H Q I (w σ H Q q)⟩
theorem PA.imp {X : Cx} {es : List Expr} {t t' : L2.TA} (h : PA X es t) (w : ∀ σ H Q, t' σ H Q → t σ H Q) : PA X es t' := ⟨fun pos pins s σ H Q I q => h.run pos pins s σ H Q I (w σ H Q q)⟩
theorem PS.imp {X : Cx} {st : Stmt} {t t' : TS} (h : PS X st t) (w : ∀ D σ H, t' D σ H → t D σ H) : PS X st t' := ⟨fun pins s σ H D I q => h.run pins s σ H D I (w D σ H q)⟩
theorem PSs.imp {X : Cx} {st : List Stmt} {t t' : TS} (h : PSs X st t) (w : ∀ D σ H, t' D σ H → t D σ H) : PSs X st t' := ⟨fun pins s σ H D I q => h.run pins s σ H D I (w D σ H q)⟩
theorem PI.imp {X : Cx} {tg e : Expr} {t t' : TI} (h : PI X tg e t) (w : ∀ σ H R, t' σ H R → t σ H R) : PI X tg e t' := ⟨fun pins s σ H R I q => h.run pins s σ H R I (w σ H R q)⟩
theorem PG.imp {X : Cx} {tg : Expr} {t t' : TG} (h : PG X tg t) (w : ∀ v σ H Q, t' v σ H Q → t v σ H Q) : PG X tg t' := ⟨fun pins s σ H v u Q I r q => h.run pins s σ H v u Q I r (w v σ H Q q)⟩

/-! ### a def's promise, where no repr runs -/
structure FnG (P : Program) (w : World) (K : PySem.W.Frag) (mg : Mg) (base : Heap) (CX : CXT) (k : Nat) (f : Addr) (fd : FuncData) (ps : List Str) (sp : Sp) : Prop where
  len : ∀ vs H Q E, sp vs H Q E → vs.length = ps.length
  run : ∀ (A : Around) (outer : List PySem.Env) (s : Shared) (H : Hp) (args : Args) (us : List Value) (vs : List V) (Q : VK) (E : XK), A.guards = some [] → Room k A → Env0 P w K mg base A outer s H → BindsTo s fd args (ps.zip us) → Vals vs us → sp vs H Q E →
    codeAny (model P w) A (.call (.ref f) args) (CR CX outer P w H s Q E) s
theorem FnG.mono {P : Program} {w : World} {K : PySem.W.Frag} {mg : Mg} {base : Heap} {CX : CXT} {j k : Nat} {f : Addr} {fd : FuncData} {ps : List Str} {sp : Sp} (F : FnG P w K mg base CX j f fd ps sp) (h : j ≤ k) : FnG P w K mg base CX k f fd ps sp :=
  ⟨F.len, fun A outer s H args us vs Q E g hr => F.run A outer s H args us vs Q E g (hr.mono h)⟩
/-- mirror's promise -/
def spOf (K : PySem.W.Frag) (mg : Mg) (n : Nat) (m : Mir) : Sp := fun vs H Q E => ∃ rvs cm S, vs.length = n ∧ SR K H cm S ∧ VsOk K H cm S vs rvs ∧ okG K mg E (PX K) Q H cm S (m rvs S)
theorem fnG_of {P : Program} {w : World} {K : PySem.W.Frag} {mg : Mg} {base : Heap} {CX : CXT} {k : Nat} {x qual : Str} {st : Stmt} {f : Addr} {fd : FuncData} {N ps : List Str} {sp : Sp} (F : Fun K x qual st f fd) (S : FnScope N ps (defScope st)) (len : ∀ vs H Q E, sp vs H Q E → vs.length = ps.length)
    (body : ∀ (cdv : Value) (A : Around) (outer : List PySem.Env) (s : Shared) (H : Hp) (vs : List V) (Q : VK) (E : XK), A.guards = some [] → Room k (A.deeper (envOfC qual (defScope st) s.heap.objs.size f cdv)) → sp vs H Q E →
      ∃ t, PSs (cxOf CX P w K mg base N qual (defScope st) f cdv A outer s H E) (defBody st) t ∧ t { nx := fun _ H' => Q .non H', rt := Q } (start N vs) H) : FnG P w K mg base CX (k + 1) f fd ps sp := by
  obtain ⟨oc, od, kV, doc, pm, an, cdv, ct, osl, rfl, lk, hcd⟩ := F.ex
  refine ⟨len, fun A outer s H args us vs Q E g hr e0 hb r hsp => ?_⟩
  have h1 := len _ _ _ _ hsp
  have inK : K.In s.heap := e0.mod.kin.keeps fun b o e => (e0.bs b o e).1
  have lim : s.heap.NoLimit := e0.mod.nolimit.keeps fun b o e => (e0.bs b o e).1
  have kinds : ∀ y ∈ ps.zip us, (defScope st).names.lookup y.1 = some .local ∨ ((defScope st).names.lookup y.1 = some .cell ∧ ((cellsFrom (s.heap.objs.size + 1) (defScope st).names []).lookup y.1).isSome = true) := fun y hy => by
    obtain ⟨n, v⟩ := y
    rcases S.par n (List.of_mem_zip hy).1 with q | q
    · exact .inl q
    · exact .inr ⟨q, PySem.W.cellsFrom_some _ _ _ (.inl q)⟩
  refine codeAny_call_function hr.depth (inK _ _ lk) rfl S.co S.gen rfl (PySem.W.codeRec_of inK hcd) (hb _ _ _ _ ?_)
  refine wpAny_newFunctionEnv_cells S.kind kinds fun env he s1 x => ?_
  subst he
  refine ⟨lim.keeps x.toInCall.keep, codeAny_func ?_⟩
  obtain ⟨t, ht, hq⟩ := body cdv A outer s H vs Q E g (hr.deeper _) hsp
  have I : Inv (cxOf CX P w K mg base N qual (defScope st) f cdv A outer s H E) [] (start N vs) H s1 := inv_start S hr.hd e0 h1 r x
  refine wpAny_mono (ht.run [] s1 (start N vs) H _ I hq) (fun fl s' hs => ?_) fun e s' hs => hs
  cases fl with
  | ret u =>
    obtain ⟨v, σ', H', J, rv, q⟩ := hs
    exact ⟨v, H', J.os, J.bare, J.base, J.hok, rv, q⟩
  | next =>
    obtain ⟨σ', H', J, q⟩ := hs
    exact ⟨V.non, H', J.os, J.bare, J.base, J.hok, rfl, q⟩
  | brk => obtain ⟨_, _, _, q⟩ := hs; exact q.elim
  | cont => obtain ⟨_, _, _, q⟩ := hs; exact q.elim

/-! ### calls -/
section
variable {X : Cx} {CX : CXT} {k : Nat} {f : Addr} {fd : FuncData} {ps : List Str} {sp : Sp} {E : XK} {x : Str} {p pos : Pos}
theorem run_fnG {pins : List (Addr × Obj)} {σ : L2.St} {H : Hp} {s : Shared} {Q : VK} {args : Args} {us : List Value} {vs : List V} (F : FnG X.prog X.w X.K X.mg X.base CX k f fd ps sp) (g : X.A.guards = some []) (hr : Room k X.A) (hx : Passes CX X E)
    (I : Inv X pins σ H s) (hb : us.length = ps.length → BindsTo s fd args (ps.zip us)) (r : Vals vs us) (h : sp vs H Q E) : wpAny (model X.prog X.w) X.A (call (.ref f) args.pos args.kw) (EP X pins σ Q) X.xe s := by
  have hl : us.length = ps.length := by rw [← r.length]; exact F.len _ _ _ _ h
  refine wpAny_call (codeAny_mono (F.run X.A X.stack s H args us vs Q E g hr I.env0 (hb hl) r h) fun r s' hq => ?_)
  cases r with
  | error e => exact hx pins σ H s e s' I hq
  | ok fl =>
    cases fl with
    | ret u => exact I.after hq
    | next => exact False.elim hq
    | brk => exact False.elim hq
    | cont => exact False.elim hq
/-- the arguments are plain -/
def plainE : Expr → Bool
  | .Starred .. => false
  | _ => true
theorem star_cons {e : Expr} {es : List Expr} {env : PySem.Env} (h : plainE e = true) : starEach (e :: es) env = (false, eval e env) :: starEach es env := by
  cases e <;> first | rfl | (simp [plainE] at h)
theorem star_any {env : PySem.Env} {pos : Pos} : ∀ {es : List Expr}, es.all plainE = true → (backTo pos (starEach es env)).any (·.1) = false
  | [], _ => rfl
  | e :: es, h => by
    rw [List.all_cons, Bool.and_eq_true] at h
    rw [star_cons h.1]
    have ih := star_any (pos := pos) (env := env) h.2
    show (false || (backTo pos (starEach es env)).any (·.1)) = false
    rw [ih]; rfl
theorem pe_callG0 (F : FnG X.prog X.w X.K X.mg X.base CX k f fd ps sp) (g : X.A.guards = some []) (hr : Room k X.A) (hx : Passes CX X E) (hg : Gl X x) (hm : X.mg x = some (.ref f)) (hk : PySem.W.keepIn X.K (.ref f) = true) (hdb : (x == ("__debug__" : Str)) = false)
    (hb : ∀ us : List Value, us.length = ps.length → bindArgs fd ⟨us, []⟩ = pure (ps.zip us)) : PE X (.Call (.Name x p) [] [] pos) (fun σ H Q => sp [] H Q E) := by
  refine ⟨fun pins s σ H Q I h => ?_⟩
  refine wpAny_Call_Name_kw (ld_glob I hg hm ?_ hdb)
  exact PySem.W.callWith_K0 I.kIn hk (run_fnG (args := ⟨[], []⟩) F g hr hx I (fun hl => .of_eq (hb [] hl)) .nil h)
theorem pe_callG {e : Expr} {es : List Expr} {t : L2.TA} (F : FnG X.prog X.w X.K X.mg X.base CX k f fd ps sp) (g : X.A.guards = some []) (hr : Room k X.A) (hx : Passes CX X E) (hg : Gl X x) (hm : X.mg x = some (.ref f)) (hk : PySem.W.keepIn X.K (.ref f) = true) (hdb : (x == ("__debug__" : Str)) = false)
    (hb : ∀ us : List Value, us.length = ps.length → bindArgs fd ⟨us, []⟩ = pure (ps.zip us)) (ha : PA X (e :: es) t) (hp : (e :: es).all plainE = true) : PE X (.Call (.Name x p) (e :: es) [] pos) (fun σ H Q => t σ H fun vs H1 => sp vs H1 Q E) := by
  refine ⟨fun pins s σ H Q I h => ?_⟩
  refine wpAny_Call_Name_kw (ld_glob I hg hm ?_ hdb)
  rw [List.all_cons, Bool.and_eq_true] at hp
  refine PySem.W.callWith_K (h₀ := X.base) I.ok.mod.kin hk (thn (ha.run pos pins s σ H _ I h) fun us s1 ⟨vs, H1, I1, r, q⟩ => ⟨I1.kIn, ?_⟩) (star_cons hp.1) (star_any hp.2)
  exact run_fnG (args := ⟨us, []⟩) F g hr hx I1 (fun hl => .of_eq (hb us hl)) r q
/-! keywords -/
theorem kw_all {env : PySem.Env} {pos : Pos} : ∀ {kws : List Keyword}, kws.all (·.arg.isSome) = true → (backToKw pos (keywordEach kws env)).all (·.1.isSome) = true
  | [], _ => rfl
  | ⟨n, e, p⟩ :: kws, h => by
    rw [List.all_cons, Bool.and_eq_true] at h
    have ih := kw_all (pos := pos) (env := env) h.2
    show (n.isSome && (backToKw pos (keywordEach kws env)).all (·.1.isSome)) = true
    rw [ih, h.1]; rfl
theorem kw_any {env : PySem.Env} {pos : Pos} : ∀ {kws : List Keyword}, kws.all (·.arg.isSome) = true → (backToKw pos (keywordEach kws env)).any (·.1.isNone) = false
  | [], _ => rfl
  | ⟨n, e, p⟩ :: kws, h => by
    rw [List.all_cons, Bool.and_eq_true] at h
    have ih := kw_any (pos := pos) (env := env) h.2
    show (n.isNone || (backToKw pos (keywordEach kws env)).any (·.1.isNone)) = false
    rw [ih]
    cases n with
    | none => simp at h
    | some n => rfl
theorem kw_names {env : PySem.Env} {pos : Pos} : ∀ {kws : List Keyword}, (backToKw pos (keywordEach kws env)).filterMap (·.1) = kws.filterMap (·.arg)
  | [] => rfl
  | ⟨n, e, p⟩ :: kws => by
    have ih := kw_names (pos := pos) (env := env) (kws := kws)
    cases n with
    | none => exact ih
    | some n => exact congrArg (n :: ·) ih
/-- how keywords bind: the i-th parameter is what stands at perm's i-th place among the arguments as they are written -/
def KwOk (fd : FuncData) (ps : List Str) (np : Nat) (ks : List Str) (perm : List Nat) : Prop :=
  ∀ us ws : List Value, us.length = np → ws.length = ks.length → ∃ zs, perm.mapM (fun i => (us ++ ws)[i]?) = some zs ∧ bindArgs fd ⟨us, ks.zip ws⟩ = pure (ps.zip zs)
theorem perm_vals {xs : List V} {us : List Value} (r : Vals xs us) : ∀ {perm : List Nat} {zs : List Value}, perm.mapM (fun i => us[i]?) = some zs → ∃ ys, perm.mapM (fun i => xs[i]?) = some ys ∧ Vals ys zs
  | [], zs, e => by simp at e; subst e; exact ⟨[], rfl, .nil⟩
  | i :: perm, zs, e => by
    rw [List.mapM_cons] at e
    simp only [Option.pure_def, Option.bind_eq_bind, Option.bind_eq_some_iff, Option.some.injEq] at e
    obtain ⟨u, e1, zs', e2, rfl⟩ := e
    obtain ⟨ys, h1, h2⟩ := perm_vals r e2
    cases q : xs[i]? with
    | none => rw [r.none_of q] at e1; cases e1
    | some x =>
      obtain ⟨u', h3, h4⟩ := r.get q
      rw [e1] at h3; cases h3
      refine ⟨x :: ys, ?_, .cons h4 h2⟩
      rw [List.mapM_cons, q, h1]; rfl
def tKw (perm : List Nat) (sp : Sp) (E : XK) (vs : List V) (H : Hp) (Q : VK) : Prop := ∃ ys, perm.mapM (fun i => vs[i]?) = some ys ∧ sp ys H Q E
theorem pe_callKG {e : Expr} {es : List Expr} {kws : List Keyword} {perm : List Nat} {t tk : L2.TA} (F : FnG X.prog X.w X.K X.mg X.base CX k f fd ps sp) (g : X.A.guards = some []) (hr : Room k X.A) (hx : Passes CX X E) (hg : Gl X x) (hm : X.mg x = some (.ref f)) (hk : PySem.W.keepIn X.K (.ref f) = true) (hdb : (x == ("__debug__" : Str)) = false)
    (hb : KwOk fd ps (e :: es).length (kws.filterMap (·.arg)) perm) (ha : PA X (e :: es) t) (hkw : PK X kws tk) (hp : (e :: es).all plainE = true) (hn : kws.all (·.arg.isSome) = true)
    (hl1 : ∀ σ H Q, t σ H Q → t σ H fun vs H1 => vs.length = (e :: es).length ∧ Q vs H1) (hl2 : ∀ σ H Q, tk σ H Q → tk σ H fun vs H1 => vs.length = (kws.filterMap (·.arg)).length ∧ Q vs H1) :
    PE X (.Call (.Name x p) (e :: es) kws pos) (fun σ H Q => t σ H fun vs H1 => tk σ H1 fun zs H2 => tKw perm sp E (vs ++ zs) H2 Q) := by
  refine ⟨fun pins s σ H Q I h => ?_⟩
  refine wpAny_Call_Name_kw (ld_glob I hg hm ?_ hdb)
  have hp' := hp
  rw [List.all_cons, Bool.and_eq_true] at hp'
  refine PySem.W.callWith_KW (h₀ := X.base) I.ok.mod.kin hk (kw_all hn) (thn (ha.run pos pins s σ H _ I (hl1 _ _ _ h)) fun us s1 ⟨vs, H1, I1, r, lv, q⟩ => ?_) (by rw [star_any hp, kw_any hn]; rfl) (star_cons hp'.1)
  refine thn (hkw.run pos pins s1 σ H1 _ I1 (hl2 _ _ _ q)) fun ws s2 ⟨zs, H2, I2, rz, lz, ys, e1, q2⟩ => ⟨I2.kIn, ?_⟩
  rw [kw_names]
  obtain ⟨zs', h1, h2⟩ := hb us ws (by rw [← r.length]; exact lv) (by rw [← rz.length]; exact lz)
  obtain ⟨ys', h3, h4⟩ := perm_vals (r.append rz) h1
  rw [e1] at h3; cases h3
  exact run_fnG (args := ⟨us, (kws.filterMap (·.arg)).zip ws⟩) F g hr hx I2 (fun _ => .of_eq h2) h4 q2
theorem pe_callKG0 {kws : List Keyword} {perm : List Nat} {tk : L2.TA} (F : FnG X.prog X.w X.K X.mg X.base CX k f fd ps sp) (g : X.A.guards = some []) (hr : Room k X.A) (hx : Passes CX X E) (hg : Gl X x) (hm : X.mg x = some (.ref f)) (hk : PySem.W.keepIn X.K (.ref f) = true) (hdb : (x == ("__debug__" : Str)) = false)
    (hb : KwOk fd ps 0 (kws.filterMap (·.arg)) perm) (hkw : PK X kws tk) (hn : kws.all (·.arg.isSome) = true)
    (hl2 : ∀ σ H Q, tk σ H Q → tk σ H fun vs H1 => vs.length = (kws.filterMap (·.arg)).length ∧ Q vs H1) :
    PE X (.Call (.Name x p) [] kws pos) (fun σ H Q => tk σ H fun zs H2 => tKw perm sp E zs H2 Q) := by
  refine ⟨fun pins s σ H Q I h => ?_⟩
  refine wpAny_Call_Name_kw (ld_glob I hg hm ?_ hdb)
  refine PySem.W.callWith_KW0 (h₀ := X.base) I.ok.mod.kin hk (kw_all hn) (thn (hkw.run pos pins s σ H _ I (hl2 _ _ _ h)) fun ws s2 ⟨zs, H2, I2, rz, lz, ys, e1, q2⟩ => ⟨I2.kIn, ?_⟩) (by rw [kw_any hn]; rfl)
  rw [kw_names]
  obtain ⟨zs', h1, h2⟩ := hb [] ws rfl (by rw [← rz.length]; exact lz)
  obtain ⟨ys', h3, h4⟩ := perm_vals rz h1
  rw [e1] at h3; cases h3
  exact run_fnG (args := ⟨[], (kws.filterMap (·.arg)).zip ws⟩) F g hr hx I2 (fun _ => .of_eq h2) h4 q2
end
end Rf

set_option Elab.async false
set_option linter.all false
set_option maxRecDepth 100000
set_option maxHeartbeats 1000000
namespace Rf
open PySem PySem.Spec PyProof.Rows L2

/-! ### the text is of the small language's form -/
structure Ct where
  N : List Str
  sc : Scope
  fns : List (Str × List Str)
  kws : List (List (Nat × List Str × List Nat))
  cons : List Str
  gcd : Bool
  /-- names whose cells were made here -/
  fn : Str → Bool
def Ct.vis (c : Ct) (x : Str) : Bool := match c.sc.names.lookup x with
  | some .local | some .cell | some .free => true
  | _ => false
def Ct.loc (c : Ct) (x : Str) : Bool := match c.sc.names.lookup x with
  | some .local => true
  | some .cell => c.fn x
  | _ => false
def Ct.glb (c : Ct) (x : Str) : Bool := decide (c.sc.names.lookup x = some .globalImplicit)
def dbg : Str := "__debug__"
def cld : Str := "__classdict__"
def Ct.slot (c : Ct) (i : Nat) (x : Str) : Bool := decide (c.N[i]? = some x)
def chkK : Const → D → Bool
  | .none, .non => true
  | .bool a, .bl b => a == b
  | .int a, .int b => decide (a = b)
  | .str a, .str b => decide (a = b)
  | _, _ => false
def Bf.nm : Bf → Str
  | .len => "len"
  | .abs => "abs"
  | .int => "int"
  | .max2 => "max"
  | .min2 => "min"
  | .maxL => "max"
  | .minL => "min"
  | .sum => "sum"
  | .all => "all"
  | .any => "any"
  | .tuple => "tuple"
  | .list => "list"
  | .repr => "repr"
  | .gcd => "gcd"
  | .divmod => "divmod"
  | .sorted => "sorted"
  | .str => "str"
def Ty.nm : Ty → Str
  | .int => "int"
  | .bool => "bool"
  | .str => "str"
  | .list => "list"
  | .tuple => "tuple"
def Mf.nm : Mf → Str
  | .split => "split"
  | .join => "join"
  | .index => "index"
  | .count => "count"
def bltNames : List Str := ["len", "abs", "int", "max", "min", "sum", "all", "any", "tuple", "list", "repr", "divmod", "sorted", "str", "bool", "isinstance", "range", "enumerate", "zip"]
def Es.isRd : Es → Bool
  | .nil => true
  | .cons .rd _ es => es.isRd
  | .cons _ _ _ => false
def Es.isDat : Es → Bool
  | .nil => true
  | .cons .dat _ es => es.isDat
  | .cons _ _ _ => false
def Es.len : Es → Nat
  | .nil => 0
  | .cons _ _ es => es.len + 1
def notSl : Expr → Bool
  | .Slice .. => false
  | _ => true
def notCall : Expr → Bool
  | .Call .. => false
  | _ => true
def notSet : Expr → Bool
  | .Set .. => false
  | _ => true
def chkTy (c : Ct) : Expr → Ty → Bool
  | .Name x _, t => decide (x = t.nm) && c.glb x
  | _, _ => false
def chkTys (c : Ct) : List Expr → List Ty → Bool
  | [], [] => true
  | e :: es, t :: ts => chkTy c e t && plainE e && chkTys c es ts
  | _, _ => false
/-- a target: names alone -/
def chkNs (c : Ct) : List Expr → List Nat → Bool
  | [], [] => true
  | .Name x _ :: es, i :: is => c.slot i x && c.loc x && chkNs c es is
  | _, _ => false
def chkTg (c : Ct) : Expr → List Nat → Bool → Bool
  | .Name x _, [i], true => c.slot i x && c.loc x
  | .Tuple es _ _, is, false => chkNs c es is
  | _, _, _ => false
def I.plain : I → Bool
  | .seq _ => true
  | .rng _ => true
  | _ => false
def isTup : Expr → Bool
  | .Tuple .. => true
  | _ => false
mutual
def chkE (c : Ct) : E → Expr → Bool
  | .var i, e => (match e with
    | .Name x _ => c.slot i x && c.vis x && decide (x ≠ dbg) && decide (x ≠ cld)
    | _ => false)
  | .lit d, e => (match e with
    | .Constant k _ _ => chkK k d
    | _ => false)
  | .con i, e => (match e with
    | .Name x _ => decide (c.cons[i]? = some x) && c.glb x && decide (x ≠ dbg)
    | _ => false)
  | .tup ms, e => (match e with
    | .Tuple es _ _ => es.all plainE && chkEs c ms es
    | _ => false)
  | .lst ms, e => (match e with
    | .List es _ => es.all plainE && chkEs c ms es
    | _ => false)
  | .bin op a b, e => (match e with
    | .BinOp x op' y _ => decide (op' = op) && chkE c a x && chkE c b y
    | _ => false)
  | .neg a, e => (match e with
    | .UnaryOp .USub x _ => chkE c a x
    | _ => false)
  | .nt a, e => (match e with
    | .UnaryOp .Not x _ => chkE c a x
    | _ => false)
  | .cmp op a b, e => (match e with
    | .Compare x [op'] [y] _ => decide (op' = op) && notSet y && chkE c a x && chkE c b y
    | _ => false)
  | .ch2 o1 o2 a b d, e => (match e with
    | .Compare x [p1, p2] [y, z] _ => decide (p1 = o1) && decide (p2 = o2) && notSet z && chkE c a x && chkE c b y && chkE c d z
    | _ => false)
  | .ch3 o1 o2 o3 a b d f, e => (match e with
    | .Compare x [p1, p2, p3] [y, z, w] _ => decide (p1 = o1) && decide (p2 = o2) && decide (p3 = o3) && notSet w && chkE c a x && chkE c b y && chkE c d z && chkE c f w
    | _ => false)
  | .and a b, e => (match e with
    | .BoolOp .And [x, y] _ => chkE c a x && chkE c b y
    | .BoolOp .And (x :: y :: z :: r) p => chkE c a x && chkE c b (.BoolOp .And (y :: z :: r) p)
    | _ => false)
  | .or a b, e => (match e with
    | .BoolOp .Or [x, y] _ => chkE c a x && chkE c b y
    | .BoolOp .Or (x :: y :: z :: r) p => chkE c a x && chkE c b (.BoolOp .Or (y :: z :: r) p)
    | _ => false)
  | .ite t a b, e => (match e with
    | .IfExp x y z _ => chkE c t x && chkE c a y && chkE c b z
    | _ => false)
  | .idx a i, e => (match e with
    | .Subscript x y _ => notSl y && chkE c a x && chkE c i y
    | _ => false)
  | .sl a lo hi, e => (match e with
    | .Subscript x (.Slice l h none _) _ => chkE c a x && chkO c lo l && chkO c hi h
    | _ => false)
  | .rev a, e => (match e with
    | .Subscript x (.Slice none none (some (.UnaryOp .USub (.Constant (.int k) _ _) _)) _) _ => decide (k = 1) && chkE c a x
    | _ => false)
  | .call f ms, e => (match e with
    | .Call (.Name x _) es [] _ => (match c.fns[f]? with | some (y, ps) => decide (x = y) && decide (ms.len = ps.length) | none => false) && c.glb x && decide (x ≠ dbg) && es.all plainE && chkEs c ms es
    | _ => false)
  | .kall f ms ns perm, e => (match e with
    | .Call (.Name x _) es kws _ => (match c.fns[f]? with | some (y, ps) => decide (x = y) && decide (perm.length = ps.length) | none => false) && c.glb x && decide (x ≠ dbg) && es.all plainE && kws.all (·.arg.isSome) && decide ((es.length, kws.filterMap (·.arg), perm) ∈ (c.kws[f]?).getD []) && chkEs c ms es && chkKw c ns kws
    | _ => false)
  | .blt f ms, e => (match e with
    | .Call (.Name x _) es [] _ => decide (x = f.nm) && c.glb x && (decide (f ≠ .gcd) || c.gcd) && !es.isEmpty && es.all plainE && chkEs c ms es
    | _ => false)
  | .mth f o ms, e => (match e with
    | .Call (.Attribute y m ap) es [] cp => decide (f = .split ∨ f = .join) && decide (m = f.nm) && (ap.endLine == cp.line) && !es.isEmpty && decide (es.length < 9) && es.all plainE && notCall y && chkE c o y && chkEs c ms es
    | _ => false)
  | .pop i, e => (match e with
    | .Call (.Attribute (.Name x _) m ap) [] [] cp => decide (m = "pop") && (ap.endLine == cp.line) && c.slot i x && c.vis x && decide (x ≠ dbg) && decide (x ≠ cld)
    | _ => false)
  | .nev, _ => true
  | .isi a ts, e => (match e with
    | .Call (.Name x _) [y, .Tuple es _ _] [] _ => decide (x = "isinstance") && c.glb x && plainE y && chkE c a y && decide (es.length ≤ 16) && chkTys c es ts
    | .Call (.Name x _) [y, t] [] _ => decide (x = "isinstance") && c.glb x && plainE y && chkE c a y && (match ts with | [u] => chkTy c t u && plainE t | _ => false)
    | _ => false)
  | .comp elt tg one it cond own, e => (match e with
    | .ListComp elt' [⟨tg', iter, ifs, 0⟩] scope _ =>
      blkC c.N c.sc scope (own.filterMap fun i => c.N[i]?.map fun x => (x, i)) && decide ((own.filterMap fun i => c.N[i]?.map fun x => (x, i)).map (·.2) = own) && tg.all (own.contains ·) &&
      chkTg { c with sc := relS scope c.sc, fn := fun x => scope.names.lookup x == some .cell } tg' tg one && notSet iter && chkI c it iter && (isTup tg' || it.plain) &&
      chkC { c with sc := relS scope c.sc, fn := fun x => scope.names.lookup x == some .cell } cond ifs && chkE { c with sc := relS scope c.sc, fn := fun x => scope.names.lookup x == some .cell } elt elt'
    | _ => false)
def chkO (c : Ct) : Eo → Option Expr → Bool
  | .no, e => e.isNone
  | .yes m, e => (match e with
    | some e => chkE c m e
    | none => false)
def chkC (c : Ct) : Eo → List Expr → Bool
  | .no, e => e.isEmpty
  | .yes m, e => (match e with
    | [e] => chkE c m e
    | _ => false)
def chkEs (c : Ct) : Es → List Expr → Bool
  | .nil, es => es.isEmpty
  | .cons _ m ms, es => (match es with
    | e :: es => chkE c m e && chkEs c ms es
    | [] => false)
def chkKw (c : Ct) : Es → List Keyword → Bool
  | .nil, es => es.isEmpty
  | .cons _ m ms, es => (match es with
    | ⟨_, e, _⟩ :: es => chkE c m e && chkKw c ms es
    | [] => false)
def chkI (c : Ct) : I → Expr → Bool
  | .seq m, e => chkE c m e
  | .rng ms, e => (match e with
    | .Call (.Name x _) es [] _ => decide (x = "range") && c.glb x && es.all plainE && decide (es.length = 1 ∨ es.length = 2) && chkEs c ms es
    | _ => false)
  | .enum m, e => (match e with
    | .Call (.Name x _) [y] [] _ => decide (x = "enumerate") && c.glb x && plainE y && chkE c m y
    | _ => false)
  | .zip m n, e => (match e with
    | .Call (.Name x _) [y, z] [] _ => decide (x = "zip") && c.glb x && plainE y && plainE z && chkE c m y && chkE c n z
    | _ => false)
end
end Rf

set_option Elab.async false
set_option linter.all false
set_option maxRecDepth 100000
set_option maxHeartbeats 1000000
namespace Rf
open PySem PySem.Spec PyProof.Rows L2

/-! ### what stands around -/
structure Top (P : Program) (w : World) (K : PySem.W.Frag) (mg : Mg) (base : Heap) (CX : CXT) (lv : Nat) (c : Ct) (G : List Mir) (C : List D) : Prop where
  fns : ∀ (i : Nat) (x : Str) (ps : List Str), c.fns[i]? = some (x, ps) → ∃ m f fd, G[i]? = some m ∧ mg x = some (.ref f) ∧ PySem.W.keepIn K (.ref f) = true ∧ (∀ us : List Value, us.length = ps.length → bindArgs fd ⟨us, []⟩ = pure (ps.zip us)) ∧
    (∀ np ks perm, (np, ks, perm) ∈ (c.kws[i]?).getD [] → KwOk fd ps np ks perm) ∧ FnG P w K mg base CX lv f fd ps (spOf K mg ps.length m)
  cons : ∀ (i : Nat) (x : Str), c.cons[i]? = some x → ∃ d v u, C[i]? = some d ∧ mg x = some u ∧ RelV v u ∧ ∀ H L, Rp K H L v d
  blt : ∀ x ∈ bltNames, mg x = none
  gcd : c.gcd = true → mg "gcd" = some (.builtin "math.gcd")
structure Gd (X : Cx) (CX : CXT) (E : XK) (lv : Nat) (c : Ct) (G : List Mir) (C : List D) : Prop where
  N : X.N = c.N
  nd : X.N.Nodup
  sc : X.env.scope = c.sc
  fn : ∀ x, c.fn x = true → X.fn x = true
  calm : X.calm = true
  room : Room lv X.A
  grd : X.A.guards = some []
  pass : Passes CX X E
  pass0 : ∀ X', Passes CX X' E0
  top : Top X.prog X.w X.K X.mg X.base CX lv c G C
section
variable {X : Cx} {CX : CXT} {E : XK} {lv : Nat} {c : Ct} {G : List Mir} {C : List D}
/-- a comprehension's block -/
theorem Gd.blk (g : Gd X CX E lv c G C) (s : Shared) (H : Hp) (scope : Scope) (C' : Addr) (cl : List (Str × Addr)) (fp : List Addr) :
    Gd (X.blk s H scope (compEnvC scope cl C' X.env) fp) CX E0 lv { c with sc := relS scope c.sc, fn := fun x => scope.names.lookup x == some .cell } G C where
  N := g.N
  nd := g.nd
  sc := by show relS scope X.env.scope = _; rw [g.sc]
  fn := fun x h => h
  calm := g.calm
  room := g.room
  grd := g.grd
  pass := g.pass0 _
  pass0 := g.pass0
  top := ⟨g.top.fns, g.top.cons, g.top.blt, g.top.gcd⟩
theorem Gd.slot (g : Gd X CX E lv c G C) {i : Nat} {x : Str} (h : c.slot i x = true) : X.N[i]? = some x := by
  rw [g.N]; exact of_decide_eq_true h
theorem Gd.vis (g : Gd X CX E lv c G C) {x : Str} (h : c.vis x = true) : Vis X.env.scope x := by
  unfold Ct.vis at h
  unfold L2.Vis
  rw [g.sc]
  split at h <;> simp_all
theorem Gd.loc (g : Gd X CX E lv c G C) {x : Str} (h : c.loc x = true) : Loc X.env.scope x ∧ (X.fn x = true ∨ X.env.scope.names.lookup x = some .local) := by
  unfold Ct.loc at h
  unfold L2.Loc
  rw [g.sc]
  split at h
  · rename_i e; exact ⟨.inl e, .inr e⟩
  · rename_i e; exact ⟨.inr e, .inl (g.fn x h)⟩
  · cases h
theorem Gd.glb (g : Gd X CX E lv c G C) {x : Str} (h : c.glb x = true) : Gl X x := by
  show X.env.scope.names.lookup x = some .globalImplicit
  rw [g.sc]; exact of_decide_eq_true h
theorem ndb {x : Str} (h : x ≠ dbg) : (x == ("__debug__" : Str)) = false := beq_eq_false_iff_ne.mpr h
theorem ncd {x : Str} (h : x ≠ cld) : (x == ("__classdict__" : Str)) = false := beq_eq_false_iff_ne.mpr h

/-! ### readings, bound together -/
variable {K : PySem.W.Frag} {mg : Mg}
theorem pe_rv {f : Rd' RX} {e : Expr} (h : PE X e (tX K mg E f)) : PE X e (tV K mg E fun ρ S => (f ρ S).rv) := by
  refine PE.imp h fun σ H Q ⟨ρ, cm, S, hs, he, q⟩ => ?_
  refine tG_bind okG.zok hs he q fun r S1 v H1 cm1 _ p z => ?_
  cases e1 : conv .rd r S1 with
  | ok x S2 =>
    rw [e1] at z
    obtain ⟨cm2, pv⟩ := p.conv hs e1
    exact z v H1 cm2 pv
  | exc x S2 => cases r <;> simp [conv] at e1
  | stuck => rw [e1] at z; exact z.elim
theorem conv_noexc {m : Md} {r : RX} {S S2 : Store} {x : Exn} : conv m r S ≠ .exc x S2 := by
  cases r with
  | d d => cases m <;> simp [conv]
  | f d => cases m <;> simp [conv]
  | c n => cases m with
    | dat =>
      cases q : S[n]? with
      | none => simp [conv, q]
      | some c => cases c <;> simp [conv, q]
    | _ => simp [conv]
theorem pe_asD {f : Rd' RX} {e : Expr} (h : PE X e (tX K mg E f)) : PE X e (tD K mg E fun ρ S => (f ρ S).bind asD) := by
  refine PE.imp h fun σ H Q ⟨ρ, cm, S, hs, he, q⟩ => ?_
  refine tG_bind okG.zok hs he q fun r S1 v H1 cm1 _ p z => ?_
  unfold asD at z
  cases e1 : conv .dat r S1 with
  | ok x S2 =>
    rw [e1] at z
    obtain ⟨cm2, pv⟩ := p.conv hs e1
    cases x with
    | d d => exact z v H1 cm2 pv
    | c n => exact z.elim
  | exc x S2 => exact absurd e1 conv_noexc
  | stuck => rw [e1] at z; exact z.elim
/-- as a truth value -/
def Res.tru (r : Res RX) : Res Bool := r.bind fun x S => match boolV x with
  | some b => .ok b S
  | none => .stuck
/-- both readings of an expression -/
structure Snd (X : Cx) (e : Expr) (K : PySem.W.Frag) (mg : Mg) (E : XK) (f : Rd' RX) : Prop where
  pe : PE X e (tX K mg E f)
  pt : PT X e (tB K mg E fun ρ S => (f ρ S).tru)
/-- what a test is otherwise -/
def plainT : Expr → Bool
  | .UnaryOp .Not _ _ => false
  | .BoolOp .. => false
  | .IfExp .. => false
  | .Compare .. => false
  | _ => true
theorem plain_tru {e : Expr} (h : plainT e = true) {env : PySem.Env} (whole : Sem Value) : isTrue e env whole = (do let v ← whole; standAt e.pos; holding [v] (truthy v)) := by
  cases e with
  | UnaryOp op _ _ => cases op <;> first | rfl | simp [plainT] at h
  | _ => first | rfl | simp [plainT] at h
theorem Snd.of {e : Expr} {f : Rd' RX} (h : PE X e (tX K mg E f)) (hp : plainT e = true) : Snd X e K mg E f := by
  refine ⟨h, PT.imp (pt_val h fun whole => plain_tru hp whole) fun σ H Q ⟨ρ, cm, S, hs, he, q⟩ => ?_⟩
  refine tG_bind okG.zok hs he q fun r S1 v H1 cm1 _ p z => ?_
  cases r with
  | d d => cases d with
    | bl b =>
      obtain ⟨t, s, rp⟩ := p
      cases rp
      exact ⟨b, rfl, z b H1 cm1 ⟨t, s, rfl⟩⟩
    | _ => exact z.elim
  | _ => exact z.elim
/-- a comparison: its value is a bool -/
theorem pt_of_pe_bool {f : Rd' Bool} {g : Rd' RX} (hg : ∀ ρ S, g ρ S = (f ρ S).bind fun b S1 => .ok (.d (.bl b)) S1) (ρ : Rf.Env) (S : Store) : (g ρ S).tru = f ρ S := by
  rw [hg]
  cases f ρ S <;> rfl
theorem rds2 {H : Hp} {cm : List Addr} {S : Store} (r : SR K H cm S) {v w : V} {x y : RV} (hv : VOk K H cm S v x) (hw : VOk K H cm S w y) {P : Prop} {β : Type} {k : D → D → Res β} {Z : Hp → List Addr → Store → Res β → Prop} (z0 : ¬ Z H cm S .stuck)
    (z : Z H cm S (match rdV S x, rdV S y with | some d, some e => k d e | _, _ => .stuck)) (h : ∀ d e, Rq K H (Lv cm S) v d → Rq K H (Lv cm S) w e → Z H cm S (k d e) → P) : P := by
  cases e1 : rdV S x with
  | none => simp only [e1] at z; exact absurd z z0
  | some d => cases e2 : rdV S y with
    | none => simp only [e1, e2] at z; exact absurd z z0
    | some e => simp only [e1, e2] at z; exact h d e (rd_ok r hv e1) (rd_ok r hw e2) z
theorem rd_inv {r : Res RX} {x : RV} {S1 : Store} (h : r.rv = .ok x S1) : True := trivial
/-- two operands -/
theorem two_ops {fa fb : Rd' RX} {ρ : Rf.Env} {σ : L2.St} {H : Hp} {cm : List Addr} {S : Store} {β : Type} {k : RV → RV → Store → Res β} {Z : Hp → List Addr → Store → Res β → Prop} (zok : Zok K mg E .exc .stuck Z) (hs : SR K H cm S) (he : ER K H cm S ρ σ)
    (h : Z H cm S ((fa ρ S).rv.bind fun x S1 => (fb ρ S1).rv.bind fun y S2 => k x y S2)) {R : V → V → Hp → Prop}
    (hk : ∀ x y S2 v w H2 cm2, Tr H cm S H2 cm2 S2 → SR K H2 cm2 S2 → VOk K H2 cm2 S2 v x → VOk K H2 cm2 S2 w y → Z H2 cm2 S2 (k x y S2) → R v w H2) :
    (tV K mg E fun ρ S => (fa ρ S).rv) σ H fun v H1 => (tV K mg E fun ρ S => (fb ρ S).rv) σ H1 fun w H2 => R v w H2 := by
  refine tG_bind (f := fun ρ S => (fa ρ S).rv) zok hs he h fun x S1 v H1 cm1 _ p z => ?_
  obtain ⟨t1, s1, v1⟩ := p
  refine tG_bind (f := fun ρ S => (fb ρ S).rv) zok s1 (he.mono t1 hs) (zok.step t1 z) fun y S2 w H2 cm2 _ p2 z2 => ?_
  obtain ⟨t2, s2, v2⟩ := p2
  exact hk x y S2 v w H2 cm2 (t1.trans t2) s2 (v1.mono t2 s1) v2 (zok.step t2 z2)
end
end Rf

set_option Elab.async false
set_option linter.all false
set_option maxRecDepth 100000
set_option maxHeartbeats 1000000
namespace Rf
open PySem PySem.Spec PyProof.Rows L2
theorem tru_bind {α : Type} {r : Res α} {k : α → Store → Res RX} : (r.bind k).tru = r.bind fun a S => (k a S).tru := by cases r <;> rfl
theorem bind_bind {α β γ : Type} {r : Res α} {k : α → Store → Res β} {l : β → Store → Res γ} : (r.bind k).bind l = r.bind fun a S => (k a S).bind l := by cases r <;> rfl
section
variable {X : Cx} {CX : CXT} {E : XK} {lv : Nat} {c : Ct} {G : List Mir} {C : List D} {a b d e : Expr} {fa fb fc fd : Rd' RX} {pos : Pos}
theorem sn_bin {op : Operator} (ha : PE X a (tX X.K X.mg E fa)) (hb : PE X b (tX X.K X.mg E fb)) : PE X (.BinOp a op b pos) (tX X.K X.mg E fun ρ S => (fa ρ S).rv.bind fun x S1 => (fb ρ S1).rv.bind fun y S2 => match rdV S2 x, rdV S2 y with
    | some d, some e => ofOpt (binD op d e) S2
    | _, _ => .stuck) :=
  PE.imp (pe_op (op_bin op) (pe_rv ha) (pe_rv hb)) fun σ H Q ⟨ρ, cm, S, hs, he, q⟩ => two_ops okG.zok hs he q fun x y S2 v w H2 cm2 t s vx vy z => rds2 s vx vy okG.zok.st z fun d e rd re z => ⟨cm2, S2, d, e, s, rd, re, by
    cases h : binD op d e with
    | none => rw [h] at z; exact z
    | some r => rw [h] at z; exact z⟩
theorem sn_neg (ha : PE X a (tX X.K X.mg E fa)) : PE X (.UnaryOp .USub a pos) (tX X.K X.mg E fun ρ S => (fa ρ S).rv.bind fun x S1 => match x with
    | .d (.int i) => .ok (.d (.int (-i))) S1
    | _ => .stuck) :=
  PE.imp (pe_un un_neg (pe_rv ha)) fun σ H Q ⟨ρ, cm, S, hs, he, q⟩ => tG_bind (f := fun ρ S => (fa ρ S).rv) okG.zok hs he q fun x S1 v H1 cm1 _ p z => by
    obtain ⟨t, s, vx⟩ := p
    cases x with
    | c n => exact z.elim
    | d d => cases d with
      | int i => cases vx; exact ⟨i, rfl, z _ H1 cm1 ⟨t, s, .int _⟩⟩
      | _ => exact z.elim
def fNt (fa : Rd' RX) : Rd' RX := fun ρ S => (fa ρ S).bind fun x S1 => match boolV x with
    | some b => .ok (.d (.bl (!b))) S1
    | none => .stuck
theorem sn_nt (ha : Snd X a X.K X.mg E fa) : Snd X (.UnaryOp .Not a pos) X.K X.mg E (fNt fa) := by
  constructor
  · refine PE.imp (pe_not ha.pe) fun σ H Q ⟨ρ, cm, S, hs, he, q⟩ => tG_bind okG.zok hs he q fun x S1 v H1 cm1 _ p z => ?_
    cases x with
    | d d => cases d with
      | bl b =>
        obtain ⟨t, s, vx⟩ := p
        cases vx
        exact ⟨b, rfl, z _ H1 cm1 ⟨t, s, .bl _⟩⟩
      | _ => exact z.elim
    | _ => exact z.elim
  · refine PT.imp (pt_not ha.pt) fun σ H Q ⟨ρ, cm, S, hs, he, q⟩ => ?_
    have e1 : (fNt fa ρ S).tru = (fa ρ S).tru.bind fun b S1 => .ok (!b) S1 := by
      unfold fNt Res.tru
      rw [bind_bind, bind_bind]
      congr 1
      funext x S1
      cases boolV x <;> rfl
    dsimp only at q
    rw [e1] at q
    exact tG_bind (f := fun ρ S => (fa ρ S).tru) okG.zok hs he q fun b S1 b' H1 cm1 _ p z => by
      obtain ⟨t, s, e⟩ := p
      subst e
      exact z _ H1 cm1 ⟨t, s, rfl⟩
def fCmp (op : CmpOp) (fa fb : Rd' RX) : Rd' RX := fun ρ S => (fa ρ S).rv.bind fun x S1 => (fb ρ S1).rv.bind fun y S2 => match rdV S2 x, rdV S2 y with
    | some d, some e => (ofOpt (cmpD op d e) S2).bind fun b S3 => .ok (.d (.bl b)) S3
    | _, _ => .stuck
def fCmpB (op : CmpOp) (fa fb : Rd' RX) : Rd' Bool := fun ρ S => (fa ρ S).rv.bind fun x S1 => (fb ρ S1).rv.bind fun y S2 => match rdV S2 x, rdV S2 y with
    | some d, some e => ofOpt (cmpD op d e) S2
    | _, _ => .stuck
theorem fCmp_tru {op : CmpOp} (ρ : Rf.Env) (S : Store) : (fCmp op fa fb ρ S).tru = fCmpB op fa fb ρ S := by
  unfold fCmp fCmpB
  rw [tru_bind]
  congr 1
  funext x S1
  rw [tru_bind]
  congr 1
  funext y S2
  cases rdV S2 x with
  | none => rfl
  | some d => cases rdV S2 y with
    | none => rfl
    | some e => cases h : cmpD op d e <;> simp [h, ofOpt, Res.tru, boolV]
theorem noSet {op : CmpOp} (h : notSet b = true) : behindInMarks op b = false := by
  cases b <;> first | rfl | simp [notSet] at h
theorem hu_room (g : Gd X CX E lv c G C) : X.A.units + 64 < cLine := by have := g.room.un; omega
theorem sn_cmp (g : Gd X CX E lv c G C) {op : CmpOp} (ha : PE X a (tX X.K X.mg E fa)) (hb : PE X b (tX X.K X.mg E fb)) (hn : notSet b = true) : Snd X (.Compare a [op] [b] pos) X.K X.mg E (fCmp op fa fb) := by
  constructor
  · refine PE.imp (pe_cmpR (op_cmpD (hu_room g) op) (pe_rv ha) (pe_rv hb) (noSet hn)) fun σ H Q ⟨ρ, cm, S, hs, he, q⟩ => two_ops okG.zok hs he q fun x y S2 v w H2 cm2 t s vx vy z => rds2 s vx vy okG.zok.st z fun d e rd re z => ⟨cm2, S2, d, e, s, rd, re, ?_⟩
    cases h : cmpD op d e with
    | none => rw [h] at z; exact z
    | some r => rw [h] at z; exact z _ H2 cm2 ⟨Tr.refl, s, .bl _⟩
  · refine PT.imp (pt_cmpR (op_cmpD (hu_room g) op) (pe_rv ha) (pe_rv hb) (noSet hn)) fun σ H Q ⟨ρ, cm, S, hs, he, q⟩ => ?_
    dsimp only at q
    rw [fCmp_tru] at q
    unfold fCmpB at q
    refine two_ops okG.zok hs he q fun x y S2 v w H2 cm2 t s vx vy z => rds2 s vx vy okG.zok.st z fun d e rd re z => ⟨cm2, S2, d, e, s, rd, re, ?_⟩
    cases h : cmpD op d e with
    | none => rw [h] at z; exact z
    | some r => rw [h] at z; exact ⟨r, rfl, z _ H2 cm2 ⟨Tr.refl, s, rfl⟩⟩
/-! and, or, if -/
def fAnd (fa fb : Rd' RX) : Rd' RX := fun ρ S => (fa ρ S).bind fun x S1 => match boolV x with
    | some true => fb ρ S1
    | some false => .ok (.d (.bl false)) S1
    | none => .stuck
def fOr (fa fb : Rd' RX) : Rd' RX := fun ρ S => (fa ρ S).bind fun x S1 => match boolV x with
    | some true => .ok (.d (.bl true)) S1
    | some false => fb ρ S1
    | none => .stuck
def fIte (fc fa fb : Rd' RX) : Rd' RX := fun ρ S => (fc ρ S).bind fun x S1 => match boolV x with
    | some true => fa ρ S1
    | some false => fb ρ S1
    | none => .stuck
theorem boolV_px {x : RX} {k : Bool} (h : boolV x = some k) : x = .d (.bl k) := by
  cases x with
  | d d => cases d with
    | bl b => simp [boolV] at h; rw [h]
    | _ => simp [boolV] at h
  | _ => simp [boolV] at h
theorem fAnd_tru (ρ : Rf.Env) (S : Store) : (fAnd fa fb ρ S).tru = (fa ρ S).tru.bind fun k S1 => if k then (fb ρ S1).tru else .ok false S1 := by
  unfold fAnd
  rw [tru_bind]
  unfold Res.tru
  rw [bind_bind]
  congr 1
  funext x S1
  cases boolV x with
  | none => rfl
  | some k => cases k <;> rfl
theorem fOr_tru (ρ : Rf.Env) (S : Store) : (fOr fa fb ρ S).tru = (fa ρ S).tru.bind fun k S1 => if k then .ok true S1 else (fb ρ S1).tru := by
  unfold fOr
  rw [tru_bind]
  unfold Res.tru
  rw [bind_bind]
  congr 1
  funext x S1
  cases boolV x with
  | none => rfl
  | some k => cases k <;> rfl
theorem fIte_tru (ρ : Rf.Env) (S : Store) : (fIte fc fa fb ρ S).tru = (fc ρ S).tru.bind fun k S1 => if k then (fa ρ S1).tru else (fb ρ S1).tru := by
  unfold fIte
  rw [tru_bind]
  unfold Res.tru
  rw [bind_bind]
  congr 1
  funext x S1
  cases boolV x with
  | none => rfl
  | some k => cases k <;> rfl
theorem rd_and {K : PySem.W.Frag} {mg : Mg} {σ : L2.St} {H : Hp} {Q : VK} (h : tX K mg E (fAnd fa fb) σ H Q) : tAndV (tX K mg E fa) (tX K mg E fb) σ H Q := by
  obtain ⟨ρ, cm, S, hs, he, q⟩ := h
  refine tG_bind okG.zok hs he q fun x S1 v H1 cm1 _ p z => ?_
  cases hb : boolV x with
  | none => rw [hb] at z; exact z.elim
  | some k =>
    have ex := boolV_px hb
    subst ex
    obtain ⟨t, s, vx⟩ := p
    cases vx
    refine ⟨k, rfl, ?_⟩
    cases k with
    | true => exact ⟨ρ, cm1, S1, s, he.mono t hs, okG.step t z⟩
    | false => exact z _ H1 cm1 ⟨t, s, .bl _⟩
theorem rd_or {K : PySem.W.Frag} {mg : Mg} {σ : L2.St} {H : Hp} {Q : VK} (h : tX K mg E (fOr fa fb) σ H Q) : tOrV (tX K mg E fa) (tX K mg E fb) σ H Q := by
  obtain ⟨ρ, cm, S, hs, he, q⟩ := h
  refine tG_bind okG.zok hs he q fun x S1 v H1 cm1 _ p z => ?_
  cases hb : boolV x with
  | none => rw [hb] at z; exact z.elim
  | some k =>
    have ex := boolV_px hb
    subst ex
    obtain ⟨t, s, vx⟩ := p
    cases vx
    refine ⟨k, rfl, ?_⟩
    cases k with
    | false => exact ⟨ρ, cm1, S1, s, he.mono t hs, okG.step t z⟩
    | true => exact z _ H1 cm1 ⟨t, s, .bl _⟩
theorem rd_andT {K : PySem.W.Frag} {mg : Mg} {σ : L2.St} {H : Hp} {Q : Bool → Hp → Prop} (h : tB K mg E (fun ρ S => (fAnd fa fb ρ S).tru) σ H Q) : tAnd (tB K mg E fun ρ S => (fa ρ S).tru) (tB K mg E fun ρ S => (fb ρ S).tru) σ H Q := by
  obtain ⟨ρ, cm, S, hs, he, q⟩ := h
  dsimp only at q
  rw [fAnd_tru] at q
  refine tG_bind (f := fun ρ S => (fa ρ S).tru) okG.zok hs he q fun k S1 v H1 cm1 _ p z => ?_
  obtain ⟨t, s, e⟩ := p
  subst e
  cases v with
  | true => exact ⟨ρ, cm1, S1, s, he.mono t hs, okG.step t z⟩
  | false => exact z _ H1 cm1 ⟨t, s, rfl⟩
theorem rd_orT {K : PySem.W.Frag} {mg : Mg} {σ : L2.St} {H : Hp} {Q : Bool → Hp → Prop} (h : tB K mg E (fun ρ S => (fOr fa fb ρ S).tru) σ H Q) : tOr (tB K mg E fun ρ S => (fa ρ S).tru) (tB K mg E fun ρ S => (fb ρ S).tru) σ H Q := by
  obtain ⟨ρ, cm, S, hs, he, q⟩ := h
  dsimp only at q
  rw [fOr_tru] at q
  refine tG_bind (f := fun ρ S => (fa ρ S).tru) okG.zok hs he q fun k S1 v H1 cm1 _ p z => ?_
  obtain ⟨t, s, e⟩ := p
  subst e
  cases v with
  | false => exact ⟨ρ, cm1, S1, s, he.mono t hs, okG.step t z⟩
  | true => exact z _ H1 cm1 ⟨t, s, rfl⟩
/-- .. with the test of a chain -/
structure SndW (X : Cx) (e : Expr) (K : PySem.W.Frag) (mg : Mg) (E : XK) (f : Rd' RX) : Prop extends Snd X e K mg E f where
  pw : ∀ op vs p, e = .BoolOp op vs p → PW X e (tB K mg E fun ρ S => (f ρ S).tru)
theorem Snd.w {f : Rd' RX} (h : Snd X e X.K X.mg E f) (n : ∀ op vs p, e ≠ .BoolOp op vs p) : SndW X e X.K X.mg E f := ⟨h, fun op vs p q => absurd q (n op vs p)⟩
theorem sn_and2 (ha : Snd X a X.K X.mg E fa) (hb : Snd X b X.K X.mg E fb) : SndW X (.BoolOp .And [a, b] pos) X.K X.mg E (fAnd fa fb) :=
  have w : PW X (.BoolOp .And [a, b] pos) (tB X.K X.mg E fun ρ S => (fAnd fa fb ρ S).tru) := PW.imp (pw_and ha.pt (pw_and1 hb.pt)) fun _ _ _ => rd_andT
  ⟨⟨PE.imp (pe_and ha.pe (pe_one hb.pe)) fun _ _ _ => rd_and, w.pt⟩, fun _ _ _ _ => w⟩
theorem sn_or2 (ha : Snd X a X.K X.mg E fa) (hb : Snd X b X.K X.mg E fb) : SndW X (.BoolOp .Or [a, b] pos) X.K X.mg E (fOr fa fb) :=
  have w : PW X (.BoolOp .Or [a, b] pos) (tB X.K X.mg E fun ρ S => (fOr fa fb ρ S).tru) := PW.imp (pw_or ha.pt (pw_or1 hb.pt)) fun _ _ _ => rd_orT
  ⟨⟨PE.imp (pe_or ha.pe (pe_one hb.pe)) fun _ _ _ => rd_or, w.pt⟩, fun _ _ _ _ => w⟩
theorem sn_and {r : List Expr} (ha : Snd X a X.K X.mg E fa) (hb : SndW X (.BoolOp .And (b :: r) pos) X.K X.mg E fb) : SndW X (.BoolOp .And (a :: b :: r) pos) X.K X.mg E (fAnd fa fb) :=
  have w : PW X (.BoolOp .And (a :: b :: r) pos) (tB X.K X.mg E fun ρ S => (fAnd fa fb ρ S).tru) := PW.imp (pw_and ha.pt (hb.pw _ _ _ rfl)) fun _ _ _ => rd_andT
  ⟨⟨PE.imp (pe_and ha.pe hb.pe) fun _ _ _ => rd_and, w.pt⟩, fun _ _ _ _ => w⟩
theorem sn_or {r : List Expr} (ha : Snd X a X.K X.mg E fa) (hb : SndW X (.BoolOp .Or (b :: r) pos) X.K X.mg E fb) : SndW X (.BoolOp .Or (a :: b :: r) pos) X.K X.mg E (fOr fa fb) :=
  have w : PW X (.BoolOp .Or (a :: b :: r) pos) (tB X.K X.mg E fun ρ S => (fOr fa fb ρ S).tru) := PW.imp (pw_or ha.pt (hb.pw _ _ _ rfl)) fun _ _ _ => rd_orT
  ⟨⟨PE.imp (pe_or ha.pe hb.pe) fun _ _ _ => rd_or, w.pt⟩, fun _ _ _ _ => w⟩
theorem rd_ite {α β : Type} {P : Post α β} [Trs P] {K : PySem.W.Frag} {mg : Mg} {ga gb : Rd' α} {σ : L2.St} {H : Hp} {Q : β → Hp → Prop} (h : tG K mg E P (fun ρ S => (fc ρ S).tru.bind fun k S1 => if k then ga ρ S1 else gb ρ S1) σ H Q) :
    (tB K mg E fun ρ S => (fc ρ S).tru) σ H fun k H1 => if k = true then tG K mg E P ga σ H1 Q else tG K mg E P gb σ H1 Q := by
  obtain ⟨ρ, cm, S, hs, he, q⟩ := h
  refine tG_bind (f := fun ρ S => (fc ρ S).tru) okG.zok hs he q fun k S1 v H1 cm1 _ p z => ?_
  obtain ⟨t, s, e⟩ := p
  subst e
  cases v with
  | true => exact ⟨ρ, cm1, S1, s, he.mono t hs, okG.step t z⟩
  | false => exact ⟨ρ, cm1, S1, s, he.mono t hs, okG.step t z⟩
theorem fIte_eq (ρ : Rf.Env) (S : Store) : fIte fc fa fb ρ S = (fc ρ S).tru.bind fun k S1 => if k then fa ρ S1 else fb ρ S1 := by
  unfold fIte Res.tru
  rw [bind_bind]
  congr 1
  funext x S1
  cases boolV x with
  | none => rfl
  | some k => cases k <;> rfl
theorem sn_ite (hc : Snd X d X.K X.mg E fc) (ha : Snd X a X.K X.mg E fa) (hb : Snd X b X.K X.mg E fb) : Snd X (.IfExp d a b pos) X.K X.mg E (fIte fc fa fb) := by
  constructor
  · refine PE.imp (pe_ifExp hc.pt ha.pe hb.pe) fun σ H Q h => rd_ite (P := PX X.K) ?_
    obtain ⟨ρ, cm, S, hs, he, q⟩ := h
    rw [fIte_eq] at q
    exact ⟨ρ, cm, S, hs, he, q⟩
  · refine ⟨fun pins s σ H Q I h => ?_⟩
    have h2 : (tB X.K X.mg E fun ρ S => (fc ρ S).tru) σ H fun k H1 => if k = true then (tB X.K X.mg E fun ρ S => (fa ρ S).tru) σ H1 Q else (tB X.K X.mg E fun ρ S => (fb ρ S).tru) σ H1 Q := by
      refine rd_ite (P := PB X.K) ?_
      obtain ⟨ρ, cm, S, hs, he, q⟩ := h
      dsimp only at q
      rw [fIte_tru] at q
      exact ⟨ρ, cm, S, hs, he, q⟩
    refine isTrue_IfExp (thn (hc.pt.run pins s σ H _ I h2) fun k s1 ⟨H1, I1, q1⟩ => ?_)
    cases k with
    | true => exact ha.pt.run pins s1 σ H1 Q I1 q1
    | false => exact hb.pt.run pins s1 σ H1 Q I1 q1
end
end Rf

set_option Elab.async false
set_option linter.all false
set_option maxRecDepth 100000
set_option maxHeartbeats 1000000
namespace Rf
open PySem PySem.Spec PyProof.Rows L2
/-! displays, arguments, subscripts, chains, calls -/
section
variable {K : PySem.W.Frag} {mg : Mg} {H : Hp} {cm : List Addr} {S : Store}
theorem vs_d : ∀ {vs : List V} {rs : List RV} {ds : List D}, VsOk K H cm S vs rs → rdVs [] rs = some ds → Rps K H (Lv cm S) vs ds
  | _, [], ds, .nil, e => by simp [rdVs] at e; subst e; exact .nil
  | v :: vs, x :: rs, ds, .cons h q, e => by
    simp only [rdVs, Option.bind_eq_some_iff, Option.map_eq_some_iff] at e
    obtain ⟨d, e1, es, e2, rfl⟩ := e
    cases x with
    | c n => simp [rdV, cellAt] at e1
    | d d' => cases e1; exact .cons h (vs_d q e2)
end
section
variable {X : Cx} {CX : CXT} {E : XK} {lv : Nat} {c : Ct} {G : List Mir} {C : List D} {a b d e : Expr} {fa fb fc fd : Rd' RX} {pos : Pos} {es : List Expr}
theorem pe_conv {K : PySem.W.Frag} {mg : Mg} (m : Md) (h : PE X e (tX K mg E fa)) : PE X e (tV K mg E fun ρ S => (fa ρ S).bind (conv m)) := by
  refine PE.imp h fun σ H Q ⟨ρ, cm, S, hs, he, q⟩ => ?_
  refine tG_bind okG.zok hs he q fun r S1 v H1 cm1 _ p z => ?_
  cases e1 : conv m r S1 with
  | ok x S2 =>
    rw [e1] at z
    obtain ⟨cm2, pv⟩ := p.conv hs e1
    exact z v H1 cm2 pv
  | exc x S2 => exact absurd e1 conv_noexc
  | stuck => rw [e1] at z; exact z.elim
/-! arguments -/
def fNil : Rd' (List RV) := fun ρ S => .ok [] S
def fCons (m : Md) (fa : Rd' RX) (fs : Rd' (List RV)) : Rd' (List RV) := fun ρ S => (fa ρ S).bind fun x S1 => (conv m x S1).bind fun v S2 => (fs ρ S2).bind fun vs S3 => .ok (v :: vs) S3
theorem res_bind_assoc {α β γ : Type} {r : Res α} {k : α → Store → Res β} {l : β → Store → Res γ} : (r.bind k).bind l = r.bind fun a S => (k a S).bind l := bind_bind
theorem rd_nil {K : PySem.W.Frag} {mg : Mg} {σ : L2.St} {H : Hp} {Q : List V → Hp → Prop} (h : tA K mg E fNil σ H Q) : tNil σ H Q := by
  obtain ⟨ρ, cm, S, hs, he, q⟩ := h
  exact q [] H cm ⟨Tr.refl, hs, .nil⟩
theorem rd_cons {K : PySem.W.Frag} {mg : Mg} {m : Md} {fs : Rd' (List RV)} {σ : L2.St} {H : Hp} {Q : List V → Hp → Prop} (h : tA K mg E (fCons m fa fs) σ H Q) : tCons (tV K mg E fun ρ S => (fa ρ S).bind (conv m)) (tA K mg E fs) σ H Q := by
  obtain ⟨ρ, cm, S, hs, he, q⟩ := h
  unfold fCons at q
  rw [← res_bind_assoc] at q
  refine tG_bind (f := fun ρ S => (fa ρ S).bind (conv m)) okG.zok hs he q fun x S1 v H1 cm1 _ p z => ?_
  obtain ⟨t1, s1, v1⟩ := p
  refine tG_bind okG.zok s1 (he.mono t1 hs) (okG.step t1 z) fun vs S2 ws H2 cm2 _ p2 z2 => ?_
  obtain ⟨t2, s2, v2⟩ := p2
  exact z2 (v :: ws) H2 cm2 ⟨t2, s2, .cons (v1.mono t2 s1) v2⟩
theorem pa_nil' : PA X [] (tA X.K X.mg E fNil) := PA.imp pa_nil fun _ _ _ => rd_nil
theorem pa_cons' {m : Md} {fs : Rd' (List RV)} (ha : PE X e (tX X.K X.mg E fa)) (hr : PA X es (tA X.K X.mg E fs)) (hp : plainE e = true) : PA X (e :: es) (tA X.K X.mg E (fCons m fa fs)) :=
  PA.imp (pa_cons (pe_conv m ha) hr (star_cons hp)) fun _ _ _ => rd_cons
theorem pk_nil' : PK X [] (tA X.K X.mg E fNil) := ⟨fun pos pins s σ H Q I h => pk_nil.run pos pins s σ H Q I (rd_nil h)⟩
theorem pk_cons' {m : Md} {fs : Rd' (List RV)} {kws : List Keyword} {nm : Option Str} {kp : Pos} (ha : PE X e (tX X.K X.mg E fa)) (hr : PK X kws (tA X.K X.mg E fs)) : PK X (⟨nm, e, kp⟩ :: kws) (tA X.K X.mg E (fCons m fa fs)) :=
  ⟨fun pos pins s σ H Q I h => (pk_cons (pe_conv m ha) hr).run pos pins s σ H Q I (rd_cons h)⟩
/-! displays -/
theorem pe_tup' {fs : Rd' (List RV)} {k : Nat} (h : PA X es (tA X.K X.mg E fs)) : PE X (.Tuple es k pos) (tX X.K X.mg E fun ρ S => (fs ρ S).bind fun vs S1 => match rdVs [] vs with
    | some ds => if ds.length ≤ line then .ok (.d (.tup ds)) S1 else .stuck
    | none => .stuck) :=
  PE.imp (pe_tup h) fun σ H Q ⟨ρ, cm, S, hs, he, q⟩ => tG_bind okG.zok hs he q fun vs S1 ws H1 cm1 _ p z => by
    obtain ⟨t, s, vv⟩ := p
    cases e1 : rdVs [] vs with
    | none => rw [e1] at z; exact z.elim
    | some ds =>
      rw [e1] at z
      have r := vs_d vv e1
      dsimp only at z
      split at z
      · rename_i hl
        rw [line_eq] at hl
        refine ⟨by rw [r.length]; exact hl, fun p hp => z _ _ cm1 (PX.tr (mkT s hp r) t)⟩
      · exact z.elim
theorem pe_lst' {fs : Rd' (List RV)} (h : PA X es (tA X.K X.mg E fs)) : PE X (.List es pos) (tX X.K X.mg E fun ρ S => (fs ρ S).bind fun vs S1 => match rdVs [] vs with
    | some ds => if ds.length ≤ line then .ok (.f ds) S1 else .stuck
    | none => .stuck) :=
  PE.imp (pe_lst h) fun σ H Q ⟨ρ, cm, S, hs, he, q⟩ => tG_bind okG.zok hs he q fun vs S1 ws H1 cm1 _ p z => by
    obtain ⟨t, s, vv⟩ := p
    cases e1 : rdVs [] vs with
    | none => rw [e1] at z; exact z.elim
    | some ds =>
      rw [e1] at z
      have r := vs_d vv e1
      dsimp only at z
      split at z
      · rename_i hl
        rw [line_eq] at hl
        refine ⟨by rw [r.length]; exact hl, fun p hp => z _ _ cm1 (PX.tr (mkF s hp r) t)⟩
      · exact z.elim
/-! subscripts -/
theorem plainIx_of {i : Expr} (h : notSl i = true) : PlainIx i := by
  cases i <;> first | (intro o i; rfl) | simp [notSl] at h
theorem pe_idx' {i : Expr} {fi : Rd' RX} (ha : PE X a (tX X.K X.mg E fa)) (hi : PE X i (tX X.K X.mg E fi)) (hn : notSl i = true) : PE X (.Subscript a i pos) (tX X.K X.mg E fun ρ S => (fa ρ S).rv.bind fun x S1 => (fi ρ S1).rv.bind fun y S2 => match rdV S2 x, rdV S2 y with
    | some d, some e => (ofOpt (idxD d e) S2).bind fun r S3 => .ok (.d r) S3
    | _, _ => .stuck) :=
  PE.imp (pe_ix ix_D (pe_rv ha) (pe_rv hi) (plainIx_of hn)) fun σ H Q ⟨ρ, cm, S, hs, he, q⟩ => two_ops okG.zok hs he q fun x y S2 v w H2 cm2 t s vx vy z => rds2 s vx vy okG.zok.st z fun d e rd re z => ⟨cm2, S2, d, e, s, rd, re, by
    cases h : idxD d e with
    | none => rw [h] at z; exact z
    | some r => rw [h] at z; exact fun v rv => z v H2 cm2 ⟨Tr.refl, s, rv⟩⟩
theorem pe_rev' {k : Nat} {p1 p2 p3 : Pos} (ha : PE X a (tX X.K X.mg E fa)) : PE X (.Subscript a (.Slice none none (some (.UnaryOp .USub (.Constant (.int 1) k p1) p2)) p3) pos) (tX X.K X.mg E fun ρ S => (fa ρ S).rv.bind fun x S1 => match rdV S1 x with
    | some d => ofOpt (revD d) S1
    | none => .stuck) :=
  PE.imp (pe_rev (pe_rv ha)) fun σ H Q ⟨ρ, cm, S, hs, he, q⟩ => tG_bind (f := fun ρ S => (fa ρ S).rv) okG.zok hs he q fun x S1 v H1 cm1 _ p z => by
    obtain ⟨t, s, vx⟩ := p
    have z := okG.step t z
    cases e1 : rdV S1 x with
    | none => rw [e1] at z; exact z.elim
    | some d =>
      rw [e1] at z
      dsimp only at z
      refine ⟨cm1, S1, d, s, rd_ok s vx e1, ?_⟩
      cases h : revD d with
      | none => rw [h] at z; exact z
      | some r => rw [h] at z; exact z
/-- a part of a slice -/
def PPo (K : PySem.W.Frag) (H : Hp) (cm : List Addr) (S : Store) (o : Option Int) (a : Option Int) (H' : Hp) (cm' : List Addr) (S' : Store) : Prop :=
  Tr H cm S H' cm' S' ∧ SR K H' cm' S' ∧ o = a
instance {K : PySem.W.Frag} : Trs (PPo K) := ⟨fun t h => ⟨t.trans h.1, h.2⟩⟩
theorem po_no : PO X none (tG X.K X.mg E (PPo X.K) fun ρ S => .ok none S) := ⟨fun pins s σ H Q I h => po_none.run pins s σ H Q I (by
  obtain ⟨ρ, cm, S, hs, he, q⟩ := h
  exact q none H cm ⟨Tr.refl, hs, rfl⟩)⟩
theorem po_yes (h : PE X a (tX X.K X.mg E fa)) : PO X (some a) (tG X.K X.mg E (PPo X.K) fun ρ S => (fa ρ S).bind fun x S1 => match x with
    | .d (.int i) => .ok (some i) S1
    | _ => .stuck) := ⟨fun pins s σ H Q I hq => (po_some h).run pins s σ H Q I (by
  obtain ⟨ρ, cm, S, hs, he, q⟩ := hq
  refine tG_bind okG.zok hs he q fun x S1 v H1 cm1 _ p z => ?_
  cases x with
  | d d => cases d with
    | int i =>
      obtain ⟨t, s, vx⟩ := p
      cases vx
      exact ⟨i, rfl, z _ H1 cm1 ⟨t, s, rfl⟩⟩
    | _ => exact z.elim
  | _ => exact z.elim)⟩
theorem pe_sl' {lo hi : Option Expr} {fl fh : Rd' (Option Int)} {p2 : Pos} (ha : PE X a (tX X.K X.mg E fa)) (hl : PO X lo (tG X.K X.mg E (PPo X.K) fl)) (hh : PO X hi (tG X.K X.mg E (PPo X.K) fh)) :
    PE X (.Subscript a (.Slice lo hi none p2) pos) (tX X.K X.mg E fun ρ S => (fa ρ S).rv.bind fun x S1 => (fl ρ S1).bind fun l S2 => (fh ρ S2).bind fun h S3 => match rdV S3 x with
    | some d => ofOpt (sliceD d l h) S3
    | none => .stuck) :=
  PE.imp (pe_slice sl_D (pe_rv ha) hl hh) fun σ H Q ⟨ρ, cm, S, hs, he, q⟩ => tG_bind (f := fun ρ S => (fa ρ S).rv) okG.zok hs he q fun x S1 v H1 cm1 _ p z => by
    obtain ⟨t, s, vx⟩ := p
    have z := okG.step t z
    have he1 := he.mono t hs
    refine tG_bind okG.zok s he1 z fun l S2 o H2 cm2 _ p z => ?_
    obtain ⟨t2, s2, rfl⟩ := p
    have z := okG.step t2 z
    refine tG_bind okG.zok s2 (he1.mono t2 s) z fun h S3 o3 H3 cm3 _ p z => ?_
    obtain ⟨t3, s3, rfl⟩ := p
    have z := okG.step t3 z
    have vx3 := (vx.mono t2 s).mono t3 s2
    cases e1 : rdV S3 x with
    | none => rw [e1] at z; exact z.elim
    | some d =>
      rw [e1] at z
      dsimp only at z
      refine ⟨cm3, S3, d, s3, rd_ok s3 vx3 e1, ?_⟩
      cases h : sliceD d o o3 with
      | none => rw [h] at z; exact z
      | some r => rw [h] at z; exact z
/-! chains -/
theorem lastM2 {o1 o2 : CmpOp} (h : notSet d = true) : lastMarks [o1, o2] [b, d] = false := by
  show behindInMarks o2 d = false
  exact noSet h
/-- one link -/
theorem rd_link {K : PySem.W.Frag} {mg : Mg} {op : CmpOp} {β : Type} {k : Bool → Store → Res β} {Z : Hp → List Addr → Store → Res β → Prop} (zok : Zok K mg E .exc .stuck Z) {H : Hp} {cm : List Addr} {S : Store} {v w : V} {x y : RV}
    (s : SR K H cm S) (vx : VOk K H cm S v x) (vy : VOk K H cm S w y) (z : Z H cm S (match rdV S x, rdV S y with
      | some d, some e => (ofOpt (cmpD op d e) S).bind k
      | _, _ => .stuck)) {Q : VK} (hk : ∀ b, Z H cm S (k b S) → Q (.bl b) H) : rC K op v w H Q :=
  rds2 s vx vy zok.st z fun d e rd re z => ⟨cm, S, d, e, s, rd, re, by
    cases h : cmpD op d e with
    | none => rw [h] at z; exact zok.st z
    | some r => rw [h] at z; exact hk r z⟩
def fCh2 (o1 o2 : CmpOp) (fa fb fc : Rd' RX) : Rd' RX := fun ρ S => (fa ρ S).rv.bind fun x S1 => (fb ρ S1).rv.bind fun y S2 => match rdV S2 x, rdV S2 y with
    | some d, some e => (ofOpt (cmpD o1 d e) S2).bind fun k S3 => if k then (fc ρ S3).rv.bind fun z S4 => match rdV S4 y, rdV S4 z with
        | some e, some g => (ofOpt (cmpD o2 e g) S4).bind fun b S5 => .ok (.d (.bl b)) S5
        | _, _ => .stuck
      else .ok (.d (.bl false)) S3
    | _, _ => .stuck
/-- a value that is a truth value -/
def tBl (t : TE) : TT := fun σ H Q => t σ H fun x H' => ∃ k, x = .bl k ∧ Q k H'
end
end Rf

set_option Elab.async false
set_option linter.all false
set_option maxRecDepth 100000
set_option maxHeartbeats 1000000
namespace Rf
open PySem PySem.Spec PyProof.Rows L2
section
variable {X : Cx} {CX : CXT} {E : XK} {lv : Nat} {c : Ct} {G : List Mir} {C : List D} {a b d e : Expr} {fa fb fc fd : Rd' RX} {pos : Pos} {es : List Expr}
theorem tru_tX {K : PySem.W.Frag} {mg : Mg} {f : Rd' RX} {σ : L2.St} {H : Hp} {Q : Bool → Hp → Prop} (h : tB K mg E (fun ρ S => (f ρ S).tru) σ H Q) : tX K mg E f σ H fun x H' => ∃ k, x = .bl k ∧ Q k H' := by
  obtain ⟨ρ, cm, S, hs, he, q⟩ := h
  refine tG_bind okG.zok hs he q fun r S1 v H1 cm1 _ p z => ?_
  cases r with
  | d d => cases d with
    | bl b =>
      obtain ⟨t, s, rp⟩ := p
      cases rp
      exact ⟨b, rfl, z b H1 cm1 ⟨t, s, rfl⟩⟩
    | _ => exact z.elim
  | _ => exact z.elim
theorem rd_ch2 {K : PySem.W.Frag} {mg : Mg} {o1 o2 : CmpOp} {σ : L2.St} {H : Hp} {Q : VK} (h : tX K mg E (fCh2 o1 o2 fa fb fc) σ H Q) :
    tChain (rC K o1) (rC K o2) (tV K mg E fun ρ S => (fa ρ S).rv) (tV K mg E fun ρ S => (fb ρ S).rv) (tV K mg E fun ρ S => (fc ρ S).rv) σ H Q := by
  obtain ⟨ρ, cm, S, hs, he, q⟩ := h
  refine two_ops okG.zok hs he q fun x y S2 v w H2 cm2 t s vx vy z => rd_link okG.zok s vx vy z fun k z => ⟨k, rfl, ?_⟩
  cases k with
  | false => exact z _ H2 cm2 ⟨Tr.refl, s, .bl _⟩
  | true =>
    refine tG_bind (f := fun ρ S => (fc ρ S).rv) okG.zok s (he.mono t hs) z fun y2 S3 u H3 cm3 _ p z => ?_
    obtain ⟨t3, s3, vz⟩ := p
    have z := okG.step t3 z
    exact rd_link okG.zok s3 (vy.mono t3 s) vz z fun k z => z _ H3 cm3 ⟨Tr.refl, s3, .bl _⟩
theorem sn_ch2 (g : Gd X CX E lv c G C) {o1 o2 : CmpOp} (ha : PE X a (tX X.K X.mg E fa)) (hb : PE X b (tX X.K X.mg E fb)) (hd : PE X d (tX X.K X.mg E fc)) (hn : notSet d = true) : Snd X (.Compare a [o1, o2] [b, d] pos) X.K X.mg E (fCh2 o1 o2 fa fb fc) :=
  ⟨PE.imp (pe_chain (op_cmpD (hu_room g) o1) (op_cmpD (hu_room g) o2) (pe_rv ha) (pe_rv hb) (pe_rv hd) (lastM2 hn)) fun _ _ _ => rd_ch2,
    PT.imp (pt_chain (op_cmpD (hu_room g) o1) (op_cmpD (hu_room g) o2) (pe_rv ha) (pe_rv hb) (pe_rv hd) (lastM2 hn)) fun _ _ _ h => rd_ch2 (tru_tX h)⟩
/-! a chain of three -/
def tChain3 (r r' r'' : R2) (ta tb tc td : TE) : TE := fun σ H Q => ta σ H fun x H1 => tb σ H1 fun y H2 => r x y H2 fun z H3 => ∃ k, z = .bl k ∧
  (if k = true then tc σ H3 fun w' H4 => r' y w' H4 fun z2 H5 => ∃ k2, z2 = .bl k2 ∧ (if k2 = true then td σ H5 fun w2 H6 => r'' w' w2 H6 Q else Q (.bl false) H5) else Q (.bl false) H3)
theorem pe_chain3 {op op' op'' : CmpOp} {r r' r'' : R2} {ta tb tc td : TE} {f : Expr} (ho : OpR X (compareOp op) r) (ho' : OpR X (compareOp op') r') (ho'' : OpR X (compareOp op'') r'') (ha : PE X a ta) (hb : PE X b tb) (hc : PE X d tc) (hd : PE X f td)
    (hm : lastMarks [op, op', op''] [b, d, f] = false) : PE X (.Compare a [op, op', op''] [b, d, f] pos) (tChain3 r r' r'' ta tb tc td) := by
  refine ⟨fun pins s σ H Q I h => ?_⟩
  refine Compare_chain (thn (ha.run pins s σ H _ I h) fun v s1 ⟨x, H1, I1, r1, q1⟩ => chain_link (thn (hb.run pins s1 σ H1 _ I1 q1) fun u s2 ⟨y, H2, I2, r2, q2⟩ =>
    thn (ho pins s2 σ H2 x y v u _ I2 r1 r2 q2) fun d s3 ⟨z, H3, I3, r3, k, e, q3⟩ => ?_)) hm
  subst e
  cases r3
  refine wpAny_truthy_bool ?_
  cases k with
  | false => exact ite_ff ⟨.bl false, H3, I3, rfl, q3⟩
  | true =>
    refine ite_tt (chain_link (thn (hc.run pins s3 σ H3 _ I3 q3) fun w' s4 ⟨z', H4, I4, r4, q4⟩ => thn (ho' pins s4 σ H4 y z' u w' _ I4 r2 r4 q4) fun d5 s5 ⟨z5, H5, I5, r5, k5, e5, q5⟩ => ?_))
    subst e5
    cases r5
    refine wpAny_truthy_bool ?_
    cases k5 with
    | false => exact ite_ff ⟨.bl false, H5, I5, rfl, q5⟩
    | true => exact ite_tt (chain_last (thn (hd.run pins s5 σ H5 _ I5 q5) fun w6 s6 ⟨z6, H6, I6, r6, q6⟩ => ho'' pins s6 σ H6 z' z6 w' w6 Q I6 r4 r6 q6))
theorem pt_chain3 {op op' op'' : CmpOp} {r r' r'' : R2} {ta tb tc td : TE} {f : Expr} (ho : OpR X (compareOp op) r) (ho' : OpR X (compareOp op') r') (ho'' : OpR X (compareOp op'') r'') (ha : PE X a ta) (hb : PE X b tb) (hc : PE X d tc) (hd : PE X f td)
    (hm : lastMarks [op, op', op''] [b, d, f] = false) : PT X (.Compare a [op, op', op''] [b, d, f] pos) (tBl (tChain3 r r' r'' ta tb tc td)) := by
  refine ⟨fun pins s σ H Q I h => ?_⟩
  refine isTrue_chain (thn (ha.run pins s σ H _ I h) fun v s1 ⟨x, H1, I1, r1, q1⟩ => test_link (thn (hb.run pins s1 σ H1 _ I1 q1) fun u s2 ⟨y, H2, I2, r2, q2⟩ =>
    thn (ho pins s2 σ H2 x y v u _ I2 r1 r2 q2) fun d s3 ⟨z, H3, I3, r3, k, e, q3⟩ => ?_)) hm
  subst e
  cases r3
  refine wpAny_truthy_bool ?_
  cases k with
  | false =>
    obtain ⟨k', e', q'⟩ := q3
    cases e'
    exact ite_ff ⟨H3, I3, q'⟩
  | true =>
    refine ite_tt (test_link (thn (hc.run pins s3 σ H3 _ I3 q3) fun w' s4 ⟨z', H4, I4, r4, q4⟩ => thn (ho' pins s4 σ H4 y z' u w' _ I4 r2 r4 q4) fun d5 s5 ⟨z5, H5, I5, r5, k5, e5, q5⟩ => ?_))
    subst e5
    cases r5
    refine wpAny_truthy_bool ?_
    cases k5 with
    | false =>
      obtain ⟨k', e', q'⟩ := q5
      cases e'
      exact ite_ff ⟨H5, I5, q'⟩
    | true =>
      refine ite_tt (test_last (thn (hd.run pins s5 σ H5 _ I5 q5) fun w6 s6 ⟨z6, H6, I6, r6, q6⟩ => thn (ho'' pins s6 σ H6 z' z6 w' w6 _ I6 r4 r6 q6) fun d' s7 ⟨z7, H7, I7, r7, k7, e7, q7⟩ => ?_))
      subst e7
      cases r7
      exact wpAny_truthy_bool ⟨H7, I7, q7⟩
def fCh3 (o1 o2 o3 : CmpOp) (fa fb fc fd : Rd' RX) : Rd' RX := fun ρ S => (fa ρ S).rv.bind fun x S1 => (fb ρ S1).rv.bind fun y S2 => match rdV S2 x, rdV S2 y with
    | some v1, some v2 => (ofOpt (cmpD o1 v1 v2) S2).bind fun k S3 => if k then (fc ρ S3).rv.bind fun z S4 => match rdV S4 y, rdV S4 z with
        | some v2, some v3 => (ofOpt (cmpD o2 v2 v3) S4).bind fun k2 S5 => if k2 then (fd ρ S5).rv.bind fun w S6 => match rdV S6 z, rdV S6 w with
            | some v3, some v4 => (ofOpt (cmpD o3 v3 v4) S6).bind fun b S7 => .ok (.d (.bl b)) S7
            | _, _ => .stuck
          else .ok (.d (.bl false)) S5
        | _, _ => .stuck
      else .ok (.d (.bl false)) S3
    | _, _ => .stuck
theorem rd_ch3 {K : PySem.W.Frag} {mg : Mg} {o1 o2 o3 : CmpOp} {σ : L2.St} {H : Hp} {Q : VK} (h : tX K mg E (fCh3 o1 o2 o3 fa fb fc fd) σ H Q) :
    tChain3 (rC K o1) (rC K o2) (rC K o3) (tV K mg E fun ρ S => (fa ρ S).rv) (tV K mg E fun ρ S => (fb ρ S).rv) (tV K mg E fun ρ S => (fc ρ S).rv) (tV K mg E fun ρ S => (fd ρ S).rv) σ H Q := by
  obtain ⟨ρ, cm, S, hs, he, q⟩ := h
  refine two_ops okG.zok hs he q fun x y S2 v w H2 cm2 t s vx vy z => rd_link okG.zok s vx vy z fun k z => ⟨k, rfl, ?_⟩
  cases k with
  | false => exact z _ H2 cm2 ⟨Tr.refl, s, .bl _⟩
  | true =>
    have he2 := he.mono t hs
    refine tG_bind (f := fun ρ S => (fc ρ S).rv) okG.zok s he2 z fun y2 S3 u H3 cm3 _ p z => ?_
    obtain ⟨t3, s3, vz⟩ := p
    have z := okG.step t3 z
    refine rd_link okG.zok s3 (vy.mono t3 s) vz z fun k z => ⟨k, rfl, ?_⟩
    cases k with
    | false => exact z _ H3 cm3 ⟨Tr.refl, s3, .bl _⟩
    | true =>
      refine tG_bind (f := fun ρ S => (fd ρ S).rv) okG.zok s3 (he2.mono t3 s) z fun y4 S4 u4 H4 cm4 _ p z => ?_
      obtain ⟨t4, s4, v4⟩ := p
      have z := okG.step t4 z
      exact rd_link okG.zok s4 (vz.mono t4 s3) v4 z fun k z => z _ H4 cm4 ⟨Tr.refl, s4, .bl _⟩
theorem sn_ch3 (g : Gd X CX E lv c G C) {o1 o2 o3 : CmpOp} {f : Expr} (ha : PE X a (tX X.K X.mg E fa)) (hb : PE X b (tX X.K X.mg E fb)) (hd : PE X d (tX X.K X.mg E fc)) (hf : PE X f (tX X.K X.mg E fd)) (hn : notSet f = true) : Snd X (.Compare a [o1, o2, o3] [b, d, f] pos) X.K X.mg E (fCh3 o1 o2 o3 fa fb fc fd) :=
  have hm : lastMarks [o1, o2, o3] [b, d, f] = false := noSet (op := o3) hn
  ⟨PE.imp (pe_chain3 (op_cmpD (hu_room g) o1) (op_cmpD (hu_room g) o2) (op_cmpD (hu_room g) o3) (pe_rv ha) (pe_rv hb) (pe_rv hd) (pe_rv hf) hm) fun _ _ _ => rd_ch3,
    PT.imp (pt_chain3 (op_cmpD (hu_room g) o1) (op_cmpD (hu_room g) o2) (op_cmpD (hu_room g) o3) (pe_rv ha) (pe_rv hb) (pe_rv hd) (pe_rv hf) hm) fun _ _ _ h => rd_ch3 (tru_tX h)⟩

/-! ### calls -/
theorem fns_ok (g : Gd X CX E lv c G C) {f : Nat} {x : Str} {k : Nat} (h : (match c.fns[f]? with | some (y, ps) => decide (x = y) && decide (k = ps.length) | none => false) = true) :
    ∃ m ps fa fd, G[f]? = some m ∧ k = ps.length ∧ X.mg x = some (.ref fa) ∧ PySem.W.keepIn X.K (.ref fa) = true ∧ (∀ us : List Value, us.length = ps.length → bindArgs fd ⟨us, []⟩ = pure (ps.zip us)) ∧
      (∀ np ks perm, (np, ks, perm) ∈ (c.kws[f]?).getD [] → KwOk fd ps np ks perm) ∧ FnG X.prog X.w X.K X.mg X.base CX lv fa fd ps (spOf X.K X.mg ps.length m) := by
  split at h
  · rename_i y ps e
    simp only [Bool.and_eq_true, decide_eq_true_eq] at h
    obtain ⟨rfl, h⟩ := h
    obtain ⟨m, fa, fd, h1, h2, h3, h4, h5, h6⟩ := g.top.fns f _ _ e
    exact ⟨m, ps, fa, fd, h1, h, h2, h3, h4, h5, h6⟩
  · cases h
theorem evs_len (ρ : Rf.Env) : ∀ (ms : Es) (S S' : Store) (vs : List RV), evs G C ms ρ S = .ok vs S' → vs.length = ms.len
  | .nil, S, S', vs, h => by unfold evs at h; cases h; rfl
  | .cons m e es, S, S', vs, h => by
    unfold evs at h
    cases h1 : ev G C e ρ S with
    | stuck => rw [h1] at h; cases h
    | exc x S1 => rw [h1] at h; cases h
    | ok x S1 =>
      rw [h1] at h
      simp only [Res.bind_ok] at h
      cases h2 : conv m x S1 with
      | stuck => rw [h2] at h; cases h
      | exc x S1 => rw [h2] at h; cases h
      | ok v S2 =>
        rw [h2] at h
        simp only [Res.bind_ok] at h
        cases h3 : evs G C es ρ S2 with
        | stuck => rw [h3] at h; cases h
        | exc x S1 => rw [h3] at h; cases h
        | ok ws S3 =>
          rw [h3] at h
          cases h
          simp [Es.len, evs_len ρ es _ _ _ h3]
theorem PX.to {K : PySem.W.Frag} {H0 H H' : Hp} {cm0 cm cm' : List Addr} {S0 S S' : Store} {v : V} {r : RX} (t : Tr H0 cm0 S0 H cm S) (h : PX K H cm S v r H' cm' S') : PX K H0 cm0 S0 v r H' cm' S' := PX.tr h t
theorem pe_call' (g : Gd X CX E lv c G C) {f : Nat} {x : Str} {p : Pos} {ms : Es} (h1 : (match c.fns[f]? with | some (y, ps) => decide (x = y) && decide (ms.len = ps.length) | none => false) = true) (h2 : c.glb x = true) (h3 : x ≠ dbg) (h4 : es.all plainE = true)
    (ha : PA X es (tA X.K X.mg E (evs G C ms))) (hz : es = [] → ms = .nil) : PE X (.Call (.Name x p) es [] pos) (tX X.K X.mg E (ev G C (.call f ms))) := by
  obtain ⟨m, ps, fa, fd, hm, hl, q2, q3, q4, q5, F⟩ := fns_ok g h1
  have e0 : ∀ ρ S, ev G C (.call f ms) ρ S = (evs G C ms ρ S).bind fun vs S1 => m vs S1 := fun ρ S => by unfold ev; simp only [hm]
  cases es with
  | nil =>
    cases hz rfl
    refine PE.imp (pe_callG0 F g.grd g.room g.pass (g.glb h2) q2 q3 (ndb h3) q4) fun σ H Q ⟨ρ, cm, S, hs, he, q⟩ => ?_
    rw [e0] at q
    unfold evs at q
    exact ⟨[], cm, S, hl, hs, .nil, q⟩
  | cons a r =>
    refine PE.imp (pe_callG F g.grd g.room g.pass (g.glb h2) q2 q3 (ndb h3) q4 ha h4) fun σ H Q ⟨ρ, cm, S, hs, he, q⟩ => ?_
    rw [e0] at q
    refine tG_bind okG.zok hs he q fun vs S1 ws H1 cm1 e1 p z => ?_
    obtain ⟨t, s, vv⟩ := p
    exact ⟨vs, cm1, S1, by rw [vv.length, evs_len ρ ms S S1 vs e1]; exact hl, s, vv, okG.step t z⟩
theorem permV_rel {K : PySem.W.Frag} {H : Hp} {cm : List Addr} {S : Store} {vs : List V} {rs : List RV} (h : VsOk K H cm S vs rs) : ∀ {perm : List Nat} {zs : List RV}, permV perm rs = some zs → ∃ ys, perm.mapM (fun i => vs[i]?) = some ys ∧ VsOk K H cm S ys zs ∧ zs.length = perm.length
  | [], zs, e => by simp [permV] at e; subst e; exact ⟨[], rfl, .nil, rfl⟩
  | i :: perm, zs, e => by
    unfold permV at e
    rw [List.mapM_cons] at e
    simp only [Option.pure_def, Option.bind_eq_bind, Option.bind_eq_some_iff, Option.some.injEq] at e
    obtain ⟨u, e1, zs', e2, rfl⟩ := e
    obtain ⟨ys, h1, h2, h3⟩ := permV_rel h (show permV perm rs = some zs' from e2)
    obtain ⟨y, e4, h4⟩ := VsOk.get h e1
    refine ⟨y :: ys, ?_, .cons h4 h2, by simp [h3]⟩
    rw [List.mapM_cons, e4, h1]; rfl
theorem pe_kcall' (g : Gd X CX E lv c G C) {f : Nat} {x : Str} {p : Pos} {ms ns : Es} {perm : List Nat} {kws : List Keyword} (h1 : (match c.fns[f]? with | some (y, ps) => decide (x = y) && decide (perm.length = ps.length) | none => false) = true) (h2 : c.glb x = true) (h3 : x ≠ dbg) (h4 : es.all plainE = true)
    (hn : kws.all (·.arg.isSome) = true) (hk : (es.length, kws.filterMap (·.arg), perm) ∈ (c.kws[f]?).getD []) (ha : PA X es (tA X.K X.mg E (evs G C ms))) (hb : PK X kws (tA X.K X.mg E (evs G C ns))) (l1 : ms.len = es.length) (l2 : ns.len = (kws.filterMap (·.arg)).length) (hz : es = [] → ms = .nil) :
    PE X (.Call (.Name x p) es kws pos) (tX X.K X.mg E (ev G C (.kall f ms ns perm))) := by
  obtain ⟨m, ps, fa, fd, hm, hl, q2, q3, q4, q5, F⟩ := fns_ok g h1
  have e0 : ∀ ρ S, ev G C (.kall f ms ns perm) ρ S = (evs G C ms ρ S).bind fun vs S1 => (evs G C ns ρ S1).bind fun ws S2 => match permV perm (vs ++ ws) with
    | some zs => m zs S2
    | none => .stuck := fun ρ S => by
    unfold ev; simp only [hm]
    congr 1; funext vs S1; congr 1; funext ws S2
    cases permV perm (vs ++ ws) <;> rfl
  have ln : ∀ {ms : Es} {k : Nat}, ms.len = k → ∀ σ H (Q : List V → Hp → Prop), tA X.K X.mg E (evs G C ms) σ H Q → tA X.K X.mg E (evs G C ms) σ H fun vs H1 => vs.length = k ∧ Q vs H1 := fun {ms k} hk σ H Q ⟨ρ, cm, S, hs, he, q⟩ => by
    refine ⟨ρ, cm, S, hs, he, ?_⟩
    cases e1 : evs G C ms ρ S with
    | stuck => rw [e1] at q; exact q
    | exc x S1 => rw [e1] at q; exact q
    | ok vs S1 =>
      rw [e1] at q
      exact fun ws H1 cm1 p => ⟨by rw [p.2.2.length, evs_len ρ ms S S1 vs e1]; exact hk, q ws H1 cm1 p⟩
  have fin : ∀ {H : Hp} {cm : List Addr} {S : Store} {vs ws : List V} {rs us : List RV} {Q : VK}, SR X.K H cm S → VsOk X.K H cm S vs rs → VsOk X.K H cm S ws us → okG X.K X.mg E (PX X.K) Q H cm S (match permV perm (rs ++ us) with
      | some zs => m zs S
      | none => .stuck) → tKw perm (spOf X.K X.mg ps.length m) E (vs ++ ws) H Q := fun {H cm S vs ws rs us Q} s v1 v2 z => by
    cases e1 : permV perm (rs ++ us) with
    | none => rw [e1] at z; exact z.elim
    | some zs =>
      rw [e1] at z
      obtain ⟨ys, a1, a2, a3⟩ := permV_rel (v1.append v2) e1
      exact ⟨ys, a1, zs, cm, S, by rw [a2.length, a3, hl], s, a2, z⟩
  cases es with
  | nil =>
    cases hz rfl
    refine PE.imp (pe_callKG0 F g.grd g.room g.pass (g.glb h2) q2 q3 (ndb h3) (q5 _ _ _ hk) hb hn (ln l2)) fun σ H Q ⟨ρ, cm, S, hs, he, q⟩ => ?_
    rw [e0] at q
    have q : okG X.K X.mg E (PX X.K) Q H cm S ((evs G C ns ρ S).bind fun ws S2 => match permV perm ([] ++ ws) with
      | some zs => m zs S2
      | none => .stuck) := by rw [show evs G C .nil ρ S = .ok [] S by simp only [evs]] at q; exact q
    refine tG_bind okG.zok hs he q fun vs S1 ws H1 cm1 e1 p z => ?_
    obtain ⟨t, s, vv⟩ := p
    exact fin (vs := []) (rs := []) s .nil vv (okG.step t z)
  | cons a r =>
    refine PE.imp (pe_callKG F g.grd g.room g.pass (g.glb h2) q2 q3 (ndb h3) (q5 _ _ _ hk) ha hb h4 hn (ln l1) (ln l2)) fun σ H Q ⟨ρ, cm, S, hs, he, q⟩ => ?_
    rw [e0] at q
    refine tG_bind okG.zok hs he q fun vs S1 ws H1 cm1 e1 p z => ?_
    obtain ⟨t, s, vv⟩ := p
    refine tG_bind okG.zok s (he.mono t hs) (okG.step t z) fun us S2 zs H2 cm2 e2 p2 z2 => ?_
    obtain ⟨t2, s2, v2⟩ := p2
    exact fin s2 (vv.mono t2 s) v2 (okG.step t2 z2)
/-! built-ins -/
theorem pe_bf (g : Gd X CX E lv c G C) {f : Bf} {x : Str} {p : Pos} {a : Expr} {t : L2.TA} (hx : x = f.nm) (h2 : c.glb x = true) (hgcd : f ≠ .gcd ∨ c.gcd = true) (ha : PA X (a :: es) t) (h4 : (a :: es).all plainE = true) : PE X (.Call (.Name x p) (a :: es) [] pos) (tCB (rF X.K f) t) := by
  have hc := call_D g.room g.grd g.calm f
  have hg := g.glb h2
  rw [List.all_cons, Bool.and_eq_true] at h4
  have s1 := star_cons (es := es) (env := X.env) h4.1
  have s2 := star_any (pos := pos) (env := X.env) h4.2
  have nb : x ∈ bltNames → X.mg x = none := g.top.blt x
  subst hx
  cases f with
  | gcd => exact pe_callBfun hc hg (g.top.gcd (by rcases hgcd with h | h; exact absurd rfl h; exact h)) ha (by decide) s1 s2
  | len => exact pe_callB hc hg (nb (by decide)) (by decide +kernel) ha (by decide) (by decide) s1 s2
  | abs => exact pe_callB hc hg (nb (by decide)) (by decide +kernel) ha (by decide) (by decide) s1 s2
  | int => exact pe_callTy hc hg (nb (by decide)) (by decide +kernel) ha (by decide) (by decide) s1 s2
  | max2 => exact pe_callB hc hg (nb (by decide)) (by decide +kernel) ha (by decide) (by decide) s1 s2
  | min2 => exact pe_callB hc hg (nb (by decide)) (by decide +kernel) ha (by decide) (by decide) s1 s2
  | maxL => exact pe_callB hc hg (nb (by decide)) (by decide +kernel) ha (by decide) (by decide) s1 s2
  | minL => exact pe_callB hc hg (nb (by decide)) (by decide +kernel) ha (by decide) (by decide) s1 s2
  | sum => exact pe_callB hc hg (nb (by decide)) (by decide +kernel) ha (by decide) (by decide) s1 s2
  | all => exact pe_callB hc hg (nb (by decide)) (by decide +kernel) ha (by decide) (by decide) s1 s2
  | any => exact pe_callB hc hg (nb (by decide)) (by decide +kernel) ha (by decide) (by decide) s1 s2
  | tuple => exact pe_callTy hc hg (nb (by decide)) (by decide +kernel) ha (by decide) (by decide) s1 s2
  | list => exact pe_callTy hc hg (nb (by decide)) (by decide +kernel) ha (by decide) (by decide) s1 s2
  | repr => exact pe_callB hc hg (nb (by decide)) (by decide +kernel) ha (by decide) (by decide) s1 s2
  | divmod => exact pe_callB hc hg (nb (by decide)) (by decide +kernel) ha (by decide) (by decide) s1 s2
  | sorted => exact pe_callB hc hg (nb (by decide)) (by decide +kernel) ha (by decide) (by decide) s1 s2
  | str => exact pe_callTy hc hg (nb (by decide)) (by decide +kernel) ha (by decide) (by decide) s1 s2
theorem pe_blt' (g : Gd X CX E lv c G C) {f : Bf} {x : Str} {p : Pos} {a : Expr} {fs : Rd' (List RV)} (hx : x = f.nm) (h2 : c.glb x = true) (hgcd : f ≠ .gcd ∨ c.gcd = true) (ha : PA X (a :: es) (tA X.K X.mg E fs)) (h4 : (a :: es).all plainE = true) :
    PE X (.Call (.Name x p) (a :: es) [] pos) (tX X.K X.mg E fun ρ S => (fs ρ S).bind fun vs S1 => match rdVs S1 vs with
      | some ds => ofOpt (bltD f ds) S1
      | none => .stuck) :=
  PE.imp (pe_bf g hx h2 hgcd ha h4) fun σ H Q ⟨ρ, cm, S, hs, he, q⟩ => tG_bind okG.zok hs he q fun vs S1 ws H1 cm1 _ p z => by
    obtain ⟨t, s, vv⟩ := p
    have z := okG.step t z
    cases e1 : rdVs S1 vs with
    | none => rw [e1] at z; exact z.elim
    | some ds =>
      rw [e1] at z
      dsimp only at z
      refine ⟨cm1, S1, ds, s, rds_ok s vv e1, ?_⟩
      cases h : bltD f ds with
      | none => rw [h] at z; exact z
      | some r => rw [h] at z; exact z
end
end Rf

set_option Elab.async false
set_option linter.all false
set_option maxRecDepth 100000
set_option maxHeartbeats 1000000
namespace Rf
open PySem PySem.Spec PyProof.Rows L2
/-! methods, isinstance, targets -/
section
variable {X : Cx} {CX : CXT} {E : XK} {lv : Nat} {c : Ct} {G : List Mir} {C : List D} {a b d e : Expr} {fa fb fc fd : Rd' RX} {pos : Pos} {es : List Expr}
theorem star_noneS {env : PySem.Env} {pos : Pos} : ∀ {es : List Expr}, es.all plainE = true → (backTo pos (starEach es env)).all (fun x => !x.1) = true
  | [], _ => rfl
  | e :: es, h => by
    rw [List.all_cons, Bool.and_eq_true] at h
    rw [star_cons h.1]
    have ih := star_noneS (pos := pos) (env := env) h.2
    show (true && (backTo pos (starEach es env)).all (fun x => !x.1)) = true
    rw [ih]; rfl
theorem base_of {o : Expr} {n : Str} {env : PySem.Env} (h : notCall o = true) : attributeBase o n env (eval o env) = eval o env := by
  cases o <;> first | rfl | simp [notCall] at h
def Mf.id : Mf → String
  | .split => "str.split"
  | .join => "str.join"
  | .index => "str.index"
  | .count => "str.count"
def rM (K : PySem.W.Frag) (f : Mf) : V → List V → Hp → VK → Prop := fun x vs H Q => ∃ cm S z ds, SR K H cm S ∧ x = .str z ∧ Rqs K H (Lv cm S) vs ds ∧ RX1 K H Q cm S (mthD f (.str z) ds)
theorem mt_D (f : Mf) (hf : f = .split ∨ f = .join) : MtR X f.id (rM X.K f) := by
  intro pins s σ H x vs v us Q I rx rv h
  obtain ⟨cm, S, z, ds, hs, rfl, rq, q⟩ := h
  rcases hf with rfl | rfl
  · cases rq with
    | nil => exact q.elim
    | cons r1 r2 => cases r2 with
      | cons _ _ => rename_i d1 _ _ _ _ _ _; cases d1 <;> exact q.elim
      | nil =>
        rename_i d
        cases d with
        | str y =>
          have := r1.str; subst this
          simp only [mthD] at q
          split at q
          · rename_i hc
            obtain ⟨h1, h2⟩ := hc
            refine mt_split pins s σ H _ _ v us Q I rx rv ⟨z, y, rfl, rfl, by simpa using h1, by rw [← line_eq]; exact h2, fun p hp => q _ _ cm (mkF hs hp (rps_strs X.K H (Lv cm S) _))⟩
          · exact q.elim
        | _ => exact q.elim
  · cases rq with
    | nil => exact q.elim
    | cons r1 r2 => cases r2 with
      | cons _ _ => rename_i d1 _ _ _ _ _ _; cases d1 <;> exact q.elim
      | nil =>
        rename_i d
        cases d with
        | lst ys =>
          obtain ⟨a, ws, rfl, ha, hw⟩ := r1.lst
          simp only [mthD] at q
          cases hz : strL ys with
          | none => rw [hz] at q; exact q.elim
          | some zs =>
            rw [hz] at q
            dsimp only at q
            split at q
            · rename_i hc
              have e := strs_rps hw hz
              subst e
              exact mt_join pins s σ H _ _ v us Q I rx rv ⟨z, a, zs, rfl, rfl, .inl ha.sq, hc, q _ _ cm (mkD hs (.str _))⟩
            · exact q.elim
        | _ => exact q.elim
theorem pe_mth' (f : Mf) {m : Str} {ap : Pos} {fs : Rd' (List RV)} {o : Expr} (hm : m = f.nm) (hf : f = .split ∨ f = .join) (hl : (ap.endLine == pos.line) = true) (hn : notCall o = true) (h8 : es.length < 8) (hp : (a :: es).all plainE = true)
    (ho : PE X o (tX X.K X.mg E fa)) (ha : PA X (a :: es) (tA X.K X.mg E fs)) : PE X (.Call (.Attribute o m ap) (a :: es) [] pos) (tX X.K X.mg E fun ρ S => (fa ρ S).bind fun x S1 => match x with
    | .d (.str z) => (fs ρ S1).bind fun vs S2 => (match rdVs S2 vs with
      | some ds => ofOpt (mthD f (.str z) ds) S2
      | none => .stuck)
    | _ => .stuck) := by
  have hp' := hp
  rw [List.all_cons, Bool.and_eq_true] at hp'
  have few : ((backTo pos (starEach (a :: es) X.env)).all (fun x => !x.1) && (backToKw pos (keywordEach [] X.env)).all (fun x => x.1.isSome)
      && decide ((a :: es).length + ([] : List Keyword).length + (if ([] : List Keyword).isEmpty then 0 else 1) < 30)) = true := by
    rw [star_noneS hp]
    have : (a :: es).length + ([] : List Keyword).length + (if ([] : List Keyword).isEmpty then 0 else 1) < 30 := by simp; omega
    rw [decide_eq_true this]; rfl
  have main : PE X (.Call (.Attribute o m ap) (a :: es) [] pos) (tBM X.K "str" (rM X.K f) (tX X.K X.mg E fa) (tA X.K X.mg E fs)) := by
    subst hm
    rcases hf with rfl | rfl
    · exact pe_bm PySem.F.plainAttrs_str PySem.F.slot_str_split PySem.F.type_str_split (mt_D .split (.inl rfl)) ho ha (base_of hn) few hl (star_cons hp'.1) (star_any hp'.2)
    · exact pe_bm PySem.F.plainAttrs_str PySem.F.slot_str_join PySem.F.type_str_join (mt_D .join (.inr rfl)) ho ha (base_of hn) few hl (star_cons hp'.1) (star_any hp'.2)
  refine PE.imp main fun σ H Q ⟨ρ, cm, S, hs, he, q⟩ => tG_bind okG.zok hs he q fun x S1 v H1 cm1 _ p z => ?_
  cases x with
  | d d => cases d with
    | str w =>
      obtain ⟨t, s, vx⟩ := p
      cases vx
      refine ⟨rfl, tG_bind okG.zok s (he.mono t hs) (okG.step t z) fun vs S2 ws H2 cm2 _ p2 z2 => ?_⟩
      obtain ⟨t2, s2, vv⟩ := p2
      have z2 := okG.step t2 z2
      cases e1 : rdVs S2 vs with
      | none => rw [e1] at z2; exact z2.elim
      | some ds =>
        rw [e1] at z2
        dsimp only at z2
        refine ⟨cm2, S2, w, ds, s2, rfl, rds_ok s2 vv e1, ?_⟩
        cases h : mthD f (.str w) ds with
        | none => rw [h] at z2; exact z2
        | some r => rw [h] at z2; exact z2
    | _ => exact z.elim
  | _ => exact z.elim
/-! pop -/
theorem dropLast_get {α : Type} {xs : List α} {d : α} (h : xs.getLast? = some d) : xs[xs.length - 1]? = some d := by
  rw [← h, List.getLast?_eq_getElem?]
theorem pe_pop' (g : Gd X CX E lv c G C) {i : Nat} {x m : Str} {p ap : Pos} (hm : m = "pop") (hl : (ap.endLine == pos.line) = true) (h1 : c.slot i x = true) (h2 : c.vis x = true) (h3 : x ≠ dbg) (h4 : x ≠ cld) :
    PE X (.Call (.Attribute (.Name x p) m ap) [] [] pos) (tX X.K X.mg E (ev G C (.pop i))) := by
  subst hm
  refine PE.imp (pe_bm0 PySem.F.plainAttrs_list PySem.F.slot_list_pop PySem.F.type_list_pop mt_pop (pe_var (g.slot h1) (g.vis h2) (ndb h3) (ncd h4)) (by rfl) hl) fun σ H Q ⟨ρ, cm, S, hs, he, q⟩ => ?_
  unfold ev at q
  cases e1 : ρ[i]? with
  | none => rw [e1] at q; exact q.elim
  | some o => cases o with
    | none => rw [e1] at q; exact q.elim
    | some r => cases r with
      | d d => rw [e1] at q; exact q.elim
      | c n =>
        rw [e1] at q
        dsimp only at q
        obtain ⟨v, hv, ad, rfl, ha⟩ := he.at' i _ e1
        cases e2 : S[n]? with
        | none => rw [e2] at q; exact q.elim
        | some cl => cases cl with
          | fz ds => rw [e2] at q; exact q.elim
          | lst ds =>
            rw [e2] at q
            dsimp only at q
            obtain ⟨vs, hH, rv⟩ := hs.ok n ad _ ha e2
            have rv : Rps X.K H (Lv cm S) vs ds := rv
            cases e3 : ds.getLast? with
            | none => rw [e3] at q; exact q.elim
            | some d =>
              rw [e3] at q
              obtain ⟨y, hy, ry⟩ := rv.get (dropLast_get e3)
              refine ⟨.ref ad, hv, .inl ⟨rfl, vs, .of hH⟩, ad, vs, y, rfl, rfl, hH, by rw [rv.length]; exact hy, ?_⟩
              have tr := wr_tr (es := ds.dropLast) hs ha e2 (.lst vs.dropLast)
              exact q y _ cm ⟨tr, wr_sr hs ha e2 rv.dropLast, ry.mono (tr.toExt hs)⟩
/-! isinstance -/
def tyD : D → String
  | .non => "NoneType"
  | .bl _ => "bool"
  | .int _ => "int"
  | .str _ => "str"
  | .tup _ => "tuple"
  | .lst _ => "list"
def Ty.id : Ty → String
  | .int => "int"
  | .bool => "bool"
  | .str => "str"
  | .list => "list"
  | .tuple => "tuple"
theorem tyX_of {K : PySem.W.Frag} {H : Hp} {L : Addr → Prop} {v : V} {d : D} (h : Rq K H L v d) : TyX K H v (.type (tyD d)) := by
  cases d with
  | non => cases h.non; exact .base .non
  | bl b => cases h.bl; exact .base (.bl b)
  | int i => cases h.int; exact .base (.int i)
  | str x => cases h.str; exact .base (.str x)
  | tup ds =>
    obtain ⟨a, vs, rfl, q, _⟩ := h.tup
    rcases q with (q | ⟨o, q⟩) | ⟨o, its, n, q, hc, _⟩
    · exact .base (.tup q)
    · exact .fTuple q
    · exact .kTuple q hc
  | lst ds =>
    obtain ⟨a, vs, rfl, q, _⟩ := h.lst
    rcases q with q | ⟨o, q⟩ | q
    · exact .base (.lst q)
    · exact .base (.frz q)
    · obtain ⟨its, n, q, _⟩ := q
      exact .kList q rfl
theorem kitB_isD (d : D) (t : Ty) : kitB (tyD d) t.id = some (isD d t) := by
  cases d <;> cases t <;> (show kitB _ _ = some _; simp only [tyD, Ty.id, isD]; decide +kernel)
theorem kitAny_isD {K : PySem.W.Frag} (d : D) : ∀ ts : List Ty, PySem.W.kitAny K (.type (tyD d)) (ts.map fun t => Value.type t.id) = some (ts.any (isD d))
  | [] => kitAny_nil
  | t :: ts => by
    refine kitAny_cons (kit_ty (kitB_isD d t)) (fun e => ?_) (fun e => ?_)
    · rw [List.any_cons, e, Bool.false_or]; exact kitAny_isD d ts
    · rw [List.any_cons, e, Bool.true_or]
theorem pe_ty (g : Gd X CX E lv c G C) {t : Ty} (h : chkTy c e t = true) : PE X e (tC (.ty t.id)) := by
  cases e with
  | Name x p =>
    simp only [chkTy, Bool.and_eq_true, decide_eq_true_eq] at h
    obtain ⟨rfl, h2⟩ := h
    cases t with
    | int => exact pe_bltn (u := .type "int") (g.glb h2) (g.top.blt _ (by decide)) (by decide +kernel) rfl (by decide) (by decide)
    | bool => exact pe_bltn (u := .type "bool") (g.glb h2) (g.top.blt _ (by decide)) (by decide +kernel) rfl (by decide) (by decide)
    | str => exact pe_bltn (u := .type "str") (g.glb h2) (g.top.blt _ (by decide)) (by decide +kernel) rfl (by decide) (by decide)
    | list => exact pe_bltn (u := .type "list") (g.glb h2) (g.top.blt _ (by decide)) (by decide +kernel) rfl (by decide) (by decide)
    | tuple => exact pe_bltn (u := .type "tuple") (g.glb h2) (g.top.blt _ (by decide)) (by decide +kernel) rfl (by decide) (by decide)
  | _ => simp [chkTy] at h
def tTys (ts : List Ty) : L2.TA := fun _ H Q => Q (ts.map fun t => .ty t.id) H
theorem pa_tys (g : Gd X CX E lv c G C) : ∀ {es : List Expr} {ts : List Ty}, chkTys c es ts = true → PA X es (tTys ts)
  | [], [], _ => PA.imp pa_nil fun σ H Q h => h
  | e :: es, t :: ts, h => by
    simp only [chkTys, Bool.and_eq_true] at h
    exact PA.imp (pa_cons (pe_ty g h.1.1) (pa_tys g h.2) (star_cons h.1.2)) fun σ H Q h => h
  | [], _ :: _, h => by simp [chkTys] at h
  | _ :: _, [], h => by simp [chkTys] at h
theorem paired_ty : ∀ ts : List Ty, Paired ClsV (ts.map fun t => V.ty t.id) (ts.map fun t => Value.type t.id)
  | [] => .nil
  | t :: ts => .cons (.ty _) (paired_ty ts)
theorem pe_isi1 (g : Gd X CX E lv c G C) {x : Str} {p : Pos} {t : Expr} {u : Ty} (hx : x = "isinstance") (h2 : c.glb x = true) (hp : plainE a = true) (ha : PE X a (tX X.K X.mg E fa)) (ht : chkTy c t u = true) (hpt : plainE t = true) :
    PE X (.Call (.Name x p) [a, t] [] pos) (tX X.K X.mg E fun ρ S => (fa ρ S).rv.bind fun x S1 => match rdV S1 x with
    | some d => .ok (.d (.bl ([u].any (isD d)))) S1
    | none => .stuck) := by
  subst hx
  have hb := pe_callB (pos := pos) (p := p) call_isi (g.glb h2) (g.top.blt _ (by decide)) (by decide +kernel) (pa_cons (pe_rv ha) (pa_cons (pe_ty g ht) pa_nil (star_cons hpt)) (star_cons hp)) (by decide) (by decide) (star_cons hp) (star_any (by simp [hpt]))
  refine PE.imp hb fun σ H Q ⟨ρ, cm, S, hs, he, q⟩ => tG_bind (f := fun ρ S => (fa ρ S).rv) okG.zok hs he q fun y S1 v H1 cm1 _ p z => ?_
  obtain ⟨t1, s1, vx⟩ := p
  have z := okG.step t1 z
  cases e1 : rdV S1 y with
  | none => rw [e1] at z; exact z.elim
  | some d =>
    rw [e1] at z
    have r := rd_ok s1 vx e1
    refine ⟨v, .ty u.id, .type (tyD d), .type u.id, isD d u, rfl, .ty _, tyX_of r, kit_ty (kitB_isD d u), ?_⟩
    have z2 := z (.bl ([u].any (isD d))) H1 cm1 ⟨Tr.refl, s1, .bl _⟩
    simpa using z2
theorem Rq.mono {K : PySem.W.Frag} {H H' : Hp} {L L' : Addr → Prop} {v : V} {d : D} (h : Rq K H L v d) (x : Ext H H' L L') (hk : ∀ a o, H a = some o → H' a = some o) : Rq K H' L' v d := by
  rcases h with h | ⟨a, vs, ds, e1, e2, q, z⟩
  · exact .inl (h.mono x)
  · refine .inr ⟨a, vs, ds, e1, e2, ?_, z.mono x⟩
    rcases q with q | ⟨o, q⟩ | q
    · exact .inl (hk _ _ q)
    · exact .inr (.inl ⟨o, hk _ _ q⟩)
    · exact .inr (.inr q)
theorem pe_isi2 (g : Gd X CX E lv c G C) {x : Str} {p p2 : Pos} {k : Nat} {ts : List Ty} (hx : x = "isinstance") (h2 : c.glb x = true) (hp : plainE a = true) (ha : PE X a (tX X.K X.mg E fa)) (ht : chkTys c es ts = true) (hlen : es.length ≤ 16) :
    PE X (.Call (.Name x p) [a, .Tuple es k p2] [] pos) (tX X.K X.mg E fun ρ S => (fa ρ S).rv.bind fun x S1 => match rdV S1 x with
    | some d => .ok (.d (.bl (ts.any (isD d)))) S1
    | none => .stuck) := by
  subst hx
  have hb := pe_callB (pos := pos) (p := p) call_isiT (g.glb h2) (g.top.blt _ (by decide)) (by decide +kernel) (pa_cons (pe_rv ha) (pa_cons (pe_tup (x1 := k) (pos := p2) (pa_tys g ht)) pa_nil (star_cons (by rfl))) (star_cons hp)) (by decide) (by decide) (star_cons hp) (star_any (by rfl))
  have ll : ∀ {es : List Expr} {ts : List Ty}, chkTys c es ts = true → ts.length = es.length := fun {es} => by
    induction es with
    | nil => intro ts h; cases ts <;> simp [chkTys] at h ⊢
    | cons e es ih => intro ts h; cases ts with
      | nil => simp [chkTys] at h
      | cons t ts => simp only [chkTys, Bool.and_eq_true] at h; simp [ih h.2]
  refine PE.imp hb fun σ H Q ⟨ρ, cm, S, hs, he, q⟩ => tG_bind (f := fun ρ S => (fa ρ S).rv) okG.zok hs he q fun y S1 v H1 cm1 _ p z => ?_
  obtain ⟨t1, s1, vx⟩ := p
  have z := okG.step t1 z
  cases e1 : rdV S1 y with
  | none => rw [e1] at z; exact z.elim
  | some d =>
    rw [e1] at z
    have r := rd_ok s1 vx e1
    refine ⟨by rw [List.length_map, ll ht]; exact Nat.le_trans hlen (by rw [sizeLine_eq]; decide), fun pa hpa => ?_⟩
    have r2 := r.mono (Ext.new (o := .tup (ts.map fun t => V.ty t.id)) s1.lst hpa) fun b o e => by rw [upd_ne (ne_of_none e hpa)]; exact e
    refine ⟨v, pa, _, .type (tyD d), _, ts.any (isD d), rfl, upd_same, paired_ty ts, tyX_of r2, kitAny_isD d ts, ?_⟩
    exact z _ _ cm1 ⟨Tr.new s1 hpa, s1.new hpa, .bl _⟩
/-! targets -/
theorem wipe_get {α : Type} (σ : List (Option α)) (i : Nat) : True := trivial
theorem wipe_look (σ : L2.St) : ∀ (vs : List Nat) (j : Nat), (wipe σ vs)[j]? = if j ∈ vs ∧ j < σ.length then some none else σ[j]?
  | [], j => by simp [wipe]
  | v :: vs, j => by
    unfold wipe
    by_cases h : v = j
    · subst h
      by_cases hl : v < σ.length
      · rw [List.getElem?_set_self (by rw [wipe_length]; exact hl), if_pos ⟨List.mem_cons_self, hl⟩]
      · rw [List.getElem?_eq_none (by simpa [wipe_length] using hl), if_neg (fun z => hl z.2), List.getElem?_eq_none (by simpa using hl)]
    · rw [List.getElem?_set_ne h, wipe_look σ vs j]
      have : (j ∈ v :: vs ∧ j < σ.length) ↔ (j ∈ vs ∧ j < σ.length) := by simp [Ne.symm h]
      simp only [this]
theorem wipe_set {σ : L2.St} {i : Nat} {x : Option V} {own : List Nat} (h : i ∈ own) : wipe (σ.set i x) own = wipe σ own := by
  apply List.ext_getElem?
  intro j
  rw [wipe_look, wipe_look, List.length_set]
  by_cases hj : j ∈ own ∧ j < σ.length
  · rw [if_pos hj, if_pos hj]
  · rw [if_neg hj, if_neg hj]
    by_cases hi : i = j
    · subst hi
      have : ¬ i < σ.length := fun z => hj ⟨h, z⟩
      rw [List.getElem?_eq_none (by simpa using this), List.getElem?_eq_none (by simpa using this)]
    · rw [List.getElem?_set_ne hi]
def gD (K : PySem.W.Frag) (tg : List Nat) (one : Bool) : TG := fun v σ H Q => ∃ ρ cm S d ρ1, SR K H cm S ∧ ER K H cm S ρ σ ∧ Rp K H (Lv cm S) v d ∧ bindT tg one d ρ = some ρ1 ∧ ∀ σ1, ER K H cm S ρ1 σ1 → (∀ own, (∀ i ∈ tg, i ∈ own) → wipe σ1 own = wipe σ own) → Q σ1 H
/-- several names -/
def gNs (is : List Nat) : TGs := fun vs σ H Q => vs.length = is.length ∧ Q ((is.zip vs).foldl (fun σ p => σ.set p.1 (some p.2)) σ) H
theorem pgs_ns (g : Gd X CX E lv c G C) : ∀ {es : List Expr} {is : List Nat}, chkNs c es is = true → PGs X es (gNs is) ∧ (assignEach es X.env).length = is.length ∧ (assignEach es X.env).findIdx? (·.1) = none
  | [], [], _ => ⟨⟨fun pins s σ H vs us Q I r ⟨h1, h2⟩ => pgs_nil.run pins s σ H vs us Q I r (by
      cases vs with
      | nil => exact ⟨rfl, h2⟩
      | cons _ _ => simp at h1)⟩, rfl, rfl⟩
  | e :: es, i :: is, h => by
    cases e with
    | Name x p =>
      simp only [chkNs, Bool.and_eq_true] at h
      obtain ⟨⟨h1, h2⟩, h3⟩ := h
      obtain ⟨a1, a2, a3⟩ := pgs_ns g h3
      have hl := g.loc h2
      have h0 : PGs X (.Name x p :: es) (gCons (gName i) (gNs is)) := pgs_cons (pg_name g.nd (g.slot h1) hl.1 hl.2) a1 (by rfl)
      refine ⟨⟨fun pins s σ H vs us Q I r ⟨h1, h2⟩ => h0.run pins s σ H vs us Q I r ?_⟩, ?_, ?_⟩
      · cases vs with
        | nil => simp at h1
        | cons v vs => exact ⟨v, vs, rfl, by simpa using h1, h2⟩
      · show (assignEach es X.env).length + 1 = is.length + 1
        rw [a2]
      · show List.findIdx? (·.1) ((false, assign (.Name x p) X.env) :: assignEach es X.env) = none
        rw [List.findIdx?_cons, a3]; rfl
    | _ => simp [chkNs] at h
  | [], _ :: _, h => by simp [chkNs] at h
  | e :: _, [], h => by cases e <;> simp [chkNs] at h
theorem er_fold {K : PySem.W.Frag} {H : Hp} {cm : List Addr} {S : Store} : ∀ {is : List Nat} {vs : List V} {ds : List D} {ρ : Rf.Env} {σ : L2.St}, ER K H cm S ρ σ → Rps K H (Lv cm S) vs ds →
    ER K H cm S ((is.zip ds).foldl (fun ρ p => ρ.set p.1 (some (.d p.2))) ρ) ((is.zip vs).foldl (fun σ p => σ.set p.1 (some p.2)) σ)
  | [], _, _, _, _, e, _ => e
  | i :: is, _, _, _, _, e, .nil => e
  | i :: is, _, _, ρ, σ, e, .cons (v := v) (d := d) h q => er_fold (is := is) (e.set (i := i) (v := v) (r := .d d) h) q
theorem wipe_fold : ∀ {is : List Nat} {vs : List V} {σ : L2.St} {own : List Nat}, (∀ i ∈ is, i ∈ own) → wipe ((is.zip vs).foldl (fun σ p => σ.set p.1 (some p.2)) σ) own = wipe σ own
  | [], _, _, _, _ => rfl
  | i :: is, [], _, _, _ => rfl
  | i :: is, v :: vs, σ, own, h => by
    show wipe ((is.zip vs).foldl _ (σ.set i (some v))) own = _
    rw [wipe_fold fun j hj => h j (List.mem_cons_of_mem _ hj), wipe_set (h i List.mem_cons_self)]
theorem pg_D (g : Gd X CX E lv c G C) {tg : List Nat} {one : Bool} (h : chkTg c e tg one = true) : PG X e (gD X.K tg one) := by
  cases e with
  | Name x p =>
    cases one with
    | false => simp [chkTg] at h
    | true => match tg, h with
      | [i], h =>
        simp only [chkTg, Bool.and_eq_true] at h
        have hl := g.loc h.2
        refine PG.imp (pg_name g.nd (g.slot h.1) hl.1 hl.2) fun v σ H Q ⟨ρ, cm, S, d, ρ1, hs, he, rp, hb, q⟩ => ?_
        simp only [bindT, if_true, Option.some.injEq] at hb
        subst hb
        exact q _ (he.set rp) fun own ho => wipe_set (ho i (by simp))
      | [], h => simp [chkTg] at h
      | _ :: _ :: _, h => simp [chkTg] at h
  | Tuple es k p =>
    cases one with
    | true => simp [chkTg] at h
    | false =>
      have h' : chkNs c es tg = true := by simpa [chkTg] using h
      obtain ⟨a1, a2, a3⟩ := pgs_ns g h'
      refine PG.imp (pg_tup g.calm a1 rfl a3) fun v σ H Q ⟨ρ, cm, S, d, ρ1, hs, he, rp, hb, q⟩ => ?_
      cases rp with
      | tup ht rv =>
        simp only [bindT, Bool.false_eq_true, if_false] at hb
        split at hb
        · rename_i hlen
          cases hb
          refine ⟨_, _, rfl, ht, by rw [rv.length, hlen, a2], by rw [rv.length, hlen], q _ (er_fold he rv) fun own ho => wipe_fold ho⟩
        · cases hb
      | _ => simp [bindT] at hb
  | _ => simp [chkTg] at h
end
end Rf

set_option Elab.async false
set_option linter.all false
set_option maxRecDepth 100000
set_option maxHeartbeats 4000000
namespace Rf
open PySem PySem.Spec PyProof.Rows L2
open AutoSeq1 (wpAny_loadPart')
/-! enumerate of a tuple -/
theorem new_enumT (t : Addr) (items : Array Value) :
    Meets (Builtin.«enumerate.__new__» ⟨[.type "enumerate", .ref t], []⟩) (fun _ R s => s.heap.IsTuple t items ∧
      R (.ok (.ret (.ref (s.heap.push { cls := .type "tuple_iterator", data := .fields #[.ref t, .int 0 0] }).objs.size)))
        { s with heap := (s.heap.push { cls := .type "tuple_iterator", data := .fields #[.ref t, .int 0 0] }).push { cls := .type "enumerate", data := .fields #[.none, .bool false, .ref s.heap.objs.size, rawInt 0, .none, .none] } }) := by
  refine .of_wp fun prog w A R s h => ?_
  obtain ⟨hp, g, d, tk, os⟩ := s
  obtain ⟨hT, q⟩ := h
  have sub := sub_enumerate
  wp_walk
  refine wpAny_stack_any fun st => wpAny_pure ?_
  split
  · rename_i c _ _ _ _ _
    cases (c == Value.type "enumerate") <;>
    · wp_walk using wpAny_pyIter_tuple hT
      exact ⟨_, rfl, q⟩
  · wp_walk using wpAny_pyIter_tuple hT
    exact ⟨_, rfl, q⟩
section
variable {prog : Program} {w : World} {A : Around} {E : Value → Shared → Prop} {s : Shared}
theorem call_enumT {t : Addr} {items : Array Value} {Q : Value → Shared → Prop} (hT : s.heap.IsTuple t items)
    (q : ∀ h', IsEnum h' (s.heap.objs.size + 1) s.heap.objs.size 0 .none → h'.IsTupleIter s.heap.objs.size t 0 → (∀ b o, s.heap.get? b = some o → h'.get? b = some o) → Q (.ref (s.heap.objs.size + 1)) { s with heap := h' }) :
    wpAny (model prog w) A (call (.type "enumerate") [.ref t]) Q E s := by
  refine callType_new F.called_enumerate (by decide) (F.typeCall_enumerate_1 _) (F.newCall_enumerate_1 _) (fun obj => F.args_object_init_2 obj _) F.entry_enumerate_new (new_enumT t items) ⟨hT, ?_⟩
  generalize e1 : s.heap.push { cls := .type "tuple_iterator", data := .fields #[.ref t, .int 0 0] } = h1
  have z1 : h1.objs.size = s.heap.objs.size + 1 := by rw [← e1]; exact Heap.size_push ..
  generalize e2 : h1.push { cls := .type "enumerate", data := .fields #[.none, .bool false, .ref s.heap.objs.size, rawInt 0, .none, .none] } = h2
  have k2 : ∀ b o, h1.get? b = some o → h2.get? b = some o := fun b o x => by rw [← e2]; exact Heap.get?_push_of_some _ x
  have k1 : ∀ b o, s.heap.get? b = some o → h1.get? b = some o := fun b o x => by rw [← e1]; exact Heap.get?_push_of_some _ x
  have en : h2.get? h1.objs.size = some { cls := .type "enumerate", data := .fields #[.none, .bool false, .ref s.heap.objs.size, rawInt 0, .none, .none] } := by rw [← e2]; exact Heap.get?_push_size _ rfl
  rw [z1] at en
  have itr : h1.get? s.heap.objs.size = some { cls := .type "tuple_iterator", data := .fields #[.ref t, .int 0 0] } := by rw [← e1]; exact Heap.get?_push_size _ rfl
  show _ ∧ _
  rw [z1]
  exact ⟨⟨_, en, rfl⟩, q h2 en ⟨_, k2 _ _ itr, rfl, rfl⟩ fun b o x => k2 b o (k1 b o x)⟩
end
def IteT (K : PySem.W.Frag) (a : Addr) : It where
  go := fun i H => ∃ (xs : List V) (x : V), SqT K H a xs ∧ xs[i]? = some x
  yld := fun i H v H' => ∃ T x, v = .ref T ∧ H T = none ∧ H' = upd H T (.tup [.int (i : Nat), x]) ∧ ∀ xs, SqT K H a xs → xs[i]? = some x
  stop := fun i H => ∃ xs : List V, SqT K H a xs ∧ xs.length = i
theorem turn_enumT {P : Program} {w : World} {K : PySem.W.Frag} {elts : List Expr} {kk : Nat} {tpos : Pos} (a e it : Addr) :
    Turn P w K (.Tuple elts kk tpos) (IteT K a) [e, it] e (fun i h => (∃ old, IsEnum h e it ((i : Nat) : Int) old) ∧ h.IsTupleIter it a i ∧ e ≠ it) where
  mem := by simp
  obj := fun i h st b hb => by
    obtain ⟨⟨old, he⟩, ⟨o, ho, hc, hd⟩, hne⟩ := st
    rcases List.mem_cons.mp hb with z | z
    · subst z; exact ⟨_, he, fun v q => nomatch q⟩
    · rw [List.mem_singleton.mp z]; exact ⟨o, ho, fun v q => by rw [hd] at q; cases q⟩
  keep := fun i h h' st k => by
    obtain ⟨⟨old, he⟩, hi, hne⟩ := st
    exact ⟨⟨old, k e List.mem_cons_self _ he⟩, hi.at fun o q => k it (by simp) o q, hne⟩
  item := by
    intro X hP hw hK hc i pins s σ H E I hf st hg
    subst hP; subst hw; subst hK
    obtain ⟨⟨old, he⟩, hit, hne⟩ := st
    obtain ⟨xs, x, hq, hx⟩ := hg
    obtain ⟨its, rv, tp, hz⟩ := I.tuple hq
    have tp' : s.heap.IsTuple a its.toArray := tp
    obtain ⟨u, hu, ru⟩ := rv.get hx
    have lt1 : e < s.heap.objs.size := Heap.lt_size he
    have lt2 : it < s.heap.objs.size := by obtain ⟨_, q, _⟩ := hit; exact Heap.lt_size q
    have na : a ≠ it := fun z => by
      subst z
      obtain ⟨o, e1, c1, _⟩ := tp'
      obtain ⟨o2, e2, c2, _⟩ := hit
      rw [e1] at e2; cases e2
      rw [c1] at c2; revert c2; decide +kernel
    have ne : e ≠ a := fun z => by
      subst z
      obtain ⟨o, e1, c1, _⟩ := tp'
      rw [show s.heap.get? e = _ from he] at e1; cases e1
      have c2 : Value.type "enumerate" = Value.type "tuple" := c1
      revert c2; decide +kernel
    have hi : i < its.toArray.size := by
      have := (List.getElem?_eq_some_iff.mp hx).1
      rw [rv.length] at this
      simpa using this
    refine wpAny_pyNext_enum_itemD (Draws.tuple (by show X.A.in1.handled = none; exact I.ok.hd hc) it a na its.toArray) he ⟨hit, tp'⟩ hi hne (by simp [hne, ne]) fun y h' tk hy ho st' hT hsz hk => ?_
    have ey : y = u := by
      have z : its[i]? = some y := by simpa using hy
      rw [hu] at z
      exact (Option.some.inj z).symm
    subst ey
    refine ⟨_, rfl, wpAny_letOwnedTupleGo_enum (s := { s with heap := h', toks := tk + 1 }) ho fun h2 he2 sb => ?_⟩
    have g2 : h2.get? s.heap.objs.size = some { cls := .type "tuple", data := .seq #[.int i tk, y] } := (sb.2 _ (Nat.ne_of_gt lt1)).trans hT
    have mk : ObjOk X.prog X.w (upd H s.heap.objs.size (.tup [.int (i : Nat), x])) h2 s.heap.objs.size (.tup [.int (i : Nat), x]) :=
      ⟨by show 2 ≤ sizeLine; decide, [.int i tk, y], .cons ⟨_, rfl⟩ (.cons ru .nil), _, g2, rfl, _, rfl⟩
    have I2 : Inv X pins σ (upd H s.heap.objs.size (.tup [.int (i : Nat), x])) { s with heap := h2, toks := tk + 1 } :=
      I.turnedNew (ch := [e, it]) (fun b ob hb q => by
        have nb1 : b ≠ e := fun z => hb (by simp [z])
        have nb2 : b ≠ it := fun z => hb (by simp [z])
        exact (sb.2 b nb1).trans (hk b ob nb1 nb2 q)) hf (Nat.le_refl _) mk
    refine ⟨.ref s.heap.objs.size, _, I2, rfl, ⟨_, x, rfl, I.hok.fresh (Nat.le_refl _), rfl, fun ys hy => by rw [I.tuple_inj hy hq]; exact hx⟩, ⟨⟨y, ?_⟩, st'.1.at fun o q => (sb.2 it (Ne.symm hne)).trans q, hne⟩, fun b hb => ?_⟩
    · rw [Int.natCast_add]; exact he2
    · have lb : b < s.heap.objs.size := by
        rcases List.mem_cons.mp hb with z | z
        · subst z; exact lt1
        · rw [List.mem_singleton.mp z]; exact lt2
      rw [upd_ne (Nat.ne_of_lt lb)]
      exact (hf b hb).1
  done := by
    intro X hP hw hK hc i pins s σ H E I hf st hg
    subst hP; subst hw; subst hK
    obtain ⟨⟨old, he⟩, hit, hne⟩ := st
    obtain ⟨xs, hq, hx⟩ := hg
    obtain ⟨its, rv, tp, hz⟩ := I.tuple hq
    have tp' : s.heap.IsTuple a its.toArray := tp
    have na : a ≠ it := fun z => by
      subst z
      obtain ⟨o, e1, c1, _⟩ := tp'
      obtain ⟨o2, e2, c2, _⟩ := hit
      rw [e1] at e2; cases e2
      rw [c1] at c2; revert c2; decide +kernel
    obtain ⟨f0, f1, f2, f3, f4, f5⟩ := hf it (by simp)
    have hn : i = its.toArray.size := by
      have := rv.length
      simp only [List.size_toArray]
      omega
    subst hn
    exact wpAny_pyNext_enum_endD (Draws.tuple (by show X.A.in1.handled = none; exact I.ok.hd hc) it a na its.toArray) he ⟨hit, tp'⟩ fun h' eb => ⟨rfl, I.turned (t' := s.toks) (fun b o hb q => eb b o hb q) f0 f1 f3 f4 f5⟩
  self := fun A i s Q E st h => by
    obtain ⟨⟨_, he⟩, _⟩ := st
    exact wpAny_pyIter_enum he h
def iEnumT (K : PySem.W.Frag) (ta : L2.TA) : TI := fun σ H R => ta σ H fun vs H1 => ∃ a xs, vs = [.ref a] ∧ SqT K H1 a xs ∧ R (IteT K a) H1
theorem pi_enumT {X : Cx} {e : Expr} {ta : L2.TA} {p pos tpos : Pos} {elts : List Expr} {kk : Nat} (hg : Gl X "enumerate") (hm : X.mg "enumerate" = none) (ha : PA X [e] ta) (hs : starEach [e] X.env = [(false, eval e X.env)]) :
    PI X (.Tuple elts kk tpos) (.Call (.Name "enumerate" p) [e] [] pos) (iEnumT X.K ta) := by
  refine ⟨fun pins s σ H R I h => Call_ (ld_blt I hg hm boot_enumerate (callWith_type1 (thn (ha.run pos pins s σ H _ I h) fun us s1 ⟨vs, H1, I1, r1, a, xs, ex, hq, q⟩ => ?_) hs rfl))⟩
  subst ex
  obtain ⟨u1, rfl, ru⟩ := vals1 r1
  cases ru
  obtain ⟨its, rv, tp, hz⟩ := I1.tuple hq
  refine call_enumT (show s1.heap.IsTuple a its.toArray from tp) fun h' he hit hk => wpAny_pyIter_enum he ?_
  have I2 : Inv X pins σ H1 { s1 with heap := h' } := I1.kept (t' := s1.toks) hk
  refine ⟨s1.heap.objs.size + 1, [s1.heap.objs.size + 1, s1.heap.objs.size], _, _, H1, rfl, I2, turn_enumT a _ _, ⟨⟨.none, he⟩, hit, Nat.succ_ne_self _⟩, fun b hb => ?_, q⟩
  have le : s1.heap.objs.size ≤ b := by
    rcases List.mem_cons.mp hb with z | z
    · rw [z]; exact Nat.le_succ _
    · rw [List.mem_singleton.mp z]; exact Nat.le_refl _
  exact I1.fpOk le (I1.hok.fresh le)
end Rf

set_option Elab.async false
set_option linter.all false
set_option maxRecDepth 100000
set_option maxHeartbeats 1000000
namespace Rf
open PySem PySem.Spec PyProof.Rows L2
/-! what is walked; comprehensions -/
structure WalkD (K : PySem.W.Frag) (J : It) (H1 : Hp) (cm1 : List Addr) (S1 : Store) (src : List (Nat × List D)) (items : List D) : Prop where
  goes : ∀ {H : Hp} {cm : List Addr} {S : Store}, Tr H1 cm1 S1 H cm S → SR K H cm S → srcOk src S = true → ∀ i, i < items.length → J.go i H
  stop : ∀ {H : Hp} {cm : List Addr} {S : Store}, Tr H1 cm1 S1 H cm S → SR K H cm S → srcOk src S = true → J.stop items.length H
  yld : ∀ {H : Hp} {cm : List Addr} {S : Store}, Tr H1 cm1 S1 H cm S → SR K H cm S → srcOk src S = true → ∀ i x H', i < items.length → J.yld i H x H' → ∃ d, items[i]? = some d ∧ Tr H cm S H' cm S ∧ SR K H' cm S ∧ Rp K H' (Lv cm S) x d
def PJ (K : PySem.W.Frag) : Post (List (Nat × List D) × List D) It := fun H cm S J p H' cm' S' => Tr H cm S H' cm' S' ∧ SR K H' cm' S' ∧ WalkD K J H' cm' S' p.1 p.2
instance {K : PySem.W.Frag} : Trs (PJ K) := ⟨fun t h => ⟨t.trans h.1, h.2⟩⟩
section
variable {K : PySem.W.Frag} {H1 : Hp} {cm1 : List Addr} {S1 : Store} {src : List (Nat × List D)} {items ds es : List D} {a b : Addr}
/-- the list at a is read whole -/
def LstAt (K : PySem.W.Frag) (H1 : Hp) (cm1 : List Addr) (S1 : Store) (src : List (Nat × List D)) (a : Addr) (ds : List D) : Prop :=
  ∀ {H : Hp} {cm : List Addr} {S : Store}, Tr H1 cm1 S1 H cm S → SR K H cm S → srcOk src S = true → ∃ xs, SqL K H a xs ∧ Rps K H (Lv cm S) xs ds
def TupAt (K : PySem.W.Frag) (H1 : Hp) (cm1 : List Addr) (S1 : Store) (src : List (Nat × List D)) (a : Addr) (ds : List D) : Prop :=
  ∀ {H : Hp} {cm : List Addr} {S : Store}, Tr H1 cm1 S1 H cm S → SR K H cm S → srcOk src S = true → ∃ xs, SqT K H a xs ∧ Rps K H (Lv cm S) xs ds
theorem lstAt_d (s : SR K H1 cm1 S1) (h : Rp K H1 (Lv cm1 S1) (.ref a) (.lst ds)) : LstAt K H1 cm1 S1 src a ds := fun {H cm S} t r _ => by
  have := h.mono (t.toExt s)
  cases this with
  | lst f q => exact ⟨_, f.sq, q⟩
theorem tupAt_d (s : SR K H1 cm1 S1) (h : Rp K H1 (Lv cm1 S1) (.ref a) (.tup ds)) : TupAt K H1 cm1 S1 src a ds := fun {H cm S} t r _ => by
  have := h.mono (t.toExt s)
  cases this with
  | tup f q => exact ⟨_, f, q⟩
theorem lstAt_c {n : Nat} (h : cm1[n]? = some a) (hs : (n, ds) ∈ src) : LstAt K H1 cm1 S1 src a ds := fun {H cm S} t r ok => by
  obtain ⟨m, e⟩ := t.pre
  have hn : n < cm1.length := (List.getElem?_eq_some_iff.mp h).1
  have h2 : cm[n]? = some a := by rw [e, List.getElem?_append_left hn]; exact h
  have ok := List.all_eq_true.mp ok (n, ds) hs
  dsimp only at ok
  cases q : S[n]? with
  | none => rw [q] at ok; cases ok
  | some c =>
    rw [q] at ok
    obtain ⟨vs, e1, z⟩ := r.ok n a c h2 q
    cases c with
    | lst es => have := D.of_sames ok; subst this; exact ⟨vs, .of e1, z⟩
    | fz es => have := D.of_sames ok; subst this; exact ⟨vs, .of e1, z⟩
theorem walkD_list (h : LstAt K H1 cm1 S1 src a ds) : WalkD K (Itl K a) H1 cm1 S1 src ds where
  goes := fun t r ok i hi => by
    obtain ⟨xs, q, z⟩ := h t r ok
    exact ⟨xs, xs[i]'(by rw [z.length]; exact hi), q, by simp⟩
  stop := fun t r ok => by
    obtain ⟨xs, q, z⟩ := h t r ok
    exact ⟨xs, q, by rw [z.length]; exact Nat.le_refl _⟩
  yld := fun {H cm S} t r ok i x H' hi y => by
    obtain ⟨xs, q, z⟩ := h t r ok
    obtain ⟨rfl, y⟩ := y
    obtain ⟨d, e, rp⟩ := z.get' (y xs q)
    exact ⟨d, e, Tr.refl, r, rp⟩
theorem walkD_tup (h : TupAt K H1 cm1 S1 src a ds) : WalkD K (Itt K a) H1 cm1 S1 src ds where
  goes := fun t r ok i hi => by
    obtain ⟨xs, q, z⟩ := h t r ok
    exact ⟨xs, xs[i]'(by rw [z.length]; exact hi), q, by simp⟩
  stop := fun t r ok => by
    obtain ⟨xs, q, z⟩ := h t r ok
    exact ⟨xs, q, by rw [z.length]; exact Nat.le_refl _⟩
  yld := fun {H cm S} t r ok i x H' hi y => by
    obtain ⟨xs, q, z⟩ := h t r ok
    obtain ⟨rfl, y⟩ := y
    obtain ⟨d, e, rp⟩ := z.get' (y xs q)
    exact ⟨d, e, Tr.refl, r, rp⟩
theorem strItems_get (x : Str) (i : Nat) : (strItems x)[i]? = (x.cps[i]?).map fun c => .str ⟨#[c]⟩ := by
  unfold strItems
  rw [List.getElem?_map, Array.getElem?_toList]
theorem walkD_str {x : Str} : WalkD K (Its x) H1 cm1 S1 src (strItems x) where
  goes := fun t r ok i hi => by have : i < x.cps.size := by simpa [strItems] using hi
                                exact this
  stop := fun t r ok => by show x.cps.size ≤ _; simp [strItems]
  yld := fun {H cm S} t r ok i v H' hi y => by
    obtain ⟨rfl, c, e, rfl⟩ := y
    exact ⟨_, by rw [strItems_get, e]; rfl, Tr.refl, r, .str _⟩
theorem walkD_range {lo : Int} {n : Nat} : WalkD K (Itr lo n) H1 cm1 S1 src (rngD lo n) where
  goes := fun t r ok i hi => by have : i < n := by simpa [rngD] using hi
                                exact this
  stop := fun t r ok => by show n ≤ _; simp [rngD]
  yld := fun {H cm S} t r ok i v H' hi y => by
    obtain ⟨rfl, rfl⟩ := y
    have hn : i < n := by simpa [rngD] using hi
    exact ⟨.int (lo + i), by simp [rngD, hn], Tr.refl, r, .int _⟩
theorem enumD_len : ∀ (k : Nat) (ds : List D), (enumD k ds).length = ds.length
  | _, [] => rfl
  | k, d :: ds => by simp [enumD, enumD_len (k + 1) ds]
theorem enumD_get : ∀ (k : Nat) (ds : List D) (i : Nat), (enumD k ds)[i]? = (ds[i]?).map fun d => .tup [.int ((k + i : Nat) : Int), d]
  | _, [], i => by simp [enumD]
  | k, d :: ds, 0 => by simp [enumD]
  | k, d :: ds, i + 1 => by
    simp only [enumD, List.getElem?_cons_succ]
    rw [enumD_get (k + 1) ds i]
    congr 1
    funext d
    congr 3
    congr 1
    omega
theorem new_tup {H : Hp} {cm : List Addr} {S : Store} (r : SR K H cm S) {T : Addr} {vs : List V} {ds : List D} (hT : H T = none) (q : Rps K H (Lv cm S) vs ds) :
    Tr H cm S (upd H T (.tup vs)) cm S ∧ SR K (upd H T (.tup vs)) cm S ∧ Rp K (upd H T (.tup vs)) (Lv cm S) (.ref T) (.tup ds) := mkT r hT q
theorem walkD_enum (h : LstAt K H1 cm1 S1 src a ds) : WalkD K (Ite K a) H1 cm1 S1 src (enumD 0 ds) where
  goes := fun t r ok i hi => by
    obtain ⟨xs, q, z⟩ := h t r ok
    rw [enumD_len] at hi
    exact ⟨xs, xs[i]'(by rw [z.length]; exact hi), q, by simp⟩
  stop := fun t r ok => by
    obtain ⟨xs, q, z⟩ := h t r ok
    exact ⟨xs, q, by rw [z.length, enumD_len]; exact Nat.le_refl _⟩
  yld := fun {H cm S} t r ok i x H' hi y => by
    obtain ⟨xs, q, z⟩ := h t r ok
    obtain ⟨T, v, rfl, hT, rfl, y⟩ := y
    obtain ⟨d, e, rp⟩ := z.get' (y xs q)
    exact ⟨.tup [.int (i : Nat), d], by rw [enumD_get, e, Nat.zero_add]; rfl, new_tup r hT (.cons (.int _) (.cons rp .nil))⟩
theorem walkD_enumT (h : TupAt K H1 cm1 S1 src a ds) : WalkD K (IteT K a) H1 cm1 S1 src (enumD 0 ds) where
  goes := fun t r ok i hi => by
    obtain ⟨xs, q, z⟩ := h t r ok
    rw [enumD_len] at hi
    exact ⟨xs, xs[i]'(by rw [z.length]; exact hi), q, by simp⟩
  stop := fun t r ok => by
    obtain ⟨xs, q, z⟩ := h t r ok
    exact ⟨xs, q, by rw [z.length, enumD_len]⟩
  yld := fun {H cm S} t r ok i x H' hi y => by
    obtain ⟨xs, q, z⟩ := h t r ok
    obtain ⟨T, v, rfl, hT, rfl, y⟩ := y
    obtain ⟨d, e, rp⟩ := z.get' (y xs q)
    exact ⟨.tup [.int (i : Nat), d], by rw [enumD_get, e, Nat.zero_add]; rfl, new_tup r hT (.cons (.int _) (.cons rp .nil))⟩
theorem zipD_get : ∀ (ds es : List D) (i : Nat) (d e : D), ds[i]? = some d → es[i]? = some e → (zipD ds es)[i]? = some (.tup [d, e])
  | [], _, i, d, e, h, _ => by simp at h
  | _ :: _, [], i, d, e, _, h => by simp at h
  | a :: ds, b :: es, 0, d, e, h, h' => by simp at h h'; subst h h'; simp [zipD]
  | a :: ds, b :: es, i + 1, d, e, h, h' => by simp at h h'; simp [zipD, zipD_get ds es i d e h h']
theorem zipD_len : ∀ (ds es : List D), (zipD ds es).length = min ds.length es.length
  | [], _ => by simp [zipD]
  | _ :: _, [] => by simp [zipD]
  | a :: ds, b :: es => by simp only [zipD, List.length_cons, zipD_len ds es]; omega
theorem walkD_zip (h : LstAt K H1 cm1 S1 src a ds) (h' : LstAt K H1 cm1 S1 src b es) : WalkD K (Itz K a b) H1 cm1 S1 src (zipD ds es) where
  goes := fun t r ok i hi => by
    obtain ⟨xs, q, z⟩ := h t r ok
    obtain ⟨ys, q', z'⟩ := h' t r ok
    rw [zipD_len] at hi
    exact ⟨xs, ys, xs[i]'(by rw [z.length]; omega), ys[i]'(by rw [z'.length]; omega), q, q', by simp, by simp⟩
  stop := fun t r ok => by
    obtain ⟨xs, q, z⟩ := h t r ok
    obtain ⟨ys, q', z'⟩ := h' t r ok
    exact ⟨xs, ys, q, q', by rw [z.length, z'.length, zipD_len]; omega⟩
  yld := fun {H cm S} t r ok i x H' hi y => by
    obtain ⟨xs, q, z⟩ := h t r ok
    obtain ⟨ys, q', z'⟩ := h' t r ok
    obtain ⟨T, v, w, rfl, hT, rfl, y, y'⟩ := y
    obtain ⟨d, e, rp⟩ := z.get' (y xs q)
    obtain ⟨d', e', rp'⟩ := z'.get' (y' ys q')
    exact ⟨_, zipD_get _ _ _ _ _ e e', new_tup r hT (.cons rp (.cons rp' .nil))⟩
theorem walkD_zipT (h : TupAt K H1 cm1 S1 src a ds) (h' : TupAt K H1 cm1 S1 src b es) : WalkD K (RZ.ItzT K a b) H1 cm1 S1 src (zipD ds es) where
  goes := fun t r ok i hi => by
    obtain ⟨xs, q, z⟩ := h t r ok
    obtain ⟨ys, q', z'⟩ := h' t r ok
    rw [zipD_len] at hi
    exact ⟨xs, ys, xs[i]'(by rw [z.length]; omega), ys[i]'(by rw [z'.length]; omega), q, q', by simp, by simp⟩
  stop := fun t r ok => by
    obtain ⟨xs, q, z⟩ := h t r ok
    obtain ⟨ys, q', z'⟩ := h' t r ok
    exact ⟨xs, ys, q, q', by rw [z.length, z'.length, zipD_len]; omega⟩
  yld := fun {H cm S} t r ok i x H' hi y => by
    obtain ⟨xs, q, z⟩ := h t r ok
    obtain ⟨ys, q', z'⟩ := h' t r ok
    obtain ⟨T, v, w, rfl, hT, rfl, y, y'⟩ := y
    obtain ⟨d, e, rp⟩ := z.get' (y xs q)
    obtain ⟨d', e', rp'⟩ := z'.get' (y' ys q')
    exact ⟨_, zipD_get _ _ _ _ _ e e', new_tup r hT (.cons rp (.cons rp' .nil))⟩
end
section
variable {X : Cx} {CX : CXT} {E : XK} {lv : Nat} {c : Ct} {G : List Mir} {C : List D} {a b d e tg : Expr} {fa fb fc fd : Rd' RX} {pos : Pos} {es : List Expr}
abbrev tJ (K : PySem.W.Frag) (mg : Mg) (E : XK) (f : Rd' (List (Nat × List D) × List D)) : TI := tG K mg E (PJ K) f
def fSeq (fa : Rd' RX) : Rd' (List (Nat × List D) × List D) := fun ρ S => (fa ρ S).rv.bind fun v S2 => match v with
    | .d (.lst ds) => .ok ([], ds) S2
    | .d (.tup ds) => .ok ([], ds) S2
    | .d (.str x) => .ok ([], strItems x) S2
    | .c n => (match cellAt S2 n with
      | some ds => .ok ([(n, ds)], ds) S2
      | none => .stuck)
    | _ => .stuck
theorem cellAt_ok {K : PySem.W.Frag} {H : Hp} {cm : List Addr} {S : Store} (s : SR K H cm S) {n : Nat} {ds : List D} {ad : Addr} (h : cm[n]? = some ad) (e : cellAt S n = some ds) : ∃ vs, H ad = some (.lst vs) ∧ Rps K H (Lv cm S) vs ds := by
  unfold cellAt at e
  cases q : S[n]? with
  | none => rw [q] at e; cases e
  | some cl =>
    rw [q] at e
    obtain ⟨vs, e1, z⟩ := s.ok n ad cl h q
    cases cl with
    | lst _ => cases e; exact ⟨vs, e1, z⟩
    | fz _ => cases e; exact ⟨vs, e1, z⟩
theorem pi_seq (h : PE X e (tX X.K X.mg E fa)) : PI X tg e (tJ X.K X.mg E (fSeq fa)) := by
  have h' := pe_rv h
  refine ⟨fun pins s σ H R I hq => ?_⟩
  obtain ⟨ρ, cm, S, hs, he, q⟩ := hq
  unfold fSeq at q
  have key : iList X.K (tV X.K X.mg E fun ρ S => (fa ρ S).rv) σ H R ∨ iTup X.K (tV X.K X.mg E fun ρ S => (fa ρ S).rv) σ H R ∨ iStr (tV X.K X.mg E fun ρ S => (fa ρ S).rv) σ H R := by
    cases e1 : (fa ρ S).rv with
    | stuck => rw [e1] at q; exact q.elim
    | exc x S1 => rw [e1] at q; exact .inl ⟨ρ, cm, S, hs, he, by dsimp only; rw [e1]; exact q⟩
    | ok r S1 =>
      rw [e1] at q
      cases r with
      | c n =>
        refine .inl ⟨ρ, cm, S, hs, he, ?_⟩
        dsimp only
        rw [e1]
        intro v H1 cm1 p
        obtain ⟨t, s1, ad, rfl, ha⟩ := p
        have q := okG.step t q
        simp only [Res.bind_ok] at q
        cases e2 : cellAt S1 n with
        | none => rw [e2] at q; exact q.elim
        | some ds =>
          rw [e2] at q
          obtain ⟨vs, h1, h2⟩ := cellAt_ok s1 ha e2
          exact ⟨ad, rfl, ⟨vs, .of h1⟩, q _ H1 cm1 ⟨Tr.refl, s1, walkD_list (lstAt_c ha (by simp))⟩⟩
      | d d =>
        cases d with
        | lst ds =>
          refine .inl ⟨ρ, cm, S, hs, he, ?_⟩
          dsimp only
          rw [e1]
          intro v H1 cm1 p
          obtain ⟨t, s1, rp⟩ := p
          have q := okG.step t q
          have rp' : Rp X.K H1 (Lv cm1 S1) v (.lst ds) := rp
          cases rp' with
          | lst f z => exact ⟨_, rfl, ⟨_, f.sq⟩, q _ H1 cm1 ⟨Tr.refl, s1, walkD_list (lstAt_d s1 rp)⟩⟩
        | tup ds =>
          refine .inr (.inl ⟨ρ, cm, S, hs, he, ?_⟩)
          dsimp only
          rw [e1]
          intro v H1 cm1 p
          obtain ⟨t, s1, rp⟩ := p
          have q := okG.step t q
          have rp' : Rp X.K H1 (Lv cm1 S1) v (.tup ds) := rp
          cases rp' with
          | tup f z => exact ⟨_, rfl, ⟨_, f⟩, q _ H1 cm1 ⟨Tr.refl, s1, walkD_tup (tupAt_d s1 rp)⟩⟩
        | str x =>
          refine .inr (.inr ⟨ρ, cm, S, hs, he, ?_⟩)
          dsimp only
          rw [e1]
          intro v H1 cm1 p
          obtain ⟨t, s1, rp⟩ := p
          have q := okG.step t q
          have rp' : Rp X.K H1 (Lv cm1 S1) v (.str x) := rp
          cases rp'
          exact ⟨x, rfl, q _ H1 cm1 ⟨Tr.refl, s1, walkD_str⟩⟩
        | _ => exact q.elim
  rcases key with k | k | k
  · exact (pi_list h').run pins s σ H R I k
  · exact (pi_tup h').run pins s σ H R I k
  · exact (pi_str h').run pins s σ H R I k
def fRng (fs : Rd' (List RV)) : Rd' (List (Nat × List D) × List D) := fun ρ S => (fs ρ S).bind fun vs S1 => match rdVs S1 vs with
    | some ds => (match rangeD ds with
      | some r => .ok ([], r) S1
      | none => .stuck)
    | none => .stuck
theorem star1 {env : PySem.Env} (h : plainE a = true) : starEach [a] env = [(false, eval a env)] := star_cons (es := []) h
theorem pi_rng (g : Gd X CX E lv c G C) {x : Str} {p : Pos} {ms : Es} (hx : x = "range") (h2 : c.glb x = true) (hp : es.all plainE = true) (hl : es.length = 1 ∨ es.length = 2) (hm : ms.len = es.length) (ha : PA X es (tA X.K X.mg E (evs G C ms))) : PI X tg (.Call (.Name x p) es [] pos) (tJ X.K X.mg E (fRng (evs G C ms))) := by
  subst hx
  have fin : ∀ {σ H R} {P : List V → Hp → Prop}, tJ X.K X.mg E (fRng (evs G C ms)) σ H R → (∀ vs ds r H1 cm1 S1, ds.length = es.length → SR X.K H1 cm1 S1 → Rqs X.K H1 (Lv cm1 S1) vs ds → rangeD ds = some r → (∀ J, WalkD X.K J H1 cm1 S1 [] r → R J H1) → P vs H1) → tA X.K X.mg E (evs G C ms) σ H P := fun {σ H R P} ⟨ρ, cm, S, hs, he, q⟩ hk => by
    refine tG_bind okG.zok hs he q fun vs S1 ws H1 cm1 e0 p z => ?_
    obtain ⟨t, s, vv⟩ := p
    have z := okG.step t z
    cases e1 : rdVs S1 vs with
    | none => rw [e1] at z; exact z.elim
    | some ds =>
      rw [e1] at z
      dsimp only at z
      cases e2 : rangeD ds with
      | none => rw [e2] at z; exact z.elim
      | some r =>
        rw [e2] at z
        have l1 := evs_len ρ ms S S1 vs e0
        have l2 : ∀ {vs : List RV} {ds : List D}, rdVs S1 vs = some ds → ds.length = vs.length := fun {vs} => by
          induction vs with
          | nil => intro ds e; simp [rdVs] at e; subst e; rfl
          | cons v vs ih =>
            intro ds e
            simp only [rdVs, Option.bind_eq_some_iff, Option.map_eq_some_iff] at e
            obtain ⟨d, _, es', e2, rfl⟩ := e
            simp [ih e2]
        exact hk ws ds r H1 cm1 S1 (by rw [l2 e1, l1, hm]) s (rds_ok s vv e1) e2 fun J w => z J H1 cm1 ⟨Tr.refl, s, w⟩
  rcases es with _ | ⟨a, _ | ⟨b, _ | ⟨b', r'⟩⟩⟩
  · simp at hl
  · have hp1 : plainE a = true := by simpa using hp
    refine PI.imp (pi_range1 (g.glb h2) (g.top.blt _ (by decide)) ha (star1 hp1)) fun σ H R h => fin h fun vs ds r H1 cm1 S1 hlen s rq e k => ?_
    match ds, hlen with
    | [d], _ =>
      obtain ⟨v, rfl, hv⟩ := rq.one
      cases d with
      | int j =>
        cases hv.int
        simp only [rangeD] at e
        split at e
        · rename_i hz
          cases e
          exact ⟨j, rfl, by omega, by omega, k _ walkD_range⟩
        · cases e
      | _ => simp [rangeD] at e
  · have hp1 : plainE a = true ∧ plainE b = true := by simpa using hp
    refine PI.imp (pi_range2 (g.glb h2) (g.top.blt _ (by decide)) ha (by rw [star_cons hp1.1, star1 hp1.2]) (star1 hp1.2)) fun σ H R h => fin h fun vs ds r H1 cm1 S1 hlen s rq e k => ?_
    match ds, hlen with
    | [d, d'], _ =>
      obtain ⟨v, w, rfl, hv, hw⟩ := rq.two
      cases d with
      | int i => cases d' with
        | int j =>
          cases hv.int
          cases hw.int
          simp only [rangeD] at e
          split at e
          · rename_i hz
            cases e
            exact ⟨i, j, rfl, by omega, k _ walkD_range⟩
          · cases e
        | _ => simp [rangeD] at e
      | _ => simp [rangeD] at e
  · simp at hl
def fEnum (fa : Rd' RX) : Rd' (List (Nat × List D) × List D) := fun ρ S => (fa ρ S).rv.bind fun v S2 => match v with
    | .d (.lst ds) => .ok ([], enumD 0 ds) S2
    | .d (.tup ds) => .ok ([], enumD 0 ds) S2
    | .c n => (match cellAt S2 n with
      | some ds => .ok ([(n, ds)], enumD 0 ds) S2
      | none => .stuck)
    | _ => .stuck
theorem pi_en (g : Gd X CX E lv c G C) {x : Str} {p tp : Pos} {k : Nat} (hx : x = "enumerate") (h2 : c.glb x = true) (hp : plainE a = true) (ha : PE X a (tX X.K X.mg E fa)) : PI X (.Tuple es k tp) (.Call (.Name x p) [a] [] pos) (tJ X.K X.mg E (fEnum fa)) := by
  subst hx
  have w1 := pi_enum (tpos := tp) (elts := es) (kk := k) (p := p) (pos := pos) (g.glb h2) (g.top.blt _ (by decide)) (pa_cons (pe_rv ha) pa_nil (star_cons hp)) (star1 hp)
  have w2 := pi_enumT (tpos := tp) (elts := es) (kk := k) (p := p) (pos := pos) (g.glb h2) (g.top.blt _ (by decide)) (pa_cons (pe_rv ha) pa_nil (star_cons hp)) (star1 hp)
  refine ⟨fun pins s σ H R I ⟨ρ, cm, S, hs, he, q⟩ => ?_⟩
  unfold fEnum at q
  by_cases ht : ∃ ds S2, (fa ρ S).rv = .ok (.d (.tup ds)) S2
  · obtain ⟨ds, S2, ht⟩ := ht
    refine w2.run pins s σ H R I ⟨ρ, cm, S, hs, he, ?_⟩
    dsimp only at q ⊢
    rw [ht] at q ⊢
    intro v H1 cm1 p
    obtain ⟨t, s1, vx⟩ := p
    have q := okG.step t q
    have rp' : Rp X.K H1 (Lv cm1 S2) v (.tup ds) := vx
    cases rp' with
    | tup f z => exact ⟨_, _, rfl, f, q _ H1 cm1 ⟨Tr.refl, s1, walkD_enumT (tupAt_d s1 vx)⟩⟩
  · refine w1.run pins s σ H R I (tG_bind (f := fun ρ S => (fa ρ S).rv) okG.zok hs he q fun r S1 v H1 cm1 e0 p z => ?_)
    obtain ⟨t, s1, vx⟩ := p
    have z := okG.step t z
    cases r with
    | c n =>
      obtain ⟨ad, rfl, ha⟩ := vx
      dsimp only at z
      cases e2 : cellAt S1 n with
      | none => rw [e2] at z; exact z.elim
      | some ds =>
        rw [e2] at z
        obtain ⟨vs, h1, h2⟩ := cellAt_ok s1 ha e2
        exact ⟨ad, vs, rfl, .of h1, z _ H1 cm1 ⟨Tr.refl, s1, walkD_enum (lstAt_c ha (by simp))⟩⟩
    | d d =>
      cases d with
      | lst ds =>
        have rp' : Rp X.K H1 (Lv cm1 S1) v (.lst ds) := vx
        cases rp' with
        | lst f q => exact ⟨_, _, rfl, f.sq, z _ H1 cm1 ⟨Tr.refl, s1, walkD_enum (lstAt_d s1 vx)⟩⟩
      | tup ds => exact absurd ⟨ds, S1, e0⟩ ht
      | _ => exact z.elim
def fZip (fa fb : Rd' RX) : Rd' (List (Nat × List D) × List D) := fun ρ S => (fa ρ S).rv.bind fun v S2 => (fb ρ S2).rv.bind fun w S4 => match v, w with
    | .d (.lst ds), .d (.lst es) => .ok ([], zipD ds es) S4
    | .d (.tup ds), .d (.tup es) => .ok ([], zipD ds es) S4
    | _, _ => .stuck
theorem pi_zp (g : Gd X CX E lv c G C) {x : Str} {p tp : Pos} {k : Nat} (hx : x = "zip") (h2 : c.glb x = true) (hp : plainE a = true) (hp2 : plainE b = true) (ha : PE X a (tX X.K X.mg E fa)) (hb : PE X b (tX X.K X.mg E fb)) : PI X (.Tuple es k tp) (.Call (.Name x p) [a, b] [] pos) (tJ X.K X.mg E (fZip fa fb)) := by
  subst hx
  refine PI.imp (RZ.pi_zipA (g.glb h2) (g.top.blt _ (by decide)) (pa_cons (pe_rv ha) (pa_cons (pe_rv hb) pa_nil (star_cons hp2)) (star_cons hp)) (star_cons hp) (star_any (by simp [hp2]))) fun σ H R ⟨ρ, cm, S, hs, he, q⟩ => ?_
  unfold fZip at q
  refine two_ops okG.zok hs he q fun r r2 S1 v w H1 cm1 t s1 vx vy z => ?_
  cases r with
  | c n => exact z.elim
  | d d =>
    cases r2 with
    | c n => cases d <;> exact z.elim
    | d d2 =>
      cases d with
      | lst ds =>
        cases d2 with
        | lst es =>
          have rp' : Rp X.K H1 (Lv cm1 S1) v (.lst ds) := vx
          have rp2 : Rp X.K H1 (Lv cm1 S1) w (.lst es) := vy
          cases rp' with
          | lst f q => cases rp2 with
            | lst f2 q2 => exact ⟨_, _, _, _, rfl, .inl ⟨f.sq, f2.sq, z _ H1 cm1 ⟨Tr.refl, s1, walkD_zip (lstAt_d s1 vx) (lstAt_d s1 vy)⟩⟩⟩
        | _ => exact z.elim
      | tup ds =>
        cases d2 with
        | tup es =>
          have rp' : Rp X.K H1 (Lv cm1 S1) v (.tup ds) := vx
          have rp2 : Rp X.K H1 (Lv cm1 S1) w (.tup es) := vy
          cases rp' with
          | tup f q => cases rp2 with
            | tup f2 q2 => exact ⟨_, _, _, _, rfl, .inr ⟨f, f2, z _ H1 cm1 ⟨Tr.refl, s1, walkD_zipT (tupAt_d s1 vx) (tupAt_d s1 vy)⟩⟩⟩
        | _ => exact z.elim
      | _ => cases d2 <;> exact z.elim
end
end Rf

set_option Elab.async false
set_option linter.all false
set_option maxRecDepth 100000
set_option maxHeartbeats 1000000
namespace Rf
open PySem PySem.Spec PyProof.Rows L2
section
variable {X : Cx} {CX : CXT} {E : XK} {lv : Nat} {c : Ct} {G : List Mir} {C : List D} {elt iter tgE : Expr} {ifs : List Expr} {scope : Scope} {pos : Pos}
def fTurn (tg : List Nat) (one : Bool) (own : List Nat) (fc : Rd' Bool) (fe : Rd' RX) (ρ : Rf.Env) : D → Store → Res (Option D) := fun d S => match bindT tg one d (wipeE ρ own) with
      | some ρ1 => (fc ρ1 S).bind fun b S2 => if b then (fe ρ1 S2).bind fun x S3 => (asD x S3).bind fun y S4 => .ok (some y) S4 else .ok none S2
      | none => .stuck
def fComp (tg : List Nat) (one : Bool) (own : List Nat) (fi : Rd' (List (Nat × List D) × List D)) (fc : Rd' Bool) (fe : Rd' RX) : Rd' RX := fun ρ S =>
  (fi ρ S).bind fun p S1 => (compGo p.1 (fTurn tg one own fc fe ρ) S1.length p.2 (S1 ++ [.lst []])).nox.bind fun _ S2 => lastL S1.length S2
theorem wipe_wipe (σ : L2.St) (vs : List Nat) : wipe (wipe σ vs) vs = wipe σ vs := by
  apply List.ext_getElem?
  intro j
  rw [wipe_look, wipe_look, wipe_length]
  by_cases hj : j ∈ vs ∧ j < σ.length
  · rw [if_pos hj, if_pos hj]
  · rw [if_neg hj, if_neg hj]
/-- what a comprehension's rest is worth -/
def Zc (K : PySem.W.Frag) (mg : Mg) (E : XK) (Q : VK) (H1 : Hp) (cm1 : List Addr) (S1 : Store) : Hp → List Addr → Store → Res Unit → Prop :=
  fun _ _ _ r => okG K mg E (PX K) Q H1 cm1 S1 (r.nox.bind fun _ S2 => lastL S1.length S2)
theorem Zc.zok {K : PySem.W.Frag} {mg : Mg} {E E' : XK} {Q : VK} {H1 : Hp} {cm1 : List Addr} {S1 : Store} : Zok K mg E' .exc .stuck (Zc K mg E Q H1 cm1 S1) :=
  ⟨fun h => False.elim h, fun h => h, fun _ h => h⟩
theorem pe_comp {tg own : List Nat} {one : Bool} {ownL : List (Str × Nat)} {fi : Rd' (List (Nat × List D) × List D)} {fc : Rd' Bool} {fe : Rd' RX} (hc : X.calm = true) (hN : X.N.Nodup) (hi : PI X tgE iter (tJ X.K X.mg E fi)) (ok : BlkOk X.N X.env.scope scope ownL) (ho : ownL.map (·.2) = own) (hto : ∀ i ∈ tg, i ∈ own)
    (hg : ∀ (s : Shared) (H : Hp) (C : Addr) (cl : List (Str × Addr)) (fp : List Addr), PG (X.blk s H scope (compEnvC scope cl C X.env) fp) tgE (gD X.K tg one))
    (ht : ∀ (s : Shared) (H : Hp) (C : Addr) (cl : List (Str × Addr)) (fp : List Addr), PTs (X.blk s H scope (compEnvC scope cl C X.env) fp) ifs (tB X.K X.mg E0 fc))
    (he : ∀ (s : Shared) (H : Hp) (C : Addr) (cl : List (Str × Addr)) (fp : List Addr), PE (X.blk s H scope (compEnvC scope cl C X.env) fp) elt (tX X.K X.mg E0 fe)) (hs : ∀ x, foldedSetIterable iter X.env x = pure x) :
    PE X (.ListComp elt [⟨tgE, iter, ifs, 0⟩] scope pos) (tLc (tJ X.K X.mg E fi) (gD X.K tg one) (tB X.K X.mg E0 fc) (tD X.K X.mg E0 fun ρ S => (fe ρ S).bind asD) own) := by
  subst ho
  exact pe_lc hc hN hi ok hg ht (fun s H C cl fp => pe_asD (he s H C cl fp)) hs
theorem take_last {α : Type} {xs : List α} {n : Nat} {a : α} (h : xs.length = n + 1) (e : xs[n]? = some a) : xs = xs.take n ++ [a] := by
  have h2 : xs.drop n = [a] := by
    rw [List.drop_eq_getElem_cons (by omega)]
    have e1 : xs[n]'(by omega) = a := by
      rw [List.getElem?_eq_getElem (by omega)] at e
      exact Option.some.inj e
    rw [e1, List.drop_eq_nil_of_le (by omega)]
  rw [← h2, List.take_append_drop]
theorem rd_comp {K : PySem.W.Frag} {mg : Mg} {tg own : List Nat} {one : Bool} {fi : Rd' (List (Nat × List D) × List D)} {fc : Rd' Bool} {fe : Rd' RX} (hto : ∀ i ∈ tg, i ∈ own) {σ : L2.St} {H : Hp} {Q : VK} (h : tX K mg E (fComp tg one own fi fc fe) σ H Q) :
    tLc (tJ K mg E fi) (gD K tg one) (tB K mg E0 fc) (tD K mg E0 fun ρ S => (fe ρ S).bind asD) own σ H Q := by
  obtain ⟨ρ, cm, S, hs, he, q⟩ := h
  unfold fComp at q
  refine tG_bind okG.zok hs he q fun p S1 J H1 cm1 _ pj z => ?_
  obtain ⟨t1, s1, wk⟩ := pj
  have z := okG.step t1 z
  intro Da hD
  obtain ⟨s2, t2⟩ := fr_mk (vs := []) (ds := []) s1 hD .nil
  have hnD : (cm1 ++ [Da])[S1.length]? = some Da := by rw [← s1.len]; simp
  have atD : ∀ {H cm S}, Tr (upd H1 Da (.lst [])) (cm1 ++ [Da]) (S1 ++ [.lst []]) H cm S → cm[S1.length]? = some Da := fun {H cm S} t => by
    obtain ⟨m, e⟩ := t.pre
    have hn := (List.getElem?_eq_some_iff.mp hnD).1
    rw [e, List.getElem?_append_left hn]; exact hnD
  have he2 : ∀ {H cm S}, Tr (upd H1 Da (.lst [])) (cm1 ++ [Da]) (S1 ++ [.lst []]) H cm S → ER K H cm S ρ σ := fun {H cm S} t => (he.mono t1 hs).mono (t2.trans t) s1
  let Nx : Nat → Hp → Prop := fun i H => ∃ cm S, SR K H cm S ∧ Tr (upd H1 Da (.lst [])) (cm1 ++ [Da]) (S1 ++ [.lst []]) H cm S ∧ Zc K mg E Q H1 cm1 S1 H cm S (compGo p.1 (fTurn tg one own fc fe ρ) S1.length (p.2.drop i) S)
  refine ⟨fun i m H => m = p.2.length - i ∧ i ≤ p.2.length ∧ Nx i H, ⟨p.2.length, by simp, Nat.zero_le _, cm1 ++ [Da], S1 ++ [.lst []], s2, Tr.refl, by rw [List.drop_zero]; exact z⟩, ?_⟩
  rintro i m H' ⟨rfl, hle, cm', S', s', t', z'⟩
  by_cases hi : i < p.2.length
  · have ed : p.2.drop i = p.2[i] :: p.2.drop (i + 1) := List.drop_eq_getElem_cons hi
    rw [ed] at z'
    unfold compGo at z'
    by_cases so : srcOk p.1 S' = true
    · rw [if_pos so] at z'
      refine .inr ⟨wk.goes (t2.trans t') s' so i hi, Nx (i + 1), fun H3 n3 => ⟨p.2.length - (i + 1), by omega, rfl, hi, n3⟩, fun x H3 y => ?_⟩
      obtain ⟨d, e1, t3, s3, rp⟩ := wk.yld (t2.trans t') s' so i x H3 hi y
      have e2 : d = p.2[i] := by
        rw [List.getElem?_eq_getElem hi] at e1
        exact (Option.some.inj e1).symm
      subst e2
      have t3' := t'.trans t3
      cases eb : bindT tg one p.2[i] (wipeE ρ own) with
      | none =>
        have : fTurn tg one own fc fe ρ p.2[i] S' = .stuck := by unfold fTurn; rw [eb]
        rw [this] at z'
        exact z'.elim
      | some ρ1 =>
        have et : fTurn tg one own fc fe ρ p.2[i] S' = (fc ρ1 S').bind fun b S2 => if b then (fe ρ1 S2).bind fun x S3 => (asD x S3).bind fun y S4 => .ok (some y) S4 else .ok none S2 := by unfold fTurn; rw [eb]
        rw [et, bind_bind] at z'
        refine ⟨wipeE ρ own, cm', S', p.2[i], ρ1, s3, (he2 t3').wipe own, rp, eb, fun σ1 e1 hw => ⟨by rw [hw own hto, wipe_wipe], ?_⟩⟩
        refine tG_bind (Zc.zok (K := K) (mg := mg)) s3 e1 z' fun b S4 b' H4 cm4 _ p4 z4 => ?_
        obtain ⟨t4, s4, eb2⟩ := p4
        subst eb2
        have t4' := t3'.trans t4
        cases b' with
        | false => exact ⟨cm4, S4, s4, t4', z4⟩
        | true =>
          simp only [if_true] at z4 ⊢
          have z4 : Zc K mg E Q H1 cm1 S1 H4 cm4 S4 (((fe ρ1 S4).bind asD).bind fun y S5 => match S5[S1.length]? with
              | some (.lst acc) => if acc.length < line then compGo p.1 (fTurn tg one own fc fe ρ) S1.length (p.2.drop (i + 1)) (S5.set S1.length (.lst (acc ++ [y]))) else .stuck
              | _ => .stuck) := by
            have e9 : ∀ {r : Res RX} {k : Option D → Store → Res Unit}, (r.bind fun x S3 => (asD x S3).bind fun y S4 => .ok (some y) S4).bind k = (r.bind asD).bind fun y S5 => k (some y) S5 := fun {r k} => by
              cases r with
              | ok a S => simp only [Res.bind_ok]; cases asD a S <;> rfl
              | _ => rfl
            rw [e9] at z4
            exact z4
          refine tG_bind (f := fun ρ S => (fe ρ S).bind asD) (Zc.zok (K := K) (mg := mg)) s4 (e1.mono t4 s3) z4 fun y S5 v H5 cm5 _ p5 z5 => ?_
          obtain ⟨t5, s5, r5⟩ := p5
          have t5' := t4'.trans t5
          have a5 := atD t5'
          cases e6 : S5[S1.length]? with
          | none => rw [e6] at z5; exact z5.elim
          | some cl => cases cl with
            | fz ds => rw [e6] at z5; exact z5.elim
            | lst acc =>
              rw [e6] at z5
              dsimp only at z5
              obtain ⟨ws, h6, r6⟩ := s5.ok _ Da _ a5 e6
              have r6 : Rps K H5 (Lv cm5 S5) ws acc := r6
              split at z5
              · rename_i hl
                exact ⟨ws, h6, by rw [r6.length, ← line_eq]; exact hl, cm5, _, wr_sr s5 a5 e6 (r6.append (.cons r5 .nil)), t5'.trans (wr_tr s5 a5 e6 _), z5⟩
              · exact z5.elim
    · rw [if_neg so] at z'; exact z'.elim
  · have ei : i = p.2.length := by omega
    subst ei
    rw [List.drop_length] at z'
    unfold compGo at z'
    by_cases so : srcOk p.1 S' = true
    · rw [if_pos so] at z'
      refine .inl ⟨wk.stop (t2.trans t') s' so, ?_⟩
      have z9 : okG K mg E (PX K) Q H1 cm1 S1 (lastL S1.length S') := z'
      unfold lastL at z9
      by_cases hl : S'.length = S1.length + 1
      · rw [if_pos hl] at z9
        cases e6 : S'[S1.length]? with
        | none => rw [e6] at z9; exact z9.elim
        | some cl => cases cl with
          | fz ds => rw [e6] at z9; exact z9.elim
          | lst ds =>
            rw [e6] at z9
            have eS := take_last hl e6
            have ec : cm' = cm1 ++ [Da] := by
              obtain ⟨m, e⟩ := t'.pre
              have h1 : cm'.length = S1.length + 1 := by rw [s'.len, hl]
              rw [e] at h1
              simp [s1.len] at h1
              rw [e, h1, List.append_nil]
            subst ec
            refine z9 _ _ cm1 ⟨Da, rfl, ⟨[], by simp⟩, ?_, ?_⟩
            · rw [← eS]; exact t2.trans t'
            · rw [← eS]; exact s'
      · rw [if_neg hl] at z9; exact z9.elim
    · rw [if_neg so] at z'; exact z'.elim
end
end Rf

set_option Elab.async false
set_option linter.all false
set_option maxRecDepth 100000
set_option maxHeartbeats 4000000
namespace Rf
open PySem PySem.Spec PyProof.Rows L2
section
variable {X : Cx} {CX : CXT} {E : XK} {lv : Nat} {c : Ct} {G : List Mir} {C : List D} {a b d e : Expr} {fa fb fc fd : Rd' RX} {pos : Pos} {es : List Expr}
theorem SndW.congr {K : PySem.W.Frag} {mg : Mg} {f f' : Rd' RX} (h : SndW X e K mg E f) (q : ∀ ρ S, f' ρ S = f ρ S) : SndW X e K mg E f' := by
  have : f' = f := funext fun ρ => funext (q ρ)
  subst this; exact h
theorem tG_congr {α β : Type} {K : PySem.W.Frag} {mg : Mg} {P : Post α β} {f f' : Rd' α} (q : ∀ ρ S, f' ρ S = f ρ S) : tG K mg E P f' = tG K mg E P f := by
  have : f' = f := funext fun ρ => funext (q ρ)
  subst this; rfl
theorem nb (h : ∀ op vs p, e ≠ .BoolOp op vs p) {f : Rd' RX} (s : Snd X e X.K X.mg E f) : SndW X e X.K X.mg E f := s.w h
theorem sn_var (g : Gd X CX E lv c G C) {i : Nat} {x : Str} (h1 : c.slot i x = true) (h2 : c.vis x = true) (h3 : x ≠ dbg) (h4 : x ≠ cld) : Snd X (.Name x pos) X.K X.mg E (ev G C (.var i)) := by
  refine .of (PE.imp (pe_var (g.slot h1) (g.vis h2) (ndb h3) (ncd h4)) fun σ H Q ⟨ρ, cm, S, hs, he, q⟩ => ?_) rfl
  rw [ev] at q
  cases e1 : ρ[i]? with
  | none => rw [e1] at q; exact q.elim
  | some o => cases o with
    | none => rw [e1] at q; exact q.elim
    | some r =>
      rw [e1] at q
      obtain ⟨v, hv, hr⟩ := he.at' i _ e1
      cases r with
      | d d => exact ⟨v, hv, q v H cm (mkD hs hr)⟩
      | c n => exact ⟨v, hv, q v H cm ⟨Tr.refl, hs, hr⟩⟩
theorem pe_tC {v : V} {d : D} (h : PE X e (tC v)) (r : ∀ H L, Rp X.K H L v d) : PE X e (tX X.K X.mg E fun _ S => .ok (.d d) S) :=
  PE.imp h fun σ H Q ⟨ρ, cm, S, hs, he, q⟩ => q v H cm (mkD hs (r _ _))
theorem sn_lit {k : Const} {j : Nat} {d : D} (h : chkK k d = true) : Snd X (.Constant k j pos) X.K X.mg E fun _ S => .ok (.d d) S := by
  refine .of ?_ rfl
  cases k <;> cases d <;> simp only [chkK, Bool.false_eq_true, decide_eq_true_eq, beq_iff_eq] at h
  · exact pe_tC pe_non fun _ _ => .non
  · subst h; exact pe_tC pe_bl fun _ _ => .bl _
  · subst h; exact pe_tC pe_int fun _ _ => .int _
  · subst h; exact pe_tC pe_str fun _ _ => .str _
theorem sn_con (g : Gd X CX E lv c G C) {i : Nat} {x : Str} (h1 : c.cons[i]? = some x) (h2 : c.glb x = true) (h3 : x ≠ dbg) : Snd X (.Name x pos) X.K X.mg E (ev G C (.con i)) := by
  obtain ⟨d, v, u, e1, e2, e3, e4⟩ := g.top.cons i x h1
  refine .of (PE.imp (pe_glob (g.glb h2) e2 e3 (ndb h3)) fun σ H Q ⟨ρ, cm, S, hs, he, q⟩ => ?_) rfl
  rw [ev, e1] at q
  exact q v H cm (mkD hs (e4 _ _))
theorem nfs {e : Expr} {env : PySem.Env} (h : notSet e = true) : ∀ x, foldedSetIterable e env x = pure x := by
  intro x
  cases e <;> first | rfl | simp [notSet] at h
theorem chkEs_len {c : Ct} : ∀ {ms : Es} {es : List Expr}, chkEs c ms es = true → ms.len = es.length
  | .nil, es, h => by rw [chkEs] at h; cases es <;> simp_all [Es.len]
  | .cons _ m ms, es, h => by
    rw [chkEs.eq_def] at h; dsimp only at h
    cases es with
    | nil => cases h
    | cons e es => simp only [Bool.and_eq_true] at h; simp [Es.len, chkEs_len h.2]
theorem chkKw_len {c : Ct} : ∀ {ms : Es} {es : List Keyword}, chkKw c ms es = true → ms.len = es.length
  | .nil, es, h => by rw [chkKw] at h; cases es <;> simp_all [Es.len]
  | .cons _ m ms, es, h => by
    rw [chkKw.eq_def] at h; dsimp only at h
    cases es with
    | nil => cases h
    | cons e es => obtain ⟨_, e, _⟩ := e; simp only [Bool.and_eq_true] at h; simp [Es.len, chkKw_len h.2]
theorem es_nil {ms : Es} (h : ms.len = es.length) : es = [] → ms = .nil := fun e => by
  subst e
  cases ms with
  | nil => rfl
  | cons _ _ _ => simp [Es.len] at h
theorem kws_len : ∀ {kws : List Keyword}, kws.all (·.arg.isSome) = true → (kws.filterMap (·.arg)).length = kws.length
  | [], _ => rfl
  | ⟨n, e, p⟩ :: kws, h => by
    rw [List.all_cons, Bool.and_eq_true] at h
    cases n with
    | none => simp at h
    | some n => simp [kws_len h.2]
end
variable {G : List Mir} {C : List D}
mutual
theorem sndE : ∀ (m : Rf.E) {X : Cx} {CX : CXT} {E : XK} {lv : Nat} {c : Ct} (g : Gd X CX E lv c G C) (e : Expr), chkE c m e = true → SndW X e X.K X.mg E (ev G C m)
  | .var i, X, CX, E, lv, c, g, e, h => by
    rw [chkE.eq_def] at h; dsimp only at h
    split at h
    · simp only [Bool.and_eq_true, decide_eq_true_eq] at h
      obtain ⟨⟨⟨h1, h2⟩, h3⟩, h4⟩ := h
      exact (sn_var g h1 h2 h3 h4).w (by intros; simp)
    · cases h
  | .lit d, X, CX, E, lv, c, g, e, h => by
    rw [chkE.eq_def] at h; dsimp only at h
    split at h
    · exact ((sn_lit h).w (by intros; simp)).congr fun ρ S => by rw [ev]
    · cases h
  | .con i, X, CX, E, lv, c, g, e, h => by
    rw [chkE.eq_def] at h; dsimp only at h
    split at h
    · simp only [Bool.and_eq_true, decide_eq_true_eq] at h
      obtain ⟨⟨h1, h2⟩, h3⟩ := h
      exact (sn_con g h1 h2 h3).w (by intros; simp)
    · cases h
  | .tup ms, X, CX, E, lv, c, g, e, h => by
    rw [chkE.eq_def] at h; dsimp only at h
    split at h
    · simp only [Bool.and_eq_true] at h
      exact ((Snd.of (pe_tup' (sndEs ms g _ h.1 h.2)) rfl).w (by intros; simp)).congr fun ρ S => by rw [ev]; first | done | rfl
    · cases h
  | .lst ms, X, CX, E, lv, c, g, e, h => by
    rw [chkE.eq_def] at h; dsimp only at h
    split at h
    · simp only [Bool.and_eq_true] at h
      exact ((Snd.of (pe_lst' (sndEs ms g _ h.1 h.2)) rfl).w (by intros; simp)).congr fun ρ S => by rw [ev]; first | done | rfl
    · cases h
  | .bin op a b, X, CX, E, lv, c, g, e, h => by
    rw [chkE.eq_def] at h; dsimp only at h
    split at h
    · simp only [Bool.and_eq_true, decide_eq_true_eq] at h
      obtain ⟨⟨rfl, h1⟩, h2⟩ := h
      exact ((Snd.of (sn_bin (sndE a g _ h1).pe (sndE b g _ h2).pe) rfl).w (by intros; simp)).congr fun ρ S => by rw [ev]; first | done | rfl
    · cases h
  | .neg a, X, CX, E, lv, c, g, e, h => by
    rw [chkE.eq_def] at h; dsimp only at h
    split at h
    · exact ((Snd.of (sn_neg (sndE a g _ h).pe) rfl).w (by intros; simp)).congr fun ρ S => by rw [ev]; first | done | rfl
    · cases h
  | .nt a, X, CX, E, lv, c, g, e, h => by
    rw [chkE.eq_def] at h; dsimp only at h
    split at h
    · exact ((sn_nt (sndE a g _ h).toSnd).w (by intros; simp)).congr fun ρ S => by rw [ev]; first | done | rfl
    · cases h
  | .cmp op a b, X, CX, E, lv, c, g, e, h => by
    rw [chkE.eq_def] at h; dsimp only at h
    split at h
    · simp only [Bool.and_eq_true, decide_eq_true_eq] at h
      obtain ⟨⟨⟨rfl, h0⟩, h1⟩, h2⟩ := h
      exact ((sn_cmp g (sndE a g _ h1).pe (sndE b g _ h2).pe h0).w (by intros; simp)).congr fun ρ S => by rw [ev]; first | done | rfl
    · cases h
  | .ch2 o1 o2 a b d, X, CX, E, lv, c, g, e, h => by
    rw [chkE.eq_def] at h; dsimp only at h
    split at h
    · simp only [Bool.and_eq_true, decide_eq_true_eq] at h
      obtain ⟨⟨⟨⟨⟨rfl, rfl⟩, h0⟩, h1⟩, h2⟩, h3⟩ := h
      exact ((sn_ch2 g (sndE a g _ h1).pe (sndE b g _ h2).pe (sndE d g _ h3).pe h0).w (by intros; simp)).congr fun ρ S => by rw [ev]; first | done | rfl
    · cases h
  | .ch3 o1 o2 o3 a b d f, X, CX, E, lv, c, g, e, h => by
    rw [chkE.eq_def] at h; dsimp only at h
    split at h
    · simp only [Bool.and_eq_true, decide_eq_true_eq] at h
      obtain ⟨⟨⟨⟨⟨⟨⟨rfl, rfl⟩, rfl⟩, h0⟩, h1⟩, h2⟩, h3⟩, h4⟩ := h
      exact ((sn_ch3 g (sndE a g _ h1).pe (sndE b g _ h2).pe (sndE d g _ h3).pe (sndE f g _ h4).pe h0).w (by intros; simp)).congr fun ρ S => by rw [ev]; first | done | rfl
    · cases h
  | .and a b, X, CX, E, lv, c, g, e, h => by
    rw [chkE.eq_def] at h; dsimp only at h
    split at h
    · simp only [Bool.and_eq_true] at h
      exact (sn_and2 (sndE a g _ h.1).toSnd (sndE b g _ h.2).toSnd).congr fun ρ S => by rw [ev]; first | done | rfl
    · simp only [Bool.and_eq_true] at h
      exact (sn_and (sndE a g _ h.1).toSnd (sndE b g _ h.2)).congr fun ρ S => by rw [ev]; first | done | rfl
    · cases h
  | .or a b, X, CX, E, lv, c, g, e, h => by
    rw [chkE.eq_def] at h; dsimp only at h
    split at h
    · simp only [Bool.and_eq_true] at h
      exact (sn_or2 (sndE a g _ h.1).toSnd (sndE b g _ h.2).toSnd).congr fun ρ S => by rw [ev]; first | done | rfl
    · simp only [Bool.and_eq_true] at h
      exact (sn_or (sndE a g _ h.1).toSnd (sndE b g _ h.2)).congr fun ρ S => by rw [ev]; first | done | rfl
    · cases h
  | .ite t a b, X, CX, E, lv, c, g, e, h => by
    rw [chkE.eq_def] at h; dsimp only at h
    split at h
    · simp only [Bool.and_eq_true] at h
      obtain ⟨⟨h0, h1⟩, h2⟩ := h
      exact ((sn_ite (sndE t g _ h0).toSnd (sndE a g _ h1).toSnd (sndE b g _ h2).toSnd).w (by intros; simp)).congr fun ρ S => by rw [ev]; first | done | rfl
    · cases h
  | .idx a i, X, CX, E, lv, c, g, e, h => by
    rw [chkE.eq_def] at h; dsimp only at h
    split at h
    · simp only [Bool.and_eq_true] at h
      obtain ⟨⟨h0, h1⟩, h2⟩ := h
      exact ((Snd.of (pe_idx' (sndE a g _ h1).pe (sndE i g _ h2).pe h0) rfl).w (by intros; simp)).congr fun ρ S => by rw [ev]; first | done | rfl
    · cases h
  | .sl a lo hi, X, CX, E, lv, c, g, e, h => by
    rw [chkE.eq_def] at h; dsimp only at h
    split at h
    · simp only [Bool.and_eq_true] at h
      obtain ⟨⟨h0, h1⟩, h2⟩ := h
      exact ((Snd.of (pe_sl' (sndE a g _ h0).pe (sndO lo g _ h1) (sndO hi g _ h2)) rfl).w (by intros; simp)).congr fun ρ S => by rw [ev]; first | done | rfl
    · cases h
  | .rev a, X, CX, E, lv, c, g, e, h => by
    rw [chkE.eq_def] at h; dsimp only at h
    split at h
    · simp only [Bool.and_eq_true, decide_eq_true_eq] at h
      obtain ⟨rfl, h1⟩ := h
      exact ((Snd.of (pe_rev' (sndE a g _ h1).pe) rfl).w (by intros; simp)).congr fun ρ S => by rw [ev]; first | done | rfl
    · cases h
  | .call f ms, X, CX, E, lv, c, g, e, h => by
    rw [chkE.eq_def] at h; dsimp only at h
    split at h
    · simp only [Bool.and_eq_true, decide_eq_true_eq] at h
      obtain ⟨⟨⟨⟨h0, h1⟩, h2⟩, h3⟩, h4⟩ := h
      exact (Snd.of (pe_call' g (by split at h0 <;> simp_all) h1 h2 h3 (sndEs ms g _ h3 h4) (es_nil (chkEs_len h4))) rfl).w (by intros; simp)
    · cases h
  | .kall f ms ns perm, X, CX, E, lv, c, g, e, h => by
    rw [chkE.eq_def] at h; dsimp only at h
    split at h
    · simp only [Bool.and_eq_true, decide_eq_true_eq] at h
      obtain ⟨⟨⟨⟨⟨⟨⟨h0, h1⟩, h2⟩, h3⟩, h4⟩, h5⟩, h6⟩, h7⟩ := h
      exact (Snd.of (pe_kcall' g (by split at h0 <;> simp_all) h1 h2 h3 h4 h5 (sndEs ms g _ h3 h6) (sndKw ns g _ h7) (chkEs_len h6) (by rw [kws_len h4]; exact chkKw_len h7) (es_nil (chkEs_len h6))) rfl).w (by intros; simp)
    · cases h
  | .blt f ms, X, CX, E, lv, c, g, e, h => by
    rw [chkE.eq_def] at h; dsimp only at h
    split at h
    · rename_i x p es cp
      simp only [Bool.and_eq_true, Bool.or_eq_true, decide_eq_true_eq] at h
      obtain ⟨⟨⟨⟨⟨h0, h1⟩, h2⟩, h3⟩, h4⟩, h5⟩ := h
      cases es with
      | nil => simp at h3
      | cons a r => exact ((Snd.of (pe_blt' g h0 h1 h2 (sndEs ms g _ h4 h5) h4) rfl).w (by intros; simp)).congr fun ρ S => by rw [ev]; first | done | rfl
    · cases h
  | .mth f o ms, X, CX, E, lv, c, g, e, h => by
    rw [chkE.eq_def] at h; dsimp only at h
    split at h
    · rename_i y m ap es cp
      simp only [Bool.and_eq_true, decide_eq_true_eq] at h
      obtain ⟨⟨⟨⟨⟨⟨⟨⟨hf, h0⟩, h1⟩, h2⟩, h3⟩, h4⟩, h5⟩, h6⟩, h7⟩ := h
      cases es with
      | nil => simp at h2
      | cons a r =>
        have hl : r.length < 8 := by simp at h3; omega
        have ho := (sndE o g _ h6).pe
        have ha := sndEs ms g _ h4 h7
        exact ((Snd.of (pe_mth' f h0 hf h1 h5 hl h4 ho ha) rfl).w (by intros; simp)).congr fun ρ S => by rw [ev]; first | done | rfl
    · cases h
  | .pop i, X, CX, E, lv, c, g, e, h => by
    rw [chkE.eq_def] at h; dsimp only at h
    split at h
    · simp only [Bool.and_eq_true, decide_eq_true_eq] at h
      obtain ⟨⟨⟨⟨⟨h0, h1⟩, h2⟩, h3⟩, h4⟩, h5⟩ := h
      exact (Snd.of (pe_pop' g h0 h1 h2 h3 h4 h5) rfl).w (by intros; simp)
    · cases h
  | .nev, X, CX, E, lv, c, g, e, h => by
    have n : ∀ ρ S, ev G C .nev ρ S = .stuck := fun ρ S => by rw [ev]
    refine ⟨⟨⟨fun pins s σ H Q I ⟨ρ, cm, S, hs, he, q⟩ => ?_⟩, ⟨fun pins s σ H Q I ⟨ρ, cm, S, hs, he, q⟩ => ?_⟩⟩, fun _ _ _ _ => ⟨fun wh pins s σ H Q I ⟨ρ, cm, S, hs, he, q⟩ => ?_⟩⟩
    · rw [n] at q; exact q.elim
    · dsimp only at q; rw [n] at q; exact q.elim
    · dsimp only at q; rw [n] at q; exact q.elim
  | .isi a ts, X, CX, E, lv, c, g, e, h => by
    rw [chkE.eq_def] at h; dsimp only at h
    split at h
    · simp only [Bool.and_eq_true, decide_eq_true_eq] at h
      obtain ⟨⟨⟨⟨⟨h0, h1⟩, h2⟩, h3⟩, h5⟩, h4⟩ := h
      exact ((Snd.of (pe_isi2 g h0 h1 h2 (sndE a g _ h3).pe h4 h5) rfl).w (by intros; simp)).congr fun ρ S => by rw [ev]; first | done | rfl
    · simp only [Bool.and_eq_true, decide_eq_true_eq] at h
      obtain ⟨⟨⟨⟨h0, h1⟩, h2⟩, h3⟩, h4⟩ := h
      split at h4
      · simp only [Bool.and_eq_true] at h4
        exact ((Snd.of (pe_isi1 g h0 h1 h2 (sndE a g _ h3).pe h4.1 h4.2) rfl).w (by intros; simp)).congr fun ρ S => by rw [ev]; first | done | rfl
      · cases h4
    · cases h
  | .comp elt tg one it cond own, X, CX, E, lv, c, g, e, h => by
    rw [chkE.eq_def] at h; dsimp only at h
    split at h
    · rename_i elt' tg' iter ifs scope p
      simp only [Bool.and_eq_true, decide_eq_true_eq, List.all_eq_true, List.contains_iff_mem] at h
      obtain ⟨⟨⟨⟨⟨⟨⟨⟨h0, h1⟩, h2⟩, h3⟩, h4⟩, h5⟩, h6⟩, h7⟩, h8⟩ := h
      have bo : BlkOk X.N X.env.scope scope (own.filterMap fun i => c.N[i]?.map fun x => (x, i)) := by
        rw [g.N, g.sc]; exact blkOk_by h0
      have pi : PI X tg' iter (tJ X.K X.mg E (evi G C it)) := sndI it g iter tg' h5 h6
      have pc := pe_comp (pos := p) (tg := tg) (one := one) g.calm g.nd pi bo h1 h2 (fun s H C' cl fp => pg_D (g.blk s H scope C' cl fp) h3) (fun s H C' cl fp => sndC cond (g.blk s H scope C' cl fp) ifs h7)
        (fun s H C' cl fp => (sndE elt (g.blk s H scope C' cl fp) elt' h8).pe) (nfs h4)
      exact ((Snd.of (PE.imp pc fun σ H Q hq => rd_comp h2 hq) rfl).w (by intros; simp)).congr fun ρ S => by rw [ev]; first | done | rfl
    · cases h
theorem sndO : ∀ (m : Eo) {X : Cx} {CX : CXT} {E : XK} {lv : Nat} {c : Ct} (g : Gd X CX E lv c G C) (e : Option Expr), chkO c m e = true → PO X e (tG X.K X.mg E (PPo X.K) (evo G C m))
  | .no, X, CX, E, lv, c, g, e, h => by
    rw [chkO.eq_def] at h; dsimp only at h
    cases e with
    | some e => cases h
    | none =>
      rw [tG_congr (f := fun ρ S => .ok none S) fun ρ S => by rw [evo]]
      exact po_no
  | .yes m, X, CX, E, lv, c, g, e, h => by
    rw [chkO.eq_def] at h; dsimp only at h
    cases e with
    | none => cases h
    | some e =>
      rw [tG_congr fun ρ S => by rw [evo]]
      exact po_yes (sndE m g e h).pe
theorem sndC : ∀ (m : Eo) {X : Cx} {CX : CXT} {E : XK} {lv : Nat} {c : Ct} (g : Gd X CX E lv c G C) (es : List Expr), chkC c m es = true → PTs X es (tB X.K X.mg E (evc G C m))
  | .no, X, CX, E, lv, c, g, es, h => by
    rw [chkC.eq_def] at h; dsimp only at h
    cases es with
    | cons e es => cases h
    | nil =>
      rw [show evc G C (.no) = (fun ρ S => .ok true S) from funext fun ρ => funext fun S => by rw [evc]]
      exact ⟨fun pins s σ H Q I ⟨ρ, cm, S, hs, he, q⟩ => pts_nil.run pins s σ H Q I (q true H cm ⟨Tr.refl, hs, rfl⟩)⟩
  | .yes m, X, CX, E, lv, c, g, es, h => by
    rw [chkC.eq_def] at h; dsimp only at h
    split at h
    · rename_i e
      rw [show evc G C (.yes m) = (fun ρ S => (ev G C m ρ S).tru) from funext fun ρ => funext fun S => by rw [evc]; rfl]
      exact pts_one (sndE m g e h).pt
    · cases h
theorem sndEs : ∀ (m : Es) {X : Cx} {CX : CXT} {E : XK} {lv : Nat} {c : Ct} (g : Gd X CX E lv c G C) (es : List Expr), es.all plainE = true → chkEs c m es = true → PA X es (tA X.K X.mg E (evs G C m))
  | .nil, X, CX, E, lv, c, g, es, hp, h => by
    rw [chkEs.eq_def] at h; dsimp only at h
    cases es with
    | cons e es => cases h
    | nil =>
      rw [show evs G C (.nil) = (fNil) from funext fun ρ => funext fun S => by rw [evs]; rfl]
      exact pa_nil'
  | .cons md m ms, X, CX, E, lv, c, g, es, hp, h => by
    rw [chkEs.eq_def] at h; dsimp only at h
    cases es with
    | nil => cases h
    | cons e es =>
      simp only [Bool.and_eq_true] at h
      rw [List.all_cons, Bool.and_eq_true] at hp
      rw [show evs G C (.cons md m ms) = (fCons md (ev G C m) (evs G C ms)) from funext fun ρ => funext fun S => by rw [evs]; rfl]
      exact pa_cons' (sndE m g e h.1).pe (sndEs ms g es hp.2 h.2) hp.1
theorem sndKw : ∀ (m : Es) {X : Cx} {CX : CXT} {E : XK} {lv : Nat} {c : Ct} (g : Gd X CX E lv c G C) (es : List Keyword), chkKw c m es = true → PK X es (tA X.K X.mg E (evs G C m))
  | .nil, X, CX, E, lv, c, g, es, h => by
    rw [chkKw.eq_def] at h; dsimp only at h
    cases es with
    | cons e es => cases h
    | nil =>
      rw [show evs G C (.nil) = (fNil) from funext fun ρ => funext fun S => by rw [evs]; rfl]
      exact pk_nil'
  | .cons md m ms, X, CX, E, lv, c, g, es, h => by
    rw [chkKw.eq_def] at h; dsimp only at h
    cases es with
    | nil => cases h
    | cons e es =>
      obtain ⟨nm, e, kp⟩ := e
      simp only [Bool.and_eq_true] at h
      rw [show evs G C (.cons md m ms) = (fCons md (ev G C m) (evs G C ms)) from funext fun ρ => funext fun S => by rw [evs]; rfl]
      exact pk_cons' (sndE m g e h.1).pe (sndKw ms g es h.2)
theorem sndI : ∀ (m : I) {X : Cx} {CX : CXT} {E : XK} {lv : Nat} {c : Ct} (g : Gd X CX E lv c G C) (e tg : Expr), chkI c m e = true → (isTup tg || m.plain) = true → PI X tg e (tJ X.K X.mg E (evi G C m))
  | .seq m, X, CX, E, lv, c, g, e, tg, h, ht => by
    rw [chkI.eq_def] at h; dsimp only at h
    rw [show evi G C (.seq m) = (fSeq (ev G C m)) from funext fun ρ => funext fun S => by rw [evi]; unfold fSeq Res.rv; rw [bind_bind]; first | done | rfl]
    exact pi_seq (sndE m g e h).pe
  | .rng ms, X, CX, E, lv, c, g, e, tg, h, ht => by
    rw [chkI.eq_def] at h; dsimp only at h
    split at h
    · simp only [Bool.and_eq_true, decide_eq_true_eq] at h
      obtain ⟨⟨⟨⟨h0, h1⟩, h2⟩, h3⟩, h4⟩ := h
      rw [show evi G C (.rng ms) = (fRng (evs G C ms)) from funext fun ρ => funext fun S => by rw [evi]; rfl]
      exact pi_rng g h0 h1 h2 h3 (chkEs_len h4) (sndEs ms g _ h2 h4)
    · cases h
  | .enum m, X, CX, E, lv, c, g, e, tg, h, ht => by
    rw [chkI.eq_def] at h; dsimp only at h
    split at h
    · simp only [Bool.and_eq_true, decide_eq_true_eq] at h
      obtain ⟨⟨⟨h0, h1⟩, h2⟩, h3⟩ := h
      rw [show evi G C (.enum m) = (fEnum (ev G C m)) from funext fun ρ => funext fun S => by rw [evi]; unfold fEnum Res.rv; rw [bind_bind]; first | done | rfl]
      cases tg with
      | Tuple es k tp => exact pi_en g h0 h1 h2 (sndE m g _ h3).pe
      | _ => simp [isTup, I.plain] at ht
    · cases h
  | .zip m n, X, CX, E, lv, c, g, e, tg, h, ht => by
    rw [chkI.eq_def] at h; dsimp only at h
    split at h
    · simp only [Bool.and_eq_true, decide_eq_true_eq] at h
      obtain ⟨⟨⟨⟨⟨h0, h1⟩, h2⟩, h3⟩, h4⟩, h5⟩ := h
      rw [show evi G C (.zip m n) = (fZip (ev G C m) (ev G C n)) from funext fun ρ => funext fun S => by rw [evi]; unfold fZip Res.rv; rw [bind_bind]; congr 1; funext x S1; congr 1; funext v S2; rw [bind_bind]; first | done | rfl]
      cases tg with
      | Tuple es k tp => exact pi_zp g h0 h1 h2 h3 (sndE m g _ h4).pe (sndE n g _ h5).pe
      | _ => simp [isTup, I.plain] at ht
    · cases h
end
end Rf

set_option Elab.async false
set_option linter.all false
set_option maxRecDepth 100000
set_option maxHeartbeats 4000000
namespace Rf
open PySem PySem.Spec PyProof.Rows L2
/-! ### statements -/
def okS (K : PySem.W.Frag) (mg : Mg) (E : XK) (Dn : Ends) (H : Hp) (cm : List Addr) (S : Store) : Out → Prop
  | .nx ρ' S' => ∀ σ' H' cm', Tr H cm S H' cm' S' → SR K H' cm' S' → ER K H' cm' S' ρ' σ' → Dn.nx σ' H'
  | .brk ρ' S' => ∀ σ' H' cm', Tr H cm S H' cm' S' → SR K H' cm' S' → ER K H' cm' S' ρ' σ' → Dn.bk σ' H'
  | .cnt ρ' S' => ∀ σ' H' cm', Tr H cm S H' cm' S' → SR K H' cm' S' → ER K H' cm' S' ρ' σ' → Dn.ct σ' H'
  | .ret r S' => ∀ v H' cm', PX K H cm S v r H' cm' S' → Dn.rt v H'
  | .exc x S' => RE K mg E H cm S x S'
  | .stuck => False
def tS (K : PySem.W.Frag) (mg : Mg) (E : XK) (f : Rf.Env → Store → Out) : TS := fun Dn σ H => ∃ ρ cm S, SR K H cm S ∧ ER K H cm S ρ σ ∧ okS K mg E Dn H cm S (f ρ S)
section
variable {K : PySem.W.Frag} {mg : Mg} {E : XK} {H H1 H' : Hp} {cm cm1 cm' : List Addr} {S S1 S' : Store} {ρ : Rf.Env} {σ : L2.St} {Dn : Ends}
theorem okS.step (t : Tr H cm S H1 cm1 S1) {o : Out} (h : okS K mg E Dn H cm S o) : okS K mg E Dn H1 cm1 S1 o := by
  cases o with
  | nx ρ S' => exact fun σ' H' cm' t' => h σ' H' cm' (t.trans t')
  | brk ρ S' => exact fun σ' H' cm' t' => h σ' H' cm' (t.trans t')
  | cnt ρ S' => exact fun σ' H' cm' t' => h σ' H' cm' (t.trans t')
  | ret r S' => exact fun v H' cm' p => h v H' cm' (p.tr t)
  | exc x S' => exact RE.step t h
  | stuck => exact h
theorem okS.zok : Zok K mg E Out.exc .stuck (okS K mg E Dn) := ⟨fun h => h, fun h => h, fun t h => okS.step t h⟩
theorem rd_seq {f g : Rf.Env → Store → Out} (h : tS K mg E (fun ρ S => (f ρ S).then g) Dn σ H) : tSeq (tS K mg E f) (tS K mg E g) Dn σ H := by
  obtain ⟨ρ, cm, S, hs, he, q⟩ := h
  refine ⟨ρ, cm, S, hs, he, ?_⟩
  dsimp only at q
  cases e : f ρ S with
  | nx ρ1 S1 =>
    rw [e] at q
    exact fun σ' H' cm' t s er => ⟨ρ1, cm', S1, s, er, okS.step t q⟩
  | brk ρ S' => rw [e] at q; exact q
  | cnt ρ S' => rw [e] at q; exact q
  | ret r S' => rw [e] at q; exact q
  | exc x S' => rw [e] at q; exact q
  | stuck => rw [e] at q; exact q
/-- what is wanted where a test is told -/
theorem rd_test {fc : Rd' RX} {fa fb : Rf.Env → Store → Out} (h : tS K mg E (fun ρ S => (fc ρ S).out fun x S1 => match boolV x with
      | some true => fa ρ S1
      | some false => fb ρ S1
      | none => .stuck) Dn σ H) : tIfS (tB K mg E fun ρ S => (fc ρ S).tru) (tS K mg E fa) (tS K mg E fb) Dn σ H := by
  obtain ⟨ρ, cm, S, hs, he, q⟩ := h
  refine ⟨ρ, cm, S, hs, he, ?_⟩
  dsimp only at q ⊢
  cases e : fc ρ S with
  | stuck => rw [e] at q; exact q.elim
  | exc x S1 => rw [e] at q; exact q
  | ok x S1 =>
    rw [e] at q
    simp only [Res.out_ok] at q
    cases e2 : boolV x with
    | none => rw [e2] at q; exact q.elim
    | some k =>
      have : (Res.ok x S1).tru = .ok k S1 := by unfold Res.tru; simp [e2]
      rw [this]
      rw [e2] at q
      intro b H1 cm1 p
      obtain ⟨t, s, rfl⟩ := p
      cases b with
      | true => exact ⟨ρ, cm1, S1, s, he.mono t hs, okS.step t q⟩
      | false => exact ⟨ρ, cm1, S1, s, he.mono t hs, okS.step t q⟩
theorem rd_set {f : Rd' RX} {i : Nat} {m : Md} (h : tS K mg E (fun ρ S => (f ρ S).out fun x S1 => (conv m x S1).out fun v S2 => .nx (ρ.set i (some v)) S2) Dn σ H) : tAsg (tX K mg E f) (gName i) Dn σ H := by
  obtain ⟨ρ, cm, S, hs, he, q⟩ := h
  refine tG_out okS.zok hs he q fun x S1 v H1 cm1 _ p z => ?_
  cases e1 : conv m x S1 with
  | stuck => rw [e1] at z; exact z.elim
  | exc x S2 => exact absurd e1 conv_noexc
  | ok r S2 =>
    rw [e1] at z
    obtain ⟨cm2, t2, s2, v2⟩ := p.conv hs e1
    exact z _ H1 cm2 t2 s2 ((he.mono t2 hs).set v2)
theorem rd_ret {f : Rd' RX} (h : tS K mg E (fun ρ S => (f ρ S).out fun x S1 => .ret x S1) Dn σ H) : tRet (tX K mg E f) Dn σ H := by
  obtain ⟨ρ, cm, S, hs, he, q⟩ := h
  exact tG_out okS.zok hs he q fun x S1 v H1 cm1 _ p z => z v H1 cm1 p
theorem rd_drop {f : Rd' RX} (h : tS K mg E (fun ρ S => (f ρ S).out fun _ S1 => .nx ρ S1) Dn σ H) : tDrop (tX K mg E f) Dn σ H := by
  obtain ⟨ρ, cm, S, hs, he, q⟩ := h
  refine tG_out okS.zok hs he q fun x S1 v H1 cm1 _ p z => ?_
  obtain ⟨cm2, t, s⟩ : ∃ cm2, Tr H cm S H1 cm2 S1 ∧ SR K H1 cm2 S1 := by
    cases x with
    | d d => exact ⟨cm1, p.1, p.2.1⟩
    | c n => exact ⟨cm1, p.1, p.2.1⟩
    | f ds =>
      obtain ⟨pa, _, pre, t, s⟩ := p
      exact ⟨cm1, fr_tr (fr_len s) t pre, (fr_sr s).1⟩
  exact z σ H1 cm2 t s (he.mono t hs)
theorem setsV_er : ∀ {is : List Nat} {rs : List RV} {vs : List V} {ρ : Rf.Env} {σ : L2.St}, ER K H cm S ρ σ → VsOk K H cm S vs rs → ER K H cm S (setsV is rs ρ) ((is.zip vs).foldl (fun σ p => σ.set p.1 (some p.2)) σ)
  | [], [], _, _, _, e, .nil => e
  | [], _ :: _, _, _, _, e, .cons _ _ => e
  | i :: is, [], _, _, _, e, .nil => e
  | i :: is, r :: rs, v :: vs, ρ, σ, e, .cons h q => setsV_er (is := is) (e.set (i := i) h) q
theorem vs_of_ds : ∀ {vs : List V} {ds : List D}, Rps K H (Lv cm S) vs ds → VsOk K H cm S vs (ds.map RV.d)
  | _, _, .nil => .nil
  | _, _, .cons h q => .cons h (vs_of_ds q)
theorem rd_unp {f : Rd' RX} {is : List Nat} {n : Nat} (hn : n = is.length) (h : tS K mg E (fun ρ S => (f ρ S).rv.out fun x S1 => match x with
    | .d (.tup ds) => if ds.length = is.length then .nx (setsV is (ds.map .d) ρ) S1 else .stuck
    | _ => .stuck) Dn σ H) : tAsg (tV K mg E fun ρ S => (f ρ S).rv) (gTup K n (gNs is)) Dn σ H := by
  obtain ⟨ρ, cm, S, hs, he, q⟩ := h
  refine tG_out (f := fun ρ S => (f ρ S).rv) okS.zok hs he q fun x S1 v H1 cm1 _ p z => ?_
  obtain ⟨t, s, vx⟩ := p
  cases x with
  | c n => exact z.elim
  | d d => cases d with
    | tup ds =>
      have rp : Rp K H1 (Lv cm1 S1) v (.tup ds) := vx
      cases rp with
      | tup ht rv =>
        dsimp only at z
        split at z
        · rename_i hl
          refine ⟨_, _, rfl, ht, by rw [rv.length, hl, hn], by rw [rv.length, hl], ?_⟩
          exact z _ H1 cm1 t s (setsV_er (he.mono t hs) (vs_of_ds rv))
        · exact z.elim
    | _ => exact z.elim
theorem rd_par {fs : Rd' (List RV)} {is : List Nat} (h : tS K mg E (fun ρ S => (fs ρ S).out fun vs S1 => if vs.length = is.length then .nx (setsV is vs ρ) S1 else .stuck) Dn σ H) {P : List V → Hp → Prop}
    (k : ∀ (ws : List V) H1, ws.length = is.length → (∀ H2 (p : Addr), (H2 = H1 ∨ (H1 p = none ∧ H2 = upd H1 p (.tup ws))) → Dn.nx ((is.zip ws).foldl (fun σ p => σ.set p.1 (some p.2)) σ) H2) → P ws H1) : tA K mg E fs σ H P := by
  obtain ⟨ρ, cm, S, hs, he, q⟩ := h
  refine tG_out okS.zok hs he q fun vs S1 ws H1 cm1 _ p z => ?_
  obtain ⟨t, s, vv⟩ := p
  split at z
  · rename_i hl
    refine k ws H1 (by rw [vv.length, hl]) fun H2 p hp => ?_
    have e := setsV_er (is := is) (he.mono t hs) vv
    rcases hp with rfl | ⟨hp, rfl⟩
    · exact z _ H2 cm1 t s e
    · exact z _ _ cm1 (t.trans (Tr.new s hp)) (s.new hp) (e.mono (Tr.new s hp) s)
  · exact z.elim
end
section
variable {X : Cx} {CX : CXT} {E : XK} {lv : Nat} {c : Ct} {G : List Mir} {C : List D} {a b d e v : Expr} {fa fb fc fd : Rd' RX} {pos p : Pos} {es vs : List Expr}
structure Gs (X : Cx) (CX : CXT) (E : XK) (lv : Nat) (c : Ct) (G : List Mir) (C : List D) : Prop extends Gd X CX E lv c G C where
  kind : X.env.scope.kind = .function
  pown : PassesOwn (model X.prog X.w) X.A X.env X.xe
  allfn : ∀ x, X.fn x = true
def notLc : Expr → Bool
  | .ListComp .. => false
  | .SetComp .. => false
  | .DictComp .. => false
  | _ => true
theorem sw_no {t : Option Expr} {l : Nat} {env : PySem.Env} (h : notLc v = true) : swapsWith v t l env = pure false := by
  cases v <;> first | rfl | simp [notLc] at h
theorem sw_far {elt : Expr} {gs : List Comprehension} {scope : Scope} {lp py : Pos} {y : Str} {l : Nat} {env : PySem.Env} (h : (py.line == lp.line) = false) : swapsWith (.ListComp elt gs scope lp) (some (.Name y py)) l env = pure false := by
  unfold swapsWith
  simp only [Expr.pos, h, Bool.and_false, Bool.false_and]
theorem ps_set' (g : Gs X CX E lv c G C) {i : Nat} {x : Str} {m : Md} (h1 : c.slot i x = true) (h2 : c.loc x = true) (hs : swapsWith v (some (.Name x p)) pos.line X.env = pure false) (hv : PE X v (tX X.K X.mg E fa)) : PS X (.Assign [.Name x p] v pos) (tS X.K X.mg E fun ρ S => (fa ρ S).out fun x S1 => (conv m x S1).out fun v S2 => .nx (ρ.set i (some v)) S2) := by
  have hl := g.loc h2
  exact PS.imp (ps_set g.nd (g.slot h1) hl.1 hv hs hl.2) fun Dn σ H h => rd_set h
theorem ps_exp' (g : Gs X CX E lv c G C) (hs : notLc v = true) (hv : PE X v (tX X.K X.mg E fa)) : PS X (.Expr v pos) (tS X.K X.mg E fun ρ S => (fa ρ S).out fun _ S1 => .nx ρ S1) :=
  PS.imp (ps_expr hv (sw_no hs)) fun Dn σ H h => rd_drop h
theorem ps_ret' (hv : PE X v (tX X.K X.mg E fa)) : PS X (.Return (some v) pos) (tS X.K X.mg E fun ρ S => (fa ρ S).out fun x S1 => .ret x S1) :=
  PS.imp (ps_ret hv) fun Dn σ H h => rd_ret h
theorem ps_retN' : PS X (.Return none pos) (tS X.K X.mg E fun ρ S => .ret (.d .non) S) :=
  PS.imp ps_retN fun Dn σ H ⟨ρ, cm, S, hs, he, q⟩ => q .non H cm (mkD hs .non)
theorem rd_nx {K : PySem.W.Frag} {mg : Mg} {Dn : Ends} {σ : L2.St} {H : Hp} (h : tS K mg E (fun ρ S => .nx ρ S) Dn σ H) : Dn.nx σ H := by
  obtain ⟨ρ, cm, S, hs, he, q⟩ := h
  exact q σ H cm Tr.refl hs he
theorem ps_pass' : PS X (.Pass pos) (tS X.K X.mg E fun ρ S => .nx ρ S) := PS.imp ps_pass fun Dn σ H h => rd_nx h
theorem ps_doc' {x : Str} {j : Nat} : PS X (.Expr (.Constant (.str x) j p) pos) (tS X.K X.mg E fun ρ S => .nx ρ S) := PS.imp ps_doc fun Dn σ H h => rd_nx h
theorem ps_brk' : PS X (.Break pos) (tS X.K X.mg E fun ρ S => .brk ρ S) := PS.imp ps_break fun Dn σ H ⟨ρ, cm, S, hs, he, q⟩ => q σ H cm Tr.refl hs he
theorem ps_cnt' : PS X (.Continue pos) (tS X.K X.mg E fun ρ S => .cnt ρ S) := PS.imp ps_continue fun Dn σ H ⟨ρ, cm, S, hs, he, q⟩ => q σ H cm Tr.refl hs he
def notTup : Expr → Bool
  | .Tuple .. => false
  | _ => true
theorem sole_tup {ts : List Expr} {k : Nat} {l : Nat} {env : PySem.Env} : swapsWithSole [.Tuple ts k p] v l env = pure false := by
  cases v <;> rfl
theorem stores_tup {ts : List Expr} {k : Nat} {env : PySem.Env} (h : notTup v = true) : swappedStores [.Tuple ts k p] v env = pure none := by
  cases v <;> first | rfl | simp [notTup] at h
theorem ps_unp' (g : Gs X CX E lv c G C) {ts : List Expr} {k : Nat} {is : List Nat} (h1 : chkNs c ts is = true) (h2 : notTup v = true) (hv : PE X v (tX X.K X.mg E fa)) : PS X (.Assign [.Tuple ts k p] v pos) (tS X.K X.mg E fun ρ S => (fa ρ S).rv.out fun x S1 => match x with
    | .d (.tup ds) => if ds.length = is.length then .nx (setsV is (ds.map .d) ρ) S1 else .stuck
    | _ => .stuck) := by
  obtain ⟨a1, a2, a3⟩ := pgs_ns g.toGd h1
  exact PS.imp (ps_asg (pe_rv hv) (pg_tup g.calm a1 rfl a3) sole_tup (stores_tup h2) rfl) fun Dn σ H h => rd_unp a2 h
/-- what is swapped, by the scope -/
def swP (sc : Scope) (ts vs : List Expr) : Option (Option (List Str)) :=
  if !(ts.length == 2 || ts.length == 3) || vs.length != ts.length then some none
  else if vs.any fun | .Starred .. => true | _ => false then some none
  else if (ts.filterMap fun
    | .Name id pos => if sc.names.lookup id == some .local && pos.line == (ts.head?.map (·.pos.line)).getD 0 then some id else none
    | _ => none).length != ts.length || (ts.filterMap fun
    | .Name id pos => if sc.names.lookup id == some .local && pos.line == (ts.head?.map (·.pos.line)).getD 0 then some id else none
    | _ => none).eraseDups.length != (ts.filterMap fun
    | .Name id pos => if sc.names.lookup id == some .local && pos.line == (ts.head?.map (·.pos.line)).getD 0 then some id else none
    | _ => none).length then some none
  else if vs.all (foldedForSure 8) then some none
  else if vs.all (constantsAlone 8) then none
  else some (some (ts.filterMap fun
    | .Name id pos => if sc.names.lookup id == some .local && pos.line == (ts.head?.map (·.pos.line)).getD 0 then some id else none
    | _ => none))
theorem swP_ok {ts vs : List Expr} {k k2 : Nat} {p2 : Pos} {env : PySem.Env} {o : Option (List Str)} (hk : env.scope.kind = .function) (h : swP env.scope ts vs = some o) : swappedStores [.Tuple ts k p] (.Tuple vs k2 p2) env = pure o := by
  have hb : env.blockKind = .function := by unfold PySem.Env.blockKind; rw [hk]; rfl
  unfold swP at h
  have hbk : (env.blockKind != ScopeKind.function) = false := by rw [hb]; rfl
  unfold swappedStores
  simp only [hbk, Bool.or_false]
  split at h
  · rename_i c1; cases h; exact if_pos c1
  · rename_i c1
    refine (if_neg c1).trans ?_
    split at h
    · rename_i c2; cases h; exact if_pos c2
    · rename_i c2
      refine (if_neg c2).trans ?_
      split at h
      · rename_i c3; cases h; exact if_pos c3
      · rename_i c3
        refine (if_neg c3).trans ?_
        split at h
        · rename_i c4; cases h; exact if_pos c4
        · rename_i c4
          refine (if_neg c4).trans ?_
          split at h
          · cases h
          · rename_i c5
            cases h
            exact if_neg c5
/-! a, b = x, y -/
theorem foldl_two {i j : Nat} {σ : L2.St} {v w : V} : ([i, j].zip [v, w]).foldl (fun σ p => σ.set p.1 (some p.2)) σ = (σ.set i (some v)).set j (some w) := rfl
theorem ps_par2' (g : Gs X CX E lv c G C) {i j k k2 : Nat} {x y : Str} {px py pt p2 : Pos} {fs : Rd' (List RV)} (h1 : c.slot i x = true) (h2 : c.slot j y = true) (hij : i ≠ j) (hx : c.sc.names.lookup x = some .local) (hy : c.sc.names.lookup y = some .local)
    (hw : swP c.sc [.Name x px, .Name y py] [a, b] = some (some [x, y])) (ha : PA X [a, b] (tA X.K X.mg E fs)) :
    PS X (.Assign [.Tuple [.Name x px, .Name y py] k pt] (.Tuple [a, b] k2 p2) pos) (tS X.K X.mg E fun ρ S => (fs ρ S).out fun vs S1 => if vs.length = [i, j].length then .nx (setsV [i, j] vs ρ) S1 else .stuck) := by
  refine PS.imp (ps_par g.calm g.nd (g.slot h1) (g.slot h2) hij (by rw [g.sc]; exact hx) (by rw [g.sc]; exact hy) ha (swP_ok g.kind (by rw [g.sc]; exact hw)) sole_tup) fun Dn σ H h => rd_par h fun ws H1 hl k => ?_
  match ws, hl with
  | [u, w], _ => exact ⟨u, w, rfl, k H1 0 (.inl rfl)⟩
theorem ps_par3' (g : Gs X CX E lv c G C) {i j l k k2 : Nat} {x y z : Str} {px py pz pt p2 : Pos} {fs : Rd' (List RV)} (h1 : c.slot i x = true) (h2 : c.slot j y = true) (h3 : c.slot l z = true) (hij : i ≠ j) (hil : i ≠ l) (hjl : j ≠ l) (hx : c.sc.names.lookup x = some .local) (hy : c.sc.names.lookup y = some .local) (hz : c.sc.names.lookup z = some .local)
    (hw : swP c.sc [.Name x px, .Name y py, .Name z pz] [a, b, d] = some (some [x, y, z])) (ha : PA X [a, b, d] (tA X.K X.mg E fs)) :
    PS X (.Assign [.Tuple [.Name x px, .Name y py, .Name z pz] k pt] (.Tuple [a, b, d] k2 p2) pos) (tS X.K X.mg E fun ρ S => (fs ρ S).out fun vs S1 => if vs.length = [i, j, l].length then .nx (setsV [i, j, l] vs ρ) S1 else .stuck) := by
  refine PS.imp (ps_par3 g.calm g.nd (g.slot h1) (g.slot h2) (g.slot h3) hij hil hjl (by rw [g.sc]; exact hx) (by rw [g.sc]; exact hy) (by rw [g.sc]; exact hz) ha (swP_ok g.kind (by rw [g.sc]; exact hw)) sole_tup) fun Dn σ H h => rd_par h fun ws H1 hl k => ?_
  match ws, hl with
  | [u, w, w2], _ => exact ⟨u, w, w2, rfl, k H1 0 (.inl rfl)⟩
theorem ps_parN' (g : Gs X CX E lv c G C) {ts : List Expr} {k k2 : Nat} {is : List Nat} {pt p2 : Pos} {fs : Rd' (List RV)} (h1 : chkNs c ts is = true) (hlen : is.length ≤ 64) (hw : swP c.sc ts vs = some none) (ha : PA X vs (tA X.K X.mg E fs)) :
    PS X (.Assign [.Tuple ts k pt] (.Tuple vs k2 p2) pos) (tS X.K X.mg E fun ρ S => (fs ρ S).out fun vs S1 => if vs.length = is.length then .nx (setsV is vs ρ) S1 else .stuck) := by
  obtain ⟨a1, a2, a3⟩ := pgs_ns g.toGd h1
  refine PS.imp (ps_asg (pe_tup ha) (pg_tup g.calm a1 rfl a3) sole_tup (swP_ok g.kind (by rw [g.sc]; exact hw)) rfl) fun Dn σ H h => rd_par h fun ws H1 hl k => ⟨by rw [hl]; exact Nat.le_trans hlen (by rw [sizeLine_eq]; decide), fun q hq => ⟨q, ws, rfl, .inl (.inl upd_same), by rw [hl, a2], by rw [hl], k _ q (.inr ⟨hq, rfl⟩)⟩⟩
/-! o[i] = v -/
theorem ps_sub' (g : Gs X CX E lv c G C) {o i : Expr} {fo fi : Rd' RX} (hi : notSl i = true) (ho : PE X o (tX X.K X.mg E fo)) (hix : PE X i (tX X.K X.mg E fi)) (hv : PE X v (tX X.K X.mg E fa)) : PS X (.Assign [.Subscript o i p] v pos) (tS X.K X.mg E fun ρ S => (fa ρ S).out fun x S1 => (asD x S1).out fun d S2 => (fo ρ S2).out fun y S3 => match y with
    | .c n => (fi ρ S3).rv.out fun z S4 => (match z with
      | .d (.int k) => (match S4[n]? with
        | some (.lst ds) => (match ixN ds.length k with
          | some j => .nx ρ (S4.set n (.lst (ds.set j d)))
          | none => .stuck)
        | _ => .stuck)
      | _ => .stuck)
    | _ => .stuck) := by
  refine PS.imp (ps_asg (pe_asD hv) (pg_sub ho (pe_rv hix) set_list (by cases i <;> first | (intro _; rfl) | simp [notSl] at hi)) (by cases v <;> rfl) (by cases v <;> rfl) rfl) fun Dn σ H ⟨ρ, cm, S, hs, he, q⟩ => ?_
  have e9 : ∀ {r : Res RX} {k : D → Store → Out}, (r.out fun x S3 => (asD x S3).out k) = (r.bind asD).out k := fun {r k} => by
    cases r with
    | ok a S => rfl
    | _ => rfl
  dsimp only at q
  rw [e9] at q
  refine tG_out (f := fun ρ S => (fa ρ S).bind asD) okS.zok hs he q fun d S1 v H1 cm1 _ p z => ?_
  obtain ⟨t1, s1, rd⟩ := p
  have he1 := he.mono t1 hs
  refine tG_out okS.zok s1 he1 (okS.step t1 z) fun y S2 w H2 cm2 _ p2 z => ?_
  cases y with
  | d d => exact z.elim
  | f ds => exact z.elim
  | c n =>
    obtain ⟨t2, s2, ad, rfl, ha⟩ := p2
    have he2 := he1.mono t2 s1
    refine tG_out (f := fun ρ S => (fi ρ S).rv) okS.zok s2 he2 (okS.step t2 z) fun z S3 u H3 cm3 _ p3 z3 => ?_
    obtain ⟨t3, s3, vz⟩ := p3
    have z3 := okS.step t3 z3
    cases z with
    | c n => exact z3.elim
    | d dz => cases dz with
      | int k =>
        cases vz
        dsimp only at z3
        cases e2 : S3[n]? with
        | none => rw [e2] at z3; exact z3.elim
        | some cl => cases cl with
          | fz ds => rw [e2] at z3; exact z3.elim
          | lst ds =>
            rw [e2] at z3
            dsimp only at z3
            obtain ⟨m, em⟩ := t3.pre
            have ha3 : cm3[n]? = some ad := by rw [em, List.getElem?_append_left (List.getElem?_eq_some_iff.mp ha).1]; exact ha
            obtain ⟨ws, hH, rv⟩ := s3.ok n ad _ ha3 e2
            have rv : Rps X.K H3 (Lv cm3 S3) ws ds := rv
            cases e3 : ixN ds.length k with
            | none => rw [e3] at z3; exact z3.elim
            | some j =>
              rw [e3] at z3
              refine ⟨ad, ws, k, j, rfl, rfl, hH, by rw [rv.length]; exact e3, ?_⟩
              have tr := wr_tr (es := ds.set j d) s3 ha3 e2 (.lst (ws.set j v))
              have rd3 := (rd.mono (t2.toExt s1)).mono (t3.toExt s2)
              exact z3 σ _ cm3 tr (wr_sr s3 ha3 e2 (Rps.set rd3 j rv)) ((he2.mono t3 s2).mono tr s3)
      | _ => exact z3.elim
end
end Rf

set_option Elab.async false
set_option linter.all false
set_option maxRecDepth 100000
set_option maxHeartbeats 4000000
namespace Rf
open PySem PySem.Spec PyProof.Rows L2
section
variable {X : Cx} {CX : CXT} {E : XK} {lv : Nat} {c : Ct} {G : List Mir} {C : List D} {a b d e v tgE iter : Expr} {fa fb fc fd : Rd' RX} {pos p : Pos} {es vs : List Expr} {body : List Stmt}
/-! name += e -/
def fAug (i : Nat) (op : Operator) (fa : Rd' RX) : Rf.Env → Store → Out := fun ρ S => match ρ[i]? with
    | some (some (.d (.int a))) => (fa ρ S).out fun x S1 => (match x, op with
      | .d (.int b), .Add => .nx (ρ.set i (some (.d (.int (a + b))))) S1
      | .d (.int b), .Sub => .nx (ρ.set i (some (.d (.int (a - b))))) S1
      | _, _ => .stuck)
    | _ => .stuck
theorem ps_aug' (g : Gs X CX E lv c G C) {i : Nat} {x : Str} {op : Operator} (hop : op = .Add ∨ op = .Sub) (h1 : c.slot i x = true) (h2 : c.loc x = true) (hv : PE X v (tX X.K X.mg E fa)) : PS X (.AugAssign (.Name x p) op v pos) (tS X.K X.mg E (fAug i op fa)) := by
  have hl := g.loc h2
  have key : ∀ {ti : TIp} {f : Int → Int → Int} {Dn : Ends} {σ : L2.St} {H : Hp}, (ti = ipI f) → (∀ ρ cm S (a : Int), SR X.K H cm S → ER X.K H cm S ρ σ → True) → tS X.K X.mg E (fun ρ S => match ρ[i]? with
    | some (some (.d (.int a))) => (fa ρ S).out fun x S1 => (match x with
      | .d (.int b) => .nx (ρ.set i (some (.d (.int (f a b))))) S1
      | _ => .stuck)
    | _ => .stuck) Dn σ H → tAug i (tX X.K X.mg E fa) ti Dn σ H := fun {ti f Dn σ H} et _ ⟨ρ, cm, S, hs, he, q⟩ => by
    subst et
    dsimp only at q
    cases e1 : ρ[i]? with
    | none => rw [e1] at q; exact q.elim
    | some o => cases o with
      | none => rw [e1] at q; exact q.elim
      | some r => cases r with
        | c n => rw [e1] at q; exact q.elim
        | d dd => cases dd with
          | int k =>
            rw [e1] at q
            obtain ⟨v, hv, rv⟩ := he.at' i _ e1
            cases (show Rp X.K H (Lv cm S) v (.int k) from rv)
            refine ⟨.int k, hv, tG_out okS.zok hs he q fun x S1 w H1 cm1 _ p z => ?_⟩
            cases x with
            | d d2 => cases d2 with
              | int j =>
                obtain ⟨t, s, rw'⟩ := p
                cases rw'
                exact ⟨k, j, rfl, rfl, z _ H1 cm1 t s ((he.mono t hs).set (r := .d _) (.int _))⟩
              | _ => exact z.elim
            | _ => exact z.elim
          | _ => rw [e1] at q; exact q.elim
  rcases hop with rfl | rfl
  · refine PS.imp (ps_aug g.nd (g.slot h1) hl.1 hv ip_add hl.2) fun Dn σ H h => key (f := fun i j => i + j) rfl (fun _ _ _ _ _ _ => trivial) ?_
    obtain ⟨ρ, cm, S, hs, he, q⟩ := h
    refine ⟨ρ, cm, S, hs, he, ?_⟩
    unfold fAug at q
    dsimp only at q ⊢
    split at q <;> first | exact q | skip
    rename_i a e1
    cases e2 : fa ρ S with
    | ok x S1 =>
      rw [e2] at q
      cases x with
      | d dd => cases dd <;> exact q
      | _ => exact q
    | exc x S1 => rw [e2] at q; exact q
    | stuck => rw [e2] at q; exact q
  · refine PS.imp (ps_aug g.nd (g.slot h1) hl.1 hv ip_sub hl.2) fun Dn σ H h => key (f := fun i j => i - j) rfl (fun _ _ _ _ _ _ => trivial) ?_
    obtain ⟨ρ, cm, S, hs, he, q⟩ := h
    refine ⟨ρ, cm, S, hs, he, ?_⟩
    unfold fAug at q
    dsimp only at q ⊢
    split at q <;> first | exact q | skip
    rename_i a e1
    cases e2 : fa ρ S with
    | ok x S1 =>
      rw [e2] at q
      cases x with
      | d dd => cases dd <;> exact q
      | _ => exact q
    | exc x S1 => rw [e2] at q; exact q
    | stuck => rw [e2] at q; exact q
/-! name.append(e) -/
theorem ps_app' (g : Gs X CX E lv c G C) {i : Nat} {x m : Str} {ap cp : Pos} (hm : m = "append") (hl : (ap.endLine == cp.line) = true) (h1 : c.slot i x = true) (h2 : c.vis x = true) (h3 : x ≠ dbg) (h4 : x ≠ cld) (hp : plainE v = true) (hv : PE X v (tX X.K X.mg E fa)) :
    PS X (.Expr (.Call (.Attribute (.Name x p) m ap) [v] [] cp) pos) (tS X.K X.mg E fun ρ S => match ρ[i]? with
    | some (some (.c n)) => (fa ρ S).out fun x S1 => (asD x S1).out fun d S2 => (match S2[n]? with
      | some (.lst ds) => if ds.length < line then .nx ρ (S2.set n (.lst (ds ++ [d]))) else .stuck
      | _ => .stuck)
    | _ => .stuck) := by
  subst hm
  have few : ((backTo cp (starEach [v] X.env)).all (fun x => !x.1) && (backToKw cp (keywordEach [] X.env)).all (fun x => x.1.isSome)
      && decide ([v].length + ([] : List Keyword).length + (if ([] : List Keyword).isEmpty then 0 else 1) < 30)) = true := by
    rw [star_noneS (by simp [hp])]; rfl
  refine PS.imp (ps_expr (pe_bm PySem.F.plainAttrs_list PySem.F.slot_list_append PySem.F.type_list_append mt_append (pe_var (g.slot h1) (g.vis h2) (ndb h3) (ncd h4)) (pa_cons (pe_asD hv) pa_nil (star_cons hp)) rfl few hl (star_cons hp) rfl) rfl) fun Dn σ H ⟨ρ, cm, S, hs, he, q⟩ => ?_
  dsimp only at q
  cases e1 : ρ[i]? with
  | none => rw [e1] at q; exact q.elim
  | some o => cases o with
    | none => rw [e1] at q; exact q.elim
    | some r => cases r with
      | d dd => rw [e1] at q; exact q.elim
      | c n =>
        rw [e1] at q
        dsimp only at q
        obtain ⟨w, hw, ad, rfl, ha⟩ := he.at' i _ e1
        have hn : n < S.length := by rw [← hs.len]; exact (List.getElem?_eq_some_iff.mp ha).1
        obtain ⟨vs0, hH0, _⟩ := hs.ok n ad S[n] ha (by simp [hn])
        have e9 : ∀ {r : Res RX} {k : D → Store → Out}, (r.out fun x S3 => (asD x S3).out k) = (r.bind asD).out k := fun {r k} => by
          cases r with
          | ok a S => rfl
          | _ => rfl
        rw [e9] at q
        refine ⟨.ref ad, hw, .inl ⟨rfl, vs0, .of hH0⟩, tG_out (f := fun ρ S => (fa ρ S).bind asD) okS.zok hs he q fun d S1 u H1 cm1 _ p z => ?_⟩
        obtain ⟨t, s, rd⟩ := p
        have z := okS.step t z
        cases e2 : S1[n]? with
        | none => rw [e2] at z; exact z.elim
        | some cl => cases cl with
          | fz ds => rw [e2] at z; exact z.elim
          | lst ds =>
            rw [e2] at z
            dsimp only at z
            obtain ⟨mo, em⟩ := t.pre
            have ha1 : cm1[n]? = some ad := by rw [em, List.getElem?_append_left (List.getElem?_eq_some_iff.mp ha).1]; exact ha
            obtain ⟨ws, hH, rv⟩ := s.ok n ad _ ha1 e2
            have rv : Rps X.K H1 (Lv cm1 S1) ws ds := rv
            split at z
            · rename_i hz
              refine ⟨ad, ws, u, rfl, rfl, hH, by rw [rv.length, ← line_eq]; exact hz, ?_⟩
              have tr := wr_tr (es := ds ++ [d]) s ha1 e2 (.lst (ws ++ [u]))
              exact z σ _ cm1 tr (wr_sr s ha1 e2 (rv.append (.cons rd .nil))) ((he.mono t hs).mono tr s)
            · exact z.elim
/-! for -/
def fBody (tg : List Nat) (one : Bool) (fb : Rf.Env → Store → Out) : D → Rf.Env → Store → Out := fun d ρ S => match bindT tg one d ρ with
      | some ρ1 => fb ρ1 S
      | none => .stuck
theorem rd_for {K : PySem.W.Frag} {mg : Mg} {fi : Rd' (List (Nat × List D) × List D)} {tg : List Nat} {one : Bool} {fb : Rf.Env → Store → Out} {Dn : Ends} {σ : L2.St} {H : Hp} (h : tS K mg E (fun ρ S => (fi ρ S).out fun p S1 => forGo p.1 (fBody tg one fb) p.2 ρ S1) Dn σ H) :
    tFor (tJ K mg E fi) (gD K tg one) (tS K mg E fb) Dn σ H := by
  obtain ⟨ρ, cm, S, hs, he, q⟩ := h
  refine tG_out okS.zok hs he q fun p S1 J H1 cm1 _ pj z => ?_
  obtain ⟨t1, s1, wk⟩ := pj
  have z := okS.step t1 z
  let Nx : Nat → L2.St → Hp → Prop := fun i σ H => ∃ ρ cm S, SR K H cm S ∧ ER K H cm S ρ σ ∧ Tr H1 cm1 S1 H cm S ∧ okS K mg E Dn H cm S (forGo p.1 (fBody tg one fb) (p.2.drop i) ρ S)
  refine ⟨fun i m σ H => m = p.2.length - i ∧ i ≤ p.2.length ∧ Nx i σ H, ⟨p.2.length, by simp, Nat.zero_le _, ρ, cm1, S1, s1, he.mono t1 hs, Tr.refl, by rw [List.drop_zero]; exact z⟩, ?_⟩
  rintro i m σ' H' ⟨rfl, hle, ρ', cm', S', s', e', t', z'⟩
  by_cases hi : i < p.2.length
  · rw [List.drop_eq_getElem_cons hi] at z'
    unfold forGo at z'
    by_cases so : srcOk p.1 S' = true
    · rw [if_pos so] at z'
      refine .inr ⟨wk.goes t' s' so i hi, Nx (i + 1), fun σ3 H3 n3 => ⟨p.2.length - (i + 1), by omega, rfl, hi, n3⟩, fun x H3 y => ?_⟩
      obtain ⟨d, e1, t3, s3, rp⟩ := wk.yld t' s' so i x H3 hi y
      have e2 : d = p.2[i] := by
        rw [List.getElem?_eq_getElem hi] at e1
        exact (Option.some.inj e1).symm
      subst e2
      cases eb : bindT tg one p.2[i] ρ' with
      | none =>
        have : fBody tg one fb p.2[i] ρ' S' = .stuck := by unfold fBody; rw [eb]
        rw [this] at z'
        exact z'.elim
      | some ρ1 =>
        have : fBody tg one fb p.2[i] ρ' S' = fb ρ1 S' := by unfold fBody; rw [eb]
        rw [this] at z'
        have z' := okS.step t3 z'
        refine ⟨ρ', cm', S', p.2[i], ρ1, s3, e'.mono t3 s', rp, eb, fun σ1 e1 _ => ⟨ρ1, cm', S', s3, e1, ?_⟩⟩
        cases e6 : fb ρ1 S' with
        | nx ρ2 S2 => rw [e6] at z'; exact fun σ2 H2 cm2 t2 s2 er2 => ⟨ρ2, cm2, S2, s2, er2, (t'.trans t3).trans t2, okS.step t2 z'⟩
        | cnt ρ2 S2 => rw [e6] at z'; exact fun σ2 H2 cm2 t2 s2 er2 => ⟨ρ2, cm2, S2, s2, er2, (t'.trans t3).trans t2, okS.step t2 z'⟩
        | brk ρ2 S2 => rw [e6] at z'; exact z'
        | ret r S2 => rw [e6] at z'; exact z'
        | exc x S2 => rw [e6] at z'; exact z'
        | stuck => rw [e6] at z'; exact z'
    · rw [if_neg so] at z'; exact z'.elim
  · have ei : i = p.2.length := by omega
    subst ei
    rw [List.drop_length] at z'
    unfold forGo at z'
    by_cases so : srcOk p.1 S' = true
    · rw [if_pos so] at z'
      exact .inl ⟨wk.stop t' s' so, z' σ' H' cm' Tr.refl s' e'⟩
    · rw [if_neg so] at z'; exact z'.elim
theorem ps_for' (g : Gs X CX E lv c G C) {fi : Rd' (List (Nat × List D) × List D)} {tg : List Nat} {one : Bool} {fb : Rf.Env → Store → Out} (hi : PI X tgE iter (tJ X.K X.mg E fi)) (hg : chkTg c tgE tg one = true) (hb : PSs X body (tS X.K X.mg E fb)) (hn : notSet iter = true) :
    PS X (.For tgE iter body [] pos) (tS X.K X.mg E fun ρ S => (fi ρ S).out fun p S1 => forGo p.1 (fBody tg one fb) p.2 ρ S1) :=
  PS.imp (ps_for g.pown g.calm hi (pg_D g.toGd hg) hb (nfs hn)) fun Dn σ H h => rd_for h
/-! while -/
theorem rd_while {K : PySem.W.Frag} {mg : Mg} {fc : Rd' Bool} {fb : Rf.Env → Store → Out} {n : Nat} {Dn : Ends} {σ : L2.St} {H : Hp} (h : tS K mg E (fun ρ S => whGo fc fb n ρ S) Dn σ H) : tWhile (tB K mg E fc) (tS K mg E fb) Dn σ H := by
  let W : Nat → L2.St → Hp → Prop := fun m σ H => tS K mg E (fun ρ S => whGo fc fb m ρ S) Dn σ H
  refine ⟨W, ⟨n, h⟩, fun m σ H w => ?_⟩
  obtain ⟨ρ, cm, S, hs, he, q⟩ := w
  cases m with
  | zero => exact q.elim
  | succ m =>
    unfold whGo at q
    refine tG_out okS.zok hs he q fun k S1 b H1 cm1 _ p z => ?_
    obtain ⟨t, s, rfl⟩ := p
    have z := okS.step t z
    have he1 := he.mono t hs
    cases b with
    | false => exact z σ H1 cm1 Tr.refl s he1
    | true =>
      simp only [if_true] at z ⊢
      refine ⟨W m, fun σ' H' w => ⟨m, Nat.lt_succ_self _, w⟩, ρ, cm1, S1, s, he1, ?_⟩
      cases e6 : fb ρ S1 with
      | nx ρ2 S2 => rw [e6] at z; exact fun σ2 H2 cm2 t2 s2 er2 => ⟨ρ2, cm2, S2, s2, er2, okS.step t2 z⟩
      | cnt ρ2 S2 => rw [e6] at z; exact fun σ2 H2 cm2 t2 s2 er2 => ⟨ρ2, cm2, S2, s2, er2, okS.step t2 z⟩
      | brk ρ2 S2 => rw [e6] at z; exact z
      | ret r S2 => rw [e6] at z; exact z
      | exc x S2 => rw [e6] at z; exact z
      | stuck => rw [e6] at z; exact z
/-! name = [.. for ..] on one line -/
theorem ps_lc' (g : Gs X CX E lv c G C) {elt : Rf.E} {i : Nat} {x : Str} {m : Md} {elt' : Expr} {gs : List Comprehension} {scope : Scope} {lp : Pos} (h1 : c.slot i x = true) (hy : c.sc.names.lookup x = some .local) (hl : (p.line == lp.line) = true) (ha : (scope.names.any fun (n, k) => n == x && (k == .local || k == .cell)) = false)
    (h : chkE c elt (.ListComp elt' gs scope lp) = true) : PS X (.Assign [.Name x p] (.ListComp elt' gs scope lp) pos) (tS X.K X.mg E fun ρ S => (ev G C elt ρ S).out fun x S1 => (conv m x S1).out fun v S2 => .nx (ρ.set i (some v)) S2) := by
  have hyl : X.env.scope.names.lookup x = some .local := by rw [g.sc]; exact hy
  have hsw := sw_true (elt := elt') (gs := gs) (scope := scope) (pos := lp) (py := p) (l := pos.line) g.kind hyl hl ha
  cases elt with
  | comp elt tg one it cond own =>
    rw [chkE.eq_def] at h; dsimp only at h
    split at h
    · rename_i elt2 tg' iter ifs scope2 p2 heq
      cases heq
      simp only [Bool.and_eq_true, decide_eq_true_eq, List.all_eq_true, List.contains_iff_mem] at h
      obtain ⟨⟨⟨⟨⟨⟨⟨⟨h0, h1'⟩, h2⟩, h3⟩, h4⟩, h5⟩, h6⟩, h7⟩, h8⟩ := h
      have bo : BlkOk X.N X.env.scope scope (own.filterMap fun i => c.N[i]?.map fun x => (x, i)) := by
        rw [g.N, g.sc]; exact blkOk_by h0
      have pi : PI X tg' iter (tJ X.K X.mg E (evi G C it)) := sndI it g.toGd iter tg' h5 h6
      have main := ps_setLc (spos := pos) (tt := tB X.K X.mg E0 (evc G C cond)) (te := tD X.K X.mg E0 fun ρ S => (ev G C elt ρ S).bind asD) (g := gD X.K tg one) (wi := tJ X.K X.mg E (evi G C it)) g.calm g.nd (g.slot h1) hyl hsw pi bo (fun s H C' cl fp => pg_D (g.toGd.blk s H scope C' cl fp) h3) (fun s H C' cl fp => sndC cond (g.toGd.blk s H scope C' cl fp) ifs h7)
        (fun s H C' cl fp => pe_asD (sndE elt (g.toGd.blk s H scope C' cl fp) elt' h8).pe) (nfs h4)
      refine PS.imp main fun Dn σ H hh => ?_
      rw [h1']
      have h9 := rd_set hh
      have e : ev G C (.comp elt tg one it cond own) = fComp tg one own (evi G C it) (evc G C cond) (ev G C elt) := by funext ρ S; rw [ev]; rfl
      rw [e] at h9
      exact rd_comp h2 h9
    · cases h
  | nev =>
    refine PS.imp ps_never fun Dn σ H ⟨ρ, cm, S, hs, he, q⟩ => ?_
    dsimp only at q
    rw [ev] at q
    exact q
  | _ => rw [chkE.eq_def] at h; simp at h
end
/-! ### cells that nobody sees any more -/
section
variable {K : PySem.W.Frag} {mg : Mg} {E : XK} {H H' : Hp} {cm cm' cm2 : List Addr} {S S' S2 : Store}
structure SubC (cm : List Addr) (S : Store) (cm2 : List Addr) (S2 : Store) : Prop where
  len : cm2.length = S2.length
  nd : cm2.Nodup
  of : ∀ (i : Nat) (a : Addr) (c : Cell), cm2[i]? = some a → S2[i]? = some c → ∃ j : Nat, cm[j]? = some a ∧ S[j]? = some c
theorem SubC.lv (s : SubC cm S cm2 S2) {b : Addr} (h : Lv cm2 S2 b) : Lv cm S b := by
  obtain ⟨n, ds, h1, h2⟩ := h
  obtain ⟨j, a, b⟩ := s.of n _ _ h1 h2
  exact ⟨j, ds, a, b⟩
theorem SubC.ext (s : SubC cm S cm2 S2) (r : SR K H cm S) : Ext H H (Lv cm S) (Lv cm2 S2) := ⟨fun _ _ h _ => h, r.lst, fun b l => .inl (s.lv l)⟩
theorem SubC.sr (s : SubC cm S cm2 S2) (r : SR K H cm S) : SR K H cm2 S2 := ⟨s.len, s.nd, fun n a c h1 h2 => by
  obtain ⟨j, e1, e2⟩ := s.of n a c h1 h2
  obtain ⟨vs, e, q⟩ := r.ok j a c e1 e2
  exact ⟨vs, e, q.mono (s.ext r)⟩⟩
theorem SubC.tr {H0 : Hp} {cm0 : List Addr} {S0 : Store} (s : SubC cm S cm2 S2) (t : Tr H0 cm0 S0 H cm S) (hp : ∃ m, cm2 = cm0 ++ m) : Tr H0 cm0 S0 H cm2 S2 := ⟨t.ext, hp, fun b l => t.lv b (s.lv l)⟩
theorem get_take {α : Type} {xs : List α} {n i : Nat} {a : α} (h : (xs.take n)[i]? = some a) : xs[i]? = some a := by
  rw [List.getElem?_take] at h
  split at h
  · exact h
  · cases h
theorem sub_take {n : Nat} (r : SR K H cm S) : SubC cm S (cm.take n) (S.take n) :=
  ⟨by rw [List.length_take, List.length_take, r.len], r.nd.sublist (List.take_sublist _ _), fun i a c h1 h2 => ⟨i, get_take h1, get_take h2⟩⟩
/-- the first n cells and one more -/
theorem sub_one {n j : Nat} {a : Addr} {c : Cell} (r : SR K H cm S) (hn : n ≤ j) (h1 : cm[j]? = some a) (h2 : S[j]? = some c) : SubC cm S (cm.take n ++ [a]) (S.take n ++ [c]) := by
  have hl := r.len
  have hj : j < cm.length := (List.getElem?_eq_some_iff.mp h1).1
  refine ⟨by simp [hl], ?_, fun i b e e1 e2 => ?_⟩
  · rw [List.nodup_append]
    refine ⟨r.nd.sublist (List.take_sublist _ _), by simp, fun x hx y hy => ?_⟩
    have : y = a := by simpa using hy
    subst this
    intro e
    subst e
    obtain ⟨i, hi⟩ := List.getElem?_of_mem hx
    rw [List.getElem?_take] at hi
    split at hi
    · rename_i hin
      have := nd_ix' r.nd hi h1
      omega
    · cases hi
  · have hlt : (cm.take n).length = n := by rw [List.length_take]; omega
    have hlt2 : (S.take n).length = n := by rw [List.length_take]; omega
    by_cases hin : i < n
    · rw [List.getElem?_append_left (by omega)] at e1 e2
      rw [List.getElem?_take, if_pos hin] at e1 e2
      exact ⟨i, e1, e2⟩
    · have : i < (cm.take n ++ [a]).length := (List.getElem?_eq_some_iff.mp e1).1
      have ei : i = n := by simp at this; omega
      subst ei
      rw [List.getElem?_append_right (by omega), hlt] at e1
      rw [List.getElem?_append_right (by omega), hlt2] at e2
      simp at e1 e2
      subst e1 e2
      exact ⟨j, h1, h2⟩
theorem take_pre {t : Tr H cm S H' cm' S'} (r : SR K H cm S) : cm'.take S.length = cm := by
  obtain ⟨m, e⟩ := t.pre
  rw [e, ← r.len, List.take_left']
  rfl
end
end Rf

set_option Elab.async false
set_option linter.all false
set_option maxRecDepth 100000
set_option maxHeartbeats 4000000
namespace Rf
open PySem PySem.Spec PyProof.Rows L2
mutual
def chkT (c : Ct) : T → Stmt → Bool
  | .set i m e, s => (match s with
    | .Assign [.Name x py] v _ => c.slot i x && c.loc x && chkE c e v && (notLc v || (match v with
      | .ListComp _ _ scope lp => !(py.line == lp.line) || (decide (c.sc.names.lookup x = some .local) && !(scope.names.any fun (n, k) => n == x && (k == .local || k == .cell)))
      | _ => false))
    | _ => false)
  | .unp is e, s => (match s with
    | .Assign [.Tuple ts _ _] v _ => chkNs c ts is && notTup v && chkE c e v
    | _ => false)
  | .par is ms, s => (match s with
    | .Assign [.Tuple ts _ _] (.Tuple vs _ _) _ => chkNs c ts is && vs.all plainE && chkEs c ms vs && decide (is.length ≤ 64) && (match ts, vs, is with
      | [.Name x _, .Name y _], [_, _], [i, j] => (decide (i ≠ j) && decide (c.sc.names.lookup x = some .local) && decide (c.sc.names.lookup y = some .local) && decide (swP c.sc ts vs = some (some [x, y]))) || decide (swP c.sc ts vs = some none)
      | [.Name x _, .Name y _, .Name z _], [_, _, _], [i, j, l] => (decide (i ≠ j) && decide (i ≠ l) && decide (j ≠ l) && decide (c.sc.names.lookup x = some .local) && decide (c.sc.names.lookup y = some .local) && decide (c.sc.names.lookup z = some .local) && decide (swP c.sc ts vs = some (some [x, y, z]))) || decide (swP c.sc ts vs = some none)
      | ts, vs, _ => decide (swP c.sc ts vs = some none))
    | _ => false)
  | .sub o i e, s => (match s with
    | .Assign [.Subscript a b _] v _ => notSl b && chkE c o a && chkE c i b && chkE c e v
    | _ => false)
  | .dvm _ _ _ _, _ => false
  | .aug i op e, s => (match s with
    | .AugAssign (.Name x _) op' v _ => decide (op' = op) && decide (op = .Add ∨ op = .Sub) && c.slot i x && c.loc x && chkE c e v
    | _ => false)
  | .exp e, s => (match s with
    | .Expr v _ => notLc v && chkE c e v
    | _ => false)
  | .app i e, s => (match s with
    | .Expr (.Call (.Attribute (.Name x _) m ap) [v] [] cp) _ => decide (m = "append") && (ap.endLine == cp.line) && c.slot i x && c.vis x && decide (x ≠ dbg) && decide (x ≠ cld) && plainE v && chkE c e v
    | _ => false)
  | .ext _ _, _ => false
  | .ret e, s => (match s with
    | .Return (some v) _ => chkE c e v
    | _ => false)
  | .retN, s => (match s with
    | .Return none _ => true
    | _ => false)
  | .ite t a b, s => (match s with
    | .If v x y _ => chkE c t v && chkTs c a x && chkTs c b y
    | _ => false)
  | .fr tg one it body, s => (match s with
    | .For tgE iter b [] _ => chkTg c tgE tg one && notSet iter && chkI c it iter && (isTup tgE || it.plain) && chkTs c body b
    | _ => false)
  | .wh _ t body, s => (match s with
    | .While v b [] _ => chkE c t v && chkTs c body b
    | _ => false)
  | .brk, s => (match s with
    | .Break _ => true
    | _ => false)
  | .cnt, s => (match s with
    | .Continue _ => true
    | _ => false)
  | .pass, s => (match s with
    | .Pass _ => true
    | .Expr (.Constant (.str _) _ _) _ => true
    | _ => false)
  | .rais _ _ _, _ => false
  | .nev, _ => true
def chkTs (c : Ct) : Ts → List Stmt → Bool
  | .nil, ss => ss.isEmpty
  | .cons t ts, ss => (match ss with
    | s :: ss => chkT c t s && chkTs c ts ss
    | [] => false)
end
theorem tS_congr {K : PySem.W.Frag} {mg : Mg} {E : XK} {f f' : Rf.Env → Store → Out} (q : ∀ ρ S, f' ρ S = f ρ S) : tS K mg E f' = tS K mg E f := by
  have : f' = f := funext fun ρ => funext (q ρ)
  subst this; rfl
variable {G : List Mir} {C : List D}
mutual
theorem sndT : ∀ (m : T) {X : Cx} {CX : CXT} {E : XK} {lv : Nat} {c : Ct} (g : Gs X CX E lv c G C) (s : Stmt), chkT c m s = true → PS X s (tS X.K X.mg E (ex G C m))
  | .set i m e, X, CX, E, lv, c, g, s, h => by
    rw [chkT.eq_def] at h; dsimp only at h
    split at h
    · rename_i x py v p
      simp only [Bool.and_eq_true, Bool.or_eq_true] at h
      obtain ⟨⟨⟨h1, h2⟩, h3⟩, h4⟩ := h
      rw [tS_congr fun ρ S => by rw [ex]]
      rcases h4 with h4 | h4
      · exact ps_set' g h1 h2 (sw_no h4) (sndE e g.toGd v h3).pe
      · split at h4
        · rename_i elt gs scope lp
          simp only [Bool.or_eq_true, Bool.and_eq_true, Bool.not_eq_true', decide_eq_true_eq] at h4
          rcases h4 with h4 | h4
          · exact ps_set' g h1 h2 (sw_far h4) (sndE e g.toGd _ h3).pe
          · by_cases hl : (py.line == lp.line) = true
            · exact ps_lc' g h1 h4.1 hl h4.2 h3
            · exact ps_set' g h1 h2 (sw_far (by simpa using hl)) (sndE e g.toGd _ h3).pe
        · cases h4
    · cases h
  | .unp is e, X, CX, E, lv, c, g, s, h => by
    rw [chkT.eq_def] at h; dsimp only at h
    split at h
    · simp only [Bool.and_eq_true] at h
      rw [tS_congr fun ρ S => by rw [ex]]
      exact ps_unp' g h.1.1 h.1.2 (sndE e g.toGd _ h.2).pe
    · cases h
  | .par is ms, X, CX, E, lv, c, g, s, h => by
    rw [chkT.eq_def] at h; dsimp only at h
    split at h
    · rename_i ts k tp vs k2 p2 p
      simp only [Bool.and_eq_true, decide_eq_true_eq] at h
      obtain ⟨⟨⟨⟨h1, h2⟩, h3⟩, h4⟩, h5⟩ := h
      have ha := sndEs ms g.toGd vs h2 h3
      rw [tS_congr fun ρ S => by rw [ex]]
      split at h5
      · rename_i x px y py a b i j
        simp only [chkNs, Bool.and_eq_true, Bool.or_eq_true, decide_eq_true_eq] at h1 h5
        rcases h5 with h5 | h5
        · obtain ⟨⟨⟨a1, a2⟩, a3⟩, a4⟩ := h5
          exact ps_par2' g h1.1.1 h1.2.1.1 a1 a2 a3 a4 ha
        · exact ps_parN' g (by simp only [chkNs, Bool.and_eq_true]; exact h1) h4 h5 ha
      · rename_i x px y py z pz a b d i j l
        simp only [chkNs, Bool.and_eq_true, Bool.or_eq_true, decide_eq_true_eq] at h1 h5
        rcases h5 with h5 | h5
        · obtain ⟨⟨⟨⟨⟨⟨a1, a2⟩, a3⟩, a4⟩, a5⟩, a6⟩, a7⟩ := h5
          exact ps_par3' g h1.1.1 h1.2.1.1 h1.2.2.1.1 a1 a2 a3 a4 a5 a6 a7 ha
        · exact ps_parN' g (by simp only [chkNs, Bool.and_eq_true]; exact h1) h4 h5 ha
      · exact ps_parN' g h1 h4 (by simpa using h5) ha
    · cases h
  | .sub o i e, X, CX, E, lv, c, g, s, h => by
    rw [chkT.eq_def] at h; dsimp only at h
    split at h
    · simp only [Bool.and_eq_true] at h
      obtain ⟨⟨⟨h1, h2⟩, h3⟩, h4⟩ := h
      rw [tS_congr fun ρ S => by rw [ex]]
      exact ps_sub' g h1 (sndE o g.toGd _ h2).pe (sndE i g.toGd _ h3).pe (sndE e g.toGd _ h4).pe
    · cases h
  | .dvm _ _ _ _, X, CX, E, lv, c, g, s, h => by rw [chkT.eq_def] at h; cases h
  | .aug i op e, X, CX, E, lv, c, g, s, h => by
    rw [chkT.eq_def] at h; dsimp only at h
    split at h
    · simp only [Bool.and_eq_true, decide_eq_true_eq] at h
      obtain ⟨⟨⟨⟨e0, h1⟩, h2⟩, h3⟩, h4⟩ := h
      rw [e0]
      rw [tS_congr (f := fAug i op (ev G C e)) fun ρ S => by rw [ex]; rfl]
      exact ps_aug' g h1 h2 h3 (sndE e g.toGd _ h4).pe
    · cases h
  | .exp e, X, CX, E, lv, c, g, s, h => by
    rw [chkT.eq_def] at h; dsimp only at h
    split at h
    · simp only [Bool.and_eq_true] at h
      rw [tS_congr fun ρ S => by rw [ex]]
      exact ps_exp' g h.1 (sndE e g.toGd _ h.2).pe
    · cases h
  | .app i e, X, CX, E, lv, c, g, s, h => by
    rw [chkT.eq_def] at h; dsimp only at h
    split at h
    · simp only [Bool.and_eq_true, decide_eq_true_eq] at h
      obtain ⟨⟨⟨⟨⟨⟨⟨h1, h2⟩, h3⟩, h4⟩, h5⟩, h6⟩, h7⟩, h8⟩ := h
      rw [tS_congr fun ρ S => by rw [ex]]
      exact ps_app' g h1 h2 h3 h4 h5 h6 h7 (sndE e g.toGd _ h8).pe
    · cases h
  | .ext _ _, X, CX, E, lv, c, g, s, h => by rw [chkT.eq_def] at h; cases h
  | .ret e, X, CX, E, lv, c, g, s, h => by
    rw [chkT.eq_def] at h; dsimp only at h
    split at h
    · rw [tS_congr fun ρ S => by rw [ex]]
      exact ps_ret' (sndE e g.toGd _ h).pe
    · cases h
  | .retN, X, CX, E, lv, c, g, s, h => by
    rw [chkT.eq_def] at h; dsimp only at h
    split at h
    · rw [tS_congr fun ρ S => by rw [ex]]
      exact ps_retN'
    · cases h
  | .ite t a b, X, CX, E, lv, c, g, s, h => by
    rw [chkT.eq_def] at h; dsimp only at h
    split at h
    · simp only [Bool.and_eq_true] at h
      rw [tS_congr fun ρ S => by rw [ex]]
      exact PS.imp (ps_if (sndE t g.toGd _ h.1.1).pt (sndTs a g _ h.1.2) (sndTs b g _ h.2)) fun Dn σ H hh => rd_test hh
    · cases h
  | .fr tg one it body, X, CX, E, lv, c, g, s, h => by
    rw [chkT.eq_def] at h; dsimp only at h
    split at h
    · rename_i tgE iter b p
      simp only [Bool.and_eq_true] at h
      obtain ⟨⟨⟨⟨h1, h2⟩, h3⟩, h4⟩, h5⟩ := h
      rw [tS_congr (f := fun ρ S => (evi G C it ρ S).out fun p S1 => forGo p.1 (fBody tg one (exs G C body)) p.2 ρ S1) fun ρ S => by rw [ex]; rfl]
      exact ps_for' g (sndI it g.toGd iter tgE h3 h4) h1 (sndTs body g b h5) h2
    · cases h
  | .wh n t body, X, CX, E, lv, c, g, s, h => by
    rw [chkT.eq_def] at h; dsimp only at h
    split at h
    · simp only [Bool.and_eq_true] at h
      rw [tS_congr (f := fun ρ S => whGo (fun ρ S => (ev G C t ρ S).tru) (exs G C body) n ρ S) fun ρ S => by rw [ex]; rfl]
      exact PS.imp (ps_while g.pown (sndE t g.toGd _ h.1).pt (sndTs body g _ h.2)) fun Dn σ H hh => rd_while hh
    · cases h
  | .brk, X, CX, E, lv, c, g, s, h => by
    rw [chkT.eq_def] at h; dsimp only at h
    split at h
    · rw [tS_congr fun ρ S => by rw [ex]]
      exact ps_brk'
    · cases h
  | .cnt, X, CX, E, lv, c, g, s, h => by
    rw [chkT.eq_def] at h; dsimp only at h
    split at h
    · rw [tS_congr fun ρ S => by rw [ex]]
      exact ps_cnt'
    · cases h
  | .pass, X, CX, E, lv, c, g, s, h => by
    rw [chkT.eq_def] at h; dsimp only at h
    split at h
    · rw [tS_congr fun ρ S => by rw [ex]]
      exact ps_pass'
    · rw [tS_congr fun ρ S => by rw [ex]]
      exact ps_doc'
    · cases h
  | .rais _ _ _, X, CX, E, lv, c, g, s, h => by rw [chkT.eq_def] at h; cases h
  | .nev, X, CX, E, lv, c, g, s, h => PS.imp ps_never fun Dn σ H ⟨ρ, cm, S, hs, he, q⟩ => by rw [ex] at q; exact q
theorem sndTs : ∀ (m : Ts) {X : Cx} {CX : CXT} {E : XK} {lv : Nat} {c : Ct} (g : Gs X CX E lv c G C) (ss : List Stmt), chkTs c m ss = true → PSs X ss (tS X.K X.mg E (exs G C m))
  | .nil, X, CX, E, lv, c, g, ss, h => by
    rw [chkTs.eq_def] at h; dsimp only at h
    cases ss with
    | cons s ss => cases h
    | nil =>
      rw [tS_congr fun ρ S => by rw [exs]]
      exact PSs.imp pss_nil fun Dn σ H hh => rd_nx hh
  | .cons t ts, X, CX, E, lv, c, g, ss, h => by
    rw [chkTs.eq_def] at h; dsimp only at h
    cases ss with
    | nil => cases h
    | cons s ss =>
      simp only [Bool.and_eq_true] at h
      rw [tS_congr fun ρ S => by rw [exs]]
      exact PSs.imp (pss_cons (sndT t g s h.1) (sndTs ts g ss h.2)) fun Dn σ H hh => rd_seq hh
end
end Rf

set_option Elab.async false
set_option linter.all false
set_option maxRecDepth 100000
set_option maxHeartbeats 4000000
namespace Rf
open PySem PySem.Spec PyProof.Rows L2
section
variable {K : PySem.W.Frag} {mg : Mg} {E : XK} {H H' : Hp} {cm cm' : List Addr} {S S' : Store} {Q : VK}
/-- what a body's end is worth to the caller -/
theorem run_end (s : SR K H cm S) {o : Out} (q : okG K mg E (PX K) Q H cm S (match o with
    | .ret (.d d) S1 => .ok (.d d) (S1.take S.length)
    | .ret (.f ds) S1 => .ok (.f ds) (S1.take S.length)
    | .ret (.c n) S1 => if S.length ≤ n then (match S1[n]? with
      | some (.lst ds) => .ok (.f ds) (S1.take S.length)
      | _ => .stuck) else .stuck
    | .nx _ S1 => .ok (.d .non) (S1.take S.length)
    | .exc x S1 => .exc x (S1.take S.length)
    | _ => .stuck)) : okS K mg E { nx := fun _ H' => Q .non H', rt := Q } H cm S o := by
  cases o with
  | stuck => exact q
  | brk ρ S1 => exact q.elim
  | cnt ρ S1 => exact q.elim
  | nx ρ S1 =>
    intro σ' H' cm' t r _
    have sub := sub_take (n := S.length) r
    rw [take_pre (t := t) s] at sub
    exact q .non H' cm ⟨sub.tr t ⟨[], by simp⟩, sub.sr r, .non⟩
  | exc x S1 =>
    intro cls d H' cm' t r xo
    have sub := sub_take (n := S.length) r
    rw [take_pre (t := t) s] at sub
    obtain ⟨h1, a, fs, h2, h3, h4, h5⟩ := xo
    exact q cls d H' cm (sub.tr t ⟨[], by simp⟩) (sub.sr r) ⟨h1, a, fs, h2, h3, h4, h5.mono (sub.ext r)⟩
  | ret r S1 =>
    cases r with
    | d d =>
      intro v H' cm' p
      obtain ⟨t, r, rp⟩ := p
      have sub := sub_take (n := S.length) r
      rw [take_pre (t := t) s] at sub
      exact q v H' cm ⟨sub.tr t ⟨[], by simp⟩, sub.sr r, rp.mono (sub.ext r)⟩
    | f ds =>
      intro v H' cm' p
      obtain ⟨pa, ev, pre, t, r⟩ := p
      have hl := fr_len r
      have hS : S1.length < (S1 ++ [Cell.lst ds]).length := by simp
      have hlen : S.length ≤ S1.length := by
        obtain ⟨m, e⟩ := pre
        have := congrArg List.length e
        rw [List.length_append, hl, s.len] at this
        omega
      have sub := sub_one (n := S.length) (j := S1.length) (a := pa) (c := .lst ds) r hlen (by rw [← hl]; simp) (by simp)
      have e1 : (cm' ++ [pa]).take S.length = cm := take_pre (t := t) s
      rw [e1] at sub
      have e2 : (S1 ++ [Cell.lst ds]).take S.length = S1.take S.length := List.take_append_of_le_length hlen
      rw [e2] at sub
      exact q v H' cm ⟨pa, ev, ⟨[], by simp⟩, sub.tr t ⟨[pa], rfl⟩, sub.sr r⟩
    | c n =>
      intro v H' cm' p
      obtain ⟨t, r, a, ev, ha⟩ := p
      dsimp only at q
      split at q
      · rename_i hn
        cases e : S1[n]? with
        | none => rw [e] at q; exact q.elim
        | some cl => cases cl with
          | fz ds => rw [e] at q; exact q.elim
          | lst ds =>
            rw [e] at q
            have sub := sub_one (n := S.length) (j := n) (a := a) (c := .lst ds) r hn ha e
            rw [take_pre (t := t) s] at sub
            exact q v H' cm ⟨a, ev, ⟨[], by simp⟩, sub.tr t ⟨[a], rfl⟩, sub.sr r⟩
      · exact q.elim
theorem er_start {N : List Str} {np : Nat} : ∀ {vs : List V} {rs : List RV}, VsOk K H cm S vs rs → ∀ k, ER K H cm S (rs.map some ++ List.replicate k none) (vs.map some ++ List.replicate k none)
  | [], [], .nil, k => ⟨by simp, fun i r h => by
      simp only [List.map_nil, List.nil_append, List.getElem?_replicate] at h
      split at h <;> cases h⟩
  | v :: vs, r :: rs, .cons h q, k => by
    have ih := er_start (N := N) (np := np) q k
    refine ⟨by have := ih.len; simp at this ⊢; omega, fun i x hx => ?_⟩
    cases i with
    | zero => simp at hx; subst hx; exact ⟨v, by simp, h⟩
    | succ i => simp at hx; obtain ⟨w, a, b⟩ := ih.at' i x (by simpa using hx); exact ⟨w, by simpa using a, b⟩
end
/-- what callees let out -/
structure CxOk (P : Program) (w : World) (K : PySem.W.Frag) (mg : Mg) (base : Heap) (CX : CXT) : Prop where
  pass : ∀ N qual scope f cd A outer s H E, Passes CX (cxOf CX P w K mg base N qual scope f cd A outer s H E) E
  pass0 : ∀ X, Passes CX X E0
def Ct.main (N : List Str) (sc : Scope) (fns : List (Str × List Str)) (kws : List (List (Nat × List Str × List Nat))) (cons : List Str) (gcd : Bool) : Ct := ⟨N, sc, fns, kws, cons, gcd, fun _ => true⟩
theorem fnG_run {P : Program} {w : World} {K : PySem.W.Frag} {mg : Mg} {base : Heap} {CX : CXT} {k : Nat} {x qual : Str} {st : Stmt} {f : Addr} {fd : FuncData} {N ps : List Str} {fns : List (Str × List Str)} {kws : List (List (Nat × List Str × List Nat))} {cons : List Str} {gcd : Bool} {G : List Mir} {C : List D} {body : Ts}
    (F : Fun K x qual st f fd) (S : FnScope N ps (defScope st)) (top : Top P w K mg base CX k (Ct.main N (defScope st) fns kws cons gcd) G C) (cx : CxOk P w K mg base CX) (h : chkTs (Ct.main N (defScope st) fns kws cons gcd) body (defBody st) = true) :
    FnG P w K mg base CX (k + 1) f fd ps (spOf K mg ps.length (runD G C ps.length N.length body)) := by
  refine fnG_of F S (fun vs H Q E hsp => by obtain ⟨_, _, _, h, _⟩ := hsp; exact h) fun cdv A outer s H vs Q E g hr hsp => ?_
  obtain ⟨rvs, cm, Sr, hl, hs, hv, q⟩ := hsp
  have gs : Gs (cxOf CX P w K mg base N qual (defScope st) f cdv A outer s H E) CX E k (Ct.main N (defScope st) fns kws cons gcd) G C :=
    { N := rfl, nd := S.nd, sc := rfl, fn := fun _ _ => rfl, calm := rfl, room := hr, grd := g, pass := cx.pass _ _ _ _ _ _ _ _ _ _, pass0 := cx.pass0, top := top, kind := S.kind, pown := passes_of rfl, allfn := fun _ => rfl }
  refine ⟨_, sndTs body gs _ h, rvs.map some ++ List.replicate (N.length - ps.length) none, cm, Sr, hs, ?_, ?_⟩
  · show ER K H cm Sr _ (vs.map some ++ List.replicate (N.length - vs.length) none)
    rw [hl]
    exact er_start (N := N) (np := 0) hv _
  · refine run_end hs ?_
    unfold runD at q
    rw [if_pos (by rw [← hv.length]; exact hl)] at q
    exact q
/-- the defs that a def names, as they stand -/
structure FnAt (P : Program) (w : World) (K : PySem.W.Frag) (mg : Mg) (base : Heap) (CX : CXT) (lv : Nat) (x : Str) (ps : List Str) (kl : List (Nat × List Str × List Nat)) (m : Mir) : Prop where
  ex : ∃ f fd, mg x = some (.ref f) ∧ PySem.W.keepIn K (.ref f) = true ∧ (∀ us : List Value, us.length = ps.length → bindArgs fd ⟨us, []⟩ = pure (ps.zip us)) ∧ (∀ np ks perm, (np, ks, perm) ∈ kl → KwOk fd ps np ks perm) ∧ FnG P w K mg base CX lv f fd ps (spOf K mg ps.length m)
theorem FnAt.mono {P : Program} {w : World} {K : PySem.W.Frag} {mg : Mg} {base : Heap} {CX : CXT} {j k : Nat} {x : Str} {ps : List Str} {kl : List (Nat × List Str × List Nat)} {m : Mir} (F : FnAt P w K mg base CX j x ps kl m) (h : j ≤ k) : FnAt P w K mg base CX k x ps kl m := by
  obtain ⟨f, fd, h1, h2, h3, h4, h5⟩ := F.ex
  exact ⟨f, fd, h1, h2, h3, h4, h5.mono h⟩
inductive FnsAt (P : Program) (w : World) (K : PySem.W.Frag) (mg : Mg) (base : Heap) (CX : CXT) (lv : Nat) : List (Str × List Str) → List (List (Nat × List Str × List Nat)) → List Mir → Prop
  | nil : FnsAt P w K mg base CX lv [] [] []
  | cons {x : Str} {ps : List Str} {kl : List (Nat × List Str × List Nat)} {m : Mir} {fs : List (Str × List Str)} {kls : List (List (Nat × List Str × List Nat))} {G : List Mir} : FnAt P w K mg base CX lv x ps kl m → FnsAt P w K mg base CX lv fs kls G → FnsAt P w K mg base CX lv ((x, ps) :: fs) (kl :: kls) (m :: G)
theorem FnsAt.get {P : Program} {w : World} {K : PySem.W.Frag} {mg : Mg} {base : Heap} {CX : CXT} {lv : Nat} : ∀ {fs : List (Str × List Str)} {kls : List (List (Nat × List Str × List Nat))} {G : List Mir}, FnsAt P w K mg base CX lv fs kls G → ∀ {i : Nat} {x : Str} {ps : List Str}, fs[i]? = some (x, ps) →
    ∃ m, G[i]? = some m ∧ FnAt P w K mg base CX lv x ps ((kls[i]?).getD []) m
  | _, _, _, .nil, i, x, ps, h => by simp at h
  | _, _, _, .cons F r, 0, x, ps, h => by simp at h; obtain ⟨rfl, rfl⟩ := h; exact ⟨_, rfl, F⟩
  | _, _, _, .cons F r, i + 1, x, ps, h => by simpa using FnsAt.get r (by simpa using h)
/-- the module's own constants -/
structure ConAt (mg : Mg) (K : PySem.W.Frag) (x : Str) (d : D) : Prop where
  ex : ∃ v u, mg x = some u ∧ RelV v u ∧ ∀ H L, Rp K H L v d
inductive ConsAt (mg : Mg) (K : PySem.W.Frag) : List Str → List D → Prop
  | nil : ConsAt mg K [] []
  | cons {x : Str} {d : D} {xs : List Str} {ds : List D} : ConAt mg K x d → ConsAt mg K xs ds → ConsAt mg K (x :: xs) (d :: ds)
theorem ConsAt.get {mg : Mg} {K : PySem.W.Frag} : ∀ {xs : List Str} {ds : List D}, ConsAt mg K xs ds → ∀ {i : Nat} {x : Str}, xs[i]? = some x → ∃ d v u, ds[i]? = some d ∧ mg x = some u ∧ RelV v u ∧ ∀ H L, Rp K H L v d
  | _, _, .nil, i, x, h => by simp at h
  | _, _, .cons F r, 0, x, h => by simp at h; subst h; obtain ⟨v, u, a, b, c⟩ := F.ex; exact ⟨_, v, u, rfl, a, b, c⟩
  | _, _, .cons F r, i + 1, x, h => by simpa using ConsAt.get r (by simpa using h)
theorem con_int {mg : Mg} {K : PySem.W.Frag} {x : Str} {i : Int} {t : Tok} (h : mg x = some (.int i t)) : ConAt mg K x (.int i) := ⟨.int i, _, h, ⟨t, rfl⟩, fun _ _ => .int i⟩
theorem con_str {mg : Mg} {K : PySem.W.Frag} {x : Str} {z : Str} {t : Tok} (h : mg x = some (.str z t)) : ConAt mg K x (.str z) := ⟨.str z, _, h, ⟨t, rfl⟩, fun _ _ => .str z⟩
/-- what the top has written, for every def of the law -/
structure TopC (mg : Mg) (K : PySem.W.Frag) (cons : List Str) (C : List D) (gcd : Bool) : Prop where
  cons : ConsAt mg K cons C
  blt : ∀ x ∈ bltNames, mg x = none
  gcd : gcd = true → mg "gcd" = some (.builtin "math.gcd")
theorem top_mk {P : Program} {w : World} {K : PySem.W.Frag} {mg : Mg} {base : Heap} {CX : CXT} {lv : Nat} {N : List Str} {sc : Scope} {fns : List (Str × List Str)} {kws : List (List (Nat × List Str × List Nat))} {cons : List Str} {gcd : Bool} {G : List Mir} {C : List D}
    (tc : TopC mg K cons C gcd) (fs : FnsAt P w K mg base CX lv fns kws G) : Top P w K mg base CX lv (Ct.main N sc fns kws cons gcd) G C where
  fns := fun i x ps h => by
    obtain ⟨m, h1, F⟩ := fs.get h
    obtain ⟨f, fd, a, b, c, d, e⟩ := F.ex
    exact ⟨m, f, fd, h1, a, b, c, d, e⟩
  cons := fun i x h => tc.cons.get h
  blt := tc.blt
  gcd := tc.gcd
/-- a def, by its text -/
theorem fnAt_mk {P : Program} {w : World} {K : PySem.W.Frag} {mg : Mg} {base : Heap} {CX : CXT} {k : Nat} {x qual : Str} {st : Stmt} {f : Addr} {fd : FuncData} {N ps : List Str} {fns : List (Str × List Str)} {kws : List (List (Nat × List Str × List Nat))} {cons : List Str} {gcd : Bool} {G : List Mir} {C : List D} {body : Ts} {n np : Nat}
    (F : Fun K x qual st f fd) (S : FnScope N ps (defScope st)) (tc : TopC mg K cons C gcd) (cx : CxOk P w K mg base CX) (fs : FnsAt P w K mg base CX k fns kws G) (h : chkTs (Ct.main N (defScope st) fns kws cons gcd) body (defBody st) = true) (e1 : np = ps.length) (e2 : n = N.length) :
    FnG P w K mg base CX (k + 1) f fd ps (spOf K mg ps.length (runD G C np n body)) := by
  subst e1 e2
  exact fnG_run F S (top_mk tc fs) cx h
/-- the mirror that has no fuel left -/
theorem fnG_stuck {P : Program} {w : World} {K : PySem.W.Frag} {mg : Mg} {base : Heap} {CX : CXT} {k : Nat} {f : Addr} {fd : FuncData} {ps : List Str} : FnG P w K mg base CX k f fd ps (spOf K mg ps.length fun _ _ => .stuck) :=
  ⟨fun vs H Q E h => by obtain ⟨_, _, _, h, _⟩ := h; exact h, fun A outer s H args us vs Q E g hr e0 hb r h => by obtain ⟨_, _, _, _, _, _, q⟩ := h; exact q.elim⟩
/-- no exception at all -/
abbrev CX0 : CXT := fun _ _ _ _ _ _ => False
theorem cxOk0 {P : Program} {w : World} {K : PySem.W.Frag} {mg : Mg} {base : Heap} : CxOk P w K mg base CX0 := ⟨fun _ _ _ _ _ _ _ _ _ _ _ _ _ _ _ _ _ h => h.elim, fun _ _ _ _ _ _ _ _ h => h.elim⟩
end Rf

set_option Elab.async false
set_option linter.all false
set_option maxRecDepth 100000
set_option maxHeartbeats 4000000
namespace Rf
open PySem PySem.Spec PyProof.Rows L2
/-! ### the law is called -/
/-- the abstract heap of a script: nothing is tracked but the list itself, frozen -/
def hpOf (a : Addr) (o : Obj) (xs : List V) : Hp := fun b => if b = a then some (.frz o (.lst xs)) else none
def hp0 : Hp := fun _ => none
theorem noneHid {h : Heap} {H : Hp} {a : Addr} {vs : List Value} (hA : ∀ b, H b ≠ none → b = a) (ha : h.get? a = some { cls := .type "list", data := .seq vs.toArray }) {b : Addr} {o : Obj} {es : Array DictEntry} {ep : Nat} (e : h.get? b = some o) (d : o.data = .dict es ep) : H b = none := by
  by_cases z : H b = none
  · exact z
  · have e' := hA b z
    subst e'
    rw [ha] at e
    cases e
    cases d
/-- the promise of a law's def, met by its mirror -/
theorem call_law {P : Program} {w : World} {K : PySem.W.Frag} {mg mb : Str → Option Value} {CX : CXT} {k : Nat} {fa a : Addr} {fd : FuncData} {x : Str} {m : Mir} {s₁ : Shared} {vs : List Value} {ns : List Int}
    (KX : K.In s₁.heap) (hns : s₁.heap.Ns mainGlobals mg) (hb : s₁.heap.Ns builtinsNs mb) (hbb : ∀ x : Str, x ≠ "__name__" → mb x = bootBuiltins x) (hlim : s₁.heap.NoLimit) (hg : s₁.gens = #[])
    (ha : s₁.heap.get? a = some { cls := .type "list", data := .seq vs.toArray }) (hi : IntsAre vs ns) (hl : ns.length ≤ sizeLine) (hr : Room k callerA)
    (F : ∀ base : Heap, K.In base → base.Ns mainGlobals mg → FnG P w K mg base CX k fa fd [x] (spOf K mg 1 m)) (hbind : ∀ (s : Shared) (u : Value), BindsTo s fd ⟨[u], []⟩ [(x, u)])
    (hm : m [.d (.lst (ns.map .int))] [] = .ok (.d (.bl true)) [])
    (hCX : ∀ H e s', CX [] H s₁ (fun _ _ _ => False) e s' → False) :
    codeAny (model P w) callerA (.call (.ref fa) ⟨[.ref a], []⟩) (fun r s' => r = .ok (.ret (.bool true)) ∧ OldK s₁.heap s'.heap ∧ s'.os = s₁.os ∧ AllBare s'.gens) s₁ := by
  have rv := vals_ints hi
  have lenV := hi.length
  have main : ∀ H : Hp, Only H → Frz K H (Lv [] []) a (ns.map V.int) → HOk P w H s₁.heap → (∀ b, H b ≠ none → b = a) → (H a ≠ none → K.lookup a = none) →
      codeAny (model P w) callerA (.call (.ref fa) ⟨[.ref a], []⟩) (fun r s' => r = .ok (.ret (.bool true)) ∧ OldK s₁.heap s'.heap ∧ s'.os = s₁.os ∧ AllBare s'.gens) s₁ := by
    intro H hO hF hok hA hK
    have nsK : ∀ {b : Addr} {m : Str → Option Value}, s₁.heap.Ns b m → (hidT s₁.heap H).Ns b m := fun {b m} ⟨o, es, ep, e, d, r⟩ => ⟨o, es, ep, hidT_get e (noneHid hA ha e d), d, r⟩
    have hKb : K.In (hidT s₁.heap H) := fun b o e => hidT_get (KX b o e) (by
      by_cases z : H b = none
      · exact z
      · have e' := hA b z
        subst e'
        rw [hK z] at e
        cases e)
    obtain ⟨mc, l1, l2⟩ := hlim
    have e0 : Env0 P w K mg (hidT s₁.heap H) callerA [] s₁ H :=
      ⟨rfl, ⟨hKb, nsK hns, ⟨mb, nsK hb, hbb⟩, ⟨mc, nsK l1, l2⟩⟩, fun b o e => of_hidT e, Nat.le_of_eq (hidT_size _ _), trivial, fun b hb => absurd (show b ∈ ([] : List Addr) from hb) (by simp), hok, .of_eq hg⟩
    have rp : Rp K H (Lv [] []) (.ref a) (.lst (ns.map .int)) := .lst hF (rps_ints K H _ ns)
    have sr : SR K H [] [] := ⟨rfl, List.nodup_nil, fun n a c h _ => by simp at h⟩
    have sp : spOf K mg 1 m [.ref a] H (fun v _ => v = .bl true) (fun _ _ _ => False) := ⟨[.d (.lst (ns.map .int))], [], [], rfl, sr, .cons rp .nil, by
      rw [hm]
      intro v H' cm' p
      obtain ⟨_, _, r⟩ := p
      cases r
      rfl⟩
    refine codeAny_mono ((F _ hKb (nsK hns)).run callerA [] s₁ H ⟨[.ref a], []⟩ [.ref a] [.ref a] _ _ rfl hr e0 (hbind s₁ (.ref a)) (.cons rfl .nil) sp) fun r s' h => ?_
    cases r with
    | error e => exact (hCX H e s' h).elim
    | ok fl =>
      cases fl with
      | ret u =>
        obtain ⟨v, H', os, bare, un, hok', r', q⟩ := h
        cases (show v = .bl true from q)
        cases (show u = Value.bool true from r')
        refine ⟨rfl, OldK.of_keep fun b o e => ?_, os, bare⟩
        rcases hO b with z | ⟨ob, xs, z⟩
        · exact un.keep b o e z (fun z => absurd (show b ∈ ([] : List Addr) from z) (by simp)) (by simp)
        · obtain ⟨e1, _⟩ := hok b _ z
          obtain ⟨e2, _⟩ := hok' b _ (un.frzs b ob _ z)
          rw [e] at e1
          cases e1
          exact e2
      | _ => exact False.elim h
  cases hk : K.lookup a with
  | some o =>
    have e := KX a o hk
    rw [ha] at e
    cases e
    refine main hp0 (fun _ => .inl rfl) (.inr (.inr ⟨vs.toArray, _, hk, by rw [List.size_toArray, lenV]; exact hl, by simpa using rv⟩)) (fun b u z => ?_) (fun b z => absurd rfl z) fun z => absurd rfl z
    exact nomatch (show (none : Option HO) = some u from z)
  | none =>
    have at' : hpOf a { cls := .type "list", data := .seq vs.toArray } (ns.map V.int) a = some (.frz { cls := .type "list", data := .seq vs.toArray } (.lst (ns.map V.int))) := if_pos rfl
    have off : ∀ b, b ≠ a → hpOf a { cls := .type "list", data := .seq vs.toArray } (ns.map V.int) b = none := fun b hb => if_neg hb
    refine main (hpOf a { cls := .type "list", data := .seq vs.toArray } (ns.map V.int)) (fun b => ?_) (.inr (.inl ⟨_, at'⟩)) (fun b u z => ?_) (fun b z => ?_) fun _ => hk
    · by_cases hb : b = a
      · subst hb; exact .inr ⟨_, _, at'⟩
      · exact .inl (off b hb)
    · by_cases hb : b = a
      · subst hb
        rw [at'] at z
        cases z
        exact ⟨ha, by rw [List.length_map]; exact hl, vs, _, rv, ha⟩
      · rw [off b hb] at z; cases z
    · by_cases hb : b = a
      · exact hb
      · exact absurd (off b hb) z
/-- what the head leaves, from the law's mirror -/
theorem walk_law {l : PySem.W.OpenLaw} {n k : Nat} {q : Program} {loose : List Str} {XP : (Str → Option Value) → Heap → Prop} {YP : World → Heap → Prop} {d : DefRec} {K : Params → PySem.W.Frag} {CX : World → CXT} {m : Mir} {x : Str}
    (hn : l.most = some n) (hn2 : n ≤ sizeLine) (hdf : d.params.defaults = []) (hr : Room k callerA)
    (hY : ∀ (w : World) (h : Heap), YP w h → (K w.params).In h)
    (F : ∀ (w : World) (mg : Str → Option Value) (fa : Addr) (h : Heap), (K w.params).In h → h.Ns mainGlobals mg → mg d.name = some (.ref fa) →
      ∃ fd : FuncData, (∀ (s : Shared) (u : Value), BindsTo s fd ⟨[u], []⟩ [(x, u)]) ∧
        ∀ base : Heap, (K w.params).In base → base.Ns mainGlobals mg → FnG l.prog w (K w.params) mg base (CX w) k fa fd [x] (spOf (K w.params) mg 1 m))
    (hm : ∀ ns : List Int, ns.length ≤ n → (∀ z ∈ ns, Builtin.Int.intBits z ≤ 1048576) → m [.d (.lst (ns.map .int))] [] = .ok (.d (.bl true)) [])
    (hCX : ∀ (w : World) (H : Hp) (s : Shared) (e : Value) (s' : Shared), CX w [] H s (fun _ _ _ => False) e s' → False) :
    PySem.W.WalkO q loose XP YP l.row.toRowW d [] (fun f vs => PySem.call f vs) := by
  refine Att.attach_callB hn hdf fun w s₀ s₁ mg mb fa o pm cd doc a vs ns G Y ho hd hcd hmg hobj hints hlen hbits hg => ?_
  have KX := hY w _ Y
  obtain ⟨fd, hb, hF⟩ := F w mg fa _ KX G.T.g hmg
  exact call_law KX G.T.g G.T.b G.T.builtins G.T.nolimit hg hobj hints (Nat.le_trans hlen hn2) hr hF hb (hm ns hlen hbits) fun H e s' => hCX w H s₁ e s'
end Rf

set_option Elab.async false
set_option linter.all false
set_option maxRecDepth 100000
set_option maxHeartbeats 1000000
namespace Rf
open PySem PySem.Spec PyProof.Rows L2
/-! ### rules of computation, constructor by constructor -/
def lookV : Option (Option RV) → Store → Res RX
  | some (some (.d d)), S => .ok (.d d) S
  | some (some (.c n)), S => .ok (.c n) S
  | _, _ => .stuck
theorem lookV_d (d : D) (S : Store) : lookV (some (some (.d d))) S = .ok (.d d) S := rfl
theorem lookV_c (n : Nat) (S : Store) : lookV (some (some (.c n))) S = .ok (.c n) S := rfl
def lookC : Option D → Store → Res RX
  | some d, S => .ok (.d d) S
  | none, _ => .stuck
theorem lookC_some (d : D) (S : Store) : lookC (some d) S = .ok (.d d) S := rfl
def mkTup : Option (List D) → Store → Res RX
  | some ds, S => if ds.length ≤ line then .ok (.d (.tup ds)) S else .stuck
  | none, _ => .stuck
def mkLst : Option (List D) → Store → Res RX
  | some ds, S => if ds.length ≤ line then .ok (.f ds) S else .stuck
  | none, _ => .stuck
theorem mkTup_eq (ds : List D) (S : Store) : mkTup (some ds) S = if ds.length ≤ line then .ok (.d (.tup ds)) S else .stuck := rfl
theorem mkLst_eq (ds : List D) (S : Store) : mkLst (some ds) S = if ds.length ≤ line then .ok (.f ds) S else .stuck := rfl
theorem mkTup_some {ds : List D} (h : ds.length ≤ line) (S : Store) : mkTup (some ds) S = .ok (.d (.tup ds)) S := if_pos h
theorem mkLst_some {ds : List D} (h : ds.length ≤ line) (S : Store) : mkLst (some ds) S = .ok (.f ds) S := if_pos h
def bin2 (op : Operator) : Option D → Option D → Store → Res RX
  | some d, some e, S => ofOpt (binD op d e) S
  | _, _, _ => .stuck
theorem bin2_some (op : Operator) (d e : D) (S : Store) : bin2 op (some d) (some e) S = ofOpt (binD op d e) S := rfl
def cmp2 (op : CmpOp) : Option D → Option D → Store → Res Bool
  | some d, some e, S => ofOpt (cmpD op d e) S
  | _, _, _ => .stuck
theorem cmp2_some (op : CmpOp) (d e : D) (S : Store) : cmp2 op (some d) (some e) S = ofOpt (cmpD op d e) S := rfl
def idx2 : Option D → Option D → Store → Res D
  | some d, some e, S => ofOpt (idxD d e) S
  | _, _, _ => .stuck
theorem idx2_some (d e : D) (S : Store) : idx2 (some d) (some e) S = ofOpt (idxD d e) S := rfl
def toBl : Res Bool → Res RX := fun r => r.bind fun b S => .ok (.d (.bl b)) S
theorem toBl_ok (b : Bool) (S : Store) : toBl (.ok b S) = .ok (.d (.bl b)) S := rfl
def toRX : Res D → Res RX := fun r => r.bind fun b S => .ok (.d b) S
theorem toRX_ok (d : D) (S : Store) : toRX (.ok d S) = .ok (.d d) S := rfl
def neg1 : RV → Store → Res RX
  | .d (.int i), S => .ok (.d (.int (-i))) S
  | _, _ => .stuck
theorem neg1_int (i : Int) (S : Store) : neg1 (.d (.int i)) S = .ok (.d (.int (-i))) S := rfl
def Res.tr (r : Res RX) : Res Bool := r.bind fun x S => match boolV x with
  | some b => .ok b S
  | none => .stuck
theorem tr_ok (b : Bool) (S : Store) : (Res.ok (.d (.bl b)) S).tr = .ok b S := rfl
theorem tr_stuck : (Res.stuck : Res RX).tr = .stuck := rfl
class Bx (α : Type) where
  v : α
theorem Bx_v {α : Type} (x : α) : @Bx.v α ⟨x⟩ = x := rfl
def Res.bB {α β : Type} (r : Res α) [k : Bx (α → Store → Res β)] : Res β := r.bind k.v
def Res.oB {α : Type} (r : Res α) [k : Bx (α → Store → Out)] : Out := r.out k.v
def Out.tB (r : Out) [k : Bx (Env → Store → Out)] : Out := r.then k.v
theorem bB_ok {α β : Type} (a : α) (S : Store) (k : Bx (α → Store → Res β)) : Res.bB (Res.ok a S) = k.v a S := rfl
theorem oB_ok {α : Type} (a : α) (S : Store) (k : Bx (α → Store → Out)) : Res.oB (Res.ok a S) = k.v a S := rfl
theorem tB_nx (ρ : Env) (S : Store) (k : Bx (Env → Store → Out)) : Out.tB (.nx ρ S) = k.v ρ S := rfl
theorem tB_ret (r : RX) (S : Store) (k : Bx (Env → Store → Out)) : Out.tB (.ret r S) = .ret r S := rfl
theorem tB_brk (ρ : Env) (S : Store) (k : Bx (Env → Store → Out)) : Out.tB (.brk ρ S) = .brk ρ S := rfl
theorem tB_cnt (ρ : Env) (S : Store) (k : Bx (Env → Store → Out)) : Out.tB (.cnt ρ S) = .cnt ρ S := rfl
def ifR {α : Type} (k : Bool) (a b : α) : α := match k with
  | true => a
  | false => b
def ifB {α : Type} (k : Bool) [a : Bx (α × α)] : α := ifR k a.v.1 a.v.2
theorem ifB_t {α : Type} (a : Bx (α × α)) : ifB true = a.v.1 := rfl
theorem ifB_f {α : Type} (a : Bx (α × α)) : ifB false = a.v.2 := rfl
theorem ifR_t {α : Type} (a b : α) : ifR true a b = a := rfl
theorem ifR_f {α : Type} (a b : α) : ifR false a b = b := rfl
theorem rv_d (d : D) (S : Store) : (Res.ok (.d d) S).rv = .ok (.d d) S := rfl
theorem rv_c (n : Nat) (S : Store) : (Res.ok (.c n) S).rv = .ok (.c n) S := rfl
theorem rv_f (ds : List D) (S : Store) : (Res.ok (.f ds) S).rv = .ok (.d (.lst ds)) S := rfl
theorem rv_stuck : (Res.stuck : Res RX).rv = .stuck := rfl
theorem conv_d (m : Md) (d : D) (S : Store) : conv m (.d d) S = .ok (.d d) S := by cases m <;> rfl
theorem conv_cel_f (ds : List D) (S : Store) : conv .cel (.f ds) S = .ok (.c S.length) (S ++ [.lst ds]) := rfl
theorem conv_dat_f (ds : List D) (S : Store) : conv .dat (.f ds) S = .ok (.d (.lst ds)) S := rfl
theorem conv_rd_f (ds : List D) (S : Store) : conv .rd (.f ds) S = .ok (.d (.lst ds)) S := rfl
theorem conv_cel_c (n : Nat) (S : Store) : conv .cel (.c n) S = .ok (.c n) S := rfl
theorem conv_rd_c (n : Nat) (S : Store) : conv .rd (.c n) S = .ok (.c n) S := rfl
theorem rdV_d (d : D) (S : Store) : rdV S (.d d) = some d := rfl
theorem rdV_c (n : Nat) (S : Store) : rdV S (.c n) = (cellAt S n).map .lst := rfl
theorem cellAt_0 (ds : List D) (S : Store) : cellAt (.lst ds :: S) 0 = some ds := rfl
theorem rdVs_nil (S : Store) : rdVs S [] = some [] := rfl
theorem rdVs_cons (S : Store) (v : RV) (vs : List RV) : rdVs S (v :: vs) = (rdV S v).bind fun d => (rdVs S vs).map (d :: ·) := rfl
theorem ofOpt_some {α : Type} (a : α) (S : Store) : ofOpt (some a) S = .ok a S := rfl
theorem asD_d (d : D) (S : Store) : asD (.d d) S = .ok d S := rfl
theorem asD_f (d : List D) (S : Store) : asD (.f d) S = .ok (.lst d) S := rfl
section
variable {G : List Mir} {C : List D} {ρ : Env} {S : Store}
theorem ev_var (i : Nat) : ev G C (.var i) ρ S = lookV ρ[i]? S := by
  rw [ev]
  cases ρ[i]? with
  | none => rfl
  | some o => cases o with
    | none => rfl
    | some r => cases r <;> rfl
theorem ev_lit (d : D) : ev G C (.lit d) ρ S = .ok (.d d) S := by rw [ev]
theorem ev_con (k : Nat) : ev G C (.con k) ρ S = lookC C[k]? S := by
  rw [ev]; cases C[k]? <;> rfl
theorem ev_tup (es : Es) : ev G C (.tup es) ρ S = (evs G C es ρ S).bB (k := ⟨fun vs S1 => mkTup (rdVs [] vs) S1⟩) := by
  show ev G C (.tup es) ρ S = (evs G C es ρ S).bind fun vs S1 => mkTup (rdVs [] vs) S1
  rw [ev]; congr 1; funext vs S1; cases rdVs [] vs <;> rfl
theorem ev_lst (es : Es) : ev G C (.lst es) ρ S = (evs G C es ρ S).bB (k := ⟨fun vs S1 => mkLst (rdVs [] vs) S1⟩) := by
  show ev G C (.lst es) ρ S = (evs G C es ρ S).bind fun vs S1 => mkLst (rdVs [] vs) S1
  rw [ev]; congr 1; funext vs S1; cases rdVs [] vs <;> rfl
theorem ev_bin (op : Operator) (a b : E) : ev G C (.bin op a b) ρ S = (ev G C a ρ S).rv.bB (k := ⟨fun x S1 => (ev G C b ρ S1).rv.bB (k := ⟨fun y S2 => bin2 op (rdV S2 x) (rdV S2 y) S2⟩)⟩) := by
  show ev G C (.bin op a b) ρ S = (ev G C a ρ S).rv.bind fun x S1 => (ev G C b ρ S1).rv.bind fun y S2 => bin2 op (rdV S2 x) (rdV S2 y) S2
  rw [ev]; congr 1; funext x S1; congr 1; funext y S2; cases rdV S2 x <;> cases rdV S2 y <;> rfl
theorem ev_neg (a : E) : ev G C (.neg a) ρ S = (ev G C a ρ S).rv.bind neg1 := by
  rw [ev]; congr 1; funext x S1
  cases x with
  | c n => rfl
  | d d => cases d <;> rfl
theorem ev_nt (a : E) : ev G C (.nt a) ρ S = (ev G C a ρ S).tr.bB (k := ⟨fun b S1 => .ok (.d (.bl (!b))) S1⟩) := by
  show ev G C (.nt a) ρ S = (ev G C a ρ S).tr.bind fun b S1 => .ok (.d (.bl (!b))) S1
  rw [ev]; unfold Res.tr
  cases ev G C a ρ S with
  | ok x S1 => simp only [Res.bind_ok]; cases boolV x <;> rfl
  | _ => rfl
theorem ev_cmp (op : CmpOp) (a b : E) : ev G C (.cmp op a b) ρ S = (ev G C a ρ S).rv.bB (k := ⟨fun x S1 => (ev G C b ρ S1).rv.bB (k := ⟨fun y S2 => toBl (cmp2 op (rdV S2 x) (rdV S2 y) S2)⟩)⟩) := by
  show ev G C (.cmp op a b) ρ S = (ev G C a ρ S).rv.bind fun x S1 => (ev G C b ρ S1).rv.bind fun y S2 => toBl (cmp2 op (rdV S2 x) (rdV S2 y) S2)
  rw [ev]; congr 1; funext x S1; congr 1; funext y S2; cases rdV S2 x <;> cases rdV S2 y <;> rfl
theorem ev_ch2 (o1 o2 : CmpOp) (a b c : E) : ev G C (.ch2 o1 o2 a b c) ρ S = (ev G C a ρ S).rv.bB (k := ⟨fun x S1 => (ev G C b ρ S1).rv.bB (k := ⟨fun y S2 => (cmp2 o1 (rdV S2 x) (rdV S2 y) S2).bB (k := ⟨fun k S3 => ifB k (a := ⟨(((ev G C c ρ S3).rv.bB (k := ⟨fun z S4 => toBl (cmp2 o2 (rdV S4 y) (rdV S4 z) S4)⟩)), (.ok (.d (.bl false)) S3))⟩)⟩)⟩)⟩) := by
  show ev G C (.ch2 o1 o2 a b c) ρ S = (ev G C a ρ S).rv.bind fun x S1 => (ev G C b ρ S1).rv.bind fun y S2 => (cmp2 o1 (rdV S2 x) (rdV S2 y) S2).bind fun k S3 => ifR k ((ev G C c ρ S3).rv.bind fun z S4 => toBl (cmp2 o2 (rdV S4 y) (rdV S4 z) S4)) (.ok (.d (.bl false)) S3)
  rw [ev]; congr 1; funext x S1; congr 1; funext y S2
  cases rdV S2 x with
  | none => rfl
  | some d => cases rdV S2 y with
    | none => rfl
    | some e =>
      show (ofOpt (cmpD o1 d e) S2).bind _ = (ofOpt (cmpD o1 d e) S2).bind _
      congr 1; funext k S3
      cases k with
      | false => rfl
      | true =>
        show (ev G C c ρ S3).rv.bind _ = (ev G C c ρ S3).rv.bind _
        congr 1; funext z S4
        cases rdV S4 y <;> cases rdV S4 z <;> rfl
theorem ev_and (a b : E) : ev G C (.and a b) ρ S = (ev G C a ρ S).tr.bB (k := ⟨fun k S1 => ifB k (a := ⟨((ev G C b ρ S1), (.ok (.d (.bl false)) S1))⟩)⟩) := by
  show ev G C (.and a b) ρ S = (ev G C a ρ S).tr.bind fun k S1 => ifR k (ev G C b ρ S1) (.ok (.d (.bl false)) S1)
  rw [ev]; unfold Res.tr
  cases ev G C a ρ S with
  | ok x S1 => simp only [Res.bind_ok]; cases boolV x with
    | none => rfl
    | some k => cases k <;> rfl
  | _ => rfl
theorem ev_or (a b : E) : ev G C (.or a b) ρ S = (ev G C a ρ S).tr.bB (k := ⟨fun k S1 => ifB k (a := ⟨((.ok (.d (.bl true)) S1), (ev G C b ρ S1))⟩)⟩) := by
  show ev G C (.or a b) ρ S = (ev G C a ρ S).tr.bind fun k S1 => ifR k (.ok (.d (.bl true)) S1) (ev G C b ρ S1)
  rw [ev]; unfold Res.tr
  cases ev G C a ρ S with
  | ok x S1 => simp only [Res.bind_ok]; cases boolV x with
    | none => rfl
    | some k => cases k <;> rfl
  | _ => rfl
theorem ev_ite (c a b : E) : ev G C (.ite c a b) ρ S = (ev G C c ρ S).tr.bB (k := ⟨fun k S1 => ifB k (a := ⟨((ev G C a ρ S1), (ev G C b ρ S1))⟩)⟩) := by
  show ev G C (.ite c a b) ρ S = (ev G C c ρ S).tr.bind fun k S1 => ifR k (ev G C a ρ S1) (ev G C b ρ S1)
  rw [ev]; unfold Res.tr
  cases ev G C c ρ S with
  | ok x S1 => simp only [Res.bind_ok]; cases boolV x with
    | none => rfl
    | some k => cases k <;> rfl
  | _ => rfl
theorem ev_idx (a i : E) : ev G C (.idx a i) ρ S = (ev G C a ρ S).rv.bB (k := ⟨fun x S1 => (ev G C i ρ S1).rv.bB (k := ⟨fun y S2 => toRX (idx2 (rdV S2 x) (rdV S2 y) S2)⟩)⟩) := by
  show ev G C (.idx a i) ρ S = (ev G C a ρ S).rv.bind fun x S1 => (ev G C i ρ S1).rv.bind fun y S2 => toRX (idx2 (rdV S2 x) (rdV S2 y) S2)
  rw [ev]; congr 1; funext x S1; congr 1; funext y S2; cases rdV S2 x <;> cases rdV S2 y <;> rfl
def slc : Option D → Option Int → Option Int → Store → Res RX
  | some d, l, h, S => ofOpt (sliceD d l h) S
  | none, _, _, _ => .stuck
theorem slc_some (d : D) (l h : Option Int) (S : Store) : slc (some d) l h S = ofOpt (sliceD d l h) S := rfl
theorem ev_sl (a : E) (lo hi : Eo) : ev G C (.sl a lo hi) ρ S = (ev G C a ρ S).rv.bB (k := ⟨fun x S1 => (evo G C lo ρ S1).bB (k := ⟨fun l S2 => (evo G C hi ρ S2).bB (k := ⟨fun h S3 => slc (rdV S3 x) l h S3⟩)⟩)⟩) := by
  show ev G C (.sl a lo hi) ρ S = (ev G C a ρ S).rv.bind fun x S1 => (evo G C lo ρ S1).bind fun l S2 => (evo G C hi ρ S2).bind fun h S3 => slc (rdV S3 x) l h S3
  rw [ev]; congr 1; funext x S1; congr 1; funext l S2; congr 1; funext h S3; cases rdV S3 x <;> rfl
def rev1 : Option D → Store → Res RX
  | some d, S => ofOpt (revD d) S
  | none, _ => .stuck
theorem rev1_some (d : D) (S : Store) : rev1 (some d) S = ofOpt (revD d) S := rfl
theorem ev_rev (a : E) : ev G C (.rev a) ρ S = (ev G C a ρ S).rv.bB (k := ⟨fun x S1 => rev1 (rdV S1 x) S1⟩) := by
  show ev G C (.rev a) ρ S = (ev G C a ρ S).rv.bind fun x S1 => rev1 (rdV S1 x) S1
  rw [ev]; congr 1; funext x S1; cases rdV S1 x <;> rfl
def callM : Option Mir → List RV → Store → Res RX
  | some m, vs, S => m vs S
  | none, _, _ => .stuck
theorem callM_some (m : Mir) (vs : List RV) (S : Store) : callM (some m) vs S = m vs S := rfl
theorem ev_call (f : Nat) (es : Es) : ev G C (.call f es) ρ S = (evs G C es ρ S).bB (k := ⟨fun vs S1 => callM G[f]? vs S1⟩) := by
  show ev G C (.call f es) ρ S = (evs G C es ρ S).bind fun vs S1 => callM G[f]? vs S1
  rw [ev]; congr 1; funext vs S1; cases G[f]? <;> rfl
def callK : Option Mir → Option (List RV) → Store → Res RX
  | some m, some vs, S => m vs S
  | _, _, _ => .stuck
theorem callK_some (m : Mir) (vs : List RV) (S : Store) : callK (some m) (some vs) S = m vs S := rfl
theorem ev_kall (f : Nat) (ps ks : Es) (perm : List Nat) : ev G C (.kall f ps ks perm) ρ S = (evs G C ps ρ S).bB (k := ⟨fun vs S1 => (evs G C ks ρ S1).bB (k := ⟨fun ws S2 => callK G[f]? (permV perm (vs ++ ws)) S2⟩)⟩) := by
  show ev G C (.kall f ps ks perm) ρ S = (evs G C ps ρ S).bind fun vs S1 => (evs G C ks ρ S1).bind fun ws S2 => callK G[f]? (permV perm (vs ++ ws)) S2
  rw [ev]; congr 1; funext vs S1; congr 1; funext ws S2; cases G[f]? <;> cases permV perm (vs ++ ws) <;> rfl
theorem permV_nil (vs : List RV) : permV [] vs = some [] := rfl
theorem permV_cons (i : Nat) (p : List Nat) (vs : List RV) : permV (i :: p) vs = (vs[i]?).bind fun v => (permV p vs).map (v :: ·) := by
  unfold permV
  rw [List.mapM_cons]
  cases vs[i]? with
  | none => rfl
  | some v =>
    show (do let b ← List.mapM (fun i => vs[i]?) p; pure (v :: b)) = _
    cases List.mapM (fun i => vs[i]?) p <;> rfl
def bltM (f : Bf) : Option (List D) → Store → Res RX
  | some ds, S => ofOpt (bltD f ds) S
  | none, _ => .stuck
theorem bltM_some (f : Bf) (ds : List D) (S : Store) : bltM f (some ds) S = ofOpt (bltD f ds) S := rfl
theorem ev_blt (f : Bf) (es : Es) : ev G C (.blt f es) ρ S = (evs G C es ρ S).bB (k := ⟨fun vs S1 => bltM f (rdVs S1 vs) S1⟩) := by
  show ev G C (.blt f es) ρ S = (evs G C es ρ S).bind fun vs S1 => bltM f (rdVs S1 vs) S1
  rw [ev]; congr 1; funext vs S1; cases rdVs S1 vs <;> rfl
def isiM (ts : List Ty) : Option D → Store → Res RX
  | some d, S => .ok (.d (.bl (ts.any (isD d)))) S
  | none, _ => .stuck
theorem isiM_some (ts : List Ty) (d : D) (S : Store) : isiM ts (some d) S = .ok (.d (.bl (ts.any (isD d)))) S := rfl
theorem ev_isi (a : E) (ts : List Ty) : ev G C (.isi a ts) ρ S = (ev G C a ρ S).rv.bB (k := ⟨fun x S1 => isiM ts (rdV S1 x) S1⟩) := by
  show ev G C (.isi a ts) ρ S = (ev G C a ρ S).rv.bind fun x S1 => isiM ts (rdV S1 x) S1
  rw [ev]; congr 1; funext x S1; cases rdV S1 x <;> rfl
def compT (G : List Mir) (C : List D) (elt : E) (tg : List Nat) (one : Bool) (cond : Eo) (own : List Nat) (ρ : Env) : D → Store → Res (Option D) := fun d S => match bindT tg one d (wipeE ρ own) with
      | some ρ1 => (evc G C cond ρ1 S).bind fun b S2 => if b then (ev G C elt ρ1 S2).bind fun x S3 => (asD x S3).bind fun y S4 => .ok (some y) S4 else .ok none S2
      | none => .stuck
def cpM (G : List Mir) (C : List D) (elt : E) (tg : List Nat) (one : Bool) (cond : Eo) (own : List Nat) (ρ : Env) (p : List (Nat × List D) × List D) (S1 : Store) : Res RX := (compGo p.1 (compT G C elt tg one cond own ρ) S1.length p.2 (S1 ++ [.lst []])).nox.bind fun _ S2 => lastL S1.length S2
theorem ev_comp (elt : E) (tg : List Nat) (one : Bool) (it : I) (cond : Eo) (own : List Nat) : ev G C (.comp elt tg one it cond own) ρ S = (evi G C it ρ S).bB (k := ⟨fun p S1 => cpM G C elt tg one cond own ρ p S1⟩) := by
  show ev G C (.comp elt tg one it cond own) ρ S = (evi G C it ρ S).bind fun p S1 => cpM G C elt tg one cond own ρ p S1
  rw [ev]; rfl
theorem evo_no : evo G C .no ρ S = .ok none S := by rw [evo]
def toI : RX → Store → Res (Option Int)
  | .d (.int i), S => .ok (some i) S
  | _, _ => .stuck
theorem toI_int (i : Int) (S : Store) : toI (.d (.int i)) S = .ok (some i) S := rfl
theorem evo_yes (e : E) : evo G C (.yes e) ρ S = (ev G C e ρ S).bind toI := by
  rw [evo]; congr 1; funext x S1
  cases x with
  | d d => cases d <;> rfl
  | _ => rfl
theorem evc_no : evc G C .no ρ S = .ok true S := by rw [evc]
theorem evc_yes (e : E) : evc G C (.yes e) ρ S = (ev G C e ρ S).tr := by rw [evc]; rfl
theorem evs_nil : evs G C .nil ρ S = .ok [] S := by rw [evs]
theorem evs_cons (m : Md) (e : E) (es : Es) : evs G C (.cons m e es) ρ S = (ev G C e ρ S).bB (k := ⟨fun x S1 => (conv m x S1).bB (k := ⟨fun v S2 => (evs G C es ρ S2).bB (k := ⟨fun vs S3 => .ok (v :: vs) S3⟩)⟩)⟩) := by
  show evs G C (.cons m e es) ρ S = (ev G C e ρ S).bind fun x S1 => (conv m x S1).bind fun v S2 => (evs G C es ρ S2).bind fun vs S3 => .ok (v :: vs) S3
  rw [evs]
/-! statements -/
theorem exs_nil : exs G C .nil ρ S = .nx ρ S := by rw [exs]
theorem exs_cons (t : T) (ts : Ts) : exs G C (.cons t ts) ρ S = (ex G C t ρ S).tB (k := ⟨fun ρ1 S1 => exs G C ts ρ1 S1⟩) := by
  show exs G C (.cons t ts) ρ S = (ex G C t ρ S).then fun ρ1 S1 => exs G C ts ρ1 S1
  rw [exs]
theorem ex_set (i : Nat) (m : Md) (e : E) : ex G C (.set i m e) ρ S = (ev G C e ρ S).oB (k := ⟨fun x S1 => (conv m x S1).oB (k := ⟨fun v S2 => .nx (ρ.set i (some v)) S2⟩)⟩) := by
  show ex G C (.set i m e) ρ S = (ev G C e ρ S).out fun x S1 => (conv m x S1).out fun v S2 => .nx (ρ.set i (some v)) S2
  rw [ex]
theorem ex_par (is : List Nat) (es : Es) : ex G C (.par is es) ρ S = (evs G C es ρ S).oB (k := ⟨fun vs S1 => if vs.length = is.length then .nx (setsV is vs ρ) S1 else .stuck⟩) := by
  show ex G C (.par is es) ρ S = (evs G C es ρ S).out fun vs S1 => if vs.length = is.length then .nx (setsV is vs ρ) S1 else .stuck
  rw [ex]
def unpT (is : List Nat) (ρ : Env) : RV → Store → Out
  | .d (.tup ds), S => if ds.length = is.length then .nx (setsV is (ds.map .d) ρ) S else .stuck
  | _, _ => .stuck
theorem ex_unp (is : List Nat) (e : E) : ex G C (.unp is e) ρ S = (ev G C e ρ S).rv.out (unpT is ρ) := by
  rw [ex]; congr 1; funext x S1
  cases x with
  | c n => rfl
  | d d => cases d <;> rfl
theorem ex_exp (e : E) : ex G C (.exp e) ρ S = (ev G C e ρ S).oB (k := ⟨fun _ S1 => .nx ρ S1⟩) := by
  show ex G C (.exp e) ρ S = (ev G C e ρ S).out fun _ S1 => .nx ρ S1
  rw [ex]
theorem ex_ret (e : E) : ex G C (.ret e) ρ S = (ev G C e ρ S).oB (k := ⟨fun x S1 => .ret x S1⟩) := by
  show ex G C (.ret e) ρ S = (ev G C e ρ S).out fun x S1 => .ret x S1
  rw [ex]
theorem ex_retN : ex G C .retN ρ S = .ret (.d .non) S := by rw [ex]
theorem ex_ite (c : E) (a b : Ts) : ex G C (.ite c a b) ρ S = (ev G C c ρ S).tr.oB (k := ⟨fun k S1 => ifB k (a := ⟨((exs G C a ρ S1), (exs G C b ρ S1))⟩)⟩) := by
  show ex G C (.ite c a b) ρ S = (ev G C c ρ S).tr.out fun k S1 => ifR k (exs G C a ρ S1) (exs G C b ρ S1)
  rw [ex]; unfold Res.tr
  cases ev G C c ρ S with
  | ok x S1 => simp only [Res.bind_ok, Res.out_ok]; cases boolV x with
    | none => rfl
    | some k => cases k <;> rfl
  | _ => rfl
def subT (ρ : Env) (d : D) : RX → Res RV → Out
  | .c n, .ok (.d (.int k)) S4 => (match S4[n]? with
      | some (.lst ds) => (match ixN ds.length k with
        | some j => .nx ρ (S4.set n (.lst (ds.set j d)))
        | none => .stuck)
      | _ => .stuck)
  | _, _ => .stuck
def frB (G : List Mir) (C : List D) (tg : List Nat) (one : Bool) (body : Ts) : D → Env → Store → Out := fun d ρ S => match bindT tg one d ρ with
      | some ρ1 => exs G C body ρ1 S
      | none => .stuck
def frM (G : List Mir) (C : List D) (tg : List Nat) (one : Bool) (body : Ts) (p : List (Nat × List D) × List D) (ρ : Env) (S : Store) : Out := forGo p.1 (frB G C tg one body) p.2 ρ S
theorem ex_fr (tg : List Nat) (one : Bool) (it : I) (body : Ts) : ex G C (.fr tg one it body) ρ S = (evi G C it ρ S).oB (k := ⟨fun p S1 => frM G C tg one body p ρ S1⟩) := by
  show ex G C (.fr tg one it body) ρ S = (evi G C it ρ S).out fun p S1 => frM G C tg one body p ρ S1
  rw [ex]; rfl
def whM (G : List Mir) (C : List D) (c : E) (body : Ts) (n : Nat) (ρ : Env) (S : Store) : Out := whGo (fun ρ S => (ev G C c ρ S).tr) (fun ρ S => exs G C body ρ S) n ρ S
theorem ex_wh (n : Nat) (c : E) (body : Ts) : ex G C (.wh n c body) ρ S = whM G C c body n ρ S := by rw [ex]; rfl
end
/-- a body's end -/
def endD (n : Nat) : Out → Res RX
  | .ret (.d d) S1 => .ok (.d d) (S1.take n)
  | .ret (.f ds) S1 => .ok (.f ds) (S1.take n)
  | .ret (.c k) S1 => if n ≤ k then (match S1[k]? with
      | some (.lst ds) => .ok (.f ds) (S1.take n)
      | _ => .stuck) else .stuck
  | .nx _ S1 => .ok (.d .non) (S1.take n)
  | .exc x S1 => .exc x (S1.take n)
  | _ => .stuck
theorem runD_eq {G : List Mir} {C : List D} {np nn : Nat} {body : Ts} {vs : List RV} {S : Store} (h : vs.length = np) : runD G C np nn body vs S = endD S.length (exs G C body (vs.map some ++ List.replicate (nn - np) none) S) := by
  unfold runD
  rw [if_pos h]
  cases exs G C body (vs.map some ++ List.replicate (nn - np) none) S with
  | ret r S1 => cases r <;> rfl
  | _ => rfl
theorem endD_d (n : Nat) (d : D) (S : Store) : endD n (.ret (.d d) S) = .ok (.d d) (S.take n) := rfl
theorem endD_f (n : Nat) (d : List D) (S : Store) : endD n (.ret (.f d) S) = .ok (.f d) (S.take n) := rfl
theorem endD_nx (n : Nat) (ρ : Env) (S : Store) : endD n (.nx ρ S) = .ok (.d .non) (S.take n) := rfl
end Rf
namespace Rf
open PySem PySem.Spec PyProof.Rows L2
theorem binD_add (i j : Int) : binD .Add (.int i) (.int j) = some (.d (.int (i + j))) := rfl
theorem binD_sub (i j : Int) : binD .Sub (.int i) (.int j) = some (.d (.int (i - j))) := rfl
theorem binD_mul (i j : Int) : binD .Mult (.int i) (.int j) = if mulOk i j then some (.d (.int (i * j))) else none := rfl
theorem binD_fdiv (i j : Int) : binD .FloorDiv (.int i) (.int j) = if j ≠ 0 ∧ j.natAbs.log2 < 9000 then some (.d (.int (i.fdiv j))) else none := rfl
theorem binD_mod (i j : Int) : binD .Mod (.int i) (.int j) = if j ≠ 0 then some (.d (.int (i.fmod j))) else none := rfl
theorem binD_pow (i j : Int) : binD .Pow (.int i) (.int j) = if 0 ≤ j ∧ j ≤ 1000000 ∧ i.natAbs < 18446744073709551616 then some (.d (.int (i ^ j.toNat))) else none := rfl
theorem binD_lst (a b : List D) : binD .Add (.lst a) (.lst b) = if a.length + b.length ≤ line then some (.f (a ++ b)) else none := rfl
theorem binD_tup (a b : List D) : binD .Add (.tup a) (.tup b) = if a.length + b.length ≤ line then some (.d (.tup (a ++ b))) else none := rfl
theorem binD_rep (a : List D) (k : Int) : binD .Mult (.lst a) (.int k) = if -9223372036854775808 ≤ k ∧ k < 9223372036854775808 ∧ a.length * k.toNat ≤ line then some (.f (repD a k)) else none := rfl
theorem cmpD_lt (i j : Int) : cmpD .Lt (.int i) (.int j) = some (decide (i < j)) := rfl
theorem cmpD_le (i j : Int) : cmpD .LtE (.int i) (.int j) = some (decide (i ≤ j)) := rfl
theorem cmpD_gt (i j : Int) : cmpD .Gt (.int i) (.int j) = some (decide (j < i)) := rfl
theorem cmpD_ge (i j : Int) : cmpD .GtE (.int i) (.int j) = some (decide (j ≤ i)) := rfl
theorem cmpD_eqi (i j : Int) : cmpD .Eq (.int i) (.int j) = some (decide (i = j)) := rfl
theorem cmpD_nei (i j : Int) : cmpD .NotEq (.int i) (.int j) = some (!decide (i = j)) := rfl
theorem cmpD_eqs (i j : Str) : cmpD .Eq (.str i) (.str j) = some (decide (i = j)) := rfl
theorem cmpD_nes (i j : Str) : cmpD .NotEq (.str i) (.str j) = some (!decide (i = j)) := rfl
theorem idxD_l (xs : List D) (i : Int) : idxD (.lst xs) (.int i) = atI xs i := rfl
theorem idxD_t (xs : List D) (i : Int) : idxD (.tup xs) (.int i) = atI xs i := rfl
theorem bltD_len_l (xs : List D) : bltD .len [.lst xs] = some (.d (.int xs.length)) := rfl
theorem bltD_len_t (xs : List D) : bltD .len [.tup xs] = some (.d (.int xs.length)) := rfl
theorem bltD_abs (i : Int) : bltD .abs [.int i] = some (.d (.int (if i < 0 then -i else i))) := rfl
theorem bltD_int (i : Int) : bltD .int [.int i] = some (.d (.int i)) := rfl
theorem bltD_max2 (i j : Int) : bltD .max2 [.int i, .int j] = some (.d (.int (if j > i then j else i))) := rfl
theorem bltD_min2 (i j : Int) : bltD .min2 [.int i, .int j] = some (.d (.int (if j < i then j else i))) := rfl
theorem bltD_gcd (a b : Int) : bltD .gcd [.int a, .int b] = some (.d (.int ((Nat.gcd a.natAbs b.natAbs : Nat) : Int))) := rfl
theorem bltD_tupl (xs : List D) : bltD .tuple [.lst xs] = some (.d (.tup xs)) := rfl
theorem bltD_tupt (xs : List D) : bltD .tuple [.tup xs] = some (.d (.tup xs)) := rfl
theorem bltD_listl (xs : List D) : bltD .list [.lst xs] = some (.f xs) := rfl
theorem bltD_listt (xs : List D) : bltD .list [.tup xs] = some (.f xs) := rfl
theorem bltD_repr (d : D) : bltD .repr [d] = if d.rpOk then some (.d (.str d.py.shown)) else none := rfl
theorem bltD_all (xs : List D) : bltD .all [.lst xs] = (bls xs).map fun bs => .d (.bl (bs.all id)) := rfl
theorem bltD_sum (xs : List D) : bltD .sum [.lst xs] = (intsOf xs).map fun ns => .d (.int ns.sum) := rfl
theorem bls_n : bls [] = some [] := rfl
theorem bls_c (b : Bool) (r : List D) : bls (.bl b :: r) = (bls r).map (b :: ·) := rfl
theorem intsOf_n : intsOf [] = some [] := rfl
theorem intsOf_c (b : Int) (r : List D) : intsOf (.int b :: r) = (intsOf r).map (b :: ·) := rfl
theorem atI_0 {α : Type} (x : α) (xs : List α) : atI (x :: xs) 0 = some x := by
  unfold atI ixN
  rw [if_pos (by omega), if_pos (by simp)]; rfl
theorem atI_1 {α : Type} (x y : α) (xs : List α) : atI (x :: y :: xs) 1 = some y := by
  unfold atI ixN
  rw [if_pos (by omega), if_pos (by simp; omega)]; rfl
section
variable {G : List Mir} {C : List D} {ρ : Env} {S : Store}
def subZ (ρ : Env) (d : D) (n : Nat) : RV → Store → Out
  | .d (.int k), S4 => (match S4[n]? with
      | some (.lst ds) => (match ixN ds.length k with
        | some j => .nx ρ (S4.set n (.lst (ds.set j d)))
        | none => .stuck)
      | _ => .stuck)
  | _, _ => .stuck
def subY : RX → (Nat → Out) → Out
  | .c n, k => k n
  | _, _ => .stuck
theorem subY_c (n : Nat) (k : Nat → Out) : subY (.c n) k = k n := rfl
theorem ex_sub (o i e : E) : ex G C (.sub o i e) ρ S = (ev G C e ρ S).oB (k := ⟨fun x S1 => (asD x S1).oB (k := ⟨fun d S2 => (ev G C o ρ S2).oB (k := ⟨fun y S3 => subY y fun n => (ev G C i ρ S3).rv.out (subZ ρ d n)⟩)⟩)⟩) := by
  show ex G C (.sub o i e) ρ S = (ev G C e ρ S).out fun x S1 => (asD x S1).out fun d S2 => (ev G C o ρ S2).out fun y S3 => subY y fun n => (ev G C i ρ S3).rv.out (subZ ρ d n)
  rw [ex]; congr 1; funext x S1; congr 1; funext d S2; congr 1; funext y S3
  cases y with
  | c n =>
    show _ = (ev G C i ρ S3).rv.out (subZ ρ d n)
    dsimp only
    congr 1; funext z S4
    cases z with
    | c m => rfl
    | d dz => cases dz <;> rfl
  | _ => rfl
theorem subZ_0 (ρ : Env) (d x : D) (xs : List D) (R : Store) : subZ ρ d 0 (.d (.int 0)) (.lst (x :: xs) :: R) = .nx ρ (.lst (d :: xs) :: R) := by
  unfold subZ ixN
  simp
theorem subZ_1 (ρ : Env) (d x y : D) (xs : List D) (R : Store) : subZ ρ d 0 (.d (.int 1)) (.lst (x :: y :: xs) :: R) = .nx ρ (.lst (x :: d :: xs) :: R) := by
  unfold subZ ixN
  simp
  rw [if_pos (by omega)]
  rfl
def appY (ρ : Env) : Option (Option RV) → (Nat → Out) → Out
  | some (some (.c n)), k => k n
  | _, _ => .stuck
theorem appY_c (n : Nat) (k : Nat → Out) : appY ρ (some (some (.c n))) k = k n := rfl
def appZ (ρ : Env) (n : Nat) (d : D) (S : Store) : Out := match S[n]? with
  | some (.lst ds) => if ds.length < line then .nx ρ (S.set n (.lst (ds ++ [d]))) else .stuck
  | _ => .stuck
theorem ex_app (i : Nat) (e : E) : ex G C (.app i e) ρ S = appY ρ ρ[i]? fun n => (ev G C e ρ S).oB (k := ⟨fun x S1 => (asD x S1).out (appZ ρ n)⟩) := by
  show ex G C (.app i e) ρ S = appY ρ ρ[i]? fun n => (ev G C e ρ S).out fun x S1 => (asD x S1).out (appZ ρ n)
  rw [ex]
  cases ρ[i]? with
  | none => rfl
  | some o => cases o with
    | none => rfl
    | some r => cases r <;> rfl
def augZ (ρ : Env) (i : Nat) (op : Operator) (a : Int) : RX → Store → Out
  | .d (.int b), S1 => (match op with
    | .Add => .nx (ρ.set i (some (.d (.int (a + b))))) S1
    | .Sub => .nx (ρ.set i (some (.d (.int (a - b))))) S1
    | _ => .stuck)
  | _, _ => .stuck
def augY : Option (Option RV) → (Int → Out) → Out
  | some (some (.d (.int a))), k => k a
  | _, _ => .stuck
theorem augY_int (a : Int) (k : Int → Out) : augY (some (some (.d (.int a)))) k = k a := rfl
theorem augZ_add (i : Nat) (a b : Int) : augZ ρ i .Add a (.d (.int b)) S = .nx (ρ.set i (some (.d (.int (a + b))))) S := rfl
theorem augZ_sub (i : Nat) (a b : Int) : augZ ρ i .Sub a (.d (.int b)) S = .nx (ρ.set i (some (.d (.int (a - b))))) S := rfl
theorem ex_aug (i : Nat) (op : Operator) (e : E) : ex G C (.aug i op e) ρ S = augY ρ[i]? fun a => (ev G C e ρ S).out (augZ ρ i op a) := by
  show ex G C (.aug i op e) ρ S = augY ρ[i]? fun a => (ev G C e ρ S).out (augZ ρ i op a)
  rw [ex]
  cases ρ[i]? with
  | none => rfl
  | some o => cases o with
    | none => rfl
    | some r => cases r with
      | c n => rfl
      | d d => cases d with
        | int a =>
          show (ev G C e ρ S).out _ = (ev G C e ρ S).out _
          congr 1; funext x S1
          cases x with
          | d d => cases d <;> cases op <;> rfl
          | _ => rfl
        | _ => rfl
def seqI : RV → Store → Res (List (Nat × List D) × List D)
  | .d (.lst ds), S2 => .ok ([], ds) S2
  | .d (.tup ds), S2 => .ok ([], ds) S2
  | .d (.str x), S2 => .ok ([], strItems x) S2
  | .c n, S2 => (match cellAt S2 n with
      | some ds => .ok ([(n, ds)], ds) S2
      | none => .stuck)
  | _, _ => .stuck
theorem seqI_l (ds : List D) : seqI (.d (.lst ds)) S = .ok ([], ds) S := rfl
theorem seqI_t (ds : List D) : seqI (.d (.tup ds)) S = .ok ([], ds) S := rfl
theorem seqI_s (x : Str) : seqI (.d (.str x)) S = .ok ([], strItems x) S := rfl
theorem evi_seq (e : E) : evi G C (.seq e) ρ S = (ev G C e ρ S).rv.bind seqI := by
  rw [evi]
  cases ev G C e ρ S with
  | ok x S1 =>
    simp only [Res.bind_ok, Res.rv]
    congr 1; funext v S2
    cases v with
    | c n => rfl
    | d d => cases d <;> rfl
  | _ => rfl
def rngI : Option (List D) → Store → Res (List (Nat × List D) × List D)
  | some ds, S => (match rangeD ds with
      | some r => .ok ([], r) S
      | none => .stuck)
  | none, _ => .stuck
theorem rngI_1 (j : Int) (h : -4611686018427387904 ≤ j ∧ j < 4611686018427387904) : rngI (some [.int j]) S = .ok ([], rngD 0 j.toNat) S := by
  unfold rngI rangeD; simp only [if_pos h]
theorem rngI_2 (i j : Int) (h : -4611686018427387904 ≤ i ∧ i < 4611686018427387904 ∧ -4611686018427387904 ≤ j ∧ j < 4611686018427387904) : rngI (some [.int i, .int j]) S = .ok ([], rngD i (j - i).toNat) S := by
  unfold rngI rangeD; simp only [if_pos h]
theorem evi_rng (es : Es) : evi G C (.rng es) ρ S = (evs G C es ρ S).bB (k := ⟨fun vs S1 => rngI (rdVs S1 vs) S1⟩) := by
  show evi G C (.rng es) ρ S = (evs G C es ρ S).bind fun vs S1 => rngI (rdVs S1 vs) S1
  rw [evi]; congr 1; funext vs S1; cases rdVs S1 vs <;> rfl
def enI : RV → Store → Res (List (Nat × List D) × List D)
  | .d (.lst ds), S2 => .ok ([], enumD 0 ds) S2
  | .d (.tup ds), S2 => .ok ([], enumD 0 ds) S2
  | .c n, S2 => (match cellAt S2 n with
      | some ds => .ok ([(n, ds)], enumD 0 ds) S2
      | none => .stuck)
  | _, _ => .stuck
theorem enI_l (ds : List D) : enI (.d (.lst ds)) S = .ok ([], enumD 0 ds) S := rfl
theorem enI_t (ds : List D) : enI (.d (.tup ds)) S = .ok ([], enumD 0 ds) S := rfl
theorem evi_enum (e : E) : evi G C (.enum e) ρ S = (ev G C e ρ S).rv.bind enI := by
  rw [evi]
  cases ev G C e ρ S with
  | ok x S1 =>
    simp only [Res.bind_ok, Res.rv]
    congr 1; funext v S2
    cases v with
    | c n => rfl
    | d d => cases d <;> rfl
  | _ => rfl
end
end Rf
open PySem PySem.Spec PyProof.Rows L2 Rf
local macro_rules
  | `(tactic| simp! [$ts,*] $[$loc]?) => `(tactic| simp only [ev_var, ev_lit, ev_con, ev_tup, ev_lst, ev_bin, ev_neg, ev_nt, ev_cmp, ev_ch2, ev_and, ev_or, ev_ite, ev_idx, ev_sl, ev_rev, ev_call, ev_kall, ev_blt, ev_isi, evs_nil, evs_cons, evo_no, evo_yes,
  exs_nil, exs_cons, ex_set, ex_par, ex_unp, ex_exp, ex_ret, ex_retN, ex_ite, ex_sub, subY_c, subZ_0, subZ_1, ex_app, appY_c, ex_aug, augY_int, augZ_add, augZ_sub, evi_seq, seqI_l, seqI_t, seqI_s, evi_rng, evi_enum, enI_l, enI_t, ev_comp, ex_fr, ex_wh, evc_no, evc_yes, lookV_d, lookV_c, lookC_some, mkTup_eq, mkLst_eq, line, Nat.reduceLeDiff, List.length_append, bin2_some, cmp2_some, idx2_some, toBl_ok, toRX_ok, neg1_int, tr_ok, ifR_t, ifR_f, ifB_t, ifB_f, Bx_v, bB_ok, oB_ok, tB_nx, tB_ret, tB_brk, tB_cnt, rv_d, rv_c, rv_f, conv_d, conv_cel_f, conv_dat_f, conv_rd_f, conv_cel_c, conv_rd_c,
  rdV_d, rdV_c, cellAt_0, rdVs_nil, rdVs_cons, ofOpt_some, asD_d, asD_f, slc_some, rev1_some, callM_some, callK_some, permV_nil, permV_cons, bltM_some, isiM_some, toI_int, unpT, setsV, endD_d, endD_f, endD_nx,
  Res.bind_ok, Res.out_ok, Out.then_nx, Out.then_ret, Out.then_brk, Out.then_cnt, Option.bind_some, Option.map_some, List.getElem?_cons_zero, List.getElem?_cons_succ, List.set_cons_zero, List.set_cons_succ, List.map_cons, List.map_nil, List.cons_append, List.nil_append, List.length_cons, List.length_nil, List.replicate_succ, List.replicate_zero,
  binD_add, binD_sub, binD_mul, binD_fdiv, binD_mod, binD_pow, binD_lst, binD_tup, binD_rep, cmpD_lt, cmpD_le, cmpD_gt, cmpD_ge, cmpD_eqi, cmpD_nei, cmpD_eqs, cmpD_nes, idxD_l, idxD_t, bltD_len_l, bltD_len_t, bltD_abs, bltD_int, bltD_max2, bltD_min2, bltD_gcd, bltD_tupl, bltD_tupt, bltD_listl, bltD_listt, bltD_repr, bltD_all, bltD_sum, bls_n, bls_c, intsOf_n, intsOf_c, List.all_cons, List.all_nil, id_eq, atI_0, atI_1,
  List.any_cons, List.any_nil, isD, Bool.or_false, Bool.or_true, Bool.false_or, Bool.true_or, Bool.not_true, Bool.not_false, Bool.not_not, decide_true, decide_false, Nat.reduceAdd, Nat.reduceSub, if_true, reduceIte, Nat.reduceEqDiff, Int.cast_ofNat_Int, Int.reduceEq, Int.reduceLT, Int.reduceLE, Int.reduceNeg, Bool.and_true, Bool.true_and, Bool.and_false, Bool.false_and, ne_eq, not_false_eq_true, not_true_eq_false, and_self, and_true, true_and, List.take_length, List.take_succ_cons, $ts,*] $[$loc]?)

set_option Elab.async false
set_option linter.all false
set_option maxRecDepth 100000
set_option maxHeartbeats 1000000
namespace Rf
open PySem PySem.Spec PyProof.Rows L2
/-! ### loops -/
theorem srcOk_nil (S : Store) : srcOk [] S = true := rfl
theorem compGo_st {src : List (Nat × List D)} {f : D → Store → Res (Option D)} (Inv : Nat → Store → List D → Prop) {items : List D} {n : Nat}
    (hsrc : ∀ i S acc A, Inv i S acc → srcOk src (S ++ [A]) = true) (hlen : ∀ i S acc, Inv i S acc → S.length = n)
    (hs : ∀ i d S acc, items[i]? = some d → Inv i S acc → ∃ o S', (∀ A, f d (S ++ [A]) = .ok o (S' ++ [A])) ∧ S'.length = S.length ∧ Inv (i + 1) S' (acc ++ o.toList)) :
    ∀ (k i : Nat) (S : Store) (acc : List D), k = items.length - i → i ≤ items.length → Inv i S acc → acc.length + (items.length - i) ≤ line → ∃ S' acc', compGo src f n (items.drop i) (S ++ [.lst acc]) = .ok () (S' ++ [.lst acc']) ∧ Inv items.length S' acc'
  | 0, i, S, acc, hk, hi, I, _ => by
    have : i = items.length := by omega
    subst this
    refine ⟨S, acc, ?_, I⟩
    rw [List.drop_length]
    unfold compGo
    rw [if_pos (hsrc _ _ _ _ I)]
  | k + 1, i, S, acc, hk, hi, I, hl => by
    have hlt : i < items.length := by omega
    obtain ⟨o, S', hf, hl', I'⟩ := hs i items[i] S acc (by simp [hlt]) I
    rw [List.drop_eq_getElem_cons hlt]
    unfold compGo
    rw [if_pos (hsrc _ _ _ _ I), hf]
    simp only [Res.bind_ok]
    have hn := hlen _ _ _ I
    cases o with
    | none =>
      simp only [Option.toList, List.append_nil] at I'
      exact compGo_st Inv hsrc hlen hs k (i + 1) S' acc (by omega) (by omega) I' (by omega)
    | some x =>
      have e1 : (S' ++ [Cell.lst acc])[n]? = some (.lst acc) := by rw [← hn, ← hl']; simp
      have e2 : (S' ++ [Cell.lst acc]).set n (.lst (acc ++ [x])) = S' ++ [.lst (acc ++ [x])] := by
        rw [← hn, ← hl', List.set_append_right _ _ (Nat.le_refl _)]; simp
      simp only [e1, e2]
      rw [if_pos (by omega)]
      exact compGo_st Inv hsrc hlen hs k (i + 1) S' (acc ++ [x]) (by omega) (by omega) I' (by simp; omega)
theorem lastL_app (S : Store) (ds : List D) : lastL S.length (S ++ [.lst ds]) = .ok (.f ds) S := by
  unfold lastL
  rw [if_pos (by simp)]
  simp
/-- a comprehension whose turns keep an invariant -/
theorem comp_st {src : List (Nat × List D)} {f : D → Store → Res (Option D)} (Inv : Nat → Store → List D → Prop) {items : List D} {S : Store}
    (hsrc : ∀ i S acc A, Inv i S acc → srcOk src (S ++ [A]) = true) (hlen : ∀ i S' acc, Inv i S' acc → S'.length = S.length)
    (hs : ∀ i d S acc, items[i]? = some d → Inv i S acc → ∃ o S', (∀ A, f d (S ++ [A]) = .ok o (S' ++ [A])) ∧ S'.length = S.length ∧ Inv (i + 1) S' (acc ++ o.toList))
    (h0 : Inv 0 S []) (hl : items.length ≤ line) : ∃ S' acc, (compGo src f S.length items (S ++ [.lst []])).nox.bind (fun _ S2 => lastL S.length S2) = .ok (.f acc) S' ∧ Inv items.length S' acc := by
  obtain ⟨S', acc, e, I⟩ := compGo_st Inv hsrc hlen hs items.length 0 S [] (by simp) (Nat.zero_le _) h0 (by simpa using hl)
  rw [List.drop_zero] at e
  refine ⟨S', acc, ?_, I⟩
  rw [e]
  simp only [Res.nox_ok, Res.bind_ok]
  rw [← hlen _ _ _ I]
  exact lastL_app S' acc
/-- .. that change nothing -/
theorem comp_pure {src : List (Nat × List D)} {f : D → Store → Res (Option D)} {g : D → Option D} {items : List D} {S : Store} (hsrc : ∀ A, srcOk src (S ++ [A]) = true)
    (hf : ∀ d ∈ items, ∀ A, f d (S ++ [A]) = .ok (g d) (S ++ [A])) (hl : items.length ≤ line) : (compGo src f S.length items (S ++ [.lst []])).nox.bind (fun _ S2 => lastL S.length S2) = .ok (.f (items.filterMap g)) S := by
  obtain ⟨S', acc, e, I⟩ := comp_st (src := src) (f := f) (items := items) (S := S) (fun i S' acc => S' = S ∧ acc = (items.take i).filterMap g) (fun i S' acc A I => by rw [I.1]; exact hsrc A) (fun i S' acc I => by rw [I.1])
    (fun i d S' acc h I => by
      obtain ⟨rfl, rfl⟩ := I
      refine ⟨g d, S', fun A => hf d (List.mem_of_getElem? h) A, rfl, rfl, ?_⟩
      rw [List.take_succ, h, List.filterMap_append]
      cases e : g d <;> simp [e]) ⟨rfl, by simp⟩ hl
  obtain ⟨rfl, rfl⟩ := I
  rw [e, List.take_length]
theorem forGo_st {src : List (Nat × List D)} {f : D → Env → Store → Out} (Inv : Nat → Env → Store → Prop) {items : List D}
    (hsrc : ∀ i ρ S, Inv i ρ S → srcOk src S = true) (hs : ∀ i d ρ S, items[i]? = some d → Inv i ρ S → ∃ ρ' S', f d ρ S = .nx ρ' S' ∧ Inv (i + 1) ρ' S') :
    ∀ (k i : Nat) (ρ : Env) (S : Store), k = items.length - i → i ≤ items.length → Inv i ρ S → ∃ ρ' S', forGo src f (items.drop i) ρ S = .nx ρ' S' ∧ Inv items.length ρ' S'
  | 0, i, ρ, S, hk, hi, I => by
    have : i = items.length := by omega
    subst this
    refine ⟨ρ, S, ?_, I⟩
    rw [List.drop_length]
    unfold forGo
    rw [if_pos (hsrc _ _ _ I)]
  | k + 1, i, ρ, S, hk, hi, I => by
    have hlt : i < items.length := by omega
    obtain ⟨ρ', S', hf, I'⟩ := hs i items[i] ρ S (by simp [hlt]) I
    rw [List.drop_eq_getElem_cons hlt]
    unfold forGo
    rw [if_pos (hsrc _ _ _ I), hf]
    exact forGo_st Inv hsrc hs k (i + 1) ρ' S' (by omega) (by omega) I'
/-- a for whose turns keep an invariant -/
theorem for_st {src : List (Nat × List D)} {f : D → Env → Store → Out} (Inv : Nat → Env → Store → Prop) {items : List D} {ρ : Env} {S : Store}
    (hsrc : ∀ i ρ S, Inv i ρ S → srcOk src S = true) (hs : ∀ i d ρ S, items[i]? = some d → Inv i ρ S → ∃ ρ' S', f d ρ S = .nx ρ' S' ∧ Inv (i + 1) ρ' S') (h0 : Inv 0 ρ S) :
    ∃ ρ' S', forGo src f items ρ S = .nx ρ' S' ∧ Inv items.length ρ' S' := by
  have := forGo_st Inv hsrc hs items.length 0 ρ S (by simp) (Nat.zero_le _) h0
  rwa [List.drop_zero] at this
theorem forGo_rt {src : List (Nat × List D)} {f : D → Env → Store → Out} (Inv : Nat → Env → Store → Prop) (Post : RX → Store → Prop) {items : List D}
    (hsrc : ∀ i ρ S, Inv i ρ S → srcOk src S = true) (hs : ∀ i d ρ S, items[i]? = some d → Inv i ρ S → (∃ ρ' S', f d ρ S = .nx ρ' S' ∧ Inv (i + 1) ρ' S') ∨ ∃ r S', f d ρ S = .ret r S' ∧ Post r S') :
    ∀ (k i : Nat) (ρ : Env) (S : Store), k = items.length - i → i ≤ items.length → Inv i ρ S → (∃ ρ' S', forGo src f (items.drop i) ρ S = .nx ρ' S' ∧ Inv items.length ρ' S') ∨ ∃ r S', forGo src f (items.drop i) ρ S = .ret r S' ∧ Post r S'
  | 0, i, ρ, S, hk, hi, I => by
    have : i = items.length := by omega
    subst this
    refine .inl ⟨ρ, S, ?_, I⟩
    rw [List.drop_length]
    unfold forGo
    rw [if_pos (hsrc _ _ _ I)]
  | k + 1, i, ρ, S, hk, hi, I => by
    have hlt : i < items.length := by omega
    rw [List.drop_eq_getElem_cons hlt]
    unfold forGo
    rw [if_pos (hsrc _ _ _ I)]
    rcases hs i items[i] ρ S (by simp [hlt]) I with ⟨ρ', S', hf, I'⟩ | ⟨r, S', hf, hp⟩
    · rw [hf]
      exact forGo_rt Inv Post hsrc hs k (i + 1) ρ' S' (by omega) (by omega) I'
    · rw [hf]
      exact .inr ⟨r, S', rfl, hp⟩
/-- a for that may return -/
theorem for_rt {src : List (Nat × List D)} {f : D → Env → Store → Out} (Inv : Nat → Env → Store → Prop) (Post : RX → Store → Prop) {items : List D} {ρ : Env} {S : Store}
    (hsrc : ∀ i ρ S, Inv i ρ S → srcOk src S = true) (hs : ∀ i d ρ S, items[i]? = some d → Inv i ρ S → (∃ ρ' S', f d ρ S = .nx ρ' S' ∧ Inv (i + 1) ρ' S') ∨ ∃ r S', f d ρ S = .ret r S' ∧ Post r S') (h0 : Inv 0 ρ S) :
    (∃ ρ' S', forGo src f items ρ S = .nx ρ' S' ∧ Inv items.length ρ' S') ∨ ∃ r S', forGo src f items ρ S = .ret r S' ∧ Post r S' := by
  have := forGo_rt Inv Post hsrc hs items.length 0 ρ S (by simp) (Nat.zero_le _) h0
  rwa [List.drop_zero] at this
/-- a while with its measure -/
theorem wh_st {c : Env → Store → Res Bool} {f : Env → Store → Out} (Inv : Nat → Env → Store → Prop)
    (hs : ∀ m ρ S, Inv m ρ S → (∃ S', c ρ S = .ok true S' ∧ ∃ ρ' S2 m', f ρ S' = .nx ρ' S2 ∧ m' < m ∧ Inv m' ρ' S2) ∨ ∃ S', c ρ S = .ok false S' ∧ Inv 0 ρ S') :
    ∀ (n m : Nat) (ρ : Env) (S : Store), m < n → Inv m ρ S → ∃ ρ' S', whGo c f n ρ S = .nx ρ' S' ∧ Inv 0 ρ' S'
  | 0, m, ρ, S, h, _ => by omega
  | n + 1, m, ρ, S, h, I => by
    unfold whGo
    rcases hs m ρ S I with ⟨S', h1, ρ', S2, m', h2, h3, I'⟩ | ⟨S', h1, I'⟩
    · rw [h1]
      simp only [Res.out_ok, if_true]
      rw [h2]
      exact wh_st Inv hs n m' ρ' S2 (by omega) I'
    · rw [h1]
      exact ⟨ρ, S', rfl, I'⟩
theorem whM_st {G : List Mir} {C : List D} {c : E} {body : Ts} (Inv : Nat → Env → Store → Prop)
    (hs : ∀ m ρ S, Inv m ρ S → (∃ S', (ev G C c ρ S).tr = .ok true S' ∧ ∃ ρ' S2 m', exs G C body ρ S' = .nx ρ' S2 ∧ m' < m ∧ Inv m' ρ' S2) ∨ ∃ S', (ev G C c ρ S).tr = .ok false S' ∧ Inv 0 ρ S')
    {n m : Nat} {ρ : Env} {S : Store} (h : m < n) (I : Inv m ρ S) : ∃ ρ' S', whM G C c body n ρ S = .nx ρ' S' ∧ Inv 0 ρ' S' := wh_st Inv hs n m ρ S h I
end Rf
namespace Rf
open PySem PySem.Spec PyProof.Rows L2
theorem bls_map (f : D → Bool) : ∀ xs : List D, bls (xs.map fun d => .bl (f d)) = some (xs.map f)
  | [] => rfl
  | x :: xs => by simp [bls, bls_map f xs]
theorem all_map_id {α : Type} (f : α → Bool) (xs : List α) : (xs.map f).all id = xs.all f := by simp [List.all_map]
/-- a comprehension that changes nothing, without a test -/
theorem cpM_map {G : List Mir} {C : List D} {elt : E} {tg own : List Nat} {one : Bool} {ρ : Env} {S : Store} {items : List D} (g : D → D) (hl : items.length ≤ line)
    (hf : ∀ d ∈ items, ∀ A, compT G C elt tg one .no own ρ d (S ++ [A]) = .ok (some (g d)) (S ++ [A])) : cpM G C elt tg one .no own ρ ([], items) S = .ok (.f (items.map g)) S := by
  unfold cpM
  have := comp_pure (src := []) (f := compT G C elt tg one .no own ρ) (g := fun d => some (g d)) (items := items) (S := S) (fun A => rfl) hf hl
  rw [show (fun d => some (g d)) = some ∘ g from rfl, List.filterMap_eq_map] at this
  exact this
/-- one turn over a name, without a test -/
theorem compT_one {G : List Mir} {C : List D} {elt : E} {i : Nat} {ρ : Env} {d : D} {S : Store} : compT G C elt [i] true .no [i] ρ d S = (ev G C elt ((ρ.set i none).set i (some (.d d))) S).bind fun x S3 => (asD x S3).bind fun y S4 => .ok (some y) S4 := by
  unfold compT
  simp only [bindT, if_true, wipeE, evc_no, Res.bind_ok]
end Rf
namespace Rf
open PySem PySem.Spec PyProof.Rows L2
theorem frM_st {G : List Mir} {C : List D} {tg : List Nat} {one : Bool} {body : Ts} {items : List D} {ρ : Env} {S : Store} (Inv : Nat → Env → Store → Prop)
    (hs : ∀ i d ρ S, items[i]? = some d → Inv i ρ S → ∃ ρ1 ρ' S', bindT tg one d ρ = some ρ1 ∧ exs G C body ρ1 S = .nx ρ' S' ∧ Inv (i + 1) ρ' S') (h0 : Inv 0 ρ S) :
    ∃ ρ' S', frM G C tg one body ([], items) ρ S = .nx ρ' S' ∧ Inv items.length ρ' S' :=
  for_st (src := []) Inv (fun _ _ _ _ => rfl) (fun i d ρ S hi I => by
    obtain ⟨ρ1, ρ', S', e1, e2, I'⟩ := hs i d ρ S hi I
    exact ⟨ρ', S', by unfold frB; rw [e1]; exact e2, I'⟩) h0
theorem frM_rt {G : List Mir} {C : List D} {tg : List Nat} {one : Bool} {body : Ts} {items : List D} {ρ : Env} {S : Store} (Inv : Nat → Env → Store → Prop) (Post : RX → Store → Prop)
    (hs : ∀ i d ρ S, items[i]? = some d → Inv i ρ S → ∃ ρ1, bindT tg one d ρ = some ρ1 ∧ ((∃ ρ' S', exs G C body ρ1 S = .nx ρ' S' ∧ Inv (i + 1) ρ' S') ∨ ∃ r S', exs G C body ρ1 S = .ret r S' ∧ Post r S')) (h0 : Inv 0 ρ S) :
    (∃ ρ' S', frM G C tg one body ([], items) ρ S = .nx ρ' S' ∧ Inv items.length ρ' S') ∨ ∃ r S', frM G C tg one body ([], items) ρ S = .ret r S' ∧ Post r S' :=
  for_rt (src := []) Inv Post (fun _ _ _ _ => rfl) (fun i d ρ S hi I => by
    obtain ⟨ρ1, e1, h⟩ := hs i d ρ S hi I
    rcases h with ⟨ρ', S', e2, I'⟩ | ⟨r, S', e2, p⟩
    · exact .inl ⟨ρ', S', by unfold frB; rw [e1]; exact e2, I'⟩
    · exact .inr ⟨r, S', by unfold frB; rw [e1]; exact e2, p⟩) h0
/-- a comprehension that may draw, without a test -/
theorem cpM_st {G : List Mir} {C : List D} {elt : E} {tg own : List Nat} {one : Bool} {ρ : Env} {S : Store} {items : List D} (Inv : Nat → Store → List D → Prop) (hlen : ∀ i S' acc, Inv i S' acc → S'.length = S.length)
    (hs : ∀ i d S acc, items[i]? = some d → Inv i S acc → ∃ y S', (∀ A, compT G C elt tg one .no own ρ d (S ++ [A]) = .ok (some y) (S' ++ [A])) ∧ S'.length = S.length ∧ Inv (i + 1) S' (acc ++ [y])) (h0 : Inv 0 S []) (hl : items.length ≤ line) :
    ∃ S' acc, cpM G C elt tg one .no own ρ ([], items) S = .ok (.f acc) S' ∧ Inv items.length S' acc :=
  comp_st (src := []) Inv (fun _ _ _ _ _ => rfl) hlen (fun i d S acc hi I => by
    obtain ⟨y, S', h1, h2, h3⟩ := hs i d S acc hi I
    exact ⟨some y, S', h1, h2, h3⟩) h0 hl
/-! ### what may be shown -/
structure Nc (w k : Nat) (d : D) : Prop where
  okc : d.okc = true
  shw : d.shw = true
  dep : d.dep ≤ k
  wt : d.wt ≤ w
theorem Nc.rp {w k : Nat} {d : D} (h : Nc w k d) (hk : k ≤ 64) (hw : w ≤ 16777216) : d.rpOk = true := by
  unfold D.rpOk
  have h1 : d.dep ≤ 64 := Nat.le_trans h.dep hk
  have h2 : d.wt ≤ line := Nat.le_trans h.wt hw
  simp [h.okc, h.shw, h1, h2]
theorem ncs {w k : Nat} : ∀ {ds : List D}, (∀ d ∈ ds, Nc w k d) → D.okcs ds = true ∧ D.shws ds = true ∧ D.deps ds ≤ k ∧ D.wts ds ≤ ds.length * (w + 2)
  | [], _ => ⟨rfl, rfl, Nat.zero_le _, Nat.zero_le _⟩
  | d :: ds, h => by
    obtain ⟨h1, h2, h3, h4⟩ := ncs fun e he => h e (List.mem_cons_of_mem _ he)
    have hd := h d List.mem_cons_self
    refine ⟨by simp [D.okcs, hd.okc, h1], by simp [D.shws, hd.shw, h2], Nat.max_le.mpr ⟨hd.dep, h3⟩, ?_⟩
    have := hd.wt
    show d.wt + 2 + D.wts ds ≤ (ds.length + 1) * (w + 2)
    rw [Nat.add_mul]
    omega
theorem nc_lst {w k n : Nat} {ds : List D} (h : ∀ d ∈ ds, Nc w k d) (hl : ds.length ≤ n) : Nc (n * (w + 2) + 8) (k + 1) (.lst ds) := by
  obtain ⟨h1, h2, h3, h4⟩ := ncs h
  have := Nat.mul_le_mul_right (w + 2) hl
  exact ⟨h1, h2, Nat.succ_le_succ h3, by show D.wts ds + 8 ≤ _; omega⟩
theorem nc_tup {w k n : Nat} {ds : List D} (h : ∀ d ∈ ds, Nc w k d) (hl : ds.length ≤ n) : Nc (n * (w + 2) + 8) (k + 1) (.tup ds) := by
  obtain ⟨h1, h2, h3, h4⟩ := ncs h
  have := Nat.mul_le_mul_right (w + 2) hl
  exact ⟨h1, h2, Nat.succ_le_succ h3, by show D.wts ds + 8 ≤ _; omega⟩
theorem Nc.mono {w k w' k' : Nat} {d : D} (h : Nc w k d) (hw : w ≤ w') (hk : k ≤ k') : Nc w' k' d := ⟨h.okc, h.shw, Nat.le_trans h.dep hk, Nat.le_trans h.wt hw⟩
theorem nc_int {i : Int} (h : i.natAbs < 2 ^ 1900) : Nc 2000 0 (.int i) := ⟨rfl, by
  show decide (i.natAbs.log2 < 1920) = true
  refine decide_eq_true ?_
  by_cases h0 : i.natAbs = 0
  · rw [h0]; decide
  · have := (Nat.log2_lt h0).mpr h
    omega, Nat.le_refl _, Nat.le_refl _⟩
theorem nc_bl (b : Bool) : Nc 2000 0 (.bl b) := ⟨rfl, rfl, Nat.le_refl _, by show 8 ≤ 2000; decide⟩
theorem nc_non : Nc 2000 0 .non := ⟨rfl, rfl, Nat.le_refl _, by show 8 ≤ 2000; decide⟩
end Rf
namespace Rf
open PySem PySem.Spec PyProof.Rows L2
def takeTs : Nat → Ts → Ts
  | 0, _ => .nil
  | _, .nil => .nil
  | n + 1, .cons t ts => .cons t (takeTs n ts)
def dropTs : Nat → Ts → Ts
  | 0, ts => ts
  | _, .nil => .nil
  | n + 1, .cons _ ts => dropTs n ts
theorem then_assoc (o : Out) (f g : Env → Store → Out) : (o.then f).then g = o.then fun ρ S => (f ρ S).then g := by cases o <;> rfl
theorem exs_cons0 {G : List Mir} {C : List D} {ρ : Env} {S : Store} (t : T) (ts : Ts) : exs G C (.cons t ts) ρ S = (ex G C t ρ S).then fun ρ1 S1 => exs G C ts ρ1 S1 := by rw [exs]
theorem exs_split {G : List Mir} {C : List D} : ∀ (n : Nat) (b : Ts) (ρ : Env) (S : Store), exs G C b ρ S = (exs G C (takeTs n b) ρ S).then fun ρ1 S1 => exs G C (dropTs n b) ρ1 S1
  | 0, b, ρ, S => by rw [takeTs, exs_nil]; rfl
  | n + 1, .nil, ρ, S => by rw [takeTs, exs_nil, Out.then_nx, dropTs, exs_nil] <;> simp
  | n + 1, .cons t ts, ρ, S => by
    rw [takeTs, exs_cons0, exs_cons0, then_assoc, dropTs]
    congr 1
    funext ρ1 S1
    exact exs_split n ts ρ1 S1
end Rf
namespace Rf
open PySem PySem.Spec PyProof.Rows L2
theorem compGo_pot {f : Env → D → Store → Res (Option D)} (Pr : Env → Prop) (Inv : Nat → Cell → List D → Prop) {items : List D}
    (hs : ∀ i d p acc, items[i]? = some d → Inv i p acc → ∃ y p', (∀ ρ R, Pr ρ → f ρ d (p :: R) = .ok (some y) (p' :: R)) ∧ Inv (i + 1) p' (acc ++ [y])) :
    ∀ (k i : Nat) (p : Cell) (acc : List D), k = items.length - i → i ≤ items.length → Inv i p acc → acc.length + (items.length - i) ≤ line →
      ∃ p' acc', (∀ (ρ : Env) (R : Store), Pr ρ → compGo [] (f ρ) (R.length + 1) (items.drop i) (p :: (R ++ [.lst acc])) = .ok () (p' :: (R ++ [.lst acc']))) ∧ Inv items.length p' acc'
  | 0, i, p, acc, hk, hi, I, _ => by
    have : i = items.length := by omega
    subst this
    refine ⟨p, acc, fun ρ R hρ => ?_, I⟩
    rw [List.drop_length]
    unfold compGo
    rw [if_pos (srcOk_nil _)]
  | k + 1, i, p, acc, hk, hi, I, hl => by
    have hlt : i < items.length := by omega
    obtain ⟨y, p', hf, I'⟩ := hs i items[i] p acc (by simp [hlt]) I
    obtain ⟨p2, acc2, h2, I2⟩ := compGo_pot Pr Inv hs k (i + 1) p' (acc ++ [y]) (by omega) (by omega) I' (by simp; omega)
    refine ⟨p2, acc2, fun ρ R hρ => ?_, I2⟩
    rw [List.drop_eq_getElem_cons hlt]
    unfold compGo
    rw [if_pos (srcOk_nil _), hf ρ _ hρ]
    simp only [Res.bind_ok]
    have e1 : (p' :: (R ++ [Cell.lst acc]))[R.length + 1]? = some (.lst acc) := by simp
    have e2 : (p' :: (R ++ [Cell.lst acc])).set (R.length + 1) (.lst (acc ++ [y])) = p' :: (R ++ [.lst (acc ++ [y])]) := by
      rw [List.set_cons_succ, List.set_append_right _ _ (Nat.le_refl _)]; simp
    simp only [e1, e2]
    rw [if_pos (by omega)]
    exact h2 ρ R hρ
/-- a comprehension that draws from the pot in cell 0 -/
theorem cpM_pot {G : List Mir} {C : List D} {elt : E} {tg own : List Nat} {one : Bool} {p : Cell} {items : List D} (Pr : Env → Prop) (Inv : Nat → Cell → List D → Prop)
    (hs : ∀ i d p acc, items[i]? = some d → Inv i p acc → ∃ y p', (∀ ρ R, Pr ρ → compT G C elt tg one .no own ρ d (p :: R) = .ok (some y) (p' :: R)) ∧ Inv (i + 1) p' (acc ++ [y])) (h0 : Inv 0 p []) (hl : items.length ≤ line) :
    ∃ p' acc, (∀ ρ R, Pr ρ → cpM G C elt tg one .no own ρ ([], items) (p :: R) = .ok (.f acc) (p' :: R)) ∧ Inv items.length p' acc := by
  obtain ⟨p', acc, h, I⟩ := compGo_pot (f := fun ρ => compT G C elt tg one .no own ρ) Pr Inv hs items.length 0 p [] (by simp) (Nat.zero_le _) h0 (by simpa using hl)
  refine ⟨p', acc, fun ρ R hρ => ?_, I⟩
  have e := h ρ R hρ
  rw [List.drop_zero] at e
  unfold cpM
  show ((compGo [] _ (R.length + 1) items (p :: (R ++ [.lst []]))).nox.bind fun _ S2 => lastL (R.length + 1) S2) = _
  rw [e]
  simp only [Res.nox_ok, Res.bind_ok]
  exact lastL_app (p' :: R) acc
end Rf

set_option maxHeartbeats 4000000
namespace Rf.Law
open PySem PySem.Spec PyProof.Rows L2 Rf
def top (i : Nat) : Stmt := PySem.Challenge.pw_splitroads_k11_whole_ratios_and_flaws.main.body.getD i (.Pass ⟨0, 0, 0, 0⟩)
def cs : List D := [(.int 8), (.int 999)]
def cnames : List Str := ["MOST_TOWNS", "MOST_FAR"]
def b_law_pot : Ts := (.cons (.set 2 .rd (.ite (.cmp .Lt (.var 1) (.blt .len (.cons .rd (.var 0) .nil))) (.blt .abs (.cons .rd (.idx (.var 0) (.var 1)) .nil)) (.bin .Add (.bin .Mult (.lit (.int 727)) (.var 1)) (.lit (.int 977))))) (.cons (.set 3 .rd (.bin .Add (.bin .Mod (.blt .int (.cons .rd (.bin .Add (.bin .Add (.bin .Mult (.bin .Mod (.blt .int (.cons .rd (.var 2) .nil)) (.lit (.int 2147483549))) (.lit (.int 39373))) (.bin .Mult (.lit (.int 4259)) (.var 1))) (.lit (.int 157))) .nil)) (.lit (.int 2147483563))) (.lit (.int 1)))) (.cons (.ret (.lst (.cons .dat (.blt .max2 (.cons .rd (.lit (.int 0)) (.cons .rd (.bin .Sub (.var 2) (.bin .Pow (.lit (.int 10)) (.lit (.int 18)))) .nil))) (.cons .dat (.var 3) .nil)))) .nil)))
def m_law_pot : Mir := runD [] cs 2 4 b_law_pot
def b_law_draw : Ts := (.cons (.ite (.cmp .Gt (.idx (.var 0) (.lit (.int 0))) (.lit (.int 0))) (.cons (.set 2 .rd (.bin .Mod (.blt .int (.cons .rd (.idx (.var 0) (.lit (.int 0))) .nil)) (.var 1))) (.cons (.sub (.var 0) (.lit (.int 0)) (.bin .FloorDiv (.blt .int (.cons .rd (.idx (.var 0) (.lit (.int 0))) .nil)) (.var 1))) (.cons (.ret (.var 2)) .nil))) .nil) (.cons (.sub (.var 0) (.lit (.int 1)) (.bin .Mod (.blt .int (.cons .rd (.bin .Add (.bin .Mult (.idx (.var 0) (.lit (.int 1))) (.lit (.int 39373))) (.lit (.int 4259))) .nil)) (.lit (.int 2147483549)))) (.cons (.ret (.bin .Mod (.blt .int (.cons .rd (.bin .FloorDiv (.bin .Mod (.blt .int (.cons .rd (.bin .Mult (.idx (.var 0) (.lit (.int 1))) (.idx (.var 0) (.lit (.int 1)))) .nil)) (.lit (.int 2147483563))) (.lit (.int 19))) .nil)) (.var 1))) .nil)))
def m_law_draw : Mir := runD [] cs 2 3 b_law_draw
def b_law_pick : Ts := (.cons (.ret (.idx (.var 1) (.call 0 (.cons .cel (.var 0) (.cons .dat (.blt .len (.cons .rd (.var 1) .nil)) .nil))))) .nil)
def m_law_pick : Mir := runD [m_law_draw] cs 2 2 b_law_pick
def b_law_low : Ts := (.cons (.par [2, 3] (.cons .rd (.blt .abs (.cons .rd (.var 0) .nil)) (.cons .rd (.blt .abs (.cons .rd (.var 1) .nil)) .nil))) (.cons (.wh 100000000000000000000000000000000000000000000000000000000000000000000000000000000000000000000000000000000000000000000000000000000000000000000000000000000000000000000000000000000000000000000000000000000 (.cmp .Gt (.var 3) (.lit (.int 0))) (.cons (.par [2, 3] (.cons .rd (.var 3) (.cons .rd (.bin .Mod (.blt .int (.cons .rd (.var 2) .nil)) (.var 3)) .nil))) .nil)) (.cons (.set 4 .rd (.ite (.cmp .Gt (.var 1) (.lit (.int 0))) (.lit (.int 1)) (.neg (.lit (.int 1))))) (.cons (.ret (.tup (.cons .dat (.bin .FloorDiv (.bin .Mult (.var 4) (.var 0)) (.var 2)) (.cons .dat (.bin .FloorDiv (.blt .abs (.cons .rd (.var 1) .nil)) (.var 2)) .nil)))) .nil))))
def m_law_low : Mir := runD [] cs 2 5 b_law_low
def b_law_ratio : Ts := (.cons (.set 1 .rd (.bin .Mult (.call 0 (.cons .cel (.var 0) (.cons .dat (.call 1 (.cons .cel (.var 0) (.cons .dat (.lst (.cons .dat (.lit (.int 5)) (.cons .dat (.lit (.int 999)) (.cons .dat (.bin .Pow (.lit (.int 10)) (.lit (.int 12))) .nil)))) .nil))) .nil))) (.call 1 (.cons .cel (.var 0) (.cons .dat (.lst (.cons .dat (.lit (.int 1)) (.cons .dat (.lit (.int 1)) (.cons .dat (.neg (.lit (.int 1))) .nil)))) .nil))))) (.cons (.ret (.call 2 (.cons .dat (.var 1) (.cons .dat (.bin .Add (.lit (.int 1)) (.call 0 (.cons .cel (.var 0) (.cons .dat (.call 1 (.cons .cel (.var 0) (.cons .dat (.lst (.cons .dat (.lit (.int 2)) (.cons .dat (.lit (.int 9)) (.cons .dat (.bin .Pow (.lit (.int 10)) (.lit (.int 9))) .nil)))) .nil))) .nil)))) .nil)))) .nil))
def m_law_ratio : Mir := runD [m_law_draw, m_law_pick, m_law_low] cs 1 2 b_law_ratio
def b_is_integer : Ts := (.cons (.ret (.and (.isi (.var 0) [.int]) (.nt (.isi (.var 0) [.bool])))) .nil)
def m_is_integer : Mir := runD [] cs 1 1 b_is_integer
def b_is_ratio_basics : Ts := (.cons (.ite (.or (.nt (.isi (.var 0) [.tuple])) (.or (.cmp .NotEq (.blt .len (.cons .rd (.var 0) .nil)) (.lit (.int 2))) (.nt (.blt .all (.cons .rd (.comp (.call 0 (.cons .dat (.var 1) .nil)) [1] true (.seq (.var 0)) .no [1]) .nil))))) (.cons (.ret (.lit (.bl false))) .nil) .nil) (.cons (.ret (.and (.cmp .GtE (.idx (.var 0) (.lit (.int 1))) (.lit (.int 1))) (.cmp .Eq (.blt .gcd (.cons .rd (.idx (.var 0) (.lit (.int 0))) (.cons .rd (.idx (.var 0) (.lit (.int 1))) .nil))) (.lit (.int 1))))) .nil))
def m_is_ratio_basics : Mir := runD [m_is_integer] cs 1 2 b_is_ratio_basics
def b_check_both : Ts := (.cons (.ite (.nt (.call 0 (.cons .dat (.var 0) .nil))) (.cons .nev .nil) .nil) (.cons (.ite (.nt (.call 0 (.cons .dat (.var 1) .nil))) (.cons .nev .nil) .nil) .nil))
def m_check_both : Mir := runD [m_is_ratio_basics] cs 2 2 b_check_both
def b_made : Ts := (.cons (.set 2 .rd (.bin .Mult (.blt .gcd (.cons .rd (.var 0) (.cons .rd (.var 1) .nil))) (.ite (.cmp .Gt (.var 1) (.lit (.int 0))) (.lit (.int 1)) (.neg (.lit (.int 1)))))) (.cons (.ret (.tup (.cons .dat (.bin .FloorDiv (.var 0) (.var 2)) (.cons .dat (.bin .FloorDiv (.var 1) (.var 2)) .nil)))) .nil))
def m_made : Mir := runD [] cs 2 3 b_made
def b_r_plus : Ts := (.cons (.ret (.call 0 (.cons .dat (.bin .Add (.bin .Mult (.idx (.var 0) (.lit (.int 0))) (.idx (.var 1) (.lit (.int 1)))) (.bin .Mult (.idx (.var 1) (.lit (.int 0))) (.idx (.var 0) (.lit (.int 1))))) (.cons .dat (.bin .Mult (.idx (.var 0) (.lit (.int 1))) (.idx (.var 1) (.lit (.int 1)))) .nil)))) .nil)
def m_r_plus : Mir := runD [m_made] cs 2 2 b_r_plus
def b_plus : Ts := (.cons (.exp (.call 0 (.cons .dat (.var 0) (.cons .dat (.var 1) .nil)))) (.cons (.ret (.call 1 (.cons .dat (.var 0) (.cons .dat (.var 1) .nil)))) .nil))
def m_plus : Mir := runD [m_check_both, m_r_plus] cs 2 2 b_plus
def b_r_minus : Ts := (.cons (.ret (.call 0 (.cons .dat (.bin .Sub (.bin .Mult (.idx (.var 0) (.lit (.int 0))) (.idx (.var 1) (.lit (.int 1)))) (.bin .Mult (.idx (.var 1) (.lit (.int 0))) (.idx (.var 0) (.lit (.int 1))))) (.cons .dat (.bin .Mult (.idx (.var 0) (.lit (.int 1))) (.idx (.var 1) (.lit (.int 1)))) .nil)))) .nil)
def m_r_minus : Mir := runD [m_made] cs 2 2 b_r_minus
def b_minus : Ts := (.cons (.exp (.call 0 (.cons .dat (.var 0) (.cons .dat (.var 1) .nil)))) (.cons (.ret (.call 1 (.cons .dat (.var 0) (.cons .dat (.var 1) .nil)))) .nil))
def m_minus : Mir := runD [m_check_both, m_r_minus] cs 2 2 b_minus
def b_r_times : Ts := (.cons (.ret (.call 0 (.cons .dat (.bin .Mult (.idx (.var 0) (.lit (.int 0))) (.idx (.var 1) (.lit (.int 0)))) (.cons .dat (.bin .Mult (.idx (.var 0) (.lit (.int 1))) (.idx (.var 1) (.lit (.int 1)))) .nil)))) .nil)
def m_r_times : Mir := runD [m_made] cs 2 2 b_r_times
def b_times : Ts := (.cons (.exp (.call 0 (.cons .dat (.var 0) (.cons .dat (.var 1) .nil)))) (.cons (.ret (.call 1 (.cons .dat (.var 0) (.cons .dat (.var 1) .nil)))) .nil))
def m_times : Mir := runD [m_check_both, m_r_times] cs 2 2 b_times
def b_r_less : Ts := (.cons (.ret (.cmp .Lt (.bin .Mult (.idx (.var 0) (.lit (.int 0))) (.idx (.var 1) (.lit (.int 1)))) (.bin .Mult (.idx (.var 1) (.lit (.int 0))) (.idx (.var 0) (.lit (.int 1)))))) .nil)
def m_r_less : Mir := runD [] cs 2 2 b_r_less
def b_is_below : Ts := (.cons (.exp (.call 0 (.cons .dat (.var 0) (.cons .dat (.var 1) .nil)))) (.cons (.ret (.call 1 (.cons .dat (.var 0) (.cons .dat (.var 1) .nil)))) .nil))
def m_is_below : Mir := runD [m_check_both, m_r_less] cs 2 2 b_is_below
def b_r_over : Ts := (.cons (.ret (.call 0 (.cons .dat (.bin .Mult (.idx (.var 0) (.lit (.int 0))) (.idx (.var 1) (.lit (.int 1)))) (.cons .dat (.bin .Mult (.idx (.var 0) (.lit (.int 1))) (.idx (.var 1) (.lit (.int 0)))) .nil)))) .nil)
def m_r_over : Mir := runD [m_made] cs 2 2 b_r_over
def b_over : Ts := (.cons (.exp (.call 0 (.cons .dat (.var 0) (.cons .dat (.var 1) .nil)))) (.cons (.ite (.cmp .Eq (.idx (.var 1) (.lit (.int 0))) (.lit (.int 0))) (.cons .nev .nil) .nil) (.cons (.ret (.call 1 (.cons .dat (.var 0) (.cons .dat (.var 1) .nil)))) .nil)))
def m_over : Mir := runD [m_check_both, m_r_over] cs 2 2 b_over
def b_ratio : Ts := (.cons (.ite (.nt (.call 0 (.cons .dat (.var 0) .nil))) (.cons .nev .nil) .nil) (.cons (.ite (.or (.nt (.call 0 (.cons .dat (.var 1) .nil))) (.cmp .Eq (.var 1) (.lit (.int 0)))) (.cons .nev .nil) .nil) (.cons (.ret (.call 1 (.cons .dat (.var 0) (.cons .dat (.var 1) .nil)))) .nil)))
def m_ratio : Mir := runD [m_is_integer, m_made] cs 2 2 b_ratio
def b_is_list : Ts := (.cons (.ret (.isi (.var 0) [.list, .tuple])) .nil)
def m_is_list : Mir := runD [] cs 1 1 b_is_list
def b_check_numbers : Ts := (.cons (.ite (.or (.nt (.call 0 (.cons .dat (.var 0) .nil))) (.or (.cmp .Eq (.blt .len (.cons .rd (.var 0) .nil)) (.lit (.int 0))) (.nt (.blt .all (.cons .rd (.comp (.call 1 (.cons .dat (.var 1) .nil)) [1] true (.seq (.var 0)) .no [1]) .nil))))) (.cons .nev .nil) .nil) .nil)
def m_check_numbers : Mir := runD [m_is_list, m_is_ratio_basics] cs 1 2 b_check_numbers
def b_common : Ts := (.cons (.set 1 .rd (.lit (.int 1))) (.cons (.fr [2, 3] false (.seq (.var 0)) (.cons (.set 1 .rd (.bin .Mult (.bin .FloorDiv (.var 1) (.blt .gcd (.cons .rd (.var 1) (.cons .rd (.var 3) .nil)))) (.var 3))) .nil)) (.cons (.ret (.var 1)) .nil)))
def m_common : Mir := runD [] cs 1 4 b_common
def b_r_total : Ts := (.cons (.set 1 .rd (.call 0 (.cons .dat (.var 0) .nil))) (.cons (.ret (.call 1 (.cons .dat (.blt .sum (.cons .rd (.comp (.bin .Mult (.var 2) (.bin .FloorDiv (.var 1) (.var 3))) [2, 3] false (.seq (.var 0)) .no [2, 3]) .nil)) (.cons .dat (.var 1) .nil)))) .nil))
def m_r_total : Mir := runD [m_common, m_made] cs 1 4 b_r_total
def b_total : Ts := (.cons (.exp (.call 0 (.cons .dat (.var 0) .nil))) (.cons (.ret (.call 1 (.cons .dat (.var 0) .nil))) .nil))
def m_total : Mir := runD [m_check_numbers, m_r_total] cs 1 1 b_total
def b_least : Ts := (.cons (.exp (.call 0 (.cons .dat (.var 0) .nil))) (.cons (.set 1 .rd (.idx (.var 0) (.lit (.int 0)))) (.cons (.fr [2] true (.seq (.var 0)) (.cons (.set 1 .rd (.ite (.call 1 (.cons .dat (.var 2) (.cons .dat (.var 1) .nil))) (.var 2) (.var 1))) .nil)) (.cons (.ret (.var 1)) .nil))))
def m_least : Mir := runD [m_check_numbers, m_r_less] cs 1 3 b_least
def b_greatest : Ts := (.cons (.exp (.call 0 (.cons .dat (.var 0) .nil))) (.cons (.set 1 .rd (.idx (.var 0) (.lit (.int 0)))) (.cons (.fr [2] true (.seq (.var 0)) (.cons (.set 1 .rd (.ite (.call 1 (.cons .dat (.var 1) (.cons .dat (.var 2) .nil))) (.var 2) (.var 1))) .nil)) (.cons (.ret (.var 1)) .nil))))
def m_greatest : Mir := runD [m_check_numbers, m_r_less] cs 1 3 b_greatest
def b_law_is_int : Ts := (.cons (.ret (.and (.isi (.var 0) [.int]) (.nt (.isi (.var 0) [.bool])))) .nil)
def m_law_is_int : Mir := runD [] cs 1 1 b_law_is_int
def b_law_is_ratio : Ts := (.cons (.ite (.or (.nt (.isi (.var 0) [.tuple])) (.or (.cmp .NotEq (.blt .len (.cons .rd (.var 0) .nil)) (.lit (.int 2))) (.or (.nt (.blt .all (.cons .rd (.comp (.call 0 (.cons .dat (.var 1) .nil)) [1] true (.seq (.var 0)) .no [1]) .nil))) (.cmp .Lt (.idx (.var 0) (.lit (.int 1))) (.lit (.int 1)))))) (.cons (.ret (.lit (.bl false))) .nil) .nil) (.cons (.ret (.cmp .Eq (.call 1 (.cons .dat (.idx (.var 0) (.lit (.int 0))) (.cons .dat (.idx (.var 0) (.lit (.int 1))) .nil))) (.var 0))) .nil))
def m_law_is_ratio : Mir := runD [m_law_is_int, m_law_low] cs 1 2 b_law_is_ratio
def b_is_ratio_ratios : Ts := (.cons (.ret (.call 0 (.cons .dat (.var 0) .nil))) .nil)
def m_is_ratio_ratios : Mir := runD [m_is_ratio_basics] cs 1 1 b_is_ratio_ratios
def b_law_numbers_right : Ts := (.cons (.par [1, 2] (.cons .rd (.call 0 (.cons .cel (.var 0) .nil)) (.cons .rd (.call 0 (.cons .cel (.var 0) .nil)) .nil))) (.cons (.set 3 .rd (.bin .Sub (.bin .Mult (.idx (.var 1) (.lit (.int 0))) (.idx (.var 2) (.lit (.int 1)))) (.bin .Mult (.idx (.var 2) (.lit (.int 0))) (.idx (.var 1) (.lit (.int 1)))))) (.cons (.set 4 .rd (.lst (.cons .dat (.call 1 (.cons .dat (.bin .Add (.bin .Mult (.idx (.var 1) (.lit (.int 0))) (.idx (.var 2) (.lit (.int 1)))) (.bin .Mult (.idx (.var 2) (.lit (.int 0))) (.idx (.var 1) (.lit (.int 1))))) (.cons .dat (.bin .Mult (.idx (.var 1) (.lit (.int 1))) (.idx (.var 2) (.lit (.int 1)))) .nil))) (.cons .dat (.call 1 (.cons .dat (.var 3) (.cons .dat (.bin .Mult (.idx (.var 1) (.lit (.int 1))) (.idx (.var 2) (.lit (.int 1)))) .nil))) (.cons .dat (.call 1 (.cons .dat (.bin .Mult (.idx (.var 1) (.lit (.int 0))) (.idx (.var 2) (.lit (.int 0)))) (.cons .dat (.bin .Mult (.idx (.var 1) (.lit (.int 1))) (.idx (.var 2) (.lit (.int 1)))) .nil))) (.cons .dat (.cmp .Lt (.var 3) (.lit (.int 0))) .nil)))))) (.cons (.set 5 .rd (.lst (.cons .dat (.call 2 (.cons .dat (.var 1) (.cons .dat (.var 2) .nil))) (.cons .dat (.call 3 (.cons .dat (.var 1) (.cons .dat (.var 2) .nil))) (.cons .dat (.call 4 (.cons .dat (.var 1) (.cons .dat (.var 2) .nil))) (.cons .dat (.call 5 (.cons .dat (.var 1) (.cons .dat (.var 2) .nil))) .nil)))))) (.cons (.ite (.or (.cmp .NotEq (.blt .repr (.cons .rd (.var 5) .nil)) (.blt .repr (.cons .rd (.var 4) .nil))) (.cmp .NotEq (.blt .repr (.cons .rd (.lst (.cons .dat (.kall 2 .nil (.cons .dat (.var 2) (.cons .dat (.var 1) .nil)) [1, 0]) (.cons .dat (.kall 3 .nil (.cons .dat (.var 2) (.cons .dat (.var 1) .nil)) [1, 0]) (.cons .dat (.kall 4 .nil (.cons .dat (.var 2) (.cons .dat (.var 1) .nil)) [1, 0]) (.cons .dat (.kall 5 .nil (.cons .dat (.var 2) (.cons .dat (.var 1) .nil)) [1, 0]) .nil))))) .nil)) (.blt .repr (.cons .rd (.var 4) .nil)))) (.cons (.ret (.lit (.bl false))) .nil) .nil) (.cons (.ite (.and (.cmp .NotEq (.idx (.var 2) (.lit (.int 0))) (.lit (.int 0))) (.cmp .NotEq (.blt .repr (.cons .rd (.lst (.cons .dat (.call 6 (.cons .dat (.var 1) (.cons .dat (.var 2) .nil))) (.cons .dat (.kall 6 .nil (.cons .dat (.var 2) (.cons .dat (.var 1) .nil)) [1, 0]) .nil))) .nil)) (.blt .repr (.cons .rd (.bin .Mult (.lst (.cons .dat (.call 1 (.cons .dat (.bin .Mult (.idx (.var 1) (.lit (.int 0))) (.idx (.var 2) (.lit (.int 1)))) (.cons .dat (.bin .Mult (.idx (.var 1) (.lit (.int 1))) (.idx (.var 2) (.lit (.int 0)))) .nil))) .nil)) (.lit (.int 2))) .nil)))) (.cons (.ret (.lit (.bl false))) .nil) .nil) (.cons (.par [6, 7] (.cons .rd (.bin .Sub (.call 8 (.cons .cel (.var 0) (.cons .dat (.lit (.int 999)) .nil))) (.lit (.int 500))) (.cons .rd (.call 7 (.cons .cel (.var 0) (.cons .dat (.lst (.cons .dat (.lit (.int 1)) (.cons .dat (.neg (.lit (.int 1))) (.cons .dat (.lit (.int 7)) (.cons .dat (.neg (.lit (.int 12))) (.cons .dat (.lit (.int 360)) .nil)))))) .nil))) .nil))) (.cons (.ite (.cmp .NotEq (.blt .repr (.cons .rd (.lst (.cons .dat (.call 9 (.cons .dat (.var 6) (.cons .dat (.var 7) .nil))) (.cons .dat (.kall 9 .nil (.cons .dat (.var 7) (.cons .dat (.var 6) .nil)) [1, 0]) .nil))) .nil)) (.blt .repr (.cons .rd (.bin .Mult (.lst (.cons .dat (.call 1 (.cons .dat (.var 6) (.cons .dat (.var 7) .nil))) .nil)) (.lit (.int 2))) .nil))) (.cons (.ret (.lit (.bl false))) .nil) .nil) (.cons (.set 8 .rd (.comp (.call 0 (.cons .cel (.var 0) .nil)) [16] true (.rng (.cons .rd (.bin .Add (.lit (.int 1)) (.call 8 (.cons .cel (.var 0) (.cons .dat (.lit (.int 6)) .nil)))) .nil)) .no [16])) (.cons (.par [9, 10, 11, 12] (.cons .rd (.blt .repr (.cons .rd (.var 8) .nil)) (.cons .rd (.tup (.cons .dat (.lit (.int 0)) (.cons .dat (.lit (.int 1)) .nil))) (.cons .rd (.idx (.var 8) (.lit (.int 0))) (.cons .rd (.idx (.var 8) (.lit (.int 0))) .nil))))) (.cons (.fr [13] true (.seq (.var 8)) (.cons (.set 10 .rd (.call 1 (.cons .dat (.bin .Add (.bin .Mult (.idx (.var 10) (.lit (.int 0))) (.idx (.var 13) (.lit (.int 1)))) (.bin .Mult (.idx (.var 13) (.lit (.int 0))) (.idx (.var 10) (.lit (.int 1))))) (.cons .dat (.bin .Mult (.idx (.var 10) (.lit (.int 1))) (.idx (.var 13) (.lit (.int 1)))) .nil)))) (.cons (.set 11 .rd (.ite (.cmp .Lt (.bin .Mult (.idx (.var 13) (.lit (.int 0))) (.idx (.var 11) (.lit (.int 1)))) (.bin .Mult (.idx (.var 11) (.lit (.int 0))) (.idx (.var 13) (.lit (.int 1))))) (.var 13) (.var 11))) (.cons (.set 12 .rd (.ite (.cmp .Gt (.bin .Mult (.idx (.var 13) (.lit (.int 0))) (.idx (.var 12) (.lit (.int 1)))) (.bin .Mult (.idx (.var 12) (.lit (.int 0))) (.idx (.var 13) (.lit (.int 1))))) (.var 13) (.var 12))) .nil)))) (.cons (.ite (.cmp .NotEq (.blt .repr (.cons .rd (.lst (.cons .dat (.call 10 (.cons .dat (.var 8) .nil)) (.cons .dat (.call 11 (.cons .dat (.var 8) .nil)) (.cons .dat (.call 12 (.cons .dat (.blt .tuple (.cons .rd (.var 8) .nil)) .nil)) (.cons .dat (.kall 10 .nil (.cons .dat (.var 8) .nil) [0]) (.cons .dat (.kall 11 .nil (.cons .dat (.var 8) .nil) [0]) (.cons .dat (.kall 12 .nil (.cons .dat (.var 8) .nil) [0]) .nil))))))) .nil)) (.blt .repr (.cons .rd (.bin .Mult (.lst (.cons .dat (.var 10) (.cons .dat (.var 11) (.cons .dat (.var 12) .nil)))) (.lit (.int 2))) .nil))) (.cons (.ret (.lit (.bl false))) .nil) .nil) (.cons (.fr [14] true (.seq (.lst (.cons .dat (.var 1) (.cons .dat (.blt .list (.cons .rd (.var 1) .nil)) (.cons .dat (.bin .Add (.var 1) (.tup (.cons .dat (.lit (.int 1)) .nil))) (.cons .dat (.sl (.var 1) .no (.yes (.lit (.int 1)))) (.cons .dat (.tup (.cons .dat (.bin .Mult (.idx (.var 1) (.lit (.int 0))) (.lit (.int 2))) (.cons .dat (.bin .Mult (.idx (.var 1) (.lit (.int 1))) (.lit (.int 2))) .nil))) (.cons .dat (.tup (.cons .dat (.idx (.var 1) (.lit (.int 0))) (.cons .dat (.lit (.int 0)) .nil))) (.cons .dat (.tup (.cons .dat (.idx (.var 1) (.lit (.int 0))) (.cons .dat (.bin .Sub (.lit (.int 0)) (.idx (.var 1) (.lit (.int 1)))) .nil))) (.cons .dat (.tup (.cons .dat (.lit (.bl true)) (.cons .dat (.lit (.int 1)) .nil))) (.cons .dat (.tup (.cons .dat (.lit (.int 1)) (.cons .dat (.lit (.bl true)) .nil))) (.cons .dat (.lit .non) (.cons .dat (.lit (.int 0)) (.cons .dat (.lit (.str (Str.ofString "1"))) .nil)))))))))))))) (.cons (.set 15 .rd (.call 13 (.cons .dat (.var 14) .nil))) (.cons (.ite (.cmp .NotEq (.blt .repr (.cons .rd (.lst (.cons .dat (.call 14 (.cons .dat (.var 14) .nil)) (.cons .dat (.kall 14 .nil (.cons .dat (.var 14) .nil) [0]) .nil))) .nil)) (.blt .repr (.cons .rd (.lst (.cons .dat (.var 15) (.cons .dat (.var 15) .nil))) .nil))) (.cons (.ret (.lit (.bl false))) .nil) .nil) .nil))) (.cons (.ret (.cmp .Eq (.blt .repr (.cons .rd (.var 8) .nil)) (.var 9))) .nil))))))))))))))
def m_law_numbers_right : Mir := runD [m_law_ratio, m_law_low, m_plus, m_minus, m_times, m_is_below, m_over, m_law_pick, m_law_draw, m_ratio, m_total, m_least, m_greatest, m_law_is_ratio, m_is_ratio_ratios] cs 1 17 b_law_numbers_right
def b_law_any : Ts := (.cons (.set 3 .cel (.lst .nil)) (.cons (.fr [4] true (.rng (.cons .rd (.lit (.int 1)) (.cons .rd (.var 1) .nil))) (.cons (.app 3 (.blt .tuple (.cons .rd (.comp (.call 0 (.cons .cel (.var 0) (.cons .dat (.bin .Add (.var 2) (.lit (.int 1))) .nil))) [5] true (.rng (.cons .rd (.var 4) .nil)) .no [5]) .nil))) .nil)) (.cons (.ret (.tup (.cons .dat (.lit (.str (Str.ofString "table"))) (.cons .dat (.blt .tuple (.cons .rd (.var 3) .nil)) .nil)))) .nil)))
def m_law_any : Mir := runD [m_law_draw] cs 3 6 b_law_any
def b_law_bent : Ts := (.cons (.ite (.isi (.var 1) [.str]) (.cons (.ret (.call 0 (.cons .cel (.var 0) (.cons .dat (.lst (.cons .dat (.lit (.str (Str.ofString "Table"))) (.cons .dat (.lit (.str (Str.ofString ""))) (.cons .dat (.lit .non) (.cons .dat (.lit (.str (Str.ofString "tables"))) .nil))))) .nil)))) .nil) .nil) (.cons (.ite (.nt (.isi (.var 1) [.list, .tuple])) (.cons (.ret (.call 0 (.cons .cel (.var 0) (.cons .dat (.lst (.cons .dat (.lit (.int 0)) (.cons .dat (.lit (.int 1)) (.cons .dat (.lit (.int 999)) (.cons .dat (.lit (.int 1000)) (.cons .dat (.neg (.lit (.int 1))) (.cons .dat (.lit .non) (.cons .dat (.lit (.bl true)) (.cons .dat (.lit (.str (Str.ofString "1"))) (.cons .dat (.tup (.cons .dat (.lit (.int 1)) (.cons .dat (.lit (.int 2)) .nil))) .nil)))))))))) .nil)))) .nil) .nil) (.cons (.ite (.or (.cmp .Eq (.blt .len (.cons .rd (.var 1) .nil)) (.lit (.int 0))) (.cmp .Eq (.call 1 (.cons .cel (.var 0) (.cons .dat (.lit (.int 5)) .nil))) (.lit (.int 0)))) (.cons (.ret (.call 0 (.cons .cel (.var 0) (.cons .dat (.lst (.cons .dat (.blt .list (.cons .rd (.var 1) .nil)) (.cons .dat (.sl (.var 1) .no (.yes (.neg (.lit (.int 1))))) (.cons .dat (.bin .Add (.var 1) (.sl (.var 1) (.yes (.neg (.lit (.int 1)))) .no)) (.cons .dat (.rev (.var 1)) (.cons .dat (.lit .non) (.cons .dat (.tup .nil) (.cons .dat (.sl (.var 1) (.yes (.lit (.int 1))) .no) .nil)))))))) .nil)))) .nil) .nil) (.cons (.set 2 .rd (.call 1 (.cons .cel (.var 0) (.cons .dat (.blt .len (.cons .rd (.var 1) .nil)) .nil)))) (.cons (.set 3 .rd (.call 2 (.cons .cel (.var 0) (.cons .dat (.idx (.var 1) (.var 2)) .nil)))) (.cons (.ret (.bin .Add (.bin .Add (.sl (.var 1) .no (.yes (.var 2))) (.ite (.isi (.var 1) [.tuple]) (.tup (.cons .dat (.var 3) .nil)) (.lst (.cons .dat (.var 3) .nil)))) (.sl (.var 1) (.yes (.bin .Add (.var 2) (.lit (.int 1)))) .no))) .nil))))))
def m_law_bent : Nat → Mir
  | 0 => fun _ _ => .stuck
  | n + 1 => runD [m_law_pick, m_law_draw, (m_law_bent n)] cs 2 4 b_law_bent
def b_law_flaw : Ts := (.cons (.ite (.or (.nt (.isi (.var 0) [.tuple])) (.or (.cmp .NotEq (.blt .len (.cons .rd (.var 0) .nil)) (.lit (.int 2))) (.or (.nt (.isi (.idx (.var 0) (.lit (.int 0))) [.str])) (.cmp .NotEq (.idx (.var 0) (.lit (.int 0))) (.lit (.str (Str.ofString "table"))))))) (.cons (.ret (.lit (.str (Str.ofString "form")))) .nil) .nil) (.cons (.ite (.or (.nt (.isi (.idx (.var 0) (.lit (.int 1))) [.tuple])) (.nt (.ch2 .LtE .LtE (.lit (.int 1)) (.blt .len (.cons .rd (.idx (.var 0) (.lit (.int 1))) .nil)) (.lit (.int 7))))) (.cons (.ret (.lit (.str (Str.ofString "rows")))) .nil) .nil) (.cons (.fr [1, 2] false (.enum (.idx (.var 0) (.lit (.int 1)))) (.cons (.ite (.or (.nt (.isi (.var 2) [.tuple])) (.cmp .NotEq (.blt .len (.cons .rd (.var 2) .nil)) (.bin .Add (.var 1) (.lit (.int 1))))) (.cons (.ret (.lit (.str (Str.ofString "rows")))) .nil) .nil) .nil)) (.cons (.fr [2] true (.seq (.idx (.var 0) (.lit (.int 1)))) (.cons (.ite (.nt (.blt .all (.cons .rd (.comp (.and (.call 0 (.cons .dat (.var 3) .nil)) (.ch2 .LtE .LtE (.lit (.int 0)) (.var 3) (.lit (.int 999)))) [3] true (.seq (.var 2)) .no [3]) .nil))) (.cons (.ret (.lit (.str (Str.ofString "numbers")))) .nil) .nil) .nil)) (.cons (.ret (.lit .non)) .nil)))))
def m_law_flaw : Mir := runD [m_law_is_int] cs 1 4 b_law_flaw
def b_sizes_are_right : Ts := (.cons (.ret (.and (.ch2 .LtE .Lt (.lit (.int 1)) (.blt .len (.cons .rd (.var 0) .nil)) (.con 0)) (.blt .all (.cons .rd (.comp (.cmp .Eq (.blt .len (.cons .rd (.var 2) .nil)) (.bin .Add (.var 1) (.lit (.int 1)))) [1, 2] false (.enum (.var 0)) .no [1, 2]) .nil)))) .nil)
def m_sizes_are_right : Mir := runD [] cs 1 3 b_sizes_are_right
def b_is_count : Ts := (.cons (.ret (.and (.call 0 (.cons .dat (.var 0) .nil)) (.cmp .GtE (.var 0) (.lit (.int 0))))) .nil)
def m_is_count : Mir := runD [m_is_integer] cs 1 1 b_is_count
def b_flaw_of : Ts := (.cons (.ite (.or (.nt (.isi (.var 0) [.tuple])) (.or (.cmp .NotEq (.blt .len (.cons .rd (.var 0) .nil)) (.lit (.int 2))) (.or (.nt (.isi (.idx (.var 0) (.lit (.int 0))) [.str])) (.cmp .NotEq (.idx (.var 0) (.lit (.int 0))) (.lit (.str (Str.ofString "table"))))))) (.cons (.ret (.lit (.str (Str.ofString "form")))) .nil) .nil) (.cons (.ite (.or (.nt (.isi (.idx (.var 0) (.lit (.int 1))) [.tuple])) (.nt (.blt .all (.cons .rd (.comp (.isi (.var 1) [.tuple]) [1] true (.seq (.idx (.var 0) (.lit (.int 1)))) .no [1]) .nil)))) (.cons (.ret (.lit (.str (Str.ofString "rows")))) .nil) .nil) (.cons (.ite (.nt (.call 0 (.cons .dat (.idx (.var 0) (.lit (.int 1))) .nil))) (.cons (.ret (.lit (.str (Str.ofString "rows")))) .nil) .nil) (.cons (.fr [1] true (.seq (.idx (.var 0) (.lit (.int 1)))) (.cons (.ite (.nt (.blt .all (.cons .rd (.comp (.and (.call 1 (.cons .dat (.var 2) .nil)) (.cmp .LtE (.var 2) (.con 1))) [2] true (.seq (.var 1)) .no [2]) .nil))) (.cons (.ret (.lit (.str (Str.ofString "numbers")))) .nil) .nil) .nil)) (.cons (.ret (.lit .non)) .nil)))))
def m_flaw_of : Mir := runD [m_sizes_are_right, m_is_count] cs 1 3 b_flaw_of
def b_flaw : Ts := (.cons (.ret (.call 0 (.cons .dat (.var 0) .nil))) .nil)
def m_flaw : Mir := runD [m_flaw_of] cs 1 1 b_flaw
def b_table_is_right : Ts := (.cons (.ret (.cmp .Is (.call 0 (.cons .dat (.var 0) .nil)) (.lit .non))) .nil)
def m_table_is_right : Mir := runD [m_flaw_of] cs 1 1 b_table_is_right
def b_is_table : Ts := (.cons (.ret (.call 0 (.cons .dat (.var 0) .nil))) .nil)
def m_is_table : Mir := runD [m_table_is_right] cs 1 1 b_is_table
def b_law_flaws_right : Ts := (.cons (.set 1 .rd (.call 0 (.cons .cel (.var 0) (.cons .dat (.bin .Add (.lit (.int 2)) (.call 1 (.cons .cel (.var 0) (.cons .dat (.lit (.int 7)) .nil)))) (.cons .dat (.lit (.int 999)) .nil))))) (.cons (.set 2 .rd (.lst (.cons .dat (.var 1) (.cons .dat (.blt .list (.cons .rd (.var 1) .nil)) (.cons .dat (.bin .Add (.var 1) (.tup (.cons .dat (.lit (.int 0)) .nil))) (.cons .dat (.idx (.var 1) (.lit (.int 1))) (.cons .dat (.tup (.cons .dat (.lit (.str (Str.ofString "table"))) (.cons .dat (.tup .nil) .nil))) (.cons .dat (.tup (.cons .dat (.lit (.str (Str.ofString "table"))) (.cons .dat (.bin .Add (.idx (.var 1) (.lit (.int 1))) (.sl (.idx (.var 1) (.lit (.int 1))) (.yes (.neg (.lit (.int 1)))) .no)) .nil))) (.cons .dat (.tup (.cons .dat (.lit (.str (Str.ofString "table"))) (.cons .dat (.lst (.cons .dat (.tup (.cons .dat (.lit (.int 1)) .nil)) .nil)) .nil))) (.cons .dat (.lit .non) (.cons .dat (.lit (.int 0)) (.cons .dat (.lit (.str (Str.ofString "table"))) (.cons .dat (.tup .nil) .nil))))))))))))) (.cons (.fr [3] true (.seq (.bin .Add (.var 2) (.comp (.call 2 (.cons .cel (.var 0) (.cons .dat (.var 1) .nil))) [6] true (.rng (.cons .rd (.lit (.int 14)) .nil)) .no [6]))) (.cons (.par [4, 5] (.cons .rd (.call 3 (.cons .dat (.var 3) .nil)) (.cons .rd (.blt .repr (.cons .rd (.var 3) .nil)) .nil))) (.cons (.ite (.or (.cmp .NotEq (.blt .repr (.cons .rd (.lst (.cons .dat (.call 4 (.cons .dat (.var 3) .nil)) (.cons .dat (.kall 4 .nil (.cons .dat (.var 3) .nil) [0]) (.cons .dat (.call 5 (.cons .dat (.var 3) .nil)) (.cons .dat (.kall 5 .nil (.cons .dat (.var 3) .nil) [0]) .nil))))) .nil)) (.blt .repr (.cons .rd (.lst (.cons .dat (.var 4) (.cons .dat (.var 4) (.cons .dat (.cmp .Is (.var 4) (.lit .non)) (.cons .dat (.cmp .Is (.var 4) (.lit .non)) .nil))))) .nil))) (.cmp .NotEq (.blt .repr (.cons .rd (.var 3) .nil)) (.var 5))) (.cons (.ret (.lit (.bl false))) .nil) .nil) .nil))) (.cons (.ret (.lit (.bl true))) .nil))))
def m_law_flaws_right : Mir := runD [m_law_any, m_law_draw, (m_law_bent 40), m_law_flaw, m_flaw, m_is_table] cs 1 7 b_law_flaws_right
def b_law : Ts := (.cons (.set 1 .cel (.call 0 (.cons .dat (.var 0) (.cons .dat (.lit (.int 0)) .nil)))) (.cons (.ret (.and (.blt .all (.cons .rd (.comp (.call 1 (.cons .cel (.var 1) .nil)) [2] true (.rng (.cons .rd (.lit (.int 5)) .nil)) .no [2]) .nil)) (.blt .all (.cons .rd (.comp (.call 2 (.cons .cel (.var 1) .nil)) [2] true (.rng (.cons .rd (.lit (.int 5)) .nil)) .no [2]) .nil)))) .nil))
def m_law : Mir := runD [m_law_pot, m_law_numbers_right, m_law_flaws_right] cs 1 3 b_law
section
variable {P : Program} {w : World} {K : PySem.W.Frag} {mg : Str → Option Value} {base : Heap} {CX : CXT}
theorem sc_law_pot : FnScope ["script", "k", "cell", "mixed"] ["script", "k"] (defScope (top 45)) := ⟨rfl, rfl, rfl, by decide +kernel, rfl, by decide +kernel, by decide +kernel⟩
theorem ck_law_pot : chkTs (Ct.main ["script", "k", "cell", "mixed"] (defScope (top 45)) [] [] cnames true) b_law_pot (defBody (top 45)) = true := by decide +kernel
theorem ok_law_pot {f : Addr} {fd : FuncData} (tc : TopC mg K cnames cs true) (cx : CxOk P w K mg base CX) (F : Fun K "_law_pot" "_law_pot" (top 45) f fd)  : FnG P w K mg base CX 1 f fd ["script", "k"] (spOf K mg 2 m_law_pot) :=
  fnAt_mk (k := 0) F sc_law_pot tc cx (.nil) ck_law_pot rfl rfl
theorem sc_law_draw : FnScope ["pot", "many", "digit"] ["pot", "many"] (defScope (top 46)) := ⟨rfl, rfl, rfl, by decide +kernel, rfl, by decide +kernel, by decide +kernel⟩
theorem ck_law_draw : chkTs (Ct.main ["pot", "many", "digit"] (defScope (top 46)) [] [] cnames true) b_law_draw (defBody (top 46)) = true := by decide +kernel
theorem ok_law_draw {f : Addr} {fd : FuncData} (tc : TopC mg K cnames cs true) (cx : CxOk P w K mg base CX) (F : Fun K "_law_draw" "_law_draw" (top 46) f fd)  : FnG P w K mg base CX 1 f fd ["pot", "many"] (spOf K mg 2 m_law_draw) :=
  fnAt_mk (k := 0) F sc_law_draw tc cx (.nil) ck_law_draw rfl rfl
theorem sc_law_pick : FnScope ["pot", "some"] ["pot", "some"] (defScope (top 47)) := ⟨rfl, rfl, rfl, by decide +kernel, rfl, by decide +kernel, by decide +kernel⟩
theorem ck_law_pick : chkTs (Ct.main ["pot", "some"] (defScope (top 47)) [("_law_draw", ["pot", "many"])] [[]] cnames true) b_law_pick (defBody (top 47)) = true := by decide +kernel
theorem ok_law_pick {f : Addr} {fd : FuncData} (tc : TopC mg K cnames cs true) (cx : CxOk P w K mg base CX) (F : Fun K "_law_pick" "_law_pick" (top 47) f fd) (c0 : FnAt P w K mg base CX 1 "_law_draw" ["pot", "many"] [] m_law_draw) : FnG P w K mg base CX 2 f fd ["pot", "some"] (spOf K mg 2 m_law_pick) :=
  fnAt_mk (k := 1) F sc_law_pick tc cx (.cons (c0.mono (by decide)) .nil) ck_law_pick rfl rfl
theorem sc_law_low : FnScope ["top", "bottom", "one", "other", "sign"] ["top", "bottom"] (defScope (top 57)) := ⟨rfl, rfl, rfl, by decide +kernel, rfl, by decide +kernel, by decide +kernel⟩
theorem ck_law_low : chkTs (Ct.main ["top", "bottom", "one", "other", "sign"] (defScope (top 57)) [] [] cnames true) b_law_low (defBody (top 57)) = true := by decide +kernel
theorem ok_law_low {f : Addr} {fd : FuncData} (tc : TopC mg K cnames cs true) (cx : CxOk P w K mg base CX) (F : Fun K "_law_low" "_law_low" (top 57) f fd)  : FnG P w K mg base CX 1 f fd ["top", "bottom"] (spOf K mg 2 m_law_low) :=
  fnAt_mk (k := 0) F sc_law_low tc cx (.nil) ck_law_low rfl rfl
theorem sc_law_ratio : FnScope ["pot", "top"] ["pot"] (defScope (top 58)) := ⟨rfl, rfl, rfl, by decide +kernel, rfl, by decide +kernel, by decide +kernel⟩
theorem ck_law_ratio : chkTs (Ct.main ["pot", "top"] (defScope (top 58)) [("_law_draw", ["pot", "many"]), ("_law_pick", ["pot", "some"]), ("_law_low", ["top", "bottom"])] [[], [], []] cnames true) b_law_ratio (defBody (top 58)) = true := by decide +kernel
theorem ok_law_ratio {f : Addr} {fd : FuncData} (tc : TopC mg K cnames cs true) (cx : CxOk P w K mg base CX) (F : Fun K "_law_ratio" "_law_ratio" (top 58) f fd) (c0 : FnAt P w K mg base CX 1 "_law_draw" ["pot", "many"] [] m_law_draw) (c1 : FnAt P w K mg base CX 2 "_law_pick" ["pot", "some"] [] m_law_pick) (c2 : FnAt P w K mg base CX 1 "_law_low" ["top", "bottom"] [] m_law_low) : FnG P w K mg base CX 3 f fd ["pot"] (spOf K mg 1 m_law_ratio) :=
  fnAt_mk (k := 2) F sc_law_ratio tc cx (.cons (c0.mono (by decide)) (.cons (c1.mono (by decide)) (.cons (c2.mono (by decide)) .nil))) ck_law_ratio rfl rfl
theorem sc_is_integer : FnScope ["value"] ["value"] (defScope (top 3)) := ⟨rfl, rfl, rfl, by decide +kernel, rfl, by decide +kernel, by decide +kernel⟩
theorem ck_is_integer : chkTs (Ct.main ["value"] (defScope (top 3)) [] [] cnames true) b_is_integer (defBody (top 3)) = true := by decide +kernel
theorem ok_is_integer {f : Addr} {fd : FuncData} (tc : TopC mg K cnames cs true) (cx : CxOk P w K mg base CX) (F : Fun K "is_integer" "is_integer" (top 3) f fd)  : FnG P w K mg base CX 1 f fd ["value"] (spOf K mg 1 m_is_integer) :=
  fnAt_mk (k := 0) F sc_is_integer tc cx (.nil) ck_is_integer rfl rfl
theorem sc_is_ratio_basics : FnScope ["value", "one"] ["value"] (defScope (top 5)) := ⟨rfl, rfl, rfl, by decide +kernel, rfl, by decide +kernel, by decide +kernel⟩
theorem ck_is_ratio_basics : chkTs (Ct.main ["value", "one"] (defScope (top 5)) [("is_integer", ["value"])] [[]] cnames true) b_is_ratio_basics (defBody (top 5)) = true := by decide +kernel
theorem ok_is_ratio_basics {f : Addr} {fd : FuncData} (tc : TopC mg K cnames cs true) (cx : CxOk P w K mg base CX) (F : Fun K "is_ratio" "is_ratio" (top 5) f fd) (c0 : FnAt P w K mg base CX 1 "is_integer" ["value"] [] m_is_integer) : FnG P w K mg base CX 2 f fd ["value"] (spOf K mg 1 m_is_ratio_basics) :=
  fnAt_mk (k := 1) F sc_is_ratio_basics tc cx (.cons (c0.mono (by decide)) .nil) ck_is_ratio_basics rfl rfl
theorem sc_check_both : FnScope ["one", "other"] ["one", "other"] (defScope (top 23)) := ⟨rfl, rfl, rfl, by decide +kernel, rfl, by decide +kernel, by decide +kernel⟩
theorem ck_check_both : chkTs (Ct.main ["one", "other"] (defScope (top 23)) [("is_ratio_basics", ["value"])] [[]] cnames true) b_check_both (defBody (top 23)) = true := by decide +kernel
theorem ok_check_both {f : Addr} {fd : FuncData} (tc : TopC mg K cnames cs true) (cx : CxOk P w K mg base CX) (F : Fun K "check_both" "check_both" (top 23) f fd) (c0 : FnAt P w K mg base CX 2 "is_ratio_basics" ["value"] [] m_is_ratio_basics) : FnG P w K mg base CX 3 f fd ["one", "other"] (spOf K mg 2 m_check_both) :=
  fnAt_mk (k := 2) F sc_check_both tc cx (.cons (c0.mono (by decide)) .nil) ck_check_both rfl rfl
theorem sc_made : FnScope ["top", "bottom", "part"] ["top", "bottom"] (defScope (top 15)) := ⟨rfl, rfl, rfl, by decide +kernel, rfl, by decide +kernel, by decide +kernel⟩
theorem ck_made : chkTs (Ct.main ["top", "bottom", "part"] (defScope (top 15)) [] [] cnames true) b_made (defBody (top 15)) = true := by decide +kernel
theorem ok_made {f : Addr} {fd : FuncData} (tc : TopC mg K cnames cs true) (cx : CxOk P w K mg base CX) (F : Fun K "made" "made" (top 15) f fd)  : FnG P w K mg base CX 1 f fd ["top", "bottom"] (spOf K mg 2 m_made) :=
  fnAt_mk (k := 0) F sc_made tc cx (.nil) ck_made rfl rfl
theorem sc_r_plus : FnScope ["one", "other"] ["one", "other"] (defScope (top 17)) := ⟨rfl, rfl, rfl, by decide +kernel, rfl, by decide +kernel, by decide +kernel⟩
theorem ck_r_plus : chkTs (Ct.main ["one", "other"] (defScope (top 17)) [("made", ["top", "bottom"])] [[]] cnames true) b_r_plus (defBody (top 17)) = true := by decide +kernel
theorem ok_r_plus {f : Addr} {fd : FuncData} (tc : TopC mg K cnames cs true) (cx : CxOk P w K mg base CX) (F : Fun K "r_plus" "r_plus" (top 17) f fd) (c0 : FnAt P w K mg base CX 1 "made" ["top", "bottom"] [] m_made) : FnG P w K mg base CX 2 f fd ["one", "other"] (spOf K mg 2 m_r_plus) :=
  fnAt_mk (k := 1) F sc_r_plus tc cx (.cons (c0.mono (by decide)) .nil) ck_r_plus rfl rfl
theorem sc_plus : FnScope ["one", "other"] ["one", "other"] (defScope (top 28)) := ⟨rfl, rfl, rfl, by decide +kernel, rfl, by decide +kernel, by decide +kernel⟩
theorem ck_plus : chkTs (Ct.main ["one", "other"] (defScope (top 28)) [("check_both", ["one", "other"]), ("r_plus", ["one", "other"])] [[], []] cnames true) b_plus (defBody (top 28)) = true := by decide +kernel
theorem ok_plus {f : Addr} {fd : FuncData} (tc : TopC mg K cnames cs true) (cx : CxOk P w K mg base CX) (F : Fun K "plus" "plus" (top 28) f fd) (c0 : FnAt P w K mg base CX 3 "check_both" ["one", "other"] [] m_check_both) (c1 : FnAt P w K mg base CX 2 "r_plus" ["one", "other"] [] m_r_plus) : FnG P w K mg base CX 4 f fd ["one", "other"] (spOf K mg 2 m_plus) :=
  fnAt_mk (k := 3) F sc_plus tc cx (.cons (c0.mono (by decide)) (.cons (c1.mono (by decide)) .nil)) ck_plus rfl rfl
theorem sc_r_minus : FnScope ["one", "other"] ["one", "other"] (defScope (top 18)) := ⟨rfl, rfl, rfl, by decide +kernel, rfl, by decide +kernel, by decide +kernel⟩
theorem ck_r_minus : chkTs (Ct.main ["one", "other"] (defScope (top 18)) [("made", ["top", "bottom"])] [[]] cnames true) b_r_minus (defBody (top 18)) = true := by decide +kernel
theorem ok_r_minus {f : Addr} {fd : FuncData} (tc : TopC mg K cnames cs true) (cx : CxOk P w K mg base CX) (F : Fun K "r_minus" "r_minus" (top 18) f fd) (c0 : FnAt P w K mg base CX 1 "made" ["top", "bottom"] [] m_made) : FnG P w K mg base CX 2 f fd ["one", "other"] (spOf K mg 2 m_r_minus) :=
  fnAt_mk (k := 1) F sc_r_minus tc cx (.cons (c0.mono (by decide)) .nil) ck_r_minus rfl rfl
theorem sc_minus : FnScope ["one", "other"] ["one", "other"] (defScope (top 29)) := ⟨rfl, rfl, rfl, by decide +kernel, rfl, by decide +kernel, by decide +kernel⟩
theorem ck_minus : chkTs (Ct.main ["one", "other"] (defScope (top 29)) [("check_both", ["one", "other"]), ("r_minus", ["one", "other"])] [[], []] cnames true) b_minus (defBody (top 29)) = true := by decide +kernel
theorem ok_minus {f : Addr} {fd : FuncData} (tc : TopC mg K cnames cs true) (cx : CxOk P w K mg base CX) (F : Fun K "minus" "minus" (top 29) f fd) (c0 : FnAt P w K mg base CX 3 "check_both" ["one", "other"] [] m_check_both) (c1 : FnAt P w K mg base CX 2 "r_minus" ["one", "other"] [] m_r_minus) : FnG P w K mg base CX 4 f fd ["one", "other"] (spOf K mg 2 m_minus) :=
  fnAt_mk (k := 3) F sc_minus tc cx (.cons (c0.mono (by decide)) (.cons (c1.mono (by decide)) .nil)) ck_minus rfl rfl
theorem sc_r_times : FnScope ["one", "other"] ["one", "other"] (defScope (top 19)) := ⟨rfl, rfl, rfl, by decide +kernel, rfl, by decide +kernel, by decide +kernel⟩
theorem ck_r_times : chkTs (Ct.main ["one", "other"] (defScope (top 19)) [("made", ["top", "bottom"])] [[]] cnames true) b_r_times (defBody (top 19)) = true := by decide +kernel
theorem ok_r_times {f : Addr} {fd : FuncData} (tc : TopC mg K cnames cs true) (cx : CxOk P w K mg base CX) (F : Fun K "r_times" "r_times" (top 19) f fd) (c0 : FnAt P w K mg base CX 1 "made" ["top", "bottom"] [] m_made) : FnG P w K mg base CX 2 f fd ["one", "other"] (spOf K mg 2 m_r_times) :=
  fnAt_mk (k := 1) F sc_r_times tc cx (.cons (c0.mono (by decide)) .nil) ck_r_times rfl rfl
theorem sc_times : FnScope ["one", "other"] ["one", "other"] (defScope (top 30)) := ⟨rfl, rfl, rfl, by decide +kernel, rfl, by decide +kernel, by decide +kernel⟩
theorem ck_times : chkTs (Ct.main ["one", "other"] (defScope (top 30)) [("check_both", ["one", "other"]), ("r_times", ["one", "other"])] [[], []] cnames true) b_times (defBody (top 30)) = true := by decide +kernel
theorem ok_times {f : Addr} {fd : FuncData} (tc : TopC mg K cnames cs true) (cx : CxOk P w K mg base CX) (F : Fun K "times" "times" (top 30) f fd) (c0 : FnAt P w K mg base CX 3 "check_both" ["one", "other"] [] m_check_both) (c1 : FnAt P w K mg base CX 2 "r_times" ["one", "other"] [] m_r_times) : FnG P w K mg base CX 4 f fd ["one", "other"] (spOf K mg 2 m_times) :=
  fnAt_mk (k := 3) F sc_times tc cx (.cons (c0.mono (by decide)) (.cons (c1.mono (by decide)) .nil)) ck_times rfl rfl
theorem sc_r_less : FnScope ["one", "other"] ["one", "other"] (defScope (top 21)) := ⟨rfl, rfl, rfl, by decide +kernel, rfl, by decide +kernel, by decide +kernel⟩
theorem ck_r_less : chkTs (Ct.main ["one", "other"] (defScope (top 21)) [] [] cnames true) b_r_less (defBody (top 21)) = true := by decide +kernel
theorem ok_r_less {f : Addr} {fd : FuncData} (tc : TopC mg K cnames cs true) (cx : CxOk P w K mg base CX) (F : Fun K "r_less" "r_less" (top 21) f fd)  : FnG P w K mg base CX 1 f fd ["one", "other"] (spOf K mg 2 m_r_less) :=
  fnAt_mk (k := 0) F sc_r_less tc cx (.nil) ck_r_less rfl rfl
theorem sc_is_below : FnScope ["one", "other"] ["one", "other"] (defScope (top 35)) := ⟨rfl, rfl, rfl, by decide +kernel, rfl, by decide +kernel, by decide +kernel⟩
theorem ck_is_below : chkTs (Ct.main ["one", "other"] (defScope (top 35)) [("check_both", ["one", "other"]), ("r_less", ["one", "other"])] [[], []] cnames true) b_is_below (defBody (top 35)) = true := by decide +kernel
theorem ok_is_below {f : Addr} {fd : FuncData} (tc : TopC mg K cnames cs true) (cx : CxOk P w K mg base CX) (F : Fun K "is_below" "is_below" (top 35) f fd) (c0 : FnAt P w K mg base CX 3 "check_both" ["one", "other"] [] m_check_both) (c1 : FnAt P w K mg base CX 1 "r_less" ["one", "other"] [] m_r_less) : FnG P w K mg base CX 4 f fd ["one", "other"] (spOf K mg 2 m_is_below) :=
  fnAt_mk (k := 3) F sc_is_below tc cx (.cons (c0.mono (by decide)) (.cons (c1.mono (by decide)) .nil)) ck_is_below rfl rfl
theorem sc_r_over : FnScope ["one", "other"] ["one", "other"] (defScope (top 20)) := ⟨rfl, rfl, rfl, by decide +kernel, rfl, by decide +kernel, by decide +kernel⟩
theorem ck_r_over : chkTs (Ct.main ["one", "other"] (defScope (top 20)) [("made", ["top", "bottom"])] [[]] cnames true) b_r_over (defBody (top 20)) = true := by decide +kernel
theorem ok_r_over {f : Addr} {fd : FuncData} (tc : TopC mg K cnames cs true) (cx : CxOk P w K mg base CX) (F : Fun K "r_over" "r_over" (top 20) f fd) (c0 : FnAt P w K mg base CX 1 "made" ["top", "bottom"] [] m_made) : FnG P w K mg base CX 2 f fd ["one", "other"] (spOf K mg 2 m_r_over) :=
  fnAt_mk (k := 1) F sc_r_over tc cx (.cons (c0.mono (by decide)) .nil) ck_r_over rfl rfl
theorem sc_over : FnScope ["one", "other"] ["one", "other"] (defScope (top 31)) := ⟨rfl, rfl, rfl, by decide +kernel, rfl, by decide +kernel, by decide +kernel⟩
theorem ck_over : chkTs (Ct.main ["one", "other"] (defScope (top 31)) [("check_both", ["one", "other"]), ("r_over", ["one", "other"])] [[], []] cnames true) b_over (defBody (top 31)) = true := by decide +kernel
theorem ok_over {f : Addr} {fd : FuncData} (tc : TopC mg K cnames cs true) (cx : CxOk P w K mg base CX) (F : Fun K "over" "over" (top 31) f fd) (c0 : FnAt P w K mg base CX 3 "check_both" ["one", "other"] [] m_check_both) (c1 : FnAt P w K mg base CX 2 "r_over" ["one", "other"] [] m_r_over) : FnG P w K mg base CX 4 f fd ["one", "other"] (spOf K mg 2 m_over) :=
  fnAt_mk (k := 3) F sc_over tc cx (.cons (c0.mono (by decide)) (.cons (c1.mono (by decide)) .nil)) ck_over rfl rfl
theorem sc_ratio : FnScope ["top", "bottom"] ["top", "bottom"] (defScope (top 27)) := ⟨rfl, rfl, rfl, by decide +kernel, rfl, by decide +kernel, by decide +kernel⟩
theorem ck_ratio : chkTs (Ct.main ["top", "bottom"] (defScope (top 27)) [("is_integer", ["value"]), ("made", ["top", "bottom"])] [[], []] cnames true) b_ratio (defBody (top 27)) = true := by decide +kernel
theorem ok_ratio {f : Addr} {fd : FuncData} (tc : TopC mg K cnames cs true) (cx : CxOk P w K mg base CX) (F : Fun K "ratio" "ratio" (top 27) f fd) (c0 : FnAt P w K mg base CX 1 "is_integer" ["value"] [] m_is_integer) (c1 : FnAt P w K mg base CX 1 "made" ["top", "bottom"] [] m_made) : FnG P w K mg base CX 2 f fd ["top", "bottom"] (spOf K mg 2 m_ratio) :=
  fnAt_mk (k := 1) F sc_ratio tc cx (.cons (c0.mono (by decide)) (.cons (c1.mono (by decide)) .nil)) ck_ratio rfl rfl
theorem sc_is_list : FnScope ["value"] ["value"] (defScope (top 2)) := ⟨rfl, rfl, rfl, by decide +kernel, rfl, by decide +kernel, by decide +kernel⟩
theorem ck_is_list : chkTs (Ct.main ["value"] (defScope (top 2)) [] [] cnames true) b_is_list (defBody (top 2)) = true := by decide +kernel
theorem ok_is_list {f : Addr} {fd : FuncData} (tc : TopC mg K cnames cs true) (cx : CxOk P w K mg base CX) (F : Fun K "is_list" "is_list" (top 2) f fd)  : FnG P w K mg base CX 1 f fd ["value"] (spOf K mg 1 m_is_list) :=
  fnAt_mk (k := 0) F sc_is_list tc cx (.nil) ck_is_list rfl rfl
theorem sc_check_numbers : FnScope ["numbers", "one"] ["numbers"] (defScope (top 24)) := ⟨rfl, rfl, rfl, by decide +kernel, rfl, by decide +kernel, by decide +kernel⟩
theorem ck_check_numbers : chkTs (Ct.main ["numbers", "one"] (defScope (top 24)) [("is_list", ["value"]), ("is_ratio_basics", ["value"])] [[], []] cnames true) b_check_numbers (defBody (top 24)) = true := by decide +kernel
theorem ok_check_numbers {f : Addr} {fd : FuncData} (tc : TopC mg K cnames cs true) (cx : CxOk P w K mg base CX) (F : Fun K "check_numbers" "check_numbers" (top 24) f fd) (c0 : FnAt P w K mg base CX 1 "is_list" ["value"] [] m_is_list) (c1 : FnAt P w K mg base CX 2 "is_ratio_basics" ["value"] [] m_is_ratio_basics) : FnG P w K mg base CX 3 f fd ["numbers"] (spOf K mg 1 m_check_numbers) :=
  fnAt_mk (k := 2) F sc_check_numbers tc cx (.cons (c0.mono (by decide)) (.cons (c1.mono (by decide)) .nil)) ck_check_numbers rfl rfl
theorem sc_common : FnScope ["values", "found", "top", "bottom"] ["values"] (defScope (top 16)) := ⟨rfl, rfl, rfl, by decide +kernel, rfl, by decide +kernel, by decide +kernel⟩
theorem ck_common : chkTs (Ct.main ["values", "found", "top", "bottom"] (defScope (top 16)) [] [] cnames true) b_common (defBody (top 16)) = true := by decide +kernel
theorem ok_common {f : Addr} {fd : FuncData} (tc : TopC mg K cnames cs true) (cx : CxOk P w K mg base CX) (F : Fun K "common" "common" (top 16) f fd)  : FnG P w K mg base CX 1 f fd ["values"] (spOf K mg 1 m_common) :=
  fnAt_mk (k := 0) F sc_common tc cx (.nil) ck_common rfl rfl
theorem sc_r_total : FnScope ["values", "bottom", "top", "under"] ["values"] (defScope (top 22)) := ⟨rfl, rfl, rfl, by decide +kernel, rfl, by decide +kernel, by decide +kernel⟩
theorem ck_r_total : chkTs (Ct.main ["values", "bottom", "top", "under"] (defScope (top 22)) [("common", ["values"]), ("made", ["top", "bottom"])] [[], []] cnames true) b_r_total (defBody (top 22)) = true := by decide +kernel
theorem ok_r_total {f : Addr} {fd : FuncData} (tc : TopC mg K cnames cs true) (cx : CxOk P w K mg base CX) (F : Fun K "r_total" "r_total" (top 22) f fd) (c0 : FnAt P w K mg base CX 1 "common" ["values"] [] m_common) (c1 : FnAt P w K mg base CX 1 "made" ["top", "bottom"] [] m_made) : FnG P w K mg base CX 2 f fd ["values"] (spOf K mg 1 m_r_total) :=
  fnAt_mk (k := 1) F sc_r_total tc cx (.cons (c0.mono (by decide)) (.cons (c1.mono (by decide)) .nil)) ck_r_total rfl rfl
theorem sc_total : FnScope ["numbers"] ["numbers"] (defScope (top 32)) := ⟨rfl, rfl, rfl, by decide +kernel, rfl, by decide +kernel, by decide +kernel⟩
theorem ck_total : chkTs (Ct.main ["numbers"] (defScope (top 32)) [("check_numbers", ["numbers"]), ("r_total", ["values"])] [[], []] cnames true) b_total (defBody (top 32)) = true := by decide +kernel
theorem ok_total {f : Addr} {fd : FuncData} (tc : TopC mg K cnames cs true) (cx : CxOk P w K mg base CX) (F : Fun K "total" "total" (top 32) f fd) (c0 : FnAt P w K mg base CX 3 "check_numbers" ["numbers"] [] m_check_numbers) (c1 : FnAt P w K mg base CX 2 "r_total" ["values"] [] m_r_total) : FnG P w K mg base CX 4 f fd ["numbers"] (spOf K mg 1 m_total) :=
  fnAt_mk (k := 3) F sc_total tc cx (.cons (c0.mono (by decide)) (.cons (c1.mono (by decide)) .nil)) ck_total rfl rfl
theorem sc_least : FnScope ["numbers", "found", "number"] ["numbers"] (defScope (top 33)) := ⟨rfl, rfl, rfl, by decide +kernel, rfl, by decide +kernel, by decide +kernel⟩
theorem ck_least : chkTs (Ct.main ["numbers", "found", "number"] (defScope (top 33)) [("check_numbers", ["numbers"]), ("r_less", ["one", "other"])] [[], []] cnames true) b_least (defBody (top 33)) = true := by decide +kernel
theorem ok_least {f : Addr} {fd : FuncData} (tc : TopC mg K cnames cs true) (cx : CxOk P w K mg base CX) (F : Fun K "least" "least" (top 33) f fd) (c0 : FnAt P w K mg base CX 3 "check_numbers" ["numbers"] [] m_check_numbers) (c1 : FnAt P w K mg base CX 1 "r_less" ["one", "other"] [] m_r_less) : FnG P w K mg base CX 4 f fd ["numbers"] (spOf K mg 1 m_least) :=
  fnAt_mk (k := 3) F sc_least tc cx (.cons (c0.mono (by decide)) (.cons (c1.mono (by decide)) .nil)) ck_least rfl rfl
theorem sc_greatest : FnScope ["numbers", "found", "number"] ["numbers"] (defScope (top 34)) := ⟨rfl, rfl, rfl, by decide +kernel, rfl, by decide +kernel, by decide +kernel⟩
theorem ck_greatest : chkTs (Ct.main ["numbers", "found", "number"] (defScope (top 34)) [("check_numbers", ["numbers"]), ("r_less", ["one", "other"])] [[], []] cnames true) b_greatest (defBody (top 34)) = true := by decide +kernel
theorem ok_greatest {f : Addr} {fd : FuncData} (tc : TopC mg K cnames cs true) (cx : CxOk P w K mg base CX) (F : Fun K "greatest" "greatest" (top 34) f fd) (c0 : FnAt P w K mg base CX 3 "check_numbers" ["numbers"] [] m_check_numbers) (c1 : FnAt P w K mg base CX 1 "r_less" ["one", "other"] [] m_r_less) : FnG P w K mg base CX 4 f fd ["numbers"] (spOf K mg 1 m_greatest) :=
  fnAt_mk (k := 3) F sc_greatest tc cx (.cons (c0.mono (by decide)) (.cons (c1.mono (by decide)) .nil)) ck_greatest rfl rfl
theorem sc_law_is_int : FnScope ["value"] ["value"] (defScope (top 48)) := ⟨rfl, rfl, rfl, by decide +kernel, rfl, by decide +kernel, by decide +kernel⟩
theorem ck_law_is_int : chkTs (Ct.main ["value"] (defScope (top 48)) [] [] cnames true) b_law_is_int (defBody (top 48)) = true := by decide +kernel
theorem ok_law_is_int {f : Addr} {fd : FuncData} (tc : TopC mg K cnames cs true) (cx : CxOk P w K mg base CX) (F : Fun K "_law_is_int" "_law_is_int" (top 48) f fd)  : FnG P w K mg base CX 1 f fd ["value"] (spOf K mg 1 m_law_is_int) :=
  fnAt_mk (k := 0) F sc_law_is_int tc cx (.nil) ck_law_is_int rfl rfl
theorem sc_law_is_ratio : FnScope ["value", "one"] ["value"] (defScope (top 59)) := ⟨rfl, rfl, rfl, by decide +kernel, rfl, by decide +kernel, by decide +kernel⟩
theorem ck_law_is_ratio : chkTs (Ct.main ["value", "one"] (defScope (top 59)) [("_law_is_int", ["value"]), ("_law_low", ["top", "bottom"])] [[], []] cnames true) b_law_is_ratio (defBody (top 59)) = true := by decide +kernel
theorem ok_law_is_ratio {f : Addr} {fd : FuncData} (tc : TopC mg K cnames cs true) (cx : CxOk P w K mg base CX) (F : Fun K "_law_is_ratio" "_law_is_ratio" (top 59) f fd) (c0 : FnAt P w K mg base CX 1 "_law_is_int" ["value"] [] m_law_is_int) (c1 : FnAt P w K mg base CX 1 "_law_low" ["top", "bottom"] [] m_law_low) : FnG P w K mg base CX 2 f fd ["value"] (spOf K mg 1 m_law_is_ratio) :=
  fnAt_mk (k := 1) F sc_law_is_ratio tc cx (.cons (c0.mono (by decide)) (.cons (c1.mono (by decide)) .nil)) ck_law_is_ratio rfl rfl
theorem sc_is_ratio_ratios : FnScope ["value"] ["value"] (defScope (top 25)) := ⟨rfl, rfl, rfl, by decide +kernel, rfl, by decide +kernel, by decide +kernel⟩
theorem ck_is_ratio_ratios : chkTs (Ct.main ["value"] (defScope (top 25)) [("is_ratio_basics", ["value"])] [[]] cnames true) b_is_ratio_ratios (defBody (top 25)) = true := by decide +kernel
theorem ok_is_ratio_ratios {f : Addr} {fd : FuncData} (tc : TopC mg K cnames cs true) (cx : CxOk P w K mg base CX) (F : Fun K "is_ratio" "is_ratio" (top 25) f fd) (c0 : FnAt P w K mg base CX 2 "is_ratio_basics" ["value"] [] m_is_ratio_basics) : FnG P w K mg base CX 3 f fd ["value"] (spOf K mg 1 m_is_ratio_ratios) :=
  fnAt_mk (k := 2) F sc_is_ratio_ratios tc cx (.cons (c0.mono (by decide)) .nil) ck_is_ratio_ratios rfl rfl
theorem sc_law_numbers_right : FnScope ["pot", "one", "other", "cross", "due", "told", "top", "bottom", "numbers", "shown", "whole", "few", "many", "here", "value", "says", "turn"] ["pot"] (defScope (top 62)) := ⟨rfl, rfl, rfl, by decide +kernel, rfl, by decide +kernel, by decide +kernel⟩
theorem ck_law_numbers_right : chkTs (Ct.main ["pot", "one", "other", "cross", "due", "told", "top", "bottom", "numbers", "shown", "whole", "few", "many", "here", "value", "says", "turn"] (defScope (top 62)) [("_law_ratio", ["pot"]), ("_law_low", ["top", "bottom"]), ("plus", ["one", "other"]), ("minus", ["one", "other"]), ("times", ["one", "other"]), ("is_below", ["one", "other"]), ("over", ["one", "other"]), ("_law_pick", ["pot", "some"]), ("_law_draw", ["pot", "many"]), ("ratio", ["top", "bottom"]), ("total", ["numbers"]), ("least", ["numbers"]), ("greatest", ["numbers"]), ("_law_is_ratio", ["value"]), ("is_ratio_ratios", ["value"])] [[], [], [(0, ["other", "one"], [1, 0])], [(0, ["other", "one"], [1, 0])], [(0, ["other", "one"], [1, 0])], [(0, ["other", "one"], [1, 0])], [(0, ["other", "one"], [1, 0])], [], [], [(0, ["bottom", "top"], [1, 0])], [(0, ["numbers"], [0])], [(0, ["numbers"], [0])], [(0, ["numbers"], [0])], [], [(0, ["value"], [0])]] cnames true) b_law_numbers_right (defBody (top 62)) = true := by decide +kernel
theorem ok_law_numbers_right {f : Addr} {fd : FuncData} (tc : TopC mg K cnames cs true) (cx : CxOk P w K mg base CX) (F : Fun K "_law_numbers_right" "_law_numbers_right" (top 62) f fd) (c0 : FnAt P w K mg base CX 3 "_law_ratio" ["pot"] [] m_law_ratio) (c1 : FnAt P w K mg base CX 1 "_law_low" ["top", "bottom"] [] m_law_low) (c2 : FnAt P w K mg base CX 4 "plus" ["one", "other"] [(0, ["other", "one"], [1, 0])] m_plus) (c3 : FnAt P w K mg base CX 4 "minus" ["one", "other"] [(0, ["other", "one"], [1, 0])] m_minus) (c4 : FnAt P w K mg base CX 4 "times" ["one", "other"] [(0, ["other", "one"], [1, 0])] m_times) (c5 : FnAt P w K mg base CX 4 "is_below" ["one", "other"] [(0, ["other", "one"], [1, 0])] m_is_below) (c6 : FnAt P w K mg base CX 4 "over" ["one", "other"] [(0, ["other", "one"], [1, 0])] m_over) (c7 : FnAt P w K mg base CX 2 "_law_pick" ["pot", "some"] [] m_law_pick) (c8 : FnAt P w K mg base CX 1 "_law_draw" ["pot", "many"] [] m_law_draw) (c9 : FnAt P w K mg base CX 2 "ratio" ["top", "bottom"] [(0, ["bottom", "top"], [1, 0])] m_ratio) (c10 : FnAt P w K mg base CX 4 "total" ["numbers"] [(0, ["numbers"], [0])] m_total) (c11 : FnAt P w K mg base CX 4 "least" ["numbers"] [(0, ["numbers"], [0])] m_least) (c12 : FnAt P w K mg base CX 4 "greatest" ["numbers"] [(0, ["numbers"], [0])] m_greatest) (c13 : FnAt P w K mg base CX 2 "_law_is_ratio" ["value"] [] m_law_is_ratio) (c14 : FnAt P w K mg base CX 3 "is_ratio_ratios" ["value"] [(0, ["value"], [0])] m_is_ratio_ratios) : FnG P w K mg base CX 5 f fd ["pot"] (spOf K mg 1 m_law_numbers_right) :=
  fnAt_mk (k := 4) F sc_law_numbers_right tc cx (.cons (c0.mono (by decide)) (.cons (c1.mono (by decide)) (.cons (c2.mono (by decide)) (.cons (c3.mono (by decide)) (.cons (c4.mono (by decide)) (.cons (c5.mono (by decide)) (.cons (c6.mono (by decide)) (.cons (c7.mono (by decide)) (.cons (c8.mono (by decide)) (.cons (c9.mono (by decide)) (.cons (c10.mono (by decide)) (.cons (c11.mono (by decide)) (.cons (c12.mono (by decide)) (.cons (c13.mono (by decide)) (.cons (c14.mono (by decide)) .nil))))))))))))))) ck_law_numbers_right rfl rfl
theorem sc_law_any : FnScope ["pot", "many", "wide", "rows", "town", "other"] ["pot", "many", "wide"] (defScope (top 51)) := ⟨rfl, rfl, rfl, by decide +kernel, rfl, by decide +kernel, by decide +kernel⟩
theorem ck_law_any : chkTs (Ct.main ["pot", "many", "wide", "rows", "town", "other"] (defScope (top 51)) [("_law_draw", ["pot", "many"])] [[]] cnames true) b_law_any (defBody (top 51)) = true := by decide +kernel
theorem ok_law_any {f : Addr} {fd : FuncData} (tc : TopC mg K cnames cs true) (cx : CxOk P w K mg base CX) (F : Fun K "_law_any" "_law_any" (top 51) f fd) (c0 : FnAt P w K mg base CX 1 "_law_draw" ["pot", "many"] [] m_law_draw) : FnG P w K mg base CX 2 f fd ["pot", "many", "wide"] (spOf K mg 3 m_law_any) :=
  fnAt_mk (k := 1) F sc_law_any tc cx (.cons (c0.mono (by decide)) .nil) ck_law_any rfl rfl
theorem sc_law_bent : FnScope ["pot", "value", "at", "new"] ["pot", "value"] (defScope (top 61)) := ⟨rfl, rfl, rfl, by decide +kernel, rfl, by decide +kernel, by decide +kernel⟩
theorem ck_law_bent : chkTs (Ct.main ["pot", "value", "at", "new"] (defScope (top 61)) [("_law_pick", ["pot", "some"]), ("_law_draw", ["pot", "many"]), ("_law_bent", ["pot", "value"])] [[], [], []] cnames true) b_law_bent (defBody (top 61)) = true := by decide +kernel
theorem okn_law_bent {f : Addr} {fd : FuncData} (tc : TopC mg K cnames cs true) (cx : CxOk P w K mg base CX) (F : Fun K "_law_bent" "_law_bent" (top 61) f fd) (a0 : mg "_law_bent" = some (.ref f)) (kp : PySem.W.keepIn K (.ref f) = true) (bd : ∀ us : List Value, us.length = 2 → bindArgs fd ⟨us, []⟩ = pure (List.zip (["pot", "value"] : List Str) us)) (c0 : FnAt P w K mg base CX 2 "_law_pick" ["pot", "some"] [] m_law_pick) (c1 : FnAt P w K mg base CX 1 "_law_draw" ["pot", "many"] [] m_law_draw) : ∀ n : Nat, FnG P w K mg base CX (2 + n) f fd ["pot", "value"] (spOf K mg 2 (m_law_bent n))
  | 0 => fnG_stuck
  | n + 1 => by
    have ih := okn_law_bent tc cx F a0 kp bd c0 c1 n
    have me : FnAt P w K mg base CX (2 + n) "_law_bent" ["pot", "value"] [] (m_law_bent n) := ⟨f, fd, a0, kp, bd, fun np ks perm h => by simp at h, ih⟩
    exact fnAt_mk (k := 2 + n) F sc_law_bent tc cx (.cons (c0.mono (by omega)) (.cons (c1.mono (by omega)) (.cons me (.nil)))) ck_law_bent rfl rfl
theorem sc_law_flaw : FnScope ["value", "at", "row", "one"] ["value"] (defScope (top 60)) := ⟨rfl, rfl, rfl, by decide +kernel, rfl, by decide +kernel, by decide +kernel⟩
theorem ck_law_flaw : chkTs (Ct.main ["value", "at", "row", "one"] (defScope (top 60)) [("_law_is_int", ["value"])] [[]] cnames true) b_law_flaw (defBody (top 60)) = true := by decide +kernel
theorem ok_law_flaw {f : Addr} {fd : FuncData} (tc : TopC mg K cnames cs true) (cx : CxOk P w K mg base CX) (F : Fun K "_law_flaw" "_law_flaw" (top 60) f fd) (c0 : FnAt P w K mg base CX 1 "_law_is_int" ["value"] [] m_law_is_int) : FnG P w K mg base CX 2 f fd ["value"] (spOf K mg 1 m_law_flaw) :=
  fnAt_mk (k := 1) F sc_law_flaw tc cx (.cons (c0.mono (by decide)) .nil) ck_law_flaw rfl rfl
theorem sc_sizes_are_right : FnScope ["rows", "at", "row"] ["rows"] (defScope (top 39)) := ⟨rfl, rfl, rfl, by decide +kernel, rfl, by decide +kernel, by decide +kernel⟩
theorem ck_sizes_are_right : chkTs (Ct.main ["rows", "at", "row"] (defScope (top 39)) [] [] cnames true) b_sizes_are_right (defBody (top 39)) = true := by decide +kernel
theorem ok_sizes_are_right {f : Addr} {fd : FuncData} (tc : TopC mg K cnames cs true) (cx : CxOk P w K mg base CX) (F : Fun K "sizes_are_right" "sizes_are_right" (top 39) f fd)  : FnG P w K mg base CX 1 f fd ["rows"] (spOf K mg 1 m_sizes_are_right) :=
  fnAt_mk (k := 0) F sc_sizes_are_right tc cx (.nil) ck_sizes_are_right rfl rfl
theorem sc_is_count : FnScope ["value"] ["value"] (defScope (top 4)) := ⟨rfl, rfl, rfl, by decide +kernel, rfl, by decide +kernel, by decide +kernel⟩
theorem ck_is_count : chkTs (Ct.main ["value"] (defScope (top 4)) [("is_integer", ["value"])] [[]] cnames true) b_is_count (defBody (top 4)) = true := by decide +kernel
theorem ok_is_count {f : Addr} {fd : FuncData} (tc : TopC mg K cnames cs true) (cx : CxOk P w K mg base CX) (F : Fun K "is_count" "is_count" (top 4) f fd) (c0 : FnAt P w K mg base CX 1 "is_integer" ["value"] [] m_is_integer) : FnG P w K mg base CX 2 f fd ["value"] (spOf K mg 1 m_is_count) :=
  fnAt_mk (k := 1) F sc_is_count tc cx (.cons (c0.mono (by decide)) .nil) ck_is_count rfl rfl
theorem sc_flaw_of : FnScope ["value", "row", "far"] ["value"] (defScope (top 40)) := ⟨rfl, rfl, rfl, by decide +kernel, rfl, by decide +kernel, by decide +kernel⟩
theorem ck_flaw_of : chkTs (Ct.main ["value", "row", "far"] (defScope (top 40)) [("sizes_are_right", ["rows"]), ("is_count", ["value"])] [[], []] cnames true) b_flaw_of (defBody (top 40)) = true := by decide +kernel
theorem ok_flaw_of {f : Addr} {fd : FuncData} (tc : TopC mg K cnames cs true) (cx : CxOk P w K mg base CX) (F : Fun K "flaw_of" "flaw_of" (top 40) f fd) (c0 : FnAt P w K mg base CX 1 "sizes_are_right" ["rows"] [] m_sizes_are_right) (c1 : FnAt P w K mg base CX 2 "is_count" ["value"] [] m_is_count) : FnG P w K mg base CX 3 f fd ["value"] (spOf K mg 1 m_flaw_of) :=
  fnAt_mk (k := 2) F sc_flaw_of tc cx (.cons (c0.mono (by decide)) (.cons (c1.mono (by decide)) .nil)) ck_flaw_of rfl rfl
theorem sc_flaw : FnScope ["value"] ["value"] (defScope (top 43)) := ⟨rfl, rfl, rfl, by decide +kernel, rfl, by decide +kernel, by decide +kernel⟩
theorem ck_flaw : chkTs (Ct.main ["value"] (defScope (top 43)) [("flaw_of", ["value"])] [[]] cnames true) b_flaw (defBody (top 43)) = true := by decide +kernel
theorem ok_flaw {f : Addr} {fd : FuncData} (tc : TopC mg K cnames cs true) (cx : CxOk P w K mg base CX) (F : Fun K "flaw" "flaw" (top 43) f fd) (c0 : FnAt P w K mg base CX 3 "flaw_of" ["value"] [] m_flaw_of) : FnG P w K mg base CX 4 f fd ["value"] (spOf K mg 1 m_flaw) :=
  fnAt_mk (k := 3) F sc_flaw tc cx (.cons (c0.mono (by decide)) .nil) ck_flaw rfl rfl
theorem sc_table_is_right : FnScope ["value"] ["value"] (defScope (top 41)) := ⟨rfl, rfl, rfl, by decide +kernel, rfl, by decide +kernel, by decide +kernel⟩
theorem ck_table_is_right : chkTs (Ct.main ["value"] (defScope (top 41)) [("flaw_of", ["value"])] [[]] cnames true) b_table_is_right (defBody (top 41)) = true := by decide +kernel
theorem ok_table_is_right {f : Addr} {fd : FuncData} (tc : TopC mg K cnames cs true) (cx : CxOk P w K mg base CX) (F : Fun K "table_is_right" "table_is_right" (top 41) f fd) (c0 : FnAt P w K mg base CX 3 "flaw_of" ["value"] [] m_flaw_of) : FnG P w K mg base CX 4 f fd ["value"] (spOf K mg 1 m_table_is_right) :=
  fnAt_mk (k := 3) F sc_table_is_right tc cx (.cons (c0.mono (by decide)) .nil) ck_table_is_right rfl rfl
theorem sc_is_table : FnScope ["value"] ["value"] (defScope (top 42)) := ⟨rfl, rfl, rfl, by decide +kernel, rfl, by decide +kernel, by decide +kernel⟩
theorem ck_is_table : chkTs (Ct.main ["value"] (defScope (top 42)) [("table_is_right", ["value"])] [[]] cnames true) b_is_table (defBody (top 42)) = true := by decide +kernel
theorem ok_is_table {f : Addr} {fd : FuncData} (tc : TopC mg K cnames cs true) (cx : CxOk P w K mg base CX) (F : Fun K "is_table" "is_table" (top 42) f fd) (c0 : FnAt P w K mg base CX 4 "table_is_right" ["value"] [] m_table_is_right) : FnG P w K mg base CX 5 f fd ["value"] (spOf K mg 1 m_is_table) :=
  fnAt_mk (k := 4) F sc_is_table tc cx (.cons (c0.mono (by decide)) .nil) ck_is_table rfl rfl
theorem sc_law_flaws_right : FnScope ["pot", "table", "some", "value", "due", "before", "turn"] ["pot"] (defScope (top 63)) := ⟨rfl, rfl, rfl, by decide +kernel, rfl, by decide +kernel, by decide +kernel⟩
theorem ck_law_flaws_right : chkTs (Ct.main ["pot", "table", "some", "value", "due", "before", "turn"] (defScope (top 63)) [("_law_any", ["pot", "many", "wide"]), ("_law_draw", ["pot", "many"]), ("_law_bent", ["pot", "value"]), ("_law_flaw", ["value"]), ("flaw", ["value"]), ("is_table", ["value"])] [[], [], [], [], [(0, ["value"], [0])], [(0, ["value"], [0])]] cnames true) b_law_flaws_right (defBody (top 63)) = true := by decide +kernel
theorem ok_law_flaws_right {f : Addr} {fd : FuncData} (tc : TopC mg K cnames cs true) (cx : CxOk P w K mg base CX) (F : Fun K "_law_flaws_right" "_law_flaws_right" (top 63) f fd) (c0 : FnAt P w K mg base CX 2 "_law_any" ["pot", "many", "wide"] [] m_law_any) (c1 : FnAt P w K mg base CX 1 "_law_draw" ["pot", "many"] [] m_law_draw) (c2 : FnAt P w K mg base CX 42 "_law_bent" ["pot", "value"] [] (m_law_bent 40)) (c3 : FnAt P w K mg base CX 2 "_law_flaw" ["value"] [] m_law_flaw) (c4 : FnAt P w K mg base CX 4 "flaw" ["value"] [(0, ["value"], [0])] m_flaw) (c5 : FnAt P w K mg base CX 5 "is_table" ["value"] [(0, ["value"], [0])] m_is_table) : FnG P w K mg base CX 43 f fd ["pot"] (spOf K mg 1 m_law_flaws_right) :=
  fnAt_mk (k := 42) F sc_law_flaws_right tc cx (.cons (c0.mono (by decide)) (.cons (c1.mono (by decide)) (.cons (c2.mono (by decide)) (.cons (c3.mono (by decide)) (.cons (c4.mono (by decide)) (.cons (c5.mono (by decide)) .nil)))))) ck_law_flaws_right rfl rfl
theorem sc_law : FnScope ["script", "pot", "time"] ["script"] (defScope (top 64)) := ⟨rfl, rfl, rfl, by decide +kernel, rfl, by decide +kernel, by decide +kernel⟩
theorem ck_law : chkTs (Ct.main ["script", "pot", "time"] (defScope (top 64)) [("_law_pot", ["script", "k"]), ("_law_numbers_right", ["pot"]), ("_law_flaws_right", ["pot"])] [[], [], []] cnames true) b_law (defBody (top 64)) = true := by decide +kernel
theorem ok_law {f : Addr} {fd : FuncData} (tc : TopC mg K cnames cs true) (cx : CxOk P w K mg base CX) (F : Fun K "law" "law" (top 64) f fd) (c0 : FnAt P w K mg base CX 1 "_law_pot" ["script", "k"] [] m_law_pot) (c1 : FnAt P w K mg base CX 5 "_law_numbers_right" ["pot"] [] m_law_numbers_right) (c2 : FnAt P w K mg base CX 43 "_law_flaws_right" ["pot"] [] m_law_flaws_right) : FnG P w K mg base CX 44 f fd ["script"] (spOf K mg 1 m_law) :=
  fnAt_mk (k := 43) F sc_law tc cx (.cons (c0.mono (by decide)) (.cons (c1.mono (by decide)) (.cons (c2.mono (by decide)) .nil))) ck_law rfl rfl
theorem facts {l : PySem.W.OpenLaw} {h : Heap} {fa : Addr} (X : K.In h) (G : h.Ns mainGlobals mg) (hfa : mg "law" = some (.ref fa))
    {f_law_pot : Addr} {od_law_pot an_law_pot : Option Addr} {sl_law_pot : Array (Option Value)} {oc_law_pot kV_law_pot dc_law_pot pm_law_pot cd_law_pot ct_law_pot : Value} {f_law_draw : Addr} {od_law_draw an_law_draw : Option Addr} {sl_law_draw : Array (Option Value)} {oc_law_draw kV_law_draw dc_law_draw pm_law_draw cd_law_draw ct_law_draw : Value} {f_law_pick : Addr} {od_law_pick an_law_pick : Option Addr} {sl_law_pick : Array (Option Value)} {oc_law_pick kV_law_pick dc_law_pick pm_law_pick cd_law_pick ct_law_pick : Value} {f_law_low : Addr} {od_law_low an_law_low : Option Addr} {sl_law_low : Array (Option Value)} {oc_law_low kV_law_low dc_law_low pm_law_low cd_law_low ct_law_low : Value} {f_law_ratio : Addr} {od_law_ratio an_law_ratio : Option Addr} {sl_law_ratio : Array (Option Value)} {oc_law_ratio kV_law_ratio dc_law_ratio pm_law_ratio cd_law_ratio ct_law_ratio : Value} {f_is_integer : Addr} {od_is_integer an_is_integer : Option Addr} {sl_is_integer : Array (Option Value)} {oc_is_integer kV_is_integer dc_is_integer pm_is_integer cd_is_integer ct_is_integer : Value} {f_is_ratio_basics : Addr} {od_is_ratio_basics an_is_ratio_basics : Option Addr} {sl_is_ratio_basics : Array (Option Value)} {oc_is_ratio_basics kV_is_ratio_basics dc_is_ratio_basics pm_is_ratio_basics cd_is_ratio_basics ct_is_ratio_basics : Value} {f_check_both : Addr} {od_check_both an_check_both : Option Addr} {sl_check_both : Array (Option Value)} {oc_check_both kV_check_both dc_check_both pm_check_both cd_check_both ct_check_both : Value} {f_made : Addr} {od_made an_made : Option Addr} {sl_made : Array (Option Value)} {oc_made kV_made dc_made pm_made cd_made ct_made : Value} {f_r_plus : Addr} {od_r_plus an_r_plus : Option Addr} {sl_r_plus : Array (Option Value)} {oc_r_plus kV_r_plus dc_r_plus pm_r_plus cd_r_plus ct_r_plus : Value} {f_plus : Addr} {od_plus an_plus : Option Addr} {sl_plus : Array (Option Value)} {oc_plus kV_plus dc_plus pm_plus cd_plus ct_plus : Value} {f_r_minus : Addr} {od_r_minus an_r_minus : Option Addr} {sl_r_minus : Array (Option Value)} {oc_r_minus kV_r_minus dc_r_minus pm_r_minus cd_r_minus ct_r_minus : Value} {f_minus : Addr} {od_minus an_minus : Option Addr} {sl_minus : Array (Option Value)} {oc_minus kV_minus dc_minus pm_minus cd_minus ct_minus : Value} {f_r_times : Addr} {od_r_times an_r_times : Option Addr} {sl_r_times : Array (Option Value)} {oc_r_times kV_r_times dc_r_times pm_r_times cd_r_times ct_r_times : Value} {f_times : Addr} {od_times an_times : Option Addr} {sl_times : Array (Option Value)} {oc_times kV_times dc_times pm_times cd_times ct_times : Value} {f_r_less : Addr} {od_r_less an_r_less : Option Addr} {sl_r_less : Array (Option Value)} {oc_r_less kV_r_less dc_r_less pm_r_less cd_r_less ct_r_less : Value} {f_is_below : Addr} {od_is_below an_is_below : Option Addr} {sl_is_below : Array (Option Value)} {oc_is_below kV_is_below dc_is_below pm_is_below cd_is_below ct_is_below : Value} {f_r_over : Addr} {od_r_over an_r_over : Option Addr} {sl_r_over : Array (Option Value)} {oc_r_over kV_r_over dc_r_over pm_r_over cd_r_over ct_r_over : Value} {f_over : Addr} {od_over an_over : Option Addr} {sl_over : Array (Option Value)} {oc_over kV_over dc_over pm_over cd_over ct_over : Value} {f_ratio : Addr} {od_ratio an_ratio : Option Addr} {sl_ratio : Array (Option Value)} {oc_ratio kV_ratio dc_ratio pm_ratio cd_ratio ct_ratio : Value} {f_is_list : Addr} {od_is_list an_is_list : Option Addr} {sl_is_list : Array (Option Value)} {oc_is_list kV_is_list dc_is_list pm_is_list cd_is_list ct_is_list : Value} {f_check_numbers : Addr} {od_check_numbers an_check_numbers : Option Addr} {sl_check_numbers : Array (Option Value)} {oc_check_numbers kV_check_numbers dc_check_numbers pm_check_numbers cd_check_numbers ct_check_numbers : Value} {f_common : Addr} {od_common an_common : Option Addr} {sl_common : Array (Option Value)} {oc_common kV_common dc_common pm_common cd_common ct_common : Value} {f_r_total : Addr} {od_r_total an_r_total : Option Addr} {sl_r_total : Array (Option Value)} {oc_r_total kV_r_total dc_r_total pm_r_total cd_r_total ct_r_total : Value} {f_total : Addr} {od_total an_total : Option Addr} {sl_total : Array (Option Value)} {oc_total kV_total dc_total pm_total cd_total ct_total : Value} {f_least : Addr} {od_least an_least : Option Addr} {sl_least : Array (Option Value)} {oc_least kV_least dc_least pm_least cd_least ct_least : Value} {f_greatest : Addr} {od_greatest an_greatest : Option Addr} {sl_greatest : Array (Option Value)} {oc_greatest kV_greatest dc_greatest pm_greatest cd_greatest ct_greatest : Value} {f_law_is_int : Addr} {od_law_is_int an_law_is_int : Option Addr} {sl_law_is_int : Array (Option Value)} {oc_law_is_int kV_law_is_int dc_law_is_int pm_law_is_int cd_law_is_int ct_law_is_int : Value} {f_law_is_ratio : Addr} {od_law_is_ratio an_law_is_ratio : Option Addr} {sl_law_is_ratio : Array (Option Value)} {oc_law_is_ratio kV_law_is_ratio dc_law_is_ratio pm_law_is_ratio cd_law_is_ratio ct_law_is_ratio : Value} {f_is_ratio_ratios : Addr} {od_is_ratio_ratios an_is_ratio_ratios : Option Addr} {sl_is_ratio_ratios : Array (Option Value)} {oc_is_ratio_ratios kV_is_ratio_ratios dc_is_ratio_ratios pm_is_ratio_ratios cd_is_ratio_ratios ct_is_ratio_ratios : Value} {f_law_numbers_right : Addr} {od_law_numbers_right an_law_numbers_right : Option Addr} {sl_law_numbers_right : Array (Option Value)} {oc_law_numbers_right kV_law_numbers_right dc_law_numbers_right pm_law_numbers_right cd_law_numbers_right ct_law_numbers_right : Value} {f_law_any : Addr} {od_law_any an_law_any : Option Addr} {sl_law_any : Array (Option Value)} {oc_law_any kV_law_any dc_law_any pm_law_any cd_law_any ct_law_any : Value} {f_law_bent : Addr} {od_law_bent an_law_bent : Option Addr} {sl_law_bent : Array (Option Value)} {oc_law_bent kV_law_bent dc_law_bent pm_law_bent cd_law_bent ct_law_bent : Value} {f_law_flaw : Addr} {od_law_flaw an_law_flaw : Option Addr} {sl_law_flaw : Array (Option Value)} {oc_law_flaw kV_law_flaw dc_law_flaw pm_law_flaw cd_law_flaw ct_law_flaw : Value} {f_sizes_are_right : Addr} {od_sizes_are_right an_sizes_are_right : Option Addr} {sl_sizes_are_right : Array (Option Value)} {oc_sizes_are_right kV_sizes_are_right dc_sizes_are_right pm_sizes_are_right cd_sizes_are_right ct_sizes_are_right : Value} {f_is_count : Addr} {od_is_count an_is_count : Option Addr} {sl_is_count : Array (Option Value)} {oc_is_count kV_is_count dc_is_count pm_is_count cd_is_count ct_is_count : Value} {f_flaw_of : Addr} {od_flaw_of an_flaw_of : Option Addr} {sl_flaw_of : Array (Option Value)} {oc_flaw_of kV_flaw_of dc_flaw_of pm_flaw_of cd_flaw_of ct_flaw_of : Value} {f_flaw : Addr} {od_flaw an_flaw : Option Addr} {sl_flaw : Array (Option Value)} {oc_flaw kV_flaw dc_flaw pm_flaw cd_flaw ct_flaw : Value} {f_table_is_right : Addr} {od_table_is_right an_table_is_right : Option Addr} {sl_table_is_right : Array (Option Value)} {oc_table_is_right kV_table_is_right dc_table_is_right pm_table_is_right cd_table_is_right ct_table_is_right : Value} {f_is_table : Addr} {od_is_table an_is_table : Option Addr} {sl_is_table : Array (Option Value)} {oc_is_table kV_is_table dc_is_table pm_is_table cd_is_table ct_is_table : Value} {f_law_flaws_right : Addr} {od_law_flaws_right an_law_flaws_right : Option Addr} {sl_law_flaws_right : Array (Option Value)} {oc_law_flaws_right kV_law_flaws_right dc_law_flaws_right pm_law_flaws_right cd_law_flaws_right ct_law_flaws_right : Value} {f_law : Addr} {od_law an_law : Option Addr} {sl_law : Array (Option Value)} {oc_law kV_law dc_law pm_law cd_law ct_law : Value} {t_0 : Tok} {t_1 : Tok}
    (a_law_pot___law_pot : PySem.W.nsIn K mainGlobals "_law_pot" = some (some (.ref f_law_pot)))
    (l_law_pot : K.lookup f_law_pot = some ⟨oc_law_pot, od_law_pot, .func (PySem.W.fnOf "_law_pot" "_law_pot" (defArgs (top 45)) (defBody (top 45)) (defScope (top 45)) .none kV_law_pot dc_law_pot pm_law_pot an_law_pot cd_law_pot ct_law_pot), sl_law_pot⟩)
    (c_law_pot : PySem.W.codeIn K cd_law_pot "_law_pot" = true)
    (k_law_pot : PySem.W.keepIn K (.ref f_law_pot) = true)
    (a_law_draw___law_draw : PySem.W.nsIn K mainGlobals "_law_draw" = some (some (.ref f_law_draw)))
    (l_law_draw : K.lookup f_law_draw = some ⟨oc_law_draw, od_law_draw, .func (PySem.W.fnOf "_law_draw" "_law_draw" (defArgs (top 46)) (defBody (top 46)) (defScope (top 46)) .none kV_law_draw dc_law_draw pm_law_draw an_law_draw cd_law_draw ct_law_draw), sl_law_draw⟩)
    (c_law_draw : PySem.W.codeIn K cd_law_draw "_law_draw" = true)
    (k_law_draw : PySem.W.keepIn K (.ref f_law_draw) = true)
    (a_law_pick___law_pick : PySem.W.nsIn K mainGlobals "_law_pick" = some (some (.ref f_law_pick)))
    (l_law_pick : K.lookup f_law_pick = some ⟨oc_law_pick, od_law_pick, .func (PySem.W.fnOf "_law_pick" "_law_pick" (defArgs (top 47)) (defBody (top 47)) (defScope (top 47)) .none kV_law_pick dc_law_pick pm_law_pick an_law_pick cd_law_pick ct_law_pick), sl_law_pick⟩)
    (c_law_pick : PySem.W.codeIn K cd_law_pick "_law_pick" = true)
    (k_law_pick : PySem.W.keepIn K (.ref f_law_pick) = true)
    (a_law_low___law_low : PySem.W.nsIn K mainGlobals "_law_low" = some (some (.ref f_law_low)))
    (l_law_low : K.lookup f_law_low = some ⟨oc_law_low, od_law_low, .func (PySem.W.fnOf "_law_low" "_law_low" (defArgs (top 57)) (defBody (top 57)) (defScope (top 57)) .none kV_law_low dc_law_low pm_law_low an_law_low cd_law_low ct_law_low), sl_law_low⟩)
    (c_law_low : PySem.W.codeIn K cd_law_low "_law_low" = true)
    (k_law_low : PySem.W.keepIn K (.ref f_law_low) = true)
    (a_law_ratio___law_ratio : PySem.W.nsIn K mainGlobals "_law_ratio" = some (some (.ref f_law_ratio)))
    (l_law_ratio : K.lookup f_law_ratio = some ⟨oc_law_ratio, od_law_ratio, .func (PySem.W.fnOf "_law_ratio" "_law_ratio" (defArgs (top 58)) (defBody (top 58)) (defScope (top 58)) .none kV_law_ratio dc_law_ratio pm_law_ratio an_law_ratio cd_law_ratio ct_law_ratio), sl_law_ratio⟩)
    (c_law_ratio : PySem.W.codeIn K cd_law_ratio "_law_ratio" = true)
    (k_law_ratio : PySem.W.keepIn K (.ref f_law_ratio) = true)
    (a_is_integer__is_integer : PySem.W.nsIn K mainGlobals "is_integer" = some (some (.ref f_is_integer)))
    (l_is_integer : K.lookup f_is_integer = some ⟨oc_is_integer, od_is_integer, .func (PySem.W.fnOf "is_integer" "is_integer" (defArgs (top 3)) (defBody (top 3)) (defScope (top 3)) .none kV_is_integer dc_is_integer pm_is_integer an_is_integer cd_is_integer ct_is_integer), sl_is_integer⟩)
    (c_is_integer : PySem.W.codeIn K cd_is_integer "is_integer" = true)
    (k_is_integer : PySem.W.keepIn K (.ref f_is_integer) = true)
    (a_is_ratio_basics__is_ratio_basics : PySem.W.nsIn K mainGlobals "is_ratio_basics" = some (some (.ref f_is_ratio_basics)))
    (l_is_ratio_basics : K.lookup f_is_ratio_basics = some ⟨oc_is_ratio_basics, od_is_ratio_basics, .func (PySem.W.fnOf "is_ratio" "is_ratio" (defArgs (top 5)) (defBody (top 5)) (defScope (top 5)) .none kV_is_ratio_basics dc_is_ratio_basics pm_is_ratio_basics an_is_ratio_basics cd_is_ratio_basics ct_is_ratio_basics), sl_is_ratio_basics⟩)
    (c_is_ratio_basics : PySem.W.codeIn K cd_is_ratio_basics "is_ratio" = true)
    (k_is_ratio_basics : PySem.W.keepIn K (.ref f_is_ratio_basics) = true)
    (a_check_both__check_both : PySem.W.nsIn K mainGlobals "check_both" = some (some (.ref f_check_both)))
    (l_check_both : K.lookup f_check_both = some ⟨oc_check_both, od_check_both, .func (PySem.W.fnOf "check_both" "check_both" (defArgs (top 23)) (defBody (top 23)) (defScope (top 23)) .none kV_check_both dc_check_both pm_check_both an_check_both cd_check_both ct_check_both), sl_check_both⟩)
    (c_check_both : PySem.W.codeIn K cd_check_both "check_both" = true)
    (k_check_both : PySem.W.keepIn K (.ref f_check_both) = true)
    (a_made__made : PySem.W.nsIn K mainGlobals "made" = some (some (.ref f_made)))
    (l_made : K.lookup f_made = some ⟨oc_made, od_made, .func (PySem.W.fnOf "made" "made" (defArgs (top 15)) (defBody (top 15)) (defScope (top 15)) .none kV_made dc_made pm_made an_made cd_made ct_made), sl_made⟩)
    (c_made : PySem.W.codeIn K cd_made "made" = true)
    (k_made : PySem.W.keepIn K (.ref f_made) = true)
    (a_r_plus__r_plus : PySem.W.nsIn K mainGlobals "r_plus" = some (some (.ref f_r_plus)))
    (l_r_plus : K.lookup f_r_plus = some ⟨oc_r_plus, od_r_plus, .func (PySem.W.fnOf "r_plus" "r_plus" (defArgs (top 17)) (defBody (top 17)) (defScope (top 17)) .none kV_r_plus dc_r_plus pm_r_plus an_r_plus cd_r_plus ct_r_plus), sl_r_plus⟩)
    (c_r_plus : PySem.W.codeIn K cd_r_plus "r_plus" = true)
    (k_r_plus : PySem.W.keepIn K (.ref f_r_plus) = true)
    (a_plus__plus : PySem.W.nsIn K mainGlobals "plus" = some (some (.ref f_plus)))
    (l_plus : K.lookup f_plus = some ⟨oc_plus, od_plus, .func (PySem.W.fnOf "plus" "plus" (defArgs (top 28)) (defBody (top 28)) (defScope (top 28)) .none kV_plus dc_plus pm_plus an_plus cd_plus ct_plus), sl_plus⟩)
    (c_plus : PySem.W.codeIn K cd_plus "plus" = true)
    (k_plus : PySem.W.keepIn K (.ref f_plus) = true)
    (a_r_minus__r_minus : PySem.W.nsIn K mainGlobals "r_minus" = some (some (.ref f_r_minus)))
    (l_r_minus : K.lookup f_r_minus = some ⟨oc_r_minus, od_r_minus, .func (PySem.W.fnOf "r_minus" "r_minus" (defArgs (top 18)) (defBody (top 18)) (defScope (top 18)) .none kV_r_minus dc_r_minus pm_r_minus an_r_minus cd_r_minus ct_r_minus), sl_r_minus⟩)
    (c_r_minus : PySem.W.codeIn K cd_r_minus "r_minus" = true)
    (k_r_minus : PySem.W.keepIn K (.ref f_r_minus) = true)
    (a_minus__minus : PySem.W.nsIn K mainGlobals "minus" = some (some (.ref f_minus)))
    (l_minus : K.lookup f_minus = some ⟨oc_minus, od_minus, .func (PySem.W.fnOf "minus" "minus" (defArgs (top 29)) (defBody (top 29)) (defScope (top 29)) .none kV_minus dc_minus pm_minus an_minus cd_minus ct_minus), sl_minus⟩)
    (c_minus : PySem.W.codeIn K cd_minus "minus" = true)
    (k_minus : PySem.W.keepIn K (.ref f_minus) = true)
    (a_r_times__r_times : PySem.W.nsIn K mainGlobals "r_times" = some (some (.ref f_r_times)))
    (l_r_times : K.lookup f_r_times = some ⟨oc_r_times, od_r_times, .func (PySem.W.fnOf "r_times" "r_times" (defArgs (top 19)) (defBody (top 19)) (defScope (top 19)) .none kV_r_times dc_r_times pm_r_times an_r_times cd_r_times ct_r_times), sl_r_times⟩)
    (c_r_times : PySem.W.codeIn K cd_r_times "r_times" = true)
    (k_r_times : PySem.W.keepIn K (.ref f_r_times) = true)
    (a_times__times : PySem.W.nsIn K mainGlobals "times" = some (some (.ref f_times)))
    (l_times : K.lookup f_times = some ⟨oc_times, od_times, .func (PySem.W.fnOf "times" "times" (defArgs (top 30)) (defBody (top 30)) (defScope (top 30)) .none kV_times dc_times pm_times an_times cd_times ct_times), sl_times⟩)
    (c_times : PySem.W.codeIn K cd_times "times" = true)
    (k_times : PySem.W.keepIn K (.ref f_times) = true)
    (a_r_less__r_less : PySem.W.nsIn K mainGlobals "r_less" = some (some (.ref f_r_less)))
    (l_r_less : K.lookup f_r_less = some ⟨oc_r_less, od_r_less, .func (PySem.W.fnOf "r_less" "r_less" (defArgs (top 21)) (defBody (top 21)) (defScope (top 21)) .none kV_r_less dc_r_less pm_r_less an_r_less cd_r_less ct_r_less), sl_r_less⟩)
    (c_r_less : PySem.W.codeIn K cd_r_less "r_less" = true)
    (k_r_less : PySem.W.keepIn K (.ref f_r_less) = true)
    (a_is_below__is_below : PySem.W.nsIn K mainGlobals "is_below" = some (some (.ref f_is_below)))
    (l_is_below : K.lookup f_is_below = some ⟨oc_is_below, od_is_below, .func (PySem.W.fnOf "is_below" "is_below" (defArgs (top 35)) (defBody (top 35)) (defScope (top 35)) .none kV_is_below dc_is_below pm_is_below an_is_below cd_is_below ct_is_below), sl_is_below⟩)
    (c_is_below : PySem.W.codeIn K cd_is_below "is_below" = true)
    (k_is_below : PySem.W.keepIn K (.ref f_is_below) = true)
    (a_r_over__r_over : PySem.W.nsIn K mainGlobals "r_over" = some (some (.ref f_r_over)))
    (l_r_over : K.lookup f_r_over = some ⟨oc_r_over, od_r_over, .func (PySem.W.fnOf "r_over" "r_over" (defArgs (top 20)) (defBody (top 20)) (defScope (top 20)) .none kV_r_over dc_r_over pm_r_over an_r_over cd_r_over ct_r_over), sl_r_over⟩)
    (c_r_over : PySem.W.codeIn K cd_r_over "r_over" = true)
    (k_r_over : PySem.W.keepIn K (.ref f_r_over) = true)
    (a_over__over : PySem.W.nsIn K mainGlobals "over" = some (some (.ref f_over)))
    (l_over : K.lookup f_over = some ⟨oc_over, od_over, .func (PySem.W.fnOf "over" "over" (defArgs (top 31)) (defBody (top 31)) (defScope (top 31)) .none kV_over dc_over pm_over an_over cd_over ct_over), sl_over⟩)
    (c_over : PySem.W.codeIn K cd_over "over" = true)
    (k_over : PySem.W.keepIn K (.ref f_over) = true)
    (a_ratio__ratio : PySem.W.nsIn K mainGlobals "ratio" = some (some (.ref f_ratio)))
    (l_ratio : K.lookup f_ratio = some ⟨oc_ratio, od_ratio, .func (PySem.W.fnOf "ratio" "ratio" (defArgs (top 27)) (defBody (top 27)) (defScope (top 27)) .none kV_ratio dc_ratio pm_ratio an_ratio cd_ratio ct_ratio), sl_ratio⟩)
    (c_ratio : PySem.W.codeIn K cd_ratio "ratio" = true)
    (k_ratio : PySem.W.keepIn K (.ref f_ratio) = true)
    (a_is_list__is_list : PySem.W.nsIn K mainGlobals "is_list" = some (some (.ref f_is_list)))
    (l_is_list : K.lookup f_is_list = some ⟨oc_is_list, od_is_list, .func (PySem.W.fnOf "is_list" "is_list" (defArgs (top 2)) (defBody (top 2)) (defScope (top 2)) .none kV_is_list dc_is_list pm_is_list an_is_list cd_is_list ct_is_list), sl_is_list⟩)
    (c_is_list : PySem.W.codeIn K cd_is_list "is_list" = true)
    (k_is_list : PySem.W.keepIn K (.ref f_is_list) = true)
    (a_check_numbers__check_numbers : PySem.W.nsIn K mainGlobals "check_numbers" = some (some (.ref f_check_numbers)))
    (l_check_numbers : K.lookup f_check_numbers = some ⟨oc_check_numbers, od_check_numbers, .func (PySem.W.fnOf "check_numbers" "check_numbers" (defArgs (top 24)) (defBody (top 24)) (defScope (top 24)) .none kV_check_numbers dc_check_numbers pm_check_numbers an_check_numbers cd_check_numbers ct_check_numbers), sl_check_numbers⟩)
    (c_check_numbers : PySem.W.codeIn K cd_check_numbers "check_numbers" = true)
    (k_check_numbers : PySem.W.keepIn K (.ref f_check_numbers) = true)
    (a_common__common : PySem.W.nsIn K mainGlobals "common" = some (some (.ref f_common)))
    (l_common : K.lookup f_common = some ⟨oc_common, od_common, .func (PySem.W.fnOf "common" "common" (defArgs (top 16)) (defBody (top 16)) (defScope (top 16)) .none kV_common dc_common pm_common an_common cd_common ct_common), sl_common⟩)
    (c_common : PySem.W.codeIn K cd_common "common" = true)
    (k_common : PySem.W.keepIn K (.ref f_common) = true)
    (a_r_total__r_total : PySem.W.nsIn K mainGlobals "r_total" = some (some (.ref f_r_total)))
    (l_r_total : K.lookup f_r_total = some ⟨oc_r_total, od_r_total, .func (PySem.W.fnOf "r_total" "r_total" (defArgs (top 22)) (defBody (top 22)) (defScope (top 22)) .none kV_r_total dc_r_total pm_r_total an_r_total cd_r_total ct_r_total), sl_r_total⟩)
    (c_r_total : PySem.W.codeIn K cd_r_total "r_total" = true)
    (k_r_total : PySem.W.keepIn K (.ref f_r_total) = true)
    (a_total__total : PySem.W.nsIn K mainGlobals "total" = some (some (.ref f_total)))
    (l_total : K.lookup f_total = some ⟨oc_total, od_total, .func (PySem.W.fnOf "total" "total" (defArgs (top 32)) (defBody (top 32)) (defScope (top 32)) .none kV_total dc_total pm_total an_total cd_total ct_total), sl_total⟩)
    (c_total : PySem.W.codeIn K cd_total "total" = true)
    (k_total : PySem.W.keepIn K (.ref f_total) = true)
    (a_least__least : PySem.W.nsIn K mainGlobals "least" = some (some (.ref f_least)))
    (l_least : K.lookup f_least = some ⟨oc_least, od_least, .func (PySem.W.fnOf "least" "least" (defArgs (top 33)) (defBody (top 33)) (defScope (top 33)) .none kV_least dc_least pm_least an_least cd_least ct_least), sl_least⟩)
    (c_least : PySem.W.codeIn K cd_least "least" = true)
    (k_least : PySem.W.keepIn K (.ref f_least) = true)
    (a_greatest__greatest : PySem.W.nsIn K mainGlobals "greatest" = some (some (.ref f_greatest)))
    (l_greatest : K.lookup f_greatest = some ⟨oc_greatest, od_greatest, .func (PySem.W.fnOf "greatest" "greatest" (defArgs (top 34)) (defBody (top 34)) (defScope (top 34)) .none kV_greatest dc_greatest pm_greatest an_greatest cd_greatest ct_greatest), sl_greatest⟩)
    (c_greatest : PySem.W.codeIn K cd_greatest "greatest" = true)
    (k_greatest : PySem.W.keepIn K (.ref f_greatest) = true)
    (a_law_is_int___law_is_int : PySem.W.nsIn K mainGlobals "_law_is_int" = some (some (.ref f_law_is_int)))
    (l_law_is_int : K.lookup f_law_is_int = some ⟨oc_law_is_int, od_law_is_int, .func (PySem.W.fnOf "_law_is_int" "_law_is_int" (defArgs (top 48)) (defBody (top 48)) (defScope (top 48)) .none kV_law_is_int dc_law_is_int pm_law_is_int an_law_is_int cd_law_is_int ct_law_is_int), sl_law_is_int⟩)
    (c_law_is_int : PySem.W.codeIn K cd_law_is_int "_law_is_int" = true)
    (k_law_is_int : PySem.W.keepIn K (.ref f_law_is_int) = true)
    (a_law_is_ratio___law_is_ratio : PySem.W.nsIn K mainGlobals "_law_is_ratio" = some (some (.ref f_law_is_ratio)))
    (l_law_is_ratio : K.lookup f_law_is_ratio = some ⟨oc_law_is_ratio, od_law_is_ratio, .func (PySem.W.fnOf "_law_is_ratio" "_law_is_ratio" (defArgs (top 59)) (defBody (top 59)) (defScope (top 59)) .none kV_law_is_ratio dc_law_is_ratio pm_law_is_ratio an_law_is_ratio cd_law_is_ratio ct_law_is_ratio), sl_law_is_ratio⟩)
    (c_law_is_ratio : PySem.W.codeIn K cd_law_is_ratio "_law_is_ratio" = true)
    (k_law_is_ratio : PySem.W.keepIn K (.ref f_law_is_ratio) = true)
    (a_is_ratio_ratios__is_ratio_ratios : PySem.W.nsIn K mainGlobals "is_ratio_ratios" = some (some (.ref f_is_ratio_ratios)))
    (l_is_ratio_ratios : K.lookup f_is_ratio_ratios = some ⟨oc_is_ratio_ratios, od_is_ratio_ratios, .func (PySem.W.fnOf "is_ratio" "is_ratio" (defArgs (top 25)) (defBody (top 25)) (defScope (top 25)) .none kV_is_ratio_ratios dc_is_ratio_ratios pm_is_ratio_ratios an_is_ratio_ratios cd_is_ratio_ratios ct_is_ratio_ratios), sl_is_ratio_ratios⟩)
    (c_is_ratio_ratios : PySem.W.codeIn K cd_is_ratio_ratios "is_ratio" = true)
    (k_is_ratio_ratios : PySem.W.keepIn K (.ref f_is_ratio_ratios) = true)
    (a_law_numbers_right___law_numbers_right : PySem.W.nsIn K mainGlobals "_law_numbers_right" = some (some (.ref f_law_numbers_right)))
    (l_law_numbers_right : K.lookup f_law_numbers_right = some ⟨oc_law_numbers_right, od_law_numbers_right, .func (PySem.W.fnOf "_law_numbers_right" "_law_numbers_right" (defArgs (top 62)) (defBody (top 62)) (defScope (top 62)) .none kV_law_numbers_right dc_law_numbers_right pm_law_numbers_right an_law_numbers_right cd_law_numbers_right ct_law_numbers_right), sl_law_numbers_right⟩)
    (c_law_numbers_right : PySem.W.codeIn K cd_law_numbers_right "_law_numbers_right" = true)
    (k_law_numbers_right : PySem.W.keepIn K (.ref f_law_numbers_right) = true)
    (a_law_any___law_any : PySem.W.nsIn K mainGlobals "_law_any" = some (some (.ref f_law_any)))
    (l_law_any : K.lookup f_law_any = some ⟨oc_law_any, od_law_any, .func (PySem.W.fnOf "_law_any" "_law_any" (defArgs (top 51)) (defBody (top 51)) (defScope (top 51)) .none kV_law_any dc_law_any pm_law_any an_law_any cd_law_any ct_law_any), sl_law_any⟩)
    (c_law_any : PySem.W.codeIn K cd_law_any "_law_any" = true)
    (k_law_any : PySem.W.keepIn K (.ref f_law_any) = true)
    (a_law_bent___law_bent : PySem.W.nsIn K mainGlobals "_law_bent" = some (some (.ref f_law_bent)))
    (l_law_bent : K.lookup f_law_bent = some ⟨oc_law_bent, od_law_bent, .func (PySem.W.fnOf "_law_bent" "_law_bent" (defArgs (top 61)) (defBody (top 61)) (defScope (top 61)) .none kV_law_bent dc_law_bent pm_law_bent an_law_bent cd_law_bent ct_law_bent), sl_law_bent⟩)
    (c_law_bent : PySem.W.codeIn K cd_law_bent "_law_bent" = true)
    (k_law_bent : PySem.W.keepIn K (.ref f_law_bent) = true)
    (a_law_flaw___law_flaw : PySem.W.nsIn K mainGlobals "_law_flaw" = some (some (.ref f_law_flaw)))
    (l_law_flaw : K.lookup f_law_flaw = some ⟨oc_law_flaw, od_law_flaw, .func (PySem.W.fnOf "_law_flaw" "_law_flaw" (defArgs (top 60)) (defBody (top 60)) (defScope (top 60)) .none kV_law_flaw dc_law_flaw pm_law_flaw an_law_flaw cd_law_flaw ct_law_flaw), sl_law_flaw⟩)
    (c_law_flaw : PySem.W.codeIn K cd_law_flaw "_law_flaw" = true)
    (k_law_flaw : PySem.W.keepIn K (.ref f_law_flaw) = true)
    (a_sizes_are_right__sizes_are_right : PySem.W.nsIn K mainGlobals "sizes_are_right" = some (some (.ref f_sizes_are_right)))
    (l_sizes_are_right : K.lookup f_sizes_are_right = some ⟨oc_sizes_are_right, od_sizes_are_right, .func (PySem.W.fnOf "sizes_are_right" "sizes_are_right" (defArgs (top 39)) (defBody (top 39)) (defScope (top 39)) .none kV_sizes_are_right dc_sizes_are_right pm_sizes_are_right an_sizes_are_right cd_sizes_are_right ct_sizes_are_right), sl_sizes_are_right⟩)
    (c_sizes_are_right : PySem.W.codeIn K cd_sizes_are_right "sizes_are_right" = true)
    (k_sizes_are_right : PySem.W.keepIn K (.ref f_sizes_are_right) = true)
    (a_is_count__is_count : PySem.W.nsIn K mainGlobals "is_count" = some (some (.ref f_is_count)))
    (l_is_count : K.lookup f_is_count = some ⟨oc_is_count, od_is_count, .func (PySem.W.fnOf "is_count" "is_count" (defArgs (top 4)) (defBody (top 4)) (defScope (top 4)) .none kV_is_count dc_is_count pm_is_count an_is_count cd_is_count ct_is_count), sl_is_count⟩)
    (c_is_count : PySem.W.codeIn K cd_is_count "is_count" = true)
    (k_is_count : PySem.W.keepIn K (.ref f_is_count) = true)
    (a_flaw_of__flaw_of : PySem.W.nsIn K mainGlobals "flaw_of" = some (some (.ref f_flaw_of)))
    (l_flaw_of : K.lookup f_flaw_of = some ⟨oc_flaw_of, od_flaw_of, .func (PySem.W.fnOf "flaw_of" "flaw_of" (defArgs (top 40)) (defBody (top 40)) (defScope (top 40)) .none kV_flaw_of dc_flaw_of pm_flaw_of an_flaw_of cd_flaw_of ct_flaw_of), sl_flaw_of⟩)
    (c_flaw_of : PySem.W.codeIn K cd_flaw_of "flaw_of" = true)
    (k_flaw_of : PySem.W.keepIn K (.ref f_flaw_of) = true)
    (a_flaw__flaw : PySem.W.nsIn K mainGlobals "flaw" = some (some (.ref f_flaw)))
    (l_flaw : K.lookup f_flaw = some ⟨oc_flaw, od_flaw, .func (PySem.W.fnOf "flaw" "flaw" (defArgs (top 43)) (defBody (top 43)) (defScope (top 43)) .none kV_flaw dc_flaw pm_flaw an_flaw cd_flaw ct_flaw), sl_flaw⟩)
    (c_flaw : PySem.W.codeIn K cd_flaw "flaw" = true)
    (k_flaw : PySem.W.keepIn K (.ref f_flaw) = true)
    (a_table_is_right__table_is_right : PySem.W.nsIn K mainGlobals "table_is_right" = some (some (.ref f_table_is_right)))
    (l_table_is_right : K.lookup f_table_is_right = some ⟨oc_table_is_right, od_table_is_right, .func (PySem.W.fnOf "table_is_right" "table_is_right" (defArgs (top 41)) (defBody (top 41)) (defScope (top 41)) .none kV_table_is_right dc_table_is_right pm_table_is_right an_table_is_right cd_table_is_right ct_table_is_right), sl_table_is_right⟩)
    (c_table_is_right : PySem.W.codeIn K cd_table_is_right "table_is_right" = true)
    (k_table_is_right : PySem.W.keepIn K (.ref f_table_is_right) = true)
    (a_is_table__is_table : PySem.W.nsIn K mainGlobals "is_table" = some (some (.ref f_is_table)))
    (l_is_table : K.lookup f_is_table = some ⟨oc_is_table, od_is_table, .func (PySem.W.fnOf "is_table" "is_table" (defArgs (top 42)) (defBody (top 42)) (defScope (top 42)) .none kV_is_table dc_is_table pm_is_table an_is_table cd_is_table ct_is_table), sl_is_table⟩)
    (c_is_table : PySem.W.codeIn K cd_is_table "is_table" = true)
    (k_is_table : PySem.W.keepIn K (.ref f_is_table) = true)
    (a_law_flaws_right___law_flaws_right : PySem.W.nsIn K mainGlobals "_law_flaws_right" = some (some (.ref f_law_flaws_right)))
    (l_law_flaws_right : K.lookup f_law_flaws_right = some ⟨oc_law_flaws_right, od_law_flaws_right, .func (PySem.W.fnOf "_law_flaws_right" "_law_flaws_right" (defArgs (top 63)) (defBody (top 63)) (defScope (top 63)) .none kV_law_flaws_right dc_law_flaws_right pm_law_flaws_right an_law_flaws_right cd_law_flaws_right ct_law_flaws_right), sl_law_flaws_right⟩)
    (c_law_flaws_right : PySem.W.codeIn K cd_law_flaws_right "_law_flaws_right" = true)
    (k_law_flaws_right : PySem.W.keepIn K (.ref f_law_flaws_right) = true)
    (a_law__law : PySem.W.nsIn K mainGlobals "law" = some (some (.ref f_law)))
    (l_law : K.lookup f_law = some ⟨oc_law, od_law, .func (PySem.W.fnOf "law" "law" (defArgs (top 64)) (defBody (top 64)) (defScope (top 64)) .none kV_law dc_law pm_law an_law cd_law ct_law), sl_law⟩)
    (c_law : PySem.W.codeIn K cd_law "law" = true)
    (k_law : PySem.W.keepIn K (.ref f_law) = true)
    (z_len : PySem.W.nsIn K mainGlobals "len" = some none)
    (z_abs : PySem.W.nsIn K mainGlobals "abs" = some none)
    (z_int : PySem.W.nsIn K mainGlobals "int" = some none)
    (z_max : PySem.W.nsIn K mainGlobals "max" = some none)
    (z_min : PySem.W.nsIn K mainGlobals "min" = some none)
    (z_sum : PySem.W.nsIn K mainGlobals "sum" = some none)
    (z_all : PySem.W.nsIn K mainGlobals "all" = some none)
    (z_any : PySem.W.nsIn K mainGlobals "any" = some none)
    (z_tuple : PySem.W.nsIn K mainGlobals "tuple" = some none)
    (z_list : PySem.W.nsIn K mainGlobals "list" = some none)
    (z_repr : PySem.W.nsIn K mainGlobals "repr" = some none)
    (z_divmod : PySem.W.nsIn K mainGlobals "divmod" = some none)
    (z_sorted : PySem.W.nsIn K mainGlobals "sorted" = some none)
    (z_str : PySem.W.nsIn K mainGlobals "str" = some none)
    (z_bool : PySem.W.nsIn K mainGlobals "bool" = some none)
    (z_isinstance : PySem.W.nsIn K mainGlobals "isinstance" = some none)
    (z_range : PySem.W.nsIn K mainGlobals "range" = some none)
    (z_enumerate : PySem.W.nsIn K mainGlobals "enumerate" = some none)
    (z_zip : PySem.W.nsIn K mainGlobals "zip" = some none)
    (z_gcd : PySem.W.nsIn K mainGlobals "gcd" = some (some (.builtin "math.gcd")))
    (n_0 : PySem.W.nsIn K mainGlobals "MOST_TOWNS" = some (some (.int 8 t_0)))
    (n_1 : PySem.W.nsIn K mainGlobals "MOST_FAR" = some (some (.int 999 t_1))) :
    ∃ fd : FuncData, (∀ (s : Shared) (v : Value), BindsTo s fd ⟨[v], []⟩ [("script", v)]) ∧ ∀ base : Heap, K.In base → base.Ns mainGlobals mg → FnG l.prog w K mg base CX0 44 fa fd ["script"] (spOf K mg 1 m_law) := by
  have e := hfa.symm.trans (PySem.W.mg_of X G a_law__law)
  cases e
  have hz : ∀ x ∈ bltNames, mg x = none := by
    intro x hx
    simp only [bltNames, List.mem_cons, List.not_mem_nil, or_false] at hx
    rcases hx with rfl | rfl | rfl | rfl | rfl | rfl | rfl | rfl | rfl | rfl | rfl | rfl | rfl | rfl | rfl | rfl | rfl | rfl | rfl
    · exact PySem.W.mg_none_of X G z_len
    · exact PySem.W.mg_none_of X G z_abs
    · exact PySem.W.mg_none_of X G z_int
    · exact PySem.W.mg_none_of X G z_max
    · exact PySem.W.mg_none_of X G z_min
    · exact PySem.W.mg_none_of X G z_sum
    · exact PySem.W.mg_none_of X G z_all
    · exact PySem.W.mg_none_of X G z_any
    · exact PySem.W.mg_none_of X G z_tuple
    · exact PySem.W.mg_none_of X G z_list
    · exact PySem.W.mg_none_of X G z_repr
    · exact PySem.W.mg_none_of X G z_divmod
    · exact PySem.W.mg_none_of X G z_sorted
    · exact PySem.W.mg_none_of X G z_str
    · exact PySem.W.mg_none_of X G z_bool
    · exact PySem.W.mg_none_of X G z_isinstance
    · exact PySem.W.mg_none_of X G z_range
    · exact PySem.W.mg_none_of X G z_enumerate
    · exact PySem.W.mg_none_of X G z_zip
  have tc : TopC mg K cnames cs true := ⟨.cons (con_int (PySem.W.mg_of X G n_0)) (.cons (con_int (PySem.W.mg_of X G n_1)) (.nil)), hz, fun h => PySem.W.mg_of X G z_gcd⟩
  have F_law_pot := L2.fun_mk (st := top 45) l_law_pot c_law_pot k_law_pot
  have F_law_draw := L2.fun_mk (st := top 46) l_law_draw c_law_draw k_law_draw
  have F_law_pick := L2.fun_mk (st := top 47) l_law_pick c_law_pick k_law_pick
  have F_law_low := L2.fun_mk (st := top 57) l_law_low c_law_low k_law_low
  have F_law_ratio := L2.fun_mk (st := top 58) l_law_ratio c_law_ratio k_law_ratio
  have F_is_integer := L2.fun_mk (st := top 3) l_is_integer c_is_integer k_is_integer
  have F_is_ratio_basics := L2.fun_mk (st := top 5) l_is_ratio_basics c_is_ratio_basics k_is_ratio_basics
  have F_check_both := L2.fun_mk (st := top 23) l_check_both c_check_both k_check_both
  have F_made := L2.fun_mk (st := top 15) l_made c_made k_made
  have F_r_plus := L2.fun_mk (st := top 17) l_r_plus c_r_plus k_r_plus
  have F_plus := L2.fun_mk (st := top 28) l_plus c_plus k_plus
  have F_r_minus := L2.fun_mk (st := top 18) l_r_minus c_r_minus k_r_minus
  have F_minus := L2.fun_mk (st := top 29) l_minus c_minus k_minus
  have F_r_times := L2.fun_mk (st := top 19) l_r_times c_r_times k_r_times
  have F_times := L2.fun_mk (st := top 30) l_times c_times k_times
  have F_r_less := L2.fun_mk (st := top 21) l_r_less c_r_less k_r_less
  have F_is_below := L2.fun_mk (st := top 35) l_is_below c_is_below k_is_below
  have F_r_over := L2.fun_mk (st := top 20) l_r_over c_r_over k_r_over
  have F_over := L2.fun_mk (st := top 31) l_over c_over k_over
  have F_ratio := L2.fun_mk (st := top 27) l_ratio c_ratio k_ratio
  have F_is_list := L2.fun_mk (st := top 2) l_is_list c_is_list k_is_list
  have F_check_numbers := L2.fun_mk (st := top 24) l_check_numbers c_check_numbers k_check_numbers
  have F_common := L2.fun_mk (st := top 16) l_common c_common k_common
  have F_r_total := L2.fun_mk (st := top 22) l_r_total c_r_total k_r_total
  have F_total := L2.fun_mk (st := top 32) l_total c_total k_total
  have F_least := L2.fun_mk (st := top 33) l_least c_least k_least
  have F_greatest := L2.fun_mk (st := top 34) l_greatest c_greatest k_greatest
  have F_law_is_int := L2.fun_mk (st := top 48) l_law_is_int c_law_is_int k_law_is_int
  have F_law_is_ratio := L2.fun_mk (st := top 59) l_law_is_ratio c_law_is_ratio k_law_is_ratio
  have F_is_ratio_ratios := L2.fun_mk (st := top 25) l_is_ratio_ratios c_is_ratio_ratios k_is_ratio_ratios
  have F_law_numbers_right := L2.fun_mk (st := top 62) l_law_numbers_right c_law_numbers_right k_law_numbers_right
  have F_law_any := L2.fun_mk (st := top 51) l_law_any c_law_any k_law_any
  have F_law_bent := L2.fun_mk (st := top 61) l_law_bent c_law_bent k_law_bent
  have F_law_flaw := L2.fun_mk (st := top 60) l_law_flaw c_law_flaw k_law_flaw
  have F_sizes_are_right := L2.fun_mk (st := top 39) l_sizes_are_right c_sizes_are_right k_sizes_are_right
  have F_is_count := L2.fun_mk (st := top 4) l_is_count c_is_count k_is_count
  have F_flaw_of := L2.fun_mk (st := top 40) l_flaw_of c_flaw_of k_flaw_of
  have F_flaw := L2.fun_mk (st := top 43) l_flaw c_flaw k_flaw
  have F_table_is_right := L2.fun_mk (st := top 41) l_table_is_right c_table_is_right k_table_is_right
  have F_is_table := L2.fun_mk (st := top 42) l_is_table c_is_table k_is_table
  have F_law_flaws_right := L2.fun_mk (st := top 63) l_law_flaws_right c_law_flaws_right k_law_flaws_right
  have F_law := L2.fun_mk (st := top 64) l_law c_law k_law
  refine ⟨PySem.W.fnOf "law" "law" (defArgs (top 64)) (defBody (top 64)) (defScope (top 64)) .none kV_law dc_law pm_law an_law cd_law ct_law, fun s v => .of_eq rfl, fun base _ _ => ?_⟩
  have g_law_pot := ok_law_pot (base := base) tc (cxOk0 (P := l.prog) (w := w)) F_law_pot 
  have t_law_pot___law_pot : FnAt l.prog w K mg base CX0 1 "_law_pot" ["script", "k"] [] m_law_pot := ⟨_, _, PySem.W.mg_of X G a_law_pot___law_pot, k_law_pot, (fun us hl => match us, hl with | [_, _], _ => rfl), fun np ks perm h => by simp at h, g_law_pot⟩
  have g_law_draw := ok_law_draw (base := base) tc (cxOk0 (P := l.prog) (w := w)) F_law_draw 
  have t_law_draw___law_draw : FnAt l.prog w K mg base CX0 1 "_law_draw" ["pot", "many"] [] m_law_draw := ⟨_, _, PySem.W.mg_of X G a_law_draw___law_draw, k_law_draw, (fun us hl => match us, hl with | [_, _], _ => rfl), fun np ks perm h => by simp at h, g_law_draw⟩
  have g_law_pick := ok_law_pick (base := base) tc (cxOk0 (P := l.prog) (w := w)) F_law_pick t_law_draw___law_draw
  have t_law_pick___law_pick : FnAt l.prog w K mg base CX0 2 "_law_pick" ["pot", "some"] [] m_law_pick := ⟨_, _, PySem.W.mg_of X G a_law_pick___law_pick, k_law_pick, (fun us hl => match us, hl with | [_, _], _ => rfl), fun np ks perm h => by simp at h, g_law_pick⟩
  have g_law_low := ok_law_low (base := base) tc (cxOk0 (P := l.prog) (w := w)) F_law_low 
  have t_law_low___law_low : FnAt l.prog w K mg base CX0 1 "_law_low" ["top", "bottom"] [] m_law_low := ⟨_, _, PySem.W.mg_of X G a_law_low___law_low, k_law_low, (fun us hl => match us, hl with | [_, _], _ => rfl), fun np ks perm h => by simp at h, g_law_low⟩
  have g_law_ratio := ok_law_ratio (base := base) tc (cxOk0 (P := l.prog) (w := w)) F_law_ratio t_law_draw___law_draw t_law_pick___law_pick t_law_low___law_low
  have t_law_ratio___law_ratio : FnAt l.prog w K mg base CX0 3 "_law_ratio" ["pot"] [] m_law_ratio := ⟨_, _, PySem.W.mg_of X G a_law_ratio___law_ratio, k_law_ratio, (fun us hl => match us, hl with | [_], _ => rfl), fun np ks perm h => by simp at h, g_law_ratio⟩
  have g_is_integer := ok_is_integer (base := base) tc (cxOk0 (P := l.prog) (w := w)) F_is_integer 
  have t_is_integer__is_integer : FnAt l.prog w K mg base CX0 1 "is_integer" ["value"] [] m_is_integer := ⟨_, _, PySem.W.mg_of X G a_is_integer__is_integer, k_is_integer, (fun us hl => match us, hl with | [_], _ => rfl), fun np ks perm h => by simp at h, g_is_integer⟩
  have g_is_ratio_basics := ok_is_ratio_basics (base := base) tc (cxOk0 (P := l.prog) (w := w)) F_is_ratio_basics t_is_integer__is_integer
  have t_is_ratio_basics__is_ratio_basics : FnAt l.prog w K mg base CX0 2 "is_ratio_basics" ["value"] [] m_is_ratio_basics := ⟨_, _, PySem.W.mg_of X G a_is_ratio_basics__is_ratio_basics, k_is_ratio_basics, (fun us hl => match us, hl with | [_], _ => rfl), fun np ks perm h => by simp at h, g_is_ratio_basics⟩
  have g_check_both := ok_check_both (base := base) tc (cxOk0 (P := l.prog) (w := w)) F_check_both t_is_ratio_basics__is_ratio_basics
  have t_check_both__check_both : FnAt l.prog w K mg base CX0 3 "check_both" ["one", "other"] [] m_check_both := ⟨_, _, PySem.W.mg_of X G a_check_both__check_both, k_check_both, (fun us hl => match us, hl with | [_, _], _ => rfl), fun np ks perm h => by simp at h, g_check_both⟩
  have g_made := ok_made (base := base) tc (cxOk0 (P := l.prog) (w := w)) F_made 
  have t_made__made : FnAt l.prog w K mg base CX0 1 "made" ["top", "bottom"] [] m_made := ⟨_, _, PySem.W.mg_of X G a_made__made, k_made, (fun us hl => match us, hl with | [_, _], _ => rfl), fun np ks perm h => by simp at h, g_made⟩
  have g_r_plus := ok_r_plus (base := base) tc (cxOk0 (P := l.prog) (w := w)) F_r_plus t_made__made
  have t_r_plus__r_plus : FnAt l.prog w K mg base CX0 2 "r_plus" ["one", "other"] [] m_r_plus := ⟨_, _, PySem.W.mg_of X G a_r_plus__r_plus, k_r_plus, (fun us hl => match us, hl with | [_, _], _ => rfl), fun np ks perm h => by simp at h, g_r_plus⟩
  have g_plus := ok_plus (base := base) tc (cxOk0 (P := l.prog) (w := w)) F_plus t_check_both__check_both t_r_plus__r_plus
  have t_plus__plus : FnAt l.prog w K mg base CX0 4 "plus" ["one", "other"] [(0, ["other", "one"], [1, 0])] m_plus := ⟨_, _, PySem.W.mg_of X G a_plus__plus, k_plus, (fun us hl => match us, hl with | [_, _], _ => rfl), fun np ks perm h => by
      simp only [List.mem_cons, List.not_mem_nil, or_false, Prod.mk.injEq] at h
      rcases h with ⟨rfl, rfl, rfl⟩
      · exact fun us ws h1 h2 => match us, h1, ws, h2 with | [], _, [_, _], _ => ⟨_, rfl, rfl⟩, g_plus⟩
  have g_r_minus := ok_r_minus (base := base) tc (cxOk0 (P := l.prog) (w := w)) F_r_minus t_made__made
  have t_r_minus__r_minus : FnAt l.prog w K mg base CX0 2 "r_minus" ["one", "other"] [] m_r_minus := ⟨_, _, PySem.W.mg_of X G a_r_minus__r_minus, k_r_minus, (fun us hl => match us, hl with | [_, _], _ => rfl), fun np ks perm h => by simp at h, g_r_minus⟩
  have g_minus := ok_minus (base := base) tc (cxOk0 (P := l.prog) (w := w)) F_minus t_check_both__check_both t_r_minus__r_minus
  have t_minus__minus : FnAt l.prog w K mg base CX0 4 "minus" ["one", "other"] [(0, ["other", "one"], [1, 0])] m_minus := ⟨_, _, PySem.W.mg_of X G a_minus__minus, k_minus, (fun us hl => match us, hl with | [_, _], _ => rfl), fun np ks perm h => by
      simp only [List.mem_cons, List.not_mem_nil, or_false, Prod.mk.injEq] at h
      rcases h with ⟨rfl, rfl, rfl⟩
      · exact fun us ws h1 h2 => match us, h1, ws, h2 with | [], _, [_, _], _ => ⟨_, rfl, rfl⟩, g_minus⟩
  have g_r_times := ok_r_times (base := base) tc (cxOk0 (P := l.prog) (w := w)) F_r_times t_made__made
  have t_r_times__r_times : FnAt l.prog w K mg base CX0 2 "r_times" ["one", "other"] [] m_r_times := ⟨_, _, PySem.W.mg_of X G a_r_times__r_times, k_r_times, (fun us hl => match us, hl with | [_, _], _ => rfl), fun np ks perm h => by simp at h, g_r_times⟩
  have g_times := ok_times (base := base) tc (cxOk0 (P := l.prog) (w := w)) F_times t_check_both__check_both t_r_times__r_times
  have t_times__times : FnAt l.prog w K mg base CX0 4 "times" ["one", "other"] [(0, ["other", "one"], [1, 0])] m_times := ⟨_, _, PySem.W.mg_of X G a_times__times, k_times, (fun us hl => match us, hl with | [_, _], _ => rfl), fun np ks perm h => by
      simp only [List.mem_cons, List.not_mem_nil, or_false, Prod.mk.injEq] at h
      rcases h with ⟨rfl, rfl, rfl⟩
      · exact fun us ws h1 h2 => match us, h1, ws, h2 with | [], _, [_, _], _ => ⟨_, rfl, rfl⟩, g_times⟩
  have g_r_less := ok_r_less (base := base) tc (cxOk0 (P := l.prog) (w := w)) F_r_less 
  have t_r_less__r_less : FnAt l.prog w K mg base CX0 1 "r_less" ["one", "other"] [] m_r_less := ⟨_, _, PySem.W.mg_of X G a_r_less__r_less, k_r_less, (fun us hl => match us, hl with | [_, _], _ => rfl), fun np ks perm h => by simp at h, g_r_less⟩
  have g_is_below := ok_is_below (base := base) tc (cxOk0 (P := l.prog) (w := w)) F_is_below t_check_both__check_both t_r_less__r_less
  have t_is_below__is_below : FnAt l.prog w K mg base CX0 4 "is_below" ["one", "other"] [(0, ["other", "one"], [1, 0])] m_is_below := ⟨_, _, PySem.W.mg_of X G a_is_below__is_below, k_is_below, (fun us hl => match us, hl with | [_, _], _ => rfl), fun np ks perm h => by
      simp only [List.mem_cons, List.not_mem_nil, or_false, Prod.mk.injEq] at h
      rcases h with ⟨rfl, rfl, rfl⟩
      · exact fun us ws h1 h2 => match us, h1, ws, h2 with | [], _, [_, _], _ => ⟨_, rfl, rfl⟩, g_is_below⟩
  have g_r_over := ok_r_over (base := base) tc (cxOk0 (P := l.prog) (w := w)) F_r_over t_made__made
  have t_r_over__r_over : FnAt l.prog w K mg base CX0 2 "r_over" ["one", "other"] [] m_r_over := ⟨_, _, PySem.W.mg_of X G a_r_over__r_over, k_r_over, (fun us hl => match us, hl with | [_, _], _ => rfl), fun np ks perm h => by simp at h, g_r_over⟩
  have g_over := ok_over (base := base) tc (cxOk0 (P := l.prog) (w := w)) F_over t_check_both__check_both t_r_over__r_over
  have t_over__over : FnAt l.prog w K mg base CX0 4 "over" ["one", "other"] [(0, ["other", "one"], [1, 0])] m_over := ⟨_, _, PySem.W.mg_of X G a_over__over, k_over, (fun us hl => match us, hl with | [_, _], _ => rfl), fun np ks perm h => by
      simp only [List.mem_cons, List.not_mem_nil, or_false, Prod.mk.injEq] at h
      rcases h with ⟨rfl, rfl, rfl⟩
      · exact fun us ws h1 h2 => match us, h1, ws, h2 with | [], _, [_, _], _ => ⟨_, rfl, rfl⟩, g_over⟩
  have g_ratio := ok_ratio (base := base) tc (cxOk0 (P := l.prog) (w := w)) F_ratio t_is_integer__is_integer t_made__made
  have t_ratio__ratio : FnAt l.prog w K mg base CX0 2 "ratio" ["top", "bottom"] [(0, ["bottom", "top"], [1, 0])] m_ratio := ⟨_, _, PySem.W.mg_of X G a_ratio__ratio, k_ratio, (fun us hl => match us, hl with | [_, _], _ => rfl), fun np ks perm h => by
      simp only [List.mem_cons, List.not_mem_nil, or_false, Prod.mk.injEq] at h
      rcases h with ⟨rfl, rfl, rfl⟩
      · exact fun us ws h1 h2 => match us, h1, ws, h2 with | [], _, [_, _], _ => ⟨_, rfl, rfl⟩, g_ratio⟩
  have g_is_list := ok_is_list (base := base) tc (cxOk0 (P := l.prog) (w := w)) F_is_list 
  have t_is_list__is_list : FnAt l.prog w K mg base CX0 1 "is_list" ["value"] [] m_is_list := ⟨_, _, PySem.W.mg_of X G a_is_list__is_list, k_is_list, (fun us hl => match us, hl with | [_], _ => rfl), fun np ks perm h => by simp at h, g_is_list⟩
  have g_check_numbers := ok_check_numbers (base := base) tc (cxOk0 (P := l.prog) (w := w)) F_check_numbers t_is_list__is_list t_is_ratio_basics__is_ratio_basics
  have t_check_numbers__check_numbers : FnAt l.prog w K mg base CX0 3 "check_numbers" ["numbers"] [] m_check_numbers := ⟨_, _, PySem.W.mg_of X G a_check_numbers__check_numbers, k_check_numbers, (fun us hl => match us, hl with | [_], _ => rfl), fun np ks perm h => by simp at h, g_check_numbers⟩
  have g_common := ok_common (base := base) tc (cxOk0 (P := l.prog) (w := w)) F_common 
  have t_common__common : FnAt l.prog w K mg base CX0 1 "common" ["values"] [] m_common := ⟨_, _, PySem.W.mg_of X G a_common__common, k_common, (fun us hl => match us, hl with | [_], _ => rfl), fun np ks perm h => by simp at h, g_common⟩
  have g_r_total := ok_r_total (base := base) tc (cxOk0 (P := l.prog) (w := w)) F_r_total t_common__common t_made__made
  have t_r_total__r_total : FnAt l.prog w K mg base CX0 2 "r_total" ["values"] [] m_r_total := ⟨_, _, PySem.W.mg_of X G a_r_total__r_total, k_r_total, (fun us hl => match us, hl with | [_], _ => rfl), fun np ks perm h => by simp at h, g_r_total⟩
  have g_total := ok_total (base := base) tc (cxOk0 (P := l.prog) (w := w)) F_total t_check_numbers__check_numbers t_r_total__r_total
  have t_total__total : FnAt l.prog w K mg base CX0 4 "total" ["numbers"] [(0, ["numbers"], [0])] m_total := ⟨_, _, PySem.W.mg_of X G a_total__total, k_total, (fun us hl => match us, hl with | [_], _ => rfl), fun np ks perm h => by
      simp only [List.mem_cons, List.not_mem_nil, or_false, Prod.mk.injEq] at h
      rcases h with ⟨rfl, rfl, rfl⟩
      · exact fun us ws h1 h2 => match us, h1, ws, h2 with | [], _, [_], _ => ⟨_, rfl, rfl⟩, g_total⟩
  have g_least := ok_least (base := base) tc (cxOk0 (P := l.prog) (w := w)) F_least t_check_numbers__check_numbers t_r_less__r_less
  have t_least__least : FnAt l.prog w K mg base CX0 4 "least" ["numbers"] [(0, ["numbers"], [0])] m_least := ⟨_, _, PySem.W.mg_of X G a_least__least, k_least, (fun us hl => match us, hl with | [_], _ => rfl), fun np ks perm h => by
      simp only [List.mem_cons, List.not_mem_nil, or_false, Prod.mk.injEq] at h
      rcases h with ⟨rfl, rfl, rfl⟩
      · exact fun us ws h1 h2 => match us, h1, ws, h2 with | [], _, [_], _ => ⟨_, rfl, rfl⟩, g_least⟩
  have g_greatest := ok_greatest (base := base) tc (cxOk0 (P := l.prog) (w := w)) F_greatest t_check_numbers__check_numbers t_r_less__r_less
  have t_greatest__greatest : FnAt l.prog w K mg base CX0 4 "greatest" ["numbers"] [(0, ["numbers"], [0])] m_greatest := ⟨_, _, PySem.W.mg_of X G a_greatest__greatest, k_greatest, (fun us hl => match us, hl with | [_], _ => rfl), fun np ks perm h => by
      simp only [List.mem_cons, List.not_mem_nil, or_false, Prod.mk.injEq] at h
      rcases h with ⟨rfl, rfl, rfl⟩
      · exact fun us ws h1 h2 => match us, h1, ws, h2 with | [], _, [_], _ => ⟨_, rfl, rfl⟩, g_greatest⟩
  have g_law_is_int := ok_law_is_int (base := base) tc (cxOk0 (P := l.prog) (w := w)) F_law_is_int 
  have t_law_is_int___law_is_int : FnAt l.prog w K mg base CX0 1 "_law_is_int" ["value"] [] m_law_is_int := ⟨_, _, PySem.W.mg_of X G a_law_is_int___law_is_int, k_law_is_int, (fun us hl => match us, hl with | [_], _ => rfl), fun np ks perm h => by simp at h, g_law_is_int⟩
  have g_law_is_ratio := ok_law_is_ratio (base := base) tc (cxOk0 (P := l.prog) (w := w)) F_law_is_ratio t_law_is_int___law_is_int t_law_low___law_low
  have t_law_is_ratio___law_is_ratio : FnAt l.prog w K mg base CX0 2 "_law_is_ratio" ["value"] [] m_law_is_ratio := ⟨_, _, PySem.W.mg_of X G a_law_is_ratio___law_is_ratio, k_law_is_ratio, (fun us hl => match us, hl with | [_], _ => rfl), fun np ks perm h => by simp at h, g_law_is_ratio⟩
  have g_is_ratio_ratios := ok_is_ratio_ratios (base := base) tc (cxOk0 (P := l.prog) (w := w)) F_is_ratio_ratios t_is_ratio_basics__is_ratio_basics
  have t_is_ratio_ratios__is_ratio_ratios : FnAt l.prog w K mg base CX0 3 "is_ratio_ratios" ["value"] [(0, ["value"], [0])] m_is_ratio_ratios := ⟨_, _, PySem.W.mg_of X G a_is_ratio_ratios__is_ratio_ratios, k_is_ratio_ratios, (fun us hl => match us, hl with | [_], _ => rfl), fun np ks perm h => by
      simp only [List.mem_cons, List.not_mem_nil, or_false, Prod.mk.injEq] at h
      rcases h with ⟨rfl, rfl, rfl⟩
      · exact fun us ws h1 h2 => match us, h1, ws, h2 with | [], _, [_], _ => ⟨_, rfl, rfl⟩, g_is_ratio_ratios⟩
  have g_law_numbers_right := ok_law_numbers_right (base := base) tc (cxOk0 (P := l.prog) (w := w)) F_law_numbers_right t_law_ratio___law_ratio t_law_low___law_low t_plus__plus t_minus__minus t_times__times t_is_below__is_below t_over__over t_law_pick___law_pick t_law_draw___law_draw t_ratio__ratio t_total__total t_least__least t_greatest__greatest t_law_is_ratio___law_is_ratio t_is_ratio_ratios__is_ratio_ratios
  have t_law_numbers_right___law_numbers_right : FnAt l.prog w K mg base CX0 5 "_law_numbers_right" ["pot"] [] m_law_numbers_right := ⟨_, _, PySem.W.mg_of X G a_law_numbers_right___law_numbers_right, k_law_numbers_right, (fun us hl => match us, hl with | [_], _ => rfl), fun np ks perm h => by simp at h, g_law_numbers_right⟩
  have g_law_any := ok_law_any (base := base) tc (cxOk0 (P := l.prog) (w := w)) F_law_any t_law_draw___law_draw
  have t_law_any___law_any : FnAt l.prog w K mg base CX0 2 "_law_any" ["pot", "many", "wide"] [] m_law_any := ⟨_, _, PySem.W.mg_of X G a_law_any___law_any, k_law_any, (fun us hl => match us, hl with | [_, _, _], _ => rfl), fun np ks perm h => by simp at h, g_law_any⟩
  have g_law_bent := okn_law_bent (base := base) tc (cxOk0 (P := l.prog) (w := w)) F_law_bent (PySem.W.mg_of X G a_law_bent___law_bent) k_law_bent (fun us hl => match us, hl with | [_, _], _ => rfl) t_law_pick___law_pick t_law_draw___law_draw 40
  have t_law_bent___law_bent : FnAt l.prog w K mg base CX0 42 "_law_bent" ["pot", "value"] [] (m_law_bent 40) := ⟨_, _, PySem.W.mg_of X G a_law_bent___law_bent, k_law_bent, (fun us hl => match us, hl with | [_, _], _ => rfl), fun np ks perm h => by simp at h, g_law_bent⟩
  have g_law_flaw := ok_law_flaw (base := base) tc (cxOk0 (P := l.prog) (w := w)) F_law_flaw t_law_is_int___law_is_int
  have t_law_flaw___law_flaw : FnAt l.prog w K mg base CX0 2 "_law_flaw" ["value"] [] m_law_flaw := ⟨_, _, PySem.W.mg_of X G a_law_flaw___law_flaw, k_law_flaw, (fun us hl => match us, hl with | [_], _ => rfl), fun np ks perm h => by simp at h, g_law_flaw⟩
  have g_sizes_are_right := ok_sizes_are_right (base := base) tc (cxOk0 (P := l.prog) (w := w)) F_sizes_are_right 
  have t_sizes_are_right__sizes_are_right : FnAt l.prog w K mg base CX0 1 "sizes_are_right" ["rows"] [] m_sizes_are_right := ⟨_, _, PySem.W.mg_of X G a_sizes_are_right__sizes_are_right, k_sizes_are_right, (fun us hl => match us, hl with | [_], _ => rfl), fun np ks perm h => by simp at h, g_sizes_are_right⟩
  have g_is_count := ok_is_count (base := base) tc (cxOk0 (P := l.prog) (w := w)) F_is_count t_is_integer__is_integer
  have t_is_count__is_count : FnAt l.prog w K mg base CX0 2 "is_count" ["value"] [] m_is_count := ⟨_, _, PySem.W.mg_of X G a_is_count__is_count, k_is_count, (fun us hl => match us, hl with | [_], _ => rfl), fun np ks perm h => by simp at h, g_is_count⟩
  have g_flaw_of := ok_flaw_of (base := base) tc (cxOk0 (P := l.prog) (w := w)) F_flaw_of t_sizes_are_right__sizes_are_right t_is_count__is_count
  have t_flaw_of__flaw_of : FnAt l.prog w K mg base CX0 3 "flaw_of" ["value"] [] m_flaw_of := ⟨_, _, PySem.W.mg_of X G a_flaw_of__flaw_of, k_flaw_of, (fun us hl => match us, hl with | [_], _ => rfl), fun np ks perm h => by simp at h, g_flaw_of⟩
  have g_flaw := ok_flaw (base := base) tc (cxOk0 (P := l.prog) (w := w)) F_flaw t_flaw_of__flaw_of
  have t_flaw__flaw : FnAt l.prog w K mg base CX0 4 "flaw" ["value"] [(0, ["value"], [0])] m_flaw := ⟨_, _, PySem.W.mg_of X G a_flaw__flaw, k_flaw, (fun us hl => match us, hl with | [_], _ => rfl), fun np ks perm h => by
      simp only [List.mem_cons, List.not_mem_nil, or_false, Prod.mk.injEq] at h
      rcases h with ⟨rfl, rfl, rfl⟩
      · exact fun us ws h1 h2 => match us, h1, ws, h2 with | [], _, [_], _ => ⟨_, rfl, rfl⟩, g_flaw⟩
  have g_table_is_right := ok_table_is_right (base := base) tc (cxOk0 (P := l.prog) (w := w)) F_table_is_right t_flaw_of__flaw_of
  have t_table_is_right__table_is_right : FnAt l.prog w K mg base CX0 4 "table_is_right" ["value"] [] m_table_is_right := ⟨_, _, PySem.W.mg_of X G a_table_is_right__table_is_right, k_table_is_right, (fun us hl => match us, hl with | [_], _ => rfl), fun np ks perm h => by simp at h, g_table_is_right⟩
  have g_is_table := ok_is_table (base := base) tc (cxOk0 (P := l.prog) (w := w)) F_is_table t_table_is_right__table_is_right
  have t_is_table__is_table : FnAt l.prog w K mg base CX0 5 "is_table" ["value"] [(0, ["value"], [0])] m_is_table := ⟨_, _, PySem.W.mg_of X G a_is_table__is_table, k_is_table, (fun us hl => match us, hl with | [_], _ => rfl), fun np ks perm h => by
      simp only [List.mem_cons, List.not_mem_nil, or_false, Prod.mk.injEq] at h
      rcases h with ⟨rfl, rfl, rfl⟩
      · exact fun us ws h1 h2 => match us, h1, ws, h2 with | [], _, [_], _ => ⟨_, rfl, rfl⟩, g_is_table⟩
  have g_law_flaws_right := ok_law_flaws_right (base := base) tc (cxOk0 (P := l.prog) (w := w)) F_law_flaws_right t_law_any___law_any t_law_draw___law_draw t_law_bent___law_bent t_law_flaw___law_flaw t_flaw__flaw t_is_table__is_table
  have t_law_flaws_right___law_flaws_right : FnAt l.prog w K mg base CX0 43 "_law_flaws_right" ["pot"] [] m_law_flaws_right := ⟨_, _, PySem.W.mg_of X G a_law_flaws_right___law_flaws_right, k_law_flaws_right, (fun us hl => match us, hl with | [_], _ => rfl), fun np ks perm h => by simp at h, g_law_flaws_right⟩
  exact ok_law (base := base) tc (cxOk0 (P := l.prog) (w := w)) F_law t_law_pot___law_pot t_law_numbers_right___law_numbers_right t_law_flaws_right___law_flaws_right
end
end Rf.Law

set_option Elab.async false
set_option linter.all false
set_option maxRecDepth 100000
set_option maxHeartbeats 1000000
namespace Rf.Law
open PySem PySem.Spec PyProof.Rows L2 Rf
/-! ### numbers -/
def sg (b : Int) : Int := if 0 < b then 1 else -1
def gc (t b : Int) : Int := ((Nat.gcd t.natAbs b.natAbs : Nat) : Int)
/-- the ratio in its lowest form -/
def red (t b : Int) : Int × Int := (sg b * t / gc t b, (b.natAbs : Int) / gc t b)
def RD (p : Int × Int) : D := .tup [.int p.1, .int p.2]
theorem gc_pos {t b : Int} (hb : b ≠ 0) : 0 < gc t b := by
  unfold gc
  have : 0 < Nat.gcd t.natAbs b.natAbs := Nat.gcd_pos_of_pos_right _ (by omega)
  omega
theorem gc_dvd_l (t b : Int) : gc t b ∣ t := by
  unfold gc
  exact Int.ofNat_dvd_left.mpr (Nat.gcd_dvd_left _ _)
theorem gc_dvd_r (t b : Int) : gc t b ∣ b := by
  unfold gc
  exact Int.ofNat_dvd_left.mpr (Nat.gcd_dvd_right _ _)
theorem sg_mul (b : Int) : sg b * b = (b.natAbs : Int) := by
  unfold sg; split <;> omega
theorem gc_le {t b : Int} (hb : b ≠ 0) : (gc t b).natAbs ≤ b.natAbs := by
  unfold gc
  rw [Int.natAbs_natCast]
  exact Nat.le_of_dvd (by omega) (Nat.gcd_dvd_right _ _)
theorem log_lt {a b : Nat} (h : a ≤ b) (hb : b.log2 < 9000) : a.log2 < 9000 := by
  by_cases ha : a = 0
  · subst ha; decide
  · have h1 : 2 ^ a.log2 ≤ a := Nat.log2_self_le ha
    have hb0 : b ≠ 0 := by omega
    have h2 := (Nat.log2_lt hb0).mp (Nat.lt_succ_self b.log2)
    have : 2 ^ a.log2 < 2 ^ (b.log2 + 1) := by omega
    have := (Nat.pow_lt_pow_iff_right (show 1 < 2 by decide)).mp this
    omega
theorem mulOk_sg (i b : Int) : mulOk i (sg b) = true := by
  unfold mulOk sg; split <;> simp
theorem mulOk_sgl (i b : Int) : mulOk (sg b) i = true := by
  unfold mulOk sg; split <;> simp
theorem sg_cases (b : Int) : (if decide (0 < b) = true then (1 : Int) else -1) = sg b := by
  unfold sg; simp
/-! ### made -/
theorem fdiv_sg {t g s : Int} (hg : 0 < g) (hs : s = 1 ∨ s = -1) (hd : g ∣ t) : t.fdiv (g * s) = s * t / g := by
  obtain ⟨k, rfl⟩ := hd
  rcases hs with rfl | rfl
  · rw [Int.mul_one, Int.one_mul, Int.fdiv_eq_ediv_of_nonneg _ (by omega)]
  · have e1 : g * k = (-k) * (g * -1) := by rw [Int.mul_neg, Int.mul_one, Int.neg_mul_neg, Int.mul_comm]
    have e2 : -1 * (g * k) = g * (-k) := by rw [Int.mul_neg, Int.neg_mul, Int.one_mul]
    rw [e1, Int.mul_fdiv_cancel _ (by omega), ← e1, e2, Int.mul_ediv_cancel_left _ (by omega)]
theorem sg_or (b : Int) : sg b = 1 ∨ sg b = -1 := by unfold sg; split <;> simp
theorem made_spec {t b : Int} (S : Store) (hb : b ≠ 0) (hl : b.natAbs.log2 < 9000) : m_made [.d (.int t), .d (.int b)] S = .ok (.d (RD (red t b))) S := by
  unfold m_made b_made
  refine (runD_eq rfl).trans ?_
  have hg := gc_pos (t := t) hb
  have h1 : ∀ s : Int, s = 1 ∨ s = -1 → ¬ gc t b * s = 0 := fun s hs => by rcases hs with rfl | rfl <;> omega
  have h2 : ∀ s : Int, s = 1 ∨ s = -1 → (gc t b * s).natAbs.log2 < 9000 := fun s hs => by
    refine log_lt ?_ hl
    have := gc_le (t := t) hb
    rcases hs with rfl | rfl <;> simpa using this
  have e : ((Nat.gcd t.natAbs b.natAbs : Nat) : Int) = gc t b := rfl
  have hd := gc_dvd_l t b
  have hd2 := gc_dvd_r t b
  have fin : ∀ s, s = sg b → (Res.ok (RX.d (.tup [.int (t.fdiv (gc t b * s)), .int (b.fdiv (gc t b * s))])) S : Res RX) = .ok (.d (RD (red t b))) S := fun s hs => by
    subst hs
    rw [fdiv_sg hg (sg_or b) hd, fdiv_sg hg (sg_or b) hd2, sg_mul]; rfl
  by_cases hp : 0 < b
  · have hs : sg b = 1 := if_pos hp
    have m1 : mulOk (gc t b) 1 = true := by simp [mulOk]
    simp! [e, hp, m1, h1 1 (.inl rfl), h2 1 (.inl rfl)]
    exact fin 1 hs.symm
  · have hs : sg b = -1 := if_neg hp
    have m1 : mulOk (gc t b) (-1) = true := by simp [mulOk]
    simp! [e, hp, m1, h1 (-1) (.inr rfl), h2 (-1) (.inr rfl)]
    exact fin (-1) hs.symm
end Rf.Law

set_option Elab.async false
set_option linter.all false
set_option maxRecDepth 100000
set_option maxHeartbeats 1000000
namespace Rf.Law
open PySem PySem.Spec PyProof.Rows L2 Rf
theorem abs_eq (i : Int) : (if i < 0 then -i else i) = (i.natAbs : Int) := by split <;> omega
/-- not too wide -/
def Sm (b : Int) : Prop := b.natAbs < 2 ^ 600
theorem Sm.log {b : Int} (h : Sm b) : b.natAbs.log2 < 9000 := by
  by_cases hb : b.natAbs = 0
  · rw [hb]; decide
  · have h' : b.natAbs < 2 ^ 600 := h
    have := (Nat.log2_lt hb).mpr h'
    omega
theorem fmod_nat (x y : Nat) : (x : Int).fmod (y : Int) = ((x % y : Nat) : Int) := by
  rw [Int.fmod_eq_emod_of_nonneg _ (Int.natCast_nonneg y)]; rfl
theorem low_spec {t b : Int} (S : Store) (hb : b ≠ 0) (hS : Sm b) : m_law_low [.d (.int t), .d (.int b)] S = .ok (.d (RD (red t b))) S := by
  unfold m_law_low b_law_low
  refine (runD_eq rfl).trans ?_
  simp! [abs_eq]
  generalize hF : (100000000000000000000000000000000000000000000000000000000000000000000000000000000000000000000000000000000000000000000000000000000000000000000000000000000000000000000000000000000000000000000000000000000 : Nat) = F
  have hFl : b.natAbs < F := by
    have h1 : b.natAbs < 2 ^ 600 := hS
    rw [← hF]
    exact Nat.lt_trans h1 (by decide +kernel)
  clear hF
  obtain ⟨ρ', S', e, x, y, rfl, rfl, hg, hy⟩ := whM_st (G := []) (C := cs) (c := E.cmp CmpOp.Gt (E.var 3) (E.lit (D.int 0))) (body := Ts.cons (T.par [2, 3] (Es.cons Md.rd (E.var 3) (Es.cons Md.rd (E.bin Operator.Mod (E.blt Bf.int (Es.cons Md.rd (E.var 2) Es.nil)) (E.var 3)) Es.nil))) Ts.nil)
    (fun m ρ S' => ∃ x y : Nat, ρ = [some (.d (.int t)), some (.d (.int b)), some (.d (.int x)), some (.d (.int y)), none] ∧ S' = S ∧ Nat.gcd x y = Nat.gcd t.natAbs b.natAbs ∧ y = m)
    (fun m ρ S' ⟨x, y, e1, e2, hg, hy⟩ => by
      subst e1 e2 hy
      by_cases h0 : 0 < y
      · refine .inl ⟨S', ?_, [some (.d (.int t)), some (.d (.int b)), some (.d (.int y)), some (.d (.int ((x % y : Nat) : Int))), none], S', x % y, ?_, Nat.mod_lt _ h0, y, x % y, rfl, rfl, ?_, rfl⟩
        · have : (0 : Int) < (y : Int) := by omega
          simp! [this]
        · have h1 : ¬ (y : Int) = 0 := by omega
          simp! [h1, fmod_nat]
        · rw [← hg, Nat.gcd_comm y, Nat.gcd_comm x y]
          exact (Nat.gcd_rec y x).symm
      · have hy0 : y = 0 := by omega
        subst hy0
        refine .inr ⟨S', ?_, x, 0, rfl, rfl, hg, rfl⟩
        simp! []) (ρ := [some (.d (.int t)), some (.d (.int b)), some (.d (.int t.natAbs)), some (.d (.int b.natAbs)), none]) (S := S) hFl ⟨t.natAbs, b.natAbs, rfl, rfl, rfl, rfl⟩
  rw [e]
  subst hy
  rw [Nat.gcd_zero_right] at hg
  have hx : (x : Int) = gc t b := by unfold gc; rw [hg]
  rw [hx]
  have g0 := gc_pos (t := t) hb
  have h1 : ¬ gc t b = 0 := by omega
  have h2 : (gc t b).natAbs.log2 < 9000 := log_lt (gc_le hb) hS.log
  have h3 : ∀ z : Int, z.fdiv (gc t b) = z / gc t b := fun z => Int.fdiv_eq_ediv_of_nonneg _ (by omega)
  by_cases hp : 0 < b
  · have hs : sg b = 1 := if_pos hp
    have m1 : mulOk 1 t = true := by simp [mulOk]
    simp! [hp, m1, h1, h2, h3, abs_eq]
    unfold red RD
    rw [hs]
  · have hs : sg b = -1 := if_neg hp
    have m1 : mulOk (-1) t = true := by simp [mulOk]
    simp! [hp, m1, h1, h2, h3, abs_eq]
    unfold red RD
    rw [hs]
/-! ### the draws -/
/-- the pot's cell -/
def PotC (p : Cell) : Prop := ∃ a b : Int, p = .lst [.int a, .int b] ∧ 0 ≤ a ∧ 0 ≤ b ∧ b < 2147483600
theorem fmod_pos {a k : Int} (hk : 0 < k) : 0 ≤ a.fmod k ∧ a.fmod k < k := by
  rw [Int.fmod_eq_emod_of_nonneg _ (by omega)]
  exact ⟨Int.emod_nonneg _ (by omega), Int.emod_lt_of_pos _ hk⟩
theorem fdiv_nn {a k : Int} (ha : 0 ≤ a) (hk : 0 < k) : 0 ≤ a.fdiv k := by
  rw [Int.fdiv_eq_ediv_of_nonneg _ (by omega)]
  exact Int.ediv_nonneg ha (by omega)
theorem draw_spec {p : Cell} {k : Int} (hp : PotC p) (hk : 0 < k) (hS : Sm k) : ∃ j p', (∀ R : Store, m_law_draw [.c 0, .d (.int k)] (p :: R) = .ok (.d (.int j)) (p' :: R)) ∧ PotC p' ∧ 0 ≤ j ∧ j < k := by
  obtain ⟨a, b, rfl, ha, hb, hb2⟩ := hp
  unfold m_law_draw b_law_draw
  have hk0 : ¬ k = 0 := by omega
  by_cases h0 : 0 < a
  · refine ⟨a.fmod k, .lst [.int (a.fdiv k), .int b], ?_, ⟨_, _, rfl, fdiv_nn ha hk, hb, hb2⟩, fmod_pos hk⟩
    intro R
    refine (runD_eq rfl).trans ?_
    simp! [h0, hk0, hS.log]
  · have m1 : mulOk b 39373 = true := by simp [mulOk]
    have h2 := fmod_pos (a := b * 39373 + 4259) (k := 2147483549) (by omega)
    generalize hb' : (b * 39373 + 4259).fmod 2147483549 = b' at h2
    have m2 : mulOk b' b' = true := by
      unfold mulOk
      have : b'.natAbs < 18446744073709551616 := by omega
      simp [this]
    have l19 : (19 : Int).natAbs.log2 < 9000 := by decide
    refine ⟨_, .lst [.int a, .int b'], ?_, ⟨_, _, rfl, ha, h2.1, by omega⟩, fmod_pos (a := ((b' * b').fmod 2147483563).fdiv 19) hk⟩
    intro R
    refine (runD_eq rfl).trans ?_
    simp! [h0, hk0, m1, m2, hb', l19, Int.reduceEq]
theorem pick_spec {p : Cell} {xs : List D} (hp : PotC p) (hx : xs ≠ []) (hl : xs.length < 1000) : ∃ d p', (∀ R : Store, m_law_pick [.c 0, .d (.lst xs)] (p :: R) = .ok (.d d) (p' :: R)) ∧ PotC p' ∧ d ∈ xs := by
  have h1 : 0 < xs.length := List.length_pos_iff.mpr hx
  obtain ⟨j, p', e, hp', j0, j1⟩ := draw_spec (p := p) (k := (xs.length : Int)) hp (by omega) (by
    show (xs.length : Int).natAbs < 2 ^ 600
    exact Nat.lt_trans (show (xs.length : Int).natAbs < 1000 by omega) (by decide +kernel))
  obtain ⟨n, rfl⟩ : ∃ n : Nat, j = (n : Int) := ⟨j.toNat, by omega⟩
  have hj : n < xs.length := by omega
  have ha : atI xs (n : Int) = some xs[n] := atI_nat (by simp [hj])
  refine ⟨xs[n], p', ?_, hp', List.getElem_mem hj⟩
  intro R
  unfold m_law_pick b_law_pick
  refine (runD_eq rfl).trans ?_
  simp! [e, ha]
/-! ### a ratio of the law's own -/
/-- in lowest form, and not too wide -/
structure Rt (W : Nat) (q : Int × Int) : Prop where
  pos : 0 < q.2
  cop : Nat.gcd q.1.natAbs q.2.natAbs = 1
  w1 : q.1.natAbs ≤ 10 ^ W
  w2 : q.2.natAbs ≤ 10 ^ W
theorem gc_ne {t b : Int} (hb : b ≠ 0) : gc t b ≠ 0 := by have := gc_pos (t := t) hb; omega
theorem red_rt {W : Nat} {t b : Int} (hb : b ≠ 0) (h1 : t.natAbs ≤ 10 ^ W) (h2 : b.natAbs ≤ 10 ^ W) : Rt W (red t b) := by
  have g0 := gc_pos (t := t) hb
  have hgn : 0 < Nat.gcd t.natAbs b.natAbs := Nat.gcd_pos_of_pos_right _ (by omega)
  have e1 : (red t b).1.natAbs = t.natAbs / Nat.gcd t.natAbs b.natAbs := by
    unfold red gc
    show (sg b * t / _).natAbs = _
    have hd : ((Nat.gcd t.natAbs b.natAbs : Nat) : Int) ∣ sg b * t := Int.dvd_trans (gc_dvd_l t b) (Int.dvd_mul_left (sg b) t)
    rw [Int.natAbs_ediv_of_dvd hd, Int.natAbs_mul, Int.natAbs_natCast]
    rcases sg_or b with h | h <;> rw [h] <;> simp
  have e2 : (red t b).2 = ((b.natAbs / Nat.gcd t.natAbs b.natAbs : Nat) : Int) := rfl
  refine ⟨?_, ?_, ?_, ?_⟩
  · rw [e2]
    have := Nat.div_pos (Nat.le_of_dvd (by omega) (Nat.gcd_dvd_right t.natAbs b.natAbs)) hgn
    omega
  · rw [e1, e2, Int.natAbs_natCast]
    rw [Nat.gcd_div (Nat.gcd_dvd_left _ _) (Nat.gcd_dvd_right _ _), Nat.div_self hgn]
  · rw [e1]; exact Nat.le_trans (Nat.div_le_self _ _) h1
  · rw [e2, Int.natAbs_natCast]; exact Nat.le_trans (Nat.div_le_self _ _) h2
theorem sm_small {b : Int} (h : b.natAbs ≤ 10 ^ 180) : Sm b := Nat.lt_of_le_of_lt h (by decide +kernel)
theorem ratio_spec {p : Cell} (hp : PotC p) : ∃ q p', (∀ R : Store, m_law_ratio [.c 0] (p :: R) = .ok (.d (RD q)) (p' :: R)) ∧ PotC p' ∧ Rt 13 q := by
  obtain ⟨d1, p1, e1, hp1, m1⟩ := pick_spec (p := p) (xs := [.int 5, .int 999, .int (10 ^ 12)]) hp (by simp) (by simp)
  obtain ⟨k1, rfl, k0, k1le⟩ : ∃ k : Int, d1 = .int k ∧ 0 < k ∧ k ≤ 10 ^ 12 := by
    simp only [List.mem_cons, List.not_mem_nil, or_false] at m1
    rcases m1 with rfl | rfl | rfl
    · exact ⟨_, rfl, by decide, by decide⟩
    · exact ⟨_, rfl, by decide, by decide⟩
    · exact ⟨_, rfl, by decide, by decide⟩
  obtain ⟨j1, p2, e2, hp2, j0, jl⟩ := draw_spec (p := p1) hp1 k0 (sm_small (by omega))
  obtain ⟨d2, p3, e3, hp3, m2⟩ := pick_spec (p := p2) (xs := [.int 1, .int 1, .int (-1)]) hp2 (by simp) (by simp)
  obtain ⟨s, rfl, hs⟩ : ∃ s : Int, d2 = .int s ∧ (s = 1 ∨ s = -1) := by
    simp only [List.mem_cons, List.not_mem_nil, or_false] at m2
    rcases m2 with rfl | rfl | rfl
    · exact ⟨_, rfl, .inl rfl⟩
    · exact ⟨_, rfl, .inl rfl⟩
    · exact ⟨_, rfl, .inr rfl⟩
  obtain ⟨d3, p4, e4, hp4, m3⟩ := pick_spec (p := p3) (xs := [.int 2, .int 9, .int (10 ^ 9)]) hp3 (by simp) (by simp)
  obtain ⟨k3, rfl, k30, k3le⟩ : ∃ k : Int, d3 = .int k ∧ 0 < k ∧ k ≤ 10 ^ 9 := by
    simp only [List.mem_cons, List.not_mem_nil, or_false] at m3
    rcases m3 with rfl | rfl | rfl
    · exact ⟨_, rfl, by decide, by decide⟩
    · exact ⟨_, rfl, by decide, by decide⟩
    · exact ⟨_, rfl, by decide, by decide⟩
  obtain ⟨j3, p5, e5, hp5, j30, j3l⟩ := draw_spec (p := p4) hp4 k30 (sm_small (by omega))
  have hmul : mulOk j1 s = true := by rcases hs with rfl | rfl <;> simp [mulOk]
  have hb : 1 + j3 ≠ 0 := by omega
  refine ⟨red (j1 * s) (1 + j3), p5, ?_, hp5, red_rt hb ?_ ?_⟩
  · intro R
    unfold m_law_ratio b_law_ratio
    refine (runD_eq rfl).trans ?_
    have f1 : ((10 : Int) ^ (12 : Int).toNat) = 10 ^ 12 := rfl
    have f2 : ((10 : Int) ^ (9 : Int).toNat) = 10 ^ 9 := rfl
    have c1 : (0 : Int) ≤ 12 ∧ (12 : Int) ≤ 1000000 ∧ (10 : Int).natAbs < 18446744073709551616 := by decide
    have c2 : (0 : Int) ≤ 9 ∧ (9 : Int) ≤ 1000000 ∧ (10 : Int).natAbs < 18446744073709551616 := by decide
    simp! [c1, c2, f1, f2, e1, e2, e3, e4, e5, hmul, low_spec (p5 :: R) hb (sm_small (by omega))]
  · rcases hs with rfl | rfl <;> omega
  · omega
end Rf.Law

set_option Elab.async false
set_option linter.all false
set_option maxRecDepth 100000
set_option maxHeartbeats 1000000
namespace Rf.Law
open PySem PySem.Spec PyProof.Rows L2 Rf
def isI : D → Bool
  | .int _ => true
  | _ => false
theorem is_integer_spec (d : D) (S : Store) : m_is_integer [.d d] S = .ok (.d (.bl (isI d))) S := by
  unfold m_is_integer b_is_integer
  refine (runD_eq rfl).trans ?_
  cases d <;> (simp! []; rfl)
theorem law_is_int_spec (d : D) (S : Store) : m_law_is_int [.d d] S = .ok (.d (.bl (isI d))) S := by
  unfold m_law_is_int b_law_is_int
  refine (runD_eq rfl).trans ?_
  cases d <;> (simp! []; rfl)
/-- a ratio, of any datum -/
def rat2 : D → D → Bool
  | .int x, .int y => decide (1 ≤ y) && decide (gc x y = 1)
  | _, _ => false
def isRatD : D → Bool
  | .tup [x, y] => rat2 x y
  | _ => false
theorem all2 (x y : D) : [x, y].all isI = (isI x && isI y) := by simp
theorem is_ratio_spec (v : D) (S : Store) : m_is_ratio_basics [.d v] S = .ok (.d (.bl (isRatD v))) S := by
  unfold m_is_ratio_basics b_is_ratio_basics
  refine (runD_eq rfl).trans ?_
  cases v with
  | tup ds =>
    match ds with
    | [] => simp! [Int.reduceEq]; rfl
    | [x] => simp! [Int.reduceEq]; rfl
    | x :: y :: z :: r =>
      have : ¬ (((r.length + 1 + 1 + 1 : Nat) : Int) = 2) := by omega
      simp! [this]; rfl
    | [x, y] =>
      simp! [Int.reduceEq]
      rw [cpM_map fun d => .bl (isI d)]
      · cases x with
        | int i => cases y with
          | int j =>
            simp! [isI]
            by_cases hj : 1 ≤ j
            · simp! [hj]
              simp only [isRatD, rat2, hj, gc, decide_true, Bool.true_and]
              exact congrArg (fun b => (Res.ok (RX.d (D.bl b)) S : Res RX)) (decide_eq_decide.mpr Iff.rfl)
            · simp! [hj]
              simp [isRatD, rat2, hj]
          | _ => simp! [isI]; rfl
        | _ => simp! [isI]; rfl
      · show 2 ≤ line; decide
      · intro d _ A
        rw [compT_one]
        simp! [is_integer_spec]
  | _ => simp! []; rfl
theorem gc_one_iff {x y : Int} (hy : 1 ≤ y) : (red x y = (x, y)) ↔ gc x y = 1 := by
  have hs : sg y = 1 := if_pos (by omega)
  have hn : (y.natAbs : Int) = y := by omega
  constructor
  · intro h
    have h2 : (y.natAbs : Int) / gc x y = y := congrArg Prod.snd h
    rw [hn] at h2
    have g0 := gc_pos (t := x) (b := y) (by omega)
    have hd := gc_dvd_r x y
    clear h hs hn
    generalize gc x y = g at h2 g0 hd ⊢
    obtain ⟨k, hk⟩ := hd
    rw [hk, Int.mul_ediv_cancel_left _ (by omega)] at h2
    have hk0 : 0 < k := by
      rcases Int.lt_or_le 0 k with h | h
      · exact h
      · have := Int.mul_nonpos_of_nonneg_of_nonpos (show 0 ≤ g by omega) h
        omega
    have : 1 * k = g * k := by rw [Int.one_mul]; exact h2
    exact (Int.mul_eq_mul_right_iff (by omega)).mp this.symm
  · intro h
    unfold red
    rw [h, hs, hn, Int.one_mul, Int.ediv_one, Int.ediv_one]
/-- what the law itself says of a datum, where it is not too wide -/
theorem law_is_ratio_spec (v : D) (S : Store) (hv : ∀ x y, v = .tup [.int x, .int y] → Sm y) : m_law_is_ratio [.d v] S = .ok (.d (.bl (isRatD v))) S := by
  unfold m_law_is_ratio b_law_is_ratio
  refine (runD_eq rfl).trans ?_
  cases v with
  | tup ds =>
    match ds, hv with
    | [], _ => simp! []; rfl
    | [x], _ => simp! []; rfl
    | x :: y :: z :: r, _ =>
      have : ¬ (((r.length + 1 + 1 + 1 : Nat) : Int) = 2) := by omega
      simp! [this]; rfl
    | [x, y], hv =>
      simp! []
      rw [cpM_map fun d => .bl (isI d)]
      · cases x with
        | int i => cases y with
          | int j =>
            simp! [isI]
            by_cases hj : j < 1
            · simp! [hj]
              have : ¬ 1 ≤ j := by omega
              simp [isRatD, rat2, this]
            · have h1 : 1 ≤ j := by omega
              simp! [hj, low_spec S (show j ≠ 0 by omega) (hv i j rfl)]
              have e0 : cmpD .Eq (RD (red i j)) (.tup [.int i, .int j]) = some (decide (gc i j = 1)) := by
                show (if eqOk (RD (red i j)) (.tup [.int i, .int j]) then some (D.eq (RD (red i j)) (.tup [.int i, .int j])) else none) = _
                have e1 : eqOk (RD (red i j)) (.tup [.int i, .int j]) = true := rfl
                rw [if_pos e1]
                congr 1
                show (decide ((red i j).1 = i) && (decide ((red i j).2 = j) && true)) = _
                have := gc_one_iff (x := i) h1
                rw [Prod.ext_iff] at this
                simp only [Bool.and_true, ← Bool.decide_and]
                exact decide_eq_decide.mpr this
              simp! [e0]
              simp [isRatD, rat2, h1]
          | _ => simp! [isI]; rfl
        | _ => simp! [isI]; rfl
      · show 2 ≤ line; decide
      · intro d _ A
        rw [compT_one]
        simp! [law_is_int_spec]
  | _ => simp! []; rfl
theorem is_ratio_ratios_spec (v : D) (S : Store) : m_is_ratio_ratios [.d v] S = .ok (.d (.bl (isRatD v))) S := by
  unfold m_is_ratio_ratios b_is_ratio_ratios
  refine (runD_eq rfl).trans ?_
  simp! [is_ratio_spec]
theorem isRat_rt {W : Nat} {q : Int × Int} (h : Rt W q) : isRatD (RD q) = true := by
  have h1 : 1 ≤ q.2 := by have := h.pos; omega
  have h2 : gc q.1 q.2 = 1 := by unfold gc; rw [h.cop]; rfl
  show rat2 (.int q.1) (.int q.2) = true
  simp [rat2, h1, h2]
theorem check_both_spec {W : Nat} {q r : Int × Int} (S : Store) (hq : Rt W q) (hr : Rt W r) : m_check_both [.d (RD q), .d (RD r)] S = .ok (.d .non) S := by
  unfold m_check_both b_check_both
  refine (runD_eq rfl).trans ?_
  simp! [is_ratio_spec, isRat_rt hq, isRat_rt hr]
end Rf.Law

set_option Elab.async false
set_option linter.all false
set_option maxRecDepth 100000
set_option maxHeartbeats 1000000
namespace Rf.Law
open PySem PySem.Spec PyProof.Rows L2 Rf
theorem mulOk_l {i j : Int} (h : i.natAbs ≤ 10 ^ 18) : mulOk i j = true := by
  unfold mulOk
  have : i.natAbs < 18446744073709551616 := by omega
  simp [this]
theorem mulOk_r {i j : Int} (h : j.natAbs ≤ 10 ^ 18) : mulOk i j = true := by
  unfold mulOk
  have : j.natAbs < 18446744073709551616 := by omega
  simp [this]
section
variable {q r : Int × Int} (S : Store)
theorem w13 {n : Nat} (h : n ≤ 10 ^ 13) : n ≤ 10 ^ 18 := Nat.le_trans h (by decide)
theorem mul_le {a b : Int} {m n : Nat} (h1 : a.natAbs ≤ 10 ^ m) (h2 : b.natAbs ≤ 10 ^ n) : (a * b).natAbs ≤ 10 ^ (m + n) := by
  rw [Int.natAbs_mul, Nat.pow_add]
  exact Nat.mul_le_mul h1 h2
theorem mul_ne {a b : Int} (h1 : a ≠ 0) (h2 : b ≠ 0) : a * b ≠ 0 := Int.mul_ne_zero h1 h2
theorem Rt.ne {W : Nat} {q : Int × Int} (h : Rt W q) : q.2 ≠ 0 := by have := h.pos; omega
theorem sm26 {a : Int} (h : a.natAbs ≤ 10 ^ 26) : Sm a := sm_small (Nat.le_trans h (by decide +kernel))
theorem r_plus_spec (hq : Rt 13 q) (hr : Rt 13 r) : m_r_plus [.d (RD q), .d (RD r)] S = .ok (.d (RD (red (q.1 * r.2 + r.1 * q.2) (q.2 * r.2)))) S := by
  unfold m_r_plus b_r_plus
  refine (runD_eq rfl).trans ?_
  have m1 : mulOk q.1 r.2 = true := mulOk_l (w13 hq.w1)
  have m2 : mulOk r.1 q.2 = true := mulOk_l (w13 hr.w1)
  have m3 : mulOk q.2 r.2 = true := mulOk_l (w13 hq.w2)
  have sp := made_spec (t := q.1 * r.2 + r.1 * q.2) S (mul_ne hq.ne hr.ne) (sm26 (mul_le hq.w2 hr.w2)).log
  rw [show RD q = .tup [.int q.1, .int q.2] from rfl, show RD r = .tup [.int r.1, .int r.2] from rfl]
  simp! [m1, m2, m3, sp]
theorem r_minus_spec (hq : Rt 13 q) (hr : Rt 13 r) : m_r_minus [.d (RD q), .d (RD r)] S = .ok (.d (RD (red (q.1 * r.2 - r.1 * q.2) (q.2 * r.2)))) S := by
  unfold m_r_minus b_r_minus
  refine (runD_eq rfl).trans ?_
  have m1 : mulOk q.1 r.2 = true := mulOk_l (w13 hq.w1)
  have m2 : mulOk r.1 q.2 = true := mulOk_l (w13 hr.w1)
  have m3 : mulOk q.2 r.2 = true := mulOk_l (w13 hq.w2)
  have sp := made_spec (t := q.1 * r.2 - r.1 * q.2) S (mul_ne hq.ne hr.ne) (sm26 (mul_le hq.w2 hr.w2)).log
  rw [show RD q = .tup [.int q.1, .int q.2] from rfl, show RD r = .tup [.int r.1, .int r.2] from rfl]
  simp! [m1, m2, m3, sp]
theorem r_times_spec (hq : Rt 13 q) (hr : Rt 13 r) : m_r_times [.d (RD q), .d (RD r)] S = .ok (.d (RD (red (q.1 * r.1) (q.2 * r.2)))) S := by
  unfold m_r_times b_r_times
  refine (runD_eq rfl).trans ?_
  have m1 : mulOk q.1 r.1 = true := mulOk_l (w13 hq.w1)
  have m3 : mulOk q.2 r.2 = true := mulOk_l (w13 hq.w2)
  have sp := made_spec (t := q.1 * r.1) S (mul_ne hq.ne hr.ne) (sm26 (mul_le hq.w2 hr.w2)).log
  rw [show RD q = .tup [.int q.1, .int q.2] from rfl, show RD r = .tup [.int r.1, .int r.2] from rfl]
  simp! [m1, m3, sp]
theorem r_over_spec (hq : Rt 13 q) (hr : Rt 13 r) (h0 : r.1 ≠ 0) : m_r_over [.d (RD q), .d (RD r)] S = .ok (.d (RD (red (q.1 * r.2) (q.2 * r.1)))) S := by
  unfold m_r_over b_r_over
  refine (runD_eq rfl).trans ?_
  have m1 : mulOk q.1 r.2 = true := mulOk_l (w13 hq.w1)
  have m3 : mulOk q.2 r.1 = true := mulOk_l (w13 hq.w2)
  have sp := made_spec (t := q.1 * r.2) S (mul_ne hq.ne h0) (sm26 (mul_le hq.w2 hr.w1)).log
  rw [show RD q = .tup [.int q.1, .int q.2] from rfl, show RD r = .tup [.int r.1, .int r.2] from rfl]
  simp! [m1, m3, sp]
theorem r_less_spec (hq : Rt 13 q) (hr : Rt 13 r) : m_r_less [.d (RD q), .d (RD r)] S = .ok (.d (.bl (decide (q.1 * r.2 < r.1 * q.2)))) S := by
  unfold m_r_less b_r_less
  refine (runD_eq rfl).trans ?_
  have m1 : mulOk q.1 r.2 = true := mulOk_l (w13 hq.w1)
  have m3 : mulOk r.1 q.2 = true := mulOk_l (w13 hr.w1)
  rw [show RD q = .tup [.int q.1, .int q.2] from rfl, show RD r = .tup [.int r.1, .int r.2] from rfl]
  simp! [m1, m3]
theorem plus_spec (hq : Rt 13 q) (hr : Rt 13 r) : m_plus [.d (RD q), .d (RD r)] S = .ok (.d (RD (red (q.1 * r.2 + r.1 * q.2) (q.2 * r.2)))) S := by
  unfold m_plus b_plus
  refine (runD_eq rfl).trans ?_
  simp! [check_both_spec S hq hr, r_plus_spec S hq hr]
theorem minus_spec (hq : Rt 13 q) (hr : Rt 13 r) : m_minus [.d (RD q), .d (RD r)] S = .ok (.d (RD (red (q.1 * r.2 - r.1 * q.2) (q.2 * r.2)))) S := by
  unfold m_minus b_minus
  refine (runD_eq rfl).trans ?_
  simp! [check_both_spec S hq hr, r_minus_spec S hq hr]
theorem times_spec (hq : Rt 13 q) (hr : Rt 13 r) : m_times [.d (RD q), .d (RD r)] S = .ok (.d (RD (red (q.1 * r.1) (q.2 * r.2)))) S := by
  unfold m_times b_times
  refine (runD_eq rfl).trans ?_
  simp! [check_both_spec S hq hr, r_times_spec S hq hr]
theorem is_below_spec (hq : Rt 13 q) (hr : Rt 13 r) : m_is_below [.d (RD q), .d (RD r)] S = .ok (.d (.bl (decide (q.1 * r.2 < r.1 * q.2)))) S := by
  unfold m_is_below b_is_below
  refine (runD_eq rfl).trans ?_
  simp! [check_both_spec S hq hr, r_less_spec S hq hr]
theorem over_spec (hq : Rt 13 q) (hr : Rt 13 r) (h0 : r.1 ≠ 0) : m_over [.d (RD q), .d (RD r)] S = .ok (.d (RD (red (q.1 * r.2) (q.2 * r.1)))) S := by
  unfold m_over b_over
  refine (runD_eq rfl).trans ?_
  have h0' : ¬ r.1 = 0 := h0
  have e : idxD (RD r) (.int 0) = some (.int r.1) := atI_0 _ _
  simp! [check_both_spec S hq hr, r_over_spec S hq hr h0, e, h0']
theorem ratio_def_spec {t b : Int} (hb : b ≠ 0) (hS : Sm b) : m_ratio [.d (.int t), .d (.int b)] S = .ok (.d (RD (red t b))) S := by
  unfold m_ratio b_ratio
  refine (runD_eq rfl).trans ?_
  have h0' : ¬ b = 0 := hb
  simp! [is_integer_spec, isI, h0', made_spec (t := t) S hb hS.log]
end
/-! ### lists of ratios -/
def RL (qs : List (Int × Int)) : D := .lst (qs.map RD)
theorem all_rat {qs : List (Int × Int)} (h : ∀ q ∈ qs, Rt 13 q) : (qs.map RD).all isRatD = true := by
  rw [List.all_map, List.all_eq_true]
  exact fun q hq => isRat_rt (h q hq)
def asSeq (b : Bool) (xs : List D) : D := if b then .tup xs else .lst xs
theorem is_list_spec (b : Bool) (xs : List D) (S : Store) : m_is_list [.d (asSeq b xs)] S = .ok (.d (.bl true)) S := by
  unfold m_is_list b_is_list
  refine (runD_eq (np := 1) rfl).trans ?_
  cases b <;> (simp only [asSeq, if_true, Bool.false_eq_true, if_false]; simp! [])
theorem check_numbers_spec {qs : List (Int × Int)} (b : Bool) (S : Store) (h : ∀ q ∈ qs, Rt 13 q) (hn : qs ≠ []) (hl : qs.length ≤ 100) : m_check_numbers [.d (asSeq b (qs.map RD))] S = .ok (.d .non) S := by
  unfold m_check_numbers b_check_numbers
  refine (runD_eq rfl).trans ?_
  have h1 : ¬ ((qs.length : Int) = 0) := by
    have := List.length_pos_iff.mpr hn
    omega
  have key : ∀ x : D, cpM [m_is_list, m_is_ratio_basics] cs (E.call 1 (Es.cons Md.dat (E.var 1) Es.nil)) [1] true Eo.no [1] [some (RV.d x), none] ([], qs.map RD) S = .ok (.f ((qs.map RD).map fun d => .bl (isRatD d))) S := fun x => by
    refine cpM_map _ (by rw [List.length_map]; exact Nat.le_trans hl (by decide)) fun d _ A => ?_
    rw [compT_one]
    simp! [is_ratio_spec]
  have e2 : bls ((qs.map RD).map fun d => .bl (isRatD d)) = some ((qs.map RD).map isRatD) := bls_map _ _
  have e3 : ((qs.map RD).map isRatD).all id = true := by rw [all_map_id, all_rat h]
  have L := is_list_spec b (qs.map RD) S
  cases b
  · simp only [asSeq, Bool.false_eq_true, if_false] at L ⊢
    simp! [L, List.length_map, h1]
    rw [key]
    simp! []
    rw [e2]
    simp! []
    rw [e3]
    simp! []
  · simp only [asSeq, if_true] at L ⊢
    simp! [L, List.length_map, h1]
    rw [key]
    simp! []
    rw [e2]
    simp! []
    rw [e3]
    simp! []
end Rf.Law

set_option Elab.async false
set_option linter.all false
set_option maxRecDepth 100000
set_option maxHeartbeats 1000000
namespace Rf.Law
open PySem PySem.Spec PyProof.Rows L2 Rf
/-! ### values of ratios -/
def val (q : Int × Int) : Rat := mkRat q.1 q.2.toNat
theorem red_pos (t : Int) {d : Nat} (hd : d ≠ 0) : red t (d : Int) = ((mkRat t d).num, ((mkRat t d).den : Int)) := by
  rw [Rat.mkRat_def, dif_neg hd, Rat.normalize_eq hd]
  have hs : sg (d : Int) = 1 := if_pos (by omega)
  unfold red gc
  rw [hs, Int.one_mul, Int.natAbs_natCast]
  rfl
theorem val_red {t b : Int} (hb : 0 < b) : val (red t b) = mkRat t b.toNat := by
  obtain ⟨d, rfl⟩ : ∃ d : Nat, b = (d : Int) := ⟨b.toNat, by omega⟩
  rw [red_pos t (by omega), Int.toNat_natCast]
  unfold val
  rw [Int.toNat_natCast, Rat.mkRat_self]
theorem red_of_val {t b : Int} (hb : 0 < b) {x : Rat} (h : mkRat t b.toNat = x) : red t b = (x.num, (x.den : Int)) := by
  obtain ⟨d, rfl⟩ : ∃ d : Nat, b = (d : Int) := ⟨b.toNat, by omega⟩
  rw [Int.toNat_natCast] at h
  rw [red_pos t (by omega), h]
theorem val_add {a b c d : Int} (hb : 0 < b) (hd : 0 < d) : mkRat (a * d + c * b) (b * d).toNat = mkRat a b.toNat + mkRat c d.toNat := by
  obtain ⟨m, rfl⟩ : ∃ m : Nat, b = (m : Int) := ⟨b.toNat, by omega⟩
  obtain ⟨n, rfl⟩ : ∃ n : Nat, d = (n : Int) := ⟨d.toNat, by omega⟩
  rw [Int.toNat_natCast, Int.toNat_natCast, Rat.mkRat_add_mkRat _ _ (by omega) (by omega)]
  congr 1
theorem mk_scale {t u B : Int} (hu : 0 < u) (hB : 0 < B) (hd : u ∣ B) : mkRat (t * (B / u)) B.toNat = mkRat t u.toNat := by
  obtain ⟨k, rfl⟩ := hd
  rw [Int.mul_ediv_cancel_left _ (by omega)]
  have hk : 0 < k := by
    rcases Int.lt_or_le 0 k with h | h
    · exact h
    · have := Int.mul_nonpos_of_nonneg_of_nonpos (show 0 ≤ u by omega) h
      omega
  obtain ⟨m, rfl⟩ : ∃ m : Nat, u = (m : Int) := ⟨u.toNat, by omega⟩
  obtain ⟨n, rfl⟩ : ∃ n : Nat, k = (n : Int) := ⟨k.toNat, by omega⟩
  rw [show ((m : Int) * (n : Int)).toNat = m * n from by rw [← Int.natCast_mul]; exact Int.toNat_natCast _, Int.toNat_natCast]
  exact Rat.mkRat_mul_right (by omega)
theorem mk_sum (B : Nat) (hB : B ≠ 0) : ∀ xs : List Int, mkRat xs.sum B = (xs.map fun x => mkRat x B).sum
  | [] => by simp [Rat.zero_mkRat]
  | x :: xs => by
    rw [List.sum_cons, List.map_cons, List.sum_cons, ← mk_sum B hB xs, Rat.mkRat_add_mkRat _ _ hB hB]
    rw [← Int.add_mul]
    exact (Rat.mkRat_mul_right hB).symm
/-! ### the sum of ratios -/
theorem compT_two {G : List Mir} {C : List D} {elt : E} {i j : Nat} {ρ : Env} {a b : D} {S : Store} : compT G C elt [i, j] false .no [i, j] ρ (.tup [a, b]) S = (ev G C elt ((((ρ.set j none).set i none).set i (some (.d a))).set j (some (.d b))) S).bind fun x S3 => (asD x S3).bind fun y S4 => .ok (some y) S4 := by
  unfold compT
  simp only [bindT, Bool.false_eq_true, if_false, wipeE, evc_no, Res.bind_ok, List.length_cons, List.length_nil, if_true]
  rfl
theorem step_facts {f b : Int} (hf : 0 < f) (hb : 0 < b) : 0 < f / gc f b * b ∧ f ∣ f / gc f b * b ∧ b ∣ f / gc f b * b ∧ f / gc f b * b ≤ f * b := by
  have g0 := gc_pos (t := f) (b := b) (by omega)
  obtain ⟨k, hk⟩ := gc_dvd_l f b
  obtain ⟨m, hm⟩ := gc_dvd_r f b
  generalize gc f b = g at g0 hk hm ⊢
  subst hk hm
  have hk0 : 0 < k := by
    rcases Int.lt_or_le 0 k with h | h
    · exact h
    · have := Int.mul_nonpos_of_nonneg_of_nonpos (show 0 ≤ g by omega) h
      omega
  rw [Int.mul_ediv_cancel_left _ (by omega)]
  refine ⟨Int.mul_pos hk0 hb, ⟨m, ?_⟩, ⟨k, Int.mul_comm _ _⟩, ?_⟩
  · rw [← Int.mul_assoc, Int.mul_comm k g]
  · exact Int.mul_le_mul_of_nonneg_right (by
      have := Int.mul_le_mul_of_nonneg_right (show 1 ≤ g by omega) (show 0 ≤ k by omega)
      rwa [Int.one_mul] at this) (by omega)
theorem common_spec {qs : List (Int × Int)} (S : Store) (h : ∀ q ∈ qs, Rt 13 q) : ∃ B, m_common [.d (.lst (qs.map RD))] S = .ok (.d (.int B)) S ∧ 0 < B ∧ B ≤ 10 ^ (13 * qs.length) ∧ ∀ q ∈ qs, q.2 ∣ B := by
  unfold m_common b_common
  obtain ⟨ρ', S', e, rfl, B, x, y, rfl, hB, hw, hd⟩ := for_st (src := []) (f := frB [] cs [2, 3] false (Ts.cons (T.set 1 Md.rd (E.bin Operator.Mult (E.bin Operator.FloorDiv (E.var 1) (E.blt Bf.gcd (Es.cons Md.rd (E.var 1) (Es.cons Md.rd (E.var 3) Es.nil)))) (E.var 3))) Ts.nil)) (items := qs.map RD) (S := S)
    (ρ := [some (.d (.lst (qs.map RD))), some (.d (.int 1)), none, none])
    (fun i ρ S' => S' = S ∧ ∃ (B : Int) (x y : Option RV), ρ = [some (.d (.lst (qs.map RD))), some (.d (.int B)), x, y] ∧ 0 < B ∧ B ≤ 10 ^ (13 * i) ∧ ∀ q ∈ qs.take i, q.2 ∣ B)
    (fun _ _ _ _ => rfl) (fun i d ρ S' hi ⟨e1, B, x, y, e2, hB, hw, hd⟩ => by
      subst e1 e2
      rw [List.getElem?_map] at hi
      cases hq : qs[i]? with
      | none => rw [hq] at hi; cases hi
      | some q =>
        rw [hq] at hi
        cases hi
        have hr := h q (List.mem_of_getElem? hq)
        obtain ⟨f1, f2, f3, f4⟩ := step_facts hB hr.pos
        have hg0 := gc_pos (t := B) hr.ne
        have hlog : (gc B q.2).natAbs.log2 < 9000 := log_lt (gc_le hr.ne) (sm26 (Nat.le_trans hr.w2 (by decide))).log
        refine ⟨_, S', ?_, rfl, B / gc B q.2 * q.2, some (.d (.int q.1)), some (.d (.int q.2)), rfl, f1, ?_, fun z hz => ?_⟩
        · have eb : frB [] cs [2, 3] false (Ts.cons (T.set 1 Md.rd (E.bin Operator.Mult (E.bin Operator.FloorDiv (E.var 1) (E.blt Bf.gcd (Es.cons Md.rd (E.var 1) (Es.cons Md.rd (E.var 3) Es.nil)))) (E.var 3))) Ts.nil) (RD q) [some (.d (.lst (qs.map RD))), some (.d (.int B)), x, y] S'
              = exs [] cs (Ts.cons (T.set 1 Md.rd (E.bin Operator.Mult (E.bin Operator.FloorDiv (E.var 1) (E.blt Bf.gcd (Es.cons Md.rd (E.var 1) (Es.cons Md.rd (E.var 3) Es.nil)))) (E.var 3))) Ts.nil) [some (.d (.lst (qs.map RD))), some (.d (.int B)), some (.d (.int q.1)), some (.d (.int q.2))] S' := rfl
          rw [eb]
          have e : ((Nat.gcd B.natAbs q.2.natAbs : Nat) : Int) = gc B q.2 := rfl
          have hg1 : ¬ gc B q.2 = 0 := by omega
          have hm : ∀ z, mulOk z q.2 = true := fun z => mulOk_r (w13 hr.w2)
          have hf : B.fdiv (gc B q.2) = B / gc B q.2 := Int.fdiv_eq_ediv_of_nonneg _ (by omega)
          simp! [e, hg1, hlog, hm, hf]
        · have hq2 : q.2 ≤ 10 ^ 13 := by have := hr.w2; have := hr.pos; omega
          refine Int.le_trans f4 ?_
          rw [show 13 * (i + 1) = 13 * i + 13 by omega, Int.pow_add]
          exact Int.mul_le_mul hw hq2 (by have := hr.pos; omega) (Int.pow_nonneg (by decide))
        · rw [List.take_succ, hq] at hz
          simp only [Option.toList, List.mem_append, List.mem_singleton] at hz
          rcases hz with hz | rfl
          · exact Int.dvd_trans (hd z hz) f2
          · exact f3)
    ⟨rfl, 1, none, none, rfl, by decide, by simp, fun q hq => by simp at hq⟩
  refine ⟨B, ?_, hB, by simpa using hw, fun q hq => hd q (by simpa using hq)⟩
  refine (runD_eq rfl).trans ?_
  simp! []
  unfold frM
  rw [e]
  simp! []
def scD (B : Int) : D → D
  | .tup [.int t, .int u] => .int (t * (B / u))
  | _ => .non
theorem ints_map (f : Int × Int → Int) : ∀ qs : List (Int × Int), intsOf (qs.map fun q => D.int (f q)) = some (qs.map f)
  | [] => rfl
  | q :: qs => by simp [intsOf, ints_map f qs]
theorem r_total_spec {qs : List (Int × Int)} (S : Store) (h : ∀ q ∈ qs, Rt 13 q) (hl : qs.length ≤ 10) : m_r_total [.d (.lst (qs.map RD))] S = .ok (.d (RD (((qs.map val).sum).num, (((qs.map val).sum).den : Int)))) S := by
  obtain ⟨B, e1, hB, hw, hd⟩ := common_spec S h
  have hBs : B.natAbs ≤ 10 ^ 130 := by
    have h1 : (10 : Int) ^ (13 * qs.length) ≤ 10 ^ 130 := by
      have := Nat.pow_le_pow_right (show 0 < 10 by decide) (show 13 * qs.length ≤ 130 by omega)
      exact_mod_cast this
    have h2 : B ≤ 10 ^ 130 := Int.le_trans hw h1
    omega
  have hSm : Sm B := sm_small (Nat.le_trans hBs (by decide +kernel))
  have key : cpM [m_common, m_made] cs (E.bin Operator.Mult (E.var 2) (E.bin Operator.FloorDiv (E.var 1) (E.var 3))) [2, 3] false Eo.no [2, 3] [some (.d (.lst (qs.map RD))), some (.d (.int B)), none, none] ([], qs.map RD) S = .ok (.f ((qs.map RD).map (scD B))) S := by
    refine cpM_map _ (by rw [List.length_map]; exact Nat.le_trans hl (by decide)) fun d hd' A => ?_
    obtain ⟨q, hq, rfl⟩ := List.mem_map.mp hd'
    have hr := h q hq
    have hn : ¬ q.2 = 0 := hr.ne
    have hlog : q.2.natAbs.log2 < 9000 := (sm26 (Nat.le_trans hr.w2 (by decide))).log
    have hm : ∀ z, mulOk q.1 z = true := fun z => mulOk_l (w13 hr.w1)
    have hf : B.fdiv q.2 = B / q.2 := Int.fdiv_eq_ediv_of_nonneg _ (by have := hr.pos; omega)
    rw [show RD q = .tup [.int q.1, .int q.2] from rfl, compT_two]
    simp! [hn, hlog, hm, hf]
    rfl
  have e2 : (qs.map RD).map (scD B) = qs.map fun q => D.int (q.1 * (B / q.2)) := by rw [List.map_map]; rfl
  have e3 : red ((qs.map fun q => q.1 * (B / q.2)).sum) B = (((qs.map val).sum).num, (((qs.map val).sum).den : Int)) := by
    refine red_of_val hB ?_
    rw [mk_sum B.toNat (by omega), List.map_map]
    congr 1
    refine List.map_congr_left fun q hq => ?_
    exact mk_scale (h q hq).pos hB (hd q hq)
  unfold m_r_total b_r_total
  refine (runD_eq rfl).trans ?_
  simp! [e1]
  rw [key, e2]
  simp! []
  rw [ints_map]
  simp! [made_spec S (show B ≠ 0 by omega) hSm.log, e3]
end Rf.Law

set_option Elab.async false
set_option linter.all false
set_option maxRecDepth 100000
set_option maxHeartbeats 1000000
namespace Rf.Law
open PySem PySem.Spec PyProof.Rows L2 Rf
def RW (s : Rat) : Int × Int := (s.num, (s.den : Int))
def sumV (qs : List (Int × Int)) : Rat := (qs.map val).sum
theorem total_spec {qs : List (Int × Int)} (S : Store) (h : ∀ q ∈ qs, Rt 13 q) (hn : qs ≠ []) (hl : qs.length ≤ 10) : m_total [.d (.lst (qs.map RD))] S = .ok (.d (RD (RW (sumV qs)))) S := by
  unfold m_total b_total
  refine (runD_eq rfl).trans ?_
  have c := check_numbers_spec false S h hn (by omega)
  simp only [asSeq, Bool.false_eq_true, if_false] at c
  simp! [c, r_total_spec S h hl]
  rfl
def fewF (f h : Int × Int) : Int × Int := if h.1 * f.2 < f.1 * h.2 then h else f
def manyF (f h : Int × Int) : Int × Int := if f.1 * h.2 < h.1 * f.2 then h else f
theorem fold_mem {F : Int × Int → Int × Int → Int × Int} (hF : ∀ a b, F a b = a ∨ F a b = b) : ∀ (qs : List (Int × Int)) (q : Int × Int), qs.foldl F q = q ∨ qs.foldl F q ∈ qs
  | [], q => .inl rfl
  | a :: qs, q => by
    rw [List.foldl_cons]
    rcases fold_mem hF qs (F q a) with h | h
    · rw [h]
      rcases hF q a with e | e
      · rw [e]; exact .inl rfl
      · rw [e]; exact .inr List.mem_cons_self
    · exact .inr (List.mem_cons_of_mem _ h)
theorem few_or (a b : Int × Int) : fewF a b = a ∨ fewF a b = b := by unfold fewF; split <;> simp
theorem many_or (a b : Int × Int) : manyF a b = a ∨ manyF a b = b := by unfold manyF; split <;> simp
theorem rt_fold {F : Int × Int → Int × Int → Int × Int} (hF : ∀ a b, F a b = a ∨ F a b = b) {qs : List (Int × Int)} {q : Int × Int} (h : ∀ r ∈ qs, Rt 13 r) (hq : Rt 13 q) : Rt 13 (qs.foldl F q) := by
  rcases fold_mem hF qs q with e | e
  · rw [e]; exact hq
  · exact h _ e
theorem take_foldl {α β : Type} {f : β → α → β} {xs : List α} {i : Nat} {x : α} {b : β} (h : xs[i]? = some x) : (xs.take (i + 1)).foldl f b = f ((xs.take i).foldl f b) x := by
  rw [List.take_succ, h, List.foldl_append]; rfl
theorem atI_map0 {q : Int × Int} {qs : List (Int × Int)} : atI ((q :: qs).map RD) 0 = some (RD q) := atI_0 _ _
theorem least_spec {q : Int × Int} {qs : List (Int × Int)} (S : Store) (h : ∀ r ∈ q :: qs, Rt 13 r) (hl : (q :: qs).length ≤ 10) : m_least [.d (.lst ((q :: qs).map RD))] S = .ok (.d (RD ((q :: qs).foldl fewF q))) S := by
  unfold m_least b_least
  have c := check_numbers_spec false S h (by simp) (by omega)
  simp only [asSeq, Bool.false_eq_true, if_false] at c
  generalize hqs : q :: qs = xs at *
  have hq : Rt 13 q := h q (by rw [← hqs]; exact List.mem_cons_self)
  have h0 : atI (xs.map RD) 0 = some (RD q) := by rw [← hqs]; exact atI_0 _ _
  refine (runD_eq rfl).trans ?_
  simp! [c, h0]
  unfold frM
  obtain ⟨ρ', S', e, rfl, z, rfl⟩ := for_st (src := []) (f := frB [m_check_numbers, m_r_less] cs [2] true (Ts.cons (T.set 1 Md.rd (E.ite (E.call 1 (Es.cons Md.dat (E.var 2) (Es.cons Md.dat (E.var 1) Es.nil))) (E.var 2) (E.var 1))) Ts.nil)) (items := xs.map RD) (S := S)
    (ρ := [some (.d (.lst (xs.map RD))), some (.d (RD q)), none])
    (fun i ρ S' => S' = S ∧ ∃ z, ρ = [some (.d (.lst (xs.map RD))), some (.d (RD ((xs.take i).foldl fewF q))), z])
    (fun _ _ _ _ => rfl) (fun i d ρ S' hi ⟨e1, z, e2⟩ => by
      subst e1 e2
      rw [List.getElem?_map] at hi
      cases hx : xs[i]? with
      | none => rw [hx] at hi; cases hi
      | some x =>
        rw [hx] at hi
        cases hi
        have hr := h x (List.mem_of_getElem? hx)
        have hf : Rt 13 ((xs.take i).foldl fewF q) := rt_fold few_or (fun r hr => h r (List.mem_of_mem_take hr)) hq
        refine ⟨_, S', ?_, rfl, some (.d (RD x)), rfl⟩
        have eb : frB [m_check_numbers, m_r_less] cs [2] true (Ts.cons (T.set 1 Md.rd (E.ite (E.call 1 (Es.cons Md.dat (E.var 2) (Es.cons Md.dat (E.var 1) Es.nil))) (E.var 2) (E.var 1))) Ts.nil) (RD x) [some (.d (.lst (xs.map RD))), some (.d (RD ((xs.take i).foldl fewF q))), z] S'
            = exs [m_check_numbers, m_r_less] cs (Ts.cons (T.set 1 Md.rd (E.ite (E.call 1 (Es.cons Md.dat (E.var 2) (Es.cons Md.dat (E.var 1) Es.nil))) (E.var 2) (E.var 1))) Ts.nil) [some (.d (.lst (xs.map RD))), some (.d (RD ((xs.take i).foldl fewF q))), some (.d (RD x))] S' := rfl
        rw [eb, take_foldl hx]
        simp! [r_less_spec S' hr hf]
        unfold fewF
        by_cases hc : x.1 * ((xs.take i).foldl fewF q).2 < ((xs.take i).foldl fewF q).1 * x.2
        · unfold fewF at hc; simp! [hc]
        · unfold fewF at hc; simp! [hc]) ⟨rfl, none, rfl⟩
  rw [e]
  simp! []
  rw [List.length_map, List.take_length]
theorem greatest_spec {q : Int × Int} {qs : List (Int × Int)} (b : Bool) (S : Store) (h : ∀ r ∈ q :: qs, Rt 13 r) (hl : (q :: qs).length ≤ 10) : m_greatest [.d (asSeq b ((q :: qs).map RD))] S = .ok (.d (RD ((q :: qs).foldl manyF q))) S := by
  unfold m_greatest b_greatest
  have c := check_numbers_spec b S h (by simp) (by omega)
  generalize hqs : q :: qs = xs at *
  have hq : Rt 13 q := h q (by rw [← hqs]; exact List.mem_cons_self)
  have h0 : atI (xs.map RD) 0 = some (RD q) := by rw [← hqs]; exact atI_0 _ _
  have h0' : idxD (asSeq b (xs.map RD)) (.int 0) = some (RD q) := by cases b <;> exact h0
  have hs : seqI (.d (asSeq b (xs.map RD))) S = .ok ([], xs.map RD) S := by cases b <;> rfl
  refine (runD_eq (np := 1) rfl).trans ?_
  simp! [c, h0', hs]
  unfold frM
  obtain ⟨ρ', S', e, rfl, z, rfl⟩ := for_st (src := []) (f := frB [m_check_numbers, m_r_less] cs [2] true (Ts.cons (T.set 1 Md.rd (E.ite (E.call 1 (Es.cons Md.dat (E.var 1) (Es.cons Md.dat (E.var 2) Es.nil))) (E.var 2) (E.var 1))) Ts.nil)) (items := xs.map RD) (S := S)
    (ρ := [some (.d (asSeq b (xs.map RD))), some (.d (RD q)), none])
    (fun i ρ S' => S' = S ∧ ∃ z, ρ = [some (.d (asSeq b (xs.map RD))), some (.d (RD ((xs.take i).foldl manyF q))), z])
    (fun _ _ _ _ => rfl) (fun i d ρ S' hi ⟨e1, z, e2⟩ => by
      subst e1 e2
      rw [List.getElem?_map] at hi
      cases hx : xs[i]? with
      | none => rw [hx] at hi; cases hi
      | some x =>
        rw [hx] at hi
        cases hi
        have hr := h x (List.mem_of_getElem? hx)
        have hf : Rt 13 ((xs.take i).foldl manyF q) := rt_fold many_or (fun r hr => h r (List.mem_of_mem_take hr)) hq
        refine ⟨_, S', ?_, rfl, some (.d (RD x)), rfl⟩
        have eb : frB [m_check_numbers, m_r_less] cs [2] true (Ts.cons (T.set 1 Md.rd (E.ite (E.call 1 (Es.cons Md.dat (E.var 1) (Es.cons Md.dat (E.var 2) Es.nil))) (E.var 2) (E.var 1))) Ts.nil) (RD x) [some (.d (asSeq b (xs.map RD))), some (.d (RD ((xs.take i).foldl manyF q))), z] S'
            = exs [m_check_numbers, m_r_less] cs (Ts.cons (T.set 1 Md.rd (E.ite (E.call 1 (Es.cons Md.dat (E.var 1) (Es.cons Md.dat (E.var 2) Es.nil))) (E.var 2) (E.var 1))) Ts.nil) [some (.d (asSeq b (xs.map RD))), some (.d (RD ((xs.take i).foldl manyF q))), some (.d (RD x))] S' := rfl
        rw [eb, take_foldl hx]
        simp! [r_less_spec S' hf hr]
        unfold manyF
        by_cases hc : ((xs.take i).foldl manyF q).1 * x.2 < x.1 * ((xs.take i).foldl manyF q).2
        · unfold manyF at hc; simp! [hc]
        · unfold manyF at hc; simp! [hc]) ⟨rfl, none, rfl⟩
  rw [e]
  simp! []
  rw [List.length_map, List.take_length]
end Rf.Law

set_option Elab.async false
set_option linter.all false
set_option maxRecDepth 100000
set_option maxHeartbeats 2000000
namespace Rf.Law
open PySem PySem.Spec PyProof.Rows L2 Rf
theorem idxRD0 (q : Int × Int) : idxD (RD q) (.int 0) = some (.int q.1) := atI_0 _ _
theorem idxRD1 (q : Int × Int) : idxD (RD q) (.int 1) = some (.int q.2) := atI_1 _ _ _
theorem nc_rd {q : Int × Int} (h1 : q.1.natAbs < 2 ^ 1900) (h2 : q.2.natAbs < 2 ^ 1900) : Nc 5000 1 (RD q) :=
  (nc_tup (w := 2000) (k := 0) (n := 2) (fun d hd => by
    simp only [List.mem_cons, List.not_mem_nil, or_false] at hd
    rcases hd with rfl | rfl
    · exact nc_int h1
    · exact nc_int h2) (Nat.le_refl _)).mono (by decide) (by decide)
theorem p1900 {a n : Nat} (h : a ≤ 10 ^ n) (hn : n ≤ 500) : a < 2 ^ 1900 :=
  Nat.lt_of_le_of_lt (Nat.le_trans h (Nat.pow_le_pow_right (by decide) hn)) (by decide +kernel)
theorem Rt.nc {W : Nat} {q : Int × Int} (h : Rt W q) (hW : W ≤ 500) : Nc 5000 1 (RD q) := nc_rd (p1900 h.w1 hW) (p1900 h.w2 hW)
/-- a short list of ratios and truths may be shown -/
theorem rp_short {ds : List D} (h : ∀ d ∈ ds, Nc 5000 1 d) (hl : ds.length ≤ 100) : (D.lst ds).rpOk = true := (nc_lst h hl).rp (by decide) (by decide)
theorem nc_bl' (b : Bool) : Nc 5000 1 (.bl b) := (nc_bl b).mono (by decide) (by decide)
abbrev Gn : List Mir := [m_law_ratio, m_law_low, m_plus, m_minus, m_times, m_is_below, m_over, m_law_pick, m_law_draw, m_ratio, m_total, m_least, m_greatest, m_law_is_ratio, m_is_ratio_ratios]
theorem add_le {a b : Int} {n : Nat} (h1 : a.natAbs ≤ 10 ^ n) (h2 : b.natAbs ≤ 10 ^ n) : (a + b).natAbs ≤ 10 ^ (n + 1) := by
  rw [Nat.pow_succ]; omega
theorem sub_le {a b : Int} {n : Nat} (h1 : a.natAbs ≤ 10 ^ n) (h2 : b.natAbs ≤ 10 ^ n) : (a - b).natAbs ≤ 10 ^ (n + 1) := by
  rw [Nat.pow_succ]; omega
theorem up1 {a n : Nat} (h : a ≤ 10 ^ n) : a ≤ 10 ^ (n + 1) := Nat.le_trans h (Nat.pow_le_pow_right (by decide) (by omega))
theorem stageA {p : Cell} (hp : PotC p) : ∃ q r p', PotC p' ∧ Rt 13 q ∧ Rt 13 r ∧ ∀ R : Store, ∃ x y z, exs Gn cs (takeTs 6 b_law_numbers_right) (some (.c 0) :: List.replicate 16 none) (p :: R) = .nx [some (.c 0), some (.d (RD q)), some (.d (RD r)), x, y, z, none, none, none, none, none, none, none, none, none, none, none] (p' :: R) := by
  obtain ⟨q, p1, e1, hp1, hq⟩ := ratio_spec hp
  obtain ⟨r, p2, e2, hp2, hr⟩ := ratio_spec hp1
  refine ⟨q, r, p2, hp2, hq, hr, fun R => ?_⟩
  have m1 : ∀ z, mulOk q.1 z = true := fun z => mulOk_l (w13 hq.w1)
  have m2 : ∀ z, mulOk r.1 z = true := fun z => mulOk_l (w13 hr.w1)
  have m3 : ∀ z, mulOk q.2 z = true := fun z => mulOk_l (w13 hq.w2)
  have b22 : (q.2 * r.2).natAbs ≤ 10 ^ 26 := mul_le hq.w2 hr.w2
  have n22 := mul_ne hq.ne hr.ne
  have s22 := sm26 b22
  have t1 : (q.1 * r.2 + r.1 * q.2).natAbs ≤ 10 ^ 27 := add_le (mul_le hq.w1 hr.w2) (mul_le hr.w1 hq.w2)
  have t2 : (q.1 * r.2 - r.1 * q.2).natAbs ≤ 10 ^ 27 := sub_le (mul_le hq.w1 hr.w2) (mul_le hr.w1 hq.w2)
  have t3 : (q.1 * r.1).natAbs ≤ 10 ^ 27 := up1 (mul_le hq.w1 hr.w1)
  have l1 := fun S => low_spec (t := q.1 * r.2 + r.1 * q.2) S n22 s22
  have l2 := fun S => low_spec (t := q.1 * r.2 - r.1 * q.2) S n22 s22
  have l3 := fun S => low_spec (t := q.1 * r.1) S n22 s22
  have hx : decide (q.1 * r.2 - r.1 * q.2 < 0) = decide (q.1 * r.2 < r.1 * q.2) := decide_eq_decide.mpr (by omega)
  have rp : (D.lst [RD (red (q.1 * r.2 + r.1 * q.2) (q.2 * r.2)), RD (red (q.1 * r.2 - r.1 * q.2) (q.2 * r.2)), RD (red (q.1 * r.1) (q.2 * r.2)), .bl (decide (q.1 * r.2 < r.1 * q.2))]).rpOk = true := rp_short (fun d hd => by
    simp only [List.mem_cons, List.not_mem_nil, or_false] at hd
    rcases hd with rfl | rfl | rfl | rfl
    · exact (red_rt n22 t1 (up1 b22)).nc (by decide)
    · exact (red_rt n22 t2 (up1 b22)).nc (by decide)
    · exact (red_rt n22 t3 (up1 b22)).nc (by decide)
    · exact nc_bl' _) (by simp)
  refine ⟨some (.d (.int (q.1 * r.2 - r.1 * q.2))), some (.d (.lst [RD (red (q.1 * r.2 + r.1 * q.2) (q.2 * r.2)), RD (red (q.1 * r.2 - r.1 * q.2) (q.2 * r.2)), RD (red (q.1 * r.1) (q.2 * r.2)), .bl (decide (q.1 * r.2 < r.1 * q.2))])), some (.d (.lst [RD (red (q.1 * r.2 + r.1 * q.2) (q.2 * r.2)), RD (red (q.1 * r.2 - r.1 * q.2) (q.2 * r.2)), RD (red (q.1 * r.1) (q.2 * r.2)), .bl (decide (q.1 * r.2 < r.1 * q.2))])), ?_⟩
  simp only [takeTs, b_law_numbers_right]
  simp! [e1, e2, idxRD0, idxRD1, m1, m2, m3, l1, l2, l3, hx, plus_spec _ hq hr, minus_spec _ hq hr, times_spec _ hq hr, is_below_spec _ hq hr, rp, eq_self]
  by_cases h0 : r.1 = 0
  · simp! [h0]
  · have no : q.2 * r.1 ≠ 0 := mul_ne hq.ne h0
    have bo : (q.2 * r.1).natAbs ≤ 10 ^ 26 := mul_le hq.w2 hr.w1
    have to : (q.1 * r.2).natAbs ≤ 10 ^ 26 := mul_le hq.w1 hr.w2
    have lo := fun S => low_spec (t := q.1 * r.2) S no (sm26 bo)
    have rpo : (D.lst [RD (red (q.1 * r.2) (q.2 * r.1)), RD (red (q.1 * r.2) (q.2 * r.1))]).rpOk = true := rp_short (fun d hd => by
      simp only [List.mem_cons, List.not_mem_nil, or_false] at hd
      rcases hd with rfl | rfl <;> exact (red_rt no to bo).nc (by decide)) (by simp)
    have c2 : (-9223372036854775808 : Int) ≤ 2 ∧ (2 : Int) < 9223372036854775808 ∧ 1 * (2 : Int).toNat ≤ 16777216 := by decide
    have er : repD [RD (red (q.1 * r.2) (q.2 * r.1))] 2 = [RD (red (q.1 * r.2) (q.2 * r.1)), RD (red (q.1 * r.2) (q.2 * r.1))] := rfl
    simp! [h0, over_spec _ hq hr h0, lo, rpo, c2, er, eq_self, idxRD0, idxRD1, m1, m3]
end Rf.Law

set_option Elab.async false
set_option linter.all false
set_option maxRecDepth 100000
set_option maxHeartbeats 2000000
namespace Rf.Law
open PySem PySem.Spec PyProof.Rows L2 Rf
theorem stageB' {p : Cell} {q r : Int × Int} (hp : PotC p) : ∃ p', PotC p' ∧ ∃ t b, ∀ (x y z : Option RV) (R : Store), exs Gn cs (takeTs 2 (dropTs 6 b_law_numbers_right)) [some (.c 0), some (.d (RD q)), some (.d (RD r)), x, y, z, none, none, none, none, none, none, none, none, none, none, none] (p :: R) =
    .nx [some (.c 0), some (.d (RD q)), some (.d (RD r)), x, y, z, t, b, none, none, none, none, none, none, none, none, none] (p' :: R) := by
  obtain ⟨j, p1, e1, hp1, j0, j1⟩ := draw_spec (p := p) (k := 999) hp (by decide) (sm_small (by decide))
  obtain ⟨d, p2, e2, hp2, hm⟩ := pick_spec (p := p1) (xs := [.int 1, .int (-1), .int 7, .int (-12), .int 360]) hp1 (by simp) (by simp)
  obtain ⟨b, rfl, hb, hbs⟩ : ∃ b : Int, d = .int b ∧ b ≠ 0 ∧ b.natAbs ≤ 10 ^ 3 := by
    simp only [List.mem_cons, List.not_mem_nil, or_false] at hm
    rcases hm with rfl | rfl | rfl | rfl | rfl <;> exact ⟨_, rfl, by decide, by decide⟩
  have hS : Sm b := sm_small (Nat.le_trans hbs (by decide +kernel))
  have lw := fun S => low_spec (t := j - 500) S hb hS
  have ra := fun S => ratio_def_spec (t := j - 500) S hb hS
  have rp : (D.lst [RD (red (j - 500) b), RD (red (j - 500) b)]).rpOk = true := rp_short (fun d hd => by
    simp only [List.mem_cons, List.not_mem_nil, or_false] at hd
    rcases hd with rfl | rfl <;> exact (red_rt (W := 3) hb (by omega) hbs).nc (by decide)) (by simp)
  have c2 : (-9223372036854775808 : Int) ≤ 2 ∧ (2 : Int) < 9223372036854775808 ∧ 1 * (2 : Int).toNat ≤ 16777216 := by decide
  have er : repD [RD (red (j - 500) b)] 2 = [RD (red (j - 500) b), RD (red (j - 500) b)] := rfl
  refine ⟨p2, hp2, some (.d (.int (j - 500))), some (.d (.int b)), fun x y z R => ?_⟩
  simp only [takeTs, dropTs, b_law_numbers_right]
  simp! [e1, e2, lw, ra, rp, c2, er, eq_self]
theorem RW_zero : RW 0 = (0, 1) := rfl
theorem RW_add {s : Rat} {h : Int × Int} (hh : 0 < h.2) : red ((RW s).1 * h.2 + h.1 * (RW s).2) ((RW s).2 * h.2) = RW (s + val h) := by
  have hd : (0 : Int) < (s.den : Int) := by have := s.den_pos; omega
  refine red_of_val (Int.mul_pos hd hh) ?_
  show mkRat (s.num * h.2 + h.1 * (s.den : Int)) ((s.den : Int) * h.2).toNat = s + val h
  rw [val_add hd hh, Int.toNat_natCast, Rat.mkRat_self]
  rfl
theorem RW_den {s : Rat} {h : Int × Int} {n : Nat} (hh : Rt 13 h) (hs : s.den ≤ 10 ^ n) : (s + val h).den ≤ 10 ^ (n + 13) := by
  have e := RW_add (s := s) hh.pos
  have h2 : ((s + val h).den : Int) = (red ((RW s).1 * h.2 + h.1 * (RW s).2) ((RW s).2 * h.2)).2 := by rw [e]; rfl
  have h3 : (red ((RW s).1 * h.2 + h.1 * (RW s).2) ((RW s).2 * h.2)).2 ≤ ((((s.den : Int) * h.2).natAbs : Nat) : Int) := by
    show ((((s.den : Int) * h.2).natAbs : Nat) : Int) / gc _ _ ≤ _
    exact Int.ediv_le_self _ (Int.natCast_nonneg _)
  have h4 : ((s.den : Int) * h.2).natAbs ≤ 10 ^ (n + 13) := mul_le (by simpa using hs) hh.w2
  omega
theorem sumV_take {qs : List (Int × Int)} {i : Nat} {x : Int × Int} (h : qs[i]? = some x) : sumV (qs.take (i + 1)) = sumV (qs.take i) + val x := by
  unfold sumV
  rw [List.take_succ, h, List.map_append, List.sum_append]
  simp [Rat.add_zero]
end Rf.Law

set_option Elab.async false
set_option linter.all false
set_option maxRecDepth 100000
set_option maxHeartbeats 2000000
namespace Rf.Law
open PySem PySem.Spec PyProof.Rows L2 Rf
/-- the numbers that are drawn -/
theorem numbers_drawn {p : Cell} {n : Nat} (hp : PotC p) (hn : n ≤ 1000) :
    ∃ (p' : Cell) (qs : List (Int × Int)), (∀ (ρ : Env) R, (∀ d, ((ρ.set 16 none).set 16 (some (.d d)))[0]? = some (some (.c 0))) → cpM Gn cs (E.call 0 (Es.cons Md.cel (E.var 0) Es.nil)) [16] true Eo.no [16] ρ ([], rngD 0 n) (p :: R) = .ok (.f (qs.map RD)) (p' :: R)) ∧ PotC p' ∧ qs.length = n ∧ ∀ q ∈ qs, Rt 13 q := by
  have hln : (rngD 0 n).length = n := by simp [rngD]
  obtain ⟨p', acc, h, hp', qs, rfl, hl, hr⟩ := cpM_pot (G := Gn) (C := cs) (elt := E.call 0 (Es.cons Md.cel (E.var 0) Es.nil)) (tg := [16]) (own := [16]) (one := true) (p := p) (items := rngD 0 n) (fun ρ => ∀ d, ((ρ.set 16 none).set 16 (some (.d d)))[0]? = some (some (.c 0)))
    (fun i p acc => PotC p ∧ ∃ qs : List (Int × Int), acc = qs.map RD ∧ qs.length = i ∧ ∀ q ∈ qs, Rt 13 q)
    (fun i d p acc hi ⟨hp, qs, e, hl, hr⟩ => by
      obtain ⟨q, p', e1, hp', hq⟩ := ratio_spec hp
      refine ⟨RD q, p', fun ρ R h0 => ?_, hp', qs ++ [q], by rw [e]; simp, by simp [hl], fun z hz => ?_⟩
      · rw [compT_one]
        have := h0 d
        simp! [this, e1]
      · rcases List.mem_append.mp hz with hz | hz
        · exact hr z hz
        · rw [List.mem_singleton.mp hz]; exact hq) ⟨hp, [], rfl, rfl, fun q hq => by simp at hq⟩ (by rw [hln]; exact Nat.le_trans hn (by decide))
  exact ⟨p', qs, fun ρ R h0 => h ρ R h0, hp', by rw [hl, hln], hr⟩
theorem RD_RW0 : RD (RW 0) = .tup [.int 0, .int 1] := rfl
theorem den_take {qs : List (Int × Int)} (h : ∀ q ∈ qs, Rt 13 q) : ∀ i : Nat, (sumV (qs.take i)).den ≤ 10 ^ (13 * i)
  | 0 => by show (0 : Rat).den ≤ _; decide
  | i + 1 => by
    have ih := den_take h i
    cases hx : qs[i]? with
    | none =>
      have : qs.take (i + 1) = qs.take i := by rw [List.take_succ, hx]; simp
      rw [this]
      exact Nat.le_trans ih (Nat.pow_le_pow_right (by decide) (by omega))
    | some x =>
      rw [sumV_take hx]
      exact RW_den (h x (List.mem_of_getElem? hx)) ih
theorem stageC' {p : Cell} {q r : Int × Int} {t b : Option RV} (hp : PotC p) : ∃ a qs p', PotC p' ∧ (∀ q ∈ a :: qs, Rt 13 q) ∧ (a :: qs).length ≤ 6 ∧ ∀ (x y z : Option RV) (R : Store), ∃ h, exs Gn cs (takeTs 3 (dropTs 8 b_law_numbers_right)) [some (.c 0), some (.d (RD q)), some (.d (RD r)), x, y, z, t, b, none, none, none, none, none, none, none, none, none] (p :: R) =
    .nx [some (.c 0), some (.d (RD q)), some (.d (RD r)), x, y, z, t, b, some (.d (RL (a :: qs))), some (.d (.str (RL (a :: qs)).py.shown)), some (.d (RD (RW (sumV (a :: qs))))), some (.d (RD ((a :: qs).foldl fewF a))), some (.d (RD ((a :: qs).foldl manyF a))), h, none, none, none] (p' :: R) := by
  obtain ⟨j, p1, e1, hp1, j0, j1⟩ := draw_spec (p := p) (k := 6) hp (by decide) (sm_small (by decide))
  obtain ⟨p2, qs0, e2, hp2, hl, hr⟩ := numbers_drawn (n := (1 + j).toNat) hp1 (by omega)
  obtain ⟨a, qs, rfl⟩ : ∃ a qs, qs0 = a :: qs := by
    cases qs0 with
    | nil => simp at hl; omega
    | cons a qs => exact ⟨a, qs, rfl⟩
  have ha := hr a List.mem_cons_self
  have hl6 : (a :: qs).length ≤ 6 := by omega
  refine ⟨a, qs, p2, hp2, hr, hl6, fun x y z R => ?_⟩
  have e2 := e2 [some (.c 0), some (.d (RD q)), some (.d (RD r)), x, y, z, t, b, none, none, none, none, none, none, none, none, none] R (fun _ => rfl)
  have i0 : idxD (RL (a :: qs)) (.int 0) = some (RD a) := atI_0 _ _
  generalize a :: qs = xs at *
  have rg : ∀ S, rngI (some [.int (1 + j)]) S = .ok ([], rngD 0 (1 + j).toNat) S := fun S => rngI_1 _ (by omega)
  have rp : (RL xs).rpOk = true := rp_short (fun d hd => by
    obtain ⟨z, hz, rfl⟩ := List.mem_map.mp hd
    exact (hr z hz).nc (by decide)) (by rw [List.length_map]; omega)
  have rl : D.lst (xs.map RD) = RL xs := rfl
  have sq : ∀ S, seqI (.d (RL xs)) S = .ok ([], xs.map RD) S := fun S => rfl
  generalize hgoal : exs Gn cs (takeTs 3 (dropTs 8 b_law_numbers_right)) [some (.c 0), some (.d (RD q)), some (.d (RD r)), x, y, z, t, b, none, none, none, none, none, none, none, none, none] (p :: R) = o
  simp only [takeTs, dropTs, b_law_numbers_right] at hgoal
  simp! [e1, rg, e2, rl, rp, i0, sq] at hgoal
  revert hgoal
  generalize hfr : frM _ _ _ _ _ _ _ _ = o2
  intro hgoal
  let Inv : Nat → Env → Store → Prop := fun (i : Nat) (ρ : Env) (S' : Store) => S' = p2 :: R ∧ ∃ h : Option RV, ρ = [some (.c 0), some (.d (RD q)), some (.d (RD r)), x, y, z, t, b, some (.d (RL xs)), some (.d (.str (RL xs).py.shown)), some (.d (RD (RW (sumV (xs.take i))))), some (.d (RD ((xs.take i).foldl fewF a))), some (.d (RD ((xs.take i).foldl manyF a))), h, none, none, none]
  obtain ⟨ρ', S', e3, rfl, hv, rfl⟩ : ∃ ρ' S', o2 = .nx ρ' S' ∧ Inv (xs.map RD).length ρ' S' := by
    rw [← hfr]
    refine frM_st Inv (fun i d ρ S' hi I => ?_) ?_
    · obtain ⟨rfl, h, rfl⟩ := I
      rw [List.getElem?_map] at hi
      cases hx : xs[i]? with
      | none => rw [hx] at hi; cases hi
      | some u =>
        rw [hx] at hi
        cases hi
        have hu := hr u (List.mem_of_getElem? hx)
        have hf : Rt 13 ((xs.take i).foldl fewF a) := rt_fold few_or (fun v hv => hr v (List.mem_of_mem_take hv)) ha
        have hm : Rt 13 ((xs.take i).foldl manyF a) := rt_fold many_or (fun v hv => hr v (List.mem_of_mem_take hv)) ha
        refine ⟨_, [some (.c 0), some (.d (RD q)), some (.d (RD r)), x, y, z, t, b, some (.d (RL xs)), some (.d (.str (RL xs).py.shown)), some (.d (RD (RW (sumV (xs.take (i + 1)))))), some (.d (RD ((xs.take (i + 1)).foldl fewF a))), some (.d (RD ((xs.take (i + 1)).foldl manyF a))), some (.d (RD u)), none, none, none], p2 :: R, rfl, ?_, rfl, some (.d (RD u)), rfl⟩
        have m1 : ∀ z, mulOk u.1 z = true := fun z => mulOk_l (w13 hu.w1)
        have m2 : ∀ z, mulOk z u.2 = true := fun z => mulOk_r (w13 hu.w2)
        have m3 : ∀ z, mulOk ((xs.take i).foldl fewF a).1 z = true := fun z => mulOk_l (w13 hf.w1)
        have m4 : ∀ z, mulOk ((xs.take i).foldl manyF a).1 z = true := fun z => mulOk_l (w13 hm.w1)
        have hden := den_take hr i
        have hi6 : i ≤ 6 := by have := (List.getElem?_eq_some_iff.mp hx).1; omega
        have hne : (RW (sumV (xs.take i))).2 * u.2 ≠ 0 := mul_ne (by
          show ((sumV (xs.take i)).den : Int) ≠ 0
          have := (sumV (xs.take i)).den_pos
          omega) hu.ne
        have hsm : Sm ((RW (sumV (xs.take i))).2 * u.2) := sm_small (Nat.le_trans (mul_le (m := 13 * i) (by simpa [RW] using hden) hu.w2) (Nat.pow_le_pow_right (by decide) (by omega)))
        have lw := low_spec (t := (RW (sumV (xs.take i))).1 * u.2 + u.1 * (RW (sumV (xs.take i))).2) (p2 :: R) hne hsm
        rw [RW_add hu.pos, ← sumV_take hx] at lw
        rw [take_foldl hx, take_foldl hx]
        simp! [idxRD0, idxRD1, m1, m2, m3, m4, lw]
        have ef : fewF (((xs).take i).foldl fewF a) u = if u.1 * (((xs).take i).foldl fewF a).2 < (((xs).take i).foldl fewF a).1 * u.2 then u else ((xs).take i).foldl fewF a := rfl
        have em : manyF (((xs).take i).foldl manyF a) u = if (((xs).take i).foldl manyF a).1 * u.2 < u.1 * (((xs).take i).foldl manyF a).2 then u else ((xs).take i).foldl manyF a := rfl
        rw [ef, em]
        generalize (xs.take i).foldl fewF a = ff at *
        generalize (xs.take i).foldl manyF a = mm at *
        by_cases c1 : u.1 * ff.2 < ff.1 * u.2 <;> by_cases c2 : mm.1 * u.2 < u.1 * mm.2 <;> simp! [c1, c2, idxRD0, idxRD1, m1, m2, m3, m4]
    · exact ⟨rfl, none, rfl⟩
  simp! [e3] at hgoal
  refine ⟨hv, ?_⟩
  rw [← hgoal, List.length_map, List.take_length]
end Rf.Law

set_option Elab.async false
set_option linter.all false
set_option maxRecDepth 100000
set_option maxHeartbeats 2000000
namespace Rf.Law
open PySem PySem.Spec PyProof.Rows L2 Rf
theorem rw_rt {qs : List (Int × Int)} (h : ∀ q ∈ qs, Rt 13 q) : ∀ i : Nat, Rt (14 * i) (RW (sumV (qs.take i)))
  | 0 => ⟨by show (0 : Int) < 1; decide, by show Nat.gcd (0 : Int).natAbs (1 : Int).natAbs = 1; decide, by show (0 : Int).natAbs ≤ 10 ^ 0; decide, by show (1 : Int).natAbs ≤ 10 ^ 0; decide⟩
  | i + 1 => by
    have ih := rw_rt h i
    cases hx : qs[i]? with
    | none =>
      have : qs.take (i + 1) = qs.take i := by rw [List.take_succ, hx]; simp
      rw [this]
      have hp := Nat.pow_le_pow_right (show 0 < 10 by decide) (show 14 * i ≤ 14 * (i + 1) by omega)
      exact ⟨ih.pos, ih.cop, Nat.le_trans ih.w1 hp, Nat.le_trans ih.w2 hp⟩
    | some x =>
      have hx' := h x (List.mem_of_getElem? hx)
      rw [sumV_take hx, ← RW_add hx'.pos]
      have a1 := mul_le ih.w1 hx'.w2
      have a2 := mul_le hx'.w1 ih.w2
      rw [Nat.add_comm 13 (14 * i)] at a2
      have a3 := mul_le ih.w2 hx'.w2
      exact red_rt (mul_ne ih.ne hx'.ne) (add_le a1 a2) (up1 a3)
theorem stageD {p : Cell} {R : Store} {q r a : Int × Int} {qs : List (Int × Int)} {x y z t b s h : Option RV} (hr : ∀ q ∈ a :: qs, Rt 13 q) (hl : (a :: qs).length ≤ 6) :
    exs Gn cs (takeTs 1 (dropTs 11 b_law_numbers_right)) [some (.c 0), some (.d (RD q)), some (.d (RD r)), x, y, z, t, b, some (.d (RL (a :: qs))), s, some (.d (RD (RW (sumV (a :: qs))))), some (.d (RD ((a :: qs).foldl fewF a))), some (.d (RD ((a :: qs).foldl manyF a))), h, none, none, none] (p :: R) =
    .nx [some (.c 0), some (.d (RD q)), some (.d (RD r)), x, y, z, t, b, some (.d (RL (a :: qs))), s, some (.d (RD (RW (sumV (a :: qs))))), some (.d (RD ((a :: qs).foldl fewF a))), some (.d (RD ((a :: qs).foldl manyF a))), h, none, none, none] (p :: R) := by
  have ha := hr a List.mem_cons_self
  have t1 := fun S => total_spec S hr (by simp) (by omega)
  have t2 := fun S => least_spec S hr (by omega)
  have t3 := fun S => greatest_spec false S hr (by omega)
  have t4 := fun S => greatest_spec true S hr (by omega)
  have rl : D.lst ((a :: qs).map RD) = RL (a :: qs) := rfl
  simp only [asSeq, Bool.false_eq_true, if_false, if_true] at t3 t4
  rw [rl] at t1 t2 t3
  have hw : Rt (14 * (a :: qs).length) (RW (sumV (a :: qs))) := by
    have := rw_rt hr (a :: qs).length
    rwa [List.take_length] at this
  have hf : Rt 13 ((a :: qs).foldl fewF a) := rt_fold few_or hr ha
  have hm : Rt 13 ((a :: qs).foldl manyF a) := rt_fold many_or hr ha
  have tl : bltD .tuple [RL (a :: qs)] = some (.d (.tup ((a :: qs).map RD))) := rfl
  generalize a :: qs = xs at *
  generalize RW (sumV xs) = w at *
  generalize xs.foldl fewF a = ff at *
  generalize xs.foldl manyF a = mm at *
  have rp : (D.lst [RD w, RD ff, RD mm, RD w, RD ff, RD mm]).rpOk = true := rp_short (fun d hd => by
    simp only [List.mem_cons, List.not_mem_nil, or_false] at hd
    rcases hd with rfl | rfl | rfl | rfl | rfl | rfl
    · exact hw.nc (by omega)
    · exact hf.nc (by decide)
    · exact hm.nc (by decide)
    · exact hw.nc (by omega)
    · exact hf.nc (by decide)
    · exact hm.nc (by decide)) (by simp)
  have c2 : (-9223372036854775808 : Int) ≤ 2 ∧ (2 : Int) < 9223372036854775808 ∧ 3 * (2 : Int).toNat ≤ 16777216 := by decide
  have er : repD [RD w, RD ff, RD mm] 2 = [RD w, RD ff, RD mm, RD w, RD ff, RD mm] := rfl
  simp only [takeTs, dropTs, b_law_numbers_right]
  simp! [t1, t2, t3, t4, tl, rp, c2, er, eq_self]
/-- the data that the law asks about -/
def asked (q : Int × Int) : List D := [RD q, .lst [.int q.1, .int q.2], .tup [.int q.1, .int q.2, .int 1], .tup [.int q.1], .tup [.int (q.1 * 2), .int (q.2 * 2)], .tup [.int q.1, .int 0], .tup [.int q.1, .int (0 - q.2)], .tup [.bl true, .int 1], .tup [.int 1, .bl true], .non, .int 0, .str (Str.ofString "1")]
theorem asked_sm {q : Int × Int} (hq : Rt 13 q) : ∀ v ∈ asked q, ∀ x y, v = .tup [.int x, .int y] → Sm y := by
  intro v hv x y e
  subst e
  have h2 := hq.w2
  simp only [asked, RD, List.mem_cons, List.not_mem_nil, or_false, D.tup.injEq, List.cons.injEq, D.int.injEq, and_true, reduceCtorEq, false_and, and_false, false_or] at hv
  rcases hv with ⟨_, rfl⟩ | ⟨_, rfl⟩ | ⟨_, rfl⟩ | ⟨_, rfl⟩
  · exact sm26 (Nat.le_trans h2 (by decide))
  · exact sm26 (by have : (q.2 * 2).natAbs ≤ 10 ^ 26 := by omega
                   exact this)
  · exact sm26 (by decide)
  · exact sm26 (by have : (0 - q.2).natAbs ≤ 10 ^ 26 := by omega
                   exact this)
theorem stageE {p : Cell} {R : Store} {q r : Int × Int} {xs : List (Int × Int)} {x y z t b w f m h : Option RV} (hq : Rt 13 q) (hr : ∀ q ∈ xs, Rt 13 q) (hl : xs.length ≤ 6) :
    exs Gn cs (dropTs 12 b_law_numbers_right) [some (.c 0), some (.d (RD q)), some (.d (RD r)), x, y, z, t, b, some (.d (RL xs)), some (.d (.str (RL xs).py.shown)), w, f, m, h, none, none, none] (p :: R) = .ret (.d (.bl true)) (p :: R) := by
  have m2 : mulOk q.1 2 = true := mulOk_l (w13 hq.w1)
  have m3 : mulOk q.2 2 = true := mulOk_l (w13 hq.w2)
  have rp : (RL xs).rpOk = true := rp_short (fun d hd => by
    obtain ⟨z, hz, rfl⟩ := List.mem_map.mp hd
    exact (hr z hz).nc (by decide)) (by rw [List.length_map]; omega)
  have b1 : bltD .list [RD q] = some (.f [.int q.1, .int q.2]) := rfl
  have b2 : binD .Add (RD q) (.tup [.int 1]) = some (.d (.tup [.int q.1, .int q.2, .int 1])) := rfl
  have b3 : sliceD (RD q) none (some 1) = some (.d (.tup [.int q.1])) := rfl
  generalize hgoal : exs Gn cs (dropTs 12 b_law_numbers_right) [some (.c 0), some (.d (RD q)), some (.d (RD r)), x, y, z, t, b, some (.d (RL xs)), some (.d (.str (RL xs).py.shown)), w, f, m, h, none, none, none] (p :: R) = o
  simp only [dropTs, b_law_numbers_right] at hgoal
  simp! [b1, b2, b3, idxRD0, idxRD1, m2, m3] at hgoal
  revert hgoal
  generalize hfr : frM _ _ _ _ _ _ _ _ = o2
  intro hgoal
  let Inv : Nat → Env → Store → Prop := fun i ρ S' => S' = p :: R ∧ ∃ v s : Option RV, ρ = [some (.c 0), some (.d (RD q)), some (.d (RD r)), x, y, z, t, b, some (.d (RL xs)), some (.d (.str (RL xs).py.shown)), w, f, m, h, v, s, none]
  obtain ⟨ρ', S', e3, rfl, v, s, rfl⟩ : ∃ ρ' S', o2 = .nx ρ' S' ∧ Inv (asked q).length ρ' S' := by
    rw [← hfr]
    refine frM_st (items := asked q) Inv (fun i d ρ S' hi I => ?_) ⟨rfl, none, none, rfl⟩
    obtain ⟨rfl, v, s, rfl⟩ := I
    have hd := List.mem_of_getElem? hi
    refine ⟨_, [some (.c 0), some (.d (RD q)), some (.d (RD r)), x, y, z, t, b, some (.d (RL xs)), some (.d (.str (RL xs).py.shown)), w, f, m, h, some (.d d), some (.d (.bl (isRatD d))), none], p :: R, rfl, ?_, rfl, some (.d d), some (.d (.bl (isRatD d))), rfl⟩
    have l1 := law_is_ratio_spec d (p :: R) (asked_sm hq d hd)
    have rpb : (D.lst [.bl (isRatD d), .bl (isRatD d)]).rpOk = true := rp_short (fun d hd => by
      simp only [List.mem_cons, List.not_mem_nil, or_false] at hd
      rcases hd with rfl | rfl <;> exact nc_bl' _) (by simp)
    simp! [l1, is_ratio_ratios_spec, rpb, eq_self]
  simp! [e3, rp, eq_self] at hgoal
  exact hgoal.symm
theorem numbers_right_spec {p : Cell} (hp : PotC p) : ∃ p', (∀ R : Store, m_law_numbers_right [.c 0] (p :: R) = .ok (.d (.bl true)) (p' :: R)) ∧ PotC p' := by
  obtain ⟨q, r, p1, hp1, hq, hr, hA⟩ := stageA hp
  obtain ⟨p2, hp2, hB⟩ : ∃ p2, PotC p2 ∧ ∃ t b, ∀ (x y z : Option RV) (R : Store), exs Gn cs (takeTs 2 (dropTs 6 b_law_numbers_right)) [some (.c 0), some (.d (RD q)), some (.d (RD r)), x, y, z, none, none, none, none, none, none, none, none, none, none, none] (p1 :: R) =
      .nx [some (.c 0), some (.d (RD q)), some (.d (RD r)), x, y, z, t, b, none, none, none, none, none, none, none, none, none] (p2 :: R) := stageB' hp1
  obtain ⟨t, b, hB⟩ := hB
  obtain ⟨a, qs, p3, hp3, hqs, hl, hC⟩ := stageC' (q := q) (r := r) (t := t) (b := b) hp2
  refine ⟨p3, fun R => ?_, hp3⟩
  unfold m_law_numbers_right
  refine (runD_eq rfl).trans ?_
  obtain ⟨x, y, z, eA⟩ := hA R
  obtain ⟨h, eC⟩ := hC x y z R
  have eD := stageD (p := p3) (R := R) (q := q) (r := r) (x := x) (y := y) (z := z) (t := t) (b := b) (s := some (.d (.str (RL (a :: qs)).py.shown))) (h := h) hqs hl
  have eE := stageE (p := p3) (R := R) (q := q) (r := r) (xs := a :: qs) (x := x) (y := y) (z := z) (t := t) (b := b) (w := some (.d (RD (RW (sumV (a :: qs)))))) (f := some (.d (RD ((a :: qs).foldl fewF a)))) (m := some (.d (RD ((a :: qs).foldl manyF a)))) (h := h) hq hqs hl
  show endD _ (exs Gn cs b_law_numbers_right (some (.c 0) :: List.replicate 16 none) (p :: R)) = _
  rw [exs_split 6, eA, Out.then_nx, exs_split 2, hB, Out.then_nx]
  rw [show dropTs 2 (dropTs 6 b_law_numbers_right) = dropTs 8 b_law_numbers_right from rfl, exs_split 3, eC, Out.then_nx]
  rw [show dropTs 3 (dropTs 8 b_law_numbers_right) = dropTs 11 b_law_numbers_right from rfl, exs_split 1, eD, Out.then_nx]
  rw [show dropTs 1 (dropTs 11 b_law_numbers_right) = dropTs 12 b_law_numbers_right from rfl, eE]
  simp! []
end Rf.Law

set_option Elab.async false
set_option linter.all false
set_option maxRecDepth 100000
set_option maxHeartbeats 2000000
namespace Rf.Law
open PySem PySem.Spec PyProof.Rows L2 Rf
/-! ### flaws -/
def sTable : Str := Str.ofString "table"
def dForm : D := .str (Str.ofString "form")
def dRows : D := .str (Str.ofString "rows")
def dNumbers : D := .str (Str.ofString "numbers")
def isT : D → Bool
  | .tup _ => true
  | _ => false
def itemsT : D → List D
  | .tup ds => ds
  | _ => []
def okn : D → Bool
  | .int i => decide (0 ≤ i) && decide (i ≤ 999)
  | _ => false
def sizesOk (k : Nat) : List D → Bool
  | [] => true
  | r :: rs => decide ((itemsT r).length = k + 1) && sizesOk (k + 1) rs
def flawR (rows : List D) : D := if rows.all isT && decide (1 ≤ rows.length ∧ rows.length < 8) && sizesOk 0 rows then (if rows.all (fun r => (itemsT r).all okn) then .non else dNumbers) else dRows
def flawW : D → D
  | .tup rows => flawR rows
  | _ => dRows
def flaw2 : D → D → D
  | .str s, w => if s = sTable then flawW w else dForm
  | _, _ => dForm
def flawD : D → D
  | .tup [a, w] => flaw2 a w
  | _ => dForm
/-- its rows, if it is a table's form, are not many and not long -/
def Short (v : D) : Prop := ∀ s rows, v = .tup [.str s, .tup rows] → rows.length ≤ line ∧ ∀ r ∈ rows, (itemsT r).length ≤ line
theorem is_count_spec (d : D) (S : Store) : m_is_count [.d d] S = .ok (.d (.bl (match d with | .int i => decide (0 ≤ i) | _ => false))) S := by
  unfold m_is_count b_is_count
  refine (runD_eq rfl).trans ?_
  cases d <;> simp! [is_integer_spec, isI]
theorem sizes_spec {rows : List D} (S : Store) (h : rows.all isT = true) (hl : rows.length ≤ line) : m_sizes_are_right [.d (.tup rows)] S = .ok (.d (.bl (decide (1 ≤ rows.length ∧ rows.length < 8) && sizesOk 0 rows))) S := by
  unfold m_sizes_are_right b_sizes_are_right
  refine (runD_eq rfl).trans ?_
  have c0 : cs[0]? = some (.int 8) := rfl
  have key : ∀ (ds : List D) (k : Nat), ds.all isT = true → ((enumD k ds).map fun d => match d with
      | .tup [.int i, r] => decide (((itemsT r).length : Int) = i + 1)
      | _ => false).all id = sizesOk k ds := fun ds => by
    induction ds with
    | nil => intro k _; rfl
    | cons r rs ih =>
      intro k h
      rw [List.all_cons, Bool.and_eq_true] at h
      simp only [enumD, List.map_cons, List.all_cons, id_eq, sizesOk]
      rw [ih (k + 1) h.2]
      congr 1
      exact decide_eq_decide.mpr (by omega)
  have el : ∀ (ds : List D) (k : Nat), (enumD k ds).length = ds.length := fun ds => by
    induction ds with
    | nil => intro k; rfl
    | cons r rs ih => intro k; simp [enumD, ih]
  have em : ∀ (ds : List D) (k : Nat) (d : D), d ∈ enumD k ds → ∃ i r, d = .tup [.int i, r] ∧ r ∈ ds := fun ds => by
    induction ds with
    | nil => intro k d h; simp [enumD] at h
    | cons r rs ih =>
      intro k d h
      simp only [enumD, List.mem_cons] at h
      rcases h with rfl | h
      · exact ⟨_, r, rfl, List.mem_cons_self⟩
      · obtain ⟨i, r', e, hr⟩ := ih _ _ h
        exact ⟨i, r', e, List.mem_cons_of_mem _ hr⟩
  simp! [c0]
  by_cases h1 : (1 : Int) ≤ (rows.length : Int)
  · by_cases h2 : (rows.length : Int) < 8
    · simp! [h1, h2, c0]
      rw [cpM_map fun d => .bl (match d with
        | .tup [.int i, r] => decide (((itemsT r).length : Int) = i + 1)
        | _ => false)]
      · simp! []
        rw [bls_map]
        simp! []
        rw [key rows 0 h]
        have h3 : 1 ≤ rows.length ∧ rows.length < 8 := by omega
        simp only [h3, decide_true, Bool.true_and, and_self]
      · rw [el]; exact Nat.le_trans hl (by decide)
      · intro d hd A
        obtain ⟨i, r, rfl, hr⟩ := em _ _ _ hd
        rw [compT_two]
        have : isT r = true := List.all_eq_true.mp h r hr
        cases r with
        | tup ds => simp! []; rfl
        | _ => cases this
    · simp! [h1, h2, c0]
      have h3 : ¬ (1 ≤ rows.length ∧ rows.length < 8) := by omega
      simp only [h3, decide_false, Bool.false_and]
  · simp! [h1, c0]
    have h3 : ¬ (1 ≤ rows.length ∧ rows.length < 8) := by omega
    simp only [h3, decide_false, Bool.false_and]
end Rf.Law

set_option Elab.async false
set_option linter.all false
set_option maxRecDepth 100000
set_option maxHeartbeats 2000000
namespace Rf.Law
open PySem PySem.Spec PyProof.Rows L2 Rf
theorem all_true_of {α : Type} {p : α → Bool} {xs : List α} (h : ¬ xs.all p = true) : ∃ x ∈ xs, p x = false := by
  simpa [List.all_eq_true] using h
/-- the last loop: rows whose numbers are looked at -/
theorem num_loop {G : List Mir} {C : List D} {tg : List Nat} {body : Ts} {rows : List D} {ρ : Env} {S : Store} (good : Env → Prop) (h0 : good ρ)
    (hs : ∀ r ∈ rows, ∀ ρ, good ρ → ∃ ρ1, bindT tg true r ρ = some ρ1 ∧ (((itemsT r).all okn = true ∧ ∃ ρ', exs G C body ρ1 S = .nx ρ' S ∧ good ρ') ∨ ((itemsT r).all okn = false ∧ exs G C body ρ1 S = .ret (.d dNumbers) S))) :
    (∃ ρ', frM G C tg true body ([], rows) ρ S = .nx ρ' S ∧ good ρ' ∧ rows.all (fun r => (itemsT r).all okn) = true) ∨ (frM G C tg true body ([], rows) ρ S = .ret (.d dNumbers) S ∧ rows.all (fun r => (itemsT r).all okn) = false) := by
  rcases frM_rt (G := G) (C := C) (tg := tg) (one := true) (body := body) (items := rows) (ρ := ρ) (S := S)
    (fun i ρ S' => S' = S ∧ good ρ ∧ (rows.take i).all (fun r => (itemsT r).all okn) = true) (fun r S' => r = .d dNumbers ∧ S' = S ∧ rows.all (fun r => (itemsT r).all okn) = false)
    (fun i d ρ S' hi ⟨e1, g, ha⟩ => by
      subst e1
      have hd := List.mem_of_getElem? hi
      obtain ⟨ρ1, e2, h⟩ := hs d hd ρ g
      refine ⟨ρ1, e2, ?_⟩
      rcases h with ⟨k1, ρ', e3, g'⟩ | ⟨k1, e3⟩
      · refine .inl ⟨ρ', S', e3, rfl, g', ?_⟩
        rw [List.take_succ, hi, List.all_append, ha]
        simp [k1]
      · refine .inr ⟨_, S', e3, rfl, rfl, ?_⟩
        rw [List.all_eq_false]
        exact ⟨d, hd, by simp [k1]⟩) ⟨rfl, h0, rfl⟩ with ⟨ρ', S', e, rfl, g, ha⟩ | ⟨r, S', e, rfl, rfl, ha⟩
  · exact .inl ⟨ρ', e, g, by simpa using ha⟩
  · exact .inr ⟨e, ha⟩
theorem flaw_of_spec (v : D) (S : Store) (hv : Short v) : m_flaw_of [.d v] S = .ok (.d (flawD v)) S := by
  unfold m_flaw_of b_flaw_of
  refine (runD_eq rfl).trans ?_
  have c1 : cs[1]? = some (.int 999) := rfl
  cases v with
  | tup ds =>
    match ds, hv with
    | [], _ => simp! []; rfl
    | [x], _ => simp! []; rfl
    | x :: y :: z :: r, _ =>
      have : ¬ (((r.length + 1 + 1 + 1 : Nat) : Int) = 2) := by omega
      simp! [this]
      rfl
    | [a, w], hv =>
      cases a with
      | str s =>
        by_cases hs : s = Str.ofString "table"
        · have fl : flawD (.tup [.str s, w]) = flawW w := if_pos hs
          rw [fl]
          cases w with
          | tup rows =>
            obtain ⟨hl, hl2⟩ := hv s rows rfl
            simp! [hs]
            rw [cpM_map fun d => .bl (isT d)]
            · simp! []
              rw [bls_map]
              simp! []
              rw [all_map_id]
              by_cases hT : rows.all isT = true
              · simp! [hT, sizes_spec S hT hl]
                show _ = Res.ok (RX.d (flawR rows)) S
                unfold flawR
                rw [hT, Bool.true_and]
                by_cases hz : (decide (1 ≤ rows.length ∧ rows.length < 8) && sizesOk 0 rows) = true
                · rw [hz]
                  simp! []
                  generalize hfr : frM _ _ _ _ _ _ _ _ = o2
                  let good : Env → Prop := fun ρ => ∃ u : Option RV, ρ = [some (.d (.tup [.str (Str.ofString "table"), .tup rows])), u, none]
                  have H : (∃ ρ', o2 = .nx ρ' S ∧ good ρ' ∧ rows.all (fun r => (itemsT r).all okn) = true) ∨ (o2 = .ret (.d dNumbers) S ∧ rows.all (fun r => (itemsT r).all okn) = false) := by
                    rw [← hfr]
                    refine num_loop good ⟨none, rfl⟩ (fun r hr ρ ⟨u, e⟩ => ?_)
                    subst e
                    refine ⟨_, rfl, ?_⟩
                    have hTr := List.all_eq_true.mp hT r hr
                    cases r with
                    | tup ns =>
                      have hn : ns.length ≤ line := hl2 _ hr
                      have key : ∀ u, cpM [m_sizes_are_right, m_is_count] cs (E.and (E.call 1 (Es.cons Md.dat (E.var 2) Es.nil)) (E.cmp CmpOp.LtE (E.var 2) (E.con 1))) [2] true Eo.no [2] [some (.d (.tup [.str (Str.ofString "table"), .tup rows])), u, none] ([], ns) S = .ok (.f (ns.map fun d => .bl (okn d))) S := fun u => by
                        refine cpM_map _ (Nat.le_trans hn (by decide)) fun d _ A => ?_
                        rw [compT_one]
                        cases d with
                        | int i =>
                          simp! [is_count_spec]
                          by_cases h0 : 0 ≤ i
                          · simp! [h0, c1]
                            simp [okn, h0]
                          · simp! [h0, c1]
                            simp [okn, h0]
                        | _ => simp! [is_count_spec]; rfl
                      by_cases ho : ns.all okn = true
                      · refine .inl ⟨ho, [some (.d (.tup [.str (Str.ofString "table"), .tup rows])), some (.d (.tup ns)), none], ?_, some (.d (.tup ns)), rfl⟩
                        simp! [List.set_cons_succ]
                        rw [key]
                        simp! []
                        rw [bls_map]
                        simp! []
                        rw [all_map_id, ho]
                        simp! []
                      · have ho' : ns.all okn = false := by simpa using ho
                        refine .inr ⟨ho', ?_⟩
                        simp! [List.set_cons_succ]
                        rw [key]
                        simp! []
                        rw [bls_map]
                        simp! []
                        rw [all_map_id, ho']
                        simp! []
                        rfl
                    | _ => cases hTr
                  rcases H with ⟨ρ', e, ⟨u, rfl⟩, ha⟩ | ⟨e, ha⟩
                  · rw [e, ha]
                    simp! []
                  · rw [e, ha]
                    simp! []
                    rfl
                · have hz' : (decide (1 ≤ rows.length ∧ rows.length < 8) && sizesOk 0 rows) = false := by simpa using hz
                  rw [hz']
                  simp! []
                  rfl
              · have hT' : rows.all isT = false := by simpa using hT
                simp! [hT']
                show _ = Res.ok (RX.d (flawR rows)) S
                unfold flawR
                rw [hT']
                rfl
            · exact Nat.le_trans hl (by decide)
            · intro d _ A
              rw [compT_one]
              cases d <;> simp! [] <;> rfl
          | _ => simp! [hs]; rfl
        · have fl : flawD (.tup [.str s, w]) = dForm := if_neg hs
          rw [fl]
          simp! [hs]
          rfl
      | _ => simp! []; rfl
  | _ => simp! []; rfl
end Rf.Law

set_option Elab.async false
set_option linter.all false
set_option maxRecDepth 100000
set_option maxHeartbeats 2000000
namespace Rf.Law
open PySem PySem.Spec PyProof.Rows L2 Rf
/-- a loop that returns where a test fails -/
theorem test_loop {G : List Mir} {C : List D} {tg : List Nat} {one : Bool} {body : Ts} {items : List D} {ρ : Env} {S : Store} (t : D → Bool) (rv : D) (good : Env → Prop) (h0 : good ρ)
    (hs : ∀ r ∈ items, ∀ ρ, good ρ → ∃ ρ1, bindT tg one r ρ = some ρ1 ∧ ((t r = true ∧ ∃ ρ', exs G C body ρ1 S = .nx ρ' S ∧ good ρ') ∨ (t r = false ∧ exs G C body ρ1 S = .ret (.d rv) S))) :
    (∃ ρ', frM G C tg one body ([], items) ρ S = .nx ρ' S ∧ good ρ' ∧ items.all t = true) ∨ (frM G C tg one body ([], items) ρ S = .ret (.d rv) S ∧ items.all t = false) := by
  rcases frM_rt (G := G) (C := C) (tg := tg) (one := one) (body := body) (items := items) (ρ := ρ) (S := S)
    (fun i ρ S' => S' = S ∧ good ρ ∧ (items.take i).all t = true) (fun r S' => r = .d rv ∧ S' = S ∧ items.all t = false)
    (fun i d ρ S' hi ⟨e1, g, ha⟩ => by
      subst e1
      have hd := List.mem_of_getElem? hi
      obtain ⟨ρ1, e2, h⟩ := hs d hd ρ g
      refine ⟨ρ1, e2, ?_⟩
      rcases h with ⟨k1, ρ', e3, g'⟩ | ⟨k1, e3⟩
      · refine .inl ⟨ρ', S', e3, rfl, g', ?_⟩
        rw [List.take_succ, hi, List.all_append, ha]
        simp [k1]
      · refine .inr ⟨_, S', e3, rfl, rfl, ?_⟩
        rw [List.all_eq_false]
        exact ⟨d, hd, by simp [k1]⟩) ⟨rfl, h0, rfl⟩ with ⟨ρ', S', e, rfl, g, ha⟩ | ⟨r, S', e, rfl, rfl, ha⟩
  · exact .inl ⟨ρ', e, g, by simpa using ha⟩
  · exact .inr ⟨e, ha⟩
def tRow : D → Bool
  | .tup [.int i, r] => isT r && decide (((itemsT r).length : Int) = i + 1)
  | _ => false
theorem tRow_all : ∀ (rows : List D) (k : Nat), (enumD k rows).all tRow = (rows.all isT && sizesOk k rows)
  | [], _ => rfl
  | r :: rs, k => by
    simp only [enumD, List.all_cons, tRow, sizesOk]
    rw [tRow_all rs (k + 1)]
    have : decide (((itemsT r).length : Int) = (k : Int) + 1) = decide ((itemsT r).length = k + 1) := decide_eq_decide.mpr (by omega)
    rw [this]
    cases isT r <;> cases decide ((itemsT r).length = k + 1) <;> cases rs.all isT <;> rfl
theorem enum_mem : ∀ (ds : List D) (k : Nat) (d : D), d ∈ enumD k ds → ∃ i r, d = .tup [.int i, r] ∧ r ∈ ds
  | [], k, d, h => by simp [enumD] at h
  | r :: rs, k, d, h => by
    simp only [enumD, List.mem_cons] at h
    rcases h with rfl | h
    · exact ⟨_, r, rfl, List.mem_cons_self⟩
    · obtain ⟨i, r', e, hr⟩ := enum_mem rs _ d h
      exact ⟨i, r', e, List.mem_cons_of_mem _ hr⟩
theorem law_flaw_spec (v : D) (S : Store) (hv : Short v) : m_law_flaw [.d v] S = .ok (.d (flawD v)) S := by
  unfold m_law_flaw b_law_flaw
  refine (runD_eq rfl).trans ?_
  cases v with
  | tup ds =>
    match ds, hv with
    | [], _ => simp! []; rfl
    | [x], _ => simp! []; rfl
    | x :: y :: z :: r, _ =>
      have : ¬ (((r.length + 1 + 1 + 1 : Nat) : Int) = 2) := by omega
      simp! [this]
      rfl
    | [a, w], hv =>
      cases a with
      | str s =>
        by_cases hs : s = Str.ofString "table"
        · have fl : flawD (.tup [.str s, w]) = flawW w := if_pos hs
          rw [fl]
          cases w with
          | tup rows =>
            obtain ⟨hl, hl2⟩ := hv s rows rfl
            have fr : flawW (.tup rows) = flawR rows := rfl
            rw [fr]
            by_cases hz : 1 ≤ rows.length ∧ rows.length < 8
            · have z1 : (1 : Int) ≤ (rows.length : Int) := by omega
              have z2 : (rows.length : Int) ≤ 7 := by omega
              simp! [hs, z1, z2]
              generalize hfr : frM _ _ _ _ _ _ _ _ = o1
              let good : Env → Prop := fun ρ => ∃ u w : Option RV, ρ = [some (.d (.tup [.str (Str.ofString "table"), .tup rows])), u, w, none]
              have H : (∃ ρ', o1 = .nx ρ' S ∧ good ρ' ∧ (enumD 0 rows).all tRow = true) ∨ (o1 = .ret (.d dRows) S ∧ (enumD 0 rows).all tRow = false) := by
                rw [← hfr]
                refine test_loop tRow dRows good ⟨none, none, rfl⟩ (fun d hd ρ ⟨u, w, e⟩ => ?_)
                subst e
                obtain ⟨i, r, rfl, hr⟩ := enum_mem _ _ _ hd
                refine ⟨[some (.d (.tup [.str (Str.ofString "table"), .tup rows])), some (.d (.int i)), some (.d r), none], rfl, ?_⟩
                cases r with
                | tup ns =>
                  by_cases h1 : ((ns.length : Nat) : Int) = i + 1
                  · refine .inl ⟨by simp [tRow, isT, itemsT, h1], [some (.d (.tup [.str (Str.ofString "table"), .tup rows])), some (.d (.int i)), some (.d (.tup ns)), none], ?_, _, _, rfl⟩
                    simp! [h1]
                  · refine .inr ⟨by simp [tRow, isT, itemsT, h1], ?_⟩
                    simp! [h1]
                    rfl
                | _ => refine .inr ⟨rfl, ?_⟩; simp! []; rfl
              rw [tRow_all] at H
              rcases H with ⟨ρ', e, ⟨u, w', rfl⟩, ha⟩ | ⟨e, ha⟩
              · rw [Bool.and_eq_true] at ha
                have hT := ha.1
                rw [e]
                simp! []
                have fr2 : flawR rows = if rows.all (fun r => (itemsT r).all okn) then .non else dNumbers := by
                  unfold flawR; rw [hT, ha.2, decide_eq_true hz]; rfl
                rw [fr2]
                revert hfr
                intro _
                generalize hfr2 : frM _ _ _ _ _ _ _ _ = o2
                let good2 : Env → Prop := fun ρ => ∃ u w : Option RV, ρ = [some (.d (.tup [.str (Str.ofString "table"), .tup rows])), u, w, none]
                have H2 : (∃ ρ', o2 = .nx ρ' S ∧ good2 ρ' ∧ rows.all (fun r => (itemsT r).all okn) = true) ∨ (o2 = .ret (.d dNumbers) S ∧ rows.all (fun r => (itemsT r).all okn) = false) := by
                  rw [← hfr2]
                  refine test_loop (fun r => (itemsT r).all okn) dNumbers good2 ⟨u, w', rfl⟩ (fun r hr ρ ⟨u, w, e⟩ => ?_)
                  subst e
                  refine ⟨[some (.d (.tup [.str (Str.ofString "table"), .tup rows])), u, some (.d r), none], rfl, ?_⟩
                  have hTr := List.all_eq_true.mp hT r hr
                  cases r with
                  | tup ns =>
                    have hn : ns.length ≤ line := hl2 _ hr
                    have key : ∀ u, cpM [m_law_is_int] cs (E.and (E.call 0 (Es.cons Md.dat (E.var 3) Es.nil)) (E.ch2 CmpOp.LtE CmpOp.LtE (E.lit (.int 0)) (E.var 3) (E.lit (.int 999)))) [3] true Eo.no [3] [some (.d (.tup [.str (Str.ofString "table"), .tup rows])), u, some (.d (.tup ns)), none] ([], ns) S = .ok (.f (ns.map fun d => .bl (okn d))) S := fun u => by
                      refine cpM_map _ (Nat.le_trans hn (by decide)) fun d _ A => ?_
                      rw [compT_one]
                      cases d with
                      | int i =>
                        simp! [law_is_int_spec, isI]
                        by_cases h0 : 0 ≤ i
                        · simp! [h0]
                          simp [okn, h0]
                        · simp! [h0]
                          simp [okn, h0]
                      | _ => simp! [law_is_int_spec, isI]; rfl
                    by_cases ho : ns.all okn = true
                    · refine .inl ⟨ho, [some (.d (.tup [.str (Str.ofString "table"), .tup rows])), u, some (.d (.tup ns)), none], ?_, u, some (.d (.tup ns)), rfl⟩
                      simp! []
                      rw [key]
                      simp! []
                      rw [bls_map]
                      simp! []
                      rw [all_map_id, ho]
                      simp! []
                    · have ho' : ns.all okn = false := by simpa using ho
                      refine .inr ⟨ho', ?_⟩
                      simp! []
                      rw [key]
                      simp! []
                      rw [bls_map]
                      simp! []
                      rw [all_map_id, ho']
                      simp! []
                      rfl
                  | _ => cases hTr
                rcases H2 with ⟨ρ', e, ⟨u, w', rfl⟩, ha⟩ | ⟨e, ha⟩
                · rw [e, ha]
                  simp! []
                · rw [e, ha]
                  simp! []
                  rfl
              · rw [e]
                simp! []
                have fr2 : flawR rows = dRows := by
                  unfold flawR
                  rw [decide_eq_true hz, Bool.and_true, ha]; rfl
                rw [fr2]
            · have fr2 : flawR rows = dRows := by
                unfold flawR
                rw [decide_eq_false hz, Bool.and_false, Bool.false_and]; rfl
              rw [fr2]
              by_cases z1 : (1 : Int) ≤ (rows.length : Int)
              · have z2 : ¬ (rows.length : Int) ≤ 7 := by omega
                simp! [hs, z1, z2]
                rfl
              · simp! [hs, z1]
                rfl
          | _ => simp! [hs]; rfl
        · have fl : flawD (.tup [.str s, w]) = dForm := if_neg hs
          rw [fl]
          simp! [hs]
          rfl
      | _ => simp! []; rfl
  | _ => simp! []; rfl
theorem flaw_spec (v : D) (S : Store) (hv : Short v) : m_flaw [.d v] S = .ok (.d (flawD v)) S := by
  unfold m_flaw b_flaw
  refine (runD_eq rfl).trans ?_
  simp! [flaw_of_spec v S hv]
def isNon : D → Bool
  | .non => true
  | _ => false
theorem is_non (d : D) : cmpD .Is d .non = some (isNon d) := by cases d <;> rfl
theorem is_table_spec (v : D) (S : Store) (hv : Short v) : m_is_table [.d v] S = .ok (.d (.bl (isNon (flawD v)))) S := by
  have h : m_table_is_right [.d v] S = .ok (.d (.bl (isNon (flawD v)))) S := by
    unfold m_table_is_right b_table_is_right
    refine (runD_eq rfl).trans ?_
    simp! [flaw_of_spec v S hv, is_non]
  unfold m_is_table b_is_table
  refine (runD_eq rfl).trans ?_
  simp! [h]
end Rf.Law

set_option Elab.async false
set_option linter.all false
set_option maxRecDepth 100000
set_option maxHeartbeats 2000000
namespace Rf.Law
open PySem PySem.Spec PyProof.Rows L2 Rf
theorem nc_str {z : Str} (h : PyData.strOk z = true) (hl : z.length ≤ 100) : Nc 2000 0 (.str z) := ⟨h, rfl, Nat.le_refl _, by show 12 * z.length + 8 ≤ 2000; omega⟩
/-- a row of drawn numbers -/
theorem row_drawn {p : Cell} {n : Nat} {wide : Int} (hp : PotC p) (hn : n ≤ 8) (hw : 0 ≤ wide) (hw2 : wide ≤ 999) :
    ∃ (p' : Cell) (xs : List D), (∀ (ρ : Env) R, (∀ d, ((ρ.set 5 none).set 5 (some (.d d)))[0]? = some (some (.c 0)) ∧ ((ρ.set 5 none).set 5 (some (.d d)))[2]? = some (some (.d (.int wide)))) →
      cpM [m_law_draw] cs (E.call 0 (Es.cons Md.cel (E.var 0) (Es.cons Md.dat (E.bin Operator.Add (E.var 2) (E.lit (.int 1))) Es.nil))) [5] true Eo.no [5] ρ ([], rngD 0 n) (p :: R) = .ok (.f xs) (p' :: R)) ∧ PotC p' ∧ xs.length = n ∧ ∀ x ∈ xs, Nc 2000 0 x := by
  have hln : (rngD 0 n).length = n := by simp [rngD]
  obtain ⟨p', acc, h, hp', hl, hr⟩ := cpM_pot (G := [m_law_draw]) (C := cs) (elt := E.call 0 (Es.cons Md.cel (E.var 0) (Es.cons Md.dat (E.bin Operator.Add (E.var 2) (E.lit (.int 1))) Es.nil))) (tg := [5]) (own := [5]) (one := true) (p := p) (items := rngD 0 n)
    (fun ρ => ∀ d, ((ρ.set 5 none).set 5 (some (.d d)))[0]? = some (some (.c 0)) ∧ ((ρ.set 5 none).set 5 (some (.d d)))[2]? = some (some (.d (.int wide))))
    (fun i p acc => PotC p ∧ acc.length = i ∧ ∀ x ∈ acc, Nc 2000 0 x)
    (fun i d p acc hi ⟨hp, hl, hr⟩ => by
      obtain ⟨j, p', e1, hp', j0, j1⟩ := draw_spec (p := p) (k := wide + 1) hp (by omega) (sm_small (Nat.le_trans (show (wide + 1).natAbs ≤ 10 ^ 3 by omega) (by decide +kernel)))
      refine ⟨.int j, p', fun ρ R h0 => ?_, hp', by simp [hl], fun z hz => ?_⟩
      · rw [compT_one]
        simp! [(h0 d).1, (h0 d).2, e1]
      · rcases List.mem_append.mp hz with hz | hz
        · exact hr z hz
        · rw [List.mem_singleton.mp hz]
          exact nc_int (Nat.lt_of_le_of_lt (show j.natAbs ≤ 10 ^ 4 by omega) (by decide +kernel))) ⟨hp, rfl, fun q hq => by simp at hq⟩ (by rw [hln]; exact Nat.le_trans hn (by decide))
  exact ⟨p', acc, h, hp', by rw [hl, hln], hr⟩
def bAny : Ts := match dropTs 1 b_law_any with
  | .cons (.fr _ _ _ b) _ => b
  | _ => .nil
theorem any_loop {many wide : Int} (hw : 0 ≤ wide) (hw2 : wide ≤ 999) : ∀ (ks : List Int) (p : Cell) (acc : List D), (∀ k ∈ ks, 0 ≤ k ∧ k ≤ 8) → PotC p → (∀ r ∈ acc, Nc 20000 1 r ∧ (itemsT r).length ≤ 8) → acc.length + ks.length ≤ 100 → ∃ p' acc', PotC p' ∧ (∀ r ∈ acc', Nc 20000 1 r ∧ (itemsT r).length ≤ 8) ∧ acc'.length = acc.length + ks.length ∧
    ∀ (R : Store) (x : Option RV), ∃ x', frM [m_law_draw] cs [4] true bAny ([], ks.map D.int) [some (.c 0), some (.d (.int many)), some (.d (.int wide)), some (.c (R.length + 1)), x, none] (p :: (R ++ [.lst acc])) =
      .nx [some (.c 0), some (.d (.int many)), some (.d (.int wide)), some (.c (R.length + 1)), x', none] (p' :: (R ++ [.lst acc']))
  | [], p, acc, _, hp, ha, _ => ⟨p, acc, hp, ha, by simp, fun R x => ⟨x, by
      unfold frM forGo
      rfl⟩⟩
  | k :: ks, p, acc, hk, hp, ha, hl => by
    obtain ⟨k0, k8⟩ := hk k List.mem_cons_self
    obtain ⟨p1, xs, e1, hp1, hx, hn⟩ := row_drawn (p := p) (n := k.toNat) (wide := wide) hp (by omega) hw hw2
    have ht : Nc 20000 1 (.tup xs) := (nc_tup hn (n := 8) (by omega)).mono (by decide) (by decide)
    obtain ⟨p2, acc2, hp2, ha2, hl2, h2⟩ := any_loop (many := many) hw hw2 ks p1 (acc ++ [.tup xs]) (fun k hk' => hk k (List.mem_cons_of_mem _ hk')) hp1 (fun r hr => by
      rcases List.mem_append.mp hr with hr | hr
      · exact ha r hr
      · rw [List.mem_singleton.mp hr]; exact ⟨ht, by show xs.length ≤ 8; omega⟩) (by simp at hl ⊢; omega)
    refine ⟨p2, acc2, hp2, ha2, by rw [hl2]; simp; omega, fun R x => ?_⟩
    obtain ⟨x', h3⟩ := h2 R (some (.d (.int k)))
    refine ⟨x', ?_⟩
    rw [← h3]
    unfold frM
    rw [List.map_cons]
    show (if srcOk [] (p :: (R ++ [.lst acc])) = true then _ else _) = _
    rw [if_pos (srcOk_nil _)]
    have eb : frB [m_law_draw] cs [4] true bAny (.int k) [some (.c 0), some (.d (.int many)), some (.d (.int wide)), some (.c (R.length + 1)), x, none] (p :: (R ++ [.lst acc])) = .nx [some (.c 0), some (.d (.int many)), some (.d (.int wide)), some (.c (R.length + 1)), some (.d (.int k)), none] (p1 :: (R ++ [.lst (acc ++ [.tup xs])])) := by
      show exs [m_law_draw] cs bAny [some (.c 0), some (.d (.int many)), some (.d (.int wide)), some (.c (R.length + 1)), some (.d (.int k)), none] (p :: (R ++ [.lst acc])) = _
      have rg : ∀ S, rngI (some [.int k]) S = .ok ([], rngD 0 k.toNat) S := fun S => rngI_1 _ (by omega)
      have e2 := e1 [some (.c 0), some (.d (.int many)), some (.d (.int wide)), some (.c (R.length + 1)), some (.d (.int k)), none] (R ++ [.lst acc]) (fun d => ⟨rfl, rfl⟩)
      have ap : appZ [some (.c 0), some (.d (.int many)), some (.d (.int wide)), some (.c (R.length + 1)), some (.d (.int k)), none] (R.length + 1) (.tup xs) (p1 :: (R ++ [.lst acc])) = .nx [some (.c 0), some (.d (.int many)), some (.d (.int wide)), some (.c (R.length + 1)), some (.d (.int k)), none] (p1 :: (R ++ [.lst (acc ++ [.tup xs])])) := by
        unfold appZ
        have q1 : (p1 :: (R ++ [Cell.lst acc]))[R.length + 1]? = some (.lst acc) := by simp
        have q2 : (p1 :: (R ++ [Cell.lst acc])).set (R.length + 1) (.lst (acc ++ [.tup xs])) = p1 :: (R ++ [.lst (acc ++ [.tup xs])]) := by
          rw [List.set_cons_succ, List.set_append_right _ _ (Nat.le_refl _)]; simp
        simp only [q1, q2]
        rw [if_pos (by simp at hl; show acc.length < 16777216; omega)]
      simp only [bAny, dropTs, b_law_any]
      simp! [rg, e2, ap]
    rw [eb]
theorem any_spec {p : Cell} {many : Int} (hp : PotC p) (h0 : 2 ≤ many) (h1 : many ≤ 8) : ∃ p' rows, PotC p' ∧ (∀ r ∈ rows, Nc 20000 1 r ∧ (itemsT r).length ≤ 8) ∧ 1 ≤ rows.length ∧ rows.length ≤ 8 ∧
    ∀ R, m_law_any [.c 0, .d (.int many), .d (.int 999)] (p :: R) = .ok (.d (.tup [.str (Str.ofString "table"), .tup rows])) (p' :: R) := by
  obtain ⟨p', rows, hp', ha, hl, h⟩ := any_loop (many := many) (wide := 999) (by decide) (by decide) ((List.range (many - 1).toNat).map fun (i : Nat) => (1 : Int) + (i : Int)) p [] (fun k hk => by
    obtain ⟨i, hi, rfl⟩ := List.mem_map.mp hk
    have := List.mem_range.mp hi
    omega) hp (fun r hr => by simp at hr) (by simp; omega)
  have hlen : rows.length = (many - 1).toNat := by simpa using hl
  refine ⟨p', rows, hp', ha, by omega, by omega, fun R => ?_⟩
  obtain ⟨x', e⟩ := h R none
  have er : ((List.range (many - 1).toNat).map fun (i : Nat) => (1 : Int) + (i : Int)).map D.int = rngD 1 (many - 1).toNat := by
    unfold rngD; rw [List.map_map]; rfl
  rw [er] at e
  have rg : ∀ S, rngI (some [.int 1, .int many]) S = .ok ([], rngD 1 (many - 1).toNat) S := fun S => rngI_2 _ _ (by omega)
  have ca : cellAt (p' :: (R ++ [Cell.lst rows])) (R.length + 1) = some rows := by
    unfold cellAt; simp
  simp only [bAny, dropTs, b_law_any] at e
  unfold m_law_any b_law_any
  refine (runD_eq rfl).trans ?_
  simp! [rg, e, ca]
  simp
/-! ### bent data -/
theorem wts_app : ∀ (a b : List D), D.wts (a ++ b) = D.wts a + D.wts b
  | [], b => by simp [D.wts]
  | x :: a, b => by simp [D.wts, wts_app a b]; omega
theorem okcs_app : ∀ (a b : List D), D.okcs (a ++ b) = (D.okcs a && D.okcs b)
  | [], b => by simp [D.okcs]
  | x :: a, b => by simp [D.okcs, okcs_app a b, Bool.and_assoc]
theorem shws_app : ∀ (a b : List D), D.shws (a ++ b) = (D.shws a && D.shws b)
  | [], b => by simp [D.shws]
  | x :: a, b => by simp [D.shws, shws_app a b, Bool.and_assoc]
theorem deps_app : ∀ (a b : List D), D.deps (a ++ b) = max (D.deps a) (D.deps b)
  | [], b => by simp [D.deps]
  | x :: a, b => by simp [D.deps, deps_app a b, Nat.max_assoc]
/-- a list of data, as it may be shown -/
structure Ncs (w k : Nat) (ds : List D) : Prop where
  okc : D.okcs ds = true
  shw : D.shws ds = true
  dep : D.deps ds ≤ k
  wt : D.wts ds ≤ w
theorem Ncs.app {w w' k : Nat} {a b : List D} (h : Ncs w k a) (h' : Ncs w' k b) : Ncs (w + w') k (a ++ b) :=
  ⟨by rw [okcs_app, h.okc, h'.okc]; rfl, by rw [shws_app, h.shw, h'.shw]; rfl, by rw [deps_app]; exact Nat.max_le.mpr ⟨h.dep, h'.dep⟩, by rw [wts_app]; have := h.wt; have := h'.wt; omega⟩
theorem ncs_part {k : Nat} {a b : List D} {w : Nat} (h : Ncs w k (a ++ b)) : Ncs (D.wts a) k a ∧ Ncs (D.wts b) k b := by
  have h1 := h.okc
  have h2 := h.shw
  have h3 := h.dep
  rw [okcs_app, Bool.and_eq_true] at h1
  rw [shws_app, Bool.and_eq_true] at h2
  rw [deps_app] at h3
  exact ⟨⟨h1.1, h2.1, by omega, Nat.le_refl _⟩, ⟨h1.2, h2.2, by omega, Nat.le_refl _⟩⟩
end Rf.Law

set_option Elab.async false
set_option linter.all false
set_option maxRecDepth 100000
set_option maxHeartbeats 2000000
namespace Rf.Law
open PySem PySem.Spec PyProof.Rows L2 Rf
theorem len_wts : ∀ ds : List D, ds.length ≤ D.wts ds
  | [] => Nat.le_refl _
  | d :: ds => by have := len_wts ds; simp [D.wts]; omega
theorem Ncs.mono {w w' k k' : Nat} {a : List D} (h : Ncs w k a) (hw : w ≤ w') (hk : k ≤ k') : Ncs w' k' a := ⟨h.okc, h.shw, Nat.le_trans h.dep hk, Nat.le_trans h.wt hw⟩
theorem ncs_drop {w k n : Nat} {a : List D} (h : Ncs w k a) : Ncs w k (a.drop n) := by
  have e := List.take_append_drop n a
  have h' : Ncs w k (a.take n ++ a.drop n) := by rw [e]; exact h
  refine (ncs_part h').2.mono ?_ (Nat.le_refl _)
  have := h'.wt
  rw [wts_app] at this
  omega
theorem ncs_take {w k n : Nat} {a : List D} (h : Ncs w k a) : Ncs w k (a.take n) := by
  have e := List.take_append_drop n a
  have h' : Ncs w k (a.take n ++ a.drop n) := by rw [e]; exact h
  refine (ncs_part h').1.mono ?_ (Nat.le_refl _)
  have := h'.wt
  rw [wts_app] at this
  omega
theorem ncs_cut {w k : Nat} {a : List D} (lo hi : Option Int) (h : Ncs w k a) : Ncs w k (cutD a lo hi) := ncs_take (ncs_drop h)
theorem ncs_one {w k : Nat} {d : D} (h : Nc w k d) : Ncs (w + 2) k [d] := ⟨by simp [D.okcs, h.okc], by simp [D.shws, h.shw], by simp [D.deps]; exact h.dep, by simp [D.wts]; have := h.wt; omega⟩
theorem ncs_rev {w k : Nat} : ∀ {a : List D}, Ncs w k a → Ncs w k a.reverse
  | [], h => h
  | d :: ds, h => by
    have h0 : Ncs w k ([d] ++ ds) := h
    obtain ⟨p1, p2⟩ := ncs_part h0
    rw [List.reverse_cons]
    refine ((ncs_rev p2).app p1).mono ?_ (Nat.le_refl _)
    have := h0.wt
    rw [wts_app] at this
    omega
theorem nc_of_t {w k : Nat} {ds : List D} (h : Ncs w k ds) : Nc (w + 8) (k + 1) (.tup ds) := ⟨h.okc, h.shw, Nat.succ_le_succ h.dep, by show D.wts ds + 8 ≤ _; have := h.wt; omega⟩
theorem nc_of_l {w k : Nat} {ds : List D} (h : Ncs w k ds) : Nc (w + 8) (k + 1) (.lst ds) := ⟨h.okc, h.shw, Nat.succ_le_succ h.dep, by show D.wts ds + 8 ≤ _; have := h.wt; omega⟩
theorem ncs_t {w k : Nat} {ds : List D} (h : Nc w (k + 1) (.tup ds)) : Ncs (w - 8) k ds := ⟨h.okc, h.shw, Nat.le_of_succ_le_succ h.dep, by have : D.wts ds + 8 ≤ w := h.wt; omega⟩
theorem ncs_l {w k : Nat} {ds : List D} (h : Nc w (k + 1) (.lst ds)) : Ncs (w - 8) k ds := ⟨h.okc, h.shw, Nat.le_of_succ_le_succ h.dep, by have : D.wts ds + 8 ≤ w := h.wt; omega⟩
theorem cut_to {xs : List D} {n : Nat} (h : n ≤ xs.length) : cutD xs none (some (n : Int)) = xs.take n := by
  unfold cutD
  rw [HT.sIx_none, HT.sIx_nat, Nat.min_eq_left h]
  simp
theorem cut_from {xs : List D} {n : Nat} (h : n ≤ xs.length) : cutD xs (some (n : Int)) none = xs.drop n := by
  unfold cutD
  rw [HT.sIx_none, HT.sIx_nat, Nat.min_eq_left h]
  exact List.take_of_length_le (by rw [List.length_drop]; exact Nat.le_refl _)
theorem nc_s {z : Str} (h : PyData.strOk z = true) (hl : z.length ≤ 100) (w k : Nat) (hw : 2000 ≤ w) : Nc w k (.str z) := (nc_str h hl).mono hw (Nat.zero_le _)
/-- a result as a datum -/
def IsR (r : RX) (v : D) : Prop := r = .d v ∨ ∃ ds, r = .f ds ∧ v = .lst ds
theorem IsR.rd {r : RX} {v : D} (h : IsR r v) (S : Store) : conv .rd r S = .ok (.d v) S := by
  rcases h with rfl | ⟨ds, rfl, rfl⟩ <;> rfl
theorem IsR.as {r : RX} {v : D} (h : IsR r v) (S : Store) : asD r S = .ok v S := by
  rcases h with rfl | ⟨ds, rfl, rfl⟩ <;> rfl
/-- bent data: a little wider, no deeper than one more where it was flat -/
theorem bent_spec : ∀ (n : Nat) (v : D) (w k : Nat) (p : Cell), PotC p → Nc w k v → w ≤ 4000000 → v.dep < n → ∃ r v' p', PotC p' ∧ Nc (2 * w + 6000) (k + 1) v' ∧ IsR r v' ∧ ∀ R, m_law_bent n [.c 0, .d v] (p :: R) = .ok r (p' :: R)
  | 0, _, _, _, _, _, _, _, h => by omega
  | n + 1, v, w, k, p, hp, hv, hw, hd => by
    have flat : (∀ xs, v ≠ .tup xs) → (∀ xs, v ≠ .lst xs) → ∃ r v' p', PotC p' ∧ Nc (2 * w + 6000) (k + 1) v' ∧ IsR r v' ∧ ∀ R, m_law_bent (n + 1) [.c 0, .d v] (p :: R) = .ok r (p' :: R) := fun h1 h2 => by
      by_cases hs : ∃ z, v = .str z
      · obtain ⟨z, rfl⟩ := hs
        obtain ⟨d, p', e, hp', hm⟩ := pick_spec (p := p) (xs := [.str (Str.ofString "Table"), .str (Str.ofString ""), .non, .str (Str.ofString "tables")]) hp (by simp) (by simp)
        refine ⟨.d d, d, p', hp', ?_, .inl rfl, fun R => ?_⟩
        · simp only [List.mem_cons, List.not_mem_nil, or_false] at hm
          rcases hm with rfl | rfl | rfl | rfl
          · exact nc_s (by decide +kernel) (by decide +kernel) _ _ (by omega)
          · exact nc_s (by decide +kernel) (by decide +kernel) _ _ (by omega)
          · exact nc_non.mono (by omega) (Nat.zero_le _)
          · exact nc_s (by decide +kernel) (by decide +kernel) _ _ (by omega)
        · unfold m_law_bent b_law_bent
          refine (runD_eq rfl).trans ?_
          simp! [e]
      · obtain ⟨d, p', e, hp', hm⟩ := pick_spec (p := p) (xs := [.int 0, .int 1, .int 999, .int 1000, .int (-1), .non, .bl true, .str (Str.ofString "1"), .tup [.int 1, .int 2]]) hp (by simp) (by simp)
        refine ⟨.d d, d, p', hp', ?_, .inl rfl, fun R => ?_⟩
        · have ni : ∀ i : Int, i.natAbs ≤ 10 ^ 4 → Nc (2 * w + 6000) (k + 1) (.int i) := fun i hi => (nc_int (Nat.lt_of_le_of_lt hi (by decide +kernel))).mono (by omega) (Nat.zero_le _)
          simp only [List.mem_cons, List.not_mem_nil, or_false] at hm
          rcases hm with rfl | rfl | rfl | rfl | rfl | rfl | rfl | rfl | rfl
          · exact ni _ (by decide)
          · exact ni _ (by decide)
          · exact ni _ (by decide)
          · exact ni _ (by decide)
          · exact ni _ (by decide)
          · exact nc_non.mono (by omega) (Nat.zero_le _)
          · exact (nc_bl _).mono (by omega) (Nat.zero_le _)
          · exact nc_s (by decide +kernel) (by decide +kernel) _ _ (by omega)
          · exact (nc_rd (q := (1, 2)) (by decide +kernel) (by decide +kernel)).mono (by omega) (by omega)
        · unfold m_law_bent b_law_bent
          refine (runD_eq rfl).trans ?_
          cases v with
          | tup xs => exact absurd rfl (h1 xs)
          | lst xs => exact absurd rfl (h2 xs)
          | str z => exact absurd ⟨z, rfl⟩ hs
          | _ => simp! [e]
    cases v with
    | tup xs =>
      obtain ⟨k', rfl⟩ : ∃ k', k = k' + 1 := ⟨k - 1, by have : D.deps xs + 1 ≤ k := hv.dep; omega⟩
      have hx : Ncs (w - 8) k' xs := ncs_t hv
      have hwt : D.wts xs + 8 ≤ w := hv.wt
      have hlen := len_wts xs
      have ncL : ∀ {ds : List D} {u : Nat}, Ncs u k' ds → u ≤ 2 * w → Nc (2 * w + 6000) (k' + 1 + 1) (.tup ds) := fun {ds u} h hu => (nc_of_t h).mono (by omega) (by omega)
      have hL : ∀ d ∈ ([.lst xs, .tup (cutD xs none (some (-1))), .tup (xs ++ cutD xs (some (-1)) none), .tup xs.reverse, .non, .tup [], .tup (cutD xs (some 1) none)] : List D), Nc (2 * w + 6000) (k' + 1 + 1) d := fun d hd => by
        simp only [List.mem_cons, List.not_mem_nil, or_false] at hd
        rcases hd with rfl | rfl | rfl | rfl | rfl | rfl | rfl
        · exact (nc_of_l hx).mono (by omega) (by omega)
        · exact ncL (ncs_cut _ _ hx) (by omega)
        · exact ncL (hx.app (ncs_cut _ _ hx)) (by omega)
        · exact ncL (ncs_rev hx) (by omega)
        · exact nc_non.mono (by omega) (Nat.zero_le _)
        · exact (nc_of_t (k := 0) (w := 0) ⟨rfl, rfl, Nat.le_refl _, Nat.le_refl _⟩).mono (by omega) (by omega)
        · exact ncL (ncs_cut _ _ hx) (by omega)
      have cl : ∀ lo hi, (cutD xs lo hi).length ≤ xs.length := fun lo hi => by unfold cutD; rw [List.length_take, List.length_drop]; omega
      have c1 : xs.length + (cutD xs (some (-1)) none).length ≤ 16777216 := by have := cl (some (-1)) none; omega
      have slx : ∀ lo hi, sliceD (.tup xs) lo hi = some (.d (.tup (cutD xs lo hi))) := fun _ _ => rfl
      have rvx : revD (.tup xs) = some (.d (.tup xs.reverse)) := rfl
      by_cases h0 : xs.length = 0
      · obtain ⟨d, p', e, hp', hm⟩ := pick_spec (p := p) hp (show ([.lst xs, .tup (cutD xs none (some (-1))), .tup (xs ++ cutD xs (some (-1)) none), .tup xs.reverse, .non, .tup [], .tup (cutD xs (some 1) none)] : List D) ≠ [] by simp) (by simp)
        refine ⟨.d d, d, p', hp', hL d hm, .inl rfl, fun R => ?_⟩
        have h0' : ((xs.length : Nat) : Int) = 0 := by omega
        unfold m_law_bent b_law_bent
        refine (runD_eq rfl).trans ?_
        simp! [h0', slx, rvx, c1, e]
      · have h0' : ¬ ((xs.length : Nat) : Int) = 0 := by omega
        obtain ⟨j, p1, e1, hp1, j0, j1⟩ := draw_spec (p := p) (k := 5) hp (by decide) (sm_small (by decide +kernel))
        by_cases hj : j = 0
        · obtain ⟨d, p', e, hp', hm⟩ := pick_spec (p := p1) hp1 (show ([.lst xs, .tup (cutD xs none (some (-1))), .tup (xs ++ cutD xs (some (-1)) none), .tup xs.reverse, .non, .tup [], .tup (cutD xs (some 1) none)] : List D) ≠ [] by simp) (by simp)
          refine ⟨.d d, d, p', hp', hL d hm, .inl rfl, fun R => ?_⟩
          unfold m_law_bent b_law_bent
          refine (runD_eq rfl).trans ?_
          simp! [h0', e1, hj, slx, rvx, c1, e]
        · obtain ⟨j2, p2, e2, hp2, j20, j21⟩ := draw_spec (p := p1) (k := ((xs.length : Nat) : Int)) hp1 (by omega) (sm_small (Nat.le_trans (show (((xs.length : Nat) : Int)).natAbs ≤ 10 ^ 7 by omega) (by decide +kernel)))
          obtain ⟨a, rfl⟩ : ∃ a : Nat, j2 = (a : Int) := ⟨j2.toNat, by omega⟩
          have ha : a < xs.length := by omega
          have hsp : xs.take a ++ ([xs[a]] ++ xs.drop (a + 1)) = xs := by
            rw [List.singleton_append, ← List.drop_eq_getElem_cons ha, List.take_append_drop]
          have hx' : Ncs (w - 8) k' (xs.take a ++ ([xs[a]] ++ xs.drop (a + 1))) := by rw [hsp]; exact hx
          obtain ⟨q1, q23⟩ := ncs_part hx'
          obtain ⟨q2, q3⟩ := ncs_part q23
          have hsum : D.wts (xs.take a) + (D.wts [xs[a]] + D.wts (xs.drop (a + 1))) = D.wts xs := by rw [← wts_app, ← wts_app, hsp]
          have hone : D.wts [xs[a]] = xs[a].wt + 2 := by simp [D.wts]
          have hva : Nc xs[a].wt k' xs[a] := ⟨by have := q2.okc; simpa [D.okcs] using this, by have := q2.shw; simpa [D.shws] using this, by have := q2.dep; simpa [D.deps] using this, Nat.le_refl _⟩
          have hdd : D.deps xs + 1 < n + 1 := hd
          have hda : xs[a].dep < n := by
            have h1 : D.deps (xs.take a ++ ([xs[a]] ++ xs.drop (a + 1))) = D.deps xs := by rw [hsp]
            rw [deps_app, deps_app] at h1
            have h2 : D.deps [xs[a]] = xs[a].dep := by simp [D.deps]
            omega
          obtain ⟨r', v', p3, hp3, hv', hr', e3⟩ := bent_spec n xs[a] xs[a].wt k' p2 hp2 hva (by omega) hda
          have hat : atI xs (a : Int) = some xs[a] := atI_nat (by simp [ha])
          have s1 : cutD xs none (some (a : Int)) = xs.take a := cut_to (by omega)
          have s2 : cutD xs (some ((a : Int) + 1)) none = xs.drop (a + 1) := by
            have := cut_from (xs := xs) (n := a + 1) (by omega)
            rwa [Int.natCast_add] at this
          have c2 : (xs.take a).length + 1 ≤ 16777216 := by rw [List.length_take]; omega
          have c3 : (xs.take a).length + 1 + (xs.drop (a + 1)).length ≤ 16777216 := by rw [List.length_take, List.length_drop]; omega
          refine ⟨.d (.tup (xs.take a ++ [v'] ++ xs.drop (a + 1))), .tup (xs.take a ++ [v'] ++ xs.drop (a + 1)), p3, hp3, ?_, .inl rfl, fun R => ?_⟩
          · have hm : Ncs (2 * w + 5992) (k' + 1) (xs.take a ++ [v'] ++ xs.drop (a + 1)) :=
              (((q1.mono (Nat.le_refl _) (by omega)).app (ncs_one hv')).app (q3.mono (Nat.le_refl _) (by omega))).mono (by omega) (Nat.le_refl _)
            exact (nc_of_t hm).mono (by omega) (Nat.le_refl _)
          · unfold m_law_bent b_law_bent
            refine (runD_eq rfl).trans ?_
            simp! [h0', e1, hj, e2, hat, e3, hr'.rd, slx, s1, s2, c2, c3]
    | lst xs =>
      obtain ⟨k', rfl⟩ : ∃ k', k = k' + 1 := ⟨k - 1, by have : D.deps xs + 1 ≤ k := hv.dep; omega⟩
      have hx : Ncs (w - 8) k' xs := ncs_l hv
      have hwt : D.wts xs + 8 ≤ w := hv.wt
      have hlen := len_wts xs
      have ncL : ∀ {ds : List D} {u : Nat}, Ncs u k' ds → u ≤ 2 * w → Nc (2 * w + 6000) (k' + 1 + 1) (.lst ds) := fun {ds u} h hu => (nc_of_l h).mono (by omega) (by omega)
      have hL : ∀ d ∈ ([.lst xs, .lst (cutD xs none (some (-1))), .lst (xs ++ cutD xs (some (-1)) none), .lst xs.reverse, .non, .tup [], .lst (cutD xs (some 1) none)] : List D), Nc (2 * w + 6000) (k' + 1 + 1) d := fun d hd => by
        simp only [List.mem_cons, List.not_mem_nil, or_false] at hd
        rcases hd with rfl | rfl | rfl | rfl | rfl | rfl | rfl
        · exact (nc_of_l hx).mono (by omega) (by omega)
        · exact ncL (ncs_cut _ _ hx) (by omega)
        · exact ncL (hx.app (ncs_cut _ _ hx)) (by omega)
        · exact ncL (ncs_rev hx) (by omega)
        · exact nc_non.mono (by omega) (Nat.zero_le _)
        · exact (nc_of_t (k := 0) (w := 0) ⟨rfl, rfl, Nat.le_refl _, Nat.le_refl _⟩).mono (by omega) (by omega)
        · exact ncL (ncs_cut _ _ hx) (by omega)
      have cl : ∀ lo hi, (cutD xs lo hi).length ≤ xs.length := fun lo hi => by unfold cutD; rw [List.length_take, List.length_drop]; omega
      have c1 : xs.length + (cutD xs (some (-1)) none).length ≤ 16777216 := by have := cl (some (-1)) none; omega
      have slx : ∀ lo hi, sliceD (.lst xs) lo hi = some (.f (cutD xs lo hi)) := fun _ _ => rfl
      have rvx : revD (.lst xs) = some (.f xs.reverse) := rfl
      by_cases h0 : xs.length = 0
      · obtain ⟨d, p', e, hp', hm⟩ := pick_spec (p := p) hp (show ([.lst xs, .lst (cutD xs none (some (-1))), .lst (xs ++ cutD xs (some (-1)) none), .lst xs.reverse, .non, .tup [], .lst (cutD xs (some 1) none)] : List D) ≠ [] by simp) (by simp)
        refine ⟨.d d, d, p', hp', hL d hm, .inl rfl, fun R => ?_⟩
        have h0' : ((xs.length : Nat) : Int) = 0 := by omega
        unfold m_law_bent b_law_bent
        refine (runD_eq rfl).trans ?_
        simp! [h0', slx, rvx, c1, e]
      · have h0' : ¬ ((xs.length : Nat) : Int) = 0 := by omega
        obtain ⟨j, p1, e1, hp1, j0, j1⟩ := draw_spec (p := p) (k := 5) hp (by decide) (sm_small (by decide +kernel))
        by_cases hj : j = 0
        · obtain ⟨d, p', e, hp', hm⟩ := pick_spec (p := p1) hp1 (show ([.lst xs, .lst (cutD xs none (some (-1))), .lst (xs ++ cutD xs (some (-1)) none), .lst xs.reverse, .non, .tup [], .lst (cutD xs (some 1) none)] : List D) ≠ [] by simp) (by simp)
          refine ⟨.d d, d, p', hp', hL d hm, .inl rfl, fun R => ?_⟩
          unfold m_law_bent b_law_bent
          refine (runD_eq rfl).trans ?_
          simp! [h0', e1, hj, slx, rvx, c1, e]
        · obtain ⟨j2, p2, e2, hp2, j20, j21⟩ := draw_spec (p := p1) (k := ((xs.length : Nat) : Int)) hp1 (by omega) (sm_small (Nat.le_trans (show (((xs.length : Nat) : Int)).natAbs ≤ 10 ^ 7 by omega) (by decide +kernel)))
          obtain ⟨a, rfl⟩ : ∃ a : Nat, j2 = (a : Int) := ⟨j2.toNat, by omega⟩
          have ha : a < xs.length := by omega
          have hsp : xs.take a ++ ([xs[a]] ++ xs.drop (a + 1)) = xs := by
            rw [List.singleton_append, ← List.drop_eq_getElem_cons ha, List.take_append_drop]
          have hx' : Ncs (w - 8) k' (xs.take a ++ ([xs[a]] ++ xs.drop (a + 1))) := by rw [hsp]; exact hx
          obtain ⟨q1, q23⟩ := ncs_part hx'
          obtain ⟨q2, q3⟩ := ncs_part q23
          have hsum : D.wts (xs.take a) + (D.wts [xs[a]] + D.wts (xs.drop (a + 1))) = D.wts xs := by rw [← wts_app, ← wts_app, hsp]
          have hone : D.wts [xs[a]] = xs[a].wt + 2 := by simp [D.wts]
          have hva : Nc xs[a].wt k' xs[a] := ⟨by have := q2.okc; simpa [D.okcs] using this, by have := q2.shw; simpa [D.shws] using this, by have := q2.dep; simpa [D.deps] using this, Nat.le_refl _⟩
          have hdd : D.deps xs + 1 < n + 1 := hd
          have hda : xs[a].dep < n := by
            have h1 : D.deps (xs.take a ++ ([xs[a]] ++ xs.drop (a + 1))) = D.deps xs := by rw [hsp]
            rw [deps_app, deps_app] at h1
            have h2 : D.deps [xs[a]] = xs[a].dep := by simp [D.deps]
            omega
          obtain ⟨r', v', p3, hp3, hv', hr', e3⟩ := bent_spec n xs[a] xs[a].wt k' p2 hp2 hva (by omega) hda
          have hat : atI xs (a : Int) = some xs[a] := atI_nat (by simp [ha])
          have s1 : cutD xs none (some (a : Int)) = xs.take a := cut_to (by omega)
          have s2 : cutD xs (some ((a : Int) + 1)) none = xs.drop (a + 1) := by
            have := cut_from (xs := xs) (n := a + 1) (by omega)
            rwa [Int.natCast_add] at this
          have c2 : (xs.take a).length + 1 ≤ 16777216 := by rw [List.length_take]; omega
          have c3 : (xs.take a).length + 1 + (xs.drop (a + 1)).length ≤ 16777216 := by rw [List.length_take, List.length_drop]; omega
          refine ⟨.f (xs.take a ++ [v'] ++ xs.drop (a + 1)), .lst (xs.take a ++ [v'] ++ xs.drop (a + 1)), p3, hp3, ?_, .inr ⟨_, rfl, rfl⟩, fun R => ?_⟩
          · have hm : Ncs (2 * w + 5992) (k' + 1) (xs.take a ++ [v'] ++ xs.drop (a + 1)) :=
              (((q1.mono (Nat.le_refl _) (by omega)).app (ncs_one hv')).app (q3.mono (Nat.le_refl _) (by omega))).mono (by omega) (Nat.le_refl _)
            exact (nc_of_l hm).mono (by omega) (Nat.le_refl _)
          · unfold m_law_bent b_law_bent
            refine (runD_eq rfl).trans ?_
            simp! [h0', e1, hj, e2, hat, e3, hr'.rd, slx, s1, s2, c2, c3]
    | _ => exact flat (by intro xs; simp) (by intro xs; simp)
end Rf.Law

set_option Elab.async false
set_option linter.all false
set_option maxRecDepth 100000
set_option maxHeartbeats 2000000
namespace Rf.Law
open PySem PySem.Spec PyProof.Rows L2 Rf
theorem nc_flaw (v : D) : Nc 2000 0 (flawD v) := by
  have f1 : Nc 2000 0 dForm := nc_str (by decide +kernel) (by decide +kernel)
  have f2 : Nc 2000 0 dRows := nc_str (by decide +kernel) (by decide +kernel)
  have f3 : Nc 2000 0 dNumbers := nc_str (by decide +kernel) (by decide +kernel)
  unfold flawD
  split
  · unfold flaw2
    split
    · split
      · unfold flawW
        split
        · unfold flawR
          split
          · split
            · exact nc_non
            · exact f3
          · exact f2
        · exact f2
      · exact f1
    · exact f1
  · exact f1
abbrev Gd' (v : D) : Prop := Nc 1000000 10 v
theorem wt_mem : ∀ {ds : List D} {d : D}, d ∈ ds → d.wt ≤ D.wts ds
  | e :: ds, d, h => by
    rcases List.mem_cons.mp h with rfl | h
    · show d.wt ≤ d.wt + 2 + D.wts ds; omega
    · have := wt_mem h
      show d.wt ≤ e.wt + 2 + D.wts ds; omega
theorem short_of {v : D} (h : Gd' v) : Short v := fun s rows e => by
  subst e
  have hw : D.wts [.str s, .tup rows] + 8 ≤ 1000000 := h.wt
  have h2 := wt_mem (ds := [.str s, .tup rows]) (d := .tup rows) (by simp)
  have h3 : D.wts rows + 8 ≤ 1000000 := by
    have : (D.tup rows).wt = D.wts rows + 8 := rfl
    omega
  refine ⟨by have := len_wts rows; show rows.length ≤ 16777216; omega, fun r hr => ?_⟩
  have h4 := wt_mem hr
  cases r with
  | tup ns =>
    have : (D.tup ns).wt = D.wts ns + 8 := rfl
    have := len_wts ns
    show ns.length ≤ 16777216
    omega
  | _ => exact Nat.zero_le _
theorem flaws_right_spec {p : Cell} (hp : PotC p) : ∃ p', (∀ R : Store, m_law_flaws_right [.c 0] (p :: R) = .ok (.d (.bl true)) (p' :: R)) ∧ PotC p' := by
  obtain ⟨j, p1, e1, hp1, j0, j1⟩ := draw_spec (p := p) (k := 7) hp (by decide) (sm_small (by decide +kernel))
  obtain ⟨p2, rows, hp2, hrows, hr1, hr8, e2⟩ := any_spec (p := p1) (many := 2 + j) hp1 (by omega) (by omega)
  have nS : Nc 2000 0 (.str (Str.ofString "table")) := nc_str (by decide +kernel) (by decide +kernel)
  have nR : Nc 160024 2 (.tup rows) := (nc_tup (fun r hr => (hrows r hr).1) hr8).mono (by decide) (by decide)
  have nT : Nc 330000 3 (.tup [.str (Str.ofString "table"), .tup rows]) := (nc_tup (w := 160024) (k := 2) (n := 2) (fun d hd => by
    simp only [List.mem_cons, List.not_mem_nil, or_false] at hd
    rcases hd with rfl | rfl
    · exact nS.mono (by decide) (by decide)
    · exact nR) (by simp)).mono (by decide) (by decide)
  generalize hT : D.tup [.str (Str.ofString "table"), .tup rows] = T at *
  -- the bent ones
  obtain ⟨p3, acc, e3, hp3, hl3, hacc⟩ := cpM_pot (G := [m_law_any, m_law_draw, (m_law_bent 40), m_law_flaw, m_flaw, m_is_table]) (C := cs) (elt := E.call 2 (Es.cons Md.cel (E.var 0) (Es.cons Md.dat (E.var 1) Es.nil))) (tg := [6]) (own := [6]) (one := true) (p := p2) (items := rngD 0 14)
    (fun ρ => ∀ d, ((ρ.set 6 none).set 6 (some (.d d)))[0]? = some (some (.c 0)) ∧ ((ρ.set 6 none).set 6 (some (.d d)))[1]? = some (some (.d T)))
    (fun i p acc => PotC p ∧ acc.length = i ∧ ∀ x ∈ acc, Gd' x)
    (fun i d p acc hi ⟨hp, hl, hr⟩ => by
      obtain ⟨r', v', p', hp', hv', hr', e⟩ := bent_spec 40 T 330000 3 p hp nT (by decide) (Nat.lt_of_le_of_lt nT.dep (by decide))
      refine ⟨v', p', fun ρ R h0 => ?_, hp', by simp [hl], fun z hz => ?_⟩
      · rw [compT_one]
        simp! [(h0 d).1, (h0 d).2, e, hr'.as]
      · rcases List.mem_append.mp hz with hz | hz
        · exact hr z hz
        · rw [List.mem_singleton.mp hz]
          exact hv'.mono (by decide) (by decide)) ⟨hp2, rfl, fun q hq => by simp at hq⟩ (by decide +kernel)
  have hl14 : acc.length = 14 := by rw [hl3]; rfl
  refine ⟨p3, fun R => ?_, hp3⟩
  have rg : ∀ S, rngI (some [.int 14]) S = .ok ([], rngD 0 14) S := fun S => rngI_1 _ (by omega)
  have iT : idxD T (.int 1) = some (.tup rows) := by rw [← hT]; exact atI_1 _ _ _
  have lT : bltD .list [T] = some (.f [.str (Str.ofString "table"), .tup rows]) := by rw [← hT]; rfl
  have aT : binD .Add T (.tup [.int 0]) = some (.d (.tup [.str (Str.ofString "table"), .tup rows, .int 0])) := by rw [← hT]; rfl
  have sl : sliceD (.tup rows) (some (-1)) none = some (.d (.tup (cutD rows (some (-1)) none))) := rfl
  have cl : (cutD rows (some (-1)) none).length ≤ rows.length := by unfold cutD; rw [List.length_take, List.length_drop]; omega
  have c1 : rows.length + (cutD rows (some (-1)) none).length ≤ 16777216 := by omega
  let some' : List D := [T, .lst [.str (Str.ofString "table"), .tup rows], .tup [.str (Str.ofString "table"), .tup rows, .int 0], .tup rows, .tup [.str (Str.ofString "table"), .tup []], .tup [.str (Str.ofString "table"), .tup (rows ++ cutD rows (some (-1)) none)], .tup [.str (Str.ofString "table"), .lst [.tup [.int 1]]], .non, .int 0, .str (Str.ofString "table"), .tup []]
  have hsome : ∀ v ∈ some' ++ acc, Gd' v := fun v hv => by
    rcases List.mem_append.mp hv with hv | hv
    · have nI : ∀ i : Int, i.natAbs ≤ 10 → Nc 2000 0 (.int i) := fun i hi => nc_int (Nat.lt_of_le_of_lt hi (by decide +kernel))
      have nE : Nc 2000 1 (.tup []) := (nc_tup (w := 0) (k := 0) (n := 0) (fun d hd => by simp at hd) (Nat.le_refl _)).mono (by decide) (by decide)
      have nO : Nc 10000 2 (.lst [.tup [.int 1]]) := (nc_lst (w := 5000) (k := 1) (n := 1) (fun d hd => by
        rw [List.mem_singleton.mp hd]
        exact (nc_tup (w := 2000) (k := 0) (n := 1) (fun d hd => by rw [List.mem_singleton.mp hd]; exact nI 1 (by decide)) (by simp)).mono (by decide) (by decide)) (by simp)).mono (by decide) (by decide)
      have nR2 : Nc 400000 2 (.tup (rows ++ cutD rows (some (-1)) none)) := by
        have hn : Ncs 160016 1 rows := ncs_t (w := 160024) nR
        exact (nc_of_t (hn.app (ncs_cut _ _ hn))).mono (by decide) (by decide)
      have two : ∀ a b : D, Nc 400000 2 a → Nc 400000 2 b → Gd' (.tup [a, b]) := fun a b ha hb => (nc_tup (w := 400000) (k := 2) (n := 2) (fun d hd => by
        simp only [List.mem_cons, List.not_mem_nil, or_false] at hd
        rcases hd with rfl | rfl
        · exact ha
        · exact hb) (by simp)).mono (by decide) (by decide)
      have nS' : Nc 400000 2 (.str (Str.ofString "table")) := nS.mono (by decide) (by decide)
      simp only [some', List.mem_cons, List.not_mem_nil, or_false] at hv
      rcases hv with rfl | rfl | rfl | rfl | rfl | rfl | rfl | rfl | rfl | rfl | rfl
      · exact nT.mono (by decide) (by decide)
      · exact (nc_lst (w := 200000) (k := 2) (n := 2) (fun d hd => by
          simp only [List.mem_cons, List.not_mem_nil, or_false] at hd
          rcases hd with rfl | rfl
          · exact nS.mono (by decide) (by decide)
          · exact nR.mono (by decide) (by decide)) (by simp)).mono (by decide) (by decide)
      · exact (nc_tup (w := 200000) (k := 2) (n := 3) (fun d hd => by
          simp only [List.mem_cons, List.not_mem_nil, or_false] at hd
          rcases hd with rfl | rfl | rfl
          · exact nS.mono (by decide) (by decide)
          · exact nR.mono (by decide) (by decide)
          · exact (nI 0 (by decide)).mono (by decide) (by decide)) (by simp)).mono (by decide) (by decide)
      · exact nR.mono (by decide) (by decide)
      · exact two _ _ nS' (nE.mono (by decide) (by decide))
      · exact two _ _ nS' nR2
      · exact two _ _ nS' (nO.mono (by decide) (by decide))
      · exact nc_non.mono (by decide) (by decide)
      · exact (nI 0 (by decide)).mono (by decide) (by decide)
      · exact nS.mono (by decide) (by decide)
      · exact nE.mono (by decide) (by decide)
    · exact hacc v hv
  unfold m_law_flaws_right
  refine (runD_eq rfl).trans ?_
  unfold b_law_flaws_right
  have e3' := e3 [some (.c 0), some (.d T), some (.d (.lst some')), none, none, none, none] R (fun d => ⟨rfl, rfl⟩)
  simp only [some'] at e3'
  simp! [e1, e2, iT, lT, aT, sl, c1, rg, e3', hl14]
  generalize hfr : frM _ _ _ _ _ _ _ _ = o2
  let Inv : Nat → Env → Store → Prop := fun i ρ S' => S' = p3 :: R ∧ ∃ a b c : Option RV, ρ = [some (.c 0), some (.d T), some (.d (.lst some')), a, b, c, none]
  obtain ⟨ρ', S', e4, rfl, a, b, c, rfl⟩ : ∃ ρ' S', o2 = .nx ρ' S' ∧ Inv (some' ++ acc).length ρ' S' := by
    rw [← hfr]
    refine frM_st (items := some' ++ acc) Inv (fun i v ρ S' hi I => ?_) ⟨rfl, none, none, none, rfl⟩
    obtain ⟨rfl, a, b, c, rfl⟩ := I
    have hv := hsome v (List.mem_of_getElem? hi)
    have sh := short_of hv
    have rp1 : v.rpOk = true := hv.rp (by decide) (by decide)
    have nf := nc_flaw v
    have rp2 : (D.lst [flawD v, flawD v, .bl (isNon (flawD v)), .bl (isNon (flawD v))]).rpOk = true := rp_short (fun d hd => by
      simp only [List.mem_cons, List.not_mem_nil, or_false] at hd
      rcases hd with rfl | rfl | rfl | rfl
      · exact nf.mono (by decide) (by decide)
      · exact nf.mono (by decide) (by decide)
      · exact nc_bl' _
      · exact nc_bl' _) (by simp)
    refine ⟨_, [some (.c 0), some (.d T), some (.d (.lst some')), some (.d v), some (.d (flawD v)), some (.d (.str v.py.shown)), none], p3 :: R, rfl, ?_, rfl, some (.d v), some (.d (flawD v)), some (.d (.str v.py.shown)), rfl⟩
    simp! [law_flaw_spec v _ sh, flaw_spec v _ sh, is_table_spec v _ sh, is_non, rp1, rp2, eq_self]
  rw [e4]
  simp! []
end Rf.Law

set_option Elab.async false
set_option linter.all false
set_option maxRecDepth 100000
set_option maxHeartbeats 2000000
namespace Rf.Law
open PySem PySem.Spec PyProof.Rows L2 Rf
theorem pot_spec (ns : List Int) (hn : ns.length ≤ 63) (S : Store) : ∃ a b : Int, m_law_pot [.d (.lst (ns.map .int)), .d (.int 0)] S = .ok (.f [.int a, .int b]) S ∧ PotC (.lst [.int a, .int b]) := by
  have c18 : (0 : Int) ≤ 18 ∧ (18 : Int) ≤ 1000000 ∧ (10 : Int).natAbs < 18446744073709551616 := by decide
  have m1 : ∀ i : Int, mulOk i 39373 = true := fun i => mulOk_r (by decide)
  have m2 : mulOk 4259 0 = true := by decide
  have m3 : mulOk 727 0 = true := by decide
  have key : ∀ cell : Int, 0 ≤ cell → PotC (.lst [.int (if cell - 10 ^ (18 : Int).toNat > 0 then cell - 10 ^ (18 : Int).toNat else 0), .int ((cell.fmod 2147483549 * 39373 + 4259 * 0 + 157).fmod 2147483563 + 1)]) := fun cell h => by
    have := fmod_pos (a := cell.fmod 2147483549 * 39373 + 4259 * 0 + 157) (k := 2147483563) (by omega)
    refine ⟨_, _, rfl, ?_, by omega, by omega⟩
    split <;> omega
  cases ns with
  | nil =>
    refine ⟨_, _, ?_, key (727 * 0 + 977) (by decide)⟩
    unfold m_law_pot b_law_pot
    refine (runD_eq (np := 2) rfl).trans ?_
    simp! [c18, m1, m2, m3]
  | cons x xs =>
    refine ⟨_, _, ?_, key (x.natAbs : Int) (by omega)⟩
    have h0 : (0 : Int) < ((xs.length + 1 : Nat) : Int) := by omega
    unfold m_law_pot b_law_pot
    refine (runD_eq (np := 2) rfl).trans ?_
    simp! [c18, m1, m2, m3, List.length_map, h0, abs_eq]
theorem five {f : Mir} {G : List Mir} {i : Nat} (hf : ∀ p, PotC p → ∃ p', (∀ R : Store, f [.c 0] (p :: R) = .ok (.d (.bl true)) (p' :: R)) ∧ PotC p') (hG : G[i]? = some f) {p : Cell} (hp : PotC p) :
    ∃ p' acc, (∀ (ρ : Env) R, (∀ d, ((ρ.set 2 none).set 2 (some (.d d)))[1]? = some (some (.c 0))) → cpM G cs (E.call i (Es.cons Md.cel (E.var 1) Es.nil)) [2] true Eo.no [2] ρ ([], rngD 0 5) (p :: R) = .ok (.f acc) (p' :: R)) ∧ PotC p' ∧ bls acc = some [true, true, true, true, true] := by
  obtain ⟨p', acc, e, hp', rfl⟩ := cpM_pot (G := G) (C := cs) (elt := E.call i (Es.cons Md.cel (E.var 1) Es.nil)) (tg := [2]) (own := [2]) (one := true) (p := p) (items := rngD 0 5)
    (fun ρ => ∀ d, ((ρ.set 2 none).set 2 (some (.d d)))[1]? = some (some (.c 0))) (fun i p acc => PotC p ∧ acc = List.replicate i (.bl true))
    (fun i d p acc hi ⟨hp, ha⟩ => by
      obtain ⟨p', e, hp'⟩ := hf p hp
      refine ⟨.bl true, p', fun ρ R h0 => ?_, hp', by rw [ha, List.replicate_succ']⟩
      rw [compT_one]
      simp! [h0 d, hG, e]) ⟨hp, rfl⟩ (by decide +kernel)
  exact ⟨p', _, e, hp', rfl⟩
theorem math : ∀ ns : List Int, ns.length ≤ 63 → (∀ z ∈ ns, PySem.Builtin.Int.intBits z ≤ 1048576) → m_law [.d (.lst (ns.map .int))] [] = .ok (.d (.bl true)) [] := by
  intro ns hn _
  obtain ⟨a, b, e1, hp⟩ := pot_spec ns hn []
  obtain ⟨p1, acc1, e2, hp1, h1⟩ := five (G := [m_law_pot, m_law_numbers_right, m_law_flaws_right]) (i := 1) (fun p hp => numbers_right_spec hp) rfl hp
  obtain ⟨p2, acc2, e3, hp2, h2⟩ := five (G := [m_law_pot, m_law_numbers_right, m_law_flaws_right]) (i := 2) (fun p hp => flaws_right_spec hp) rfl hp1
  have e2' := e2 [some (.d (.lst (ns.map .int))), some (.c 0), none] [] (fun d => rfl)
  have e3' := e3 [some (.d (.lst (ns.map .int))), some (.c 0), none] [] (fun d => rfl)
  have rg : ∀ S, rngI (some [.int 5]) S = .ok ([], rngD 0 5) S := fun S => rngI_1 _ (by omega)
  unfold m_law b_law
  refine (runD_eq rfl).trans ?_
  simp! [e1, rg, e2', h1, e3', h2]
  rfl
end Rf.Law

open PySem PySem.W PyProof.Rows
set_option maxRecDepth 100000 in
set_option maxHeartbeats 0 in
theorem PySem.Challenge.cw_splitroads_k11_whole_ratios_and_flaws_holds : PySem.Challenge.rw_splitroads_k11_whole_ratios_and_flaws.Holds := by
  w_on; o_law; k_head; (case hw => w_witness2)
  k_fill
  refine Rf.walk_law (l := PySem.Challenge.rw_splitroads_k11_whole_ratios_and_flaws) (n := 63) (k := 44) (x := "script") (CX := fun _ => Rf.CX0) (m := Rf.Law.m_law) rfl (by decide) rfl ⟨rfl, by decide, by decide⟩ (fun w h Y => PySem.W.kIn_of Y) ?F Rf.Law.math (fun _ _ _ _ _ h => h)
  case F =>
    intro w mg fa h KX G hmg
    refine' Rf.Law.facts KX G hmg ?a_law_pot___law_pot ?l_law_pot ?c_law_pot ?k_law_pot ?a_law_draw___law_draw ?l_law_draw ?c_law_draw ?k_law_draw ?a_law_pick___law_pick ?l_law_pick ?c_law_pick ?k_law_pick ?a_law_low___law_low ?l_law_low ?c_law_low ?k_law_low ?a_law_ratio___law_ratio ?l_law_ratio ?c_law_ratio ?k_law_ratio ?a_is_integer__is_integer ?l_is_integer ?c_is_integer ?k_is_integer ?a_is_ratio_basics__is_ratio_basics ?l_is_ratio_basics ?c_is_ratio_basics ?k_is_ratio_basics ?a_check_both__check_both ?l_check_both ?c_check_both ?k_check_both ?a_made__made ?l_made ?c_made ?k_made ?a_r_plus__r_plus ?l_r_plus ?c_r_plus ?k_r_plus ?a_plus__plus ?l_plus ?c_plus ?k_plus ?a_r_minus__r_minus ?l_r_minus ?c_r_minus ?k_r_minus ?a_minus__minus ?l_minus ?c_minus ?k_minus ?a_r_times__r_times ?l_r_times ?c_r_times ?k_r_times ?a_times__times ?l_times ?c_times ?k_times ?a_r_less__r_less ?l_r_less ?c_r_less ?k_r_less ?a_is_below__is_below ?l_is_below ?c_is_below ?k_is_below ?a_r_over__r_over ?l_r_over ?c_r_over ?k_r_over ?a_over__over ?l_over ?c_over ?k_over ?a_ratio__ratio ?l_ratio ?c_ratio ?k_ratio ?a_is_list__is_list ?l_is_list ?c_is_list ?k_is_list ?a_check_numbers__check_numbers ?l_check_numbers ?c_check_numbers ?k_check_numbers ?a_common__common ?l_common ?c_common ?k_common ?a_r_total__r_total ?l_r_total ?c_r_total ?k_r_total ?a_total__total ?l_total ?c_total ?k_total ?a_least__least ?l_least ?c_least ?k_least ?a_greatest__greatest ?l_greatest ?c_greatest ?k_greatest ?a_law_is_int___law_is_int ?l_law_is_int ?c_law_is_int ?k_law_is_int ?a_law_is_ratio___law_is_ratio ?l_law_is_ratio ?c_law_is_ratio ?k_law_is_ratio ?a_is_ratio_ratios__is_ratio_ratios ?l_is_ratio_ratios ?c_is_ratio_ratios ?k_is_ratio_ratios ?a_law_numbers_right___law_numbers_right ?l_law_numbers_right ?c_law_numbers_right ?k_law_numbers_right ?a_law_any___law_any ?l_law_any ?c_law_any ?k_law_any ?a_law_bent___law_bent ?l_law_bent ?c_law_bent ?k_law_bent ?a_law_flaw___law_flaw ?l_law_flaw ?c_law_flaw ?k_law_flaw ?a_sizes_are_right__sizes_are_right ?l_sizes_are_right ?c_sizes_are_right ?k_sizes_are_right ?a_is_count__is_count ?l_is_count ?c_is_count ?k_is_count ?a_flaw_of__flaw_of ?l_flaw_of ?c_flaw_of ?k_flaw_of ?a_flaw__flaw ?l_flaw ?c_flaw ?k_flaw ?a_table_is_right__table_is_right ?l_table_is_right ?c_table_is_right ?k_table_is_right ?a_is_table__is_table ?l_is_table ?c_is_table ?k_is_table ?a_law_flaws_right___law_flaws_right ?l_law_flaws_right ?c_law_flaws_right ?k_law_flaws_right ?a_law__law ?l_law ?c_law ?k_law ?z_len ?z_abs ?z_int ?z_max ?z_min ?z_sum ?z_all ?z_any ?z_tuple ?z_list ?z_repr ?z_divmod ?z_sorted ?z_str ?z_bool ?z_isinstance ?z_range ?z_enumerate ?z_zip ?z_gcd ?n_0 ?n_1
    (case a_law_pot___law_pot => k_is)
    (case l_law_pot => k_is)
    (case c_law_pot => k_is)
    (case k_law_pot => k_is)
    (case a_law_draw___law_draw => k_is)
    (case l_law_draw => k_is)
    (case c_law_draw => k_is)
    (case k_law_draw => k_is)
    (case a_law_pick___law_pick => k_is)
    (case l_law_pick => k_is)
    (case c_law_pick => k_is)
    (case k_law_pick => k_is)
    (case a_law_low___law_low => k_is)
    (case l_law_low => k_is)
    (case c_law_low => k_is)
    (case k_law_low => k_is)
    (case a_law_ratio___law_ratio => k_is)
    (case l_law_ratio => k_is)
    (case c_law_ratio => k_is)
    (case k_law_ratio => k_is)
    (case a_is_integer__is_integer => k_is)
    (case l_is_integer => k_is)
    (case c_is_integer => k_is)
    (case k_is_integer => k_is)
    (case a_is_ratio_basics__is_ratio_basics => k_is)
    (case l_is_ratio_basics => k_is)
    (case c_is_ratio_basics => k_is)
    (case k_is_ratio_basics => k_is)
    (case a_check_both__check_both => k_is)
    (case l_check_both => k_is)
    (case c_check_both => k_is)
    (case k_check_both => k_is)
    (case a_made__made => k_is)
    (case l_made => k_is)
    (case c_made => k_is)
    (case k_made => k_is)
    (case a_r_plus__r_plus => k_is)
    (case l_r_plus => k_is)
    (case c_r_plus => k_is)
    (case k_r_plus => k_is)
    (case a_plus__plus => k_is)
    (case l_plus => k_is)
    (case c_plus => k_is)
    (case k_plus => k_is)
    (case a_r_minus__r_minus => k_is)
    (case l_r_minus => k_is)
    (case c_r_minus => k_is)
    (case k_r_minus => k_is)
    (case a_minus__minus => k_is)
    (case l_minus => k_is)
    (case c_minus => k_is)
    (case k_minus => k_is)
    (case a_r_times__r_times => k_is)
    (case l_r_times => k_is)
    (case c_r_times => k_is)
    (case k_r_times => k_is)
    (case a_times__times => k_is)
    (case l_times => k_is)
    (case c_times => k_is)
    (case k_times => k_is)
    (case a_r_less__r_less => k_is)
    (case l_r_less => k_is)
    (case c_r_less => k_is)
    (case k_r_less => k_is)
    (case a_is_below__is_below => k_is)
    (case l_is_below => k_is)
    (case c_is_below => k_is)
    (case k_is_below => k_is)
    (case a_r_over__r_over => k_is)
    (case l_r_over => k_is)
    (case c_r_over => k_is)
    (case k_r_over => k_is)
    (case a_over__over => k_is)
    (case l_over => k_is)
    (case c_over => k_is)
    (case k_over => k_is)
    (case a_ratio__ratio => k_is)
    (case l_ratio => k_is)
    (case c_ratio => k_is)
    (case k_ratio => k_is)
    (case a_is_list__is_list => k_is)
    (case l_is_list => k_is)
    (case c_is_list => k_is)
    (case k_is_list => k_is)
    (case a_check_numbers__check_numbers => k_is)
    (case l_check_numbers => k_is)
    (case c_check_numbers => k_is)
    (case k_check_numbers => k_is)
    (case a_common__common => k_is)
    (case l_common => k_is)
    (case c_common => k_is)
    (case k_common => k_is)
    (case a_r_total__r_total => k_is)
    (case l_r_total => k_is)
    (case c_r_total => k_is)
    (case k_r_total => k_is)
    (case a_total__total => k_is)
    (case l_total => k_is)
    (case c_total => k_is)
    (case k_total => k_is)
    (case a_least__least => k_is)
    (case l_least => k_is)
    (case c_least => k_is)
    (case k_least => k_is)
    (case a_greatest__greatest => k_is)
    (case l_greatest => k_is)
    (case c_greatest => k_is)
    (case k_greatest => k_is)
    (case a_law_is_int___law_is_int => k_is)
    (case l_law_is_int => k_is)
    (case c_law_is_int => k_is)
    (case k_law_is_int => k_is)
    (case a_law_is_ratio___law_is_ratio => k_is)
    (case l_law_is_ratio => k_is)
    (case c_law_is_ratio => k_is)
    (case k_law_is_ratio => k_is)
    (case a_is_ratio_ratios__is_ratio_ratios => k_is)
    (case l_is_ratio_ratios => k_is)
    (case c_is_ratio_ratios => k_is)
    (case k_is_ratio_ratios => k_is)
    (case a_law_numbers_right___law_numbers_right => k_is)
    (case l_law_numbers_right => k_is)
    (case c_law_numbers_right => k_is)
    (case k_law_numbers_right => k_is)
    (case a_law_any___law_any => k_is)
    (case l_law_any => k_is)
    (case c_law_any => k_is)
    (case k_law_any => k_is)
    (case a_law_bent___law_bent => k_is)
    (case l_law_bent => k_is)
    (case c_law_bent => k_is)
    (case k_law_bent => k_is)
    (case a_law_flaw___law_flaw => k_is)
    (case l_law_flaw => k_is)
    (case c_law_flaw => k_is)
    (case k_law_flaw => k_is)
    (case a_sizes_are_right__sizes_are_right => k_is)
    (case l_sizes_are_right => k_is)
    (case c_sizes_are_right => k_is)
    (case k_sizes_are_right => k_is)
    (case a_is_count__is_count => k_is)
    (case l_is_count => k_is)
    (case c_is_count => k_is)
    (case k_is_count => k_is)
    (case a_flaw_of__flaw_of => k_is)
    (case l_flaw_of => k_is)
    (case c_flaw_of => k_is)
    (case k_flaw_of => k_is)
    (case a_flaw__flaw => k_is)
    (case l_flaw => k_is)
    (case c_flaw => k_is)
    (case k_flaw => k_is)
    (case a_table_is_right__table_is_right => k_is)
    (case l_table_is_right => k_is)
    (case c_table_is_right => k_is)
    (case k_table_is_right => k_is)
    (case a_is_table__is_table => k_is)
    (case l_is_table => k_is)
    (case c_is_table => k_is)
    (case k_is_table => k_is)
    (case a_law_flaws_right___law_flaws_right => k_is)
    (case l_law_flaws_right => k_is)
    (case c_law_flaws_right => k_is)
    (case k_law_flaws_right => k_is)
    (case a_law__law => k_is)
    (case l_law => k_is)
    (case c_law => k_is)
    (case k_law => k_is)
    (case z_len => k_is)
    (case z_abs => k_is)
    (case z_int => k_is)
    (case z_max => k_is)
    (case z_min => k_is)
    (case z_sum => k_is)
    (case z_all => k_is)
    (case z_any => k_is)
    (case z_tuple => k_is)
    (case z_list => k_is)
    (case z_repr => k_is)
    (case z_divmod => k_is)
    (case z_sorted => k_is)
    (case z_str => k_is)
    (case z_bool => k_is)
    (case z_isinstance => k_is)
    (case z_range => k_is)
    (case z_enumerate => k_is)
    (case z_zip => k_is)
    (case z_gcd => k_is)
    (case n_0 => k_is)
    (case n_1 => k_is)

