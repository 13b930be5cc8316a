import PyProof.Rows.All
import Wide.All
import OpenK.AllK
import Wide.FinOn
import HandS.ForMost
import HandS.Defaults
import HandS.Head0
import HandS.Head1
import HandS.Head2
import HandS.HeadEnd
import HandS.HeadHook1
import HandS.HeadHook2
import HandS.Ends
import KE.KStateDown
import PySem.Challenge.RW_behindboth_k56_thirds_beside_good_forks
import PyProof.Lay0
import HandS.Rev
import HandS.TupAny
import HandS.Zip
import HandS.SetBool
import HandS.SortOrd
import HandS.SortInts
import HandS.TupSets
import HandS.Style
import HandS.Deep
import HandS.Conv
import KE.KIndexOf
import HandS.TupLe
import HandS.IsInst
import HandS.RaiseMore
import HandS.Flow
import HandS.RevTup
import HandS.Iter
import KE.GoesMore
import PyProof.EnumFor
import PyProof.Draws
import KE.OsSort
import KE.SortData
import HandS.SetFor
import HandS.Strs
import KE.DataMinMax
set_option Elab.async false
set_option linter.all false
section
set_option maxRecDepth 100000
set_option maxHeartbeats 4000000
/-! Mini machine: data, syntax, evaluation. -/
namespace MM
open PySem

/-- data: immutable ones inline, a list inline is frozen, ref: a mutable object by number, scr: the script -/
inductive D where
  | non
  | bl (b : Bool)
  | int (i : Int)
  | str (x : Str)
  | tup (xs : List D)
  | lst (xs : List D)
  | scr (ns : List Int)
  | ref (n : Nat)
instance : Inhabited D := ⟨.non⟩

mutual
def D.beq : D → D → Bool
  | .non, .non => true
  | .bl a, .bl b => a == b
  | .int a, .int b => decide (a = b)
  | .str a, .str b => decide (a = b)
  | .tup a, .tup b => D.beqs a b
  | .lst a, .lst b => D.beqs a b
  | .scr a, .scr b => decide (a = b)
  | .ref a, .ref b => decide (a = b)
  | _, _ => false
def D.beqs : List D → List D → Bool
  | [], [] => true
  | x :: xs, y :: ys => D.beq x y && D.beqs xs ys
  | _, _ => false
end
mutual
theorem D.beq_self : ∀ a : D, D.beq a a = true
  | .non => by simp [D.beq]
  | .bl b => by simp [D.beq]
  | .int i => by simp [D.beq]
  | .str x => by simp [D.beq]
  | .tup xs => by simp [D.beq, D.beqs_self xs]
  | .lst xs => by simp [D.beq, D.beqs_self xs]
  | .scr xs => by simp [D.beq]
  | .ref n => by simp [D.beq]
theorem D.beqs_self : ∀ a : List D, D.beqs a a = true
  | [] => by simp [D.beqs]
  | x :: xs => by simp [D.beqs, D.beq_self x, D.beqs_self xs]
end
mutual
theorem D.eq_of_beq : ∀ {a b : D}, D.beq a b = true → a = b
  | .non, b, h => by cases b <;> simp_all [D.beq]
  | .bl x, b, h => by cases b <;> simp_all [D.beq]
  | .int i, b, h => by cases b <;> simp_all [D.beq]
  | .str x, b, h => by cases b <;> simp_all [D.beq]
  | .tup xs, b, h => by
    cases b with
    | tup ys => rw [D.eq_of_beqs (a := xs) (b := ys) (by simpa [D.beq] using h)]
    | _ => simp [D.beq] at h
  | .lst xs, b, h => by
    cases b with
    | lst ys => rw [D.eq_of_beqs (a := xs) (b := ys) (by simpa [D.beq] using h)]
    | _ => simp [D.beq] at h
  | .scr x, b, h => by cases b <;> simp_all [D.beq]
  | .ref n, b, h => by cases b <;> simp_all [D.beq]
theorem D.eq_of_beqs : ∀ {a b : List D}, D.beqs a b = true → a = b
  | [], b, h => by cases b <;> simp_all [D.beqs]
  | x :: xs, b, h => by
    cases b with
    | nil => simp [D.beqs] at h
    | cons y ys =>
      have h' : D.beq x y = true ∧ D.beqs xs ys = true := by simpa [D.beqs] using h
      rw [D.eq_of_beq h'.1, D.eq_of_beqs h'.2]
end

mutual
/-- no mutable object within -/
def D.pure : D → Bool
  | .ref _ => false
  | .tup xs => D.pures xs
  | .lst xs => D.pures xs
  | _ => true
def D.pures : List D → Bool
  | [] => true
  | x :: xs => D.pure x && D.pures xs
end
mutual
/-- all mutable objects within lie below L -/
def D.under (L : Nat) : D → Bool
  | .ref n => decide (n < L)
  | .tup xs => D.unders L xs
  | .lst xs => D.unders L xs
  | _ => true
def D.unders (L : Nat) : List D → Bool
  | [] => true
  | x :: xs => D.under L x && D.unders L xs
end
mutual
/-- as data of the model (a mutable object: nothing) -/
def D.py : D → PyData
  | .non => .none
  | .bl b => .bool b
  | .int i => .int i
  | .str x => .str x
  | .tup xs => .tuple (D.pys xs)
  | .lst xs => .list (D.pys xs)
  | .scr ns => .list (ns.map .int)
  | .ref _ => .none
def D.pys : List D → List PyData
  | [] => []
  | x :: xs => D.py x :: D.pys xs
end
mutual
/-- how deep; a text of signs that stand nowhere is far too deep -/
def D.dep : D → Nat
  | .tup xs => D.deps xs + 1
  | .lst xs => D.deps xs + 1
  | .str x => if PyData.canLay0 (.str x) then 0 else 1000
  | .scr _ => 1
  | _ => 0
def D.deps : List D → Nat
  | [] => 0
  | x :: xs => max (D.dep x) (D.deps xs)
end
mutual
/-- a bound of the signs that repr tells -/
def D.wt : D → Nat
  | .non => 4
  | .bl _ => 5
  | .int i => if i.natAbs < 1000000000 then 11 else 33554432
  | .str _ => 33554432
  | .tup xs => D.wts xs + 3
  | .lst xs => D.wts xs + 2
  | .scr _ => 33554432
  | .ref _ => 33554432
def D.wts : List D → Nat
  | [] => 0
  | x :: xs => D.wt x + 2 + D.wts xs
end

/-- what a mutable object holds -/
inductive O where
  | lst (xs : List D)
  | dct (kvs : List (D × D))
abbrev St := List O
abbrev Rho := List (Option D)
def O.under (L : Nat) : O → Bool
  | .lst xs => D.unders L xs
  | .dct kvs => kvs.all fun p => D.under L p.1 && D.under L p.2
def beqKvs : List (D × D) → List (D × D) → Bool
  | [], [] => true
  | x :: xs, y :: ys => D.beq x.1 y.1 && D.beq x.2 y.2 && beqKvs xs ys
  | _, _ => false
def O.beq : O → O → Bool
  | .lst a, .lst b => D.beqs a b
  | .dct a, .dct b => beqKvs a b
  | _, _ => false
theorem beqKvs_self : ∀ a, beqKvs a a = true
  | [] => rfl
  | x :: xs => by simp [beqKvs, D.beq_self, beqKvs_self xs]
theorem eq_of_beqKvs : ∀ {a b}, beqKvs a b = true → a = b
  | [], b, h => by cases b <;> simp_all [beqKvs]
  | x :: xs, b, h => by
    cases b with
    | nil => simp [beqKvs] at h
    | cons y ys =>
      have h' : (D.beq x.1 y.1 = true ∧ D.beq x.2 y.2 = true) ∧ beqKvs xs ys = true := by simpa [beqKvs] using h
      rw [eq_of_beqKvs h'.2, show x = y from Prod.ext (D.eq_of_beq h'.1.1) (D.eq_of_beq h'.1.2)]
theorem O.beq_self : ∀ a : O, O.beq a a = true
  | .lst a => D.beqs_self a
  | .dct a => beqKvs_self a
theorem O.eq_of_beq : ∀ {a b : O}, O.beq a b = true → a = b
  | .lst a, .lst b, h => by rw [D.eq_of_beqs (show D.beqs a b = true from h)]
  | .dct a, .dct b, h => by rw [eq_of_beqKvs (show beqKvs a b = true from h)]
  | .lst _, .dct _, h => by simp [O.beq] at h
  | .dct _, .lst _, h => by simp [O.beq] at h

def cap : Nat := 16777216

/-! ### syntax -/
inductive Bop | add | sub | mul | fdiv | mod | pow
  deriving DecidableEq
inductive Cop | eq | ne | lt | le | gt | ge | isin | notin | is | isnot
  deriving DecidableEq
inductive Ty | int | bool | tuple | str
  deriving DecidableEq
mutual
/-- targets -/
inductive G
  | nm (i : Nat)
  | tp (gs : Gn)
inductive Gn
  | nil
  | cons (g : G) (gs : Gn)
end
mutual
inductive E
  | var (i : Nat)
  | con (d : D)
  | tup (es : Es)
  | bin (o : Bop) (a b : E)
  | neg (a : E)
  | not (a : E)
  | cmp (o : Cop) (a b : E)
  | chn (o p : Cop) (a b c : E)
  | and (a b : E)
  | or (a b : E)
  | ite (c a b : E)
  | call (f : Nat) (es : Es)
  | len (a : E)
  | intf (a : E)
  | isi (t : Ty) (a : E)
  | mx (a b : E)
  | mn (a b : E)
  | repr (a : E)
  | tupE (a : E)
  | tupL (l : L)
  | tupR (a : E)
  | allL (l : L)
  | anyL (l : L)
  | lenSet (a : E)
  | minL (l : L)
  | idx (a i : E)
  | slice (a : E) (lo hi : OE)
  | rev (a : E)
  | pop (a : E)
  | popAt (a i : E)
  | index (a x : E)
  | get2 (a k d : E)
  | dictOf (a : E)
  | frz (l : L)
  | new (l : L)
inductive Es
  | nil
  | cons (e : E) (es : Es)
inductive OE
  | none
  | some (e : E)
/-- lists just made -/
inductive L
  | disp (es : Es)
  | comp (gs : Gs)
  | ofE (a : E)
  | ofR (a : E)
  | add (a b : E)
  | ite (c : E) (a b : L)
  | slice (a : E) (lo hi : OE)
  | rev (a : E)
  | call (f : Nat) (es : Es)
  | srt (a : E)
  | srtL (l : L)
  | srtSet (a : E)
  | srtSC (gs : Gs)
/-- clauses: target, source, tests; the element -/
inductive Gs
  | one (g : G) (it : It) (ifs : Es) (e : E)
  | two (g : G) (it : It) (ifs : Es) (g2 : G) (it2 : It) (ifs2 : Es) (e : E)
/-- what is walked -/
inductive It
  | seq (a : E)
  | lis (l : L)
  | rng1 (a : E)
  | rng2 (a b : E)
  | enm (a : E)
end
mutual
inductive S
  | asg (g : G) (e : E)
  | par (i j : Nat) (a b : E)
  | setI (a i e : E)
  | app (a e : E)
  | ext (a : E) (l : L)
  | extE (a e : E)
  | ex (e : E)
  | ite (c : E) (a b : Ss)
  | forS (g : G) (it : It) (b : Ss)
  | whl (c : E) (b : Ss)
  | ret (e : E)
  | retN
  | nev
  | brk
  | cont
  | pass
inductive Ss
  | nil
  | cons (s : S) (ss : Ss)
end
structure Fn where
  np : Nat
  ns : Nat
  body : Ss

/-! ### evaluation -/
abbrev R (α : Type) := Option (α × St)
def bnd {α β : Type} (x : R α) (f : α → St → R β) : R β := match x with
  | some (a, s) => f a s
  | none => none
@[simp] theorem bnd_some {α β : Type} (a : α) (s : St) (f : α → St → R β) : bnd (some (a, s)) f = f a s := rfl
@[simp] theorem bnd_none {α β : Type} (f : α → St → R β) : bnd none f = none := rfl
theorem bnd_eq {α β : Type} {x : R α} {f : α → St → R β} {r : β × St} (h : bnd x f = some r) : ∃ a s, x = some (a, s) ∧ f a s = some r := by
  cases x with
  | none => cases h
  | some p => exact ⟨p.1, p.2, rfl, h⟩

/-- the items of a sequence -/
def seqOf (st : St) : D → Option (List D)
  | .tup xs => some xs
  | .lst xs => some xs
  | .ref n => match st[n]? with
    | some (.lst xs) => some xs
    | _ => none
  | _ => none
/-- a list's items (no tuple) -/
def lstOf (st : St) : D → Option (List D)
  | .tup _ => none
  | d => seqOf st d
/-- a mutable list told inline -/
def der (st : St) : D → D
  | .ref n => match st[n]? with
    | some (.lst xs) => .lst xs
    | _ => .ref n
  | d => d
def truth (st : St) : D → Option Bool
  | .bl b => some b
  | .int i => some (i != 0)
  | .non => some false
  | d => match seqOf st d with
    | some xs => some (!xs.isEmpty)
    | none => none
/-- a source that has to stay: what number, which items -/
def srcOf (st : St) : D → Option (Nat × List D)
  | .ref n => match st[n]? with
    | some (.lst xs) => some (n, xs)
    | _ => none
  | _ => none
def stays (src : Option (Nat × List D)) (st : St) : Bool := match src with
  | none => true
  | some (n, xs) => match st[n]? with
    | some (.lst ys) => D.beqs xs ys
    | _ => false
def eqD (st : St) (a b : D) : Option Bool :=
  let a := der st a
  let b := der st b
  if D.pure a && D.pure b && decide (D.dep a ≤ 60) && decide (D.dep b ≤ 60) then some (PyData.eqv a.py b.py) else none
/-- flat things -/
def flat : D → Bool
  | .non => true
  | .bl _ => true
  | .int _ => true
  | .str x => PyData.canLay0 (.str x)
  | _ => false
def inD (st : St) (x : D) (xs : List D) : Option Bool :=
  if D.pure x && D.pures xs && decide (D.dep x ≤ 60) && decide (D.deps xs ≤ 60) then some (xs.any fun y => PyData.eqv y.py x.py) else none
/-- order of asInts and of tuples of asInts -/
def asInts : List D → Option (List Int)
  | [] => some []
  | .int i :: r => (asInts r).map (i :: ·)
  | _ => none
def cmpInt (o : Cop) (i j : Int) : Option Bool := match o with
  | .lt => some (decide (i < j))
  | .le => some (decide (i ≤ j))
  | .gt => some (decide (j < i))
  | .ge => some (decide (j ≤ i))
  | _ => none
def cmpD (o : Cop) (st : St) (a b : D) : Option Bool := match o with
  | .eq => eqD st a b
  | .ne => (eqD st a b).map (!·)
  | .isin => match seqOf st b with
    | some xs => inD st a xs
    | none => none
  | .notin => match seqOf st b with
    | some xs => (inD st a xs).map (!·)
    | none => none
  | .is => match b with
    | .non => some (match a with | .non => true | _ => false)
    | _ => none
  | .isnot => match b with
    | .non => some (match a with | .non => false | _ => true)
    | .bl k => match a with
      | .bl c => some (c != k)
      | _ => none
    | _ => none
  | o => match a, b with
    | .int i, .int j => cmpInt o i j
    | .tup xs, .tup ys => match o, asInts xs, asInts ys with
      | .lt, some is, some js => some (HT.lexLt is js)
      | _, _, _ => none
    | _, _ => none
def big64 : Int := 18446744073709551616
def binD (o : Bop) (st : St) (a b : D) : Option D := match a, b with
  | .int i, .int j => match o with
    | .add => some (.int (i + j))
    | .sub => some (.int (i - j))
    | .mul => if (decide (-big64 < i) && decide (i < big64)) || (decide (-big64 < j) && decide (j < big64)) then some (.int (i * j)) else none
    | .fdiv => if decide (j ≠ 0) && decide (j.natAbs < 1073741824) then some (.int (i.fdiv j)) else none
    | .mod => if decide (j ≠ 0) then some (.int (i.fmod j)) else none
    | .pow => if decide (0 ≤ j) && decide (j ≤ 1000000) && decide (i.natAbs < 18446744073709551616) then some (.int (i ^ j.toNat)) else none
  | .tup xs, .tup ys => match o with
    | .add => if decide (xs.length + ys.length ≤ cap) then some (.tup (xs ++ ys)) else none
    | _ => none
  | .str x, .str y => match o with
    | .add => if decide (x.length + y.length ≤ cap) then some (.str (x ++ y)) else none
    | _ => none
  | a, b => match o, a, b with
    | .add, .scr _, _ => none
    | .add, _, .scr _ => none
    | .add, .tup _, _ => none
    | .add, _, .tup _ => none
    | .add, a, b => match seqOf st a, seqOf st b with
      | some xs, some ys => if decide (xs.length + ys.length ≤ cap) then some (.lst (xs ++ ys)) else none
      | _, _ => none
    | _, _, _ => none
/-- both lists, for a list just made -/
def addL (st : St) (a b : D) : Option (List D) := match lstOf st a, lstOf st b with
  | some xs, some ys => if decide (xs.length + ys.length ≤ cap) then some (xs ++ ys) else none
  | _, _ => none
def isiD (t : Ty) : D → Option Bool
  | .non => some false
  | .bl _ => some (t == .int || t == .bool)
  | .int _ => some (t == .int)
  | .str _ => some (t == .str)
  | .tup _ => some (t == .tuple)
  | _ => none
def atD (xs : List D) (i : Int) : Option D := L2.atI xs i
def cutD (xs : List D) (lo hi : Option Int) : List D := (xs.drop (HT.sIx xs.length 0 lo)).take (HT.sIx xs.length xs.length hi - HT.sIx xs.length 0 lo)
def sliceD (st : St) (x : D) (l h : Option Int) : Option D := match x with
  | .tup xs => some (.tup (cutD xs l h))
  | x => (seqOf st x).map fun xs => .lst (cutD xs l h)
def revD (st : St) (x : D) : Option D := match x with
  | .tup xs => some (.tup xs.reverse)
  | x => (seqOf st x).map fun xs => .lst xs.reverse
def lenD (st : St) : D → Option D
  | .scr ns => some (.int ns.length)
  | .str x => if decide (x.length ≤ cap) then some (.int x.length) else none
  | x => (seqOf st x).map fun xs => .int xs.length
def intD : D → Option D
  | .int i => some (.int i)
  | .bl b => some (.int (if b then 1 else 0))
  | _ => none
def mxD (x y : D) : Option D := match x, y with
  | .int i, .int j => some (.int (if j > i then j else i))
  | _, _ => none
def mnD (x y : D) : Option D := match x, y with
  | .int i, .int j => some (.int (if j < i then j else i))
  | _, _ => none
def reprD (st : St) (x : D) : Option D :=
  if D.pure (der st x) && decide (D.dep (der st x) ≤ 60) && decide (D.wt (der st x) ≤ cap) then some (.str (PyData.shown (der st x).py)) else none
def idxD (st : St) (x y : D) : Option D := match x, y with
  | .scr ns, .int i => (L2.atI ns i).map .int
  | x, .int i => match seqOf st x with
    | some xs => atD xs i
    | none => none
  | _, _ => none
def negD : D → Option D
  | .int i => some (.int (-i))
  | _ => none
def bools : List D → Option (List Bool)
  | [] => some []
  | .bl b :: r => (bools r).map (b :: ·)
  | _ => none
/-- sorted: of asInts, of tuples of asInts -/
def insI (i : Int) : List Int → List Int
  | [] => [i]
  | j :: r => if i ≤ j then i :: j :: r else j :: insI i r
def sortI : List Int → List Int
  | [] => []
  | i :: r => insI i (sortI r)
def tints : List D → Option (List (List Int))
  | [] => some []
  | .tup xs :: r => match asInts xs, tints r with
    | some is, some l => some (is :: l)
    | _, _ => none
  | _ => none
/-- the least of some tuples -/
def minT (xs : List D) : Option D := match tints xs with
  | some (t :: ts) => some (.tup ((ts.foldl (fun b u => if HT.lexLt u b then u else b) t).map .int))
  | _ => none
def sortT (l : List (List Int)) : List (List Int) := l.mergeSort fun a b => !HT.lexLt b a
def sortD (xs : List D) : Option (List D) := match asInts xs with
  | some is => some ((sortI is).map .int)
  | none => match tints xs with
    | some ts => if ts.all (fun t => !t.isEmpty) then some ((sortT ts).map fun is => .tup (is.map .int)) else none
    | none => none
def dedup : List Int → List Int
  | [] => []
  | i :: r => if r.contains i then dedup r else i :: dedup r
def sortSet (xs : List D) : Option (List D) := match asInts xs with
  | some is => if decide ((dedup is).length < 64) then some ((sortI (dedup is)).map .int) else none
  | none => none
def isT : D → Bool
  | .tup _ => true
  | _ => false
def indexD : D → D → Option D
  | .tup xs, .int k => match asInts xs with
    | some is => if is.contains k then some (.int ((is.idxOf k : Nat) : Int)) else none
    | none => none
  | _, _ => none
def pairsOf : List D → Option (List (D × D))
  | [] => some []
  | .tup [a, b] :: r => (pairsOf r).map ((a, b) :: ·)
  | _ => none
/-- keys: ints -/
def putKv (k v : D) (kvs : List (D × D)) : List (D × D) := if (kvs.any fun p => D.beq p.1 k) then kvs.map (fun p => if D.beq p.1 k then (p.1, v) else p) else kvs ++ [(k, v)]
def getKv (k : D) : List (D × D) → Option D
  | [] => none
  | p :: r => if D.beq p.1 k then some p.2 else getKv k r
def isKey : D → Bool
  | .int _ => true
  | _ => false
def isL (st : St) : D → Bool
  | .ref n => match st[n]? with
    | some (.lst _) => true
    | _ => false
  | _ => false
def isDc (st : St) : D → Bool
  | .ref n => match st[n]? with
    | some (.dct _) => true
    | _ => false
  | _ => false
def isSq (st : St) : D → Bool
  | .tup _ => true
  | .lst _ => true
  | d => isL st d
def popD (st : St) (x y : D) : Option (D × St) := match x, y with
  | .ref n, .int i => match st[n]? with
    | some (.lst xs) => if decide (0 ≤ i) && decide (i < 9000000000000000000) then match xs[i.toNat]? with
        | some y => some (y, st.set n (.lst (xs.eraseIdx i.toNat)))
        | none => none
      else none
    | _ => none
  | _, _ => none
def getD2 (st : St) (a k d : D) : Option (D × St) := match a with
  | .ref n => match st[n]? with
    | some (.dct kvs) => if isKey k then some ((getKv k kvs).getD d, st) else none
    | _ => none
  | _ => none
def appD (st : St) (x v : D) : Option St := match x with
  | .ref n => match st[n]? with
    | some (.lst xs) => if decide (xs.length < cap) then some (st.set n (.lst (xs ++ [v]))) else none
    | _ => none
  | _ => none
def extD (st : St) (x : D) (v : List D) : Option St := match x with
  | .ref n => match st[n]? with
    | some (.lst xs) => if decide (xs.length + v.length ≤ cap) then some (st.set n (.lst (xs ++ v))) else none
    | _ => none
  | _ => none
def setD (st : St) (x k v : D) : Option St := match x, k with
  | .ref n, .int k => match st[n]? with
    | some (.lst xs) => if decide (0 ≤ k) && decide (k.toNat < xs.length) then some (st.set n (.lst (xs.set k.toNat v))) else none
    | _ => none
  | _, _ => none

mutual
/-- bind a target (ρ's slots) -/
def bindG : G → D → Rho → Option Rho
  | .nm i, d, ρ => if i < ρ.length then some (ρ.set i (some d)) else none
  | .tp gs, d, ρ => match d with
    | .tup xs => bindGl gs xs ρ
    | _ => none
def bindGl : Gn → List D → Rho → Option Rho
  | .nil, xs, ρ => match xs with
    | [] => some ρ
    | _ => none
  | .cons g gs, xs, ρ => match xs with
    | x :: r => match bindG g x ρ with
      | some ρ' => bindGl gs r ρ'
      | none => none
    | [] => none
end
mutual
def G.slots : G → List Nat
  | .nm i => [i]
  | .tp gs => gs.slots
def Gn.slots : Gn → List Nat
  | .nil => []
  | .cons g gs => g.slots ++ gs.slots
end
def wipeR (ρ : Rho) : List Nat → Rho
  | [] => ρ
  | i :: r => (wipeR ρ r).set i none
def Gs.own : Gs → List Nat
  | .one g _ _ _ => g.slots
  | .two g _ _ g2 _ _ _ => g.slots ++ g2.slots

/-- behind a call: what lay below L stays, or holds nothing new -/
def oldOk (L : Nat) : St → St → Bool
  | [], _ => true
  | o :: os, o' :: os' => (O.beq o o' || O.under L o') && oldOk L os os'
  | _ :: _, [] => false
/-- a value with its new lists frozen -/
def frzD (st : St) (L : Nat) : Nat → D → Option D
  | 0, _ => none
  | k + 1, d => if D.pure d then some d else match d with
    | .tup xs => (xs.mapM (frzD st L k)).map .tup
    | .lst xs => (xs.mapM (frzD st L k)).map .lst
    | .ref n => if n < L then some (.ref n) else match st[n]? with
      | some (.lst xs) => if D.pures xs then some (.lst xs) else (xs.mapM (frzD st L k)).map .lst
      | _ => none
    | d => some d
/-- the end of a call: a value -/
def finV (st0 : St) (r : D × St) : R D :=
  if oldOk st0.length st0 r.2 then (frzD r.2 st0.length 8 r.1).map fun d => (d, r.2.take st0.length) else none
/-- .. : a list just made -/
def finL (st0 : St) (r : D × St) : R (List D) :=
  if oldOk st0.length st0 r.2 then match r.1 with
    | .ref n => if n < st0.length then none else match r.2[n]? with
      | some (.lst xs) => if D.pures xs then some (xs, r.2.take st0.length) else none
      | _ => none
    | _ => none
  else none

inductive Fl where
  | next
  | ret (d : D)
  | brk
  | cont
/-- loop over items: body from the environment -/
def forF (src : Option (Nat × List D)) (f : D → Rho → St → Option (Fl × Rho × St)) : List D → Rho → St → Option (Fl × Rho × St)
  | [], ρ, st => if stays src st then some (.next, ρ, st) else none
  | x :: xs, ρ, st => if stays src st then match f x ρ st with
      | some (.next, ρ', st') => forF src f xs ρ' st'
      | some (.cont, ρ', st') => forF src f xs ρ' st'
      | some (.brk, ρ', st') => some (.next, ρ', st')
      | some (.ret d, ρ', st') => some (.ret d, ρ', st')
      | none => none
    else none
def whlF (c : Rho → St → R Bool) (f : Rho → St → Option (Fl × Rho × St)) : Nat → Rho → St → Option (Fl × Rho × St)
  | 0, _, _ => none
  | k + 1, ρ, st => match c ρ st with
    | some (true, st') => match f ρ st' with
      | some (.next, ρ', st'') => whlF c f k ρ' st''
      | some (.cont, ρ', st'') => whlF c f k ρ' st''
      | some (.brk, ρ', st'') => some (.next, ρ', st'')
      | some (.ret d, ρ', st'') => some (.ret d, ρ', st'')
      | none => none
    | some (false, st') => some (.next, ρ, st')
    | none => none
/-- a clause: f gives what each item adds -/
def walkF (src : Option (Nat × List D)) (f : D → St → R (List D)) : List D → St → R (List D)
  | [], st => if stays src st then some ([], st) else none
  | x :: xs, st => if stays src st then bnd (f x st) fun ys st' => bnd (walkF src f xs st') fun zs st'' => some (ys ++ zs, st'') else none
def liftO {α : Type} (st : St) : Option α → R α
  | some a => some (a, st)
  | none => none

/-- what calls give, raw -/
abbrev Cl := Nat → List D → St → R D
section
variable (cl : Cl)
mutual
def evE : E → Rho → St → R D
  | .var i, ρ, st => match ρ[i]? with
    | some (some d) => some (d, st)
    | _ => none
  | .con d, _, st => some (d, st)
  | .tup es, ρ, st => bnd (evEs es ρ st) fun ds st => some (.tup ds, st)
  | .bin o a b, ρ, st => bnd (evE a ρ st) fun x st => bnd (evE b ρ st) fun y st => liftO st (binD o st x y)
  | .neg a, ρ, st => bnd (evE a ρ st) fun x st => liftO st (negD x)
  | .not a, ρ, st => bnd (evE a ρ st) fun x st => liftO st ((truth st x).map fun b => .bl (!b))
  | .cmp o a b, ρ, st => bnd (evE a ρ st) fun x st => bnd (evE b ρ st) fun y st => liftO st ((cmpD o st x y).map .bl)
  | .chn o p a b c, ρ, st => bnd (evE a ρ st) fun x st => bnd (evE b ρ st) fun y st => match cmpD o st x y with
    | some true => bnd (evE c ρ st) fun z st => liftO st ((cmpD p st y z).map .bl)
    | some false => some (.bl false, st)
    | none => none
  | .and a b, ρ, st => bnd (evE a ρ st) fun x st => match x with
    | .bl true => evE b ρ st
    | .bl false => some (.bl false, st)
    | _ => none
  | .or a b, ρ, st => bnd (evE a ρ st) fun x st => match x with
    | .bl true => some (.bl true, st)
    | .bl false => evE b ρ st
    | _ => none
  | .ite c a b, ρ, st => bnd (evE c ρ st) fun x st => match truth st x with
    | some true => evE a ρ st
    | some false => evE b ρ st
    | none => none
  | .call f es, ρ, st => bnd (evEs es ρ st) fun ds st => match cl f ds st with
    | some r => finV st r
    | none => none
  | .len a, ρ, st => bnd (evE a ρ st) fun x st => liftO st (lenD st x)
  | .intf a, ρ, st => bnd (evE a ρ st) fun x st => liftO st (intD x)
  | .isi t a, ρ, st => bnd (evE a ρ st) fun x st => liftO st ((isiD t x).map .bl)
  | .mx a b, ρ, st => bnd (evE a ρ st) fun x st => bnd (evE b ρ st) fun y st => liftO st (mxD x y)
  | .mn a b, ρ, st => bnd (evE a ρ st) fun x st => bnd (evE b ρ st) fun y st => liftO st (mnD x y)
  | .repr a, ρ, st => bnd (evE a ρ st) fun x st => liftO st (reprD st x)
  | .tupE a, ρ, st => bnd (evE a ρ st) fun x st => liftO st ((seqOf st x).map .tup)
  | .tupL l, ρ, st => bnd (evL l ρ st) fun xs st => some (.tup xs, st)
  | .tupR a, ρ, st => bnd (evE a ρ st) fun x st => match x with
    | .int n => if decide (n ≤ 1000000) && decide (-1000000 ≤ n) then some (.tup ((List.range n.toNat).map fun (i : Nat) => .int i), st) else none
    | _ => none
  | .allL l, ρ, st => bnd (evL l ρ st) fun xs st => match bools xs with
    | some bs => some (.bl (bs.all id), st)
    | none => none
  | .anyL l, ρ, st => bnd (evL l ρ st) fun xs st => match bools xs with
    | some bs => some (.bl (bs.any id), st)
    | none => none
  | .lenSet a, ρ, st => bnd (evE a ρ st) fun x st => match seqOf st x with
    | some xs => match asInts xs with
      | some is => some (.int (dedup is).length, st)
      | none => none
    | none => none
  | .minL l, ρ, st => bnd (evL l ρ st) fun xs st => liftO st (minT xs)
  | .idx a i, ρ, st => bnd (evE a ρ st) fun x st => bnd (evE i ρ st) fun y st => liftO st (idxD st x y)
  | .slice a lo hi, ρ, st => bnd (evE a ρ st) fun x st => bnd (evO lo ρ st) fun l st => bnd (evO hi ρ st) fun h st => liftO st (sliceD st x l h)
  | .rev a, ρ, st => bnd (evE a ρ st) fun x st => liftO st (revD st x)
  | .pop a, ρ, st => bnd (evE a ρ st) fun x st => match x with
    | .ref n => match st[n]? with
      | some (.lst xs) => match xs[xs.length - 1]? with
        | some y => some (y, st.set n (.lst xs.dropLast))
        | none => none
      | _ => none
    | _ => none
  | .popAt a i, ρ, st => bnd (evE a ρ st) fun x st => if isL st x then bnd (evE i ρ st) fun y st => popD st x y else none
  | .index a x, ρ, st => bnd (evE a ρ st) fun a st => if isT a then bnd (evE x ρ st) fun x st => liftO st (indexD a x) else none
  | .get2 a k d, ρ, st => bnd (evE a ρ st) fun a st => if isDc st a then bnd (evE k ρ st) fun k st => bnd (evE d ρ st) fun d st => getD2 st a k d else none
  | .dictOf a, ρ, st => bnd (evE a ρ st) fun a st => match lstOf st a with
    | some xs => match pairsOf xs with
      | some ps => if ps.all fun p => isKey p.1 then some (.ref st.length, st ++ [.dct (ps.foldl (fun kvs p => putKv p.1 p.2 kvs) [])]) else none
      | none => none
    | none => none
  | .frz l, ρ, st => bnd (evL l ρ st) fun xs st => some (.lst xs, st)
  | .new l, ρ, st => bnd (evL l ρ st) fun xs st => some (.ref st.length, st ++ [.lst xs])
def evEs : Es → Rho → St → R (List D)
  | .nil, _, st => some ([], st)
  | .cons e es, ρ, st => bnd (evE e ρ st) fun d st => bnd (evEs es ρ st) fun ds st => some (d :: ds, st)
def evO : OE → Rho → St → R (Option Int)
  | .none, _, st => some (none, st)
  | .some e, ρ, st => bnd (evE e ρ st) fun d st => match d with
    | .int i => some (some i, st)
    | _ => none
def evL : L → Rho → St → R (List D)
  | .disp es, ρ, st => evEs es ρ st
  | .comp gs, ρ, st => bnd (evGs gs ρ st) fun xs st => if decide (xs.length ≤ cap) then some (xs, st) else none
  | .ofE a, ρ, st => bnd (evE a ρ st) fun x st => liftO st (seqOf st x)
  | .ofR a, ρ, st => bnd (evE a ρ st) fun x st => match x with
    | .int n => if decide (n ≤ 1000000) && decide (-1000000 ≤ n) then some ((List.range n.toNat).map fun (i : Nat) => .int i, st) else none
    | _ => none
  | .add a b, ρ, st => bnd (evE a ρ st) fun x st => bnd (evE b ρ st) fun y st => liftO st (addL st x y)
  | .ite c a b, ρ, st => bnd (evE c ρ st) fun x st => match truth st x with
    | some true => evL a ρ st
    | some false => evL b ρ st
    | none => none
  | .slice a lo hi, ρ, st => bnd (evE a ρ st) fun x st => bnd (evO lo ρ st) fun l st => bnd (evO hi ρ st) fun h st => liftO st ((lstOf st x).map fun xs => cutD xs l h)
  | .rev a, ρ, st => bnd (evE a ρ st) fun x st => liftO st ((lstOf st x).map List.reverse)
  | .call f es, ρ, st => bnd (evEs es ρ st) fun ds st => match cl f ds st with
    | some r => finL st r
    | none => none
  | .srt a, ρ, st => bnd (evE a ρ st) fun x st => match x with
    | .tup xs => match asInts xs with
      | some is => some ((sortI is).map .int, st)
      | none => none
    | x => match lstOf st x with
      | some xs => liftO st (sortD xs)
      | none => none
  | .srtL l, ρ, st => bnd (evL l ρ st) fun xs st => liftO st (sortD xs)
  | .srtSet a, ρ, st => bnd (evE a ρ st) fun x st => match x with
    | .tup xs => if decide (xs.length < 64) then liftO st (sortSet xs) else none
    | _ => none
  | .srtSC gs, ρ, st => bnd (evGs gs ρ st) fun xs st => if decide (xs.length ≤ 1000) then liftO st (sortSet xs) else none
def evGs : Gs → Rho → St → R (List D)
  | .one g it ifs e, ρ, st => bnd (evIt it ρ st) fun p st => walkF p.2 (fun x st => match bindG g x (wipeR ρ g.slots) with
      | some ρ' => bnd (evTs ifs ρ' st) fun b st => if b then bnd (evE e ρ' st) fun d st => some ([d], st) else some ([], st)
      | none => none) p.1 st
  | .two g it ifs g2 it2 ifs2 e, ρ, st => bnd (evIt it ρ st) fun p st => walkF p.2 (fun x st => match bindG g x (wipeR ρ (g.slots ++ g2.slots)) with
      | some ρ' => bnd (evTs ifs ρ' st) fun b st => if b then bnd (evIt it2 ρ' st) fun q st => walkF q.2 (fun y st => match bindG g2 y (wipeR ρ' g2.slots) with
            | some ρ'' => bnd (evTs ifs2 ρ'' st) fun b st => if b then bnd (evE e ρ'' st) fun d st => some ([d], st) else some ([], st)
            | none => none) q.1 st
          else some ([], st)
      | none => none) p.1 st
def evTs : Es → Rho → St → R Bool
  | .nil, _, st => some (true, st)
  | .cons e es, ρ, st => bnd (evE e ρ st) fun x st => match truth st x with
    | some true => evTs es ρ st
    | some false => some (false, st)
    | none => none
def evIt : It → Rho → St → R (List D × Option (Nat × List D))
  | .seq a, ρ, st => bnd (evE a ρ st) fun x st => match seqOf st x with
    | some xs => some ((xs, srcOf st x), st)
    | none => none
  | .lis l, ρ, st => bnd (evL l ρ st) fun xs st => some ((xs, none), st)
  | .rng1 a, ρ, st => bnd (evE a ρ st) fun x st => match x with
    | .int n => if decide (n ≤ 1000000) && decide (-1000000 ≤ n) then some (((List.range n.toNat).map fun (i : Nat) => .int i, none), st) else none
    | _ => none
  | .rng2 a b, ρ, st => bnd (evE a ρ st) fun x st => bnd (evE b ρ st) fun y st => match x, y with
    | .int i, .int j => if decide (-1000000 ≤ i) && decide (i ≤ 1000000) && decide (-1000000 ≤ j) && decide (j ≤ 1000000) then some (((List.range (j - i).toNat).map fun (k : Nat) => .int (i + k), none), st) else none
    | _, _ => none
  | .enm a, ρ, st => bnd (evE a ρ st) fun x st => match x with
    | .tup xs => some (((List.range xs.length).zipWith (fun (i : Nat) x => .tup [.int i, x]) xs, none), st)
    | _ => none
end
def test (c : E) (ρ : Rho) (st : St) : R Bool := bnd (evE cl c ρ st) fun x st => liftO st (truth st x)
variable (W : Nat)
mutual
def evS : S → Rho → St → Option (Fl × Rho × St)
  | .asg g e, ρ, st => match evE cl e ρ st with
    | some (d, st) => match bindG g d ρ with
      | some ρ' => some (.next, ρ', st)
      | none => none
    | none => none
  | .par i j a b, ρ, st => match bnd (evE cl a ρ st) fun x st => bnd (evE cl b ρ st) fun y st => some ((x, y), st) with
    | some ((x, y), st) => if i < ρ.length && j < ρ.length && i != j then some (.next, (ρ.set i (some x)).set j (some y), st) else none
    | none => none
  | .setI a i e, ρ, st => match bnd (evE cl e ρ st) fun v st => bnd (evE cl a ρ st) fun x st => bnd (evE cl i ρ st) fun k st => liftO st ((setD st x k v).map fun s => (s : St)) with
    | some (st', _) => some (.next, ρ, st')
    | none => none
  | .app a e, ρ, st => match bnd (evE cl a ρ st) fun x st => if isL st x then bnd (evE cl e ρ st) fun v st => liftO st (appD st x v) else none with
    | some (st', _) => some (.next, ρ, st')
    | none => none
  | .ext a l, ρ, st => match bnd (evE cl a ρ st) fun x st => if isL st x then bnd (evL cl l ρ st) fun v st => liftO st (extD st x v) else none with
    | some (st', _) => some (.next, ρ, st')
    | none => none
  | .extE a e, ρ, st => match bnd (evE cl a ρ st) fun x st => if isL st x then bnd (evE cl e ρ st) fun v st => match lstOf st v with
        | some ys => liftO st (extD st x ys)
        | none => none
      else none with
    | some (st', _) => some (.next, ρ, st')
    | none => none
  | .ex e, ρ, st => match evE cl e ρ st with
    | some (_, st) => some (.next, ρ, st)
    | none => none
  | .ite c a b, ρ, st => match test cl c ρ st with
    | some (true, st) => evSs a ρ st
    | some (false, st) => evSs b ρ st
    | none => none
  | .forS g it b, ρ, st => match evIt cl it ρ st with
    | some ((xs, src), st) => forF src (fun x ρ st => match bindG g x ρ with
        | some ρ' => evSs b ρ' st
        | none => none) xs ρ st
    | none => none
  | .whl c b, ρ, st => whlF (test cl c) (evSs b) W ρ st
  | .ret e, ρ, st => match evE cl e ρ st with
    | some (d, st) => some (.ret d, ρ, st)
    | none => none
  | .retN, ρ, st => some (.ret .non, ρ, st)
  | .nev, _, _ => none
  | .brk, ρ, st => some (.brk, ρ, st)
  | .cont, ρ, st => some (.cont, ρ, st)
  | .pass, ρ, st => some (.next, ρ, st)
def evSs : Ss → Rho → St → Option (Fl × Rho × St)
  | .nil, ρ, st => some (.next, ρ, st)
  | .cons s ss, ρ, st => match evS s ρ st with
    | some (.next, ρ', st') => evSs ss ρ' st'
    | some (.ret d, ρ', st') => some (.ret d, ρ', st')
    | some (.brk, ρ', st') => some (.brk, ρ', st')
    | some (.cont, ρ', st') => some (.cont, ρ', st')
    | none => none
end
end
def runF (cl : Cl) (W : Nat) (fn : Fn) (args : List D) (st : St) : R D :=
  if args.length = fn.np then match evSs cl W fn.body (args.map some ++ List.replicate (fn.ns - fn.np) none) st with
    | some (.ret d, _, st') => some (d, st')
    | some (.next, _, st') => some (.non, st')
    | _ => none
  else none
def callR (tab : List Fn) (W : Nat) : Nat → Cl
  | 0, _, _, _ => none
  | k + 1, f, args, st => match tab[f]? with
    | some fn => runF (callR tab W k) W fn args st
    | none => none
end MM

end

section
set_option maxRecDepth 100000
set_option maxHeartbeats 4000000
/-! Mini machine: the table's entries. -/
namespace MM
open PySem PySem.Spec PyProof.Rows L2
def builtinNames : List Str := ["range", "len", "tuple", "list", "sorted", "set", "all", "any", "int", "isinstance", "max", "min", "repr", "dict", "enumerate", "bool", "str"]
/-- a def of the table -/
structure Ent where
  x : Str
  params : Arguments
  body : List Stmt
  scope : Scope
  N : List Str
  ps : List Str
  fn : Fn
def Ent.d (e : Ent) : He.DefD := ⟨(e.x, none), e.x, e.x, e.params, e.body, e.scope, [], []⟩
def faOf (es : List Ent) (gc : List (Str × Int)) : List He.Fa := (es.map fun e => .glo e.x) ++ ((builtinNames.map fun x => .free x) ++ gc.map fun p => .int p.1 p.2)
end MM

end

section
namespace K56
open MM
@[reducible] def i_is_whole_number : Nat := 0
@[reducible] def i_is_between : Nat := 1
@[reducible] def i_is_below : Nat := 2
@[reducible] def i_is_rising : Nat := 3
@[reducible] def i_is_scheme : Nat := 4
@[reducible] def i_has_size : Nat := 5
@[reducible] def i_first_wrong : Nat := 6
@[reducible] def i_made_book : Nat := 7
@[reducible] def i_is_book : Nat := 8
@[reducible] def i_columns_of : Nat := 9
@[reducible] def i_shared_of : Nat := 10
@[reducible] def i_are_neighbours : Nat := 11
@[reducible] def i_piece_with : Nat := 12
@[reducible] def i_pieces_of : Nat := 13
@[reducible] def i_hangs_of : Nat := 14
@[reducible] def i_every_source : Nat := 15
@[reducible] def i_want_joined : Nat := 16
@[reducible] def i_want_group_joined : Nat := 17
@[reducible] def i_made_joined : Nat := 18
@[reducible] def i_across_of : Nat := 19
@[reducible] def i_meet_of : Nat := 20
@[reducible] def i_is_good : Nat := 21
@[reducible] def i_is_leaf : Nat := 22
@[reducible] def i_has_form : Nat := 23
@[reducible] def i_row_of : Nat := 24
@[reducible] def i_first_twice : Nat := 25
@[reducible] def i_first_lacking : Nat := 26
@[reducible] def i_want_parts : Nat := 27
@[reducible] def i_want_part : Nat := 28
@[reducible] def i_want_plan : Nat := 29
@[reducible] def i_is_part_of : Nat := 30
@[reducible] def i_is_plan_of : Nat := 31
@[reducible] def i_leaves_of : Nat := 32
@[reducible] def i_forks_of : Nat := 33
@[reducible] def i_thirds_of : Nat := 34
@[reducible] def i_is_shown : Nat := 35
@[reducible] def i_thirds : Nat := 36
@[reducible] def i_shows : Nat := 37
@[reducible] def i_all_good : Nat := 38
@[reducible] def i_plan_right : Nat := 39
@[reducible] def i_is_whole_or_none : Nat := 40
@[reducible] def i_are_left_joined : Nat := 41
@[reducible] def i_pieces_without : Nat := 42
@[reducible] def i_least_pair : Nat := 43
@[reducible] def i_first_outside : Nat := 44
@[reducible] def i_ring_of_three : Nat := 45
@[reducible] def i_way_outside : Nat := 46
@[reducible] def i_ring_of_way : Nat := 47
@[reducible] def i_found_in : Nat := 48
@[reducible] def i_plan_within : Nat := 49
@[reducible] def i_any_plan : Nat := 50
@[reducible] def i_law_pool : Nat := 51
@[reducible] def i_law_take : Nat := 52
@[reducible] def i_law_one : Nat := 53
@[reducible] def i_law_mixed : Nat := 54
@[reducible] def i_law_rising : Nat := 55
@[reducible] def i_law_group_columns : Nat := 56
@[reducible] def i_law_common_columns : Nat := 57
@[reducible] def i_law_are_near : Nat := 58
@[reducible] def i_law_all_sources : Nat := 59
@[reducible] def i_law_scheme : Nat := 60
@[reducible] def i_law_hung_book : Nat := 61
@[reducible] def i_law_fellow_columns : Nat := 62
@[reducible] def i_law_same_columns : Nat := 63
@[reducible] def i_law_called : Nat := 64
@[reducible] def i_law_glued : Nat := 65
@[reducible] def i_law_ringless_book : Nat := 66
@[reducible] def i_law_ring_book : Nat := 67
@[reducible] def i_law_some_book : Nat := 68
@[reducible] def i_law_tree_leaves : Nat := 69
@[reducible] def i_law_tree_forks : Nat := 70
@[reducible] def i_law_drawn_tree : Nat := 71
@[reducible] def i_law_all_sides : Nat := 72
@[reducible] def i_law_all_trees : Nat := 73
@[reducible] def i_law_fork_across : Nat := 74
@[reducible] def i_law_all_across : Nat := 75
@[reducible] def i_law_fork_meet : Nat := 76
@[reducible] def i_law_fork_is_good : Nat := 77
@[reducible] def i_law_tree_is_right : Nat := 78
@[reducible] def i_law_thirds_of : Nat := 79
@[reducible] def i_law_least_part : Nat := 80
@[reducible] def i_law_tree_shows : Nat := 81
@[reducible] def i_law_joined_tree : Nat := 82
@[reducible] def i_law_tree_told_right : Nat := 83
@[reducible] def i_law : Nat := 84
/-- thing -/
def m_is_whole_number : Fn := ⟨1, 1, (.cons (.ret (.and (.isi .int (.var 0)) (.not (.isi .bool (.var 0)))))
    .nil)⟩
/-- thing, least, most -/
def m_is_between : Fn := ⟨3, 3, (.cons (.ret (.and (.call i_is_whole_number (.cons (.var 0) .nil)) (.chn .le .le (.var 1) (.var 0) (.var 2))))
    .nil)⟩
/-- thing, bound -/
def m_is_below : Fn := ⟨2, 2, (.cons (.ret (.call i_is_between (.cons (.var 0) (.cons (.con (.int 0)) (.cons (.bin .sub (.var 1) (.con (.int 1))) .nil)))))
    .nil)⟩
/-- thing, bound, one, at -/
def m_is_rising : Fn := ⟨2, 4, (.cons (.ite (.or (.not (.isi .tuple (.var 0))) (.not (.allL (.comp (.one (.nm 2) (.seq (.var 0)) .nil (.call i_is_below (.cons (.var 2) (.cons (.var 1) .nil)))))))) (.cons (.ret (.con (.bl false)))
    .nil) .nil)
    (.cons (.ret (.allL (.comp (.one (.nm 3) (.rng2 (.con (.int 1)) (.len (.var 0))) .nil (.cmp .lt (.idx (.var 0) (.bin .sub (.var 3) (.con (.int 1)))) (.idx (.var 0) (.var 3)))))))
    .nil))⟩
/-- thing -/
def m_is_scheme : Fn := ⟨1, 1, (.cons (.ret (.and (.call i_is_rising (.cons (.var 0) (.cons (.con (.int 24)) .nil))) (.chn .le .le (.con (.int 1)) (.len (.var 0)) (.con (.int 8)))))
    .nil)⟩
/-- thing -/
def m_has_size : Fn := ⟨1, 1, (.cons (.ret (.and (.isi .tuple (.var 0)) (.chn .le .le (.con (.int 1)) (.len (.var 0)) (.con (.int 12)))))
    .nil)⟩
/-- thing, index, scheme -/
def m_first_wrong : Fn := ⟨1, 3, (.cons (.forS (.tp (.cons (.nm 1) (.cons (.nm 2) .nil))) (.enm (.var 0)) (.cons (.ite (.not (.call i_is_scheme (.cons (.var 2) .nil))) (.cons (.ret (.var 1))
    .nil) .nil)
    .nil))
    (.cons (.ret (.con .non))
    .nil))⟩
/-- thing, index -/
def m_made_book : Fn := ⟨1, 2, (.cons (.ite (.not (.call i_has_size (.cons (.var 0) .nil))) (.cons .nev
    .nil) .nil)
    (.cons (.asg (.nm 1) (.call i_first_wrong (.cons (.var 0) .nil)))
    (.cons (.ite (.cmp .isnot (.var 1) (.con .non)) (.cons .nev
    .nil) .nil)
    (.cons (.ret (.var 0))
    .nil))))⟩
/-- thing -/
def m_is_book : Fn := ⟨1, 1, (.cons (.ret (.and (.call i_has_size (.cons (.var 0) .nil)) (.cmp .is (.call i_first_wrong (.cons (.var 0) .nil)) (.con .non))))
    .nil)⟩
/-- book, sources, source, column -/
def m_columns_of : Fn := ⟨2, 4, (.cons (.ret (.tupL (.srtSC (.two (.nm 2) (.seq (.var 1)) .nil (.nm 3) (.seq (.idx (.var 0) (.var 2))) .nil (.var 3)))))
    .nil)⟩
/-- book, i, j, column -/
def m_shared_of : Fn := ⟨3, 4, (.cons (.ret (.tupL (.comp (.one (.nm 3) (.seq (.idx (.var 0) (.var 1))) (.cons (.cmp .isin (.var 3) (.idx (.var 0) (.var 2))) .nil) (.var 3)))))
    .nil)⟩
/-- book, i, j -/
def m_are_neighbours : Fn := ⟨3, 3, (.cons (.ret (.and (.cmp .ne (.var 1) (.var 2)) (.cmp .ne (.call i_shared_of (.cons (.var 0) (.cons (.var 1) (.cons (.var 2) .nil)))) (.tup .nil))))
    .nil)⟩
/-- book, group, source, met, waiting, here, later, other -/
def m_piece_with : Fn := ⟨3, 8, (.cons (.asg (.nm 3) (.new (.disp (.cons (.var 2) .nil))))
    (.cons (.asg (.nm 4) (.new (.disp (.cons (.var 2) .nil))))
    (.cons (.whl (.cmp .ne (.var 4) (.frz (.disp .nil))) (.cons (.asg (.nm 5) (.pop (.var 4)))
    (.cons (.asg (.nm 6) (.frz (.comp (.one (.nm 7) (.seq (.var 1)) (.cons (.and (.cmp .notin (.var 7) (.var 3)) (.call i_are_neighbours (.cons (.var 0) (.cons (.var 5) (.cons (.var 7) .nil))))) .nil) (.var 7)))))
    (.cons (.extE (.var 3) (.var 6))
    (.cons (.extE (.var 4) (.var 6))
    .nil)))))
    (.cons (.ret (.tupL (.srt (.var 3))))
    .nil))))⟩
/-- book, group, found, source, piece -/
def m_pieces_of : Fn := ⟨2, 5, (.cons (.asg (.nm 2) (.new (.disp .nil)))
    (.cons (.forS (.nm 3) (.seq (.var 1)) (.cons (.ite (.not (.anyL (.comp (.one (.nm 4) (.seq (.var 2)) .nil (.cmp .isin (.var 3) (.var 4)))))) (.cons (.app (.var 2) (.call i_piece_with (.cons (.var 0) (.cons (.var 1) (.cons (.var 3) .nil)))))
    .nil) .nil)
    .nil))
    (.cons (.ret (.tupE (.var 2)))
    .nil)))⟩
/-- book, group -/
def m_hangs_of : Fn := ⟨2, 2, (.cons (.ret (.cmp .eq (.len (.call i_pieces_of (.cons (.var 0) (.cons (.var 1) .nil)))) (.con (.int 1))))
    .nil)⟩
/-- book -/
def m_every_source : Fn := ⟨1, 1, (.cons (.ret (.tupR (.len (.var 0))))
    .nil)⟩
/-- book -/
def m_want_joined : Fn := ⟨1, 1, (.cons (.ex (.call i_want_group_joined (.cons (.var 0) (.cons (.call i_every_source (.cons (.var 0) .nil)) .nil))))
    .nil)⟩
/-- book, group, found -/
def m_want_group_joined : Fn := ⟨2, 3, (.cons (.asg (.nm 2) (.call i_pieces_of (.cons (.var 0) (.cons (.var 1) .nil))))
    (.cons (.ite (.cmp .gt (.len (.var 2)) (.con (.int 1))) (.cons .nev
    .nil) .nil)
    .nil))⟩
/-- thing, book -/
def m_made_joined : Fn := ⟨1, 2, (.cons (.asg (.nm 1) (.call i_made_book (.cons (.var 0) .nil)))
    (.cons (.ex (.call i_want_joined (.cons (.var 1) .nil)))
    (.cons (.ret (.var 1))
    .nil)))⟩
/-- book, left, right, i, j -/
def m_across_of : Fn := ⟨3, 5, (.cons (.ret (.tupL (.comp (.two (.nm 3) (.seq (.var 1)) .nil (.nm 4) (.seq (.var 2)) (.cons (.call i_are_neighbours (.cons (.var 0) (.cons (.var 3) (.cons (.var 4) .nil)))) .nil) (.tup (.cons (.var 3) (.cons (.var 4) .nil)))))))
    .nil)⟩
/-- book, left, right, others, column -/
def m_meet_of : Fn := ⟨3, 5, (.cons (.asg (.nm 3) (.call i_columns_of (.cons (.var 0) (.cons (.var 2) .nil))))
    (.cons (.ret (.tupL (.comp (.one (.nm 4) (.seq (.call i_columns_of (.cons (.var 0) (.cons (.var 1) .nil)))) (.cons (.cmp .isin (.var 4) (.var 3)) .nil) (.var 4)))))
    .nil))⟩
/-- book, left, right, pairs, both, i, j -/
def m_is_good : Fn := ⟨3, 7, (.cons (.asg (.nm 3) (.call i_across_of (.cons (.var 0) (.cons (.var 1) (.cons (.var 2) .nil)))))
    (.cons (.asg (.nm 4) (.call i_meet_of (.cons (.var 0) (.cons (.var 1) (.cons (.var 2) .nil)))))
    (.cons (.ret (.and (.cmp .ne (.var 3) (.tup .nil)) (.allL (.comp (.one (.tp (.cons (.nm 5) (.cons (.nm 6) .nil))) (.seq (.var 3)) .nil (.cmp .eq (.call i_shared_of (.cons (.var 0) (.cons (.var 5) (.cons (.var 6) .nil)))) (.var 4)))))))
    .nil)))⟩
/-- plan -/
def m_is_leaf : Fn := ⟨1, 1, (.cons (.ret (.not (.isi .tuple (.var 0))))
    .nil)⟩
/-- thing, many, deep, side -/
def m_has_form : Fn := ⟨3, 4, (.cons (.ite (.not (.isi .tuple (.var 0))) (.cons (.ret (.call i_is_below (.cons (.var 0) (.cons (.var 1) .nil))))
    .nil) .nil)
    (.cons (.ret (.and (.cmp .eq (.len (.var 0)) (.con (.int 2))) (.and (.cmp .gt (.var 2) (.con (.int 0))) (.allL (.comp (.one (.nm 3) (.seq (.var 0)) .nil (.call i_has_form (.cons (.var 3) (.cons (.var 1) (.cons (.bin .sub (.var 2) (.con (.int 1))) .nil))))))))))
    .nil))⟩
/-- plan -/
def m_row_of : Fn := ⟨1, 1, (.cons (.ret (.ite (.call i_is_leaf (.cons (.var 0) .nil)) (.tup (.cons (.var 0) .nil)) (.bin .add (.call i_row_of (.cons (.idx (.var 0) (.con (.int 0))) .nil)) (.call i_row_of (.cons (.idx (.var 0) (.con (.int 1))) .nil)))))
    .nil)⟩
/-- row, at, source -/
def m_first_twice : Fn := ⟨1, 3, (.cons (.forS (.tp (.cons (.nm 1) (.cons (.nm 2) .nil))) (.enm (.var 0)) (.cons (.ite (.cmp .isin (.var 2) (.slice (.var 0) .none (.some (.var 1)))) (.cons (.ret (.var 2))
    .nil) .nil)
    .nil))
    (.cons (.ret (.con .non))
    .nil))⟩
/-- row, many, source -/
def m_first_lacking : Fn := ⟨2, 3, (.cons (.forS (.nm 2) (.rng1 (.var 1)) (.cons (.ite (.cmp .notin (.var 2) (.var 0)) (.cons (.ret (.var 2))
    .nil) .nil)
    .nil))
    (.cons (.ret (.con .non))
    .nil))⟩
/-- many, thing, twice -/
def m_want_parts : Fn := ⟨2, 3, (.cons (.ite (.not (.call i_has_form (.cons (.var 1) (.cons (.var 0) (.cons (.con (.int 11)) .nil))))) (.cons .nev
    .nil) .nil)
    (.cons (.asg (.nm 2) (.call i_first_twice (.cons (.call i_row_of (.cons (.var 1) .nil)) .nil)))
    (.cons (.ite (.cmp .isnot (.var 2) (.con .non)) (.cons .nev
    .nil) .nil)
    .nil)))⟩
/-- book, thing -/
def m_want_part : Fn := ⟨2, 2, (.cons (.ex (.call i_want_parts (.cons (.len (.var 0)) (.cons (.var 1) .nil))))
    .nil)⟩
/-- book, thing, lacking -/
def m_want_plan : Fn := ⟨2, 3, (.cons (.ex (.call i_want_part (.cons (.var 0) (.cons (.var 1) .nil))))
    (.cons (.asg (.nm 2) (.call i_first_lacking (.cons (.call i_row_of (.cons (.var 1) .nil)) (.cons (.len (.var 0)) .nil))))
    (.cons (.ite (.cmp .isnot (.var 2) (.con .non)) (.cons .nev
    .nil) .nil)
    .nil)))⟩
/-- many, thing -/
def m_is_part_of : Fn := ⟨2, 2, (.cons (.ret (.and (.call i_has_form (.cons (.var 1) (.cons (.var 0) (.cons (.con (.int 11)) .nil)))) (.cmp .is (.call i_first_twice (.cons (.call i_row_of (.cons (.var 1) .nil)) .nil)) (.con .non))))
    .nil)⟩
/-- book, thing -/
def m_is_plan_of : Fn := ⟨2, 2, (.cons (.ret (.and (.call i_is_part_of (.cons (.len (.var 0)) (.cons (.var 1) .nil))) (.cmp .is (.call i_first_lacking (.cons (.call i_row_of (.cons (.var 1) .nil)) (.cons (.len (.var 0)) .nil))) (.con .non))))
    .nil)⟩
/-- plan -/
def m_leaves_of : Fn := ⟨1, 1, (.cons (.ret (.tupL (.srt (.call i_row_of (.cons (.var 0) .nil)))))
    .nil)⟩
/-- plan, left, right -/
def m_forks_of : Fn := ⟨1, 3, (.cons (.ite (.call i_is_leaf (.cons (.var 0) .nil)) (.cons (.ret (.tup .nil))
    .nil) .nil)
    (.cons (.asg (.tp (.cons (.nm 1) (.cons (.nm 2) .nil))) (.var 0))
    (.cons (.ret (.bin .add (.bin .add (.call i_forks_of (.cons (.var 1) .nil)) (.call i_forks_of (.cons (.var 2) .nil))) (.tup (.cons (.tup (.cons (.call i_leaves_of (.cons (.var 1) .nil)) (.cons (.call i_leaves_of (.cons (.var 2) .nil)) .nil))) .nil))))
    .nil)))⟩
/-- book, found, p, q, common, r, scheme, had, column -/
def m_thirds_of : Fn := ⟨1, 9, (.cons (.asg (.nm 1) (.new (.disp .nil)))
    (.cons (.forS (.nm 2) (.rng1 (.len (.var 0))) (.cons (.forS (.nm 3) (.rng2 (.bin .add (.var 2) (.con (.int 1))) (.len (.var 0))) (.cons (.asg (.nm 4) (.call i_shared_of (.cons (.var 0) (.cons (.var 2) (.cons (.var 3) .nil)))))
    (.cons (.forS (.tp (.cons (.nm 5) (.cons (.nm 6) .nil))) (.enm (.var 0)) (.cons (.asg (.nm 7) (.len (.frz (.comp (.one (.nm 8) (.seq (.var 4)) (.cons (.cmp .isin (.var 8) (.var 6)) .nil) (.var 8))))))
    (.cons (.ite (.and (.cmp .ne (.var 5) (.var 2)) (.and (.cmp .ne (.var 5) (.var 3)) (.chn .lt .lt (.con (.int 0)) (.var 7) (.len (.var 4))))) (.cons (.app (.var 1) (.tup (.cons (.var 2) (.cons (.var 3) (.cons (.var 5) .nil)))))
    .nil) .nil)
    .nil)))
    .nil)))
    .nil))
    (.cons (.ret (.tupE (.var 1)))
    .nil)))⟩
/-- third, parts, p, q, r, part -/
def m_is_shown : Fn := ⟨2, 6, (.cons (.asg (.tp (.cons (.nm 2) (.cons (.nm 3) (.cons (.nm 4) .nil)))) (.var 0))
    (.cons (.forS (.nm 5) (.seq (.var 1)) (.cons (.ite (.and (.cmp .isin (.var 2) (.var 5)) (.cmp .isin (.var 3) (.var 5))) (.cons (.ret (.cmp .notin (.var 4) (.var 5)))
    .nil) .nil)
    .nil))
    (.cons (.ret (.con (.bl false)))
    .nil)))⟩
/-- book -/
def m_thirds : Fn := ⟨1, 1, (.cons (.ret (.call i_thirds_of (.cons (.call i_made_joined (.cons (.var 0) .nil)) .nil)))
    .nil)⟩
/-- book, plan, parts, left, right, third -/
def m_shows : Fn := ⟨2, 6, (.cons (.asg (.nm 0) (.call i_made_joined (.cons (.var 0) .nil)))
    (.cons (.ex (.call i_want_plan (.cons (.var 0) (.cons (.var 1) .nil))))
    (.cons (.asg (.nm 2) (.frz (.comp (.one (.tp (.cons (.nm 3) (.cons (.nm 4) .nil))) (.seq (.call i_forks_of (.cons (.var 1) .nil))) .nil (.bin .add (.var 3) (.var 4))))))
    (.cons (.ret (.allL (.comp (.one (.nm 5) (.seq (.call i_thirds_of (.cons (.var 0) .nil))) .nil (.call i_is_shown (.cons (.var 5) (.cons (.var 2) .nil)))))))
    .nil))))⟩
/-- book, plan, left, right -/
def m_all_good : Fn := ⟨2, 4, (.cons (.ret (.allL (.comp (.one (.tp (.cons (.nm 2) (.cons (.nm 3) .nil))) (.seq (.call i_forks_of (.cons (.var 1) .nil))) .nil (.call i_is_good (.cons (.var 0) (.cons (.var 2) (.cons (.var 3) .nil))))))))
    .nil)⟩
/-- book, plan -/
def m_plan_right : Fn := ⟨2, 2, (.cons (.ite (.or (.not (.call i_is_book (.cons (.var 0) .nil))) (.or (.not (.call i_hangs_of (.cons (.var 0) (.cons (.call i_every_source (.cons (.var 0) .nil)) .nil)))) (.not (.call i_is_plan_of (.cons (.var 0) (.cons (.var 1) .nil)))))) (.cons (.ret (.con (.bl false)))
    .nil) .nil)
    (.cons (.ret (.call i_all_good (.cons (.var 0) (.cons (.var 1) .nil))))
    .nil))⟩
/-- book, source, struck, had, column -/
def m_is_whole_or_none : Fn := ⟨3, 5, (.cons (.asg (.nm 3) (.frz (.comp (.one (.nm 4) (.seq (.var 2)) (.cons (.cmp .isin (.var 4) (.idx (.var 0) (.var 1))) .nil) (.var 4)))))
    (.cons (.ret (.or (.cmp .eq (.var 3) (.frz (.disp .nil))) (.cmp .eq (.len (.var 3)) (.len (.var 2)))))
    .nil))⟩
/-- book, i, j, struck, column -/
def m_are_left_joined : Fn := ⟨4, 5, (.cons (.ret (.anyL (.comp (.one (.nm 4) (.seq (.call i_shared_of (.cons (.var 0) (.cons (.var 1) (.cons (.var 2) .nil))))) .nil (.cmp .notin (.var 4) (.var 3))))))
    .nil)⟩
/-- book, group, struck, found, left, piece, at, near, source -/
def m_pieces_without : Fn := ⟨3, 9, (.cons (.asg (.nm 3) (.new (.disp .nil)))
    (.cons (.asg (.nm 4) (.new (.ofE (.var 1))))
    (.cons (.whl (.cmp .ne (.var 4) (.frz (.disp .nil))) (.cons (.asg (.nm 5) (.frz (.disp (.cons (.popAt (.var 4) (.con (.int 0))) .nil))))
    (.cons (.asg (.nm 6) (.con (.int 0)))
    (.cons (.whl (.cmp .lt (.var 6) (.len (.var 5))) (.cons (.asg (.nm 7) (.frz (.comp (.one (.nm 8) (.seq (.var 4)) (.cons (.call i_are_left_joined (.cons (.var 0) (.cons (.idx (.var 5) (.var 6)) (.cons (.var 8) (.cons (.var 2) .nil))))) .nil) (.var 8)))))
    (.cons (.asg (.nm 4) (.new (.comp (.one (.nm 8) (.seq (.var 4)) (.cons (.cmp .notin (.var 8) (.var 7)) .nil) (.var 8)))))
    (.cons (.asg (.nm 5) (.bin .add (.var 5) (.var 7)))
    (.cons (.asg (.nm 6) (.bin .add (.var 6) (.con (.int 1))))
    .nil)))))
    (.cons (.app (.var 3) (.tupL (.srt (.var 5))))
    .nil)))))
    (.cons (.ret (.var 3))
    .nil))))⟩
/-- book, group, pairs, i, j -/
def m_least_pair : Fn := ⟨2, 5, (.cons (.asg (.nm 2) (.frz (.comp (.two (.nm 3) (.seq (.var 1)) .nil (.nm 4) (.seq (.var 1)) (.cons (.and (.cmp .lt (.var 3) (.var 4)) (.call i_are_neighbours (.cons (.var 0) (.cons (.var 3) (.cons (.var 4) .nil))))) .nil) (.tup (.cons (.var 3) (.cons (.var 4) .nil)))))))
    (.cons (.ret (.slice (.minL (.comp (.one (.tp (.cons (.nm 3) (.cons (.nm 4) .nil))) (.seq (.var 2)) .nil (.tup (.cons (.len (.call i_shared_of (.cons (.var 0) (.cons (.var 3) (.cons (.var 4) .nil))))) (.cons (.var 3) (.cons (.var 4) .nil))))))) (.some (.con (.int 1))) .none))
    .nil))⟩
/-- columns, others, column -/
def m_first_outside : Fn := ⟨2, 3, (.cons (.ret (.idx (.frz (.comp (.one (.nm 2) (.seq (.var 0)) (.cons (.cmp .notin (.var 2) (.var 1)) .nil) (.var 2)))) (.con (.int 0))))
    .nil)⟩
/-- book, s, t, r, both, xs -/
def m_ring_of_three : Fn := ⟨4, 6, (.cons (.asg (.nm 4) (.call i_shared_of (.cons (.var 0) (.cons (.var 1) (.cons (.var 2) .nil)))))
    (.cons (.asg (.nm 5) (.tup (.cons (.call i_first_outside (.cons (.var 4) (.cons (.idx (.var 0) (.var 3)) .nil))) (.cons (.call i_first_outside (.cons (.call i_shared_of (.cons (.var 0) (.cons (.var 2) (.cons (.var 3) .nil)))) (.cons (.var 4) .nil))) (.cons (.call i_first_outside (.cons (.call i_shared_of (.cons (.var 0) (.cons (.var 3) (.cons (.var 1) .nil)))) (.cons (.var 4) .nil))) .nil)))))
    (.cons (.ret (.tup (.cons (.tup (.cons (.var 1) (.cons (.var 2) (.cons (.var 3) .nil)))) (.cons (.var 5) .nil))))
    .nil)))⟩
/-- book, group, s, t, struck, ways, waiting, later, here, other, column -/
def m_way_outside : Fn := ⟨5, 11, (.cons .nev
    (.cons (.asg (.nm 6) (.frz (.disp (.cons (.var 2) .nil))))
    (.cons (.whl (.cmp .notin (.var 3) (.var 5)) (.cons (.asg (.nm 7) (.new (.disp .nil)))
    (.cons (.forS (.nm 8) (.seq (.var 6)) (.cons (.forS (.nm 9) (.seq (.var 1)) (.cons (.ite (.and (.cmp .notin (.var 9) (.var 5)) (.anyL (.comp (.one (.nm 10) (.seq (.call i_shared_of (.cons (.var 0) (.cons (.var 8) (.cons (.var 9) .nil))))) .nil (.cmp .notin (.var 10) (.var 4)))))) (.cons (.setI (.var 5) (.var 9) (.bin .add (.idx (.var 5) (.var 8)) (.tup (.cons (.var 9) .nil))))
    (.cons (.app (.var 7) (.var 9))
    .nil)) .nil)
    .nil))
    .nil))
    (.cons (.asg (.nm 6) (.var 7))
    .nil))))
    (.cons (.ret (.idx (.var 5) (.var 3)))
    .nil))))⟩
/-- book, group, s, t, both, way, links, one, two -/
def m_ring_of_way : Fn := ⟨4, 9, (.cons (.asg (.nm 4) (.call i_shared_of (.cons (.var 0) (.cons (.var 2) (.cons (.var 3) .nil)))))
    (.cons (.asg (.nm 5) (.call i_way_outside (.cons (.var 0) (.cons (.var 1) (.cons (.var 2) (.cons (.var 3) (.cons (.var 4) .nil)))))))
    (.cons .nev
    (.cons (.ret (.tup (.cons (.var 5) (.cons (.bin .add (.tupE (.var 6)) (.tup (.cons (.idx (.var 4) (.con (.int 0))) .nil))) .nil))))
    .nil))))⟩
/-- book, group, s, t, both, partly, source, pieces, rest, piece, sides, rings, side -/
def m_found_in : Fn := ⟨2, 13, (.cons (.ite (.cmp .eq (.len (.var 1)) (.con (.int 1))) (.cons (.ret (.tup (.cons (.con (.str "plan")) (.cons (.idx (.var 1) (.con (.int 0))) .nil))))
    .nil) .nil)
    (.cons (.asg (.tp (.cons (.nm 2) (.cons (.nm 3) .nil))) (.call i_least_pair (.cons (.var 0) (.cons (.var 1) .nil))))
    (.cons (.asg (.nm 4) (.call i_shared_of (.cons (.var 0) (.cons (.var 2) (.cons (.var 3) .nil)))))
    (.cons (.asg (.nm 5) (.frz (.comp (.one (.nm 6) (.seq (.var 1)) (.cons (.not (.call i_is_whole_or_none (.cons (.var 0) (.cons (.var 6) (.cons (.var 4) .nil))))) .nil) (.var 6)))))
    (.cons (.ite (.cmp .ne (.var 5) (.frz (.disp .nil))) (.cons (.ret (.tup (.cons (.con (.str "ring")) (.cons (.call i_ring_of_three (.cons (.var 0) (.cons (.var 2) (.cons (.var 3) (.cons (.idx (.var 5) (.con (.int 0))) .nil))))) .nil))))
    .nil) .nil)
    (.cons (.asg (.nm 7) (.call i_pieces_without (.cons (.var 0) (.cons (.var 1) (.cons (.var 4) .nil)))))
    (.cons (.ite (.cmp .eq (.len (.var 7)) (.con (.int 1))) (.cons (.ret (.tup (.cons (.con (.str "ring")) (.cons (.call i_ring_of_way (.cons (.var 0) (.cons (.var 1) (.cons (.var 2) (.cons (.var 3) .nil))))) .nil))))
    .nil) .nil)
    (.cons (.asg (.nm 8) (.tupL (.srtL (.comp (.two (.nm 9) (.seq (.slice (.var 7) (.some (.con (.int 1))) .none)) .nil (.nm 6) (.seq (.var 9)) .nil (.var 6))))))
    (.cons (.asg (.nm 10) (.frz (.disp (.cons (.call i_found_in (.cons (.var 0) (.cons (.idx (.var 7) (.con (.int 0))) .nil))) (.cons (.call i_found_in (.cons (.var 0) (.cons (.var 8) .nil))) .nil)))))
    (.cons (.asg (.nm 11) (.frz (.comp (.one (.nm 12) (.seq (.var 10)) (.cons (.cmp .eq (.idx (.var 12) (.con (.int 0))) (.con (.str "ring"))) .nil) (.var 12)))))
    (.cons (.ret (.ite (.cmp .ne (.var 11) (.frz (.disp .nil))) (.idx (.var 11) (.con (.int 0))) (.tup (.cons (.con (.str "plan")) (.cons (.tup (.cons (.idx (.idx (.var 10) (.con (.int 0))) (.con (.int 1))) (.cons (.idx (.idx (.var 10) (.con (.int 1))) (.con (.int 1))) .nil))) .nil)))))
    .nil)))))))))))⟩
/-- book, group, word, told -/
def m_plan_within : Fn := ⟨2, 4, (.cons (.asg (.tp (.cons (.nm 2) (.cons (.nm 3) .nil))) (.call i_found_in (.cons (.var 0) (.cons (.var 1) .nil))))
    (.cons (.ret (.ite (.cmp .eq (.var 2) (.con (.str "plan"))) (.var 3) (.con .non)))
    .nil))⟩
/-- book -/
def m_any_plan : Fn := ⟨1, 1, (.cons (.asg (.nm 0) (.call i_made_joined (.cons (.var 0) .nil)))
    (.cons (.ret (.and (.not (.call i_thirds_of (.cons (.var 0) .nil))) (.cmp .isnot (.call i_plan_within (.cons (.var 0) (.cons (.call i_every_source (.cons (.var 0) .nil)) .nil))) (.con .non))))
    .nil))⟩
/-- _law_script, _law_k, _law_cell, _law_big, _law_mixed_here -/
def m_law_pool : Fn := ⟨2, 5, (.cons (.asg (.nm 2) (.con (.int 0)))
    (.cons (.ite (.cmp .lt (.var 1) (.len (.var 0))) (.cons (.asg (.nm 2) (.idx (.var 0) (.var 1)))
    .nil) (.cons (.ite (.cmp .ne (.var 0) (.frz (.disp .nil))) (.cons (.asg (.nm 2) (.idx (.var 0) (.con (.int 0))))
    .nil) .nil)
    .nil))
    (.cons (.asg (.nm 3) (.mx (.intf (.var 2)) (.intf (.bin .sub (.neg (.con (.int 1))) (.var 2)))))
    (.cons (.asg (.nm 4) (.bin .mod (.intf (.bin .mul (.bin .add (.bin .add (.bin .add (.bin .mod (.intf (.var 3)) (.con (.int 2147483629))) (.bin .mul (.bin .mul (.con (.int 7919)) (.var 1)) (.var 1))) (.bin .mul (.con (.int 31)) (.var 1))) (.con (.int 17))) (.con (.int 48271)))) (.con (.int 2147483647))))
    (.cons (.ret (.new (.disp (.cons (.bin .mul (.var 3) (.intf (.and (.cmp .ge (.var 3) (.bin .pow (.con (.int 10)) (.con (.int 18)))) (.cmp .lt (.var 1) (.len (.var 0)))))) (.cons (.var 4) .nil)))))
    .nil)))))⟩
/-- _law_jar, _law_top, _law_drawn -/
def m_law_take : Fn := ⟨2, 3, (.cons (.ite (.cmp .gt (.idx (.var 0) (.con (.int 0))) (.con (.int 0))) (.cons (.asg (.nm 2) (.bin .mod (.intf (.idx (.var 0) (.con (.int 0)))) (.var 1)))
    (.cons (.setI (.var 0) (.con (.int 0)) (.bin .fdiv (.idx (.var 0) (.con (.int 0))) (.var 1)))
    (.cons (.ret (.var 2))
    .nil))) .nil)
    (.cons (.setI (.var 0) (.con (.int 1)) (.bin .mod (.intf (.bin .add (.bin .mul (.idx (.var 0) (.con (.int 1))) (.con (.int 39373))) (.con (.int 7)))) (.con (.int 2147483647))))
    (.cons (.ret (.bin .mod (.intf (.bin .fdiv (.bin .mod (.intf (.bin .mul (.idx (.var 0) (.con (.int 1))) (.idx (.var 0) (.con (.int 1))))) (.con (.int 2147483629))) (.con (.int 32)))) (.var 1)))
    .nil)))⟩
/-- _law_jar, _law_things -/
def m_law_one : Fn := ⟨2, 2, (.cons (.ret (.idx (.var 1) (.call i_law_take (.cons (.var 0) (.cons (.len (.var 1)) .nil)))))
    .nil)⟩
/-- _law_jar, _law_things, _law_left_over, _law_found, _law_place -/
def m_law_mixed : Fn := ⟨2, 5, (.cons (.par 2 3 (.new (.ofE (.var 1))) (.new (.disp .nil)))
    (.cons (.forS (.nm 4) (.rng1 (.len (.var 1))) (.cons (.app (.var 3) (.popAt (.var 2) (.call i_law_take (.cons (.var 0) (.cons (.len (.var 2)) .nil)))))
    .nil))
    (.cons (.ret (.var 3))
    .nil)))⟩
/-- _law_lists, _law_found, _law_one_here, _law_thing -/
def m_law_rising : Fn := ⟨1, 4, (.cons (.asg (.nm 1) (.new (.disp .nil)))
    (.cons (.forS (.nm 2) (.seq (.var 0)) (.cons (.ext (.var 1) (.comp (.one (.nm 3) (.seq (.var 2)) (.cons (.cmp .notin (.var 3) (.var 1)) .nil) (.var 3))))
    .nil))
    (.cons (.ret (.tupL (.srt (.var 1))))
    .nil)))⟩
/-- _law_book, _law_lot, _law_i -/
def m_law_group_columns : Fn := ⟨2, 3, (.cons (.ret (.call i_law_rising (.cons (.frz (.comp (.one (.nm 2) (.seq (.var 1)) .nil (.idx (.var 0) (.var 2))))) .nil)))
    .nil)⟩
/-- _law_book, _law_i, _law_j, _law_c -/
def m_law_common_columns : Fn := ⟨3, 4, (.cons (.ret (.tupL (.comp (.one (.nm 3) (.seq (.idx (.var 0) (.var 1))) (.cons (.cmp .isin (.var 3) (.idx (.var 0) (.var 2))) .nil) (.var 3)))))
    .nil)⟩
/-- _law_book, _law_i, _law_j -/
def m_law_are_near : Fn := ⟨3, 3, (.cons (.ret (.and (.cmp .ne (.var 1) (.var 2)) (.cmp .ne (.call i_law_common_columns (.cons (.var 0) (.cons (.var 1) (.cons (.var 2) .nil)))) (.tup .nil))))
    .nil)⟩
/-- _law_book, _law_i -/
def m_law_all_sources : Fn := ⟨1, 2, (.cons (.ret (.tupL (.comp (.one (.nm 1) (.rng1 (.len (.var 0))) .nil (.var 1)))))
    .nil)⟩
/-- _law_jar, _law_wide, _law_most, _law_lot, _law_c -/
def m_law_scheme : Fn := ⟨3, 5, (.cons (.asg (.nm 3) (.slice (.call i_law_mixed (.cons (.var 0) (.cons (.frz (.comp (.one (.nm 4) (.rng1 (.var 1)) .nil (.var 4)))) .nil))) .none (.some (.bin .add (.con (.int 1)) (.call i_law_take (.cons (.var 0) (.cons (.var 2) .nil)))))))
    (.cons (.ret (.tupL (.srt (.var 3))))
    .nil))⟩
/-- _law_jar, _law_most, _law_wide, _law_found, _law_i, _law_link -/
def m_law_hung_book : Fn := ⟨3, 6, (.cons (.asg (.nm 3) (.new (.disp (.cons (.call i_law_scheme (.cons (.var 0) (.cons (.var 2) (.cons (.con (.int 3)) .nil)))) .nil))))
    (.cons (.forS (.nm 4) (.rng1 (.call i_law_take (.cons (.var 0) (.cons (.var 1) .nil)))) (.cons (.asg (.nm 5) (.call i_law_one (.cons (.var 0) (.cons (.call i_law_one (.cons (.var 0) (.cons (.var 3) .nil))) .nil))))
    (.cons (.app (.var 3) (.call i_law_rising (.cons (.frz (.disp (.cons (.frz (.disp (.cons (.var 5) .nil))) (.cons (.call i_law_scheme (.cons (.var 0) (.cons (.var 2) (.cons (.con (.int 2)) .nil)))) .nil)))) .nil)))
    .nil)))
    (.cons (.ret (.tupE (.var 3)))
    .nil)))⟩
/-- _law_book, _law_i, _law_j, _law_c -/
def m_law_fellow_columns : Fn := ⟨2, 4, (.cons (.ret (.new (.comp (.one (.nm 3) (.seq (.idx (.var 0) (.var 1))) .nil (.tup (.cons (.var 3) (.cons (.tupL (.comp (.one (.nm 2) (.rng1 (.len (.var 0))) (.cons (.cmp .isin (.var 3) (.idx (.var 0) (.var 2))) .nil) (.var 2)))) .nil)))))))
    .nil)⟩
/-- _law_jar, _law_book, _law_rows, _law_drawn, _law_lot, _law_row -/
def m_law_same_columns : Fn := ⟨2, 6, (.cons (.asg (.nm 2) (.call i_law_fellow_columns (.cons (.var 1) (.cons (.call i_law_take (.cons (.var 0) (.cons (.len (.var 1)) .nil))) .nil))))
    (.cons (.asg (.nm 3) (.call i_law_one (.cons (.var 0) (.cons (.var 2) .nil))))
    (.cons (.asg (.nm 4) (.call i_law_mixed (.cons (.var 0) (.cons (.frz (.comp (.one (.nm 5) (.seq (.var 2)) (.cons (.cmp .eq (.idx (.var 5) (.con (.int 1))) (.idx (.var 3) (.con (.int 1)))) .nil) (.idx (.var 5) (.con (.int 0)))))) .nil))))
    (.cons (.ret (.slice (.var 4) .none (.some (.bin .add (.con (.int 1)) (.call i_law_take (.cons (.var 0) (.cons (.len (.var 4)) .nil)))))))
    .nil))))⟩
/-- _law_book, _law_pairs, _law_calls, _law_c, _law_scheme_here -/
def m_law_called : Fn := ⟨2, 5, (.cons (.asg (.nm 2) (.dictOf (.var 1)))
    (.cons (.ret (.new (.comp (.one (.nm 4) (.seq (.var 0)) .nil (.tupL (.srtL (.comp (.one (.nm 3) (.seq (.var 4)) .nil (.get2 (.var 2) (.var 3) (.var 3))))))))))
    .nil))⟩
/-- _law_jar, _law_size, _law_begin, _law_wide, _law_c, _law_low, _law_one_here, _law_later, _law_two, _law_end, _law_first, _law_second, _law_k -/
def m_law_glued : Fn := ⟨3, 13, (.cons (.ite (.cmp .eq (.var 1) (.con (.int 1))) (.cons (.asg (.nm 3) (.bin .add (.con (.int 1)) (.call i_law_take (.cons (.var 0) (.cons (.con (.int 3)) .nil)))))
    (.cons (.ret (.tup (.cons (.frz (.disp (.cons (.tupL (.comp (.one (.nm 4) (.rng1 (.var 3)) .nil (.bin .add (.var 2) (.var 4))))) .nil))) (.cons (.bin .add (.var 2) (.var 3)) .nil))))
    .nil)) .nil)
    (.cons (.asg (.nm 5) (.bin .add (.con (.int 1)) (.call i_law_take (.cons (.var 0) (.cons (.bin .sub (.var 1) (.con (.int 1))) .nil)))))
    (.cons (.asg (.tp (.cons (.nm 6) (.cons (.nm 7) .nil))) (.call i_law_glued (.cons (.var 0) (.cons (.var 5) (.cons (.var 2) .nil)))))
    (.cons (.asg (.tp (.cons (.nm 8) (.cons (.nm 9) .nil))) (.call i_law_glued (.cons (.var 0) (.cons (.bin .sub (.var 1) (.var 5)) (.cons (.var 7) .nil)))))
    (.cons (.par 10 11 (.call i_law_same_columns (.cons (.var 0) (.cons (.var 6) .nil))) (.call i_law_same_columns (.cons (.var 0) (.cons (.var 8) .nil))))
    (.cons (.asg (.nm 3) (.mn (.len (.var 10)) (.len (.var 11))))
    (.cons (.ret (.tup (.cons (.bin .add (.var 6) (.call i_law_called (.cons (.var 8) (.cons (.frz (.comp (.one (.nm 12) (.rng1 (.var 3)) .nil (.tup (.cons (.idx (.var 11) (.var 12)) (.cons (.idx (.var 10) (.var 12)) .nil)))))) .nil)))) (.cons (.var 9) .nil))))
    .nil)))))))⟩
/-- _law_jar, _law_most, _law_schemes, _law_end, _law_ids, _law_c, _law_found, _law_scheme_here -/
def m_law_ringless_book : Fn := ⟨2, 8, (.cons (.asg (.tp (.cons (.nm 2) (.cons (.nm 3) .nil))) (.call i_law_glued (.cons (.var 0) (.cons (.bin .add (.con (.int 1)) (.call i_law_take (.cons (.var 0) (.cons (.var 1) .nil)))) (.cons (.con (.int 0)) .nil)))))
    (.cons (.asg (.nm 4) (.call i_law_mixed (.cons (.var 0) (.cons (.frz (.comp (.one (.nm 5) (.rng1 (.con (.int 24))) .nil (.var 5)))) .nil))))
    (.cons (.asg (.nm 6) (.frz (.comp (.one (.nm 7) (.seq (.var 2)) .nil (.tupL (.srtL (.comp (.one (.nm 5) (.seq (.var 7)) .nil (.idx (.var 4) (.var 5))))))))))
    (.cons (.ret (.tupE (.call i_law_mixed (.cons (.var 0) (.cons (.var 6) .nil)))))
    .nil))))⟩
/-- _law_jar, _law_most, _law_size, _law_ids, _law_c, _law_found, _law_i, _law_row -/
def m_law_ring_book : Fn := ⟨2, 8, (.cons (.asg (.nm 2) (.bin .add (.con (.int 3)) (.call i_law_take (.cons (.var 0) (.cons (.bin .sub (.var 1) (.con (.int 2))) .nil)))))
    (.cons (.asg (.nm 3) (.call i_law_mixed (.cons (.var 0) (.cons (.frz (.comp (.one (.nm 4) (.rng1 (.con (.int 24))) .nil (.var 4)))) .nil))))
    (.cons (.asg (.nm 5) (.new (.comp (.one (.nm 6) (.rng1 (.var 2)) .nil (.new (.disp (.cons (.idx (.var 3) (.var 6)) (.cons (.idx (.var 3) (.bin .mod (.intf (.bin .sub (.var 6) (.con (.int 1)))) (.var 2))) .nil))))))))
    (.cons (.forS (.nm 6) (.rng1 (.var 2)) (.cons (.asg (.nm 7) (.idx (.var 5) (.var 6)))
    (.cons (.ext (.var 7) (.ite (.cmp .eq (.call i_law_take (.cons (.var 0) (.cons (.con (.int 3)) .nil))) (.con (.int 0))) (.disp (.cons (.idx (.var 3) (.bin .sub (.var 2) (.con (.int 1)))) .nil)) (.disp .nil)))
    (.cons (.ext (.var 7) (.ite (.cmp .eq (.call i_law_take (.cons (.var 0) (.cons (.con (.int 3)) .nil))) (.con (.int 0))) (.disp (.cons (.idx (.var 3) (.bin .add (.var 2) (.var 6))) .nil)) (.disp .nil)))
    .nil))))
    (.cons (.ite (.cmp .eq (.call i_law_take (.cons (.var 0) (.cons (.con (.int 2)) .nil))) (.con (.int 0))) (.cons (.app (.var 5) (.new (.disp (.cons (.call i_law_one (.cons (.var 0) (.cons (.slice (.var 3) .none (.some (.var 2))) .nil))) (.cons (.idx (.var 3) (.con (.int 23))) .nil)))))
    .nil) .nil)
    (.cons (.ret (.tupL (.comp (.one (.nm 7) (.seq (.call i_law_mixed (.cons (.var 0) (.cons (.var 5) .nil)))) .nil (.call i_law_rising (.cons (.frz (.comp (.one (.nm 4) (.seq (.var 7)) .nil (.frz (.disp (.cons (.var 4) .nil)))))) .nil))))))
    .nil))))))⟩
/-- _law_jar, _law_most, _law_drawn -/
def m_law_some_book : Fn := ⟨2, 3, (.cons (.asg (.nm 2) (.call i_law_take (.cons (.var 0) (.cons (.con (.int 4)) .nil))))
    (.cons (.ite (.cmp .lt (.var 2) (.con (.int 2))) (.cons (.ret (.call i_law_ringless_book (.cons (.var 0) (.cons (.var 1) .nil))))
    .nil) .nil)
    (.cons (.ret (.ite (.cmp .eq (.var 2) (.con (.int 2))) (.call i_law_ring_book (.cons (.var 0) (.cons (.mx (.con (.int 3)) (.bin .sub (.var 1) (.con (.int 1)))) .nil))) (.call i_law_hung_book (.cons (.var 0) (.cons (.var 1) (.cons (.con (.int 6)) .nil))))))
    .nil)))⟩
/-- _law_tree -/
def m_law_tree_leaves : Fn := ⟨1, 1, (.cons (.ite (.isi .int (.var 0)) (.cons (.ret (.tup (.cons (.var 0) .nil)))
    .nil) .nil)
    (.cons (.ret (.tupL (.srt (.bin .add (.call i_law_tree_leaves (.cons (.idx (.var 0) (.con (.int 0))) .nil)) (.call i_law_tree_leaves (.cons (.idx (.var 0) (.con (.int 1))) .nil))))))
    .nil))⟩
/-- _law_tree, _law_own -/
def m_law_tree_forks : Fn := ⟨1, 2, (.cons (.ite (.isi .int (.var 0)) (.cons (.ret (.new (.disp .nil)))
    .nil) .nil)
    (.cons (.asg (.nm 1) (.tup (.cons (.call i_law_tree_leaves (.cons (.idx (.var 0) (.con (.int 0))) .nil)) (.cons (.call i_law_tree_leaves (.cons (.idx (.var 0) (.con (.int 1))) .nil)) .nil))))
    (.cons (.ret (.bin .add (.bin .add (.call i_law_tree_forks (.cons (.idx (.var 0) (.con (.int 0))) .nil)) (.call i_law_tree_forks (.cons (.idx (.var 0) (.con (.int 1))) .nil))) (.frz (.disp (.cons (.var 1) .nil)))))
    .nil)))⟩
/-- _law_jar, _law_group, _law_trees, _law_one_here, _law_two -/
def m_law_drawn_tree : Fn := ⟨2, 5, (.cons (.asg (.nm 2) (.new (.call i_law_mixed (.cons (.var 0) (.cons (.frz (.ofE (.var 1))) .nil)))))
    (.cons (.whl (.cmp .gt (.len (.var 2)) (.con (.int 1))) (.cons (.asg (.nm 3) (.popAt (.var 2) (.call i_law_take (.cons (.var 0) (.cons (.len (.var 2)) .nil)))))
    (.cons (.asg (.nm 4) (.popAt (.var 2) (.call i_law_take (.cons (.var 0) (.cons (.len (.var 2)) .nil)))))
    (.cons (.app (.var 2) (.tup (.cons (.var 3) (.cons (.var 4) .nil))))
    .nil))))
    (.cons (.ret (.idx (.var 2) (.con (.int 0))))
    .nil)))⟩
/-- _law_group, _law_found, _law_one_here, _law_lot, _law_sides -/
def m_law_all_sides : Fn := ⟨1, 5, (.cons (.asg (.nm 1) (.frz (.disp (.cons (.tup .nil) .nil))))
    (.cons (.forS (.nm 2) (.seq (.slice (.var 0) (.some (.con (.int 1))) .none)) (.cons (.asg (.nm 1) (.bin .add (.var 1) (.frz (.comp (.one (.nm 3) (.seq (.var 1)) .nil (.bin .add (.var 3) (.tup (.cons (.var 2) .nil))))))))
    .nil))
    (.cons (.asg (.nm 4) (.new (.disp .nil)))
    (.cons (.forS (.nm 3) (.lis (.srtL (.comp (.one (.nm 3) (.seq (.var 1)) .nil (.bin .add (.slice (.var 0) .none (.some (.con (.int 1)))) (.var 3)))))) (.cons (.ite (.cmp .lt (.len (.var 3)) (.len (.var 0))) (.cons (.app (.var 4) (.tup (.cons (.var 3) (.cons (.tupL (.comp (.one (.nm 2) (.seq (.var 0)) (.cons (.cmp .notin (.var 2) (.var 3)) .nil) (.var 2)))) .nil))))
    .nil) .nil)
    .nil))
    (.cons (.ret (.var 4))
    .nil)))))⟩
/-- _law_group, _law_found, _law_one_here, _law_two, _law_tree, _law_other -/
def m_law_all_trees : Fn := ⟨1, 6, (.cons (.ite (.cmp .eq (.len (.var 0)) (.con (.int 1))) (.cons (.ret (.new (.disp (.cons (.idx (.var 0) (.con (.int 0))) .nil))))
    .nil) .nil)
    (.cons (.asg (.nm 1) (.new (.disp .nil)))
    (.cons (.forS (.tp (.cons (.nm 2) (.cons (.nm 3) .nil))) (.seq (.call i_law_all_sides (.cons (.var 0) .nil))) (.cons (.forS (.nm 4) (.seq (.call i_law_all_trees (.cons (.var 2) .nil))) (.cons (.ext (.var 1) (.comp (.one (.nm 5) (.seq (.call i_law_all_trees (.cons (.var 3) .nil))) .nil (.tup (.cons (.var 4) (.cons (.var 5) .nil))))))
    .nil))
    .nil))
    (.cons (.ret (.var 1))
    .nil))))⟩
/-- _law_book, _law_one_here, _law_two, _law_found, _law_i, _law_j -/
def m_law_fork_across : Fn := ⟨3, 6, (.cons (.asg (.nm 3) (.new (.disp .nil)))
    (.cons (.forS (.nm 4) (.seq (.var 1)) (.cons (.ext (.var 3) (.comp (.one (.nm 5) (.seq (.var 2)) (.cons (.call i_law_are_near (.cons (.var 0) (.cons (.var 4) (.cons (.var 5) .nil)))) .nil) (.tup (.cons (.var 4) (.cons (.var 5) .nil))))))
    .nil))
    (.cons (.ret (.var 3))
    .nil)))⟩
/-- _law_book, _law_tree, _law_fork -/
def m_law_all_across : Fn := ⟨2, 3, (.cons (.ret (.cmp .eq (.frz (.comp (.one (.nm 2) (.seq (.call i_law_tree_forks (.cons (.var 1) .nil))) (.cons (.cmp .eq (.call i_law_fork_across (.cons (.var 0) (.cons (.idx (.var 2) (.con (.int 0))) (.cons (.idx (.var 2) (.con (.int 1))) .nil)))) (.frz (.disp .nil))) .nil) (.var 2)))) (.frz (.disp .nil))))
    .nil)⟩
/-- _law_book, _law_one_here, _law_two, _law_others, _law_c -/
def m_law_fork_meet : Fn := ⟨3, 5, (.cons (.asg (.nm 3) (.call i_law_group_columns (.cons (.var 0) (.cons (.var 2) .nil))))
    (.cons (.ret (.tupL (.comp (.one (.nm 4) (.seq (.call i_law_group_columns (.cons (.var 0) (.cons (.var 1) .nil)))) (.cons (.cmp .isin (.var 4) (.var 3)) .nil) (.var 4)))))
    .nil))⟩
/-- _law_book, _law_one_here, _law_two, _law_pairs, _law_z, _law_pair -/
def m_law_fork_is_good : Fn := ⟨3, 6, (.cons (.par 3 4 (.call i_law_fork_across (.cons (.var 0) (.cons (.var 1) (.cons (.var 2) .nil)))) (.call i_law_fork_meet (.cons (.var 0) (.cons (.var 1) (.cons (.var 2) .nil)))))
    (.cons (.ret (.and (.cmp .ne (.var 3) (.frz (.disp .nil))) (.cmp .eq (.frz (.comp (.one (.nm 5) (.seq (.var 3)) (.cons (.cmp .ne (.call i_law_common_columns (.cons (.var 0) (.cons (.idx (.var 5) (.con (.int 0))) (.cons (.idx (.var 5) (.con (.int 1))) .nil)))) (.var 4)) .nil) (.var 5)))) (.frz (.disp .nil)))))
    .nil))⟩
/-- _law_book, _law_tree, _law_fork -/
def m_law_tree_is_right : Fn := ⟨2, 3, (.cons (.ret (.cmp .eq (.frz (.comp (.one (.nm 2) (.seq (.call i_law_tree_forks (.cons (.var 1) .nil))) (.cons (.not (.call i_law_fork_is_good (.cons (.var 0) (.cons (.idx (.var 2) (.con (.int 0))) (.cons (.idx (.var 2) (.con (.int 1))) .nil))))) .nil) (.var 2)))) (.frz (.disp .nil))))
    .nil)⟩
/-- _law_book, _law_found, _law_p, _law_q, _law_z, _law_r, _law_has, _law_c -/
def m_law_thirds_of : Fn := ⟨1, 8, (.cons (.asg (.nm 1) (.new (.disp .nil)))
    (.cons (.forS (.nm 2) (.rng1 (.len (.var 0))) (.cons (.forS (.nm 3) (.rng2 (.bin .add (.var 2) (.con (.int 1))) (.len (.var 0))) (.cons (.asg (.nm 4) (.call i_law_common_columns (.cons (.var 0) (.cons (.var 2) (.cons (.var 3) .nil)))))
    (.cons (.forS (.nm 5) (.rng1 (.len (.var 0))) (.cons (.asg (.nm 6) (.frz (.comp (.one (.nm 7) (.seq (.var 4)) (.cons (.cmp .isin (.var 7) (.idx (.var 0) (.var 5))) .nil) (.var 7)))))
    (.cons (.ite (.and (.cmp .notin (.var 5) (.tup (.cons (.var 2) (.cons (.var 3) .nil)))) (.chn .lt .lt (.con (.int 0)) (.len (.var 6)) (.len (.var 4)))) (.cons (.app (.var 1) (.tup (.cons (.var 2) (.cons (.var 3) (.cons (.var 5) .nil)))))
    .nil) .nil)
    .nil)))
    .nil)))
    .nil))
    (.cons (.ret (.var 1))
    .nil)))⟩
/-- _law_tree, _law_group, _law_side, _law_one_here -/
def m_law_least_part : Fn := ⟨2, 4, (.cons (.ite (.not (.isi .int (.var 0))) (.cons (.forS (.nm 2) (.seq (.var 0)) (.cons (.ite (.cmp .eq (.frz (.comp (.one (.nm 3) (.seq (.var 1)) (.cons (.cmp .notin (.var 3) (.call i_law_tree_leaves (.cons (.var 2) .nil))) .nil) (.var 3)))) (.frz (.disp .nil))) (.cons (.ret (.call i_law_least_part (.cons (.var 2) (.cons (.var 1) .nil))))
    .nil) .nil)
    .nil))
    .nil) .nil)
    (.cons (.ret (.call i_law_tree_leaves (.cons (.var 0) .nil)))
    .nil))⟩
/-- _law_book, _law_tree, _law_one_here -/
def m_law_tree_shows : Fn := ⟨2, 3, (.cons (.ret (.cmp .eq (.frz (.comp (.one (.nm 2) (.seq (.call i_law_thirds_of (.cons (.var 0) .nil))) (.cons (.cmp .isin (.idx (.var 2) (.con (.int 2))) (.call i_law_least_part (.cons (.var 1) (.cons (.slice (.var 2) .none (.some (.con (.int 2)))) .nil)))) .nil) (.var 2)))) (.frz (.disp .nil))))
    .nil)⟩
/-- _law_jar, _law_book, _law_group, _law_trees, _law_one_here, _law_lot, _law_some, _law_k, _law_other -/
def m_law_joined_tree : Fn := ⟨3, 9, (.cons (.asg (.nm 3) (.new (.call i_law_mixed (.cons (.var 0) (.cons (.frz (.ofE (.var 2))) .nil)))))
    (.cons (.whl (.cmp .gt (.len (.var 3)) (.con (.int 1))) (.cons (.asg (.nm 4) (.popAt (.var 3) (.con (.int 0))))
    (.cons (.asg (.nm 5) (.call i_law_tree_leaves (.cons (.var 4) .nil)))
    (.cons (.asg (.nm 6) (.frz (.comp (.one (.nm 7) (.rng1 (.len (.var 3))) (.cons (.cmp .ne (.call i_law_fork_across (.cons (.var 1) (.cons (.var 5) (.cons (.call i_law_tree_leaves (.cons (.idx (.var 3) (.var 7)) .nil)) .nil)))) (.frz (.disp .nil))) .nil) (.var 7)))))
    (.cons (.asg (.nm 8) (.popAt (.var 3) (.call i_law_one (.cons (.var 0) (.cons (.var 6) .nil)))))
    (.cons (.app (.var 3) (.call i_law_one (.cons (.var 0) (.cons (.frz (.disp (.cons (.tup (.cons (.var 4) (.cons (.var 8) .nil))) (.cons (.tup (.cons (.var 8) (.cons (.var 4) .nil))) .nil)))) .nil))))
    .nil))))))
    (.cons (.ret (.idx (.var 3) (.con (.int 0))))
    .nil)))⟩
/-- _law_book, _law_tree, _law_is_ringless, _law_by_forks, _law_by_thirds -/
def m_law_tree_told_right : Fn := ⟨3, 5, (.cons (.par 3 4 (.call i_law_tree_is_right (.cons (.var 0) (.cons (.var 1) .nil))) (.call i_law_tree_shows (.cons (.var 0) (.cons (.var 1) .nil))))
    (.cons (.ite (.cmp .ne (.repr (.tup (.cons (.call i_plan_right (.cons (.var 0) (.cons (.var 1) .nil))) (.cons (.call i_shows (.cons (.var 0) (.cons (.var 1) .nil))) .nil)))) (.repr (.tup (.cons (.var 3) (.cons (.var 4) .nil))))) (.cons (.ret (.con (.bl false)))
    .nil) .nil)
    (.cons (.ite (.and (.var 3) (.not (.var 4))) (.cons (.ret (.con (.bl false)))
    .nil) .nil)
    (.cons (.ret (.or (.not (.var 2)) (.or (.not (.call i_law_all_across (.cons (.var 0) (.cons (.var 1) .nil)))) (.cmp .eq (.var 3) (.var 4)))))
    .nil))))⟩
/-- _law_script, _law_jar, _law_book, _law_group, _law_own, _law_trees, _law_turn, _law_tree, _law_other -/
def m_law : Fn := ⟨1, 9, (.cons (.asg (.nm 1) (.new (.call i_law_pool (.cons (.var 0) (.cons (.con (.int 0)) .nil)))))
    (.cons (.asg (.nm 2) (.call i_law_ringless_book (.cons (.var 1) (.cons (.con (.int 5)) .nil))))
    (.cons (.par 3 4 (.call i_law_all_sources (.cons (.var 2) .nil)) (.call i_law_thirds_of (.cons (.var 2) .nil)))
    (.cons (.ite (.or (.cmp .ne (.repr (.call i_thirds (.cons (.var 2) .nil))) (.repr (.tupE (.var 4)))) (.cmp .ne (.repr (.call i_any_plan (.cons (.var 2) .nil))) (.repr (.cmp .eq (.var 4) (.frz (.disp .nil)))))) (.cons (.ret (.con (.bl false)))
    .nil) .nil)
    (.cons (.asg (.nm 5) (.ite (.cmp .lt (.len (.var 3)) (.con (.int 5))) (.call i_law_all_trees (.cons (.var 3) .nil)) (.frz (.comp (.one (.nm 6) (.rng1 (.con (.int 12))) .nil (.call i_law_joined_tree (.cons (.var 1) (.cons (.var 2) (.cons (.var 3) .nil)))))))))
    (.cons (.forS (.nm 7) (.seq (.bin .add (.var 5) (.frz (.disp (.cons (.call i_law_drawn_tree (.cons (.var 1) (.cons (.var 3) .nil))) .nil))))) (.cons (.ite (.not (.call i_law_tree_told_right (.cons (.var 2) (.cons (.var 7) (.cons (.con (.bl true)) .nil))))) (.cons (.ret (.con (.bl false)))
    .nil) .nil)
    .nil))
    (.cons (.asg (.nm 8) (.call i_law_some_book (.cons (.var 1) (.cons (.con (.int 5)) .nil))))
    (.cons (.ite (.cmp .ne (.repr (.call i_thirds (.cons (.var 8) .nil))) (.repr (.tupE (.call i_law_thirds_of (.cons (.var 8) .nil))))) (.cons (.ret (.con (.bl false)))
    .nil) .nil)
    (.cons (.forS (.nm 6) (.rng1 (.con (.int 3))) (.cons (.ite (.not (.call i_law_tree_told_right (.cons (.var 8) (.cons (.call i_law_joined_tree (.cons (.var 1) (.cons (.var 8) (.cons (.call i_law_all_sources (.cons (.var 8) .nil)) .nil)))) (.cons (.con (.bl false)) .nil))))) (.cons (.ret (.con (.bl false)))
    .nil) .nil)
    .nil))
    (.cons (.ret (.con (.bl true)))
    .nil))))))))))⟩
def fns : List Fn := [m_is_whole_number, m_is_between, m_is_below, m_is_rising, m_is_scheme, m_has_size, m_first_wrong, m_made_book, m_is_book, m_columns_of, m_shared_of, m_are_neighbours, m_piece_with, m_pieces_of, m_hangs_of, m_every_source, m_want_joined, m_want_group_joined, m_made_joined, m_across_of, m_meet_of, m_is_good, m_is_leaf, m_has_form, m_row_of, m_first_twice, m_first_lacking, m_want_parts, m_want_part, m_want_plan, m_is_part_of, m_is_plan_of, m_leaves_of, m_forks_of, m_thirds_of, m_is_shown, m_thirds, m_shows, m_all_good, m_plan_right, m_is_whole_or_none, m_are_left_joined, m_pieces_without, m_least_pair, m_first_outside, m_ring_of_three, m_way_outside, m_ring_of_way, m_found_in, m_plan_within, m_any_plan, m_law_pool, m_law_take, m_law_one, m_law_mixed, m_law_rising, m_law_group_columns, m_law_common_columns, m_law_are_near, m_law_all_sources, m_law_scheme, m_law_hung_book, m_law_fellow_columns, m_law_same_columns, m_law_called, m_law_glued, m_law_ringless_book, m_law_ring_book, m_law_some_book, m_law_tree_leaves, m_law_tree_forks, m_law_drawn_tree, m_law_all_sides, m_law_all_trees, m_law_fork_across, m_law_all_across, m_law_fork_meet, m_law_fork_is_good, m_law_tree_is_right, m_law_thirds_of, m_law_least_part, m_law_tree_shows, m_law_joined_tree, m_law_tree_told_right, m_law]
end K56

end

section
set_option maxRecDepth 100000
set_option maxHeartbeats 0
namespace K56
open PySem PySem.Spec PyProof.Rows L2 MM
def top (i : Nat) : Stmt := PySem.Challenge.pw_behindboth_k56_thirds_beside_good_forks.main.body.getD i (.Pass ⟨0, 0, 0, 0⟩)
def en (x : Str) (i : Nat) (N ps : List Str) (f : Fn) : Ent := ⟨x, defArgs (top i), defBody (top i), defScope (top i), N, ps, f⟩
def es : List Ent := [
  en "is_whole_number" 11 ["thing"] ["thing"] m_is_whole_number,
  en "is_between" 12 ["thing", "least", "most"] ["thing", "least", "most"] m_is_between,
  en "is_below" 13 ["thing", "bound"] ["thing", "bound"] m_is_below,
  en "is_rising" 14 ["thing", "bound", "one", "at"] ["thing", "bound"] m_is_rising,
  en "is_scheme" 15 ["thing"] ["thing"] m_is_scheme,
  en "has_size" 16 ["thing"] ["thing"] m_has_size,
  en "first_wrong" 17 ["thing", "index", "scheme"] ["thing"] m_first_wrong,
  en "made_book" 18 ["thing", "index"] ["thing"] m_made_book,
  en "is_book" 19 ["thing"] ["thing"] m_is_book,
  en "columns_of" 20 ["book", "sources", "source", "column"] ["book", "sources"] m_columns_of,
  en "shared_of" 21 ["book", "i", "j", "column"] ["book", "i", "j"] m_shared_of,
  en "are_neighbours" 22 ["book", "i", "j"] ["book", "i", "j"] m_are_neighbours,
  en "piece_with" 24 ["book", "group", "source", "met", "waiting", "here", "later", "other"] ["book", "group", "source"] m_piece_with,
  en "pieces_of" 25 ["book", "group", "found", "source", "piece"] ["book", "group"] m_pieces_of,
  en "hangs_of" 26 ["book", "group"] ["book", "group"] m_hangs_of,
  en "every_source" 27 ["book"] ["book"] m_every_source,
  en "want_joined" 29 ["book"] ["book"] m_want_joined,
  en "want_group_joined" 30 ["book", "group", "found"] ["book", "group"] m_want_group_joined,
  en "made_joined" 31 ["thing", "book"] ["thing"] m_made_joined,
  en "across_of" 32 ["book", "left", "right", "i", "j"] ["book", "left", "right"] m_across_of,
  en "meet_of" 33 ["book", "left", "right", "others", "column"] ["book", "left", "right"] m_meet_of,
  en "is_good" 34 ["book", "left", "right", "pairs", "both", "i", "j"] ["book", "left", "right"] m_is_good,
  en "is_leaf" 37 ["plan"] ["plan"] m_is_leaf,
  en "has_form" 38 ["thing", "many", "deep", "side"] ["thing", "many", "deep"] m_has_form,
  en "row_of" 39 ["plan"] ["plan"] m_row_of,
  en "first_twice" 40 ["row", "at", "source"] ["row"] m_first_twice,
  en "first_lacking" 41 ["row", "many", "source"] ["row", "many"] m_first_lacking,
  en "want_parts" 42 ["many", "thing", "twice"] ["many", "thing"] m_want_parts,
  en "want_part" 43 ["book", "thing"] ["book", "thing"] m_want_part,
  en "want_plan" 44 ["book", "thing", "lacking"] ["book", "thing"] m_want_plan,
  en "is_part_of" 45 ["many", "thing"] ["many", "thing"] m_is_part_of,
  en "is_plan_of" 46 ["book", "thing"] ["book", "thing"] m_is_plan_of,
  en "leaves_of" 47 ["plan"] ["plan"] m_leaves_of,
  en "forks_of" 48 ["plan", "left", "right"] ["plan"] m_forks_of,
  en "thirds_of" 50 ["book", "found", "p", "q", "common", "r", "scheme", "had", "column"] ["book"] m_thirds_of,
  en "is_shown" 51 ["third", "parts", "p", "q", "r", "part"] ["third", "parts"] m_is_shown,
  en "thirds" 52 ["book"] ["book"] m_thirds,
  en "shows" 53 ["book", "plan", "parts", "left", "right", "third"] ["book", "plan"] m_shows,
  en "all_good" 55 ["book", "plan", "left", "right"] ["book", "plan"] m_all_good,
  en "plan_right" 56 ["book", "plan"] ["book", "plan"] m_plan_right,
  en "is_whole_or_none" 58 ["book", "source", "struck", "had", "column"] ["book", "source", "struck"] m_is_whole_or_none,
  en "are_left_joined" 59 ["book", "i", "j", "struck", "column"] ["book", "i", "j", "struck"] m_are_left_joined,
  en "pieces_without" 60 ["book", "group", "struck", "found", "left", "piece", "at", "near", "source"] ["book", "group", "struck"] m_pieces_without,
  en "least_pair" 62 ["book", "group", "pairs", "i", "j"] ["book", "group"] m_least_pair,
  en "first_outside" 63 ["columns", "others", "column"] ["columns", "others"] m_first_outside,
  en "ring_of_three" 64 ["book", "s", "t", "r", "both", "xs"] ["book", "s", "t", "r"] m_ring_of_three,
  en "way_outside" 65 ["book", "group", "s", "t", "struck", "ways", "waiting", "later", "here", "other", "column"] ["book", "group", "s", "t", "struck"] m_way_outside,
  en "ring_of_way" 66 ["book", "group", "s", "t", "both", "way", "links", "one", "two"] ["book", "group", "s", "t"] m_ring_of_way,
  en "found_in" 67 ["book", "group", "s", "t", "both", "partly", "source", "pieces", "rest", "piece", "sides", "rings", "side"] ["book", "group"] m_found_in,
  en "plan_within" 68 ["book", "group", "word", "told"] ["book", "group"] m_plan_within,
  en "any_plan" 70 ["book"] ["book"] m_any_plan,
  en "_law_pool" 72 ["_law_script", "_law_k", "_law_cell", "_law_big", "_law_mixed_here"] ["_law_script", "_law_k"] m_law_pool,
  en "_law_take" 73 ["_law_jar", "_law_top", "_law_drawn"] ["_law_jar", "_law_top"] m_law_take,
  en "_law_one" 74 ["_law_jar", "_law_things"] ["_law_jar", "_law_things"] m_law_one,
  en "_law_mixed" 75 ["_law_jar", "_law_things", "_law_left_over", "_law_found", "_law_place"] ["_law_jar", "_law_things"] m_law_mixed,
  en "_law_rising" 76 ["_law_lists", "_law_found", "_law_one_here", "_law_thing"] ["_law_lists"] m_law_rising,
  en "_law_group_columns" 77 ["_law_book", "_law_lot", "_law_i"] ["_law_book", "_law_lot"] m_law_group_columns,
  en "_law_common_columns" 78 ["_law_book", "_law_i", "_law_j", "_law_c"] ["_law_book", "_law_i", "_law_j"] m_law_common_columns,
  en "_law_are_near" 79 ["_law_book", "_law_i", "_law_j"] ["_law_book", "_law_i", "_law_j"] m_law_are_near,
  en "_law_all_sources" 80 ["_law_book", "_law_i"] ["_law_book"] m_law_all_sources,
  en "_law_scheme" 81 ["_law_jar", "_law_wide", "_law_most", "_law_lot", "_law_c"] ["_law_jar", "_law_wide", "_law_most"] m_law_scheme,
  en "_law_hung_book" 82 ["_law_jar", "_law_most", "_law_wide", "_law_found", "_law_i", "_law_link"] ["_law_jar", "_law_most", "_law_wide"] m_law_hung_book,
  en "_law_fellow_columns" 83 ["_law_book", "_law_i", "_law_j", "_law_c"] ["_law_book", "_law_i"] m_law_fellow_columns,
  en "_law_same_columns" 84 ["_law_jar", "_law_book", "_law_rows", "_law_drawn", "_law_lot", "_law_row"] ["_law_jar", "_law_book"] m_law_same_columns,
  en "_law_called" 85 ["_law_book", "_law_pairs", "_law_calls", "_law_c", "_law_scheme_here"] ["_law_book", "_law_pairs"] m_law_called,
  en "_law_glued" 86 ["_law_jar", "_law_size", "_law_begin", "_law_wide", "_law_c", "_law_low", "_law_one_here", "_law_later", "_law_two", "_law_end", "_law_first", "_law_second", "_law_k"] ["_law_jar", "_law_size", "_law_begin"] m_law_glued,
  en "_law_ringless_book" 87 ["_law_jar", "_law_most", "_law_schemes", "_law_end", "_law_ids", "_law_c", "_law_found", "_law_scheme_here"] ["_law_jar", "_law_most"] m_law_ringless_book,
  en "_law_ring_book" 88 ["_law_jar", "_law_most", "_law_size", "_law_ids", "_law_c", "_law_found", "_law_i", "_law_row"] ["_law_jar", "_law_most"] m_law_ring_book,
  en "_law_some_book" 89 ["_law_jar", "_law_most", "_law_drawn"] ["_law_jar", "_law_most"] m_law_some_book,
  en "_law_tree_leaves" 90 ["_law_tree"] ["_law_tree"] m_law_tree_leaves,
  en "_law_tree_forks" 91 ["_law_tree", "_law_own"] ["_law_tree"] m_law_tree_forks,
  en "_law_drawn_tree" 92 ["_law_jar", "_law_group", "_law_trees", "_law_one_here", "_law_two"] ["_law_jar", "_law_group"] m_law_drawn_tree,
  en "_law_all_sides" 93 ["_law_group", "_law_found", "_law_one_here", "_law_lot", "_law_sides"] ["_law_group"] m_law_all_sides,
  en "_law_all_trees" 94 ["_law_group", "_law_found", "_law_one_here", "_law_two", "_law_tree", "_law_other"] ["_law_group"] m_law_all_trees,
  en "_law_fork_across" 95 ["_law_book", "_law_one_here", "_law_two", "_law_found", "_law_i", "_law_j"] ["_law_book", "_law_one_here", "_law_two"] m_law_fork_across,
  en "_law_all_across" 96 ["_law_book", "_law_tree", "_law_fork"] ["_law_book", "_law_tree"] m_law_all_across,
  en "_law_fork_meet" 97 ["_law_book", "_law_one_here", "_law_two", "_law_others", "_law_c"] ["_law_book", "_law_one_here", "_law_two"] m_law_fork_meet,
  en "_law_fork_is_good" 98 ["_law_book", "_law_one_here", "_law_two", "_law_pairs", "_law_z", "_law_pair"] ["_law_book", "_law_one_here", "_law_two"] m_law_fork_is_good,
  en "_law_tree_is_right" 99 ["_law_book", "_law_tree", "_law_fork"] ["_law_book", "_law_tree"] m_law_tree_is_right,
  en "_law_thirds_of" 100 ["_law_book", "_law_found", "_law_p", "_law_q", "_law_z", "_law_r", "_law_has", "_law_c"] ["_law_book"] m_law_thirds_of,
  en "_law_least_part" 101 ["_law_tree", "_law_group", "_law_side", "_law_one_here"] ["_law_tree", "_law_group"] m_law_least_part,
  en "_law_tree_shows" 102 ["_law_book", "_law_tree", "_law_one_here"] ["_law_book", "_law_tree"] m_law_tree_shows,
  en "_law_joined_tree" 103 ["_law_jar", "_law_book", "_law_group", "_law_trees", "_law_one_here", "_law_lot", "_law_some", "_law_k", "_law_other"] ["_law_jar", "_law_book", "_law_group"] m_law_joined_tree,
  en "_law_tree_told_right" 104 ["_law_book", "_law_tree", "_law_is_ringless", "_law_by_forks", "_law_by_thirds"] ["_law_book", "_law_tree", "_law_is_ringless"] m_law_tree_told_right,
  en "law" 105 ["_law_script", "_law_jar", "_law_book", "_law_group", "_law_own", "_law_trees", "_law_turn", "_law_tree", "_law_other"] ["_law_script"] m_law]
def gc : List (Str × Int) := [("MOST_COLUMNS", 24), ("MOST_IN_SCHEME", 8), ("MOST_SOURCES", 12), ("MOST_DEEP", 11)]
def loose0 : List Str := ["Refused", "BadBook", "BadPlan", "Twice", "Lacking", "Apart", "MOST_COLUMNS", "MOST_IN_SCHEME", "MOST_SOURCES", "is_whole_number", "is_between", "is_below", "is_rising", "is_scheme", "has_size", "first_wrong", "made_book", "is_book", "columns_of", "shared_of", "are_neighbours", "piece_with", "pieces_of", "hangs_of", "every_source", "want_joined", "want_group_joined", "made_joined", "across_of", "meet_of"]
def loose1 : List Str := ["is_good", "MOST_DEEP", "is_leaf", "has_form", "row_of", "first_twice", "first_lacking", "want_parts", "want_part", "want_plan", "is_part_of", "is_plan_of", "leaves_of", "forks_of", "thirds_of", "is_shown", "thirds", "shows", "all_good", "plan_right", "is_whole_or_none", "are_left_joined", "pieces_without", "least_pair", "first_outside", "ring_of_three", "way_outside", "ring_of_way", "found_in", "plan_within"]
def loose2 : List Str := ["any_plan", "_law_pool", "_law_take", "_law_one", "_law_mixed", "_law_rising", "_law_group_columns", "_law_common_columns", "_law_are_near", "_law_all_sources", "_law_scheme", "_law_hung_book", "_law_fellow_columns", "_law_same_columns", "_law_called", "_law_glued", "_law_ringless_book", "_law_ring_book", "_law_some_book", "_law_tree_leaves", "_law_tree_forks", "_law_drawn_tree", "_law_all_sides", "_law_all_trees", "_law_fork_across", "_law_all_across", "_law_fork_meet", "_law_fork_is_good", "_law_tree_is_right", "_law_thirds_of"]
def loose3 : List Str := ["_law_least_part", "_law_tree_shows", "_law_joined_tree", "_law_tree_told_right"]
def loose : List Str := loose0 ++ loose1 ++ loose2 ++ loose3
end K56
open PySem PySem.W PySem.Calls PyProof.Rows
theorem K56.hd (h : ∀ q loose XP d, d.params.defaults = [] → d.name = Str.ofString "law" → WalkO q loose XP (He.hookD 4 (MM.faOf K56.es K56.gc) (K56.es.map MM.Ent.d)).says PySem.Challenge.rw_behindboth_k56_thirds_beside_good_forks.row.toRowW d [] (fun f vs => PySem.call f vs)) : PySem.Challenge.rw_behindboth_k56_thirds_beside_good_forks.Holds := by
  w_on; o_law
  apply And.left (b := WalkO _ _ _ _ _ _ _ _)
  refine ⟨?m, ?hc⟩
  case m =>
    o_head (He.hookD 4 (MM.faOf K56.es K56.gc) (K56.es.map MM.Ent.d))
    case hw => w_witness2
  case hc => exact h _ _ _ _ rfl rfl

end

section
set_option maxRecDepth 100000
set_option maxHeartbeats 4000000
/-! Plain evaluation: looks and calls. -/
namespace MP
open MM
open PySem
/-- a call of the table, its new objects frozen -/
def callE (cl : Cl) (f : Nat) (ds : List D) (st : St) : R D := match cl f ds st with
  | some r => finV st r
  | none => none
def callL (cl : Cl) (f : Nat) (ds : List D) (st : St) : R (List D) := match cl f ds st with
  | some r => finL st r
  | none => none
theorem ev_call (cl : Cl) (f : Nat) (es : Es) (ρ : Rho) (st : St) : evE cl (.call f es) ρ st = bnd (evEs cl es ρ st) fun ds st => callE cl f ds st := by rw [evE] <;> rfl
theorem el_call (cl : Cl) (f : Nat) (es : Es) (ρ : Rho) (st : St) : evL cl (.call f es) ρ st = bnd (evEs cl es ρ st) fun ds st => callL cl f ds st := by rw [evL] <;> rfl
theorem oldOk_app : ∀ (st ex : St) (L : Nat), oldOk L st (st ++ ex) = true
  | [], _, _ => by simp [oldOk]
  | o :: os, ex, L => by simp [oldOk, O.beq_self, oldOk_app os ex L]
theorem oldOk_set : ∀ (st ex : St) (L n : Nat) (o : O), O.under L o = true → oldOk L st (st.set n o ++ ex) = true
  | [], _, _, _, _, _ => by simp [oldOk]
  | o :: os, ex, L, 0, o', h => by simp [oldOk, h, oldOk_app os ex L]
  | o :: os, ex, L, n + 1, o', h => by simp [oldOk, O.beq_self, oldOk_set os ex L n o' h]
theorem fin_pure {st ex : St} {d : D} (h : D.pure d = true) : finV st (d, st ++ ex) = some (d, st) := by
  simp [finV, oldOk_app, frzD, h]
theorem fin_pure0 {st : St} {d : D} (h : D.pure d = true) : finV st (d, st) = some (d, st) := by
  have := fin_pure (st := st) (ex := []) h
  simpa using this
theorem fin_set {st ex : St} {d : D} {n : Nat} {o : O} (h : D.pure d = true) (ho : O.under st.length o = true) : finV st (d, st.set n o ++ ex) = some (d, st.set n o) := by
  simp [finV, oldOk_set _ _ _ _ _ ho, frzD, h, List.take_append_of_le_length, List.length_set]
/-- a def that tells d of ds, whatever is there, and leaves what is there -/
def Pur (cl : Cl) (f : Nat) (ds : List D) (d : D) : Prop := D.pure d = true ∧ ∀ st, ∃ ex, cl f ds st = some (d, st ++ ex)
theorem Pur.call {cl : Cl} {f : Nat} {ds : List D} {d : D} (h : Pur cl f ds d) (st : St) : callE cl f ds st = some (d, st) := by
  obtain ⟨ex, e⟩ := h.2 st
  unfold callE
  rw [e]
  exact fin_pure h.1
theorem Pur.of0 {cl : Cl} {f : Nat} {ds : List D} {d : D} (hp : D.pure d = true) (h : ∀ st, cl f ds st = some (d, st)) : Pur cl f ds d := ⟨hp, fun st => ⟨[], by rw [h, List.append_nil]⟩⟩
theorem run_at {tab : List Fn} {W k f : Nat} {fn : Fn} (h : tab[f]? = some fn) (args : List D) (st : St) : callR tab W (k + 1) f args st = runF (callR tab W k) W fn args st := by
  simp only [callR, h]
end MP

end

section
set_option maxRecDepth 100000
set_option maxHeartbeats 4000000
/-! Plain evaluation: rules for simp. -/
namespace MP
open MM
open PySem
/-! ### data without truths and texts -/
mutual
@[scoped simp] def clean : D → Bool
  | .non => true
  | .int _ => true
  | .tup xs => cleans xs
  | .lst xs => cleans xs
  | _ => false
@[scoped simp] def cleans : List D → Bool
  | [] => true
  | x :: xs => clean x && cleans xs
end
section
variable (x : D) (xs : List D)
@[scoped simp] theorem pure_non : D.pure .non = true := rfl
@[scoped simp] theorem pure_bl (b : Bool) : D.pure (.bl b) = true := rfl
@[scoped simp] theorem pure_int (i : Int) : D.pure (.int i) = true := rfl
@[scoped simp] theorem pure_tup : D.pure (.tup xs) = D.pures xs := rfl
@[scoped simp] theorem pure_lst : D.pure (.lst xs) = D.pures xs := rfl
@[scoped simp] theorem pure_ref (n : Nat) : D.pure (.ref n) = false := rfl
@[scoped simp] theorem pures_nil : D.pures [] = true := rfl
@[scoped simp] theorem pures_cons : D.pures (x :: xs) = (D.pure x && D.pures xs) := rfl
@[scoped simp] theorem dep_non : D.dep .non = 0 := rfl
@[scoped simp] theorem dep_bl (b : Bool) : D.dep (.bl b) = 0 := rfl
@[scoped simp] theorem dep_int (i : Int) : D.dep (.int i) = 0 := rfl
@[scoped simp] theorem dep_tup : D.dep (.tup xs) = D.deps xs + 1 := rfl
@[scoped simp] theorem dep_lst : D.dep (.lst xs) = D.deps xs + 1 := rfl
@[scoped simp] theorem deps_nil : D.deps [] = 0 := rfl
@[scoped simp] theorem deps_cons : D.deps (x :: xs) = max (D.dep x) (D.deps xs) := rfl
@[scoped simp] theorem under_non (L : Nat) : D.under L .non = true := rfl
@[scoped simp] theorem under_bl (L : Nat) (b : Bool) : D.under L (.bl b) = true := rfl
@[scoped simp] theorem under_int (L : Nat) (i : Int) : D.under L (.int i) = true := rfl
@[scoped simp] theorem under_tup (L : Nat) : D.under L (.tup xs) = D.unders L xs := rfl
@[scoped simp] theorem under_lst (L : Nat) : D.under L (.lst xs) = D.unders L xs := rfl
@[scoped simp] theorem under_ref (L n : Nat) : D.under L (.ref n) = decide (n < L) := rfl
@[scoped simp] theorem unders_nil (L : Nat) : D.unders L [] = true := rfl
@[scoped simp] theorem unders_cons (L : Nat) : D.unders L (x :: xs) = (D.under L x && D.unders L xs) := rfl
end
instance : DecidableEq D := fun a b => if h : D.beq a b = true then isTrue (D.eq_of_beq h) else isFalse fun e => h (e ▸ D.beq_self a)
mutual
theorem pure_of_clean : ∀ d, clean d = true → D.pure d = true
  | .non, _ => rfl
  | .bl _, _ => rfl
  | .int _, _ => rfl
  | .str _, _ => rfl
  | .tup xs, h => by simpa using pures_of_cleans xs (by simpa using h)
  | .lst xs, h => by simpa using pures_of_cleans xs (by simpa using h)
  | .scr _, _ => rfl
  | .ref _, h => by simp at h
theorem pures_of_cleans : ∀ d, cleans d = true → D.pures d = true
  | [], _ => rfl
  | x :: xs, h => by
    have h' : clean x = true ∧ cleans xs = true := by simpa using h
    simp [pure_of_clean x h'.1, pures_of_cleans xs h'.2]
end
mutual
theorem eqv_clean : ∀ a b : D, clean a = true → clean b = true → PyData.eqv a.py b.py = D.beq a b
  | .non, b, _, h => by cases b <;> simp_all [D.py, PyData.eqv, D.beq]
  | .int i, b, _, h => by cases b <;> simp_all [D.py, PyData.eqv, D.beq] <;> rfl
  | .tup xs, b, h1, h => by
    cases b with
    | tup ys => simpa [D.py, PyData.eqv, D.beq] using eqvs_clean xs ys (by simpa using h1) (by simpa using h)
    | _ => simp_all [D.py, PyData.eqv, D.beq]
  | .lst xs, b, h1, h => by
    cases b with
    | lst ys => simpa [D.py, PyData.eqv, D.beq] using eqvs_clean xs ys (by simpa using h1) (by simpa using h)
    | _ => simp_all [D.py, PyData.eqv, D.beq]
  | .bl _, b, h1, _ => by simp at h1
  | .str _, b, h1, _ => by simp at h1
  | .scr _, b, h1, _ => by simp at h1
  | .ref _, b, h1, _ => by simp at h1
theorem eqvs_clean : ∀ a b : List D, cleans a = true → cleans b = true → PyData.eqvAll (D.pys a) (D.pys b) = D.beqs a b
  | [], [], _, _ => by simp [D.pys, PyData.eqvAll, D.beqs]
  | [], y :: ys, _, _ => by simp [D.pys, PyData.eqvAll, D.beqs]
  | x :: xs, [], _, _ => by simp [D.pys, PyData.eqvAll, D.beqs]
  | x :: xs, y :: ys, h1, h2 => by
    have h1' : clean x = true ∧ cleans xs = true := by simpa using h1
    have h2' : clean y = true ∧ cleans ys = true := by simpa using h2
    simp [D.pys, PyData.eqvAll, D.beqs, eqv_clean x y h1'.1 h2'.1, eqvs_clean xs ys h1'.2 h2'.2]
end
theorem beq_dec (a b : D) : D.beq a b = decide (a = b) := by
  by_cases h : a = b
  · simp [h, D.beq_self]
  · simp only [h, decide_false]
    exact Bool.eq_false_iff.2 fun k => h (D.eq_of_beq k)
theorem der_clean {st : St} {a : D} (h : clean a = true) : der st a = a := by cases a <;> simp_all [der]
theorem eqD_clean {st : St} {a b : D} (h1 : clean a = true) (h2 : clean b = true) (h3 : D.dep a ≤ 60) (h4 : D.dep b ≤ 60) : eqD st a b = some (decide (a = b)) := by
  simp only [eqD]
  rw [der_clean h1, der_clean h2, pure_of_clean a h1, pure_of_clean b h2, eqv_clean a b h1 h2, beq_dec]
  simp [h3, h4]
theorem cleans_iff : ∀ xs : List D, cleans xs = true ↔ ∀ x ∈ xs, clean x = true
  | [] => by simp
  | x :: xs => by simp [cleans_iff xs]
theorem pures_iff : ∀ xs : List D, D.pures xs = true ↔ ∀ x ∈ xs, D.pure x = true
  | [] => by simp
  | x :: xs => by simp [pures_iff xs]
theorem deps_iff (n : Nat) : ∀ xs : List D, D.deps xs ≤ n ↔ ∀ x ∈ xs, D.dep x ≤ n
  | [] => by simp
  | x :: xs => by simp [Nat.max_le, deps_iff n xs]
theorem inD_clean {st : St} {x : D} {xs : List D} (h1 : clean x = true) (h2 : cleans xs = true) (h3 : D.dep x ≤ 60) (h4 : D.deps xs ≤ 60) : inD st x xs = some (decide (x ∈ xs)) := by
  have : (xs.any fun y => PyData.eqv y.py x.py) = decide (x ∈ xs) := by
    rw [Bool.eq_iff_iff]
    simp only [List.any_eq_true, decide_eq_true_eq]
    constructor
    · rintro ⟨y, hy, e⟩
      rw [eqv_clean y x ((cleans_iff xs).1 h2 y hy) h1] at e
      exact D.eq_of_beq e ▸ hy
    · intro hx
      exact ⟨x, hx, by rw [eqv_clean x x h1 h1]; exact D.beq_self x⟩
  simp [inD, pure_of_clean x h1, pures_of_cleans xs h2, h3, h4, this]
/-! ### numbers, rows, books -/
abbrev nI (n : Nat) : D := .int (n : Int)
def tI (s : List Nat) : D := .tup (s.map nI)
def bk (b : List (List Nat)) : D := .tup (b.map tI)
def cols (b : List (List Nat)) (i : Nat) : List Nat := b.getD i []
theorem nI_inj {a b : Nat} : nI a = nI b ↔ a = b := by simp [nI]; omega
theorem map_nI_inj {a b : List Nat} : a.map nI = b.map nI ↔ a = b := by
  constructor
  · intro h
    induction a generalizing b with
    | nil => cases b with
      | nil => rfl
      | cons y ys => simp at h
    | cons x xs ih => cases b with
      | nil => simp at h
      | cons y ys =>
        rw [List.map_cons, List.map_cons, List.cons.injEq, nI_inj] at h
        rw [h.1, ih h.2]
  · intro h; rw [h]
@[scoped simp] theorem tI_inj {a b : List Nat} : tI a = tI b ↔ a = b := by rw [tI, tI, D.tup.injEq]; exact map_nI_inj
@[scoped simp] theorem clean_nIs (xs : List Nat) : cleans (xs.map nI) = true := by rw [cleans_iff]; intro x h; obtain ⟨n, _, rfl⟩ := List.mem_map.1 h; rfl
@[scoped simp] theorem clean_tI (xs : List Nat) : clean (tI xs) = true := by simp [tI]
@[scoped simp] theorem deps_nIs : ∀ xs : List Nat, D.deps (xs.map nI) = 0
  | [] => rfl
  | x :: xs => by simp [deps_nIs xs]
@[scoped simp] theorem dep_tI (xs : List Nat) : D.dep (tI xs) = 1 := by simp [tI]
@[scoped simp] theorem pure_tI (xs : List Nat) : D.pure (tI xs) = true := pure_of_clean _ (clean_tI xs)
@[scoped simp] theorem pure_nIs (xs : List Nat) : D.pures (xs.map nI) = true := pures_of_cleans _ (clean_nIs xs)
theorem clean_tIs (b : List (List Nat)) : cleans (b.map tI) = true := by rw [cleans_iff]; intro x h; obtain ⟨n, _, rfl⟩ := List.mem_map.1 h; simp
theorem deps_tIs (b : List (List Nat)) : D.deps (b.map tI) ≤ 1 := by rw [deps_iff]; intro x h; obtain ⟨n, _, rfl⟩ := List.mem_map.1 h; simp
@[scoped simp] theorem clean_bk (b : List (List Nat)) : clean (bk b) = true := by simp [bk, clean_tIs]
@[scoped simp] theorem pure_bk (b : List (List Nat)) : D.pure (bk b) = true := pure_of_clean _ (clean_bk b)
theorem mem_nIs {c : Nat} {xs : List Nat} : nI c ∈ xs.map nI ↔ c ∈ xs := by
  constructor
  · intro h
    obtain ⟨n, hn, e⟩ := List.mem_map.1 h
    rw [nI_inj] at e
    exact e ▸ hn
  · exact List.mem_map_of_mem
@[scoped simp] theorem in_nIs {st : St} (c : Nat) (xs : List Nat) : inD st (.int (c : Int)) (xs.map nI) = some (decide (c ∈ xs)) := by
  rw [inD_clean (by simp) (by simp) (by simp) (by simp)]
  exact congrArg some (decide_eq_decide.2 mem_nIs)
@[scoped simp] theorem eq_int {st : St} (i j : Int) : eqD st (.int i) (.int j) = some (decide (i = j)) := by
  rw [eqD_clean (by simp) (by simp) (by simp) (by simp)]
  simp
@[scoped simp] theorem eq_tI {st : St} (a b : List Nat) : eqD st (tI a) (tI b) = some (decide (a = b)) := by
  rw [eqD_clean (by simp) (by simp) (by simp) (by simp)]
  simp
@[scoped simp] theorem eq_tI_nil {st : St} (a : List Nat) : eqD st (tI a) (.tup []) = some (decide (a = [])) := eq_tI (st := st) a []
@[scoped simp] theorem cast_eq {i j : Nat} : ((i : Int) = (j : Int)) ↔ i = j := Int.ofNat_inj
@[scoped simp] theorem seq_tI {st : St} (a : List Nat) : seqOf st (tI a) = some (a.map nI) := rfl
@[scoped simp] theorem seq_bk {st : St} (b : List (List Nat)) : seqOf st (bk b) = some (b.map tI) := rfl
@[scoped simp] theorem seq_tup {st : St} (xs : List D) : seqOf st (.tup xs) = some xs := rfl
@[scoped simp] theorem seq_lst {st : St} (xs : List D) : seqOf st (.lst xs) = some xs := rfl
@[scoped simp] theorem src_tI {st : St} (a : List Nat) : srcOf st (tI a) = none := rfl
@[scoped simp] theorem src_bk {st : St} (a : List (List Nat)) : srcOf st (bk a) = none := rfl
@[scoped simp] theorem src_tup {st : St} (a : List D) : srcOf st (.tup a) = none := rfl
@[scoped simp] theorem src_lst {st : St} (a : List D) : srcOf st (.lst a) = none := rfl
@[scoped simp] theorem stays_none {st : St} : stays none st = true := rfl
@[scoped simp] theorem len_tI {st : St} (a : List Nat) : lenD st (tI a) = some (.int (a.length : Int)) := by simp [tI, lenD, seqOf]
@[scoped simp] theorem len_bk {st : St} (a : List (List Nat)) : lenD st (bk a) = some (.int (a.length : Int)) := by simp [bk, lenD, seqOf]
@[scoped simp] theorem len_tup {st : St} (a : List D) : lenD st (.tup a) = some (.int (a.length : Int)) := by simp [lenD, seqOf]
@[scoped simp] theorem len_lst {st : St} (a : List D) : lenD st (.lst a) = some (.int (a.length : Int)) := by simp [lenD, seqOf]
@[scoped simp] theorem isi_tI (t : Ty) (a : List Nat) : isiD t (tI a) = some (t == .tuple) := rfl
@[scoped simp] theorem isi_bk (t : Ty) (a : List (List Nat)) : isiD t (bk a) = some (t == .tuple) := rfl
@[scoped simp] theorem isi_int (t : Ty) (a : Int) : isiD t (.int a) = some (t == .int) := rfl
@[scoped simp] theorem isi_tup (t : Ty) (a : List D) : isiD t (.tup a) = some (t == .tuple) := rfl
@[scoped simp] theorem truth_bl {st : St} (b : Bool) : truth st (.bl b) = some b := rfl
@[scoped simp] theorem bools_map {α : Type} (f : α → Bool) : ∀ xs : List α, bools (xs.map fun x => .bl (f x)) = some (xs.map f)
  | [] => rfl
  | x :: xs => by simp [bools, bools_map f xs]
@[scoped simp] theorem asInts_nIs : ∀ xs : List Nat, asInts (xs.map nI) = some (xs.map Int.ofNat)
  | [] => rfl
  | x :: xs => by simp [asInts, asInts_nIs xs]
theorem ixN_nat {n i : Nat} (h : i < n) : L2.ixN n (i : Int) = some i := by
  unfold L2.ixN
  rw [if_pos (by omega)]
  simp [h]
@[scoped simp] theorem idx_bk {st : St} {b : List (List Nat)} {i : Nat} (h : i < b.length) : idxD st (bk b) (.int (i : Int)) = some (tI (cols b i)) := by
  simp [bk, idxD, atD, L2.atI, ixN_nat h, h, cols]
@[scoped simp] theorem idx_tI {st : St} {a : List Nat} {i : Nat} (h : i < a.length) : idxD st (tI a) (.int (i : Int)) = some (nI (a.getD i 0)) := by
  simp [tI, idxD, atD, L2.atI, ixN_nat h, h]
/-! ### evaluators -/
section
variable (cl : Cl) (ρ : Rho) (st : St)
@[scoped simp] theorem ev_var (i : Nat) : evE cl (.var i) ρ st = (match ρ[i]? with | some (some d) => some (d, st) | _ => none) := by rw [evE] <;> rfl
@[scoped simp] theorem ev_con (d : D) : evE cl (.con d) ρ st = some (d, st) := by rw [evE]
@[scoped simp] theorem ev_tup (es : Es) : evE cl (.tup es) ρ st = bnd (evEs cl es ρ st) fun ds st => some (.tup ds, st) := by rw [evE]
@[scoped simp] theorem ev_bin (o : Bop) (a b : E) : evE cl (.bin o a b) ρ st = bnd (evE cl a ρ st) fun x st => bnd (evE cl b ρ st) fun y st => liftO st (binD o st x y) := by rw [evE]
@[scoped simp] theorem ev_neg (a : E) : evE cl (.neg a) ρ st = bnd (evE cl a ρ st) fun x st => liftO st (negD x) := by rw [evE]
@[scoped simp] theorem ev_not (a : E) : evE cl (.not a) ρ st = bnd (evE cl a ρ st) fun x st => liftO st ((truth st x).map fun b => .bl (!b)) := by rw [evE]
@[scoped simp] theorem ev_cmp (o : Cop) (a b : E) : evE cl (.cmp o a b) ρ st = bnd (evE cl a ρ st) fun x st => bnd (evE cl b ρ st) fun y st => liftO st ((cmpD o st x y).map .bl) := by rw [evE]
@[scoped simp] theorem ev_chn (o p : Cop) (a b c : E) : evE cl (.chn o p a b c) ρ st = bnd (evE cl a ρ st) fun x st => bnd (evE cl b ρ st) fun y st => (match cmpD o st x y with
    | some true => bnd (evE cl c ρ st) fun z st => liftO st ((cmpD p st y z).map .bl)
    | some false => some (.bl false, st)
    | none => none) := by rw [evE] <;> rfl
/-- the second part of and, or -/
def andK (x : D) (st : St) (r : R D) : R D := match x with
  | .bl true => r
  | .bl false => some (.bl false, st)
  | _ => none
def orK (x : D) (st : St) (r : R D) : R D := match x with
  | .bl true => some (.bl true, st)
  | .bl false => r
  | _ => none
@[scoped simp] theorem andK_t {st : St} {r : R D} : andK (.bl true) st r = r := rfl
@[scoped simp] theorem andK_f {st : St} {r : R D} : andK (.bl false) st r = some (.bl false, st) := rfl
@[scoped simp] theorem orK_t {st : St} {r : R D} : orK (.bl true) st r = some (.bl true, st) := rfl
@[scoped simp] theorem orK_f {st : St} {r : R D} : orK (.bl false) st r = r := rfl
theorem andK_b {st : St} {b c : Bool} : andK (.bl b) st (some (.bl c, st)) = some (.bl (b && c), st) := by cases b <;> rfl
theorem orK_b {st : St} {b c : Bool} : orK (.bl b) st (some (.bl c, st)) = some (.bl (b || c), st) := by cases b <;> rfl
@[scoped simp] theorem ev_and (a b : E) : evE cl (.and a b) ρ st = bnd (evE cl a ρ st) fun x st => andK x st (evE cl b ρ st) := by
  rw [evE]
  congr 1
@[scoped simp] theorem ev_or (a b : E) : evE cl (.or a b) ρ st = bnd (evE cl a ρ st) fun x st => orK x st (evE cl b ρ st) := by
  rw [evE]
  congr 1
@[scoped simp] theorem ev_ite (c a b : E) : evE cl (.ite c a b) ρ st = bnd (evE cl c ρ st) fun x st => (match truth st x with
    | some true => evE cl a ρ st
    | some false => evE cl b ρ st
    | none => none) := by rw [evE] <;> rfl
@[scoped simp] theorem ev_call' (f : Nat) (es : Es) : evE cl (.call f es) ρ st = bnd (evEs cl es ρ st) fun ds st => callE cl f ds st := ev_call cl f es ρ st
@[scoped simp] theorem el_call' (f : Nat) (es : Es) : evL cl (.call f es) ρ st = bnd (evEs cl es ρ st) fun ds st => callL cl f ds st := el_call cl f es ρ st
@[scoped simp] theorem ev_len (a : E) : evE cl (.len a) ρ st = bnd (evE cl a ρ st) fun x st => liftO st (lenD st x) := by rw [evE]
@[scoped simp] theorem ev_intf (a : E) : evE cl (.intf a) ρ st = bnd (evE cl a ρ st) fun x st => liftO st (intD x) := by rw [evE]
@[scoped simp] theorem ev_isi (t : Ty) (a : E) : evE cl (.isi t a) ρ st = bnd (evE cl a ρ st) fun x st => liftO st ((isiD t x).map .bl) := by rw [evE]
@[scoped simp] theorem ev_mx (a b : E) : evE cl (.mx a b) ρ st = bnd (evE cl a ρ st) fun x st => bnd (evE cl b ρ st) fun y st => liftO st (mxD x y) := by rw [evE]
@[scoped simp] theorem ev_mn (a b : E) : evE cl (.mn a b) ρ st = bnd (evE cl a ρ st) fun x st => bnd (evE cl b ρ st) fun y st => liftO st (mnD x y) := by rw [evE]
@[scoped simp] theorem ev_repr (a : E) : evE cl (.repr a) ρ st = bnd (evE cl a ρ st) fun x st => liftO st (reprD st x) := by rw [evE]
@[scoped simp] theorem ev_tupE (a : E) : evE cl (.tupE a) ρ st = bnd (evE cl a ρ st) fun x st => liftO st ((seqOf st x).map .tup) := by rw [evE]
@[scoped simp] theorem ev_tupL (l : L) : evE cl (.tupL l) ρ st = bnd (evL cl l ρ st) fun xs st => some (.tup xs, st) := by rw [evE]
@[scoped simp] theorem ev_allL (l : L) : evE cl (.allL l) ρ st = bnd (evL cl l ρ st) fun xs st => (match bools xs with
    | some bs => some (.bl (bs.all id), st)
    | none => none) := by rw [evE] <;> rfl
@[scoped simp] theorem ev_anyL (l : L) : evE cl (.anyL l) ρ st = bnd (evL cl l ρ st) fun xs st => (match bools xs with
    | some bs => some (.bl (bs.any id), st)
    | none => none) := by rw [evE] <;> rfl
@[scoped simp] theorem ev_idx (a i : E) : evE cl (.idx a i) ρ st = bnd (evE cl a ρ st) fun x st => bnd (evE cl i ρ st) fun y st => liftO st (idxD st x y) := by rw [evE]
@[scoped simp] theorem ev_slice (a : E) (lo hi : OE) : evE cl (.slice a lo hi) ρ st = bnd (evE cl a ρ st) fun x st => bnd (evO cl lo ρ st) fun l st => bnd (evO cl hi ρ st) fun h st => liftO st (sliceD st x l h) := by rw [evE]
@[scoped simp] theorem ev_rev (a : E) : evE cl (.rev a) ρ st = bnd (evE cl a ρ st) fun x st => liftO st (revD st x) := by rw [evE]
@[scoped simp] theorem ev_frz (l : L) : evE cl (.frz l) ρ st = bnd (evL cl l ρ st) fun xs st => some (.lst xs, st) := by rw [evE]
@[scoped simp] theorem ev_new (l : L) : evE cl (.new l) ρ st = bnd (evL cl l ρ st) fun xs st => some (.ref st.length, st ++ [.lst xs]) := by rw [evE]
@[scoped simp] theorem evs_nil : evEs cl .nil ρ st = some ([], st) := by rw [evEs]
@[scoped simp] theorem evs_cons (e : E) (es : Es) : evEs cl (.cons e es) ρ st = bnd (evE cl e ρ st) fun d st => bnd (evEs cl es ρ st) fun ds st => some (d :: ds, st) := by rw [evEs]
@[scoped simp] theorem evo_none : evO cl .none ρ st = some (none, st) := by rw [evO]
@[scoped simp] theorem evo_some (e : E) : evO cl (.some e) ρ st = bnd (evE cl e ρ st) fun d st => (match d with
    | .int i => some (some i, st)
    | _ => none) := by rw [evO] <;> rfl
@[scoped simp] theorem el_disp (es : Es) : evL cl (.disp es) ρ st = evEs cl es ρ st := by rw [evL]
@[scoped simp] theorem el_comp (gs : Gs) : evL cl (.comp gs) ρ st = bnd (evGs cl gs ρ st) fun xs st => if decide (xs.length ≤ cap) then some (xs, st) else none := by rw [evL]
@[scoped simp] theorem el_ofE (a : E) : evL cl (.ofE a) ρ st = bnd (evE cl a ρ st) fun x st => liftO st (seqOf st x) := by rw [evL]
@[scoped simp] theorem el_srt (a : E) : evL cl (.srt a) ρ st = bnd (evE cl a ρ st) fun x st => (match x with
    | .tup xs => (match asInts xs with
      | some is => some ((sortI is).map .int, st)
      | none => none)
    | x => (match lstOf st x with
      | some xs => liftO st (sortD xs)
      | none => none)) := by rw [evL] <;> rfl
@[scoped simp] theorem el_srtL (l : L) : evL cl (.srtL l) ρ st = bnd (evL cl l ρ st) fun xs st => liftO st (sortD xs) := by rw [evL]
@[scoped simp] theorem el_srtSC (gs : Gs) : evL cl (.srtSC gs) ρ st = bnd (evGs cl gs ρ st) fun xs st => if decide (xs.length ≤ 1000) then liftO st (sortSet xs) else none := by rw [evL]
@[scoped simp] theorem et_nil : evTs cl .nil ρ st = some (true, st) := by rw [evTs]
@[scoped simp] theorem et_cons (e : E) (es : Es) : evTs cl (.cons e es) ρ st = bnd (evE cl e ρ st) fun x st => (match truth st x with
    | some true => evTs cl es ρ st
    | some false => some (false, st)
    | none => none) := by rw [evTs] <;> rfl
theorem et_one (e : E) (b : Bool) (h : evE cl e ρ st = some (.bl b, st)) : evTs cl (.cons e .nil) ρ st = some (b, st) := by
  rw [et_cons, h]; cases b <;> simp
@[scoped simp] theorem ei_seq (a : E) : evIt cl (.seq a) ρ st = bnd (evE cl a ρ st) fun x st => (match seqOf st x with
    | some xs => some ((xs, srcOf st x), st)
    | none => none) := by rw [evIt] <;> rfl
@[scoped simp] theorem ei_lis (l : L) : evIt cl (.lis l) ρ st = bnd (evL cl l ρ st) fun xs st => some ((xs, none), st) := by rw [evIt]
@[scoped simp] theorem ei_rng1 (a : E) (n : Nat) (s' : St) (h : evE cl a ρ st = some (.int (n : Int), s')) (hn : n ≤ 1000000) : evIt cl (.rng1 a) ρ st = some (((List.range n).map nI, none), s') := by
  rw [evIt, h]
  simp only [bnd_some]
  rw [if_pos (by simp; omega)]
  simp
/-- 1 .. n - 1 -/
theorem ei_up1 (a : E) (n : Nat) (h : evE cl a ρ st = some (.int (n : Int), st)) (hn : n ≤ 1000000) : evIt cl (.rng2 (.con (.int 1)) a) ρ st = some (((List.range (n - 1)).map (fun k : Nat => D.int (1 + (k : Int))), none), st) := by
  rw [evIt, ev_con, bnd_some, h]
  simp only [bnd_some]
  rw [if_pos (by simp; omega)]
  rw [show ((n : Int) - 1).toNat = n - 1 by omega]
@[scoped simp] theorem liftO_some {α : Type} (a : α) : liftO st (some a) = some (a, st) := rfl
/-- a walk that leaves what is there -/
theorem walkF_flat {α : Type} {src : Option (Nat × List D)} {f : D → St → R (List D)} {st : St} (φ : α → D) (g : α → List D) (hs : stays src st = true) : ∀ xs : List α, (∀ x ∈ xs, f (φ x) st = some (g x, st)) → walkF src f (xs.map φ) st = some (xs.flatMap g, st)
  | [], _ => by simp [walkF, hs]
  | x :: xs, h => by
    simp only [List.map_cons, walkF, hs, if_true, h x (by simp), bnd_some, walkF_flat φ g hs xs fun y hy => h y (by simp [hy]), List.flatMap_cons]
theorem flat_filter {α β : Type} (p : α → Bool) (e : α → β) : ∀ xs : List α, (xs.flatMap fun x => if p x then [e x] else []) = (xs.filter p).map e
  | [] => rfl
  | x :: xs => by
    rw [List.flatMap_cons, flat_filter p e xs]
    cases h : p x <;> simp [h]
theorem eg_fil {cl : Cl} {ρ : Rho} {st : St} {g : G} {it : It} {ifs : Es} {e : E} {α : Type} (φ : α → D) (xs : List α) (p : α → Bool) (e' : α → D) (src : Option (Nat × List D))
    (hit : evIt cl it ρ st = some ((xs.map φ, src), st)) (hs : stays src st = true)
    (hb : ∀ x ∈ xs, ∃ ρ', bindG g (φ x) (wipeR ρ g.slots) = some ρ' ∧ evTs cl ifs ρ' st = some (p x, st) ∧ (p x = true → evE cl e ρ' st = some (e' x, st))) :
    evGs cl (.one g it ifs e) ρ st = some ((xs.filter p).map e', st) := by
  rw [evGs, hit]
  simp only [bnd_some]
  rw [walkF_flat φ (fun x => if p x then [e' x] else []) hs xs, flat_filter]
  intro x hx
  obtain ⟨ρ', h1, h2, h3⟩ := hb x hx
  rw [h1]
  simp only [h2, bnd_some]
  cases hp : p x with
  | false => simp
  | true => simp [h3 hp]
theorem eg_map {cl : Cl} {ρ : Rho} {st : St} {g : G} {it : It} {e : E} {α : Type} (φ : α → D) (xs : List α) (e' : α → D) (src : Option (Nat × List D))
    (hit : evIt cl it ρ st = some ((xs.map φ, src), st)) (hs : stays src st = true)
    (hb : ∀ x ∈ xs, ∃ ρ', bindG g (φ x) (wipeR ρ g.slots) = some ρ' ∧ evE cl e ρ' st = some (e' x, st)) :
    evGs cl (.one g it .nil e) ρ st = some (xs.map e', st) := by
  have := eg_fil (ifs := .nil) φ xs (fun _ => true) e' src hit hs (fun x hx => by
    obtain ⟨ρ', h1, h2⟩ := hb x hx
    exact ⟨ρ', h1, by simp, fun _ => h2⟩)
  rw [this, List.filter_eq_self.2 fun _ _ => rfl]
theorem eg_two {cl : Cl} {ρ : Rho} {st : St} {g g2 : G} {it it2 : It} {ifs ifs2 : Es} {e : E} {α β : Type} (φ : α → D) (xs : List α) (p : α → Bool) (φ2 : α → β → D) (ys : α → List β) (p2 : α → β → Bool) (e' : α → β → D) (src : Option (Nat × List D)) (src2 : α → Option (Nat × List D))
    (hit : evIt cl it ρ st = some ((xs.map φ, src), st)) (hs : stays src st = true)
    (hb : ∀ x ∈ xs, ∃ ρ', bindG g (φ x) (wipeR ρ (g.slots ++ g2.slots)) = some ρ' ∧ evTs cl ifs ρ' st = some (p x, st) ∧ (p x = true → evIt cl it2 ρ' st = some (((ys x).map (φ2 x), src2 x), st) ∧ stays (src2 x) st = true ∧
      ∀ y ∈ ys x, ∃ ρ'', bindG g2 (φ2 x y) (wipeR ρ' g2.slots) = some ρ'' ∧ evTs cl ifs2 ρ'' st = some (p2 x y, st) ∧ (p2 x y = true → evE cl e ρ'' st = some (e' x y, st)))) :
    evGs cl (.two g it ifs g2 it2 ifs2 e) ρ st = some ((xs.filter p).flatMap fun x => ((ys x).filter (p2 x)).map (e' x), st) := by
  rw [evGs, hit]
  simp only [bnd_some]
  rw [walkF_flat φ (fun x => if p x then ((ys x).filter (p2 x)).map (e' x) else []) hs xs]
  · congr 2
    clear hb hit
    induction xs with
    | nil => rfl
    | cons x xs ih =>
      rw [List.flatMap_cons, ih]
      cases h : p x <;> simp [h]
  intro x hx
  obtain ⟨ρ', h1, h2, h3⟩ := hb x hx
  rw [h1]
  simp only [h2, bnd_some]
  cases hp : p x with
  | false => simp
  | true =>
    obtain ⟨h4, h5, h6⟩ := h3 hp
    simp only [h4, if_true, bnd_some]
    rw [walkF_flat (φ2 x) (fun y => if p2 x y then [e' x y] else []) h5 (ys x), flat_filter]
    intro y hy
    obtain ⟨ρ'', h1, h2, h3⟩ := h6 y hy
    rw [h1]
    simp only [h2, bnd_some]
    cases hp : p2 x y with
    | false => simp
    | true => simp [h3 hp]
end
@[scoped simp] theorem bind_nm (i : Nat) (d : D) (ρ : Rho) : bindG (.nm i) d ρ = if i < ρ.length then some (ρ.set i (some d)) else none := by rw [bindG]
@[scoped simp] theorem bind_tp (gs : Gn) (xs : List D) (ρ : Rho) : bindG (.tp gs) (.tup xs) ρ = bindGl gs xs ρ := by rw [bindG]
@[scoped simp] theorem bindl_nil (ρ : Rho) : bindGl .nil [] ρ = some ρ := by rw [bindGl]
@[scoped simp] theorem bindl_cons (g : G) (gs : Gn) (x : D) (xs : List D) (ρ : Rho) : bindGl (.cons g gs) (x :: xs) ρ = (match bindG g x ρ with
    | some ρ' => bindGl gs xs ρ'
    | none => none) := by rw [bindGl] <;> rfl
@[scoped simp] theorem slots_nm (i : Nat) : (G.nm i).slots = [i] := rfl
@[scoped simp] theorem slots_tp (gs : Gn) : (G.tp gs).slots = gs.slots := rfl
@[scoped simp] theorem slots_nil : Gn.nil.slots = [] := rfl
@[scoped simp] theorem slots_cons (g : G) (gs : Gn) : (Gn.cons g gs).slots = g.slots ++ gs.slots := rfl
@[scoped simp] theorem wipe_nil (ρ : Rho) : wipeR ρ [] = ρ := rfl
@[scoped simp] theorem wipe_cons (ρ : Rho) (i : Nat) (r : List Nat) : wipeR ρ (i :: r) = (wipeR ρ r).set i none := rfl
/-! ### statements -/
section
variable (cl : Cl) (W : Nat) (ρ : Rho) (st : St)
@[scoped simp] theorem ss_nil : evSs cl W .nil ρ st = some (.next, ρ, st) := by rw [evSs]
theorem ss_cons (s : S) (ss : Ss) {ρ' : Rho} {st' : St} (h : evS cl W s ρ st = some (.next, ρ', st')) : evSs cl W (.cons s ss) ρ st = evSs cl W ss ρ' st' := by rw [evSs, h]
theorem ss_ret (s : S) (ss : Ss) {ρ' : Rho} {st' : St} {d : D} (h : evS cl W s ρ st = some (.ret d, ρ', st')) : evSs cl W (.cons s ss) ρ st = some (.ret d, ρ', st') := by rw [evSs, h]
/-- the rest behind a statement -/
def thenS (x : Option (Fl × Rho × St)) (k : Rho → St → Option (Fl × Rho × St)) : Option (Fl × Rho × St) := match x with
  | some (.next, ρ', st') => k ρ' st'
  | some (.ret d, ρ', st') => some (.ret d, ρ', st')
  | some (.brk, ρ', st') => some (.brk, ρ', st')
  | some (.cont, ρ', st') => some (.cont, ρ', st')
  | none => none
@[scoped simp] theorem then_next {ρ : Rho} {st : St} {k : Rho → St → Option (Fl × Rho × St)} : thenS (some (.next, ρ, st)) k = k ρ st := rfl
@[scoped simp] theorem then_ret {ρ : Rho} {st : St} {d : D} {k : Rho → St → Option (Fl × Rho × St)} : thenS (some (.ret d, ρ, st)) k = some (.ret d, ρ, st) := rfl
@[scoped simp] theorem ss_step (s : S) (ss : Ss) : evSs cl W (.cons s ss) ρ st = thenS (evS cl W s ρ st) (evSs cl W ss) := by
  rw [evSs]
  rfl
@[scoped simp] theorem s_asg (g : G) (e : E) : evS cl W (.asg g e) ρ st = (match evE cl e ρ st with
    | some (d, st) => (match bindG g d ρ with
      | some ρ' => some (.next, ρ', st)
      | none => none)
    | none => none) := by rw [evS] <;> rfl
@[scoped simp] theorem s_par (i j : Nat) (a b : E) : evS cl W (.par i j a b) ρ st = (match bnd (evE cl a ρ st) fun x st => bnd (evE cl b ρ st) fun y st => some ((x, y), st) with
    | some ((x, y), st) => if i < ρ.length && j < ρ.length && i != j then some (.next, (ρ.set i (some x)).set j (some y), st) else none
    | none => none) := by rw [evS] <;> rfl
@[scoped simp] theorem s_ex (e : E) : evS cl W (.ex e) ρ st = (match evE cl e ρ st with
    | some (_, st) => some (.next, ρ, st)
    | none => none) := by rw [evS] <;> rfl
@[scoped simp] theorem s_ite (c : E) (a b : Ss) : evS cl W (.ite c a b) ρ st = (match test cl c ρ st with
    | some (true, st) => evSs cl W a ρ st
    | some (false, st) => evSs cl W b ρ st
    | none => none) := by rw [evS] <;> rfl
@[scoped simp] theorem test_eq (c : E) : test cl c ρ st = bnd (evE cl c ρ st) fun x st => liftO st (truth st x) := rfl
@[scoped simp] theorem s_ret (e : E) : evS cl W (.ret e) ρ st = (match evE cl e ρ st with
    | some (d, st) => some (.ret d, ρ, st)
    | none => none) := by rw [evS] <;> rfl
@[scoped simp] theorem s_retN : evS cl W .retN ρ st = some (.ret .non, ρ, st) := by rw [evS]
end
end MP

end

section
set_option maxRecDepth 100000
set_option maxHeartbeats 4000000
/-! Plain evaluation: sorted. -/
namespace MP
open MM
open PySem
theorem sorted_ext : ∀ {a b : List Nat}, a.Pairwise (· < ·) → b.Pairwise (· < ·) → (∀ x, x ∈ a ↔ x ∈ b) → a = b
  | [], [], _, _, _ => rfl
  | [], y :: ys, _, _, h => absurd ((h y).2 (by simp)) (by simp)
  | x :: xs, [], _, _, h => absurd ((h x).1 (by simp)) (by simp)
  | x :: xs, y :: ys, ha, hb, h => by
    rw [List.pairwise_cons] at ha hb
    have hxy : x = y := by
      have h1 := (h x).1 (by simp)
      have h2 := (h y).2 (by simp)
      rw [List.mem_cons] at h1 h2
      rcases h1 with h1 | h1
      · exact h1
      · rcases h2 with h2 | h2
        · exact h2.symm
        · have := hb.1 x h1
          have := ha.1 y h2
          omega
    subst hxy
    rw [sorted_ext ha.2 hb.2 fun z => ?_]
    have := h z
    simp only [List.mem_cons] at this
    constructor
    · intro hz
      rcases this.1 (.inr hz) with e | e
      · have := ha.1 z hz; omega
      · exact e
    · intro hz
      rcases this.2 (.inr hz) with e | e
      · have := hb.1 z hz; omega
      · exact e
theorem insI_perm (i : Int) : ∀ l, (insI i l).Perm (i :: l)
  | [] => .refl _
  | j :: r => by
    unfold insI
    split
    · exact .refl _
    · exact ((insI_perm i r).cons j).trans (.swap i j r)
theorem sortI_perm : ∀ l, (sortI l).Perm l
  | [] => .refl _
  | i :: r => (insI_perm i _).trans ((sortI_perm r).cons i)
theorem insI_sorted (i : Int) : ∀ l, l.Pairwise (· ≤ ·) → (insI i l).Pairwise (· ≤ ·)
  | [], _ => by simp [insI]
  | j :: r, h => by
    rw [List.pairwise_cons] at h
    unfold insI
    split
    · rename_i hij
      rw [List.pairwise_cons, List.pairwise_cons]
      exact ⟨fun x hx => by
        rw [List.mem_cons] at hx
        rcases hx with rfl | hx
        · exact hij
        · have := h.1 x hx; omega, h.1, h.2⟩
    · rename_i hij
      rw [List.pairwise_cons]
      refine ⟨fun x hx => ?_, insI_sorted i r h.2⟩
      have := (insI_perm i r).mem_iff.1 hx
      rw [List.mem_cons] at this
      rcases this with rfl | this
      · omega
      · exact h.1 x this
theorem sortI_sorted : ∀ l, (sortI l).Pairwise (· ≤ ·)
  | [] => .nil
  | i :: r => insI_sorted i _ (sortI_sorted r)
theorem sorted_eq_of_perm : ∀ {a b : List Int}, a.Pairwise (· ≤ ·) → b.Pairwise (· ≤ ·) → a.Perm b → a = b
  | [], b, _, _, h => (List.nil_perm.1 h).symm
  | x :: xs, [], _, _, h => absurd h.length_eq (by simp)
  | x :: xs, y :: ys, ha, hb, h => by
    rw [List.pairwise_cons] at ha hb
    have hxy : x = y := by
      have h1 := h.mem_iff.1 (List.mem_cons_self (a := x) (l := xs))
      have h2 := h.mem_iff.2 (List.mem_cons_self (a := y) (l := ys))
      rw [List.mem_cons] at h1 h2
      rcases h1 with h1 | h1
      · exact h1
      · rcases h2 with h2 | h2
        · exact h2.symm
        · have := hb.1 x h1
          have := ha.1 y h2
          omega
    subst hxy
    rw [sorted_eq_of_perm ha.2 hb.2 ((List.perm_cons x).1 h)]
theorem sort_perm {l m : List Nat} (hm : m.Pairwise (· < ·)) (h : l.Perm m) : sortI (l.map Int.ofNat) = m.map Int.ofNat := by
  refine sorted_eq_of_perm (sortI_sorted _) ?_ ((sortI_perm _).trans (h.map _))
  rw [List.pairwise_map]
  exact hm.imp fun k => Int.ofNat_le.2 (Nat.le_of_lt k)
theorem nodup_of_lt {m : List Nat} (hm : m.Pairwise (· < ·)) : m.Nodup := hm.imp fun k => Nat.ne_of_lt k
theorem perm_of_mem {l m : List Nat} (hl : l.Nodup) (hm : m.Nodup) (h : ∀ x, x ∈ l ↔ x ∈ m) : l.Perm m := (List.perm_ext_iff_of_nodup hl hm).2 h
theorem sort_nat {l m : List Nat} (hl : l.Nodup) (hm : m.Pairwise (· < ·)) (h : ∀ x, x ∈ l ↔ x ∈ m) : sortI (l.map Int.ofNat) = m.map Int.ofNat :=
  sort_perm hm (perm_of_mem hl (nodup_of_lt hm) h)
def ddn : List Nat → List Nat
  | [] => []
  | i :: r => if i ∈ r then ddn r else i :: ddn r
theorem dedup_nat : ∀ l : List Nat, dedup (l.map Int.ofNat) = (ddn l).map Int.ofNat
  | [] => rfl
  | i :: r => by
    have e : ((r.map Int.ofNat).contains (Int.ofNat i)) = decide (i ∈ r) := by
      rw [Bool.eq_iff_iff, List.contains_iff_mem, decide_eq_true_eq, List.mem_map]
      constructor
      · rintro ⟨x, hx, hh⟩
        exact Int.ofNat.inj hh ▸ hx
      · exact fun hh => ⟨i, hh, rfl⟩
    rw [List.map_cons, dedup, e, ddn, dedup_nat r]
    by_cases h : i ∈ r <;> simp [h]
theorem mem_ddn : ∀ (l : List Nat) (x : Nat), x ∈ ddn l ↔ x ∈ l
  | [], _ => Iff.rfl
  | i :: r, x => by
    rw [ddn]
    split
    · rename_i h
      rw [mem_ddn r, List.mem_cons]
      exact ⟨.inr, fun k => k.elim (fun e => e ▸ h) id⟩
    · rw [List.mem_cons, List.mem_cons, mem_ddn r]
theorem nodup_ddn : ∀ l : List Nat, (ddn l).Nodup
  | [] => .nil
  | i :: r => by
    rw [ddn]
    split
    · exact nodup_ddn r
    · rename_i h
      exact List.nodup_cons.2 ⟨fun k => h ((mem_ddn r i).1 k), nodup_ddn r⟩
theorem map_int (l : List Nat) : (l.map Int.ofNat).map D.int = l.map nI := by rw [List.map_map]; rfl
theorem set_nat {l m : List Nat} (hm : m.Pairwise (· < ·)) (h : ∀ x, x ∈ l ↔ x ∈ m) (hlen : m.length < 64) : sortSet (l.map nI) = some (m.map nI) := by
  have hp := perm_of_mem (nodup_ddn l) (nodup_of_lt hm) fun x => (mem_ddn l x).trans (h x)
  rw [sortSet, asInts_nIs]
  show (if decide ((dedup (l.map Int.ofNat)).length < 64) = true then some ((sortI (dedup (l.map Int.ofNat))).map D.int) else none) = some (m.map nI)
  rw [dedup_nat, sort_perm hm hp, map_int, if_pos]
  rw [decide_eq_true_eq, List.length_map, hp.length_eq]
  exact hlen
theorem sortD_nat {l m : List Nat} (hm : m.Pairwise (· < ·)) (h : l.Perm m) : sortD (l.map nI) = some (m.map nI) := by
  rw [sortD, asInts_nIs]
  show some ((sortI (l.map Int.ofNat)).map D.int) = _
  rw [sort_perm hm h, map_int]
/-- the numbers below n that p lets, rising -/
def ups (n : Nat) (p : Nat → Bool) : List Nat := (List.range n).filter p
theorem ups_lt (n : Nat) (p : Nat → Bool) : (ups n p).Pairwise (· < ·) := List.Pairwise.filter _ List.pairwise_lt_range
theorem mem_ups {n : Nat} {p : Nat → Bool} {x : Nat} : x ∈ ups n p ↔ x < n ∧ p x = true := by simp [ups]
theorem len_ups (n : Nat) (p : Nat → Bool) : (ups n p).length ≤ n := by
  have := List.length_filter_le p (List.range n)
  rwa [List.length_range] at this
end MP

end

section
set_option maxRecDepth 100000
set_option maxHeartbeats 4000000
/-! Plain evaluation: objects and loops. -/
namespace MP
open MM
open PySem
section
variable (st os : St) (o p q x : O) (n : Nat)
@[scoped simp] theorem get0 : (st ++ o :: os)[st.length]? = some o := by simp
@[scoped simp] theorem get1 : (st ++ o :: p :: os)[st.length + 1]? = some p := by
  rw [List.getElem?_append_right (by omega)]; simp
@[scoped simp] theorem get2 : (st ++ o :: p :: q :: os)[st.length + 2]? = some q := by
  rw [List.getElem?_append_right (by omega)]; simp
@[scoped simp] theorem set0 : (st ++ o :: os).set st.length x = st ++ x :: os := by simp
@[scoped simp] theorem set1 : (st ++ o :: p :: os).set (st.length + 1) x = st ++ o :: x :: os := by
  rw [List.set_append_right _ _ (by omega)]; simp
@[scoped simp] theorem set2 : (st ++ o :: p :: q :: os).set (st.length + 2) x = st ++ o :: p :: x :: os := by
  rw [List.set_append_right _ _ (by omega)]; simp
@[scoped simp] theorem seq_ref : seqOf st (.ref n) = (match st[n]? with | some (.lst xs) => some xs | _ => none) := rfl
@[scoped simp] theorem src_ref : srcOf st (.ref n) = (match st[n]? with | some (.lst xs) => some (n, xs) | _ => none) := rfl
@[scoped simp] theorem isL_ref : isL st (.ref n) = (match st[n]? with | some (.lst _) => true | _ => false) := rfl
theorem lst_ref : lstOf st (.ref n) = seqOf st (.ref n) := rfl
@[scoped simp] theorem lst_ref' : lstOf st (.ref n) = (match st[n]? with | some (.lst xs) => some xs | _ => none) := rfl
@[scoped simp] theorem lst_lst (xs : List D) : lstOf st (.lst xs) = some xs := rfl
@[scoped simp] theorem len_ref : lenD st (.ref n) = (match st[n]? with | some (.lst xs) => some xs | _ => none).map (fun (xs : List D) => D.int xs.length) := rfl
@[scoped simp] theorem app_ref (v : D) : appD st (.ref n) v = (match st[n]? with
    | some (.lst xs) => if decide (xs.length < cap) then some (st.set n (.lst (xs ++ [v]))) else none
    | _ => none) := rfl
@[scoped simp] theorem ext_ref (v : List D) : extD st (.ref n) v = (match st[n]? with
    | some (.lst xs) => if decide (xs.length + v.length ≤ cap) then some (st.set n (.lst (xs ++ v))) else none
    | _ => none) := rfl
@[scoped simp] theorem der_ref : der st (.ref n) = (match st[n]? with | some (.lst xs) => .lst xs | _ => .ref n) := rfl
theorem eq_ref {xs ys : List D} (h : st[n]? = some (.lst xs)) : eqD st (.ref n) (.lst ys) = eqD st (.lst xs) (.lst ys) := by
  simp only [eqD, der_ref, h]
  rfl
end
theorem lst_nI_inj {a b : List Nat} : D.lst (a.map nI) = D.lst (b.map nI) ↔ a = b := by rw [D.lst.injEq]; exact map_nI_inj
@[scoped simp] theorem cleans_app : ∀ a b : List D, cleans (a ++ b) = (cleans a && cleans b)
  | [], b => by simp
  | x :: xs, b => by simp [cleans_app xs b, Bool.and_assoc]
@[scoped simp] theorem pures_app : ∀ a b : List D, D.pures (a ++ b) = (D.pures a && D.pures b)
  | [], b => by simp
  | x :: xs, b => by simp [pures_app xs b, Bool.and_assoc]
@[scoped simp] theorem deps_app : ∀ a b : List D, D.deps (a ++ b) = max (D.deps a) (D.deps b)
  | [], b => by simp
  | x :: xs, b => by simp [deps_app xs b, Nat.max_assoc]
theorem eq_lst0 {st : St} {a : List D} (h : cleans a = true) (h2 : D.deps a ≤ 50) : eqD st (.lst a) (.lst []) = some (decide (a = [])) := by
  rw [eqD_clean (by simpa using h) (by simp) (by simp; omega) (by simp)]
  simp
@[scoped simp] theorem eq_lst_nil {st : St} (a : List Nat) : eqD st (.lst (a.map nI)) (.lst []) = some (decide (a = [])) := by
  rw [eqD_clean (by simp) (by simp) (by simp) (by simp)]
  simp
section
variable (cl : Cl) (W : Nat) (ρ : Rho) (st : St)
@[scoped simp] theorem ev_pop (a : E) : evE cl (.pop a) ρ st = bnd (evE cl a ρ st) fun x st => (match x with
    | .ref n => (match st[n]? with
      | some (.lst xs) => (match xs[xs.length - 1]? with
        | some y => some (y, st.set n (.lst xs.dropLast))
        | none => none)
      | _ => none)
    | _ => none) := by rw [evE] <;> rfl
@[scoped simp] theorem ev_popAt (a i : E) : evE cl (.popAt a i) ρ st = bnd (evE cl a ρ st) fun x st => if isL st x then bnd (evE cl i ρ st) fun y st => popD st x y else none := by rw [evE]
@[scoped simp] theorem s_app (a e : E) : evS cl W (.app a e) ρ st = (match bnd (evE cl a ρ st) fun x st => if isL st x then bnd (evE cl e ρ st) fun v st => liftO st (appD st x v) else none with
    | some (st', _) => some (.next, ρ, st')
    | none => none) := by rw [evS] <;> rfl
@[scoped simp] theorem s_ext (a : E) (l : L) : evS cl W (.ext a l) ρ st = (match bnd (evE cl a ρ st) fun x st => if isL st x then bnd (evL cl l ρ st) fun v st => liftO st (extD st x v) else none with
    | some (st', _) => some (.next, ρ, st')
    | none => none) := by rw [evS] <;> rfl
@[scoped simp] theorem s_extE (a e : E) : evS cl W (.extE a e) ρ st = (match bnd (evE cl a ρ st) fun x st => if isL st x then bnd (evE cl e ρ st) fun v st => (match lstOf st v with
        | some ys => liftO st (extD st x ys)
        | none => none)
      else none with
    | some (st', _) => some (.next, ρ, st')
    | none => none) := by rw [evS] <;> rfl
theorem s_whl (c : E) (b : Ss) : evS cl W (.whl c b) ρ st = whlF (test cl c) (evSs cl W b) W ρ st := by rw [evS]
/-- a loop's body with its item bound -/
def bodyF (g : G) (b : Ss) (x : D) (ρ : Rho) (st : St) : Option (Fl × Rho × St) := match bindG g x ρ with
  | some ρ' => evSs cl W b ρ' st
  | none => none
theorem s_for (g : G) (it : It) (b : Ss) : evS cl W (.forS g it b) ρ st = (match evIt cl it ρ st with
    | some ((xs, src), st) => forF src (bodyF cl W g b) xs ρ st
    | none => none) := by rw [evS] <;> rfl
end
theorem whl_rule {c : Rho → St → R Bool} {f : Rho → St → Option (Fl × Rho × St)} (I : Nat → Rho → St → Prop) (Q : Fl → Rho → St → Prop)
    (step : ∀ m ρ st, I m ρ st → (c ρ st = some (false, st) ∧ Q .next ρ st) ∨ (c ρ st = some (true, st) ∧ ((∃ ρ' st' m', f ρ st = some (.next, ρ', st') ∧ m' < m ∧ I m' ρ' st') ∨ ∃ d ρ' st', f ρ st = some (.ret d, ρ', st') ∧ Q (.ret d) ρ' st'))) :
    ∀ k m ρ st, m < k → I m ρ st → ∃ fl ρ' st', whlF c f k ρ st = some (fl, ρ', st') ∧ Q fl ρ' st'
  | 0, m, ρ, st, hm, _ => absurd hm (by omega)
  | k + 1, m, ρ, st, hm, hi => by
    rcases step m ρ st hi with ⟨h1, h2⟩ | ⟨h1, h2⟩
    · exact ⟨.next, ρ, st, by rw [whlF, h1], h2⟩
    · rcases h2 with ⟨ρ', st', m', h3, h4, h5⟩ | ⟨d, ρ', st', h3, h4⟩
      · obtain ⟨fl, ρ'', st'', h6, h7⟩ := whl_rule I Q step k m' ρ' st' (by omega) h5
        refine ⟨fl, ρ'', st'', ?_, h7⟩
        rw [whlF, h1]
        simp only [h3]
        exact h6
      · refine ⟨.ret d, ρ', st', ?_, h4⟩
        rw [whlF, h1]
        simp only [h3]
theorem for_rule {α : Type} {src : Option (Nat × List D)} {f : D → Rho → St → Option (Fl × Rho × St)} (φ : α → D) (I : List α → Rho → St → Prop) (Q : Fl → Rho → St → Prop)
    (stop : ∀ ρ st, I [] ρ st → stays src st = true ∧ Q .next ρ st)
    (step : ∀ x xs ρ st, I (x :: xs) ρ st → stays src st = true ∧ ((∃ ρ' st', f (φ x) ρ st = some (.next, ρ', st') ∧ I xs ρ' st') ∨ ∃ d ρ' st', f (φ x) ρ st = some (.ret d, ρ', st') ∧ Q (.ret d) ρ' st')) :
    ∀ xs ρ st, I xs ρ st → ∃ fl ρ' st', forF src f (xs.map φ) ρ st = some (fl, ρ', st') ∧ Q fl ρ' st'
  | [], ρ, st, hi => by
    obtain ⟨h1, h2⟩ := stop ρ st hi
    exact ⟨.next, ρ, st, by simp [forF, h1], h2⟩
  | x :: xs, ρ, st, hi => by
    obtain ⟨h1, h2⟩ := step x xs ρ st hi
    rcases h2 with ⟨ρ', st', h3, h5⟩ | ⟨d, ρ', st', h3, h4⟩
    · obtain ⟨fl, ρ'', st'', h6, h7⟩ := for_rule φ I Q stop step xs ρ' st' h5
      refine ⟨fl, ρ'', st'', ?_, h7⟩
      rw [List.map_cons, forF, if_pos h1]
      simp only [h3]
      exact h6
    · refine ⟨.ret d, ρ', st', ?_, h4⟩
      rw [List.map_cons, forF, if_pos h1]
      simp only [h3]
end MP

end

section
set_option maxRecDepth 100000
set_option maxHeartbeats 4000000
/-! Plain evaluation: the jar at 0, new lists told. -/
namespace MP
open MM
open PySem
@[reducible] def J (a b : Int) : O := .lst [.int a, .int b]
theorem oldOk_J (a b a' b' : Int) (rest ex : St) (L : Nat) : oldOk L (J a b :: rest) (J a' b' :: (rest ++ ex)) = true := by
  simp [oldOk, oldOk_app, O.under]
theorem fin_J {a b a' b' : Int} {rest ex : St} {d : D} (h : D.pure d = true) : finV (J a b :: rest) (d, J a' b' :: (rest ++ ex)) = some (d, J a' b' :: rest) := by
  simp [finV, oldOk_J, frzD, h]
theorem fin_J0 {a b a' b' : Int} {rest : St} {d : D} (h : D.pure d = true) : finV (J a b :: rest) (d, J a' b' :: rest) = some (d, J a' b' :: rest) := by
  have := fin_J (a := a) (b := b) (a' := a') (b' := b') (rest := rest) (ex := []) h
  simpa using this
theorem mapM_id {f : D → Option D} : ∀ xs : List D, (∀ x ∈ xs, f x = some x) → xs.mapM f = some xs
  | [], _ => rfl
  | x :: xs, h => by
    rw [List.mapM_cons, h x (by simp), mapM_id xs fun y hy => h y (by simp [hy])]
    rfl
/-- what a call leaves as it is: plain data, or objects below L -/
def Keep (L : Nat) (x : D) : Prop := D.pure x = true ∨ ∃ n, n < L ∧ x = .ref n
theorem frz_keep {st : St} {L k : Nat} {x : D} (h : Keep L x) : frzD st L (k + 1) x = some x := by
  rcases h with h | ⟨n, h, rfl⟩
  · simp [frzD, h]
  · simp [frzD, h]
theorem frz_new {st : St} {L n k : Nat} {xs : List D} (hn : L ≤ n) (h : st[n]? = some (.lst xs)) (hx : ∀ x ∈ xs, Keep L x) : frzD st L (k + 2) (.ref n) = some (.lst xs) := by
  rw [frzD]
  simp only [pure_ref, Bool.false_eq_true, if_false]
  rw [if_neg (by omega), h]
  simp only
  by_cases hp : D.pures xs = true
  · rw [if_pos hp]
  · rw [if_neg hp, mapM_id xs fun x hm => frz_keep (hx x hm)]
    rfl
theorem fin_new {st0 st' ex : St} {n : Nat} {xs : List D} (hl : st'.length = st0.length) (ho : oldOk st0.length st0 (st' ++ ex) = true) (hn : st0.length ≤ n) (h : (st' ++ ex)[n]? = some (.lst xs)) (hx : ∀ x ∈ xs, Keep st0.length x) :
    finV st0 (.ref n, st' ++ ex) = some (.lst xs, st') := by
  rw [finV, if_pos ho]
  simp only
  rw [frz_new hn h hx, ← hl]
  simp
theorem fin_newJ {a b a' b' : Int} {rest ex : St} {n : Nat} {xs : List D} (hn : rest.length + 1 ≤ n) (h : (J a' b' :: (rest ++ ex))[n]? = some (.lst xs)) (hx : ∀ x ∈ xs, Keep (rest.length + 1) x) :
    finV (J a b :: rest) (.ref n, J a' b' :: (rest ++ ex)) = some (.lst xs, J a' b' :: rest) := by
  have := fin_new (st0 := J a b :: rest) (st' := J a' b' :: rest) (ex := ex) (n := n) (xs := xs) rfl (oldOk_J ..) hn h hx
  simpa using this
theorem fin_new0 {st ex : St} {n : Nat} {xs : List D} (hn : st.length ≤ n) (h : (st ++ ex)[n]? = some (.lst xs)) (hx : ∀ x ∈ xs, Keep st.length x) :
    finV st (.ref n, st ++ ex) = some (.lst xs, st) := fin_new rfl (oldOk_app ..) hn h hx
/-- a def that tells a new list of xs, whatever is there, and leaves what is there -/
def PurL (cl : Cl) (f : Nat) (ds : List D) (xs : List D) : Prop := D.pures xs = true ∧ ∀ st, ∃ n ex, cl f ds st = some (.ref n, st ++ ex) ∧ st.length ≤ n ∧ (st ++ ex)[n]? = some (.lst xs)
theorem PurL.call {cl : Cl} {f : Nat} {ds xs : List D} (h : PurL cl f ds xs) (st : St) : callE cl f ds st = some (.lst xs, st) := by
  obtain ⟨n, ex, e, h1, h2⟩ := h.2 st
  unfold callE
  rw [e]
  exact fin_new0 h1 h2 fun x hx => .inl ((pures_iff xs).1 h.1 x hx)
section
variable (cl : Cl) (W : Nat) (ρ : Rho) (st : St)
@[scoped simp] theorem s_setI (a i e : E) : evS cl W (.setI a i e) ρ st = (match bnd (evE cl e ρ st) fun v st => bnd (evE cl a ρ st) fun x st => bnd (evE cl i ρ st) fun k st => liftO st ((setD st x k v).map fun s => (s : St)) with
    | some (st', _) => some (.next, ρ, st')
    | none => none) := by rw [evS] <;> rfl
@[scoped simp] theorem ev_index (a x : E) : evE cl (.index a x) ρ st = bnd (evE cl a ρ st) fun a st => if isT a then bnd (evE cl x ρ st) fun x st => liftO st (indexD a x) else none := by rw [evE]
@[scoped simp] theorem ev_get2 (a k d : E) : evE cl (.get2 a k d) ρ st = bnd (evE cl a ρ st) fun a st => if isDc st a then bnd (evE cl k ρ st) fun k st => bnd (evE cl d ρ st) fun d st => getD2 st a k d else none := by rw [evE]
@[scoped simp] theorem ev_dictOf (a : E) : evE cl (.dictOf a) ρ st = bnd (evE cl a ρ st) fun a st => (match lstOf st a with
    | some xs => (match pairsOf xs with
      | some ps => if ps.all fun p => isKey p.1 then some (.ref st.length, st ++ [.dct (ps.foldl (fun kvs p => putKv p.1 p.2 kvs) [])]) else none
      | none => none)
    | none => none) := by rw [evE] <;> rfl
@[scoped simp] theorem el_ite (c : E) (a b : L) : evL cl (.ite c a b) ρ st = bnd (evE cl c ρ st) fun x st => (match truth st x with
    | some true => evL cl a ρ st
    | some false => evL cl b ρ st
    | none => none) := by rw [evL] <;> rfl
end
/-- a list or a tuple by its items -/
theorem len_seq {st : St} {x : D} {xs : List D} (h : seqOf st x = some xs) : lenD st x = some (.int (xs.length : Int)) := by
  cases x with
  | tup ys => cases h; simp
  | lst ys => cases h; simp
  | ref n => simp only [len_ref]; rw [seq_ref] at h; rw [h]; rfl
  | _ => simp [seqOf] at h
theorem idx_seq {st : St} {x y : D} {xs : List D} {i : Nat} (h : seqOf st x = some xs) (hy : xs[i]? = some y) : idxD st x (.int (i : Int)) = some y := by
  have hi : i < xs.length := by
    rw [List.getElem?_eq_some_iff] at hy
    exact hy.1
  cases x with
  | tup ys => cases h; simp [idxD, atD, L2.atI, ixN_nat hi, hy]
  | lst ys => cases h; simp [idxD, atD, L2.atI, ixN_nat hi, hy]
  | ref n =>
    simp only [idxD]
    rw [h]
    simp [atD, L2.atI, ixN_nat hi, hy]
  | _ => simp [seqOf] at h
end MP

end

section
set_option maxRecDepth 100000
set_option maxHeartbeats 4000000
/-! Plain evaluation: states told by looks. -/
namespace MP
open MM
open PySem
/-- s has st ahead -/
def Over (st s : St) : Prop := ∃ ex, s = st ++ ex
theorem Over.refl (st : St) : Over st st := ⟨[], by simp⟩
theorem Over.len {st s : St} (h : Over st s) : st.length ≤ s.length := by obtain ⟨ex, rfl⟩ := h; simp
theorem Over.app {st s : St} (h : Over st s) (o : St) : Over st (s ++ o) := by obtain ⟨ex, rfl⟩ := h; exact ⟨ex ++ o, by simp⟩
theorem Over.set {st s : St} (h : Over st s) {n : Nat} (o : O) (hn : st.length ≤ n) : Over st (s.set n o) := by
  obtain ⟨ex, rfl⟩ := h
  exact ⟨ex.set (n - st.length) o, by rw [List.set_append_right _ _ hn]⟩
theorem lt_of_get {s : St} {n : Nat} {o : O} (h : s[n]? = some o) : n < s.length := (List.getElem?_eq_some_iff.1 h).1
/-- a state with one object other -/
theorem upd_st {s : St} {n : Nat} {o : O} (h : s[n]? = some o) (x : O) : ∃ s', s.set n x = s' ∧ s'[n]? = some x ∧ (∀ m, m ≠ n → s'[m]? = s[m]?) ∧ s'.length = s.length :=
  ⟨_, rfl, by rw [List.getElem?_set_self (lt_of_get h)], fun m hm => List.getElem?_set_ne (Ne.symm hm), List.length_set⟩
/-- .. one object more -/
theorem new_st (s : St) (x : O) : ∃ s', s ++ [x] = s' ∧ s'[s.length]? = some x ∧ (∀ (m : Nat) (o : O), s[m]? = some o → s'[m]? = some o) ∧ s'.length = s.length + 1 :=
  ⟨_, rfl, by simp, fun m o h => by rw [List.getElem?_append_left (lt_of_get h)]; exact h, by simp⟩
end MP

end

section
set_option maxRecDepth 100000
set_option maxHeartbeats 4000000
/-! Plain evaluation: repr. -/
namespace MP
open MM
open PySem
open PySem.PyData (strOk)
theorem ok_of (x : String) : strOk (Str.ofString x) = true := by
  rw [Str.ofString_eq_toList]
  unfold strOk
  rw [Array.all_eq_true']
  intro c hc
  simp only [List.mem_toArray, List.mem_map] at hc
  obtain ⟨d, _, rfl⟩ := hc
  rw [decide_eq_true_eq]
  have := d.valid
  have e : d.toNat = d.val.toNat := rfl
  rcases this with h | h
  · rw [e]; omega
  · rw [e]; omega
theorem ok_app (a b : Str) : strOk (a ++ b) = (strOk a && strOk b) := by
  show strOk (Str.append a b) = _
  unfold strOk Str.append
  rw [Array.all_append]
theorem ok_join : ∀ ts : List Str, (∀ t ∈ ts, strOk t = true) → strOk (Str.join (Str.ofString ", ") ts) = true
  | [], _ => by simp [Str.join, Str.empty, strOk]
  | [x], h => h x (by simp)
  | x :: y :: r, h => by
    show strOk (x ++ Str.ofString ", " ++ Str.join (Str.ofString ", ") (y :: r)) = true
    rw [ok_app, ok_app, h x (by simp), ok_of, ok_join (y :: r) fun t ht => h t (by simp [ht])]
    rfl
theorem ok_text : ∀ (ts : List Str) (k : Nat) (acc : Str), strOk acc = true → (∀ t ∈ ts, strOk t = true) → strOk (textFrom k acc ts) = true
  | [], _, acc, h, _ => h
  | t :: ts, k, acc, h, ht => by
    rw [textFrom]
    refine ok_text ts (k + 1) _ ?_ fun u hu => ht u (by simp [hu])
    rw [ok_app, ok_app, h, ht t (by simp)]
    split <;> rw [ok_of] <;> rfl
mutual
theorem ok_shown : ∀ d : D, clean d = true → strOk (PyData.shown d.py) = true
  | .non, _ => ok_of _
  | .int i, _ => ok_of _
  | .tup xs, h => by
    show strOk (tupleText (PyData.shownAll (D.pys xs))) = true
    have ih := ok_showns xs (by simpa using h)
    unfold tupleText
    rw [ok_app, ok_app, ok_of, ok_join _ ih]
    split <;> rw [ok_of] <;> rfl
  | .lst xs, h => by
    show strOk (listText (PyData.shownAll (D.pys xs))) = true
    have ih := ok_showns xs (by simpa using h)
    unfold listText
    rw [ok_app, ok_of, ok_text _ _ _ (ok_of _) ih]
    rfl
  | .bl _, h => by simp at h
  | .str _, h => by simp at h
  | .scr _, h => by simp at h
  | .ref _, h => by simp at h
theorem ok_showns : ∀ ds : List D, cleans ds = true → ∀ t ∈ PyData.shownAll (D.pys ds), strOk t = true
  | [], _, t, ht => by cases ht
  | x :: xs, h, t, ht => by
    have h' : clean x = true ∧ cleans xs = true := by simpa using h
    rw [D.pys, PyData.shownAll, List.mem_cons] at ht
    rcases ht with rfl | ht
    · exact ok_shown x h'.1
    · exact ok_showns xs h'.2 t ht
end
theorem ok_bl (b : Bool) : strOk (PyData.shown (D.py (.bl b))) = true := by
  cases b <;> exact ok_of _
theorem eq_str {st : St} {x : Str} (h : strOk x = true) : eqD st (.str x) (.str x) = some true := by
  have hd : D.dep (.str x) = 0 := by
    show (if PyData.canLay0 (.str x) = true then 0 else 1000) = 0
    rw [if_pos (by simpa [PyData.canLay0] using h)]
  have hp : D.pure (.str x) = true := rfl
  simp only [eqD, der, hp, hd]
  simp [D.py, PyData.eqv]
theorem repr_clean {st : St} {d : D} (h : clean d = true) (h2 : D.dep d ≤ 60) (h3 : D.wt d ≤ cap) : reprD st d = some (.str (PyData.shown d.py)) := by
  unfold reprD
  rw [der_clean h, pure_of_clean d h]
  simp [h2, h3]
theorem repr_bl {st : St} (b : Bool) : reprD st (.bl b) = some (.str (PyData.shown (D.py (.bl b)))) := by
  cases b <;> rfl
@[scoped simp] theorem eq_bl {st : St} (a b : Bool) : eqD st (.bl a) (.bl b) = some (a == b) := by
  cases a <;> cases b <;> rfl
theorem ne_repr {cl : Cl} {a b : E} {ρ : Rho} {st : St} {d : D} (ha : evE cl a ρ st = some (d, st)) (hb : evE cl b ρ st = some (d, st)) (hd : (clean d = true ∧ D.dep d ≤ 60 ∧ D.wt d ≤ cap) ∨ ∃ k, d = .bl k) :
    evE cl (.cmp .ne (.repr a) (.repr b)) ρ st = some (.bl false, st) := by
  have : ∃ x, reprD st d = some (.str x) ∧ strOk x = true := by
    rcases hd with ⟨h1, h2, h3⟩ | ⟨k, rfl⟩
    · exact ⟨_, repr_clean h1 h2 h3, ok_shown d h1⟩
    · exact ⟨_, repr_bl k, ok_bl k⟩
  obtain ⟨x, h1, h2⟩ := this
  rw [ev_cmp, ev_repr, ha, bnd_some, h1]
  simp only [liftO_some, bnd_some]
  rw [ev_repr, hb, bnd_some, h1]
  simp only [liftO_some, bnd_some, cmpD]
  rw [eq_str h2]
  rfl
/-! ### truths within -/
mutual
@[scoped simp] def tame : D → Bool
  | .non => true
  | .bl _ => true
  | .int _ => true
  | .tup xs => tames xs
  | .lst xs => tames xs
  | _ => false
@[scoped simp] def tames : List D → Bool
  | [] => true
  | x :: xs => tame x && tames xs
end
mutual
theorem ok_tame : ∀ d : D, tame d = true → strOk (PyData.shown d.py) = true
  | .non, _ => ok_of _
  | .bl b, _ => ok_bl b
  | .int i, _ => ok_of _
  | .tup xs, h => by
    show strOk (tupleText (PyData.shownAll (D.pys xs))) = true
    have ih := ok_tames xs (by simpa using h)
    unfold tupleText
    rw [ok_app, ok_app, ok_of, ok_join _ ih]
    split <;> rw [ok_of] <;> rfl
  | .lst xs, h => by
    show strOk (listText (PyData.shownAll (D.pys xs))) = true
    have ih := ok_tames xs (by simpa using h)
    unfold listText
    rw [ok_app, ok_of, ok_text _ _ _ (ok_of _) ih]
    rfl
  | .str _, h => by simp at h
  | .scr _, h => by simp at h
  | .ref _, h => by simp at h
theorem ok_tames : ∀ ds : List D, tames ds = true → ∀ t ∈ PyData.shownAll (D.pys ds), strOk t = true
  | [], _, t, ht => by cases ht
  | x :: xs, h, t, ht => by
    have h' : tame x = true ∧ tames xs = true := by simpa using h
    rw [D.pys, PyData.shownAll, List.mem_cons] at ht
    rcases ht with rfl | ht
    · exact ok_tame x h'.1
    · exact ok_tames xs h'.2 t ht
end
mutual
theorem pure_tame : ∀ d, tame d = true → D.pure d = true
  | .non, _ => rfl
  | .bl _, _ => rfl
  | .int _, _ => rfl
  | .str _, _ => rfl
  | .tup xs, h => by simpa using pures_tames xs (by simpa using h)
  | .lst xs, h => by simpa using pures_tames xs (by simpa using h)
  | .scr _, _ => rfl
  | .ref _, h => by simp at h
theorem pures_tames : ∀ d, tames d = true → D.pures d = true
  | [], _ => rfl
  | x :: xs, h => by
    have h' : tame x = true ∧ tames xs = true := by simpa using h
    simp [pure_tame x h'.1, pures_tames xs h'.2]
end
mutual
theorem tame_clean : ∀ d, clean d = true → tame d = true
  | .non, _ => rfl
  | .int _, _ => rfl
  | .tup xs, h => by simpa using tames_cleans xs (by simpa using h)
  | .lst xs, h => by simpa using tames_cleans xs (by simpa using h)
  | .bl _, h => by simp at h
  | .str _, h => by simp at h
  | .scr _, h => by simp at h
  | .ref _, h => by simp at h
theorem tames_cleans : ∀ d, cleans d = true → tames d = true
  | [], _ => rfl
  | x :: xs, h => by
    have h' : clean x = true ∧ cleans xs = true := by simpa using h
    simp [tame_clean x h'.1, tames_cleans xs h'.2]
end
theorem der_tame {st : St} {a : D} (h : tame a = true) : der st a = a := by cases a <;> simp_all [der]
/-- both told: the same text -/
theorem ne_tame {cl : Cl} {a b : E} {ρ : Rho} {st st1 st2 : St} {d : D} (ha : evE cl a ρ st = some (d, st1)) (hb : evE cl b ρ st1 = some (d, st2)) (hd : tame d = true) (h2 : D.dep d ≤ 60) (h3 : D.wt d ≤ cap) :
    evE cl (.cmp .ne (.repr a) (.repr b)) ρ st = some (.bl false, st2) := by
  have hr : ∀ st, reprD st d = some (.str (PyData.shown d.py)) := fun st => by
    unfold reprD
    rw [der_tame hd, pure_tame d hd]
    simp [h2, h3]
  rw [ev_cmp, ev_repr, ha, bnd_some, hr]
  simp only [liftO_some, bnd_some]
  rw [ev_repr, hb, bnd_some, hr]
  simp only [liftO_some, bnd_some, cmpD]
  rw [eq_str (ok_tame d hd)]
  rfl
end MP

end

section
/-! Books as relations: source i has column c. No program in sight. -/
namespace PM
variable (C : Nat → Nat → Prop)
def Near (i j : Nat) : Prop := i ≠ j ∧ ∃ c, C i c ∧ C j c
theorem Near.symm {C} {i j : Nat} (h : Near C i j) : Near C j i := ⟨fun e => h.1 e.symm, h.2.choose, h.2.choose_spec.2, h.2.choose_spec.1⟩
def Hung (G : Nat → Prop) : Prop := (∃ x, G x) ∧ ∀ p : Nat → Prop, (∃ x, G x ∧ p x) → (∃ y, G y ∧ ¬ p y) → ∃ x y, G x ∧ G y ∧ p x ∧ ¬ p y ∧ Near C x y
def Good (L R : Nat → Prop) : Prop := (∃ i j, L i ∧ R j ∧ Near C i j) ∧ ∀ i j, L i → R j → Near C i j → ∀ c, (∃ x, L x ∧ C x c) → (∃ y, R y ∧ C y c) → C i c ∧ C j c
theorem Good.symm {C} {L R : Nat → Prop} (h : Good C L R) : Good C R L := by
  obtain ⟨⟨i, j, hi, hj, hn⟩, h2⟩ := h
  exact ⟨⟨j, i, hj, hi, hn.symm⟩, fun i j hi hj hn c hl hr => (h2 j i hj hi hn.symm c hr hl).symm⟩
theorem hung_one {C} {G : Nat → Prop} {x : Nat} (h : ∀ y, G y ↔ y = x) : Hung C G := by
  refine ⟨⟨x, (h x).2 rfl⟩, ?_⟩
  rintro p ⟨a, ha, hp⟩ ⟨b, hb, hq⟩
  rw [(h a).1 ha] at hp
  rw [(h b).1 hb] at hq
  exact absurd hp hq
theorem hung_congr {C} {G G' : Nat → Prop} (h : ∀ y, G y ↔ G' y) (k : Hung C G) : Hung C G' := by
  have : G = G' := funext fun y => propext (h y)
  exact this ▸ k
theorem good_congr {C} {G G' R R' : Nat → Prop} (h : ∀ y, G y ↔ G' y) (h' : ∀ y, R y ↔ R' y) (k : Good C G R) : Good C G' R' := by
  have e : G = G' := funext fun y => propext (h y)
  have e' : R = R' := funext fun y => propext (h' y)
  exact e ▸ e' ▸ k
/-- two groups that hang together and meet -/
theorem hung_join {C} {L R : Nat → Prop} (hl : Hung C L) (hr : Hung C R) (h : ∃ i j, L i ∧ R j ∧ Near C i j) : Hung C fun x => L x ∨ R x := by
  obtain ⟨i, j, hi, hj, hn⟩ := h
  refine ⟨⟨i, .inl hi⟩, fun p hp hq => ?_⟩
  by_cases hpl : ∃ x, L x ∧ p x
  · by_cases hql : ∃ x, L x ∧ ¬ p x
    · obtain ⟨x, y, a, b, c⟩ := hl.2 p hpl hql
      exact ⟨x, y, .inl a, .inl b, c⟩
    · by_cases hpr : ∃ x, R x ∧ p x
      · by_cases hqr : ∃ x, R x ∧ ¬ p x
        · obtain ⟨x, y, a, b, c⟩ := hr.2 p hpr hqr
          exact ⟨x, y, .inr a, .inr b, c⟩
        · obtain ⟨y, hy, hq⟩ := hq
          cases hy with
          | inl hy => exact absurd ⟨y, hy, hq⟩ hql
          | inr hy => exact absurd ⟨y, hy, hq⟩ hqr
      · have pi : p i := Classical.byContradiction fun k => hql ⟨i, hi, k⟩
        have qj : ¬ p j := fun k => hpr ⟨j, hj, k⟩
        exact ⟨i, j, .inl hi, .inr hj, pi, qj, hn⟩
  · have qi : ¬ p i := fun k => hpl ⟨i, hi, k⟩
    by_cases hqr : ∃ x, R x ∧ ¬ p x
    · obtain ⟨y, hy, hp⟩ := hp
      cases hy with
      | inl hy => exact absurd ⟨y, hy, hp⟩ hpl
      | inr hy =>
        obtain ⟨x, y, a, b, c⟩ := hr.2 p ⟨y, hy, hp⟩ hqr
        exact ⟨x, y, .inr a, .inr b, c⟩
    · have pj : p j := Classical.byContradiction fun k => hqr ⟨j, hj, k⟩
      exact ⟨j, i, .inr hj, .inl hi, pj, qi, hn.symm⟩
/-- a good fork cut to a group that hangs together: the left side hangs together -/
theorem cut_left {C} {L R H : Nat → Prop} (hg : Good C L R) (hH : Hung C H) (hs : ∀ x, H x → L x ∨ R x) (hd : ∀ x, L x → R x → False) (hr : ∃ x, H x ∧ R x) (hl : ∃ x, H x ∧ L x) : Hung C fun x => H x ∧ L x := by
  refine ⟨hl, fun p => ?_⟩
  rintro ⟨a, ⟨ha, hal⟩, hpa⟩ ⟨b, ⟨hb, hbl⟩, hqb⟩
  refine Classical.byContradiction fun hno => ?_
  have none : ∀ x y, (H x ∧ L x) → (H y ∧ L y) → p x → ¬ p y → ¬ Near C x y := fun x y hx hy hp hq hn => hno ⟨x, y, hx, hy, hp, hq, hn⟩
  obtain ⟨x, y, hx, hy, ⟨hxl, hxp⟩, hny, hn⟩ := hH.2 (fun x => L x ∧ p x) ⟨a, ha, hal, hpa⟩ ⟨b, hb, fun k => hqb k.2⟩
  have hyr : R y := by
    cases hs y hy with
    | inl k => exact absurd hn (none x y ⟨hx, hxl⟩ ⟨hy, k⟩ hxp fun q => hny ⟨k, q⟩)
    | inr k => exact k
  obtain ⟨u, v, hu, hv, ⟨hul, hup⟩, hnv, hm⟩ := hH.2 (fun x => L x ∧ ¬ p x) ⟨b, hb, hbl, hqb⟩ ⟨a, ha, fun k => k.2 hpa⟩
  have hvr : R v := by
    cases hs v hv with
    | inl k => exact absurd hm.symm (none v u ⟨hv, k⟩ ⟨hu, hul⟩ (Classical.byContradiction fun q => hnv ⟨k, q⟩) hup)
    | inr k => exact k
  obtain ⟨_, c, hcx, hcy⟩ := hn
  have hc := (hg.2 u v hul hvr hm c ⟨x, hxl, hcx⟩ ⟨y, hyr, hcy⟩).1
  exact none x u ⟨hx, hxl⟩ ⟨hu, hul⟩ hxp hup ⟨fun e => hup (e ▸ hxp), c, hcx, hc⟩
theorem cut_good {C} {L R H : Nat → Prop} (hg : Good C L R) (hH : Hung C H) (hs : ∀ x, H x → L x ∨ R x) (hd : ∀ x, L x → R x → False) (hr : ∃ x, H x ∧ R x) (hl : ∃ x, H x ∧ L x) : Good C (fun x => H x ∧ L x) (fun x => H x ∧ R x) := by
  refine ⟨?_, ?_⟩
  · obtain ⟨a, ha, har⟩ := hr
    obtain ⟨x, y, hx, hy, hp, hq, hn⟩ := hH.2 L (by obtain ⟨x, h⟩ := hl; exact ⟨x, h⟩) ⟨a, ha, fun k => hd a k har⟩
    refine ⟨x, y, ⟨hx, hp⟩, ⟨hy, ?_⟩, hn⟩
    cases hs y hy with
    | inl k => exact absurd k hq
    | inr k => exact k
  · rintro i j hi hj hn c ⟨x, hx, hc⟩ ⟨y, hy, hc'⟩
    exact hg.2 i j hi.2 hj.2 hn c ⟨x, hx.2, hc⟩ ⟨y, hy.2, hc'⟩
def CanGo (G : Nat → Prop) (x : Nat) : Prop := Hung C (fun y => G y ∧ y ≠ x) ∧ Good C (fun y => G y ∧ y ≠ x) (fun y => y = x)
/-- what can be taken off to one source -/
inductive Dism : (Nat → Prop) → Prop
  | one {G : Nat → Prop} (x : Nat) (h : ∀ y, G y ↔ y = x) : Dism G
  | off {G : Nat → Prop} (x : Nat) (hx : G x) (hc : CanGo C G x) (h : Dism fun y => G y ∧ y ≠ x) : Dism G
theorem Dism.congr {C} {G G' : Nat → Prop} (h : ∀ y, G y ↔ G' y) (k : Dism C G) : Dism C G' := by
  have : G = G' := funext fun y => propext (h y)
  exact this ▸ k
theorem Dism.cut {C} {G : Nat → Prop} (h : Dism C G) : ∀ H : Nat → Prop, (∀ x, H x → G x) → Hung C H → Dism C H := by
  induction h with
  | one x hx =>
    intro H hs hH
    obtain ⟨a, ha⟩ := hH.1
    refine .one x fun y => ⟨fun k => (hx y).1 (hs y k), fun k => ?_⟩
    rw [k, ← (hx a).1 (hs a ha)]
    exact ha
  | @off G x hx hc h ih =>
    intro H hs hH
    by_cases hxH : H x
    · by_cases hone : ∃ y, H y ∧ y ≠ x
      · have hl : ∃ y, H y ∧ (G y ∧ y ≠ x) := by
          obtain ⟨y, a, b⟩ := hone
          exact ⟨y, a, hs y a, b⟩
        have hS : ∀ y, H y → (G y ∧ y ≠ x) ∨ y = x := fun y hy => by
          by_cases e : y = x
          · exact .inr e
          · exact .inl ⟨hs y hy, e⟩
        have hdd : ∀ y, (G y ∧ y ≠ x) → y = x → False := fun y a b => a.2 b
        have e1 : ∀ y, (H y ∧ (G y ∧ y ≠ x)) ↔ (H y ∧ y ≠ x) := fun y => ⟨fun k => ⟨k.1, k.2.2⟩, fun k => ⟨k.1, hs y k.1, k.2⟩⟩
        have e2 : ∀ y, (H y ∧ y = x) ↔ y = x := fun y => ⟨fun k => k.2, fun k => ⟨k ▸ hxH, k⟩⟩
        have h1 := hung_congr e1 (cut_left hc.2 hH hS hdd ⟨x, hxH, rfl⟩ hl)
        have h2 := good_congr e1 e2 (cut_good hc.2 hH hS hdd ⟨x, hxH, rfl⟩ hl)
        exact .off x hxH ⟨h1, h2⟩ (ih _ (fun y k => ⟨hs y k.1, k.2⟩) h1)
      · refine .one x fun y => ⟨fun k => ?_, fun k => k ▸ hxH⟩
        exact Classical.byContradiction fun e => hone ⟨y, k, e⟩
    · exact ih H (fun y k => ⟨hs y k, fun e => hxH (e ▸ k)⟩) hH
theorem Dism.next {C} {G : Nat → Prop} (h : Dism C G) (h2 : ∃ x y, G x ∧ G y ∧ x ≠ y) : ∃ x, G x ∧ CanGo C G x := by
  cases h with
  | one x hx =>
    obtain ⟨a, b, ha, hb, hn⟩ := h2
    exact absurd (((hx a).1 ha).trans ((hx b).1 hb).symm) hn
  | off x hx hc _ => exact ⟨x, hx, hc⟩
/-- plans -/
inductive T
  | leaf (x : Nat)
  | fork (l r : T)
def T.In : T → Nat → Prop
  | .leaf x, y => y = x
  | .fork l r, y => l.In y ∨ r.In y
def T.Right : T → Prop
  | .leaf _ => True
  | .fork l r => l.Right ∧ r.Right ∧ (∀ x, l.In x → r.In x → False) ∧ Good C l.In r.In
/-- what s shares with p and with q is the same, or disjoint -/
def SoD (s p q : Nat) : Prop := (∃ c, C s c ∧ C p c ∧ C q c) → ∀ c, C s c → C p c → C q c
/-- the part of p in H -/
def Comp (H : Nat → Prop) (p x : Nat) : Prop := ∀ q : Nat → Prop, q p → (∀ a b, q a → H a → H b → Near C a b → q b) → q x
theorem comp_self {C} {H : Nat → Prop} {p : Nat} : Comp C H p p := fun _ h _ => h
theorem comp_step {C} {H : Nat → Prop} {p a b : Nat} (h : Comp C H p a) (ha : H a) (hb : H b) (hn : Near C a b) : Comp C H p b := fun q hp hc => hc a b (h q hp hc) ha hb hn
theorem comp_hung {C} {H : Nat → Prop} {p : Nat} (hp : H p) : Hung C fun x => H x ∧ Comp C H p x := by
  have key : ∀ f : Nat → Prop, (∃ y, (H y ∧ Comp C H p y) ∧ ¬ f y) → f p → ∃ x y, (H x ∧ Comp C H p x) ∧ (H y ∧ Comp C H p y) ∧ f x ∧ ¬ f y ∧ Near C x y := by
    rintro f ⟨y, ⟨hy, hcy⟩, hf⟩ hfp
    refine Classical.byContradiction fun hno => hf ?_
    exact (hcy (fun x => Comp C H p x ∧ f x) ⟨comp_self, hfp⟩ fun a b ha hHa hHb hn => ⟨comp_step ha.1 hHa hHb hn, Classical.byContradiction fun k => hno ⟨a, b, ⟨hHa, ha.1⟩, ⟨hHb, comp_step ha.1 hHa hHb hn⟩, ha.2, k, hn⟩⟩).2
  refine ⟨⟨p, hp, comp_self⟩, fun f hx hy => ?_⟩
  by_cases hfp : f p
  · exact key f hy hfp
  · obtain ⟨x, y, a, b, c, d, e⟩ := key (fun x => ¬ f x) (by obtain ⟨x, a, b⟩ := hx; exact ⟨x, a, fun k => k b⟩) hfp
    exact ⟨y, x, b, a, Classical.byContradiction d, c, e.symm⟩
/-- the neighbours of s in H all share the same with it -/
def Same (H : Nat → Prop) (s : Nat) : Prop := ∀ p q, H p → H q → Near C s p → Near C s q → ∀ c, C s c → C p c → C q c
theorem same_side {C} {L R H : Nat → Prop} {s : Nat} (hg : Good C L R) (hd : ∀ x, L x → R x → False) (hsl : L s) (hsub : ∀ x, H x → L x ∨ R x) (hsH : ¬ H s) (hH : Hung C H) (hr : ∃ x, H x ∧ R x)
    (hsod : ∀ p q, H p → H q → Near C s p → Near C s q → SoD C s p q)
    (ih : ∀ A : Nat → Prop, (∀ x, A x → L x) → (∀ x, A x → H x) → Hung C A → Same C A s) : Same C H s := by
  have touch : ∀ p, H p → L p → ∃ a b, (H a ∧ L a) ∧ Comp C (fun x => H x ∧ L x) p a ∧ H b ∧ R b ∧ Near C a b := by
    intro p hp hpl
    obtain ⟨z, hz, hzr⟩ := hr
    obtain ⟨a, b, ha, hb, hca, hcb, hn⟩ := hH.2 (fun x => L x ∧ Comp C (fun x => H x ∧ L x) p x) ⟨p, hp, hpl, comp_self⟩ ⟨z, hz, fun k => hd z k.1 hzr⟩
    refine ⟨a, b, ⟨ha, hca.1⟩, hca.2, hb, ?_, hn⟩
    cases hsub b hb with
    | inl k => exact absurd ⟨k, comp_step hca.2 ⟨ha, hca.1⟩ ⟨hb, k⟩ hn⟩ hcb
    | inr k => exact k
  have part : ∀ p, H p → L p → Same C (fun x => (H x ∧ L x) ∧ Comp C (fun x => H x ∧ L x) p x) s := fun p hp hpl => ih _ (fun x k => k.1.2) (fun x k => k.1.1) (comp_hung (H := fun x => H x ∧ L x) ⟨hp, hpl⟩)
  by_cases hsr : ∃ w, H w ∧ R w ∧ Near C s w
  · obtain ⟨w, hw, hwr, hnw⟩ := hsr
    -- what crosses is had by s
    have sz : ∀ c, (∃ x, L x ∧ C x c) → (∃ y, R y ∧ C y c) → C s c ∧ C w c := fun c => hg.2 s w hsl hwr hnw c
    -- each neighbour shares just what crosses
    have zin : ∀ p, H p → Near C s p → ∀ c, C s c → C p c → (∃ y, R y ∧ C y c) := by
      intro p hp hn c hsc hpc
      cases hsub p hp with
      | inr k => exact ⟨p, k, hpc⟩
      | inl k =>
        obtain ⟨a, b, ha, hca, hb, hbr, hab⟩ := touch p hp k
        obtain ⟨_, d, had, hbd⟩ := hab
        have hsd := sz d ⟨a, ha.2, had⟩ ⟨b, hbr, hbd⟩
        have hna : Near C s a := ⟨fun e => hsH (e ▸ ha.1), d, hsd.1, had⟩
        have hac := part p hp k p a ⟨⟨hp, k⟩, comp_self⟩ ⟨ha, hca⟩ hn hna c hsc hpc
        exact ⟨w, hwr, hsod a w ha.1 hw hna hnw ⟨d, hsd.1, had, hsd.2⟩ c hsc hac⟩
    have zall : ∀ q, H q → Near C s q → ∀ c, C s c → (∃ y, R y ∧ C y c) → C q c := by
      intro q hq hn c hsc hy
      cases hsub q hq with
      | inr k => exact (hg.2 s q hsl k hn c ⟨s, hsl, hsc⟩ hy).2
      | inl k =>
        obtain ⟨a, b, ha, hca, hb, hbr, hab⟩ := touch q hq k
        have hac := (hg.2 a b ha.2 hbr hab c ⟨s, hsl, hsc⟩ hy).1
        exact part q hq k a q ⟨ha, hca⟩ ⟨⟨hq, k⟩, comp_self⟩ ⟨fun e => hsH (e ▸ ha.1), c, hsc, hac⟩ hn c hsc hac
    intro p q hp hq hnp hnq c hsc hpc
    exact zall q hq hnq c hsc (zin p hp hnp c hsc hpc)
  · intro p q hp hq hnp hnq c hsc hpc
    have pl : L p := by
      cases hsub p hp with
      | inl k => exact k
      | inr k => exact absurd ⟨p, hp, k, hnp⟩ hsr
    have ql : L q := by
      cases hsub q hq with
      | inl k => exact k
      | inr k => exact absurd ⟨q, hq, k, hnq⟩ hsr
    obtain ⟨a, b, ha, hca, hb, hbr, hab⟩ := touch p hp pl
    obtain ⟨a', b', ha', hca', hb', hbr', hab'⟩ := touch q hq ql
    obtain ⟨_, d, had, hbd⟩ := hab
    have ha'd := (hg.2 a' b' ha'.2 hbr' hab' d ⟨a, ha.2, had⟩ ⟨b, hbr, hbd⟩).1
    have hcaq : Comp C (fun x => H x ∧ L x) q a := by
      by_cases e : a' = a
      · exact e ▸ hca'
      · exact comp_step hca' ha' ha ⟨e, d, ha'd, had⟩
    -- p lies in the part of q
    have hpq : Comp C (fun x => H x ∧ L x) q p := by
      refine hca (fun x => Comp C (fun x => H x ∧ L x) q x → Comp C (fun x => H x ∧ L x) q p) (fun k => k) ?_ hcaq
      intro u v hu hHu hHv hn hv
      exact hu (comp_step hv hHv hHu hn.symm)
    exact part q hq ql p q ⟨⟨hp, pl⟩, hpq⟩ ⟨⟨hq, ql⟩, comp_self⟩ hnp hnq c hsc hpc
theorem same_of_right {C} : ∀ (t : T), t.Right C → ∀ (s : Nat) (H : Nat → Prop), t.In s → (∀ x, H x → t.In x) → ¬ H s → Hung C H → (∀ p q, H p → H q → Near C s p → Near C s q → SoD C s p q) → Same C H s
  | .leaf y, _, s, H, hs, hsub, hn, hH, _ => by
    obtain ⟨x, hx⟩ := hH.1
    have h1 : x = y := hsub x hx
    have h2 : s = y := hs
    exact absurd (h2.trans h1.symm ▸ hx) hn
  | .fork l r, ht, s, H, hs, hsub, hn, hH, hsod => by
    obtain ⟨hl, hr, hd, hg⟩ := ht
    have ihl := same_of_right l hl s
    have ihr := same_of_right r hr s
    cases hs with
    | inl hsl =>
      by_cases hx : ∃ x, H x ∧ r.In x
      · exact same_side hg hd hsl hsub hn hH hx hsod fun A hA hAH hAh => ihl A hsl hA (fun k => hn (hAH s k)) hAh fun p q hp hq => hsod p q (hAH p hp) (hAH q hq)
      · exact ihl H hsl (fun x k => (hsub x k).resolve_right fun j => hx ⟨x, k, j⟩) hn hH hsod
    | inr hsr =>
      by_cases hx : ∃ x, H x ∧ l.In x
      · exact same_side hg.symm (fun x a b => hd x b a) hsr (fun x k => (hsub x k).symm) hn hH hx hsod fun A hA hAH hAh => ihr A hsr hA (fun k => hn (hAH s k)) hAh fun p q hp hq => hsod p q (hAH p hp) (hAH q hq)
      · exact ihr H hsr (fun x k => (hsub x k).resolve_left fun j => hx ⟨x, k, j⟩) hn hH hsod
theorem good_of_same {C} {H : Nat → Prop} {s : Nat} (hs : ¬ H s) (hn : ∃ p, H p ∧ Near C s p) (h : Same C H s) : Good C H fun y => y = s := by
  obtain ⟨p, hp, hnp⟩ := hn
  refine ⟨⟨p, s, hp, rfl, hnp.symm⟩, ?_⟩
  rintro i j hi rfl hn c ⟨x, hx, hxc⟩ ⟨y, rfl, hyc⟩
  exact ⟨h x i hx hi ⟨fun e => hs (e ▸ hx), c, hyc, hxc⟩ hn.symm c hyc hxc, hyc⟩
/-- what s shares with o ahead: r ahead has all of it or none -/
theorem third_of_good {C} {H : Nat → Prop} {s o r c d : Nat} (hg : Good C H fun y => y = s) (ho : H o) (hr : H r) (hs : ¬ H s) (h1 : C o c) (h2 : C s c) (h3 : C r c) (h4 : C o d) (h5 : C s d) : C r d :=
  (hg.2 r s hr rfl ⟨fun e => hs (e ▸ hr), c, h3, h2⟩ d ⟨o, ho, h4⟩ ⟨s, rfl, h5⟩).1
end PM

end

section
/-! A book with a right plan: two groups that hang together, without a third in them, make a good fork. -/
namespace PM
/-- each source of both has all or none of what one of each side share -/
def AoN (C : Nat → Nat → Prop) (L R : Nat → Prop) : Prop := ∀ p q r, L p → R q → (L r ∨ R r) → (∃ c, C p c ∧ C q c ∧ C r c) → ∀ d, C p d → C q d → C r d
theorem AoN.symm {C} {L R : Nat → Prop} (h : AoN C L R) : AoN C R L := fun p q r hp hq hr ⟨c, h1, h2, h3⟩ d h4 h5 => h q p r hq hp hr.symm ⟨c, h2, h1, h3⟩ d h5 h4
theorem AoN.sub {C} {L R L' R' : Nat → Prop} (h : AoN C L R) (hl : ∀ x, L' x → L x) (hr : ∀ x, R' x → R x) : AoN C L' R' := fun p q r hp hq hx hc => h p q r (hl p hp) (hr q hq) (hx.imp (hl r) (hr r)) hc
def IH (C : Nat → Nat → Prop) (A : Nat → Prop) : Prop := ∀ L R : Nat → Prop, (∀ x, L x → A x) → (∀ x, R x → A x) → (∀ x, L x → R x → False) → Hung C L → Hung C R → (∃ i j, L i ∧ R j ∧ Near C i j) → AoN C L R → Good C L R
/-- the part of a group on one side -/
theorem part_hung {C} {A B L : Nat → Prop} (hg : Good C A B) (hd : ∀ x, A x → B x → False) (hs : ∀ x, L x → A x ∨ B x) (hL : Hung C L) (ha : ∃ x, L x ∧ A x) : Hung C fun x => L x ∧ A x := by
  by_cases hb : ∃ x, L x ∧ B x
  · exact cut_left hg hL hs hd hb ha
  · refine hung_congr (fun x => ⟨fun k => ⟨k, ?_⟩, fun k => k.1⟩) hL
    exact (hs x k).resolve_right fun j => hb ⟨x, k, j⟩
/-- a group on both sides has sources with all that crosses -/
theorem both_have {C} {A B L : Nat → Prop} (hg : Good C A B) (hd : ∀ x, A x → B x → False) (hs : ∀ x, L x → A x ∨ B x) (hL : Hung C L) (ha : ∃ x, L x ∧ A x) (hb : ∃ x, L x ∧ B x) :
    ∃ u w, L u ∧ A u ∧ L w ∧ B w ∧ ∀ c, (∃ x, A x ∧ C x c) → (∃ y, B y ∧ C y c) → C u c ∧ C w c := by
  obtain ⟨x, hx, hxa⟩ := ha
  obtain ⟨y, hy, hyb⟩ := hb
  obtain ⟨u, w, hu, hw, hua, hwa, hn⟩ := hL.2 A ⟨x, hx, hxa⟩ ⟨y, hy, fun k => hd y k hyb⟩
  have hwb := (hs w hw).resolve_left hwa
  exact ⟨u, w, hu, hua, hw, hwb, hg.2 u w hua hwb hn⟩
/-- neighbours across on both sides of a fork: all neighbours across share just what crosses -/
theorem cross_good {C} {A B L R : Nat → Prop} (hg : Good C A B) (hd : ∀ x, A x → B x → False) (ihA : IH C A) (ihB : IH C B) (hl : ∀ x, L x → A x ∨ B x) (hr : ∀ x, R x → A x ∨ B x) (hlr : ∀ x, L x → R x → False) (hL : Hung C L) (hR : Hung C R) (ha : AoN C L R)
    {i j : Nat} (hi : L i) (hj : R j) (hia : A i) (hjb : B j) (hn : Near C i j) : Good C L R := by
  have hij := hg.2 i j hia hjb hn
  have hm : ∀ x y, L x → R y → Near C x y → ∀ c, ((C x c ∧ C y c) → (∃ a, A a ∧ C a c) ∧ ∃ b, B b ∧ C b c) ∧ ((∃ a, A a ∧ C a c) → (∃ b, B b ∧ C b c) → C x c ∧ C y c) := by
    intro x y hx hy hxy c
    obtain ⟨c0, hc1, hc2⟩ := hn.2
    have hM0 := hij c0 ⟨i, hia, hc1⟩ ⟨j, hjb, hc2⟩
    rcases hl x hx with hxa | hxb
    · rcases hr y hy with hya | hyb
      · obtain ⟨u, w, hu, hua, hw, hwb, huw⟩ := both_have hg hd hr hR ⟨y, hy, hya⟩ ⟨j, hj, hjb⟩
        have hG : Good C (fun z => L z ∧ A z) (fun z => R z ∧ A z) := ihA _ _ (fun z k => k.2) (fun z k => k.2) (fun z k k' => hlr z k.1 k'.1) (part_hung hg hd hl hL ⟨x, hx, hxa⟩) (part_hung hg hd hr hR ⟨y, hy, hya⟩) ⟨x, y, ⟨hx, hxa⟩, ⟨hy, hya⟩, hxy⟩ (ha.sub (fun z k => k.1) fun z k => k.1)
        have hu0 := (huw c0 ⟨i, hia, hc1⟩ ⟨j, hjb, hc2⟩).1
        have hiu : Near C i u := ⟨fun e => hlr i hi (e ▸ hu), c0, hc1, hu0⟩
        refine ⟨fun hc => ?_, fun h1 h2 => ?_⟩
        · have k := hG.2 i u ⟨hi, hia⟩ ⟨hu, hua⟩ hiu c ⟨x, ⟨hx, hxa⟩, hc.1⟩ ⟨y, ⟨hy, hya⟩, hc.2⟩
          have kj := ha i u j hi hu (.inr hj) ⟨c0, hc1, hu0, hc2⟩ c k.1 k.2
          exact ⟨⟨i, hia, k.1⟩, j, hjb, kj⟩
        · have k1 := (hij c h1 h2).1
          have k2 := (huw c h1 h2).1
          exact hG.2 x y ⟨hx, hxa⟩ ⟨hy, hya⟩ hxy c ⟨i, ⟨hi, hia⟩, k1⟩ ⟨u, ⟨hu, hua⟩, k2⟩
      · exact ⟨fun hc => ⟨⟨x, hxa, hc.1⟩, y, hyb, hc.2⟩, hg.2 x y hxa hyb hxy c⟩
    · rcases hr y hy with hya | hyb
      · exact ⟨fun hc => ⟨⟨y, hya, hc.2⟩, x, hxb, hc.1⟩, fun h1 h2 => (hg.2 y x hya hxb hxy.symm c h1 h2).symm⟩
      · obtain ⟨u, w, hu, hua, hw, hwb, huw⟩ := both_have hg hd hl hL ⟨i, hi, hia⟩ ⟨x, hx, hxb⟩
        have hG : Good C (fun z => L z ∧ B z) (fun z => R z ∧ B z) := ihB _ _ (fun z k => k.2) (fun z k => k.2) (fun z k k' => hlr z k.1 k'.1) (part_hung hg.symm (fun z a b => hd z b a) (fun z k => (hl z k).symm) hL ⟨x, hx, hxb⟩) (part_hung hg.symm (fun z a b => hd z b a) (fun z k => (hr z k).symm) hR ⟨y, hy, hyb⟩) ⟨x, y, ⟨hx, hxb⟩, ⟨hy, hyb⟩, hxy⟩ (ha.sub (fun z k => k.1) fun z k => k.1)
        have hw0 := (huw c0 ⟨i, hia, hc1⟩ ⟨j, hjb, hc2⟩).2
        have hwj : Near C w j := ⟨fun e => hlr w hw (e ▸ hj), c0, hw0, hc2⟩
        refine ⟨fun hc => ?_, fun h1 h2 => ?_⟩
        · have k := hG.2 w j ⟨hw, hwb⟩ ⟨hj, hjb⟩ hwj c ⟨x, ⟨hx, hxb⟩, hc.1⟩ ⟨y, ⟨hy, hyb⟩, hc.2⟩
          have ki := ha w j i hw hj (.inl hi) ⟨c0, hw0, hc2, hc1⟩ c k.1 k.2
          exact ⟨⟨i, hia, ki⟩, j, hjb, k.2⟩
        · have k1 := (huw c h1 h2).2
          have k2 := (hij c h1 h2).2
          exact hG.2 x y ⟨hx, hxb⟩ ⟨hy, hyb⟩ hxy c ⟨w, ⟨hw, hwb⟩, k1⟩ ⟨j, ⟨hj, hjb⟩, k2⟩
  refine ⟨⟨i, j, hi, hj, hn⟩, ?_⟩
  rintro x y hx hy hxy c ⟨u, hu, huc⟩ ⟨v, hv, hvc⟩
  have := (hm u v hu hv ⟨fun e => hlr u hu (e ▸ hv), c, huc, hvc⟩ c).1 ⟨huc, hvc⟩
  exact (hm x y hx hy hxy c).2 this.1 this.2
/-- neighbours across within one side, none on both sides -/
theorem side_good {C} {A B L R : Nat → Prop} (hg : Good C A B) (hd : ∀ x, A x → B x → False) (ihA : IH C A) (hl : ∀ x, L x → A x ∨ B x) (hr : ∀ x, R x → A x ∨ B x) (hlr : ∀ x, L x → R x → False) (hL : Hung C L) (hR : Hung C R) (ha : AoN C L R)
    {i j : Nat} (hi : L i) (hj : R j) (hia : A i) (hja : A j) (hn : Near C i j) (hno : ∀ x y, L x → R y → Near C x y → (A x ∧ A y) ∨ (B x ∧ B y)) : Good C L R := by
  have only : ∀ x y, L x → R y → Near C x y → A x ∧ A y := by
    intro x y hx hy hxy
    rcases hno x y hx hy hxy with k | ⟨hxb, hyb⟩
    · exact k
    · obtain ⟨u, w, hu, hua, hw, hwb, huw⟩ := both_have hg hd hl hL ⟨i, hi, hia⟩ ⟨x, hx, hxb⟩
      obtain ⟨u', w', hu', hua', hw', hwb', huw'⟩ := both_have hg hd hr hR ⟨j, hj, hja⟩ ⟨y, hy, hyb⟩
      obtain ⟨p, q, hp, hq, hpq⟩ := hg.1
      obtain ⟨_, c, hc1, hc2⟩ := hpq
      have k1 := (huw c ⟨p, hp, hc1⟩ ⟨q, hq, hc2⟩).1
      have k2 := (huw' c ⟨p, hp, hc1⟩ ⟨q, hq, hc2⟩).2
      rcases hno u w' hu hw' ⟨fun e => hlr u hu (e ▸ hw'), c, k1, k2⟩ with ⟨_, k⟩ | ⟨k, _⟩
      · exact (hd w' k hwb').elim
      · exact (hd u hua k).elim
  have hG : Good C (fun z => L z ∧ A z) (fun z => R z ∧ A z) := ihA _ _ (fun z k => k.2) (fun z k => k.2) (fun z k k' => hlr z k.1 k'.1) (part_hung hg hd hl hL ⟨i, hi, hia⟩) (part_hung hg hd hr hR ⟨j, hj, hja⟩) ⟨i, j, ⟨hi, hia⟩, ⟨hj, hja⟩, hn⟩ (ha.sub (fun z k => k.1) fun z k => k.1)
  refine ⟨⟨i, j, hi, hj, hn⟩, ?_⟩
  rintro x y hx hy hxy c ⟨u, hu, huc⟩ ⟨v, hv, hvc⟩
  obtain ⟨hxa, hya⟩ := only x y hx hy hxy
  obtain ⟨hua, hva⟩ := only u v hu hv ⟨fun e => hlr u hu (e ▸ hv), c, huc, hvc⟩
  exact hG.2 x y ⟨hx, hxa⟩ ⟨hy, hya⟩ hxy c ⟨u, ⟨hu, hua⟩, huc⟩ ⟨v, ⟨hv, hva⟩, hvc⟩
theorem good_of_right {C} : ∀ (t : T), t.Right C → IH C t.In
  | .leaf y, _ => by
    intro L R hl hr hlr hL hR _ _
    obtain ⟨x, hx⟩ := hL.1
    obtain ⟨z, hz⟩ := hR.1
    have e1 : x = y := hl x hx
    have e2 : z = y := hr z hz
    exact (hlr x hx (e1.trans e2.symm ▸ hz)).elim
  | .fork l r, ht => by
    intro L R hl hr hlr hL hR hn ha
    obtain ⟨htl, htr, hd, hg⟩ := ht
    have ihl := good_of_right l htl
    have ihr := good_of_right r htr
    have hd' : ∀ x, r.In x → l.In x → False := fun x a b => hd x b a
    have hl' : ∀ x, L x → r.In x ∨ l.In x := fun x k => (hl x k).symm
    have hr' : ∀ x, R x → r.In x ∨ l.In x := fun x k => (hr x k).symm
    by_cases h1 : ∃ i j, L i ∧ R j ∧ l.In i ∧ r.In j ∧ Near C i j
    · obtain ⟨i, j, hi, hj, hia, hjb, hij⟩ := h1
      exact cross_good hg hd ihl ihr hl hr hlr hL hR ha hi hj hia hjb hij
    by_cases h2 : ∃ i j, L i ∧ R j ∧ r.In i ∧ l.In j ∧ Near C i j
    · obtain ⟨i, j, hi, hj, hib, hja, hij⟩ := h2
      exact cross_good hg.symm hd' ihr ihl hl' hr' hlr hL hR ha hi hj hib hja hij
    have hno : ∀ x y, L x → R y → Near C x y → (l.In x ∧ l.In y) ∨ (r.In x ∧ r.In y) := by
      intro x y hx hy hxy
      rcases hl x hx with a | a
      · rcases hr y hy with b | b
        · exact .inl ⟨a, b⟩
        · exact (h1 ⟨x, y, hx, hy, a, b, hxy⟩).elim
      · rcases hr y hy with b | b
        · exact (h2 ⟨x, y, hx, hy, a, b, hxy⟩).elim
        · exact .inr ⟨a, b⟩
    obtain ⟨i, j, hi, hj, hij⟩ := hn
    rcases hno i j hi hj hij with ⟨a, b⟩ | ⟨a, b⟩
    · exact side_good hg hd ihl hl hr hlr hL hR ha hi hj a b hij hno
    · exact side_good hg.symm hd' ihr hl' hr' hlr hL hR ha hi hj a b hij fun x y hx hy hxy => (hno x y hx hy hxy).symm
/-- a right fork has no third in it -/
theorem AoN.of_good {C} {L R : Nat → Prop} (h : Good C L R) (hd : ∀ x, L x → R x → False) : AoN C L R := by
  rintro p q r hp hq hr ⟨c, h1, h2, h3⟩ d h4 h5
  rcases hr with hr | hr
  · exact (h.2 r q hr hq ⟨fun e => hd r hr (e ▸ hq), c, h3, h2⟩ d ⟨p, hp, h4⟩ ⟨q, hq, h5⟩).1
  · exact (h.2 p r hp hr ⟨fun e => hd p hp (e ▸ hr), c, h1, h3⟩ d ⟨p, hp, h4⟩ ⟨q, hq, h5⟩).2
end PM

end

section
/-! Plans led over to other names. -/
namespace PM
def T.map (f : Nat → Nat) : T → T
  | .leaf x => .leaf (f x)
  | .fork l r => .fork (l.map f) (r.map f)
theorem in_map (f : Nat → Nat) : ∀ (t : T) (y : Nat), (t.map f).In y ↔ ∃ x, t.In x ∧ f x = y
  | .leaf x, y => ⟨fun h => ⟨x, rfl, h.symm⟩, fun ⟨z, hz, e⟩ => by
    have hz' : z = x := hz
    show y = f x
    rw [← hz', e]⟩
  | .fork l r, y => by
    show (l.map f).In y ∨ (r.map f).In y ↔ _
    rw [in_map f l, in_map f r]
    constructor
    · rintro (⟨x, h, e⟩ | ⟨x, h, e⟩)
      · exact ⟨x, .inl h, e⟩
      · exact ⟨x, .inr h, e⟩
    · rintro ⟨x, h | h, e⟩
      · exact .inl ⟨x, h, e⟩
      · exact .inr ⟨x, h, e⟩
theorem good_map {C C' : Nat → Nat → Prop} {L R L' R' : Nat → Prop} (f g : Nat → Nat) (h : Good C L R) (hL : ∀ y, L' y ↔ ∃ x, L x ∧ f x = y) (hR : ∀ y, R' y ↔ ∃ x, R x ∧ f x = y) (hd : ∀ x, L x → R x → False)
    (hf : ∀ x y, (L x ∨ R x) → (L y ∨ R y) → f x = f y → x = y) (hC : ∀ x, (L x ∨ R x) → ∀ c', C' (f x) c' ↔ ∃ c, C x c ∧ g c = c') (hg : ∀ x y c d, (L x ∨ R x) → (L y ∨ R y) → C x c → C y d → g c = g d → c = d) : Good C' L' R' := by
  obtain ⟨⟨i, j, hi, hj, hn, c, h1, h2⟩, k⟩ := h
  refine ⟨⟨f i, f j, (hL _).2 ⟨i, hi, rfl⟩, (hR _).2 ⟨j, hj, rfl⟩, fun e => hn (hf i j (.inl hi) (.inr hj) e), g c, (hC i (.inl hi) _).2 ⟨c, h1, rfl⟩, (hC j (.inr hj) _).2 ⟨c, h2, rfl⟩⟩, ?_⟩
  rintro a b ha hb ⟨hne, e, he1, he2⟩ e' ⟨u, hu, hu'⟩ ⟨v, hv, hv'⟩
  obtain ⟨x, hx, rfl⟩ := (hL a).1 ha
  obtain ⟨y, hy, rfl⟩ := (hR b).1 hb
  obtain ⟨p, hp, rfl⟩ := (hL u).1 hu
  obtain ⟨q, hq, rfl⟩ := (hR v).1 hv
  obtain ⟨c1, hc1, e1⟩ := (hC x (.inl hx) _).1 he1
  obtain ⟨c2, hc2, e2⟩ := (hC y (.inr hy) _).1 he2
  obtain ⟨c3, hc3, e3⟩ := (hC p (.inl hp) _).1 hu'
  obtain ⟨c4, hc4, e4⟩ := (hC q (.inr hq) _).1 hv'
  have q1 := hg x y c1 c2 (.inl hx) (.inr hy) hc1 hc2 (e1.trans e2.symm)
  have q2 := hg p q c3 c4 (.inl hp) (.inr hq) hc3 hc4 (e3.trans e4.symm)
  subst q1 q2
  have := k x y hx hy ⟨fun e => hd x hx (e ▸ hy), c1, hc1, hc2⟩ c3 ⟨p, hp, hc3⟩ ⟨q, hq, hc4⟩
  exact ⟨(hC x (.inl hx) _).2 ⟨c3, this.1, e3⟩, (hC y (.inr hy) _).2 ⟨c3, this.2, e3⟩⟩
theorem right_map {C C' : Nat → Nat → Prop} (f g : Nat → Nat) : ∀ t : T, t.Right C → (∀ x y, t.In x → t.In y → f x = f y → x = y) → (∀ x, t.In x → ∀ c', C' (f x) c' ↔ ∃ c, C x c ∧ g c = c') → (∀ x y c d, t.In x → t.In y → C x c → C y d → g c = g d → c = d) → (t.map f).Right C'
  | .leaf x, _, _, _, _ => trivial
  | .fork l r, ⟨hl, hr, hd, hg⟩, hf, hC, hi => by
    refine ⟨right_map f g l hl (fun x y hx hy => hf x y (.inl hx) (.inl hy)) (fun x hx => hC x (.inl hx)) fun x y c d hx hy => hi x y c d (.inl hx) (.inl hy), right_map f g r hr (fun x y hx hy => hf x y (.inr hx) (.inr hy)) (fun x hx => hC x (.inr hx)) fun x y c d hx hy => hi x y c d (.inr hx) (.inr hy), ?_, good_map f g hg (in_map f l) (in_map f r) hd hf hC hi⟩
    intro y h1 h2
    obtain ⟨a, ha, e⟩ := (in_map f l y).1 h1
    obtain ⟨b, hb, e'⟩ := (in_map f r y).1 h2
    have := hf a b (.inl ha) (.inr hb) (e.trans e'.symm)
    exact hd a ha (this ▸ hb)
/-- right plans hang together -/
theorem right_hung {C} : ∀ t : T, t.Right C → Hung C t.In
  | .leaf x, _ => hung_one (x := x) fun y => Iff.rfl
  | .fork l r, ⟨hl, hr, _, hg⟩ => hung_join (right_hung l hl) (right_hung r hr) hg.1
end PM

end

section
set_option maxRecDepth 100000
set_option maxHeartbeats 4000000
namespace K56
open MM MP PySem
variable {W : Nat}
def sh (b : List (List Nat)) (i j : Nat) : List Nat := (cols b i).filter fun c => decide (c ∈ cols b j)
def nr (b : List (List Nat)) (i j : Nat) : Bool := decide (i ≠ j) && decide (sh b i j ≠ [])
/-- the books that are drawn -/
structure Bk (b : List (List Nat)) : Prop where
  one : 1 ≤ b.length
  six : b.length ≤ 8
  up : ∀ s ∈ b, s.Pairwise (· < ·)
  ne : ∀ s ∈ b, s ≠ []
  len : ∀ s ∈ b, s.length ≤ 8
  lt : ∀ s ∈ b, ∀ c ∈ s, c < 24
theorem cols_mem {b : List (List Nat)} {i : Nat} (h : i < b.length) : cols b i ∈ b := by
  rw [show cols b i = b[i] from by simp [cols, List.getD, h]]; exact List.getElem_mem h
theorem cols_nil {b : List (List Nat)} {i : Nat} (h : ¬ i < b.length) : cols b i = [] := by simp [cols, List.getD, h]
theorem cols_len {b : List (List Nat)} (h : Bk b) (i : Nat) : (cols b i).length ≤ 8 := by
  by_cases k : i < b.length
  · exact h.len _ (cols_mem k)
  · rw [cols_nil k]; simp
theorem cols_up {b : List (List Nat)} (h : Bk b) (i : Nat) : (cols b i).Pairwise (· < ·) := by
  by_cases k : i < b.length
  · exact h.up _ (cols_mem k)
  · rw [cols_nil k]; exact .nil
theorem cols_lt {b : List (List Nat)} (h : Bk b) {i c : Nat} (hc : c ∈ cols b i) : c < 24 := by
  by_cases k : i < b.length
  · exact h.lt _ (cols_mem k) c hc
  · rw [cols_nil k] at hc; cases hc
theorem S_whole_int {k : Nat} (i : Int) : Pur (callR fns W (k + 1)) i_is_whole_number [.int i] (.bl true) := by
  refine .of0 rfl fun st => ?_
  rw [run_at (fn := m_is_whole_number) rfl]
  simp [runF, m_is_whole_number, isiD]
theorem S_between {k : Nat} (i lo hi : Int) : Pur (callR fns W (k + 2)) i_is_between [.int i, .int lo, .int hi] (.bl (decide (lo ≤ i) && decide (i ≤ hi))) := by
  refine .of0 rfl fun st => ?_
  rw [run_at (fn := m_is_between) rfl]
  simp only [runF, m_is_between]
  by_cases h : lo ≤ i <;> simp [(S_whole_int i).call, cmpD, cmpInt, h]
theorem S_below {k : Nat} (i n : Nat) : Pur (callR fns W (k + 3)) i_is_below [nI i, nI n] (.bl (decide (i < n))) := by
  refine .of0 rfl fun st => ?_
  rw [run_at (fn := m_is_below) rfl]
  simp only [runF, m_is_below]
  simp [(S_between (i : Int) 0 _).call, binD]
  omega
theorem S_rising {k n : Nat} {s : List Nat} (hs : s.Pairwise (· < ·)) (hn : ∀ c ∈ s, c < n) (hl : s.length ≤ 24) : Pur (callR fns W (k + 4)) i_is_rising [tI s, nI n] (.bl true) := by
  refine .of0 rfl fun st => ?_
  rw [run_at (fn := m_is_rising) rfl]
  simp only [runF, m_is_rising]
  simp
  rw [eg_map nI s (fun c => .bl (decide (c < n))) none (by simp) rfl (fun c _ => ⟨_, by simp; rfl, by simp [(S_below c n).call]⟩)]
  simp
  rw [if_pos (by simp only [cap]; omega)]
  simp
  rw [show (s.all fun x => decide (x < n)) = true from by simpa using hn]
  simp
  rw [eg_map (fun k : Nat => D.int (1 + (k : Int))) (List.range (s.length - 1)) (fun _ => .bl true) none (ei_up1 _ _ _ _ _ (by simp) (by omega)) rfl (fun c hc => ⟨_, by simp; rfl, ?_⟩)]
  · simp
    rw [if_pos (by simp only [cap]; omega)]
    simp
  · have hc' : c + 1 < s.length := by have := List.mem_range.1 hc; omega
    simp [binD]
    rw [show (1 + (c : Int)) - 1 = (c : Int) by omega, show (1 + (c : Int)) = ((c + 1 : Nat) : Int) by omega, idx_tI (by omega)]
    simp only [liftO_some, bnd_some]
    rw [idx_tI hc']
    have h2 := List.pairwise_iff_getElem.1 hs c (c + 1) (by omega) hc' (by omega)
    simp [cmpD, cmpInt, show c < s.length by omega, hc']
    exact h2
theorem S_shared {k i j : Nat} {b : List (List Nat)} (h : Bk b) (hi : i < b.length) (hj : j < b.length) : Pur (callR fns W (k + 1)) i_shared_of [bk b, nI i, nI j] (tI (sh b i j)) := by
  refine .of0 (by simp) fun st => ?_
  rw [run_at (fn := m_shared_of) rfl]
  simp only [runF, m_shared_of]
  simp
  rw [eg_fil nI (cols b i) (fun c => decide (c ∈ cols b j)) nI none (by simp [hi]) rfl (fun c _ => ⟨_, by simp; rfl, by rw [et_one]; simp [hj, cmpD], by simp⟩)]
  have := cols_len h i
  have h2 := List.length_filter_le (fun c => decide (c ∈ cols b j)) (cols b i)
  simp
  rw [if_pos (by simp only [cap]; omega)]
  rfl
theorem S_near {k i j : Nat} {b : List (List Nat)} (h : Bk b) (hi : i < b.length) (hj : j < b.length) : Pur (callR fns W (k + 2)) i_are_neighbours [bk b, nI i, nI j] (.bl (nr b i j)) := by
  refine .of0 (by simp) fun st => ?_
  rw [run_at (fn := m_are_neighbours) rfl]
  simp only [runF, m_are_neighbours]
  simp [cmpD, (S_shared h hi hj).call, andK_b, nr]
/-- all columns of a group, rising -/
def cs (b : List (List Nat)) (g : List Nat) : List Nat := ups 24 fun c => g.any fun i => decide (c ∈ cols b i)
theorem mem_cs {b : List (List Nat)} (h : Bk b) {g : List Nat} {c : Nat} : c ∈ cs b g ↔ ∃ i ∈ g, c ∈ cols b i := by
  rw [cs, mem_ups]
  simp only [List.any_eq_true, decide_eq_true_eq]
  exact ⟨fun k => k.2, fun ⟨i, hi, hc⟩ => ⟨cols_lt h hc, i, hi, hc⟩⟩
theorem S_columns {k : Nat} {b : List (List Nat)} {g : List Nat} (h : Bk b) (hg : ∀ i ∈ g, i < b.length) (hl : g.length ≤ 24) : Pur (callR fns W (k + 1)) i_columns_of [bk b, tI g] (tI (cs b g)) := by
  refine .of0 (by simp) fun st => ?_
  rw [run_at (fn := m_columns_of) rfl]
  simp only [runF, m_columns_of]
  simp
  rw [eg_two nI g (fun _ => true) (fun _ => nI) (fun i => cols b i) (fun _ _ => true) (fun _ => nI) none (fun _ => none) (by simp) rfl (fun i hi => ⟨_, by simp; rfl, by simp, fun _ => ⟨by simp [hg i hi], rfl, fun c _ => ⟨_, by simp; rfl, by simp, by simp⟩⟩⟩)]
  rw [show ((g.filter fun _ => true).flatMap fun x => ((cols b x).filter fun _ => true).map nI) = (g.flatMap (cols b)).map nI by
    rw [List.filter_eq_self.2 fun _ _ => rfl, List.map_flatMap]
    congr 1
    funext x
    rw [List.filter_eq_self.2 fun _ _ => rfl]]
  simp only [bnd_some, List.length_map]
  have hlen : (g.flatMap (cols b)).length ≤ 8 * g.length := by
    clear hg hl
    induction g with
    | nil => simp
    | cons x xs ih =>
      rw [List.flatMap_cons, List.length_append, List.length_cons]
      have := cols_len h x
      omega
  rw [if_pos (by clear hg; omega), set_nat (m := cs b g) (ups_lt _ _) (fun x => by rw [mem_cs h, List.mem_flatMap]) (by have := len_ups 24 (fun c => g.any fun i => decide (c ∈ cols b i)); unfold cs; omega)]
  rfl
/-- columns that both sides have -/
def meet (b : List (List Nat)) (l r : List Nat) : List Nat := (cs b l).filter fun c => decide (c ∈ cs b r)
theorem len_meet (b : List (List Nat)) (l r : List Nat) : (meet b l r).length ≤ 24 := by
  have h1 := List.length_filter_le (fun c => decide (c ∈ cs b r)) (cs b l)
  have h2 := len_ups 24 (fun c => l.any fun i => decide (c ∈ cols b i))
  unfold meet
  unfold cs at *
  omega
theorem S_meet {k : Nat} {b : List (List Nat)} {l r : List Nat} (h : Bk b) (hl : ∀ i ∈ l, i < b.length) (hl2 : l.length ≤ 24) (hr : ∀ i ∈ r, i < b.length) (hr2 : r.length ≤ 24) : Pur (callR fns W (k + 2)) i_meet_of [bk b, tI l, tI r] (tI (meet b l r)) := by
  refine .of0 (by simp) fun st => ?_
  rw [run_at (fn := m_meet_of) rfl]
  simp only [runF, m_meet_of]
  simp [(S_columns h hr hr2).call]
  rw [eg_fil nI (cs b l) (fun c => decide (c ∈ cs b r)) nI none (by simp [(S_columns h hl hl2).call]) rfl (fun c _ => ⟨_, by simp; rfl, by rw [et_one]; simp [cmpD], by simp⟩)]
  have := len_meet b l r
  unfold meet at this
  simp
  rw [if_pos (by simp only [cap]; omega)]
  rfl
abbrev pI (p : Nat × Nat) : D := .tup [nI p.1, nI p.2]
def across (b : List (List Nat)) (l r : List Nat) : List (Nat × Nat) := l.flatMap fun i => (r.filter (nr b i)).map fun j => (i, j)
theorem len_across (b : List (List Nat)) (l r : List Nat) : (across b l r).length ≤ l.length * r.length := by
  unfold across
  induction l with
  | nil => simp
  | cons x xs ih =>
    rw [List.flatMap_cons, List.length_append, List.length_cons, List.length_map, Nat.succ_mul]
    have := List.length_filter_le (nr b x) r
    omega
theorem mem_across {b : List (List Nat)} {l r : List Nat} {p : Nat × Nat} : p ∈ across b l r ↔ p.1 ∈ l ∧ p.2 ∈ r ∧ nr b p.1 p.2 = true := by
  unfold across
  simp only [List.mem_flatMap, List.mem_map, List.mem_filter]
  constructor
  · rintro ⟨i, hi, j, ⟨hj, hn⟩, rfl⟩
    exact ⟨hi, hj, hn⟩
  · rintro ⟨h1, h2, h3⟩
    exact ⟨p.1, h1, p.2, ⟨h2, h3⟩, rfl⟩
theorem mul_le {a b : Nat} (h1 : a ≤ 24) (h2 : b ≤ 24) : a * b ≤ 576 := Nat.mul_le_mul h1 h2
theorem map_across (b : List (List Nat)) (l r : List Nat) : (l.flatMap fun i => (r.filter (nr b i)).map fun j => pI (i, j)) = (across b l r).map pI := by
  unfold across
  rw [List.map_flatMap]
  congr 1
  funext i
  rw [List.map_map]
  rfl
theorem clean_pIs (l : List (Nat × Nat)) : cleans (l.map pI) = true := by rw [cleans_iff]; intro x h; obtain ⟨p, _, rfl⟩ := List.mem_map.1 h; rfl
theorem deps_pIs (l : List (Nat × Nat)) : D.deps (l.map pI) ≤ 1 := by rw [deps_iff]; intro x h; obtain ⟨p, _, rfl⟩ := List.mem_map.1 h; simp
theorem S_across {k : Nat} {b : List (List Nat)} {l r : List Nat} (h : Bk b) (hl : ∀ i ∈ l, i < b.length) (hl2 : l.length ≤ 24) (hr : ∀ i ∈ r, i < b.length) (hr2 : r.length ≤ 24) : Pur (callR fns W (k + 3)) i_across_of [bk b, tI l, tI r] (.tup ((across b l r).map pI)) := by
  refine .of0 (by simpa using pures_of_cleans _ (clean_pIs _)) fun st => ?_
  rw [run_at (fn := m_across_of) rfl]
  simp only [runF, m_across_of]
  simp
  rw [eg_two nI l (fun _ => true) (fun _ => nI) (fun _ => r) (fun i j => nr b i j) (fun i j => pI (i, j)) none (fun _ => none) (by simp) rfl (fun i hi => ⟨_, by simp; rfl, by simp, fun _ => ⟨by simp, rfl, fun j hj => ⟨_, by simp; rfl, by rw [et_one]; simp [(S_near h (hl i hi) (hr j hj)).call], by simp⟩⟩⟩)]
  rw [List.filter_eq_self.2 fun _ _ => rfl, map_across]
  have h1 := len_across b l r
  have h2 := mul_le hl2 hr2
  simp
  rw [if_pos (by simp only [cap]; omega)]
  rfl
def goodB (b : List (List Nat)) (l r : List Nat) : Bool := decide (across b l r ≠ []) && (across b l r).all fun p => decide (sh b p.1 p.2 = meet b l r)
theorem eq_tup_nil {st : St} {xs : List D} (h : cleans xs = true) (hd : D.deps xs ≤ 50) : eqD st (.tup xs) (.tup []) = some (decide (xs = [])) := by
  rw [eqD_clean (by simpa using h) (by simp) (by simp; omega) (by simp)]
  simp
theorem S_good {k : Nat} {b : List (List Nat)} {l r : List Nat} (h : Bk b) (hl : ∀ i ∈ l, i < b.length) (hl2 : l.length ≤ 24) (hr : ∀ i ∈ r, i < b.length) (hr2 : r.length ≤ 24) : Pur (callR fns W (k + 4)) i_is_good [bk b, tI l, tI r] (.bl (goodB b l r)) := by
  refine .of0 (by simp) fun st => ?_
  rw [run_at (fn := m_is_good) rfl]
  simp only [runF, m_is_good]
  simp [(S_across h hl hl2 hr hr2).call, (S_meet h hl hl2 hr hr2).call, cmpD]
  rw [eq_tup_nil (clean_pIs _) (by have := deps_pIs (across b l r); omega)]
  simp only [Option.map_some, liftO_some, bnd_some]
  rw [eg_map pI (across b l r) (fun p => .bl (decide (sh b p.1 p.2 = meet b l r))) none (by simp) rfl (fun p hp => ⟨_, by simp; rfl, by
    have := mem_across.1 hp
    simp [(S_shared h (hl _ this.1) (hr _ this.2.1)).call, cmpD]⟩)]
  have h1 := len_across b l r
  have h2 := mul_le hl2 hr2
  simp
  rw [if_pos (by simp only [cap]; omega)]
  simp [andK_b, goodB]
end K56

end

section
set_option maxRecDepth 100000
set_option maxHeartbeats 4000000
namespace K56
open MM MP PySem
variable {W : Nat}
/-- closed under neighbours within g -/
def Clo (b : List (List Nat)) (g : List Nat) (q : Nat → Prop) : Prop := ∀ x y, q x → x ∈ g → y ∈ g → nr b x y = true → q y
structure PieceInv (b : List (List Nat)) (g : List Nat) (s : Nat) (met waiting : List Nat) : Prop where
  nd : met.Nodup
  sub : ∀ x ∈ met, x ∈ g
  has : s ∈ met
  wm : ∀ x ∈ waiting, x ∈ met
  wl : waiting.length ≤ met.length
  cl : ∀ x ∈ met, x ∉ waiting → ∀ y ∈ g, nr b x y = true → y ∈ met
  re : ∀ q, Clo b g q → q s → ∀ x ∈ met, q x
structure Piece (b : List (List Nat)) (g : List Nat) (s : Nat) (p : List Nat) : Prop where
  up : p.Pairwise (· < ·)
  sub : ∀ x ∈ p, x ∈ g
  has : s ∈ p
  cl : ∀ x ∈ p, ∀ y ∈ g, nr b x y = true → y ∈ p
  re : ∀ q, Clo b g q → q s → ∀ x ∈ p, q x
theorem nodup_len : ∀ {m g : List Nat}, m.Nodup → (∀ x ∈ m, x ∈ g) → m.length ≤ g.length
  | [], _, _, _ => Nat.zero_le _
  | x :: xs, g, h, hs => by
    rw [List.nodup_cons] at h
    have h1 : x ∈ g := hs x (by simp)
    have := nodup_len (g := g.erase x) h.2 fun y hy => (List.mem_erase_of_ne (fun e => h.1 (by rw [← e]; exact hy))).2 (hs y (by simp [hy]))
    rw [List.length_erase_of_mem h1] at this
    have := List.length_pos_of_mem h1
    rw [List.length_cons]
    omega
theorem Piece.unique {b : List (List Nat)} {g : List Nat} {s : Nat} {p p' : List Nat} (h : Piece b g s p) (h' : Piece b g s p') : p = p' :=
  sorted_ext h.up h'.up fun x => ⟨h.re (· ∈ p') (fun x y hx _ hy hn => h'.cl x hx y hy hn) h'.has x, h'.re (· ∈ p) (fun x y hx _ hy hn => h.cl x hx y hy hn) h.has x⟩
theorem piece_step {b : List (List Nat)} {g : List Nat} {s here : Nat} {met ws : List Nat} (hg : g.Nodup) (h : PieceInv b g s met (ws ++ [here])) :
    PieceInv b g s (met ++ g.filter fun y => decide (y ∉ met) && nr b here y) (ws ++ g.filter fun y => decide (y ∉ met) && nr b here y) := by
  have hh : here ∈ met := h.wm here (by simp)
  have mf : ∀ y, y ∈ (g.filter fun y => decide (y ∉ met) && nr b here y) ↔ y ∈ g ∧ y ∉ met ∧ nr b here y = true := by
    intro y; simp [List.mem_filter]
  refine ⟨?_, ?_, ?_, ?_, ?_, ?_, ?_⟩
  · rw [List.nodup_append]
    refine ⟨h.nd, hg.filter _, fun a ha c hc e => ?_⟩
    subst e
    exact ((mf a).1 hc).2.1 ha
  · intro x hx
    rw [List.mem_append] at hx
    exact hx.elim (h.sub x) fun k => ((mf x).1 k).1
  · exact List.mem_append_left _ h.has
  · intro x hx
    rw [List.mem_append] at hx ⊢
    exact hx.elim (fun k => .inl (h.wm x (by simp [k]))) .inr
  · have := h.wl
    simp only [List.length_append, List.length_cons, List.length_nil] at this ⊢
    omega
  · intro x hx hn y hy hxy
    rw [List.mem_append] at hx hn ⊢
    rcases hx with hx | hx
    · by_cases hw : x ∈ ws ++ [here]
      · rw [List.mem_append, List.mem_singleton] at hw
        rcases hw with hw | rfl
        · exact absurd (.inl hw) hn
        · by_cases hm : y ∈ met
          · exact .inl hm
          · exact .inr ((mf y).2 ⟨hy, hm, hxy⟩)
      · exact .inl (h.cl x hx hw y hy hxy)
    · exact absurd (.inr hx) hn
  · intro q hq hs x hx
    rw [List.mem_append] at hx
    rcases hx with hx | hx
    · exact h.re q hq hs x hx
    · obtain ⟨h1, _, h3⟩ := (mf x).1 hx
      exact hq here x (h.re q hq hs here hh) (h.sub here hh) h1 h3
theorem S_piece {k s : Nat} {b : List (List Nat)} {g : List Nat} (h : Bk b) (hg : g.Pairwise (· < ·)) (hlt : ∀ i ∈ g, i < b.length) (hs : s ∈ g) (hl : g.length ≤ 24) (hW : 100 ≤ W) :
    ∃ p, Piece b g s p ∧ Pur (callR fns W (k + 3)) i_piece_with [bk b, tI g, nI s] (tI p) := by
  have hnd := nodup_of_lt hg
  -- the same for each state: the piece is what can be reached
  have one : ∀ st, ∃ p, Piece b g s p ∧ ∃ ex, callR fns W (k + 3) i_piece_with [bk b, tI g, nI s] st = some (tI p, st ++ ex) := by
    intro st
    rw [run_at (fn := m_piece_with) rfl]
    simp only [runF, m_piece_with]
    simp [s_whl]
    have := whl_rule (c := test (callR fns W (k + 2)) (E.cmp .ne (.var 4) (.frz (.disp .nil)))) (f := evSs (callR fns W (k + 2)) W (.cons (.asg (.nm 5) (.pop (.var 4)))
    (.cons (.asg (.nm 6) (.frz (.comp (.one (.nm 7) (.seq (.var 1)) (.cons (.and (.cmp .notin (.var 7) (.var 3)) (.call i_are_neighbours (.cons (.var 0) (.cons (.var 5) (.cons (.var 7) .nil))))) .nil) (.var 7)))))
    (.cons (.extE (.var 3) (.var 6))
    (.cons (.extE (.var 4) (.var 6))
    .nil)))))
      (fun m ρ st' => ∃ met wa o5 o6 o7, ρ = [some (bk b), some (tI g), some (nI s), some (.ref st.length), some (.ref (st.length + 1)), o5, o6, o7] ∧ st' = st ++ [.lst (met.map nI), .lst (wa.map nI)] ∧ PieceInv b g s met wa ∧ m = wa.length + (g.length - met.length))
      (fun fl ρ st' => ∃ met o5 o6 o7, fl = .next ∧ ρ = [some (bk b), some (tI g), some (nI s), some (.ref st.length), some (.ref (st.length + 1)), o5, o6, o7] ∧ st' = st ++ [.lst (met.map nI), .lst []] ∧ PieceInv b g s met [])
      ?_ W (1 + (g.length - 1)) [some (bk b), some (tI g), some (nI s), some (.ref st.length), some (.ref (st.length + 1)), none, none, none] (st ++ [.lst [nI s], .lst [nI s]]) (by omega) ⟨[s], [s], none, none, none, rfl, rfl, ⟨by simp, by simpa using hs, by simp, by simp, by simp, by simp, by simp⟩, by simp⟩
    · obtain ⟨fl, ρ', st', h1, met, o5, o6, o7, rfl, rfl, rfl, h2⟩ := this
      rw [h1]
      have hm : ∀ x, x ∈ met ↔ x ∈ g.filter fun y => decide (y ∈ met) := fun x => by simpa using h2.sub x
      have hup : (g.filter fun y => decide (y ∈ met)).Pairwise (· < ·) := hg.filter _
      refine ⟨g.filter fun y => decide (y ∈ met), ⟨hup, fun x hx => (List.mem_filter.1 hx).1, (hm s).1 h2.has, fun x hx y hy hn => (hm y).1 (h2.cl x ((hm x).2 hx) (by simp) y hy hn), fun q hq hqs x hx => h2.re q hq hqs x ((hm x).2 hx)⟩, ?_⟩
      simp
      rw [sortD_nat hup (perm_of_mem h2.nd (nodup_of_lt hup) hm)]
      simp [tI]
    · rintro m ρ st' ⟨met, wa, o5, o6, o7, rfl, rfl, hi, rfl⟩
      rcases List.eq_nil_or_concat wa with rfl | ⟨ws, here, hc⟩
      · left
        refine ⟨?_, met, o5, o6, o7, rfl, rfl, rfl, hi⟩
        simp [cmpD]
        rw [eq_ref _ _ (get1 _ _ _ _), eq_lst0 (by simp) (by simp)]
        rfl
      · right
        rw [List.concat_eq_append] at hc
        subst hc
        refine ⟨?_, .inl ?_⟩
        · simp [cmpD]
          rw [eq_ref _ _ (get1 _ _ _ _), eq_lst0 (by simp) (by simp)]
          simp
        · have hg' := piece_step hnd hi
          have hhere : here ∈ g := hi.sub here (hi.wm here (by simp))
          have hm1 := nodup_len hg'.nd hg'.sub
          have hm0 := nodup_len hi.nd hi.sub
          rw [List.length_append] at hm1
          refine ⟨_, _, (ws ++ g.filter fun y => decide (y ∉ met) && nr b here y).length + (g.length - (met ++ g.filter fun y => decide (y ∉ met) && nr b here y).length), ?_, ?_, ⟨_, _, some (nI here), some (.lst ((g.filter fun y => decide (y ∉ met) && nr b here y).map nI)), o7, rfl, rfl, hg', rfl⟩⟩
          · have hfl := List.length_filter_le (fun y => decide (y ∉ met) && nr b here y) g
            obtain ⟨F, hF⟩ : ∃ F, F = g.filter fun y => decide (y ∉ met) && nr b here y := ⟨_, rfl⟩
            rw [← hF] at hfl ⊢
            simp
            rw [eg_fil nI g (fun y => decide (y ∉ met) && nr b here y) nI none (by simp) rfl (fun y hy => ⟨_, by simp; rfl, by rw [et_one]; simp [cmpD, (S_near h (hlt here hhere) (hlt y hy)).call, andK_b], by simp⟩)]
            rw [← hF]
            simp only [bnd_some, List.length_map]
            rw [if_pos (by simp only [cap]; omega)]
            simp
            rw [if_pos (by simp only [cap]; omega)]
            have := hi.wl
            simp at this ⊢
            rw [if_pos (by simp only [cap]; omega)]
            rfl
          · simp only [List.length_append, List.length_cons, List.length_nil, List.concat_eq_append]
            omega
  obtain ⟨p, hp, _⟩ := one []
  refine ⟨p, hp, by simp, fun st => ?_⟩
  obtain ⟨p', hp', ex, e⟩ := one st
  exact ⟨ex, by rw [hp.unique hp']; exact e⟩
end K56

end

section
set_option maxRecDepth 100000
set_option maxHeartbeats 4000000
namespace K56
open MM MP PySem
variable {W : Nat}
open Classical in
/-- the piece of s in g -/
noncomputable def pc (b : List (List Nat)) (g : List Nat) (s : Nat) : List Nat := if h : ∃ p, Piece b g s p then h.choose else []
theorem pc_eq {b : List (List Nat)} {g : List Nat} {s : Nat} {p : List Nat} (h : Piece b g s p) : pc b g s = p := by
  have hx : ∃ p, Piece b g s p := ⟨p, h⟩
  rw [pc, dif_pos hx]
  exact hx.choose_spec.unique h
/-- groups of a book -/
structure Gr (b : List (List Nat)) (g : List Nat) : Prop where
  up : g.Pairwise (· < ·)
  lt : ∀ i ∈ g, i < b.length
theorem Gr.len {b : List (List Nat)} {g : List Nat} (hb : Bk b) (h : Gr b g) : g.length ≤ 8 := by
  have := nodup_len (g := List.range b.length) (nodup_of_lt h.up) fun x hx => List.mem_range.2 (h.lt x hx)
  rw [List.length_range] at this
  exact Nat.le_trans this hb.six
theorem S_piece' {k s : Nat} {b : List (List Nat)} {g : List Nat} (h : Bk b) (hg : Gr b g) (hs : s ∈ g) (hW : 100 ≤ W) :
    Piece b g s (pc b g s) ∧ Pur (callR fns W (k + 3)) i_piece_with [bk b, tI g, nI s] (tI (pc b g s)) := by
  obtain ⟨p, hp, hP⟩ := S_piece (W := W) (k := k) h hg.up hg.lt hs (by have := hg.len h; omega) hW
  rw [pc_eq hp]
  exact ⟨hp, hP⟩
theorem isPiece {s : Nat} {b : List (List Nat)} {g : List Nat} (h : Bk b) (hg : Gr b g) (hs : s ∈ g) : Piece b g s (pc b g s) := (S_piece' (W := 100) (k := 0) h hg hs (by omega)).1
noncomputable def pcsF (b : List (List Nat)) (g : List Nat) : List Nat → List (List Nat) → List (List Nat)
  | [], acc => acc
  | s :: ss, acc => if acc.any (fun p => decide (s ∈ p)) then pcsF b g ss acc else pcsF b g ss (acc ++ [pc b g s])
noncomputable def pcs (b : List (List Nat)) (g : List Nat) : List (List Nat) := pcsF b g g []
theorem stays_self {st : St} {n : Nat} {xs : List D} (h : st[n]? = some (.lst xs)) : stays (some (n, xs)) st = true := by
  simp [stays, h, D.beqs_self]
theorem S_pieces {k : Nat} {b : List (List Nat)} {g : List Nat} (h : Bk b) (hg : Gr b g) (hW : 100 ≤ W) : Pur (callR fns W (k + 4)) i_pieces_of [bk b, tI g] (.tup ((pcs b g).map tI)) := by
  refine ⟨by simpa using pures_of_cleans _ (clean_tIs _), fun st => ?_⟩
  rw [run_at (fn := m_pieces_of) rfl]
  simp only [runF, m_pieces_of]
  simp [s_for]
  have hl := hg.len h
  have := for_rule (src := none) (f := bodyF (callR fns W (k + 3)) W (.nm 3) (.cons (.ite (.not (.anyL (.comp (.one (.nm 4) (.seq (.var 2)) .nil (.cmp .isin (.var 3) (.var 4)))))) (.cons (.app (.var 2) (.call i_piece_with (.cons (.var 0) (.cons (.var 1) (.cons (.var 3) .nil)))))
    .nil) .nil)
    .nil)) nI
      (fun xs ρ st' => ∃ acc o3, ρ = [some (bk b), some (tI g), some (.ref st.length), o3, none] ∧ st' = st ++ [.lst (acc.map tI)] ∧ (∀ x ∈ xs, x ∈ g) ∧ acc.length + xs.length ≤ 8 ∧ pcsF b g xs acc = pcs b g)
      (fun fl ρ st' => ∃ o3, fl = .next ∧ ρ = [some (bk b), some (tI g), some (.ref st.length), o3, none] ∧ st' = st ++ [.lst ((pcs b g).map tI)])
      ?_ ?_ g [some (bk b), some (tI g), some (.ref st.length), none, none] (st ++ [.lst []]) ⟨[], none, rfl, rfl, fun _ h => h, by simpa using hl, rfl⟩
  · obtain ⟨fl, ρ', st', h1, o3, rfl, rfl, rfl⟩ := this
    rw [h1]
    simp
  · rintro ρ st' ⟨acc, o3, rfl, rfl, _, _, e⟩
    exact ⟨rfl, o3, rfl, rfl, by rw [← e]; rfl⟩
  · rintro x xs ρ st' ⟨acc, o3, rfl, rfl, hx, hlen, e⟩
    have hxg := hx x (by simp)
    refine ⟨rfl, .inl ?_⟩
    simp [bodyF]
    rw [eg_map tI acc (fun p => .bl (decide (x ∈ p))) (some (st.length, acc.map tI)) (by simp) (stays_self (by simp)) (fun p hp => ⟨_, by simp; rfl, by simp [cmpD]⟩)]
    simp only [List.length_cons] at hlen
    simp
    rw [if_pos (by simp only [cap]; omega)]
    rw [pcsF] at e
    cases hc : acc.any fun p => decide (x ∈ p) with
    | true =>
      rw [if_pos hc] at e
      simp [hc]
      exact ⟨_, _, ⟨rfl, rfl⟩, ⟨_, rfl⟩, acc, rfl, fun y hy => hx y (by simp [hy]), by omega, e⟩
    | false =>
      rw [if_neg (by simp [hc])] at e
      simp [hc, (S_piece' (W := W) (k := k) h hg hxg hW).2.call]
      rw [if_pos (by simp only [cap]; omega)]
      simp
      exact ⟨_, _, ⟨rfl, rfl⟩, ⟨_, rfl⟩, acc ++ [pc b g x], by simp, fun y hy => hx y (by simp [hy]), by simp; omega, e⟩
/-- the book as a relation -/
def CC (b : List (List Nat)) (i c : Nat) : Prop := c ∈ cols b i
theorem nr_iff {b : List (List Nat)} {i j : Nat} : nr b i j = true ↔ PM.Near (CC b) i j := by
  unfold nr PM.Near CC sh
  simp [List.filter_eq_nil_iff]
theorem pcsF_len (b : List (List Nat)) (g : List Nat) : ∀ (ss : List Nat) (acc : List (List Nat)), acc.length ≤ (pcsF b g ss acc).length ∧ ((pcsF b g ss acc).length = acc.length ↔ ∀ x ∈ ss, ∃ p ∈ acc, x ∈ p)
  | [], acc => by simp [pcsF]
  | s :: ss, acc => by
    rw [pcsF]
    split
    · rename_i hc
      have ih := pcsF_len b g ss acc
      refine ⟨ih.1, ih.2.trans ?_⟩
      simp at hc
      simp [hc]
    · rename_i hc
      have ih := pcsF_len b g ss (acc ++ [pc b g s])
      have h1 := ih.1
      rw [List.length_append, List.length_cons, List.length_nil] at h1
      refine ⟨by omega, ⟨fun e => by omega, fun k => ?_⟩⟩
      refine absurd ?_ hc
      simpa using k s (by simp)
theorem pcs_one {b : List (List Nat)} {g : List Nat} (hb : Bk b) (hg : Gr b g) : (pcs b g).length = 1 ↔ PM.Hung (CC b) (· ∈ g) := by
  cases hgs : g with
  | nil =>
    constructor
    · intro h; simp [pcs, pcsF] at h
    · rintro ⟨⟨x, hx⟩, _⟩; cases hx
  | cons s ss =>
    have hs : s ∈ g := by simp [hgs]
    have P := isPiece hb hg hs
    have e : pcs b g = pcsF b g ss [pc b g s] := by
      rw [pcs]
      conv => lhs; arg 3; rw [hgs]
      rw [pcsF]
      simp
    rw [← hgs, e, show (1 : Nat) = [pc b g s].length from rfl, (pcsF_len b g ss _).2]
    have e2 : (∀ x ∈ ss, ∃ p ∈ [pc b g s], x ∈ p) ↔ ∀ x ∈ g, x ∈ pc b g s := by
      simp only [List.mem_singleton, exists_eq_left]
      constructor
      · intro k x hx
        rw [hgs, List.mem_cons] at hx
        rcases hx with rfl | hx
        · exact P.has
        · exact k x hx
      · exact fun k x hx => k x (by simp [hgs, hx])
    rw [e2]
    constructor
    · intro k
      refine ⟨⟨s, hs⟩, ?_⟩
      rintro p ⟨x, hx, hp⟩ ⟨y, hy, hq⟩
      refine Classical.byContradiction fun hno => ?_
      by_cases hps : p s
      · exact hq (P.re p (fun u v hu hug hvg hn => Classical.byContradiction fun hv => hno ⟨u, v, hug, hvg, hu, hv, nr_iff.1 hn⟩) hps y (k y hy))
      · exact P.re (fun z => ¬ p z) (fun u v hu hug hvg hn hv => hno ⟨v, u, hvg, hug, hv, hu, (nr_iff.1 hn).symm⟩) hps x (k x hx) hp
    · rintro ⟨_, k⟩ y hy
      refine Classical.byContradiction fun hno => ?_
      obtain ⟨u, v, hu, hv, hpu, hpv, hn⟩ := k (· ∈ pc b g s) ⟨s, hs, P.has⟩ ⟨y, hy, hno⟩
      exact hpv (P.cl u hpu v hv (nr_iff.2 hn))
/-- does it hang together -/
noncomputable def hungB (b : List (List Nat)) (g : List Nat) : Bool := decide ((pcs b g).length = 1)
theorem hung_iff {b : List (List Nat)} {g : List Nat} (hb : Bk b) (hg : Gr b g) : hungB b g = true ↔ PM.Hung (CC b) (· ∈ g) := by
  rw [hungB, decide_eq_true_eq, pcs_one hb hg]
theorem S_hangs {k : Nat} {b : List (List Nat)} {g : List Nat} (h : Bk b) (hg : Gr b g) (hW : 100 ≤ W) : Pur (callR fns W (k + 5)) i_hangs_of [bk b, tI g] (.bl (hungB b g)) := by
  refine .of0 (by simp) fun st => ?_
  rw [run_at (fn := m_hangs_of) rfl]
  simp only [runF, m_hangs_of]
  simp [(S_pieces h hg hW).call, cmpD, hungB]
  omega
end K56

end

section
set_option maxRecDepth 100000
set_option maxHeartbeats 4000000
namespace K56
open MM MP PySem
variable {W : Nat}
theorem mem_sh {b : List (List Nat)} {i j c : Nat} : c ∈ sh b i j ↔ c ∈ cols b i ∧ c ∈ cols b j := by simp [sh, List.mem_filter]
theorem mem_meet {b : List (List Nat)} (h : Bk b) {l r : List Nat} {c : Nat} : c ∈ meet b l r ↔ (∃ x, x ∈ l ∧ c ∈ cols b x) ∧ ∃ y, y ∈ r ∧ c ∈ cols b y := by
  simp [meet, List.mem_filter, mem_cs h]
theorem good_iff {b : List (List Nat)} {l r : List Nat} (h : Bk b) : goodB b l r = true ↔ PM.Good (CC b) (· ∈ l) (· ∈ r) := by
  rw [goodB, Bool.and_eq_true, decide_eq_true_eq, List.all_eq_true]
  constructor
  · rintro ⟨h1, h2⟩
    refine ⟨?_, fun i j hi hj hn c hx hy => ?_⟩
    · obtain ⟨p, ps, e⟩ := List.exists_cons_of_ne_nil h1
      have := mem_across.1 (show p ∈ across b l r by rw [e]; simp)
      exact ⟨p.1, p.2, this.1, this.2.1, nr_iff.1 this.2.2⟩
    · have := h2 (i, j) (mem_across.2 ⟨hi, hj, nr_iff.2 hn⟩)
      rw [decide_eq_true_eq] at this
      have hc := (mem_meet h (l := l) (r := r) (c := c)).2 ⟨hx, hy⟩
      rw [← this] at hc
      exact mem_sh.1 hc
  · rintro ⟨⟨i, j, hi, hj, hn⟩, h2⟩
    refine ⟨List.ne_nil_of_mem (mem_across.2 ⟨hi, hj, nr_iff.2 hn⟩ : (i, j) ∈ across b l r), ?_⟩
    intro p hp
    obtain ⟨h3, h4, h5⟩ := mem_across.1 hp
    rw [decide_eq_true_eq]
    refine sorted_ext ((cols_up h _).filter _) ((ups_lt _ _).filter _) fun c => ?_
    rw [mem_sh, mem_meet h]
    exact ⟨fun k => ⟨⟨_, h3, k.1⟩, _, h4, k.2⟩, fun k => h2 p.1 p.2 h3 h4 (nr_iff.1 h5) c k.1 k.2⟩
/-- all sources -/
abbrev allS (b : List (List Nat)) : List Nat := List.range b.length
theorem allS_gr (b : List (List Nat)) : Gr b (allS b) := ⟨List.pairwise_lt_range, fun i hi => List.mem_range.1 hi⟩
theorem S_every {k : Nat} {b : List (List Nat)} (h : Bk b) : Pur (callR fns W (k + 1)) i_every_source [bk b] (tI (allS b)) := by
  refine .of0 (by simp) fun st => ?_
  rw [run_at (fn := m_every_source) rfl]
  simp only [runF, m_every_source]
  have := h.six
  simp [evE]
  rw [if_pos (by omega)]
  rfl
/-- the group without s -/
abbrev wo (g : List Nat) (s : Nat) : List Nat := g.filter fun x => decide (x ≠ s)
theorem wo_gr {b : List (List Nat)} {g : List Nat} (h : Gr b g) (s : Nat) : Gr b (wo g s) := ⟨h.up.filter _, fun i hi => h.lt i (List.mem_filter.1 hi).1⟩
theorem mem_wo {g : List Nat} {s x : Nat} : x ∈ wo g s ↔ x ∈ g ∧ x ≠ s := by simp [List.mem_filter]
/-- can s go last -/
noncomputable def goB (b : List (List Nat)) (g : List Nat) (s : Nat) : Bool := hungB b (wo g s) && goodB b (wo g s) [s]
theorem go_iff {b : List (List Nat)} {g : List Nat} {s : Nat} (hb : Bk b) (hg : Gr b g) : goB b g s = true ↔ PM.CanGo (CC b) (· ∈ g) s := by
  rw [goB, Bool.and_eq_true, hung_iff hb (wo_gr hg s), good_iff hb, PM.CanGo]
  have e : (fun y => y ∈ wo g s) = fun y => y ∈ g ∧ y ≠ s := funext fun y => propext mem_wo
  have e2 : (fun y => y ∈ [s]) = fun y => y = s := funext fun y => by simp
  rw [e, e2]
end K56

end

section
set_option maxRecDepth 100000
set_option maxHeartbeats 4000000
namespace K56
open MM MP PySem
variable {W : Nat}
def optI : Option Nat → D
  | some s => nI s
  | none => .non
noncomputable def lastO (b : List (List Nat)) (g : List Nat) : Option Nat := g.reverse.find? (goB b g)
@[scoped simp] theorem rev_tI {st : St} (g : List Nat) : revD st (tI g) = some (tI g.reverse) := by simp [revD, tI]
end K56

end

section
set_option maxRecDepth 100000
set_option maxHeartbeats 4000000
namespace K56
open MM MP PySem
variable {W : Nat}
def optT : Option (List Nat) → D
  | some s => tI s
  | none => .non
noncomputable def oosF (b : List (List Nat)) : Nat → List Nat → List Nat → Option (List Nat) × Option (List Nat)
  | 0, g, _ => (none, some g)
  | n + 1, g, beh => if 1 < g.length then match lastO b g with
      | none => (none, some g)
      | some s => oosF b n (wo g s) (beh ++ [s])
    else (some (g ++ beh.reverse), none)
noncomputable def oos (b : List (List Nat)) : Option (List Nat) × Option (List Nat) := oosF b b.length (allS b) []
theorem lastO_some {b : List (List Nat)} {g : List Nat} {s : Nat} (h : lastO b g = some s) : s ∈ g ∧ goB b g s = true := by
  have := List.find?_some h
  exact ⟨List.mem_reverse.1 (List.mem_of_find?_eq_some h), this⟩
theorem lastO_none {b : List (List Nat)} {g : List Nat} (h : lastO b g = none) : ∀ s ∈ g, goB b g s = false := by
  intro s hs
  have := List.find?_eq_none.1 h s (List.mem_reverse.2 hs)
  simpa using this
theorem wo_len {g : List Nat} {s : Nat} (hn : g.Nodup) (hs : s ∈ g) : (wo g s).length + 1 = g.length := by
  have : wo g s = g.erase s := by
    rw [hn.erase_eq_filter]
    show g.filter (fun x => decide (x ≠ s)) = g.filter (fun x => x != s)
    congr 1
    funext x
    by_cases hx : x = s <;> simp [hx]
  rw [this, List.length_erase_of_mem hs]
  have := List.length_pos_of_mem hs
  omega
@[scoped simp] theorem rev_ref {st : St} (n : Nat) : revD st (.ref n) = (seqOf st (.ref n)).map fun xs => .lst xs.reverse := rfl
theorem add_tI {st : St} {a c : List Nat} (h : a.length + c.length ≤ 1000) : binD .add st (tI a) (.tup (c.map nI)) = some (tI (a ++ c)) := by
  simp [binD, tI, cap]
  omega
end K56

end

section
set_option maxRecDepth 100000
set_option maxHeartbeats 4000000
namespace K56
open MM MP PySem
variable {W : Nat}
/-- an order whose forks, one source behind those ahead, are good -/
def OrdR (b : List (List Nat)) (o : List Nat) : Prop := ∀ pre s post, o = pre ++ s :: post → pre ≠ [] → PM.Good (CC b) (· ∈ pre) (· = s)
theorem oosF_spec {b : List (List Nat)} (hb : Bk b) : ∀ (n : Nat) (g beh : List Nat), Gr b g → g ≠ [] → g.length ≤ n → PM.Hung (CC b) (· ∈ g) →
    (∃ r : List Nat, oosF b n g beh = (some (r ++ beh.reverse), none) ∧ r.Perm g ∧ OrdR b r ∧ PM.Dism (CC b) (· ∈ g)) ∨
    (∃ g' : List Nat, oosF b n g beh = (none, some g') ∧ Gr b g' ∧ 2 ≤ g'.length ∧ PM.Hung (CC b) (· ∈ g') ∧ (∀ s ∈ g', ¬ PM.CanGo (CC b) (· ∈ g') s) ∧ ¬ PM.Dism (CC b) (· ∈ g))
  | 0, g, beh, hg, hne, hlen, _ => absurd (List.length_pos_iff.2 hne) (by omega)
  | n + 1, g, beh, hg, hne, hlen, hh => by
    rw [oosF]
    by_cases h1 : 1 < g.length
    · rw [if_pos h1]
      cases hc : lastO b g with
      | none =>
        right
        have hno : ∀ s ∈ g, ¬ PM.CanGo (CC b) (· ∈ g) s := fun s hs k => by
          have := lastO_none hc s hs
          rw [(go_iff hb hg).2 k] at this
          cases this
        refine ⟨g, rfl, hg, h1, hh, hno, fun hd => ?_⟩
        obtain ⟨x, y, r, e⟩ : ∃ x y r, g = x :: y :: r := by
          match g, h1 with
          | x :: y :: r, _ => exact ⟨x, y, r, rfl⟩
        have hxy : x ≠ y := by
          have := nodup_of_lt hg.up
          rw [e] at this
          simp at this
          exact this.1.1
        obtain ⟨z, hz, hcz⟩ := hd.next ⟨x, y, by simp [e], by simp [e], hxy⟩
        exact hno z hz hcz
      | some s =>
        obtain ⟨hs, hgo⟩ := lastO_some hc
        have hcg := (go_iff hb hg).1 hgo
        have hw := wo_len (nodup_of_lt hg.up) hs
        have e1 : (fun y => y ∈ wo g s) = fun y => y ∈ g ∧ y ≠ s := funext fun y => propext mem_wo
        have hwh : PM.Hung (CC b) (· ∈ wo g s) := by rw [e1]; exact hcg.1
        rcases oosF_spec hb n (wo g s) (beh ++ [s]) (wo_gr hg s) (by intro k; rw [k] at hw; simp at hw; omega) (by omega) hwh with ⟨r, h2, h3, h4, h5⟩ | ⟨g', h2, h3, h4, h5, h6, h7⟩
        · left
          refine ⟨r ++ [s], by show oosF b n (wo g s) (beh ++ [s]) = _; rw [h2]; simp, ?_, ?_, ?_⟩
          · refine (h3.append_right [s]).trans ?_
            refine perm_of_mem ?_ (nodup_of_lt hg.up) fun x => ?_
            · rw [List.nodup_append]
              refine ⟨nodup_of_lt (wo_gr hg s).up, by simp, fun a ha c hc' e => ?_⟩
              rw [List.mem_singleton] at hc'
              exact (mem_wo.1 ha).2 (e.trans hc')
            · rw [List.mem_append, mem_wo, List.mem_singleton]
              constructor
              · rintro (k | rfl)
                · exact k.1
                · exact hs
              · intro k
                by_cases hx : x = s
                · exact .inr hx
                · exact .inl ⟨k, hx⟩
          · intro pre x post e hp
            rcases List.eq_nil_or_concat post with rfl | ⟨post', z, rfl⟩
            · obtain ⟨rfl, e4⟩ := List.append_inj' e rfl
              rw [List.cons.injEq] at e4
              rw [← e4.1]
              have e5 : (fun y => y ∈ r) = fun y => y ∈ g ∧ y ≠ s := funext fun y => propext (h3.mem_iff.trans mem_wo)
              rw [e5]
              exact hcg.2
            · have e6 : r ++ [s] = (pre ++ x :: post') ++ [z] := by rw [e]; simp
              obtain ⟨e7, _⟩ := List.append_inj' e6 rfl
              exact h4 pre x post' e7 hp
          · exact .off s hs hcg (by rw [e1] at h5; exact h5)
        · right
          refine ⟨g', h2, h3, h4, h5, h6, fun hd => h7 ?_⟩
          exact hd.cut (fun x => x ∈ wo g s) (fun x hx => (mem_wo.1 hx).1) hwh
    · rw [if_neg h1]
      left
      obtain ⟨x, rfl⟩ : ∃ x, g = [x] := by
        match g, hne, h1 with
        | [x], _, _ => exact ⟨x, rfl⟩
        | x :: y :: r, _, h => simp at h
      refine ⟨[x], rfl, .refl _, ?_, .one x fun y => by simp⟩
      intro pre s post e hp
      match pre, hp with
      | y :: r, _ => simp at e
end K56

end

section
set_option maxRecDepth 100000
set_option maxHeartbeats 4000000
namespace K56
open MM MP PySem
variable {W : Nat}
theorem S_scheme {k : Nat} {b : List (List Nat)} {s : List Nat} (h : Bk b) (hs : s ∈ b) : Pur (callR fns W (k + 5)) i_is_scheme [tI s] (.bl true) := by
  refine .of0 rfl fun st => ?_
  rw [run_at (fn := m_is_scheme) rfl]
  simp only [runF, m_is_scheme]
  have h1 := h.len s hs
  have h2 := List.length_pos_iff.2 (h.ne s hs)
  have h3 : callE (callR fns W (k + 4)) i_is_rising [tI s, .int 24] st = some (.bl true, st) := (S_rising (W := W) (k := k) (n := 24) (h.up s hs) (h.lt s hs) (by omega)).call st
  simp [h3, cmpD, cmpInt]
  rw [show (decide ((1 : Int) ≤ (s.length : Int))) = true from decide_eq_true (by omega)]
  simp
  omega
theorem S_size {k : Nat} {b : List (List Nat)} (h : Bk b) : Pur (callR fns W (k + 1)) i_has_size [bk b] (.bl true) := by
  refine .of0 rfl fun st => ?_
  rw [run_at (fn := m_has_size) rfl]
  simp only [runF, m_has_size]
  have h1 := h.one
  have h2 := h.six
  simp [cmpD, cmpInt]
  rw [show (decide ((1 : Int) ≤ (b.length : Int))) = true from decide_eq_true (by omega)]
  simp
  omega
@[scoped simp] theorem idx_0 {st : St} (x : D) (r : List D) : idxD st (.tup (x :: r)) (.int 0) = some x := by
  simp [idxD, atD, L2.atI, L2.ixN]
@[scoped simp] theorem idx_1 {st : St} (x y : D) (r : List D) : idxD st (.tup (x :: y :: r)) (.int 1) = some y := by
  have := ixN_nat (n := (x :: y :: r).length) (i := 1) (by simp)
  simp only [idxD, seq_tup, atD, L2.atI]
  rw [show (1 : Int) = ((1 : Nat) : Int) from rfl, this]
  rfl
theorem zip_enm : ∀ (l : List Nat) (b : List (List Nat)), List.zipWith (fun (i : Nat) x => D.tup [.int (i : Int), x]) l (b.map tI) = (l.zip b).map fun p => D.tup [nI p.1, tI p.2]
  | [], b => rfl
  | x :: xs, [] => rfl
  | x :: xs, y :: ys => by simp [zip_enm xs ys]
theorem S_wrong {k : Nat} {b : List (List Nat)} (h : Bk b) : Pur (callR fns W (k + 6)) i_first_wrong [bk b] .non := by
  refine .of0 rfl fun st => ?_
  rw [run_at (fn := m_first_wrong) rfl]
  simp only [runF, m_first_wrong]
  have he : evIt (callR fns W (k + 5)) (.enm (.var 0)) [some (bk b), none, none] st = some ((((List.range b.length).zip b).map fun p => D.tup [nI p.1, tI p.2], none), st) := by
    rw [evIt]
    simp [bk]
    exact zip_enm _ _
  simp [s_for, he]
  have := for_rule (src := none) (f := bodyF (callR fns W (k + 5)) W (.tp (.cons (.nm 1) (.cons (.nm 2) .nil))) (.cons (.ite (.not (.call i_is_scheme (.cons (.var 2) .nil))) (.cons (.ret (.var 1))
    .nil) .nil)
    .nil)) (fun p : Nat × List Nat => D.tup [nI p.1, tI p.2])
      (fun xs ρ st' => ∃ o p, ρ = [some (bk b), o, p] ∧ st' = st ∧ ∀ x ∈ xs, x.2 ∈ b)
      (fun fl ρ st' => st' = st ∧ fl = .next)
      ?_ ?_ ((List.range b.length).zip b) [some (bk b), none, none] st ⟨none, none, rfl, rfl, fun x hx => (List.of_mem_zip hx).2⟩
  · obtain ⟨fl, ρ', st', h1, rfl, rfl⟩ := this
    rw [h1]
    simp
  · rintro ρ st' ⟨o, p, rfl, rfl, _⟩
    exact ⟨rfl, rfl, rfl⟩
  · rintro x xs ρ st' ⟨o, p, rfl, rfl, hx⟩
    refine ⟨rfl, .inl ⟨[some (bk b), some (nI x.1), some (tI x.2)], st', by simp [bodyF, (S_scheme (W := W) (k := k) h (hx x (by simp))).call], _, _, rfl, rfl, fun y hy => hx y (by simp [hy])⟩⟩
theorem S_made {k : Nat} {b : List (List Nat)} (h : Bk b) : Pur (callR fns W (k + 7)) i_made_book [bk b] (bk b) := by
  refine .of0 (by simp) fun st => ?_
  rw [run_at (fn := m_made_book) rfl]
  simp only [runF, m_made_book]
  simp [(S_size (W := W) (k := k + 5) h).call, (S_wrong (W := W) (k := k) h).call, cmpD]
theorem S_isbook {k : Nat} {b : List (List Nat)} (h : Bk b) : Pur (callR fns W (k + 7)) i_is_book [bk b] (.bl true) := by
  refine .of0 (by simp) fun st => ?_
  rw [run_at (fn := m_is_book) rfl]
  simp only [runF, m_is_book]
  simp [(S_size (W := W) (k := k + 5) h).call, (S_wrong (W := W) (k := k) h).call, cmpD]
theorem S_wantg {k : Nat} {b : List (List Nat)} (h : Bk b) (hh : PM.Hung (CC b) (· ∈ allS b)) (hW : 100 ≤ W) : Pur (callR fns W (k + 5)) i_want_group_joined [bk b, tI (allS b)] .non := by
  refine .of0 (by simp) fun st => ?_
  rw [run_at (fn := m_want_group_joined) rfl]
  simp only [runF, m_want_group_joined]
  have := (pcs_one h (allS_gr b)).2 hh
  simp [(S_pieces (W := W) (k := k) h (allS_gr b) hW).call, cmpD, cmpInt, this]
theorem S_want {k : Nat} {b : List (List Nat)} (h : Bk b) (hh : PM.Hung (CC b) (· ∈ allS b)) (hW : 100 ≤ W) : Pur (callR fns W (k + 6)) i_want_joined [bk b] .non := by
  refine .of0 (by simp) fun st => ?_
  rw [run_at (fn := m_want_joined) rfl]
  simp only [runF, m_want_joined]
  simp [(S_every (W := W) (k := k + 4) h).call, (S_wantg (W := W) (k := k) h hh hW).call]
theorem S_joined {k : Nat} {b : List (List Nat)} (h : Bk b) (hh : PM.Hung (CC b) (· ∈ allS b)) (hW : 100 ≤ W) : Pur (callR fns W (k + 8)) i_made_joined [bk b] (bk b) := by
  refine .of0 (by simp) fun st => ?_
  rw [run_at (fn := m_made_joined) rfl]
  simp only [runF, m_made_joined]
  simp [(S_made (W := W) (k := k) h).call, (S_want (W := W) (k := k + 1) h hh hW).call]
end K56

end

section
set_option maxRecDepth 100000
set_option maxHeartbeats 4000000
namespace K56
open MM MP PySem
variable {W : Nat}
/-! ### plans -/
def tD : PM.T → D
  | .leaf x => nI x
  | .fork l r => .tup [tD l, tD r]
def row : PM.T → List Nat
  | .leaf x => [x]
  | .fork l r => row l ++ row r
def tdep : PM.T → Nat
  | .leaf _ => 0
  | .fork l r => max (tdep l) (tdep r) + 1
def lvs (t : PM.T) : List Nat := ups 24 fun x => decide (x ∈ row t)
def fks : PM.T → List (List Nat × List Nat)
  | .leaf _ => []
  | .fork l r => fks l ++ fks r ++ [(lvs l, lvs r)]
theorem clean_tD : ∀ t, clean (tD t) = true
  | .leaf x => rfl
  | .fork l r => by simp [tD, clean_tD l, clean_tD r]
@[scoped simp] theorem pure_tD (t : PM.T) : D.pure (tD t) = true := pure_of_clean _ (clean_tD t)
theorem S_isleaf {k : Nat} (t : PM.T) : Pur (callR fns W (k + 1)) i_is_leaf [tD t] (.bl (match t with | .leaf _ => true | _ => false)) := by
  refine .of0 (by simp) fun st => ?_
  rw [run_at (fn := m_is_leaf) rfl]
  simp only [runF, m_is_leaf]
  cases t <;> simp [tD]
theorem S_row {k : Nat} : ∀ (t : PM.T), (row t).length ≤ 24 → Pur (callR fns W (k + tdep t + 2)) i_row_of [tD t] (tI (row t))
  | .leaf x, _ => by
    refine .of0 (by simp) fun st => ?_
    rw [show k + tdep (.leaf x) + 2 = (k + 1) + 1 from rfl, run_at (fn := m_row_of) rfl]
    simp only [runF, m_row_of]
    simp [(S_isleaf (W := W) (k := k) (.leaf x)).call]
    rfl
  | .fork l r, h => by
    have h' : (row l).length + (row r).length ≤ 24 := by simpa [row] using h
    refine .of0 (by simp) fun st => ?_
    have hl := S_row (k := k + (max (tdep l) (tdep r) - tdep l)) l (by omega)
    have hr := S_row (k := k + (max (tdep l) (tdep r) - tdep r)) r (by omega)
    rw [show k + (max (tdep l) (tdep r) - tdep l) + tdep l + 2 = k + max (tdep l) (tdep r) + 2 by omega] at hl
    rw [show k + (max (tdep l) (tdep r) - tdep r) + tdep r + 2 = k + max (tdep l) (tdep r) + 2 by omega] at hr
    rw [show k + tdep (.fork l r) + 2 = (k + max (tdep l) (tdep r) + 2) + 1 by simp [tdep]; omega, run_at (fn := m_row_of) rfl]
    simp only [runF, m_row_of]
    have e : tD (.fork l r) = .tup [tD l, tD r] := rfl
    simp [(S_isleaf (W := W) (k := k + max (tdep l) (tdep r) + 1) (.fork l r)).call]
    simp [e, hl.call, hr.call, row]
    rw [show tI (row r) = .tup ((row r).map nI) from rfl, add_tI (by omega)]
    rfl
end K56

end

section
set_option maxRecDepth 100000
set_option maxHeartbeats 4000000
namespace K56
open MM MP PySem
variable {W : Nat}
/-- plans with each source once, sources below 24 -/
structure Pl (t : PM.T) : Prop where
  nd : (row t).Nodup
  lt : ∀ x ∈ row t, x < 24
theorem Pl.len {t : PM.T} (h : Pl t) : (row t).length ≤ 24 := by
  have := nodup_len (g := List.range 24) h.nd fun x hx => List.mem_range.2 (h.lt x hx)
  rwa [List.length_range] at this
theorem Pl.left {l r : PM.T} (h : Pl (.fork l r)) : Pl l := ⟨(List.nodup_append.1 (show (row l ++ row r).Nodup from h.nd)).1, fun x hx => h.lt x (List.mem_append_left _ hx)⟩
theorem Pl.right {l r : PM.T} (h : Pl (.fork l r)) : Pl r := ⟨(List.nodup_append.1 (show (row l ++ row r).Nodup from h.nd)).2.1, fun x hx => h.lt x (List.mem_append_right _ hx)⟩
theorem lvs_perm {t : PM.T} (h : Pl t) : (row t).Perm (lvs t) := perm_of_mem h.nd (nodup_of_lt (ups_lt _ _)) fun x => by
  rw [lvs, mem_ups, decide_eq_true_eq]
  exact ⟨fun k => ⟨h.lt x k, k⟩, fun k => k.2⟩
theorem S_leaves {k : Nat} (t : PM.T) (h : Pl t) : Pur (callR fns W (k + tdep t + 3)) i_leaves_of [tD t] (tI (lvs t)) := by
  refine .of0 (by simp) fun st => ?_
  rw [run_at (fn := m_leaves_of) rfl]
  simp only [runF, m_leaves_of]
  simp [(S_row (W := W) (k := k) t h.len).call, tI]
  rw [sort_perm (ups_lt _ _) (lvs_perm h), map_int]
  rfl
def fD (p : List Nat × List Nat) : D := .tup [tI p.1, tI p.2]
theorem clean_fDs (l : List (List Nat × List Nat)) : cleans (l.map fD) = true := by rw [cleans_iff]; intro x h; obtain ⟨p, _, rfl⟩ := List.mem_map.1 h; simp [fD]
theorem fks_len : ∀ t : PM.T, (fks t).length + 1 = (row t).length
  | .leaf x => rfl
  | .fork l r => by
    have h1 := fks_len l
    have h2 := fks_len r
    simp only [fks, row, List.length_append, List.length_cons, List.length_nil]
    omega
theorem add_tup {st : St} {a c : List D} (h : a.length + c.length ≤ 1000) : binD .add st (.tup a) (.tup c) = some (.tup (a ++ c)) := by
  show (if decide (a.length + c.length ≤ cap) = true then some (D.tup (a ++ c)) else none) = _
  rw [if_pos (decide_eq_true (Nat.le_trans h (by decide)))]
theorem S_forks {k : Nat} : ∀ (t : PM.T), Pl t → Pur (callR fns W (k + tdep t + 4)) i_forks_of [tD t] (.tup ((fks t).map fD))
  | .leaf x, _ => by
    refine .of0 (by simp [fks]) fun st => ?_
    rw [show k + tdep (.leaf x) + 4 = (k + 3) + 1 from rfl, run_at (fn := m_forks_of) rfl]
    simp only [runF, m_forks_of]
    simp [(S_isleaf (W := W) (k := k + 2) (.leaf x)).call, fks]
  | .fork l r, h => by
    refine .of0 (by simpa using pures_of_cleans _ (clean_fDs _)) fun st => ?_
    have hl := S_forks (k := k + (max (tdep l) (tdep r) - tdep l)) l h.left
    have hr := S_forks (k := k + (max (tdep l) (tdep r) - tdep r)) r h.right
    have hl2 := S_leaves (W := W) (k := k + (max (tdep l) (tdep r) - tdep l) + 1) l h.left
    have hr2 := S_leaves (W := W) (k := k + (max (tdep l) (tdep r) - tdep r) + 1) r h.right
    rw [show k + (max (tdep l) (tdep r) - tdep l) + tdep l + 4 = k + max (tdep l) (tdep r) + 4 by omega] at hl
    rw [show k + (max (tdep l) (tdep r) - tdep r) + tdep r + 4 = k + max (tdep l) (tdep r) + 4 by omega] at hr
    rw [show k + (max (tdep l) (tdep r) - tdep l) + 1 + tdep l + 3 = k + max (tdep l) (tdep r) + 4 by omega] at hl2
    rw [show k + (max (tdep l) (tdep r) - tdep r) + 1 + tdep r + 3 = k + max (tdep l) (tdep r) + 4 by omega] at hr2
    rw [show k + tdep (.fork l r) + 4 = (k + max (tdep l) (tdep r) + 4) + 1 by simp [tdep]; omega, run_at (fn := m_forks_of) rfl]
    simp only [runF, m_forks_of]
    have e : tD (.fork l r) = .tup [tD l, tD r] := rfl
    have n1 := fks_len l
    have n2 := fks_len r
    have n3 := h.len
    simp only [row, List.length_append] at n3
    simp [(S_isleaf (W := W) (k := k + max (tdep l) (tdep r) + 3) (.fork l r)).call]
    simp [e, hl.call, hr.call, hl2.call, hr2.call]
    rw [add_tup (by simp; omega)]
    simp
    rw [add_tup (by simp; omega)]
    simp [fks, fD]
end K56

end

section
set_option maxRecDepth 100000
set_option maxHeartbeats 4000000
namespace K56
open MM MP PySem
variable {W : Nat}
/-- one source behind another -/
def chn (x : Nat) (r : List Nat) : PM.T := r.foldl (fun t y => .fork t (.leaf y)) (.leaf x)
theorem row_fold : ∀ (r : List Nat) (t : PM.T), row (r.foldl (fun t y => .fork t (.leaf y)) t) = row t ++ r
  | [], t => by simp
  | y :: r, t => by rw [List.foldl_cons, row_fold r]; simp [row]
theorem row_chn (x : Nat) (r : List Nat) : row (chn x r) = x :: r := by rw [chn, row_fold]; rfl
end K56

end

section
set_option maxRecDepth 100000
set_option maxHeartbeats 4000000
namespace K56
open MM MP PySem
variable {W : Nat}
/-- orders of all sources -/
structure Od (b : List (List Nat)) (o : List Nat) : Prop where
  perm : o.Perm (allS b)
theorem el_srt_tI {cl : Cl} {a : E} {ρ : Rho} {st st' : St} {o m : List Nat} (h : evE cl a ρ st = some (tI o, st')) (hp : o.Perm m) (hm : m.Pairwise (· < ·)) : evL cl (.srt a) ρ st = some (m.map nI, st') := by
  rw [el_srt, h]
  simp [tI]
  rw [sort_perm hm hp, map_int]
/-- all forks are good -/
def allG (b : List (List Nat)) (t : PM.T) : Bool := (fks t).all fun p => goodB b p.1 p.2
theorem fks_in : ∀ (t : PM.T) (p : List Nat × List Nat), p ∈ fks t → (∀ x ∈ p.1, x ∈ row t) ∧ (∀ x ∈ p.2, x ∈ row t)
  | .leaf _, p, h => by cases h
  | .fork l r, p, h => by
    rw [fks, List.mem_append, List.mem_append, List.mem_singleton] at h
    rcases h with (h | h) | rfl
    · have := fks_in l p h
      exact ⟨fun x hx => List.mem_append_left _ (this.1 x hx), fun x hx => List.mem_append_left _ (this.2 x hx)⟩
    · have := fks_in r p h
      exact ⟨fun x hx => List.mem_append_right _ (this.1 x hx), fun x hx => List.mem_append_right _ (this.2 x hx)⟩
    · refine ⟨fun x hx => List.mem_append_left _ ?_, fun x hx => List.mem_append_right _ ?_⟩
      · have := (mem_ups.1 hx).2; simpa using this
      · have := (mem_ups.1 hx).2; simpa using this
theorem fks_small : ∀ (t : PM.T) (p : List Nat × List Nat), p ∈ fks t → p.1.length ≤ 24 ∧ p.2.length ≤ 24
  | .leaf _, p, h => by cases h
  | .fork l r, p, h => by
    rw [fks, List.mem_append, List.mem_append, List.mem_singleton] at h
    rcases h with (h | h) | rfl
    · exact fks_small l p h
    · exact fks_small r p h
    · exact ⟨len_ups _ _, len_ups _ _⟩
theorem S_allgood {k : Nat} {b : List (List Nat)} {t : PM.T} (h : Bk b) (ht : Pl t) (hin : ∀ x ∈ row t, x < b.length) : Pur (callR fns W (k + tdep t + 5)) i_all_good [bk b, tD t] (.bl (allG b t)) := by
  refine .of0 rfl fun st => ?_
  rw [run_at (fn := m_all_good) rfl]
  simp only [runF, m_all_good]
  simp
  rw [eg_map fD (fks t) (fun p => .bl (goodB b p.1 p.2)) none (by simp [(S_forks (W := W) (k := k) t ht).call]) rfl (fun p hp => ⟨[some (bk b), some (tD t), some (tI p.1), some (tI p.2)], by simp [fD], by
    have h1 := fks_in t p hp
    have h2 := fks_small t p hp
    have := S_good (W := W) (k := k + tdep t) (l := p.1) (r := p.2) h (fun i hi => hin i (h1.1 i hi)) h2.1 (fun i hi => hin i (h1.2 i hi)) h2.2
    simp [this.call]⟩)]
  have := fks_len t
  have := ht.len
  simp only [bnd_some, List.length_map]
  rw [if_pos (by simp only [cap]; omega)]
  simp [allG]
end K56

end

section
set_option maxRecDepth 100000
set_option maxHeartbeats 4000000
namespace K56
open MM MP PySem
variable {W : Nat}
theorem chn_in (x : Nat) (r : List Nat) : row (chn x r) = x :: r := row_chn x r
theorem tdep_fold : ∀ (r : List Nat) (t : PM.T), tdep (r.foldl (fun t y => .fork t (.leaf y)) t) ≤ tdep t + r.length
  | [], t => by simp
  | y :: r, t => by
    have := tdep_fold r (.fork t (.leaf y))
    rw [List.foldl_cons, List.length_cons]
    simp only [tdep] at this ⊢
    omega
theorem tdep_chn (x : Nat) (r : List Nat) : tdep (chn x r) ≤ r.length := by
  have := tdep_fold r (.leaf x)
  simpa [chn, tdep] using this
/-- an order is right by all its forks -/
def ordB (b : List (List Nat)) : List Nat → Bool
  | [] => false
  | x :: r => allG b (chn x r)
theorem Pur.up {k : Nat} {f : Nat} {ds : List D} {d : D} (h : Pur (callR fns W k) f ds d) {k' : Nat} (e : k' = k) : Pur (callR fns W k') f ds d := e ▸ h
theorem order_pl {b : List (List Nat)} {x : Nat} {r : List Nat} (h : Bk b) (ho : (x :: r).Perm (allS b)) : Pl (chn x r) ∧ (∀ y ∈ row (chn x r), y < b.length) ∧ tdep (chn x r) ≤ 7 := by
  have h6 := h.six
  have hr : row (chn x r) = x :: r := row_chn x r
  have hin : ∀ y ∈ row (chn x r), y < b.length := fun y hy => by
    rw [hr] at hy
    exact List.mem_range.1 (ho.mem_iff.1 hy)
  refine ⟨⟨by rw [hr]; exact ho.nodup_iff.2 List.nodup_range, fun y hy => by have := hin y hy; omega⟩, hin, ?_⟩
  have := tdep_chn x r
  have := ho.length_eq
  rw [List.length_cons, List.length_range] at this
  omega
end K56

end

section
set_option maxRecDepth 100000
set_option maxHeartbeats 4000000
namespace K56
open MM MP PySem
variable {W : Nat}
/-! ### drawing -/
theorem fmod_nat {i : Int} {n : Nat} (h : 0 < n) : ∃ v : Nat, v < n ∧ i.fmod (n : Int) = (v : Int) := by
  have h1 := Int.fmod_nonneg_of_pos i (b := (n : Int)) (by omega)
  have h2 := Int.fmod_lt_of_pos i (b := (n : Int)) (by omega)
  exact ⟨(i.fmod n).toNat, by omega, by omega⟩
theorem T_take {k top : Nat} (h1 : 1 ≤ top) (h2 : top ≤ 1000000) (a b : Int) (rest : St) : ∃ v a' b', v < top ∧ callE (callR fns W (k + 1)) i_law_take [.ref 0, nI top] (J a b :: rest) = some (nI v, J a' b' :: rest) := by
  suffices ∃ v a' b', v < top ∧ callR fns W (k + 1) i_law_take [.ref 0, nI top] (J a b :: rest) = some (nI v, J a' b' :: rest) by
    obtain ⟨v, a', b', hv, e⟩ := this
    refine ⟨v, a', b', hv, ?_⟩
    unfold callE
    rw [e]
    exact fin_J0 rfl
  rw [run_at (fn := m_law_take) rfl]
  simp only [runF, m_law_take]
  have i0 : ∀ a b : Int, idxD (J a b :: rest) (.ref 0) (.int 0) = some (.int a) := fun a b => idx_seq (i := 0) (xs := [.int a, .int b]) (by simp) rfl
  have i1 : ∀ a b : Int, idxD (J a b :: rest) (.ref 0) (.int 1) = some (.int b) := fun a b => idx_seq (i := 1) (xs := [.int a, .int b]) (by simp) rfl
  by_cases ha : 0 < a
  · obtain ⟨v, hv, e⟩ := fmod_nat (i := a) (n := top) (by omega)
    refine ⟨v, a.fdiv top, b, hv, ?_⟩
    have ht : ¬ (top = 0) := by omega
    have ht2 : top < 1073741824 := by omega
    simp [i0, cmpD, cmpInt, ha, intD, binD, e, ht, ht2, setD]
  · have e1 := Int.fmod_nonneg_of_pos (b * 39373 + 7) (b := 2147483647) (by omega)
    have e2 := Int.fmod_lt_of_pos (b * 39373 + 7) (b := 2147483647) (by omega)
    obtain ⟨b', hb⟩ : ∃ b', b' = (b * 39373 + 7).fmod 2147483647 := ⟨_, rfl⟩
    rw [← hb] at e1 e2
    obtain ⟨v, hv, e⟩ := fmod_nat (i := ((b' * b').fmod 2147483629).fdiv 32) (n := top) (by omega)
    refine ⟨v, a, b', hv, ?_⟩
    have ht : ¬ (top = 0) := by omega
    have c1 : -18446744073709551616 < b' := by omega
    have c2 : b' < 18446744073709551616 := by omega
    simp [i0, i1, cmpD, cmpInt, ha, intD, binD, big64, setD, ← hb, e, ht, c1, c2]
end K56

end

section
set_option maxRecDepth 100000
set_option maxHeartbeats 4000000
namespace K56
open MM MP PySem
variable {W : Nat}
theorem T_one {k : Nat} {x : D} {xs : List D} (a b : Int) (rest : St) (hs : ∀ a b, seqOf (J a b :: rest) x = some xs) (hne : xs ≠ []) (hl : xs.length ≤ 1000) (hp : ∀ y ∈ xs, D.pure y = true) :
    ∃ y ∈ xs, ∃ a' b', callE (callR fns W (k + 2)) i_law_one [.ref 0, x] (J a b :: rest) = some (y, J a' b' :: rest) := by
  have h1 := List.length_pos_iff.2 hne
  obtain ⟨v, a', b', hv, e⟩ := T_take (W := W) (k := k) (top := xs.length) (by omega) (by omega) a b rest
  have hy : xs[v]? = some xs[v] := List.getElem?_eq_getElem hv
  refine ⟨xs[v], List.getElem_mem hv, a', b', ?_⟩
  unfold callE
  rw [run_at (fn := m_law_one) rfl]
  simp only [runF, m_law_one]
  simp [len_seq (hs a b), e]
  rw [idx_seq (hs a' b') hy]
  simp
  exact fin_J0 (hp _ (List.getElem_mem hv))
theorem erase_perm {α : Type} : ∀ (l : List α) (i : Nat) (h : i < l.length), (l[i] :: l.eraseIdx i).Perm l
  | x :: xs, 0, _ => .refl _
  | x :: xs, i + 1, h => by
    have := erase_perm xs i (by simpa using h)
    exact (List.Perm.swap x _ _).trans (this.cons x)
theorem T_mixed_raw {k : Nat} {x : D} {xs : List D} (a b : Int) (rest : St) (hs : ∀ a b, seqOf (J a b :: rest) x = some xs) (hl : xs.length ≤ 1000) :
    ∃ ys, ys.Perm xs ∧ ∃ a' b' left, callR fns W (k + 2) i_law_mixed [.ref 0, x] (J a b :: rest) = some (.ref (rest.length + 1 + 1), J a' b' :: (rest ++ [.lst left, .lst ys])) := by
  rw [run_at (fn := m_law_mixed) rfl]
  simp only [runF, m_law_mixed]
  have hlen : ∀ ex : St, seqOf (J a b :: (rest ++ ex)) x = some xs := by
    intro ex
    have h := hs a b
    cases x with
    | tup ys => exact h
    | lst ys => exact h
    | ref n =>
      rw [seq_ref] at h ⊢
      by_cases hn : n < (J a b :: rest).length
      · rw [show J a b :: (rest ++ ex) = (J a b :: rest) ++ ex from rfl, List.getElem?_append_left hn]
        exact h
      · rw [List.getElem?_eq_none (by omega)] at h
        cases h
    | _ => simp [seqOf] at h
  simp [hs a b, s_for]
  have hr : evIt (callR fns W (k + 1)) (.rng1 (.len (.var 1))) [some (.ref 0), some x, some (.ref (rest.length + 1)), some (.ref (rest.length + 1 + 1)), none] (J a b :: (rest ++ [.lst xs, .lst []])) = some (((List.range xs.length).map nI, none), J a b :: (rest ++ [.lst xs, .lst []])) := by
    exact ei_rng1 _ _ _ _ _ _ (by simp [len_seq (hlen [.lst xs, .lst []])]) (by omega)
  simp [hr]
  have := for_rule (src := none) (f := bodyF (callR fns W (k + 1)) W (.nm 4) (.cons (.app (.var 3) (.popAt (.var 2) (.call i_law_take (.cons (.var 0) (.cons (.len (.var 2)) .nil))))) .nil)) nI
      (fun is ρ st' => ∃ a' b' left found o, ρ = [some (.ref 0), some x, some (.ref (rest.length + 1)), some (.ref (rest.length + 1 + 1)), o] ∧ st' = J a' b' :: (rest ++ [.lst left, .lst found]) ∧ left.length = is.length ∧ (found ++ left).Perm xs)
      (fun fl ρ st' => ∃ a' b' left found o, fl = .next ∧ ρ = [some (.ref 0), some x, some (.ref (rest.length + 1)), some (.ref (rest.length + 1 + 1)), o] ∧ st' = J a' b' :: (rest ++ [.lst left, .lst found]) ∧ found.Perm xs)
      ?_ ?_ (List.range xs.length) [some (.ref 0), some x, some (.ref (rest.length + 1)), some (.ref (rest.length + 1 + 1)), none] (J a b :: (rest ++ [.lst xs, .lst []])) ⟨a, b, xs, [], none, rfl, rfl, by simp, by simp⟩
  · obtain ⟨fl, ρ', st', h1, a', b', left, found, o, rfl, rfl, rfl, h2⟩ := this
    rw [h1]
    simp
    exact h2
  · rintro ρ st' ⟨a', b', left, found, o, rfl, rfl, h1, h2⟩
    have : left = [] := List.length_eq_zero_iff.1 h1
    subst this
    exact ⟨rfl, a', b', [], found, o, rfl, rfl, rfl, by simpa using h2⟩
  · rintro i is ρ st' ⟨a', b', left, found, o, rfl, rfl, h1, h2⟩
    refine ⟨rfl, .inl ?_⟩
    rw [List.length_cons] at h1
    have hfl := h2.length_eq
    rw [List.length_append] at hfl
    obtain ⟨v, a2, b2, hv, e⟩ := T_take (W := W) (k := k) (top := left.length) (by omega) (by omega) a' b' (rest ++ [.lst left, .lst found])
    have hy : left[v]? = some left[v] := List.getElem?_eq_getElem hv
    refine ⟨_, J a2 b2 :: (rest ++ [.lst (left.eraseIdx v), .lst (found ++ [left[v]])]), ?_, a2, b2, left.eraseIdx v, found ++ [left[v]], some (nI i), rfl, rfl, by rw [List.length_eraseIdx_of_lt hv]; omega, ?_⟩
    · simp [bodyF, e, popD, hy]
      rw [if_pos (by omega)]
      simp
      rw [if_pos (by simp only [cap]; omega)]
      simp
    · refine List.Perm.trans ?_ h2
      rw [List.append_assoc]
      exact (erase_perm left v hv).append_left found
theorem T_mixed {k : Nat} {x : D} {xs : List D} (a b : Int) (rest : St) (hs : ∀ a b, seqOf (J a b :: rest) x = some xs) (hl : xs.length ≤ 1000) (hp : ∀ y ∈ xs, Keep (rest.length + 1) y) :
    ∃ ys, ys.Perm xs ∧ ∃ a' b', callE (callR fns W (k + 2)) i_law_mixed [.ref 0, x] (J a b :: rest) = some (.lst ys, J a' b' :: rest) := by
  obtain ⟨ys, hy, a', b', left, e⟩ := T_mixed_raw (W := W) (k := k) a b rest hs hl
  refine ⟨ys, hy, a', b', ?_⟩
  unfold callE
  rw [e]
  exact fin_newJ (by omega) (by simp) fun y h => hp y (hy.mem_iff.1 h)
theorem T_mixedL {k : Nat} {x : D} {xs : List D} (a b : Int) (rest : St) (hs : ∀ a b, seqOf (J a b :: rest) x = some xs) (hl : xs.length ≤ 1000) (hp : D.pures xs = true) :
    ∃ ys, ys.Perm xs ∧ ∃ a' b', callL (callR fns W (k + 2)) i_law_mixed [.ref 0, x] (J a b :: rest) = some (ys, J a' b' :: rest) := by
  obtain ⟨ys, hy, a', b', left, e⟩ := T_mixed_raw (W := W) (k := k) a b rest hs hl
  refine ⟨ys, hy, a', b', ?_⟩
  have hp' : D.pures ys = true := (pures_iff ys).2 fun y h => (pures_iff xs).1 hp y (hy.mem_iff.1 h)
  unfold callL
  rw [e]
  dsimp only
  rw [finL, if_pos (oldOk_J ..)]
  dsimp only
  rw [if_neg (by simp)]
  simp [hp']
end K56

end

section
set_option maxRecDepth 100000
set_option maxHeartbeats 4000000
namespace K56
open MM MP PySem
variable {W : Nat}
/-- a list or tuple of numbers -/
def IsNs (x : D) (s : List Nat) : Prop := x = tI s ∨ x = .lst (s.map nI)
theorem IsNs.seq {x : D} {s : List Nat} (h : IsNs x s) (st : St) : seqOf st x = some (s.map nI) ∧ srcOf st x = none := by
  rcases h with rfl | rfl <;> simp
theorem len24 {s : List Nat} (h : s.Nodup) (hl : ∀ c ∈ s, c < 24) : s.length ≤ 24 := by
  have := nodup_len (g := List.range 24) h fun x hx => List.mem_range.2 (hl x hx)
  rwa [List.length_range] at this
/-- what stands in some lists -/
def rs (ls : List (D × List Nat)) : List Nat := ups 24 fun c => ls.any fun p => decide (c ∈ p.2)
theorem mem_rs {ls : List (D × List Nat)} {c : Nat} (hlt : ∀ p ∈ ls, ∀ c ∈ p.2, c < 24) : c ∈ rs ls ↔ ∃ p ∈ ls, c ∈ p.2 := by
  rw [rs, mem_ups]
  simp only [List.any_eq_true, decide_eq_true_eq]
  exact ⟨fun k => k.2, fun ⟨p, hp, hc⟩ => ⟨hlt p hp c hc, p, hp, hc⟩⟩
theorem S_rs {k : Nat} {ls : List (D × List Nat)} (hq : ∀ p ∈ ls, IsNs p.1 p.2) (hnd : ∀ p ∈ ls, p.2.Nodup) (hlt : ∀ p ∈ ls, ∀ c ∈ p.2, c < 24) : Pur (callR fns W (k + 1)) i_law_rising [.lst (ls.map (·.1))] (tI (rs ls)) := by
  refine ⟨by simp, fun st => ?_⟩
  rw [run_at (fn := m_law_rising) rfl]
  simp only [runF, m_law_rising]
  simp [s_for]
  have := for_rule (src := none) (f := bodyF (callR fns W k) W (.nm 2) (.cons (.ext (.var 1) (.comp (.one (.nm 3) (.seq (.var 2)) (.cons (.cmp .notin (.var 3) (.var 1)) .nil) (.var 3)))) .nil)) (fun p : D × List Nat => p.1)
      (fun ps ρ st' => ∃ (found : List Nat) (o : Option D), ρ = [some (.lst (ls.map (·.1))), some (.ref st.length), o, none] ∧ st' = st ++ [.lst (found.map nI)] ∧ (∀ p ∈ ps, p ∈ ls) ∧ found.Nodup ∧ (∀ c ∈ found, c < 24) ∧ ∀ c, (∃ p ∈ ls, c ∈ p.2) ↔ (c ∈ found ∨ ∃ p ∈ ps, c ∈ p.2))
      (fun fl ρ st' => ∃ (found : List Nat) (o : Option D), fl = .next ∧ ρ = [some (.lst (ls.map (·.1))), some (.ref st.length), o, none] ∧ st' = st ++ [.lst (found.map nI)] ∧ found.Nodup ∧ ∀ c, (∃ p ∈ ls, c ∈ p.2) ↔ c ∈ found)
      ?_ ?_ ls [some (.lst (ls.map (·.1))), some (.ref st.length), none, none] (st ++ [.lst []]) ⟨[], none, rfl, rfl, fun p h => h, .nil, by simp, by simp⟩
  · obtain ⟨fl, ρ', st', h1, found, o, rfl, rfl, rfl, h2, h3⟩ := this
    rw [h1]
    simp
    have hp := perm_of_mem h2 (nodup_of_lt (ups_lt _ _)) fun x => ((h3 x).symm.trans (mem_rs hlt).symm : x ∈ found ↔ x ∈ rs ls)
    rw [sortD_nat (ups_lt _ _) hp]
    simp [tI, rs]
  · rintro ρ st' ⟨found, o, rfl, rfl, h1, h2, h3, h4⟩
    exact ⟨rfl, found, o, rfl, rfl, rfl, h2, by simpa using h4⟩
  · rintro p ps ρ st' ⟨found, o, rfl, rfl, h1, h2, h3, h4⟩
    have hp := h1 p (by simp)
    have hn := hnd p hp
    have hl := hlt p hp
    have hq' := (hq p hp).seq
    refine ⟨rfl, .inl ⟨[some (.lst (ls.map (·.1))), some (.ref st.length), some p.1, none], st ++ [.lst ((found ++ p.2.filter fun c => decide (c ∉ found)).map nI)], ?_, _, _, rfl, rfl, fun q hq => h1 q (by simp [hq]), ?_, ?_, ?_⟩⟩
    · have e1 := len24 hn hl
      have e2 := len24 h2 h3
      have e3 := List.length_filter_le (fun c => decide (c ∉ found)) p.2
      simp [bodyF]
      rw [eg_fil nI p.2 (fun c => decide (c ∉ found)) nI none (by simp [(hq' _).1, (hq' _).2]) rfl (fun c hc => ⟨_, by simp; rfl, by rw [et_one]; simp [cmpD], by simp⟩)]
      obtain ⟨F, hF⟩ : ∃ F, F = p.2.filter fun c => decide (c ∉ found) := ⟨_, rfl⟩
      rw [← hF] at e3
      simp only [← hF, bnd_some, List.length_map]
      rw [if_pos (by simp only [cap]; omega)]
      simp
      rw [if_pos (by simp only [cap]; omega)]
      simp [hF]
    · rw [List.nodup_append]
      refine ⟨h2, hn.filter _, fun x hx y hy e => ?_⟩
      have := (List.mem_filter.1 hy).2
      rw [decide_eq_true_eq] at this
      exact this (e ▸ hx)
    · intro c hc
      rw [List.mem_append, List.mem_filter] at hc
      exact hc.elim (h3 c) fun h => hl c h.1
    · intro c
      rw [h4 c]
      simp only [List.mem_cons, exists_eq_or_imp, List.mem_append, List.mem_filter, decide_eq_true_eq]
      by_cases hc : c ∈ found <;> simp [hc]
theorem S_gcols {k : Nat} {b : List (List Nat)} {g : List Nat} (h : Bk b) (hg : ∀ i ∈ g, i < b.length) (hl : g.length ≤ 24) : Pur (callR fns W (k + 2)) i_law_group_columns [bk b, tI g] (tI (cs b g)) := by
  refine .of0 (by simp) fun st => ?_
  rw [run_at (fn := m_law_group_columns) rfl]
  simp only [runF, m_law_group_columns]
  simp
  rw [eg_map nI g (fun i => tI (cols b i)) none (by simp) rfl (fun i hi => ⟨_, by simp; rfl, by simp [hg i hi]⟩)]
  have e := (S_rs (W := W) (k := k) (ls := g.map fun i => (tI (cols b i), cols b i)) (by simp [IsNs]) (by
    simp
    intro i hi
    exact nodup_of_lt (cols_up h i)) (by
    simp
    intro i hi c hc
    exact cols_lt h hc)).call st
  rw [List.map_map] at e
  have e2 : rs (g.map fun i => (tI (cols b i), cols b i)) = cs b g := by
    unfold rs cs
    congr 1
    funext c
    rw [List.any_map]
    rfl
  rw [e2] at e
  simp
  rw [if_pos (by simp only [cap]; omega)]
  simp
  have e3 : ((fun x : D × List Nat => x.fst) ∘ fun i => (tI (cols b i), cols b i)) = fun i => tI (cols b i) := rfl
  rw [e3] at e
  rw [e]
  simp
theorem S_common {k i j : Nat} {b : List (List Nat)} (h : Bk b) (hi : i < b.length) (hj : j < b.length) : Pur (callR fns W (k + 1)) i_law_common_columns [bk b, nI i, nI j] (tI (sh b i j)) := by
  refine .of0 (by simp) fun st => ?_
  rw [run_at (fn := m_law_common_columns) rfl]
  simp only [runF, m_law_common_columns]
  simp
  rw [eg_fil nI (cols b i) (fun c => decide (c ∈ cols b j)) nI none (by simp [hi]) rfl (fun c _ => ⟨_, by simp; rfl, by rw [et_one]; simp [hj, cmpD], by simp⟩)]
  have := cols_len h i
  have h2 := List.length_filter_le (fun c => decide (c ∈ cols b j)) (cols b i)
  simp
  rw [if_pos (by simp only [cap]; omega)]
  rfl
theorem S_lnear {k i j : Nat} {b : List (List Nat)} (h : Bk b) (hi : i < b.length) (hj : j < b.length) : Pur (callR fns W (k + 2)) i_law_are_near [bk b, nI i, nI j] (.bl (nr b i j)) := by
  refine .of0 (by simp) fun st => ?_
  rw [run_at (fn := m_law_are_near) rfl]
  simp only [runF, m_law_are_near]
  simp [cmpD, (S_common h hi hj).call, andK_b, nr]
theorem S_lmeet {k : Nat} {b : List (List Nat)} {l r : List Nat} (h : Bk b) (hl : ∀ i ∈ l, i < b.length) (hl2 : l.length ≤ 24) (hr : ∀ i ∈ r, i < b.length) (hr2 : r.length ≤ 24) : Pur (callR fns W (k + 3)) i_law_fork_meet [bk b, tI l, tI r] (tI (meet b l r)) := by
  refine .of0 (by simp) fun st => ?_
  rw [run_at (fn := m_law_fork_meet) rfl]
  simp only [runF, m_law_fork_meet]
  simp [(S_gcols h hr hr2).call]
  rw [eg_fil nI (cs b l) (fun c => decide (c ∈ cs b r)) nI none (by simp [(S_gcols h hl hl2).call]) rfl (fun c _ => ⟨_, by simp; rfl, by rw [et_one]; simp [cmpD], by simp⟩)]
  have := len_meet b l r
  unfold meet at this
  simp
  rw [if_pos (by simp only [cap]; omega)]
  rfl
/-- a def that tells d, if its new lists are frozen -/
def Val (cl : Cl) (f : Nat) (ds : List D) (d : D) : Prop := ∀ st, callE cl f ds st = some (d, st)
theorem across_cons (b : List (List Nat)) (x : Nat) (l r : List Nat) : across b (x :: l) r = (r.filter (nr b x)).map (fun j => (x, j)) ++ across b l r := by
  unfold across
  rw [List.flatMap_cons]
theorem S_lacross {k : Nat} {b : List (List Nat)} {l r : List Nat} (h : Bk b) (hl : ∀ i ∈ l, i < b.length) (hl2 : l.length ≤ 24) (hr : ∀ i ∈ r, i < b.length) (hr2 : r.length ≤ 24) : PurL (callR fns W (k + 3)) i_law_fork_across [bk b, tI l, tI r] ((across b l r).map pI) := by
  refine ⟨pures_of_cleans _ (clean_pIs _), fun st => ?_⟩
  rw [run_at (fn := m_law_fork_across) rfl]
  simp only [runF, m_law_fork_across]
  simp [s_for]
  have hlen := len_across b l r
  have hm := mul_le hl2 hr2
  have := for_rule (src := none) (f := bodyF (callR fns W (k + 2)) W (.nm 4) (.cons (.ext (.var 3) (.comp (.one (.nm 5) (.seq (.var 2)) (.cons (.call i_law_are_near (.cons (.var 0) (.cons (.var 4) (.cons (.var 5) .nil)))) .nil) (.tup (.cons (.var 4) (.cons (.var 5) .nil)))))) .nil)) nI
      (fun is ρ st' => ∃ (found : List (Nat × Nat)) (o : Option D), ρ = [some (bk b), some (tI l), some (tI r), some (.ref st.length), o, none] ∧ st' = st ++ [.lst (found.map pI)] ∧ (∀ i ∈ is, i ∈ l) ∧ found ++ across b is r = across b l r)
      (fun fl ρ st' => ∃ (o : Option D), fl = .next ∧ ρ = [some (bk b), some (tI l), some (tI r), some (.ref st.length), o, none] ∧ st' = st ++ [.lst ((across b l r).map pI)])
      ?_ ?_ l [some (bk b), some (tI l), some (tI r), some (.ref st.length), none, none] (st ++ [.lst []]) ⟨[], none, rfl, rfl, fun p h => h, by simp⟩
  · obtain ⟨fl, ρ', st', h1, o, rfl, rfl, rfl⟩ := this
    rw [h1]
    simp
    exact ⟨_, _, ⟨rfl, rfl⟩, Nat.le_refl _, by simp⟩
  · rintro ρ st' ⟨found, o, rfl, rfl, h1, h2⟩
    refine ⟨rfl, o, rfl, rfl, ?_⟩
    have : found = across b l r := by simpa [across] using h2
    rw [this]
  · rintro i is ρ st' ⟨found, o, rfl, rfl, h1, h2⟩
    rw [across_cons, ← List.append_assoc] at h2
    refine ⟨rfl, .inl ⟨[some (bk b), some (tI l), some (tI r), some (.ref st.length), some (nI i), none], st ++ [.lst ((found ++ (r.filter (nr b i)).map fun j => (i, j)).map pI)], ?_, _, _, rfl, rfl, fun q hq => h1 q (by simp [hq]), h2⟩⟩
    have h3 := congrArg List.length h2
    simp only [List.length_append, List.length_map] at h3
    simp [bodyF]
    rw [eg_fil nI r (fun j => nr b i j) (fun j => pI (i, j)) none (by simp) rfl (fun j hj => ⟨_, by simp; rfl, by rw [et_one]; simp [(S_lnear h (hl i (h1 i (by simp))) (hr j hj)).call], by simp⟩)]
    obtain ⟨F, hF⟩ : ∃ F, F = r.filter fun j => nr b i j := ⟨_, rfl⟩
    rw [show r.filter (nr b i) = F from hF.symm] at h3 ⊢
    simp only [← hF, bnd_some, List.length_map]
    rw [if_pos (by simp only [cap]; omega)]
    simp
    rw [if_pos (by simp only [cap]; omega)]
    simp
theorem S_lgood {k : Nat} {b : List (List Nat)} {l r : List Nat} (h : Bk b) (hl : ∀ i ∈ l, i < b.length) (hl2 : l.length ≤ 24) (hr : ∀ i ∈ r, i < b.length) (hr2 : r.length ≤ 24) : Pur (callR fns W (k + 4)) i_law_fork_is_good [bk b, tI l, tI r] (.bl (goodB b l r)) := by
  refine .of0 (by simp) fun st => ?_
  rw [run_at (fn := m_law_fork_is_good) rfl]
  simp only [runF, m_law_fork_is_good]
  simp [(S_lacross h hl hl2 hr hr2).call, (S_lmeet h hl hl2 hr hr2).call, cmpD]
  rw [eq_lst0 (clean_pIs _) (by have := deps_pIs (across b l r); omega)]
  simp only [Option.map_some, liftO_some, bnd_some]
  rw [eg_fil pI (across b l r) (fun p => decide (sh b p.1 p.2 ≠ meet b l r)) pI none (by simp) rfl (fun p hp => ⟨_, by simp; rfl, by
    have := mem_across.1 hp
    rw [et_one]
    simp [(S_common h (hl _ this.1) (hr _ this.2.1)).call, cmpD], by simp⟩)]
  have h1 := len_across b l r
  have h2 := mul_le hl2 hr2
  have h3 := List.length_filter_le (fun p : Nat × Nat => decide (sh b p.1 p.2 ≠ meet b l r)) (across b l r)
  simp only [bnd_some, List.length_map]
  rw [if_pos (by simp only [cap]; omega)]
  simp only [bnd_some, liftO_some]
  rw [eq_lst0 (clean_pIs _) (by have := deps_pIs ((across b l r).filter fun p => decide (sh b p.1 p.2 ≠ meet b l r)); omega)]
  simp [andK_b, goodB]
  congr 1
  rw [Bool.eq_iff_iff]
  simp
end K56

end

section
set_option maxRecDepth 100000
set_option maxHeartbeats 4000000
namespace K56
open MM MP PySem
variable {W : Nat}
/-- the objects of the walk through pieces -/
structure Hp (st s : St) (l f p e : Nat) (left : List Nat) (ps : List (List Nat)) (piece edge : List Nat) : Prop where
  ov : Over st s
  gl : s[l]? = some (.lst (left.map nI))
  gf : s[f]? = some (.lst (ps.map tI))
  gp : s[p]? = some (.lst (piece.map nI))
  ge : s[e]? = some (.lst (edge.map nI))
  ol : st.length ≤ l
  of : st.length ≤ f
  op : st.length ≤ p
  oe : st.length ≤ e
  lf : l ≠ f
  lp : l ≠ p
  le : l ≠ e
  fp : f ≠ p
  fe : f ≠ e
  pe : p ≠ e
/-- what is known of one piece: G the sources left ahead, s its first one -/
structure Walk (b : List (List Nat)) (G : List Nat) (s : Nat) (left piece edge : List Nat) : Prop where
  pm : (piece ++ (edge ++ left)).Perm G
  has : s ∈ piece ++ edge
  cl : ∀ x ∈ piece, ∀ y ∈ left, nr b x y = false
  re : ∀ q, Clo b G q → q s → ∀ x ∈ piece ++ edge, q x
theorem filter_perm {α : Type} (p : α → Bool) : ∀ l : List α, (l.filter p ++ l.filter fun x => !p x).Perm l
  | [] => .refl _
  | x :: xs => by
    have ih := filter_perm p xs
    cases h : p x with
    | true => simpa [List.filter_cons, h] using ih
    | false =>
      simp only [List.filter_cons, h, Bool.not_false, if_true, Bool.false_eq_true, if_false]
      exact (List.perm_middle).trans (ih.cons x)
theorem Walk.step {b : List (List Nat)} {G : List Nat} {s : Nat} {left piece ws : List Nat} {here : Nat} (hG : G.Nodup) (h : Walk b G s left piece (ws ++ [here])) :
    Walk b G s (left.filter fun y => decide (y ∉ ws ++ left.filter fun y => nr b here y)) (piece ++ [here]) (ws ++ left.filter fun y => nr b here y) ∧
      (left.filter fun y => decide (y ∉ ws ++ left.filter fun y => nr b here y)) = left.filter fun y => !nr b here y := by
  have nd := h.pm.nodup_iff.2 hG
  have e : (left.filter fun y => decide (y ∉ ws ++ left.filter fun y => nr b here y)) = left.filter fun y => !nr b here y := by
    refine List.filter_congr fun y hy => ?_
    rw [Bool.eq_iff_iff]
    simp only [decide_eq_true_eq, List.mem_append, List.mem_filter, not_or, not_and, Bool.not_eq_true', Bool.not_eq_true]
    constructor
    · exact fun k => k.2 hy
    · intro k
      refine ⟨fun hw => ?_, fun _ => k⟩
      rw [List.nodup_append] at nd
      have n2 := nd.2.1
      rw [List.nodup_append] at n2
      exact n2.2.2 y (by simp [hw]) y hy rfl
  refine ⟨?_, e⟩
  rw [e]
  refine ⟨?_, ?_, ?_, ?_⟩
  · refine List.Perm.trans ?_ h.pm
    rw [List.append_assoc]
    refine List.Perm.append_left _ ?_
    rw [List.append_assoc, List.append_assoc]
    refine (List.perm_middle (l₁ := []) (l₂ := _)).trans ?_
    simp only [List.nil_append]
    refine (List.perm_middle (a := here) (l₁ := ws)).symm.trans ?_
    refine List.Perm.append_left _ ?_
    simp only [List.cons_append, List.nil_append]
    exact (filter_perm _ _).cons here
  · have := h.has
    simp only [List.mem_append, List.mem_singleton] at this ⊢
    rcases this with k | k | k
    · exact .inl (.inl k)
    · exact .inr (.inl k)
    · exact .inl (.inr k)
  · intro x hx y hy
    rw [List.mem_append, List.mem_singleton] at hx
    obtain ⟨h1, h2⟩ := List.mem_filter.1 hy
    rcases hx with hx | rfl
    · exact h.cl x hx y h1
    · simpa using h2
  · intro q hq hs x hx
    have hh : q here := h.re q hq hs here (by simp)
    have inG : ∀ z, z ∈ piece ++ (ws ++ [here]) ∨ z ∈ left → z ∈ G := fun z hz => h.pm.mem_iff.1 (by
      rw [List.mem_append, List.mem_append]
      rcases hz with hz | hz
      · rw [List.mem_append] at hz
        exact hz.elim .inl fun k => .inr (.inl k)
      · exact .inr (.inr hz))
    simp only [List.mem_append, List.mem_singleton] at hx
    have old : ∀ z, z ∈ piece ++ (ws ++ [here]) → q z := fun z hz => h.re q hq hs z hz
    rcases hx with (k | rfl) | k | k
    · exact old x (by simp [k])
    · exact hh
    · exact old x (by simp [k])
    · obtain ⟨h1, h2⟩ := List.mem_filter.1 k
      exact hq here x hh (inG here (.inl (by simp))) (inG x (.inr h1)) h2
theorem whl_step_next {c : Rho → St → R Bool} {f : Rho → St → Option (Fl × Rho × St)} {k : Nat} {ρ ρ' : Rho} {st st' : St} (h1 : c ρ st = some (true, st)) (h2 : f ρ st = some (.next, ρ', st')) : whlF c f (k + 1) ρ st = whlF c f k ρ' st' := by
  rw [whlF, h1]
  simp only [h2]
theorem T_inner {k : Nat} {b : List (List Nat)} {g G : List Nat} {x : Nat} (h : Bk b) (hG : G.Nodup) (hlt : ∀ i ∈ G, i < b.length) (hG8 : G.length ≤ 8) {st : St} {f p e : Nat} {ps : List (List Nat)} :
    ∀ (n l : Nat) (left piece edge : List Nat) (o : Option D) (s : St), Hp st s l f p e left ps piece edge → Walk b G x left piece edge → edge.length + left.length < n →
    ∃ o' s' l' left' piece', whlF (test (callR fns W (k + 3)) (.cmp .ne (.var 5) (.frz (.disp .nil)))) (evSs (callR fns W (k + 3)) W (.cons (.asg (.nm 6) (.pop (.var 5)))
    (.cons (.app (.var 4) (.var 6))
    (.cons (.ext (.var 5) (.comp (.one (.nm 7) (.seq (.var 2)) (.cons (.call i_law_are_near (.cons (.var 0) (.cons (.var 6) (.cons (.var 7) .nil)))) .nil) (.var 7))))
    (.cons (.asg (.nm 2) (.new (.comp (.one (.nm 7) (.seq (.var 2)) (.cons (.cmp .notin (.var 7) (.var 5)) .nil) (.var 7)))))
    .nil))))) n [some (bk b), some (tI g), some (.ref l), some (.ref f), some (.ref p), some (.ref e), o, none] s = some (.next, [some (bk b), some (tI g), some (.ref l'), some (.ref f), some (.ref p), some (.ref e), o', none], s') ∧ Hp st s' l' f p e left' ps piece' [] ∧ Walk b G x left' piece' []
  | 0, _, _, _, _, _, _, _, _, hm => absurd hm (by omega)
  | n + 1, l, left, piece, edge, o, s, hp, hw, hm => by
    rcases List.eq_nil_or_concat edge with rfl | ⟨ws, here, hc⟩
    · refine ⟨o, s, l, left, piece, ?_, hp, hw⟩
      rw [whlF]
      have : test (callR fns W (k + 3)) (.cmp .ne (.var 5) (.frz (.disp .nil))) [some (bk b), some (tI g), some (.ref l), some (.ref f), some (.ref p), some (.ref e), o, none] s = some (false, s) := by
        simp [cmpD]
        rw [eq_ref _ _ hp.ge, eq_lst_nil]
        simp
      rw [this]
    · rw [List.concat_eq_append] at hc
      subst hc
      obtain ⟨hw', hfil⟩ := hw.step hG
      have hlen := hw.pm.length_eq
      simp only [List.length_append, List.length_cons, List.length_nil] at hlen hm
      have hin : ∀ z ∈ left, z < b.length := fun z hz => hlt z (hw.pm.mem_iff.1 (by simp [hz]))
      have hhere : here < b.length := hlt here (hw.pm.mem_iff.1 (by simp))
      obtain ⟨F, hF⟩ : ∃ F, F = left.filter fun y => nr b here y := ⟨_, rfl⟩
      obtain ⟨L', hL⟩ : ∃ L', L' = left.filter fun y => decide (y ∉ ws ++ left.filter fun y => nr b here y) := ⟨_, rfl⟩
      have hFL : F.length + L'.length = left.length := by
        have := (filter_perm (fun y => nr b here y) left).length_eq
        rw [List.length_append] at this
        rw [hF, hL, hfil]
        exact this
      rw [← hL, ← hF] at hw'
      obtain ⟨s1, e1, a1, a2, a3⟩ := upd_st hp.ge (.lst (ws.map nI))
      have gp1 : s1[p]? = some (.lst (piece.map nI)) := by rw [a2 p hp.pe]; exact hp.gp
      obtain ⟨s2, e2, b1, b2, b3⟩ := upd_st gp1 (.lst ((piece ++ [here]).map nI))
      have ge2 : s2[e]? = some (.lst (ws.map nI)) := by rw [b2 e hp.pe.symm]; exact a1
      have gl2 : s2[l]? = some (.lst (left.map nI)) := by rw [b2 l hp.lp, a2 l hp.le]; exact hp.gl
      obtain ⟨s3, e3, c1, c2, c3⟩ := upd_st ge2 (.lst ((ws ++ F).map nI))
      have gl3 : s3[l]? = some (.lst (left.map nI)) := by rw [c2 l hp.le]; exact gl2
      obtain ⟨s4, e4, d1, d2, d3⟩ := new_st s3 (.lst (L'.map nI))
      have gf4 : s4[f]? = some (.lst (ps.map tI)) := d2 f _ (by rw [c2 f hp.fe, b2 f hp.fp, a2 f hp.fe]; exact hp.gf)
      have gp4 : s4[p]? = some (.lst ((piece ++ [here]).map nI)) := d2 p _ (by rw [c2 p hp.pe]; exact b1)
      have ge4 : s4[e]? = some (.lst ((ws ++ F).map nI)) := d2 e _ c1
      have hs3 : s3.length = s.length := by omega
      have hf := lt_of_get hp.gf
      have hpp := lt_of_get hp.gp
      have hee := lt_of_get hp.ge
      have hp' : Hp st s4 s3.length f p e L' ps (piece ++ [here]) (ws ++ F) := by
        refine ⟨?_, d1, gf4, gp4, ge4, ?_, hp.of, hp.op, hp.oe, by omega, by omega, by omega, hp.fp, hp.fe, hp.pe⟩
        · rw [← e4, ← e3, ← e2, ← e1]
          exact (((hp.ov.set _ hp.oe).set _ hp.op).set _ hp.oe).app _
        · have := hp.ov.len; omega
      obtain ⟨o', s', l', left', piece', r1, r2, r3⟩ := T_inner (k := k) h hG hlt hG8 n s3.length L' (piece ++ [here]) (ws ++ F) (some (nI here)) s4 hp' hw' (by rw [List.length_append]; omega)
      refine ⟨o', s', l', left', piece', ?_, r2, r3⟩
      rw [← r1]
      refine whl_step_next ?_ ?_
      · simp [cmpD]
        rw [eq_ref _ _ hp.ge, eq_lst_nil]
        simp
      · have q1 : evS (callR fns W (k + 3)) W (.asg (.nm 6) (.pop (.var 5))) [some (bk b), some (tI g), some (.ref l), some (.ref f), some (.ref p), some (.ref e), o, none] s = some (.next, [some (bk b), some (tI g), some (.ref l), some (.ref f), some (.ref p), some (.ref e), some (nI here), none], s1) := by
          simp [hp.ge, ← e1]
        have q2 : evS (callR fns W (k + 3)) W (.app (.var 4) (.var 6)) [some (bk b), some (tI g), some (.ref l), some (.ref f), some (.ref p), some (.ref e), some (nI here), none] s1 = some (.next, [some (bk b), some (tI g), some (.ref l), some (.ref f), some (.ref p), some (.ref e), some (nI here), none], s2) := by
          simp [gp1]
          rw [if_pos (by simp only [cap]; omega)]
          simp [← e2]
        have q3 : evS (callR fns W (k + 3)) W (.ext (.var 5) (.comp (.one (.nm 7) (.seq (.var 2)) (.cons (.call i_law_are_near (.cons (.var 0) (.cons (.var 6) (.cons (.var 7) .nil)))) .nil) (.var 7)))) [some (bk b), some (tI g), some (.ref l), some (.ref f), some (.ref p), some (.ref e), some (nI here), none] s2 = some (.next, [some (bk b), some (tI g), some (.ref l), some (.ref f), some (.ref p), some (.ref e), some (nI here), none], s3) := by
          simp [ge2]
          rw [eg_fil nI left (fun y => nr b here y) nI (some (l, left.map nI)) (by simp [gl2]) (stays_self gl2) (fun y hy => ⟨_, by simp; rfl, by rw [et_one]; simp [(S_lnear (W := W) (k := k + 1) h hhere (hin y hy)).call], by simp⟩)]
          simp only [← hF, bnd_some, List.length_map]
          rw [if_pos (by simp only [cap]; omega)]
          simp [ge2]
          rw [if_pos (by simp only [cap]; omega)]
          simp [← e3]
        have q4 : evS (callR fns W (k + 3)) W (.asg (.nm 2) (.new (.comp (.one (.nm 7) (.seq (.var 2)) (.cons (.cmp .notin (.var 7) (.var 5)) .nil) (.var 7))))) [some (bk b), some (tI g), some (.ref l), some (.ref f), some (.ref p), some (.ref e), some (nI here), none] s3 = some (.next, [some (bk b), some (tI g), some (.ref s3.length), some (.ref f), some (.ref p), some (.ref e), some (nI here), none], s4) := by
          simp
          rw [eg_fil nI left (fun y => decide (y ∉ ws ++ F)) nI (some (l, left.map nI)) (by simp [gl3]) (stays_self gl3) (fun y hy => ⟨_, by simp; rfl, by rw [et_one]; simp only [ev_cmp, ev_var]; simp [c1, cmpD, -List.map_append], by simp⟩)]
          rw [hF, ← hL]
          simp only [bnd_some, List.length_map]
          rw [if_pos (by simp only [cap]; omega)]
          simp [← e4]
        rw [ss_cons _ _ _ _ _ _ q1, ss_cons _ _ _ _ _ _ q2, ss_cons _ _ _ _ _ _ q3, ss_cons _ _ _ _ _ _ q4, ss_nil]
end K56

end

section
set_option maxRecDepth 100000
set_option maxHeartbeats 4000000
namespace K56
open MM MP PySem
variable {W : Nat}
/-- how far the pieces are told -/
def Told (b : List (List Nat)) (g left : List Nat) (n : Nat) : Prop :=
  (n = 0 ∧ left = g) ∨ (1 ≤ n ∧ ((PM.Hung (CC b) (· ∈ g) ∧ n = 1 ∧ left = []) ∨ (¬ PM.Hung (CC b) (· ∈ g) ∧ (2 ≤ n ∨ left ≠ []))))
theorem Walk.told {b : List (List Nat)} {g : List Nat} {x : Nat} {left' piece' : List Nat} (hG : g.Nodup) (hw : Walk b g x left' piece' []) : Told b g left' 1 := by
  have hx : x ∈ piece' := by simpa using hw.has
  have mem : ∀ z, z ∈ g ↔ z ∈ piece' ∨ z ∈ left' := fun z => by
    rw [← hw.pm.mem_iff]; simp
  refine .inr ⟨Nat.le_refl _, ?_⟩
  cases left' with
  | nil =>
    refine .inl ⟨⟨⟨x, (mem x).2 (.inl hx)⟩, ?_⟩, rfl, rfl⟩
    rintro p ⟨y, hy, hp⟩ ⟨z, hz, hq⟩
    refine Classical.byContradiction fun hno => ?_
    have inp : ∀ z ∈ g, z ∈ piece' ++ [] := fun z hz => by simpa using (mem z).1 hz
    by_cases hps : p x
    · exact hq (hw.re p (fun u v hu hug hvg hn => Classical.byContradiction fun hv => hno ⟨u, v, hug, hvg, hu, hv, nr_iff.1 hn⟩) hps z (inp z hz))
    · exact hw.re (fun z => ¬ p z) (fun u v hu hug hvg hn hv => hno ⟨v, u, hvg, hug, hv, hu, (nr_iff.1 hn).symm⟩) hps y (inp y hy) hp
  | cons y ys =>
    refine .inr ⟨?_, .inr (by simp)⟩
    rintro ⟨_, k⟩
    have nd := hw.pm.nodup_iff.2 hG
    rw [List.nodup_append] at nd
    have hy : y ∉ piece' := fun k => nd.2.2 y k y (by simp) rfl
    obtain ⟨u, v, hu, hv, hpu, hpv, hn⟩ := k (· ∈ piece') ⟨x, (mem x).2 (.inl hx), hx⟩ ⟨y, (mem y).2 (.inr (by simp)), hy⟩
    have hv' : v ∈ y :: ys := ((mem v).1 hv).resolve_left hpv
    have := nr_iff.2 hn
    rw [hw.cl u hpu v hv'] at this
    cases this
end K56

end

section
set_option maxRecDepth 100000
set_option maxHeartbeats 4000000
namespace K56
open MM MP PySem
variable {W : Nat}
@[scoped simp] theorem ty_it : (Ty.int == Ty.tuple) = false := rfl
@[scoped simp] theorem ty_ti : (Ty.tuple == Ty.int) = false := rfl
theorem S_tleaves {k : Nat} : ∀ (t : PM.T), Pl t → Pur (callR fns W (k + tdep t + 1)) i_law_tree_leaves [tD t] (tI (lvs t))
  | .leaf x, h => by
    refine .of0 (by simp) fun st => ?_
    rw [show k + tdep (.leaf x) + 1 = k + 1 from rfl, run_at (fn := m_law_tree_leaves) rfl]
    simp only [runF, m_law_tree_leaves]
    have hx : x < 24 := h.lt x (by simp [row])
    have : lvs (.leaf x) = [x] := sorted_ext (ups_lt _ _) (by simp) fun y => by
      rw [lvs, mem_ups]
      simp [row]
      intro e
      omega
    simp [tD, isiD, this]
    rfl
  | .fork l r, h => by
    refine .of0 (by simp) fun st => ?_
    have hl := S_tleaves (k := k + (max (tdep l) (tdep r) - tdep l)) l h.left
    have hr := S_tleaves (k := k + (max (tdep l) (tdep r) - tdep r)) r h.right
    rw [show k + (max (tdep l) (tdep r) - tdep l) + tdep l + 1 = k + max (tdep l) (tdep r) + 1 by omega] at hl
    rw [show k + (max (tdep l) (tdep r) - tdep r) + tdep r + 1 = k + max (tdep l) (tdep r) + 1 by omega] at hr
    rw [show k + tdep (.fork l r) + 1 = (k + max (tdep l) (tdep r) + 1) + 1 by simp [tdep]; omega, run_at (fn := m_law_tree_leaves) rfl]
    simp only [runF, m_law_tree_leaves]
    have n1 := len_ups 24 (fun x => decide (x ∈ row l))
    have n2 := len_ups 24 (fun x => decide (x ∈ row r))
    have hp : (lvs l ++ lvs r).Perm (lvs (.fork l r)) := (((lvs_perm h.left).symm.append (lvs_perm h.right).symm)).trans (lvs_perm h)
    have e : tD (.fork l r) = .tup [tD l, tD r] := rfl
    have ha : binD .add st (tI (lvs l)) (tI (lvs r)) = some (tI (lvs l ++ lvs r)) := add_tI (by unfold lvs; omega)
    rw [e]
    simp [hl.call, hr.call, ha]
    have ea : asInts ((lvs l).map nI ++ (lvs r).map nI) = some ((lvs l ++ lvs r).map Int.ofNat) := by
      rw [← List.map_append]
      exact asInts_nIs _
    simp [tI]
    rw [ea]
    simp
    have e3 := sort_perm (ups_lt _ _) hp
    simp only [List.map_append] at e3
    rw [e3, map_int]
    rfl
theorem add_lst {st : St} {a c : List D} (h : a.length + c.length ≤ 1000) : binD .add st (.lst a) (.lst c) = some (.lst (a ++ c)) := by
  show (if decide (a.length + c.length ≤ cap) = true then some (D.lst (a ++ c)) else none) = _
  rw [if_pos (decide_eq_true (Nat.le_trans h (by decide)))]
theorem S_tforks {k : Nat} : ∀ (t : PM.T), Pl t → Val (callR fns W (k + tdep t + 2)) i_law_tree_forks [tD t] (.lst ((fks t).map fD))
  | .leaf x, h => by
    intro st
    unfold callE
    rw [show k + tdep (.leaf x) + 2 = (k + 1) + 1 from rfl, run_at (fn := m_law_tree_forks) rfl]
    simp only [runF, m_law_tree_forks]
    simp [tD, isiD, fks]
    exact fin_new0 (Nat.le_refl _) (by simp) (by simp)
  | .fork l r, h => by
    intro st
    have hl := S_tforks (k := k + (max (tdep l) (tdep r) - tdep l)) l h.left
    have hr := S_tforks (k := k + (max (tdep l) (tdep r) - tdep r)) r h.right
    have hl2 := S_tleaves (W := W) (k := k + (max (tdep l) (tdep r) - tdep l) + 1) l h.left
    have hr2 := S_tleaves (W := W) (k := k + (max (tdep l) (tdep r) - tdep r) + 1) r h.right
    rw [show k + (max (tdep l) (tdep r) - tdep l) + tdep l + 2 = k + max (tdep l) (tdep r) + 2 by omega] at hl
    rw [show k + (max (tdep l) (tdep r) - tdep r) + tdep r + 2 = k + max (tdep l) (tdep r) + 2 by omega] at hr
    rw [show k + (max (tdep l) (tdep r) - tdep l) + 1 + tdep l + 1 = k + max (tdep l) (tdep r) + 2 by omega] at hl2
    rw [show k + (max (tdep l) (tdep r) - tdep r) + 1 + tdep r + 1 = k + max (tdep l) (tdep r) + 2 by omega] at hr2
    unfold callE
    rw [show k + tdep (.fork l r) + 2 = (k + max (tdep l) (tdep r) + 2) + 1 by simp [tdep]; omega, run_at (fn := m_law_tree_forks) rfl]
    simp only [runF, m_law_tree_forks]
    have e : tD (.fork l r) = .tup [tD l, tD r] := rfl
    have n1 := fks_len l
    have n2 := fks_len r
    have n3 := h.len
    simp only [row, List.length_append] at n3
    rw [e]
    simp [hl _, hr _, hl2.call, hr2.call]
    rw [add_lst (by simp; omega)]
    simp
    rw [add_lst (by simp; omega)]
    simp
    rw [fin_pure0 (by simpa [fD] using ⟨pures_of_cleans _ (clean_fDs (fks l)), pures_of_cleans _ (clean_fDs (fks r))⟩)]
    simp [fks, fD]
theorem S_tright {k : Nat} {b : List (List Nat)} {t : PM.T} (h : Bk b) (ht : Pl t) (hin : ∀ x ∈ row t, x < b.length) : Pur (callR fns W (k + tdep t + 6)) i_law_tree_is_right [bk b, tD t] (.bl (allG b t)) := by
  refine .of0 rfl fun st => ?_
  rw [run_at (fn := m_law_tree_is_right) rfl]
  simp only [runF, m_law_tree_is_right]
  have hf := S_tforks (W := W) (k := k + 3) t ht
  rw [show k + 3 + tdep t + 2 = k + tdep t + 5 by omega] at hf
  simp
  rw [eg_fil fD (fks t) (fun p => !goodB b p.1 p.2) fD none (by simp [hf _]) rfl (fun p hp => ⟨[some (bk b), some (tD t), some (fD p)], by simp, by
    have h1 := fks_in t p hp
    have h2 := fks_small t p hp
    have := S_lgood (W := W) (k := k + tdep t + 1) (l := p.1) (r := p.2) h (fun i hi => hin i (h1.1 i hi)) h2.1 (fun i hi => hin i (h1.2 i hi)) h2.2
    rw [et_one]
    simp [fD, this.call], by simp⟩)]
  have := fks_len t
  have := ht.len
  have h3 := List.length_filter_le (fun p : List Nat × List Nat => !goodB b p.1 p.2) (fks t)
  simp only [bnd_some, List.length_map]
  rw [if_pos (by simp only [cap]; omega)]
  simp [cmpD]
  rw [eq_lst0 (clean_fDs _) (by
    rw [deps_iff]
    intro x hx
    obtain ⟨p, _, rfl⟩ := List.mem_map.1 hx
    simp [fD])]
  simp [allG]
  rw [Bool.eq_iff_iff]
  simp
end K56

end

section
set_option maxRecDepth 100000
set_option maxHeartbeats 4000000
namespace K56
open MM MP PySem
variable {W : Nat}
/-- a side and the rest of a group -/
structure Side (g : List Nat) (p : List Nat × List Nat) : Prop where
  sub : p.1.Sublist g
  ne : p.1 ≠ []
  lt : p.1.length < g.length
  rest : p.2 = g.filter fun x => decide (x ∉ p.1)
theorem sub_filter {l g : List Nat} (hg : g.Pairwise (· < ·)) (h : l.Sublist g) : l = g.filter fun x => decide (x ∈ l) :=
  sorted_ext (hg.sublist h) (hg.filter _) fun x => by
    rw [List.mem_filter, decide_eq_true_eq]
    exact ⟨fun k => ⟨h.subset k, k⟩, fun k => k.2⟩
theorem Side.len {g : List Nat} {p : List Nat × List Nat} (hg : g.Pairwise (· < ·)) (h : Side g p) : p.1.length + p.2.length = g.length := by
  have h1 := (filter_perm (fun x => decide (x ∈ p.1)) g).length_eq
  rw [List.length_append, ← sub_filter hg h.sub] at h1
  rw [h.rest, ← h1]
  congr 2
  refine List.filter_congr fun x _ => ?_
  simp
theorem tints_tI : ∀ l : List (List Nat), tints (l.map tI) = some (l.map fun s => s.map Int.ofNat)
  | [] => rfl
  | x :: xs => by
    rw [List.map_cons, tI, tints, asInts_nIs, tints_tI xs]
    rfl
/-- sorted tuples: the same tuples -/
theorem sortD_tups {l : List (List Nat)} (hne : l ≠ []) (h : ∀ s ∈ l, s ≠ []) : ∃ m : List (List Nat), m.Perm l ∧ sortD (l.map tI) = some (m.map tI) := by
  obtain ⟨x, xs, rfl⟩ := List.exists_cons_of_ne_nil hne
  have hp : (sortT (((x :: xs) : List (List Nat)).map fun s => s.map Int.ofNat)).Perm ((x :: xs).map fun s => s.map Int.ofNat) := List.mergeSort_perm _ _
  obtain ⟨m, hm, e⟩ : ∃ m : List (List Nat), m.Perm (x :: xs) ∧ sortT (((x :: xs) : List (List Nat)).map fun s => s.map Int.ofNat) = m.map fun s => s.map Int.ofNat := by
    clear h
    generalize ht : sortT (((x :: xs) : List (List Nat)).map fun s => s.map Int.ofNat) = t at hp
    refine ⟨t.map fun s => s.map Int.toNat, ?_, ?_⟩
    · have := hp.map fun s : List Int => s.map Int.toNat
      rw [List.map_map] at this
      have e : ((fun s : List Int => s.map Int.toNat) ∘ fun s : List Nat => s.map Int.ofNat) = id := by
        funext s
        simp
        induction s with
        | nil => rfl
        | cons a as ih => simp [ih]
      rw [e, List.map_id] at this
      exact this
    · rw [List.map_map]
      have : ∀ s ∈ t, s = s.map (Int.ofNat ∘ Int.toNat) := by
        intro s hs
        obtain ⟨r, _, rfl⟩ := List.mem_map.1 (hp.mem_iff.1 hs)
        rw [List.map_map]
        rfl
      have e2 : t.map id = t.map ((fun s : List Nat => s.map Int.ofNat) ∘ fun s : List Int => s.map Int.toNat) := by
        refine List.map_congr_left fun s hs => ?_
        rw [Function.comp, List.map_map]
        exact this s hs
      rw [List.map_id] at e2
      exact e2
  refine ⟨m, hm, ?_⟩
  have ha : asInts ((x :: xs).map tI) = none := rfl
  rw [sortD, ha]
  dsimp only
  rw [tints_tI]
  dsimp only
  rw [e]
  rw [if_pos]
  · rw [List.map_map]
    congr 1
    refine List.map_congr_left fun s _ => ?_
    rw [Function.comp, map_int]
    rfl
  · rw [List.all_eq_true]
    intro t ht
    obtain ⟨s, hs, rfl⟩ := List.mem_map.1 ht
    have := h s hs
    cases s with
    | nil => exact absurd rfl this
    | cons a as => rfl
theorem T_sides {k : Nat} (x : Nat) (r : List Nat) (hl : r.length ≤ 4) (st : St) :
    ∃ sides : List (List Nat × List Nat), (∀ p ∈ sides, Side (x :: r) p) ∧ sides.length ≤ 2 ^ r.length ∧ callE (callR fns W (k + 1)) i_law_all_sides [tI (x :: r)] st = some (.lst (sides.map fD), st) := by
  suffices ∃ sides : List (List Nat × List Nat), (∀ p ∈ sides, Side (x :: r) p) ∧ sides.length ≤ 2 ^ r.length ∧ callR fns W (k + 1) i_law_all_sides [tI (x :: r)] st = some (.ref st.length, st ++ [.lst (sides.map fD)]) by
    obtain ⟨sides, h1, h2, e⟩ := this
    refine ⟨sides, h1, h2, ?_⟩
    unfold callE
    rw [e]
    exact fin_new0 (Nat.le_refl _) (by simp) fun y hy => .inl ((pures_iff _).1 (pures_of_cleans _ (clean_fDs sides)) y hy)
  rw [run_at (fn := m_law_all_sides) rfl]
  simp only [runF, m_law_all_sides]
  have hs : sliceD st (tI (x :: r)) (some 1) none = some (.tup (r.map nI)) := by
    simp [tI, sliceD, cutD, HT.sIx]
    rw [List.take_of_length_le (by simp)]
  have hpow : 2 ^ r.length ≤ 16 := by
    have : 2 ^ r.length ≤ 2 ^ 4 := Nat.pow_le_pow_right (by omega) hl
    simpa using this
  simp [s_for, hs]
  have := for_rule (src := none) (f := bodyF (callR fns W k) W (.nm 2) (.cons (.asg (.nm 1) (.bin .add (.var 1) (.frz (.comp (.one (.nm 3) (.seq (.var 1)) .nil (.bin .add (.var 3) (.tup (.cons (.var 2) .nil)))))))) .nil)) nI
      (fun xs ρ st' => ∃ (found : List (List Nat)) (o : Option D) (pre : List Nat), ρ = [some (tI (x :: r)), some (.lst (found.map tI)), o, none, none] ∧ st' = st ∧ pre ++ xs = r ∧ (∀ s ∈ found, s.Sublist pre) ∧ found.length = 2 ^ pre.length ∧ found ≠ [])
      (fun fl ρ st' => ∃ (found : List (List Nat)) (o : Option D), fl = .next ∧ ρ = [some (tI (x :: r)), some (.lst (found.map tI)), o, none, none] ∧ st' = st ∧ (∀ s ∈ found, s.Sublist r) ∧ found.length = 2 ^ r.length ∧ found ≠ [])
      ?_ ?_ r [some (tI (x :: r)), some (.lst [.tup []]), none, none, none] st ⟨[[]], none, [], rfl, rfl, rfl, by simp, rfl, by simp⟩
  · obtain ⟨fl, ρ', st', h1, found, o, rfl, rfl, rfl, h2, h3, h4⟩ := this
    rw [h1]
    have h0 : sliceD (st' ++ [.lst []]) (tI (x :: r)) none (some 1) = some (.tup [nI x]) := by
      simp [tI, sliceD, cutD, HT.sIx]
    obtain ⟨m, hm, hsort⟩ := sortD_tups (l := found.map fun s => x :: s) (by simpa using h4) (by simp)
    simp [s_for]
    rw [eg_map tI found (fun s => tI (x :: s)) none (by simp) rfl (fun s hs => ⟨_, by simp; rfl, by
      simp [h0]
      have := (h2 s hs).length_le
      rw [show (D.tup [D.int (x : Int)]) = tI [x] from rfl, show tI s = .tup (s.map nI) from rfl, add_tI (by simp; omega)]
      rfl⟩)]
    rw [show (found.map fun s => tI (x :: s)) = (found.map fun s => x :: s).map tI by rw [List.map_map]; rfl]
    simp only [bnd_some, List.length_map]
    rw [if_pos (by simp only [cap]; omega)]
    simp only [bnd_some]
    rw [hsort]
    simp
    have hml := hm.length_eq
    rw [List.length_map] at hml
    have := for_rule (src := none) (f := bodyF (callR fns W k) W (.nm 3) (.cons (.ite (.cmp .lt (.len (.var 3)) (.len (.var 0))) (.cons (.app (.var 4) (.tup (.cons (.var 3) (.cons (.tupL (.comp (.one (.nm 2) (.seq (.var 0)) (.cons (.cmp .notin (.var 2) (.var 3)) .nil) (.var 2)))) .nil))))
    .nil) .nil)
    .nil)) tI
      (fun xs ρ s => ∃ (sides : List (List Nat × List Nat)) (o o' : Option D), ρ = [some (tI (x :: r)), some (.lst (found.map tI)), o, o', some (.ref st'.length)] ∧ s = st' ++ [.lst (sides.map fD)] ∧ (∀ y ∈ xs, ∃ z ∈ found, y = x :: z) ∧ (∀ p ∈ sides, Side (x :: r) p) ∧ sides.length + xs.length ≤ 2 ^ r.length)
      (fun fl ρ s => ∃ (sides : List (List Nat × List Nat)) (o o' : Option D), fl = .next ∧ ρ = [some (tI (x :: r)), some (.lst (found.map tI)), o, o', some (.ref st'.length)] ∧ s = st' ++ [.lst (sides.map fD)] ∧ (∀ p ∈ sides, Side (x :: r) p) ∧ sides.length ≤ 2 ^ r.length)
      ?_ ?_ m [some (tI (x :: r)), some (.lst (found.map tI)), o, none, some (.ref st'.length)] (st' ++ [.lst []]) ⟨[], o, none, rfl, rfl, fun y hy => by
        obtain ⟨z, hz, e⟩ := List.mem_map.1 (hm.mem_iff.1 hy)
        exact ⟨z, hz, e.symm⟩, by simp, by simp; omega⟩
    · obtain ⟨fl, ρ', s, h1, sides, o, o', rfl, rfl, rfl, h5, h6⟩ := this
      rw [h1]
      simp
      exact ⟨sides, fun a b hab => h5 (a, b) hab, h6, rfl⟩
    · rintro ρ s ⟨sides, o, o', rfl, rfl, _, h5, h6⟩
      exact ⟨rfl, sides, o, o', rfl, rfl, rfl, h5, by simpa using h6⟩
    · rintro y ys ρ s ⟨sides, o, o', rfl, rfl, h5, h6, h7⟩
      obtain ⟨z, hz, rfl⟩ := h5 y (by simp)
      have hzl := (h2 z hz).length_le
      simp only [List.length_cons] at h7
      refine ⟨rfl, .inl ?_⟩
      by_cases hlt : z.length < r.length
      · refine ⟨[some (tI (x :: r)), some (.lst (found.map tI)), o, some (tI (x :: z)), some (.ref st'.length)], st' ++ [.lst ((sides ++ [(x :: z, (x :: r).filter fun w => decide (w ∉ x :: z))]).map fD)], ?_, sides ++ [(x :: z, (x :: r).filter fun w => decide (w ∉ x :: z))], o, some (tI (x :: z)), rfl, rfl, fun w hw => h5 w (by simp [hw]), ?_, by simp; omega⟩
        · have hfl := List.length_filter_le (fun w => decide (w ∉ x :: z)) (x :: r)
          obtain ⟨F, hF⟩ : ∃ F, F = (x :: r).filter fun w => decide (w ∉ x :: z) := ⟨_, rfl⟩
          rw [← hF] at hfl ⊢
          simp [bodyF, cmpD, cmpInt, hlt]
          rw [eg_fil nI (x :: r) (fun w => decide (w ∉ x :: z)) nI none (by simp) rfl (fun c _ => ⟨_, by simp; rfl, by rw [et_one]; simp only [ev_cmp, ev_var]; simp [cmpD, -List.map_cons, -List.mem_cons], by simp⟩)]
          simp only [← hF, bnd_some, List.length_map]
          simp only [List.length_cons] at hfl
          rw [if_pos (by simp only [cap]; omega)]
          simp
          rw [if_pos (by simp only [cap]; omega)]
          simp [fD, tI]
        · intro p hp
          rw [List.mem_append, List.mem_singleton] at hp
          rcases hp with hp | rfl
          · exact h6 p hp
          · exact ⟨(h2 z hz).cons_cons x, by simp, by simpa using hlt, rfl⟩
      · exact ⟨[some (tI (x :: r)), some (.lst (found.map tI)), o, some (tI (x :: z)), some (.ref st'.length)], st' ++ [.lst (sides.map fD)], by simp [bodyF, cmpD, cmpInt, hlt], sides, o, some (tI (x :: z)), rfl, rfl, fun w hw => h5 w (by simp [hw]), h6, by omega⟩
  · rintro ρ st' ⟨found, o, pre, rfl, rfl, h1, h2, h3, h4⟩
    rw [List.append_nil] at h1
    subst h1
    exact ⟨rfl, found, o, rfl, rfl, rfl, h2, h3, h4⟩
  · rintro y ys ρ st' ⟨found, o, pre, rfl, rfl, h1, h2, h3, h4⟩
    have hpl := congrArg List.length h1
    rw [List.length_append, List.length_cons] at hpl
    have hp2 : 2 ^ pre.length ≤ 16 := by
      have : 2 ^ pre.length ≤ 2 ^ 4 := Nat.pow_le_pow_right (by omega) (by omega)
      simpa using this
    refine ⟨rfl, .inl ⟨[some (tI (x :: r)), some (.lst ((found ++ found.map fun s => s ++ [y]).map tI)), some (nI y), none, none], st', ?_, found ++ found.map (fun s => s ++ [y]), some (nI y), pre ++ [y], rfl, rfl, by rw [← h1]; simp, ?_, ?_, by simp [h4]⟩⟩
    · simp [bodyF]
      rw [eg_map tI found (fun s => tI (s ++ [y])) none (by simp) rfl (fun s hs => ⟨_, by simp; rfl, by
        simp
        have := (h2 s hs).length_le
        rw [show (D.tup [D.int (y : Int)]) = .tup ([y].map nI) from rfl, add_tI (by simp; omega)]
        rfl⟩)]
      simp only [bnd_some, List.length_map]
      rw [if_pos (by simp only [cap]; omega)]
      simp
      rw [add_lst (by simp; omega)]
      simp
    · intro s hs
      rw [List.mem_append, List.mem_map] at hs
      rcases hs with hs | ⟨z, hz, rfl⟩
      · exact (h2 s hs).trans (List.sublist_append_left _ _)
      · exact (h2 z hz).append (List.Sublist.refl _)
    · rw [List.length_append, List.length_map, h3, List.length_append, List.length_cons, List.length_nil, Nat.pow_succ]
      omega
end K56

end

section
set_option maxRecDepth 100000
set_option maxHeartbeats 4000000
namespace K56
open MM MP PySem
variable {W : Nat}
theorem Side.grl {b : List (List Nat)} {g : List Nat} {p : List Nat × List Nat} (hg : Gr b g) (h : Side g p) : Gr b p.1 := ⟨hg.up.sublist h.sub, fun i hi => hg.lt i (h.sub.subset hi)⟩
theorem Side.grr {b : List (List Nat)} {g : List Nat} {p : List Nat × List Nat} (hg : Gr b g) (h : Side g p) : Gr b p.2 := by
  rw [show p.2 = _ from h.rest]
  exact ⟨hg.up.filter _, fun i hi => hg.lt i (List.mem_filter.1 hi).1⟩
theorem Side.nr {b : List (List Nat)} {g : List Nat} {p : List Nat × List Nat} (hg : Gr b g) (h : Side g p) : p.2 ≠ [] := by
  have := h.len hg.up
  have := h.lt
  intro e
  have e' := congrArg List.length e
  rw [List.length_nil] at e'
  omega
/-- a good split -/
structure Split (b : List (List Nat)) (g : List Nat) (p : List Nat × List Nat) : Prop where
  side : Side g p
  good : PM.Good (CC b) (· ∈ p.1) (· ∈ p.2)
/-- a right plan of a group -/
structure RT (b : List (List Nat)) (g : List Nat) (t : PM.T) : Prop where
  right : t.Right (CC b)
  mem : ∀ x, t.In x ↔ x ∈ g
theorem Split.rt {b : List (List Nat)} {g : List Nat} {p : List Nat × List Nat} {l r : PM.T} (h : Split b g p) (hl : RT b p.1 l) (hr : RT b p.2 r) : RT b g (.fork l r) := by
  have e1 : l.In = (· ∈ p.1) := funext fun x => propext (hl.mem x)
  have e2 : r.In = (· ∈ p.2) := funext fun x => propext (hr.mem x)
  refine ⟨⟨hl.right, hr.right, fun x hx hy => ?_, by rw [e1, e2]; exact h.good⟩, fun x => ?_⟩
  · rw [hr.mem, h.side.rest, List.mem_filter, decide_eq_true_eq] at hy
    exact hy.2 ((hl.mem x).1 hx)
  · show l.In x ∨ r.In x ↔ _
    rw [hl.mem, hr.mem, h.side.rest, List.mem_filter, decide_eq_true_eq]
    constructor
    · rintro (k | k)
      · exact h.side.sub.subset k
      · exact k.1
    · intro k
      by_cases hx : x ∈ p.1
      · exact .inl hx
      · exact .inr ⟨k, hx⟩
def Bd : Nat → Nat
  | 1 => 1
  | 2 => 2
  | 3 => 8
  | 4 => 64
  | 5 => 1024
  | _ => 0
theorem Bd_le : ∀ i < 6, ∀ j < 6, 1 ≤ i → 1 ≤ j → i + j ≤ 5 → 2 ^ (i + j - 1) * (Bd i * Bd j) ≤ Bd (i + j) := by decide
theorem Bd_1024 : ∀ i < 6, Bd i ≤ 1024 := by decide
theorem clean_tDs (l : List PM.T) : cleans (l.map tD) = true := by rw [cleans_iff]; intro x h; obtain ⟨p, _, rfl⟩ := List.mem_map.1 h; exact clean_tD p
end K56

end

section
set_option maxRecDepth 100000
set_option maxHeartbeats 4000000
namespace K56
open MM MP PySem
variable {W : Nat}
/-- a loop that adds to one list -/
theorem for_acc {α β : Type} {src : Option (Nat × List D)} {f : D → Rho → St → Option (Fl × Rho × St)} (φ : α → D) (ψ : β → D) (g : α → List β) (st : St) (N : Nat) (Ok : Rho → Prop)
    (hs : ∀ found : List β, stays src (st ++ [.lst (found.map ψ)]) = true) : ∀ (xs : List α)
    (step : ∀ x ∈ xs, ∀ ρ found, Ok ρ → found.length + (g x).length ≤ N → ∃ ρ', f (φ x) ρ (st ++ [.lst (found.map ψ)]) = some (.next, ρ', st ++ [.lst ((found ++ g x).map ψ)]) ∧ Ok ρ')
    (found : List β) (ρ : Rho), Ok ρ → found.length + (xs.flatMap g).length ≤ N → ∃ ρ', forF src f (xs.map φ) ρ (st ++ [.lst (found.map ψ)]) = some (.next, ρ', st ++ [.lst ((found ++ xs.flatMap g).map ψ)]) ∧ Ok ρ'
  | [], step, found, ρ, ok, hl => ⟨ρ, by simp only [List.map_nil, forF, hs found, if_true, List.flatMap_nil, List.append_nil], ok⟩
  | x :: xs, step, found, ρ, ok, hl => by
    rw [List.flatMap_cons, List.length_append] at hl
    obtain ⟨ρ1, e1, ok1⟩ := step x (by simp) ρ found ok (by omega)
    obtain ⟨ρ2, e2, ok2⟩ := for_acc φ ψ g st N Ok hs xs (fun y hy => step y (by simp [hy])) (found ++ g x) ρ1 ok1 (by rw [List.length_append]; omega)
    refine ⟨ρ2, ?_, ok2⟩
    rw [List.map_cons, forF, if_pos (hs found), e1]
    dsimp only
    rw [e2, List.flatMap_cons, List.append_assoc]
theorem len_flat {α β : Type} (g : α → List β) (m : Nat) : ∀ xs : List α, (∀ x ∈ xs, (g x).length ≤ m) → (xs.flatMap g).length ≤ xs.length * m
  | [], _ => by simp
  | x :: xs, h => by
    rw [List.flatMap_cons, List.length_append, List.length_cons, Nat.succ_mul]
    have := len_flat g m xs fun y hy => h y (by simp [hy])
    have := h x (by simp)
    omega
theorem ei_rng2 {cl : Cl} {ρ : Rho} {st : St} (a c : E) (i j : Nat) (ha : evE cl a ρ st = some (.int (i : Int), st)) (hc : evE cl c ρ st = some (.int (j : Int), st)) (hi : i ≤ 1000000) (hj : j ≤ 1000000) :
    evIt cl (.rng2 a c) ρ st = some (((List.range (j - i)).map (fun k : Nat => nI (i + k)), none), st) := by
  rw [evIt, ha]
  simp only [bnd_some]
  rw [hc]
  simp only [bnd_some]
  rw [if_pos (by simp; omega)]
  rw [show ((j : Int) - (i : Int)).toNat = j - i by omega]
  simp
def hasC (b : List (List Nat)) (p q r : Nat) : List Nat := (sh b p q).filter fun c => decide (c ∈ cols b r)
def thC (b : List (List Nat)) (p q r : Nat) : Bool := decide (r ∉ [p, q]) && (decide (0 < (hasC b p q r).length) && decide ((hasC b p q r).length < (sh b p q).length))
abbrev T3 := Nat × Nat × Nat
abbrev t3D (t : T3) : D := .tup [nI t.1, nI t.2.1, nI t.2.2]
def thR (b : List (List Nat)) (p q : Nat) : List T3 := (List.range b.length).flatMap fun r => if thC b p q r then [(p, q, r)] else []
def thQ (b : List (List Nat)) (p : Nat) : List T3 := (List.range (b.length - (p + 1))).flatMap fun k => thR b p (p + 1 + k)
def thF (b : List (List Nat)) : List T3 := (List.range b.length).flatMap fun p => thQ b p
theorem mem_thF {b : List (List Nat)} {t : T3} : t ∈ thF b ↔ t.1 < t.2.1 ∧ t.2.1 < b.length ∧ t.2.2 < b.length ∧ thC b t.1 t.2.1 t.2.2 = true := by
  unfold thF thQ thR
  simp only [List.mem_flatMap, List.mem_range]
  constructor
  · rintro ⟨p, hp, k, hk, r, hr, h⟩
    split at h
    · rename_i hc
      rw [List.mem_singleton] at h
      subst h
      exact ⟨by show p < p + 1 + k; omega, by show p + 1 + k < _; omega, hr, hc⟩
    · cases h
  · obtain ⟨p, q, r⟩ := t
    rintro ⟨h1, h2, h3, h4⟩
    refine ⟨p, by dsimp at *; omega, q - (p + 1), by dsimp at *; omega, r, h3, ?_⟩
    have : p + 1 + (q - (p + 1)) = q := by dsimp at *; omega
    rw [this]
    simp at h4
    simp [h4]
theorem len_thF {b : List (List Nat)} (h : Bk b) : (thF b).length ≤ 512 ∧ (∀ p, (thQ b p).length ≤ 64) ∧ ∀ p q, (thR b p q).length ≤ 8 := by
  have h6 := h.six
  have hR : ∀ p q, (thR b p q).length ≤ 8 := fun p q => by
    have := len_flat (fun r => if thC b p q r then [((p, q, r) : T3)] else []) 1 (List.range b.length) (fun r _ => by split <;> simp)
    rw [List.length_range] at this
    unfold thR
    omega
  have hQ : ∀ p, (thQ b p).length ≤ 64 := fun p => by
    have := len_flat (fun k => thR b p (p + 1 + k)) 8 (List.range (b.length - (p + 1))) (fun k _ => hR p _)
    rw [List.length_range] at this
    unfold thQ
    omega
  refine ⟨?_, hQ, hR⟩
  have := len_flat (fun p => thQ b p) 64 (List.range b.length) (fun p _ => hQ p)
  rw [List.length_range] at this
  unfold thF
  omega
theorem clean_t3s (l : List T3) : cleans (l.map t3D) = true := by rw [cleans_iff]; intro x h; obtain ⟨p, _, rfl⟩ := List.mem_map.1 h; rfl
theorem deps_t3s (l : List T3) : D.deps (l.map t3D) ≤ 1 := by rw [deps_iff]; intro x h; obtain ⟨p, _, rfl⟩ := List.mem_map.1 h; simp

theorem ev_chn2 {cl : Cl} {ρ : Rho} {st : St} {o p : Cop} {a b c : E} {x y z : D} {t u : Bool} (ha : evE cl a ρ st = some (x, st)) (hb : evE cl b ρ st = some (y, st)) (hc : evE cl c ρ st = some (z, st)) (h1 : cmpD o st x y = some t) (h2 : cmpD p st y z = some u) :
    evE cl (.chn o p a b c) ρ st = some (.bl (t && u), st) := by
  rw [ev_chn, ha, bnd_some, hb, bnd_some, h1]
  cases t
  · rfl
  · dsimp only
    rw [hc, bnd_some, h2]
    rfl
abbrev B3 : Ss := (.cons (.asg (.nm 6) (.frz (.comp (.one (.nm 7) (.seq (.var 4)) (.cons (.cmp .isin (.var 7) (.idx (.var 0) (.var 5))) .nil) (.var 7)))))
    (.cons (.ite (.and (.cmp .notin (.var 5) (.tup (.cons (.var 2) (.cons (.var 3) .nil)))) (.chn .lt .lt (.con (.int 0)) (.len (.var 6)) (.len (.var 4)))) (.cons (.app (.var 1) (.tup (.cons (.var 2) (.cons (.var 3) (.cons (.var 5) .nil)))))
    .nil) .nil)
    .nil))
abbrev B2 : Ss := (.cons (.asg (.nm 4) (.call i_law_common_columns (.cons (.var 0) (.cons (.var 2) (.cons (.var 3) .nil)))))
    (.cons (.forS (.nm 5) (.rng1 (.len (.var 0))) B3)
    .nil))
abbrev B1 : Ss := (.cons (.forS (.nm 3) (.rng2 (.bin .add (.var 2) (.con (.int 1))) (.len (.var 0))) B2)
    .nil)
theorem th3 {k : Nat} {b : List (List Nat)} (h : Bk b) {st : St} {p q r : Nat} (hr : r < b.length) (o5 o6 : Option D) (found : List T3) (hN : found.length ≤ 100000) :
    ∃ o6', bodyF (callR fns W (k + 1)) W (.nm 5) B3 (nI r) [some (bk b), some (.ref st.length), some (nI p), some (nI q), some (tI (sh b p q)), o5, o6, none] (st ++ [.lst (found.map t3D)]) =
      some (.next, [some (bk b), some (.ref st.length), some (nI p), some (nI q), some (tI (sh b p q)), some (nI r), o6', none], st ++ [.lst ((found ++ if thC b p q r then [(p, q, r)] else []).map t3D)]) := by
  have hl1 := List.length_filter_le (fun c => decide (c ∈ cols b r)) (sh b p q)
  have hl2 := List.length_filter_le (fun c => decide (c ∈ cols b q)) (cols b p)
  have hl3 := cols_len h p
  obtain ⟨Z, hZ⟩ : ∃ Z, Z = sh b p q := ⟨_, rfl⟩
  obtain ⟨H, hH⟩ : ∃ H, H = hasC b p q r := ⟨_, rfl⟩
  have hH2 : H = Z.filter fun c => decide (c ∈ cols b r) := by rw [hH, hZ]; rfl
  have hZ2 : Z.length ≤ 8 := by rw [hZ]; unfold sh; omega
  have hH3 : H.length ≤ 8 := by rw [← hZ, ← hH2] at hl1; omega
  refine ⟨some (.lst (H.map nI)), ?_⟩
  simp only [thC, ← hZ, ← hH]
  have q1 : evS (callR fns W (k + 1)) W (.asg (.nm 6) (.frz (.comp (.one (.nm 7) (.seq (.var 4)) (.cons (.cmp .isin (.var 7) (.idx (.var 0) (.var 5))) .nil) (.var 7))))) [some (bk b), some (.ref st.length), some (nI p), some (nI q), some (tI Z), some (nI r), o6, none] (st ++ [.lst (found.map t3D)]) =
      some (.next, [some (bk b), some (.ref st.length), some (nI p), some (nI q), some (tI Z), some (nI r), some (.lst (H.map nI)), none], st ++ [.lst (found.map t3D)]) := by
    simp
    rw [eg_fil nI Z (fun c => decide (c ∈ cols b r)) nI none (by simp) rfl (fun c _ => ⟨_, by simp; rfl, by rw [et_one]; simp [hr, cmpD], by simp⟩)]
    rw [← hH2]
    simp only [bnd_some, List.length_map]
    rw [if_pos (by simp only [cap]; omega)]
    simp
  have q2 : evE (callR fns W (k + 1)) (.and (.cmp .notin (.var 5) (.tup (.cons (.var 2) (.cons (.var 3) .nil)))) (.chn .lt .lt (.con (.int 0)) (.len (.var 6)) (.len (.var 4)))) [some (bk b), some (.ref st.length), some (nI p), some (nI q), some (tI Z), some (nI r), some (.lst (H.map nI)), none] (st ++ [.lst (found.map t3D)]) =
      some (.bl (decide (r ∉ [p, q]) && (decide (0 < H.length) && decide (H.length < Z.length))), st ++ [.lst (found.map t3D)]) := by
    have hin : inD (st ++ [.lst (found.map t3D)]) (nI r) [nI p, nI q] = some (decide (r ∈ [p, q])) := in_nIs (st := st ++ [.lst (found.map t3D)]) r [p, q]
    have e : evE (callR fns W (k + 1)) (.cmp .notin (.var 5) (.tup (.cons (.var 2) (.cons (.var 3) .nil)))) [some (bk b), some (.ref st.length), some (nI p), some (nI q), some (tI Z), some (nI r), some (.lst (H.map nI)), none] (st ++ [.lst (found.map t3D)]) = some (.bl (decide (r ∉ [p, q])), st ++ [.lst (found.map t3D)]) := by
      simp [cmpD, hin]
    rw [ev_and, e, bnd_some, ev_chn2 (x := .int 0) (y := .int (H.length : Int)) (z := .int (Z.length : Int)) (t := decide (0 < H.length)) (u := decide (H.length < Z.length)) (by simp) (by simp) (by simp) (by simp [cmpD, cmpInt]) (by simp [cmpD, cmpInt]), andK_b]
  rw [bodyF, bind_nm, if_pos (by simp)]
  dsimp only [List.set]
  rw [ss_cons _ _ _ _ _ _ q1, ss_step, s_ite, test_eq, q2]
  simp only [bnd_some, truth_bl, liftO_some]
  cases hc : (decide (r ∉ [p, q]) && (decide (0 < H.length) && decide (H.length < Z.length))) with
  | false => simp
  | true =>
    simp
    rw [if_pos (by simp only [cap]; omega)]
    simp
theorem th2 {k : Nat} {b : List (List Nat)} (h : Bk b) {st : St} {p j : Nat} (hp : p < b.length) (hj : p + 1 + j < b.length) (o3 o4 o5 o6 : Option D) (found : List T3) (hN : found.length ≤ 90000) :
    ∃ o4' o5' o6', bodyF (callR fns W (k + 1)) W (.nm 3) B2 (nI (p + 1 + j)) [some (bk b), some (.ref st.length), some (nI p), o3, o4, o5, o6, none] (st ++ [.lst (found.map t3D)]) =
      some (.next, [some (bk b), some (.ref st.length), some (nI p), some (nI (p + 1 + j)), o4', o5', o6', none], st ++ [.lst ((found ++ thR b p (p + 1 + j)).map t3D)]) := by
  have h6 := h.six
  obtain ⟨_, _, lR⟩ := len_thF h
  have lR := lR p (p + 1 + j)
  have hc := S_common (W := W) (k := k) (i := p) (j := p + 1 + j) h hp hj
  obtain ⟨ρ', e, o5', o6', rfl⟩ := for_acc (src := none) (f := bodyF (callR fns W (k + 1)) W (.nm 5) B3) nI t3D (fun r => if thC b p (p + 1 + j) r then [((p, p + 1 + j, r) : T3)] else []) st 100000 (fun ρ => ∃ o5 o6, ρ = [some (bk b), some (.ref st.length), some (nI p), some (nI (p + 1 + j)), some (tI (sh b p (p + 1 + j))), o5, o6, none]) (fun _ => rfl) (List.range b.length) (by
    rintro r hr ρ found ⟨o5, o6, rfl⟩ hN
    obtain ⟨o6', e⟩ := th3 (W := W) (k := k) h (st := st) (p := p) (q := p + 1 + j) (List.mem_range.1 hr) o5 o6 found (by omega)
    exact ⟨_, e, some (nI r), o6', rfl⟩) found [some (bk b), some (.ref st.length), some (nI p), some (nI (p + 1 + j)), some (tI (sh b p (p + 1 + j))), o5, o6, none] ⟨o5, o6, rfl⟩ (by unfold thR at lR; omega)
  have e0 : evIt (callR fns W (k + 1)) (.rng1 (.len (.var 0))) [some (bk b), some (.ref st.length), some (nI p), some (nI (p + 1 + j)), some (tI (sh b p (p + 1 + j))), o5, o6, none] (st ++ [.lst (found.map t3D)]) = some (((List.range b.length).map nI, none), st ++ [.lst (found.map t3D)]) := ei_rng1 _ _ _ _ _ _ (by simp) (by omega)
  refine ⟨some (tI (sh b p (p + 1 + j))), o5', o6', ?_⟩
  have q1 : evS (callR fns W (k + 1)) W (.asg (.nm 4) (.call i_law_common_columns (.cons (.var 0) (.cons (.var 2) (.cons (.var 3) .nil))))) [some (bk b), some (.ref st.length), some (nI p), some (nI (p + 1 + j)), o4, o5, o6, none] (st ++ [.lst (found.map t3D)]) = some (.next, [some (bk b), some (.ref st.length), some (nI p), some (nI (p + 1 + j)), some (tI (sh b p (p + 1 + j))), o5, o6, none], st ++ [.lst (found.map t3D)]) := by
    simp [-Int.natCast_add, hc.call]
  rw [bodyF, bind_nm, if_pos (by simp)]
  dsimp only [List.set]
  rw [ss_cons _ _ _ _ _ _ q1, ss_step, s_for, e0]
  dsimp only
  rw [e]
  simp [thR]
theorem S_thirds {k : Nat} {b : List (List Nat)} (h : Bk b) : PurL (callR fns W (k + 2)) i_law_thirds_of [bk b] ((thF b).map t3D) := by
  refine ⟨pures_of_cleans _ (clean_t3s _), fun st => ⟨st.length, [.lst ((thF b).map t3D)], ?_, Nat.le_refl _, by simp⟩⟩
  have h6 := h.six
  obtain ⟨lF, lQ, lR⟩ := len_thF h
  rw [run_at (fn := m_law_thirds_of) rfl]
  simp only [runF, m_law_thirds_of]
  have e0 : ∀ s : St, evIt (callR fns W (k + 1)) (.rng1 (.len (.var 0))) [some (bk b), some (.ref st.length), none, none, none, none, none, none] s = some (((List.range b.length).map nI, none), s) := fun s => ei_rng1 _ _ _ _ _ _ (by simp) (by omega)
  simp [s_for, e0]
  obtain ⟨ρ', e, o2, o3, o4, o5, o6, rfl⟩ := for_acc (src := none) (f := bodyF (callR fns W (k + 1)) W (.nm 2) B1) nI t3D (fun p => thQ b p) st 80000 (fun ρ => ∃ o2 o3 o4 o5 o6, ρ = [some (bk b), some (.ref st.length), o2, o3, o4, o5, o6, none]) (fun _ => rfl) (List.range b.length) (by
    rintro p hp ρ found ⟨o2, o3, o4, o5, o6, rfl⟩ hN
    have hp' := List.mem_range.1 hp
    have e2 := ei_rng2 (cl := callR fns W (k + 1)) (ρ := [some (bk b), some (.ref st.length), some (nI p), o3, o4, o5, o6, none]) (st := st ++ [.lst (found.map t3D)]) (.bin .add (.var 2) (.con (.int 1))) (.len (.var 0)) (p + 1) b.length (by simp [binD]) (by simp) (by omega) (by omega)
    obtain ⟨ρ', e, o3', o4', o5', o6', rfl⟩ := for_acc (src := none) (f := bodyF (callR fns W (k + 1)) W (.nm 3) B2) (fun j : Nat => nI (p + 1 + j)) t3D (fun j => thR b p (p + 1 + j)) st 90000 (fun ρ => ∃ o3 o4 o5 o6, ρ = [some (bk b), some (.ref st.length), some (nI p), o3, o4, o5, o6, none]) (fun _ => rfl) (List.range (b.length - (p + 1))) (by
      rintro j hj ρ found ⟨o3, o4, o5, o6, rfl⟩ hN
      obtain ⟨o4', o5', o6', e⟩ := th2 (W := W) (k := k) h (st := st) (p := p) (j := j) hp' (by have := List.mem_range.1 hj; omega) o3 o4 o5 o6 found (by omega)
      exact ⟨_, e, _, _, _, _, rfl⟩) found [some (bk b), some (.ref st.length), some (nI p), o3, o4, o5, o6, none] ⟨_, _, _, _, rfl⟩ (by show found.length + (thQ b p).length ≤ _; omega)
    refine ⟨_, ?_, some (nI p), o3', o4', o5', o6', rfl⟩
    rw [bodyF, bind_nm, if_pos (by simp)]
    dsimp only [List.set]
    rw [ss_step, s_for, e2]
    dsimp only
    rw [e]
    simp [thQ]) [] [some (bk b), some (.ref st.length), none, none, none, none, none, none] ⟨_, _, _, _, _, rfl⟩ (by show 0 + (thF b).length ≤ _; omega)
  simp only [List.map_nil] at e
  rw [e]
  simp [thF]
end K56

end

section
set_option maxRecDepth 100000
set_option maxHeartbeats 4000000
namespace K56
open MM MP PySem
variable {W : Nat}
theorem idx_nat (k : Nat) : ∀ l : List Nat, (l.map Int.ofNat).idxOf (k : Int) = l.idxOf k
  | [] => rfl
  | x :: xs => by
    rw [List.map_cons, List.idxOf_cons, List.idxOf_cons, idx_nat k xs]
    have : (Int.ofNat x == (k : Int)) = (x == k) := by
      rw [Bool.eq_iff_iff, beq_iff_eq, beq_iff_eq]
      exact Int.ofNat_inj
    rw [this]
theorem index_tI {o : List Nat} {k : Nat} (h : k ∈ o) : indexD (tI o) (.int (k : Int)) = some (nI (o.idxOf k)) := by
  have hc : (o.map Int.ofNat).contains (k : Int) = true := by
    rw [List.contains_iff_mem]
    exact List.mem_map.2 ⟨k, h, rfl⟩
  simp only [tI, indexD, asInts_nIs]
  rw [if_pos hc, idx_nat]
def behC (o : List Nat) (t : T3) : Bool := decide (max (o.idxOf t.1) (o.idxOf t.2.1) ≤ o.idxOf t.2.2)
def behB (b : List (List Nat)) (o : List Nat) : Bool := (thF b).all (behC o)
@[scoped simp] theorem idx_2 {st : St} (x y z : D) (r : List D) : idxD st (.tup (x :: y :: z :: r)) (.int 2) = some z := by
  have := ixN_nat (n := (x :: y :: z :: r).length) (i := 2) (by simp)
  simp only [idxD, seq_tup, atD, L2.atI]
  rw [show (2 : Int) = ((2 : Nat) : Int) from rfl, this]
  rfl
/-! ### orders -/
theorem fks_fold (b : List (List Nat)) : ∀ (r : List Nat) (t : PM.T), ((fks (r.foldl (fun t y => .fork t (.leaf y)) t)).all fun p => goodB b p.1 p.2) = true ↔ ((fks t).all fun p => goodB b p.1 p.2) = true ∧ ∀ pre s post, r = pre ++ s :: post → goodB b (ups 24 fun x => decide (x ∈ row t ++ pre)) (lvs (.leaf s)) = true
  | [], t => by simp
  | y :: r, t => by
    rw [List.foldl_cons, fks_fold b r]
    have e : fks (.fork t (.leaf y)) = fks t ++ [(lvs t, lvs (.leaf y))] := by simp [fks]
    rw [e, List.all_append, Bool.and_eq_true]
    simp only [List.all_cons, List.all_nil, Bool.and_true]
    constructor
    · rintro ⟨⟨h1, h2⟩, h3⟩
      refine ⟨h1, fun pre s post e => ?_⟩
      cases pre with
      | nil =>
        simp only [List.nil_append, List.cons.injEq] at e
        rw [List.append_nil, ← e.1]
        exact h2
      | cons z pre =>
        simp only [List.cons_append, List.cons.injEq] at e
        have := h3 pre s post e.2
        rw [e.1] at this
        simpa [row] using this
    · rintro ⟨h1, h2⟩
      refine ⟨⟨h1, ?_⟩, fun pre s post e => ?_⟩
      · have := h2 [] y r rfl
        rwa [List.append_nil] at this
      · have := h2 (y :: pre) s post (by rw [e]; rfl)
        simpa [row] using this
theorem ordB_iff {b : List (List Nat)} {o : List Nat} (h : Bk b) (ho : o.Perm (allS b)) : ordB b o = true ↔ OrdR b o := by
  cases o with
  | nil =>
    have := ho.length_eq
    have h1 := h.one
    rw [List.length_range, List.length_nil] at this
    omega
  | cons x r =>
    have h6 := h.six
    have hlt : ∀ y ∈ x :: r, y < 24 := fun y hy => by have := List.mem_range.1 (ho.mem_iff.1 hy); omega
    have key : ∀ (pre : List Nat) (s : Nat), (∀ y ∈ pre, y ∈ x :: r) → s ∈ x :: r → (goodB b (ups 24 fun z => decide (z ∈ pre)) (lvs (.leaf s)) = true ↔ PM.Good (CC b) (· ∈ pre) (· = s)) := by
      intro pre s hp hs
      rw [good_iff h]
      have e1 : (fun y => y ∈ ups 24 fun z => decide (z ∈ pre)) = fun y => y ∈ pre := funext fun y => propext (by
        rw [mem_ups, decide_eq_true_eq]
        exact ⟨fun k => k.2, fun k => ⟨hlt y (hp y k), k⟩⟩)
      have e2 : (fun y => y ∈ lvs (.leaf s)) = fun y => y = s := funext fun y => propext (by
        rw [lvs, mem_ups, decide_eq_true_eq, row, List.mem_singleton]
        exact ⟨fun k => k.2, fun k => ⟨by rw [k]; exact hlt s hs, k⟩⟩)
      rw [e1, e2]
    show allG b (chn x r) = true ↔ _
    unfold allG chn
    rw [fks_fold]
    simp only [fks, List.all_nil, true_and, row]
    constructor
    · intro k pre s post e hp
      cases pre with
      | nil => exact absurd rfl hp
      | cons z pre =>
        simp only [List.cons_append, List.cons.injEq] at e
        have := k pre s post e.2
        have := (key (x :: pre) s (by
          intro y hy
          rw [e.2]
          simp only [List.mem_cons, List.mem_append] at hy ⊢
          rcases hy with hy | hy
          · exact .inl hy
          · exact .inr (.inl hy)) (by rw [e.2]; simp)).1 this
        rw [e.1] at this
        exact this
    · intro k pre s post e
      exact (key (x :: pre) s (by
          intro y hy
          rw [e]
          simp only [List.mem_cons, List.mem_append] at hy ⊢
          rcases hy with hy | hy
          · exact .inl hy
          · exact .inr (.inl hy)) (by rw [e]; simp)).2 (k (x :: pre) s post (by rw [e]; rfl) (by simp))
/-- each source but the first has a neighbour ahead -/
def NA (b : List (List Nat)) (o : List Nat) : Prop := ∀ pre s post, o = pre ++ s :: post → pre ≠ [] → ∃ p ∈ pre, PM.Near (CC b) s p
theorem NA.hung {b : List (List Nat)} : ∀ (n : Nat) (pre post : List Nat), pre.length = n → NA b (pre ++ post) → pre ≠ [] → PM.Hung (CC b) (· ∈ pre)
  | 0, pre, post, hn, _, hne => absurd (List.length_eq_zero_iff.1 hn) hne
  | n + 1, pre, post, hn, h, hne => by
    rcases List.eq_nil_or_concat pre with rfl | ⟨pre, s, e⟩
    · exact absurd rfl hne
    rw [List.concat_eq_append] at e
    subst e
    by_cases hp : pre = []
    · subst hp
      exact PM.hung_one (x := s) fun y => by simp
    · have h1 := NA.hung n pre (s :: post) (by simpa using hn) (by simpa using h) hp
      obtain ⟨p, hp1, hp2⟩ := h pre s post (by simp) hp
      have := PM.hung_join h1 (PM.hung_one (C := CC b) (x := s) (G := (· = s)) fun y => Iff.rfl) ⟨p, s, hp1, rfl, hp2.symm⟩
      exact PM.hung_congr (fun y => by simp) this
theorem mem_hasC {b : List (List Nat)} {p q r c : Nat} : c ∈ hasC b p q r ↔ (c ∈ cols b p ∧ c ∈ cols b q) ∧ c ∈ cols b r := by
  simp [hasC, List.mem_filter, mem_sh]
theorem filter_len_lt {α : Type} (p : α → Bool) (l : List α) : (l.filter p).length < l.length ↔ ∃ x ∈ l, p x = false := by
  have h1 := List.length_filter_le p l
  constructor
  · intro h
    refine Classical.byContradiction fun hno => ?_
    have : l.filter p = l := List.filter_eq_self.2 fun x hx => by
      cases hp : p x with
      | true => rfl
      | false => exact absurd ⟨x, hx, hp⟩ hno
    rw [this] at h
    omega
  · rintro ⟨x, hx, hp⟩
    rcases Nat.lt_or_ge (l.filter p).length l.length with k | k
    · exact k
    · have e : l.filter p = l := (List.filter_sublist (p := p) (l := l)).eq_of_length (by omega)
      rw [← e, List.mem_filter, hp] at hx
      exact absurd hx.2 (by simp)
theorem thC_iff {b : List (List Nat)} {p q r : Nat} : thC b p q r = true ↔ (r ≠ p ∧ r ≠ q) ∧ (∃ c, (c ∈ cols b p ∧ c ∈ cols b q) ∧ c ∈ cols b r) ∧ ∃ d, (d ∈ cols b p ∧ d ∈ cols b q) ∧ d ∉ cols b r := by
  unfold thC
  simp only [Bool.and_eq_true, decide_eq_true_eq]
  rw [show (hasC b p q r).length < (sh b p q).length ↔ _ from filter_len_lt _ _]
  have e : 0 < (hasC b p q r).length ↔ ∃ c, (c ∈ cols b p ∧ c ∈ cols b q) ∧ c ∈ cols b r := by
    rw [List.length_pos_iff_exists_mem]
    exact exists_congr fun c => mem_hasC
  rw [e]
  simp only [mem_sh, decide_eq_false_iff_not, List.mem_cons, List.not_mem_nil, or_false, not_or]
theorem thC_symm {b : List (List Nat)} {p q r : Nat} (h : thC b p q r = true) : thC b q p r = true := by
  rw [thC_iff] at h ⊢
  obtain ⟨⟨h1, h2⟩, ⟨c, ⟨h3, h4⟩, h5⟩, d, ⟨h6, h7⟩, h8⟩ := h
  exact ⟨⟨h2, h1⟩, ⟨c, ⟨h4, h3⟩, h5⟩, d, ⟨h7, h6⟩, h8⟩
theorem third_any {b : List (List Nat)} {o : List Nat} (hb : behB b o = true) {p q r : Nat} (hpq : p ≠ q) (hp : p < b.length) (hq : q < b.length) (hr : r < b.length) (h : thC b p q r = true) : o.idxOf p ≤ o.idxOf r ∧ o.idxOf q ≤ o.idxOf r := by
  have hb' := List.all_eq_true.1 hb
  rcases Nat.lt_or_gt_of_ne hpq with k | k
  · have := hb' (p, q, r) (mem_thF.2 ⟨k, hq, hr, h⟩)
    simp only [behC, decide_eq_true_eq] at this
    omega
  · have := hb' (q, p, r) (mem_thF.2 ⟨k, hp, hr, thC_symm h⟩)
    simp only [behC, decide_eq_true_eq] at this
    omega
theorem idx_ahead {pre post : List Nat} {s x : Nat} (hn : (pre ++ s :: post).Nodup) : x ∈ pre ↔ (x ∈ pre ++ s :: post ∧ (pre ++ s :: post).idxOf x < (pre ++ s :: post).idxOf s) := by
  rw [List.nodup_append] at hn
  have hs : s ∉ pre := fun k => hn.2.2 s k s (by simp) rfl
  have es : (pre ++ s :: post).idxOf s = pre.length := by
    rw [List.idxOf_append, if_neg hs]
    simp
  rw [es]
  constructor
  · intro hx
    refine ⟨by simp [hx], ?_⟩
    rw [List.idxOf_append, if_pos hx]
    exact List.idxOf_lt_length_of_mem hx
  · rintro ⟨_, h2⟩
    refine Classical.byContradiction fun hx => ?_
    rw [List.idxOf_append, if_neg hx] at h2
    omega
/-- with a right plan, an order with neighbours ahead is right just if each third stands behind -/
theorem planned {b : List (List Nat)} {o : List Nat} {t : PM.T} (h : Bk b) (ho : o.Perm (allS b)) (ht : RT b (allS b) t) (hna : NA b o) : ordB b o = behB b o := by
  have hnd : o.Nodup := ho.nodup_iff.2 List.nodup_range
  have hlt : ∀ x, x ∈ o ↔ x < b.length := fun x => by rw [ho.mem_iff, List.mem_range]
  rw [Bool.eq_iff_iff, ordB_iff h ho]
  constructor
  · intro hr
    refine List.all_eq_true.2 fun t' ht' => ?_
    obtain ⟨p, q, r⟩ := t'
    obtain ⟨h1, h2, h3, h4⟩ := mem_thF.1 ht'
    dsimp only at h1 h2 h3 h4
    simp only [behC, decide_eq_true_eq]
    refine Classical.byContradiction fun hno => ?_
    -- the later one of p and q
    have main : ∀ s u : Nat, s < b.length → u < b.length → s ≠ u → thC b u s r = true → o.idxOf r < o.idxOf s → o.idxOf u ≤ o.idxOf s → False := by
      intro s u hs hu hsu hth hrs hus
      obtain ⟨pre, post, e⟩ := List.append_of_mem ((hlt s).2 hs)
      rw [e] at hnd hrs hus
      have hrp : r ∈ pre := (idx_ahead hnd).2 ⟨by rw [← e]; exact (hlt r).2 h3, hrs⟩
      have hup : u ∈ pre := by
        refine (idx_ahead hnd).2 ⟨by rw [← e]; exact (hlt u).2 hu, ?_⟩
        rcases Nat.lt_or_ge ((pre ++ s :: post).idxOf u) ((pre ++ s :: post).idxOf s) with k | k
        · exact k
        · have e3 : (pre ++ s :: post).idxOf u = (pre ++ s :: post).idxOf s := by omega
          have m1 : u ∈ pre ++ s :: post := by rw [← e]; exact (hlt u).2 hu
          have m2 : s ∈ pre ++ s :: post := by simp
          have g1 := List.getElem_idxOf (List.idxOf_lt_length_of_mem m1)
          have g2 := List.getElem_idxOf (List.idxOf_lt_length_of_mem m2)
          exact absurd (g2.symm.trans ((by simp only [e3]) : _ = _) |>.trans g1) hsu
      have hg := hr pre s post e (List.ne_nil_of_mem hrp)
      obtain ⟨_, ⟨c, ⟨c1, c2⟩, c3⟩, d, ⟨d1, d2⟩, d3⟩ := thC_iff.1 hth
      have hs' : s ∉ pre := by
        rw [List.nodup_append] at hnd
        exact fun k => hnd.2.2 s k s (by simp) rfl
      exact d3 (PM.third_of_good (C := CC b) hg hup hrp hs' c1 c2 c3 d1 d2)
    rcases Nat.le_total (o.idxOf p) (o.idxOf q) with k | k
    · exact main q p h2 (by omega) (by omega) h4 (by omega) k
    · exact main p q (by omega) h2 (by omega) (thC_symm h4) (by omega) k
  · intro hbeh pre s post e hp
    have hnd' := hnd
    rw [e] at hnd'
    have hsp : s ∉ pre := by
      rw [List.nodup_append] at hnd'
      exact fun k => hnd'.2.2 s k s (by simp) rfl
    have hin : ∀ x ∈ pre, x < b.length := fun x hx => (hlt x).1 (by rw [e]; simp [hx])
    have hs : s < b.length := (hlt s).1 (by rw [e]; simp)
    have hH : PM.Hung (CC b) (· ∈ pre) := NA.hung _ pre (s :: post) rfl (by rw [← e]; exact hna) hp
    obtain ⟨n, hn1, hn2⟩ := hna pre s post e hp
    refine PM.good_of_same hsp ⟨n, hn1, hn2⟩ ?_
    refine PM.same_of_right t ht.right s _ ((ht.mem s).2 (List.mem_range.2 hs)) (fun x hx => (ht.mem x).2 (List.mem_range.2 (hin x hx))) hsp hH ?_
    intro p q hp1 hq1 hnp hnq ⟨c, hc1, hc2, hc3⟩ d hd1 hd2
    refine Classical.byContradiction fun hd3 => ?_
    have hpq : p ≠ q := fun e => hd3 (e ▸ hd2)
    have hth : thC b p s q = true := thC_iff.2 ⟨⟨fun e => hpq e.symm, fun e' => hsp (by rw [← e']; exact hq1)⟩, ⟨c, ⟨hc2, hc1⟩, hc3⟩, d, ⟨hd2, hd1⟩, hd3⟩
    have := (third_any hbeh (fun e' => hsp (by rw [← e']; exact hp1)) (hin p hp1) hs (hin q hq1) hth).2
    have h2 := ((idx_ahead hnd').1 hq1).2
    rw [← e] at h2
    omega
end K56

end

section
set_option maxRecDepth 100000
set_option maxHeartbeats 4000000
namespace K56
open MM MP PySem
variable {W : Nat}
@[scoped simp] theorem el_srtSet (cl : Cl) (ρ : Rho) (st : St) (a : E) : evL cl (.srtSet a) ρ st = bnd (evE cl a ρ st) fun x st => (match x with
    | .tup xs => if decide (xs.length < 64) then liftO st (sortSet xs) else none
    | _ => none) := by rw [evL] <;> rfl
theorem or_f {cl : Cl} {ρ : Rho} {st : St} {a b : E} (h : evE cl a ρ st = some (.bl false, st)) : evE cl (.or a b) ρ st = evE cl b ρ st := by rw [ev_or, h]; rfl
theorem or_t {cl : Cl} {ρ : Rho} {st : St} {a b : E} (h : evE cl a ρ st = some (.bl true, st)) : evE cl (.or a b) ρ st = some (.bl true, st) := by rw [ev_or, h]; rfl
theorem and_t {cl : Cl} {ρ : Rho} {st : St} {a b : E} (h : evE cl a ρ st = some (.bl true, st)) : evE cl (.and a b) ρ st = evE cl b ρ st := by rw [ev_and, h]; rfl
theorem and_f {cl : Cl} {ρ : Rho} {st : St} {a b : E} (h : evE cl a ρ st = some (.bl false, st)) : evE cl (.and a b) ρ st = some (.bl false, st) := by rw [ev_and, h]; rfl
theorem runF_ret {cl : Cl} {W : Nat} {fn : Fn} {args : List D} {st st' : St} {d : D} {ρ' : Rho} (hl : args.length = fn.np) (h : evSs cl W fn.body (args.map some ++ List.replicate (fn.ns - fn.np) none) st = some (.ret d, ρ', st')) : runF cl W fn args st = some (d, st') := by
  rw [runF, if_pos hl, h]
theorem S_allsrc {k : Nat} {b : List (List Nat)} (h : Bk b) : Pur (callR fns W (k + 1)) i_law_all_sources [bk b] (tI (allS b)) := by
  refine .of0 (by simp) fun st => ?_
  rw [run_at (fn := m_law_all_sources) rfl]
  simp only [runF, m_law_all_sources]
  have h6 := h.six
  simp
  rw [eg_map nI (List.range b.length) nI none (ei_rng1 _ _ _ _ _ _ (by simp) (by omega)) rfl (fun c _ => ⟨_, by simp; rfl, by simp⟩)]
  simp only [bnd_some, List.length_map, List.length_range]
  rw [if_pos (by simp only [cap]; omega)]
  rfl
theorem eq_lstI {st : St} (a c : List Nat) : eqD st (.lst (a.map nI)) (.lst (c.map nI)) = some (decide (a = c)) := by
  rw [eqD_clean (by simp) (by simp) (by simp) (by simp)]
  exact congrArg some (decide_eq_decide.2 lst_nI_inj)
/-- those taken off behind a group -/
def OffR (b : List (List Nat)) (g off : List Nat) : Prop := ∀ pre s post, off = pre ++ s :: post → PM.Good (CC b) (· ∈ g ++ pre) (· = s)
theorem wo_perm {g : List Nat} {s : Nat} (hn : g.Nodup) (hs : s ∈ g) : (wo g s ++ [s]).Perm g := by
  refine perm_of_mem ?_ hn fun x => ?_
  · rw [List.nodup_append]
    refine ⟨hn.filter _, by simp, fun a ha c hc' e => ?_⟩
    rw [List.mem_singleton] at hc'
    exact (mem_wo.1 ha).2 (e.trans hc')
  · rw [List.mem_append, mem_wo, List.mem_singleton]
    constructor
    · rintro (k | rfl)
      · exact k.1
      · exact hs
    · intro k
      by_cases hx : x = s
      · exact .inr hx
      · exact .inl ⟨k, hx⟩
theorem OffR.step {b : List (List Nat)} {g off : List Nat} {s : Nat} (hs : s ∈ g) (hc : PM.CanGo (CC b) (· ∈ g) s) (h : OffR b g off) : OffR b (wo g s) (s :: off) := by
  intro pre x post e
  cases pre with
  | nil =>
    simp only [List.nil_append, List.cons.injEq] at e
    rw [← e.1]
    have e5 : (fun y => y ∈ wo g s ++ []) = fun y => y ∈ g ∧ y ≠ s := funext fun y => propext (by rw [List.append_nil]; exact mem_wo)
    rw [e5]
    exact hc.2
  | cons z pre =>
    simp only [List.cons_append, List.cons.injEq] at e
    have := h pre x post e.2
    have e5 : (fun y => y ∈ wo g s ++ z :: pre) = fun y => y ∈ g ++ pre := funext fun y => propext (by
      rw [← e.1]
      simp only [List.mem_append, List.mem_cons, mem_wo]
      constructor
      · rintro (k | k | k)
        · exact .inl k.1
        · exact .inl (k ▸ hs)
        · exact .inr k
      · rintro (k | k)
        · by_cases hy : y = s
          · exact .inr (.inl hy)
          · exact .inl ⟨k, hy⟩
        · exact .inr (.inr k))
    rw [e5]
    exact this
/-- can be taken off to one -/
def DisA (b : List (List Nat)) : Prop := PM.Dism (CC b) (· ∈ allS b)
end K56

end

section
set_option maxRecDepth 100000
set_option maxHeartbeats 4000000
namespace K56
open MM MP PySem
variable {W : Nat}
theorem getJ {a b : Int} {rest ex : St} {o : O} : (J a b :: (rest ++ o :: ex))[rest.length + 1]? = some o := by simp
theorem setJ {a b : Int} {rest ex : St} {o x : O} : (J a b :: (rest ++ o :: ex)).set (rest.length + 1) x = J a b :: (rest ++ x :: ex) := by simp
theorem NA.app {b : List (List Nat)} {o : List Nat} {s : Nat} (h : NA b o) (hs : ∃ p ∈ o, PM.Near (CC b) s p) : NA b (o ++ [s]) := by
  intro pre x post e hp
  rcases List.eq_nil_or_concat post with rfl | ⟨post', z, rfl⟩
  · obtain ⟨rfl, e4⟩ := List.append_inj' e rfl
    rw [List.cons.injEq] at e4
    rw [← e4.1]
    exact hs
  · have e6 : o ++ [s] = (pre ++ x :: post') ++ [z] := by rw [e]; simp
    obtain ⟨e7, _⟩ := List.append_inj' e6 rfl
    exact h pre x post' e7 hp
end K56

end

section
set_option maxRecDepth 100000
set_option maxHeartbeats 4000000
namespace K56
open MM MP PySem
variable {W : Nat}
theorem perm_map_inv {α β : Type} (f : α → β) : ∀ (l : List α) (ys : List β), ys.Perm (l.map f) → ∃ ps : List α, ys = ps.map f ∧ ps.Perm l
  | [], ys, h => ⟨[], by simpa using h, .refl _⟩
  | a :: l, ys, h => by
    have hm : f a ∈ ys := h.mem_iff.2 (by simp)
    obtain ⟨u, v, rfl⟩ := List.append_of_mem hm
    have h2 : (u ++ v).Perm (l.map f) := (List.perm_cons (f a)).1 (List.perm_middle.symm.trans (by simpa using h))
    obtain ⟨ps, e, hp⟩ := perm_map_inv f l _ h2
    obtain ⟨pu, pv, rfl, e1, e2⟩ := List.map_eq_append_iff.1 e.symm
    exact ⟨pu ++ a :: pv, by rw [← e1, ← e2]; simp, List.perm_middle.trans (hp.cons a)⟩
theorem cut_take {α : Type} (xs : List D) (n : Nat) : cutD xs none (some (n : Int)) = xs.take n := by
  rw [cutD, HT.sIx_none, HT.sIx_nat]
  simp [List.take_eq_take_iff]
theorem hung_map {C C' : Nat → Nat → Prop} {G G' : Nat → Prop} (f : Nat → Nat) (hG : ∀ y, G' y ↔ ∃ x, G x ∧ f x = y) (hN : ∀ x y, G x → G y → PM.Near C x y → PM.Near C' (f x) (f y)) (h : PM.Hung C G) : PM.Hung C' G' := by
  obtain ⟨⟨x, hx⟩, k⟩ := h
  refine ⟨⟨f x, (hG _).2 ⟨x, hx, rfl⟩⟩, ?_⟩
  rintro p ⟨u, hu, hp⟩ ⟨v, hv, hq⟩
  obtain ⟨u', hu', rfl⟩ := (hG u).1 hu
  obtain ⟨v', hv', rfl⟩ := (hG v).1 hv
  obtain ⟨a, b, ha, hb, hpa, hpb, hn⟩ := k (fun z => p (f z)) ⟨u', hu', hp⟩ ⟨v', hv', hq⟩
  exact ⟨f a, f b, (hG _).2 ⟨a, ha, rfl⟩, (hG _).2 ⟨b, hb, rfl⟩, hpa, hpb, hN a b ha hb hn⟩
theorem perm_idx {α : Type} {l l' : List α} (h : l.Perm l') : ∃ f : Nat → Nat, (∀ i, i < l.length → f i < l'.length ∧ l'[f i]? = l[i]?) ∧ (∀ i j, i < l.length → j < l.length → f i = f j → i = j) ∧ ∀ j, j < l'.length → ∃ i, i < l.length ∧ f i = j := by
  induction h with
  | nil => exact ⟨id, by simp, by simp, by simp⟩
  | @cons x l l' h ih =>
    obtain ⟨f, h1, h2, h3⟩ := ih
    refine ⟨fun i => match i with | 0 => 0 | i + 1 => f i + 1, ?_, ?_, ?_⟩
    · intro i hi
      cases i with
      | zero => simp
      | succ i =>
        have := h1 i (by simpa using hi)
        simpa using this
    · intro i j hi hj e
      cases i with
      | zero => cases j with
        | zero => rfl
        | succ j => simp at e
      | succ i => cases j with
        | zero => simp at e
        | succ j =>
          have := h2 i j (by simpa using hi) (by simpa using hj) (by simpa using e)
          rw [this]
    · intro j hj
      cases j with
      | zero => exact ⟨0, by simp, rfl⟩
      | succ j =>
        obtain ⟨i, hi, e⟩ := h3 j (by simpa using hj)
        exact ⟨i + 1, by simpa using hi, by simp [e]⟩
  | swap x y l =>
    refine ⟨fun i => match i with | 0 => 1 | 1 => 0 | i + 2 => i + 2, ?_, ?_, ?_⟩
    · intro i hi
      match i with
      | 0 => simp
      | 1 => simp
      | i + 2 => simpa using hi
    · intro i j hi hj e
      match i, j with
      | 0, 0 => rfl
      | 0, 1 => simp at e
      | 0, j + 2 => simp at e
      | 1, 0 => simp at e
      | 1, 1 => rfl
      | 1, j + 2 => simp at e
      | i + 2, 0 => simp at e
      | i + 2, 1 => simp at e
      | i + 2, j + 2 => simpa using e
    · intro j hj
      match j with
      | 0 => exact ⟨1, by simp, rfl⟩
      | 1 => exact ⟨0, by simp, rfl⟩
      | j + 2 => exact ⟨j + 2, by simpa using hj, rfl⟩
  | trans h h' ih ih' =>
    obtain ⟨f, h1, h2, h3⟩ := ih
    obtain ⟨g, g1, g2, g3⟩ := ih'
    refine ⟨fun i => g (f i), ?_, ?_, ?_⟩
    · intro i hi
      have a := h1 i hi
      have c := g1 (f i) a.1
      exact ⟨c.1, c.2.trans a.2⟩
    · intro i j hi hj e
      exact h2 i j hi hj (g2 _ _ (h1 i hi).1 (h1 j hj).1 e)
    · intro j hj
      obtain ⟨i, hi, e⟩ := g3 j hj
      obtain ⟨i', hi', e'⟩ := h3 i hi
      exact ⟨i', hi', by show g (f i') = j; rw [e', e]⟩
/-- a book hangs together -/
def HB (b : List (List Nat)) : Prop := PM.Hung (CC b) (· < b.length)
theorem HB.all {b : List (List Nat)} (h : HB b) : PM.Hung (CC b) (· ∈ allS b) := PM.hung_congr (fun y => by simp) h
theorem cols_get {b : List (List Nat)} {i : Nat} : cols b i = (b[i]?).getD [] := rfl
theorem HB.perm {b b' : List (List Nat)} (h : HB b) (hp : b.Perm b') : HB b' := by
  obtain ⟨f, h1, h2, h3⟩ := perm_idx hp
  have hl := hp.length_eq
  refine hung_map f (fun y => ⟨fun hy => ?_, ?_⟩) ?_ h
  · obtain ⟨i, hi, e⟩ := h3 y hy
    exact ⟨i, hi, e⟩
  · rintro ⟨x, hx, rfl⟩
    exact (h1 x hx).1
  · rintro x y hx hy ⟨hne, c, hc1, hc2⟩
    refine ⟨fun e => hne (h2 x y hx hy e), c, ?_, ?_⟩
    · show c ∈ cols b' (f x)
      rw [cols_get, (h1 x hx).2]
      exact hc1
    · show c ∈ cols b' (f y)
      rw [cols_get, (h1 y hy).2]
      exact hc2
/-- columns called otherwise -/
theorem HB.call {b b' : List (List Nat)} (h : HB b) (f : Nat → Nat) (hl : b'.length = b.length) (hc : ∀ i, i < b.length → ∀ c, c ∈ cols b i → f c ∈ cols b' i) : HB b' := by
  refine hung_map id (fun y => ?_) ?_ h
  · rw [hl]
    exact ⟨fun k => ⟨y, k, rfl⟩, fun ⟨x, hx, e⟩ => e ▸ hx⟩
  · rintro x y hx hy ⟨hne, c, hc1, hc2⟩
    exact ⟨hne, f c, hc x hx c hc1, hc y hy c hc2⟩
theorem cols_app_l {b d : List (List Nat)} {i : Nat} (h : i < b.length) : cols (b ++ d) i = cols b i := by
  rw [cols_get, cols_get, List.getElem?_append_left h]
theorem cols_app_r {b d : List (List Nat)} {i : Nat} : cols (b ++ d) (b.length + i) = cols d i := by
  rw [cols_get, cols_get, List.getElem?_append_right (by omega)]
  simp
theorem HB.app {b d : List (List Nat)} (hb : HB b) (hd : HB d) (h : ∃ i j c, i < b.length ∧ j < d.length ∧ c ∈ cols b i ∧ c ∈ cols d j) : HB (b ++ d) := by
  have h1 : PM.Hung (CC (b ++ d)) (· < b.length) := by
    refine hung_map id (fun y => ⟨fun k => ⟨y, k, rfl⟩, fun ⟨x, hx, e⟩ => e ▸ hx⟩) ?_ hb
    rintro x y hx hy ⟨hne, c, hc1, hc2⟩
    refine ⟨hne, c, ?_, ?_⟩
    · show c ∈ cols (b ++ d) x
      rw [cols_app_l hx]; exact hc1
    · show c ∈ cols (b ++ d) y
      rw [cols_app_l hy]; exact hc2
  have h2 : PM.Hung (CC (b ++ d)) (fun x => b.length ≤ x ∧ x < b.length + d.length) := by
    refine hung_map (fun x => b.length + x) (fun y => ⟨fun k => ⟨y - b.length, by omega, by omega⟩, fun ⟨x, hx, e⟩ => by omega⟩) ?_ hd
    rintro x y hx hy ⟨hne, c, hc1, hc2⟩
    refine ⟨by omega, c, ?_, ?_⟩
    · show c ∈ cols (b ++ d) (b.length + x)
      rw [cols_app_r]; exact hc1
    · show c ∈ cols (b ++ d) (b.length + y)
      rw [cols_app_r]; exact hc2
  obtain ⟨i, j, c, hi, hj, hc1, hc2⟩ := h
  have := PM.hung_join h1 h2 ⟨i, b.length + j, hi, ⟨by omega, by omega⟩, by omega, c, by show c ∈ cols _ _; rw [cols_app_l hi]; exact hc1, by show c ∈ cols _ _; rw [cols_app_r]; exact hc2⟩
  refine PM.hung_congr (fun y => ?_) this
  rw [List.length_append]
  omega
theorem HB.one (s : List Nat) : HB [s] := PM.hung_one (x := 0) fun y => by simp
/-- a list put in order -/
def srt (l : List Nat) : List Nat := (sortI (l.map Int.ofNat)).map Int.toNat
theorem srt_perm (l : List Nat) : (srt l).Perm l := by
  have := (sortI_perm (l.map Int.ofNat)).map Int.toNat
  rw [List.map_map] at this
  have e : (Int.toNat ∘ Int.ofNat) = id := by funext x; rfl
  rw [e, List.map_id] at this
  exact this
theorem srt_of (l : List Nat) : (sortI (l.map Int.ofNat)).map D.int = (srt l).map nI := by
  unfold srt
  rw [List.map_map]
  refine List.map_congr_left fun i hi => ?_
  obtain ⟨n, _, rfl⟩ := List.mem_map.1 ((sortI_perm _).mem_iff.1 hi)
  rfl
theorem srt_lt {l : List Nat} (h : l.Nodup) : (srt l).Pairwise (· < ·) := by
  have h1 := sortI_sorted (l.map Int.ofNat)
  have h2 : (srt l).Pairwise (· ≤ ·) := by
    unfold srt
    rw [List.pairwise_map]
    exact h1.imp fun k => Int.toNat_le_toNat k
  have h3 := (srt_perm l).nodup_iff.2 h
  exact h2.imp₂ (fun a b (p : a ≤ b) (q : a ≠ b) => Nat.lt_of_le_of_ne p q) h3
theorem sortD_srt (l : List Nat) : sortD (l.map nI) = some ((srt l).map nI) := by
  rw [sortD, asInts_nIs]
  show some ((sortI (l.map Int.ofNat)).map D.int) = _
  rw [srt_of]
/-- what is drawn as a scheme -/
structure Sch (s : List Nat) : Prop where
  up : s.Pairwise (· < ·)
  ne : s ≠ []
  len : s.length ≤ 8
  lt : ∀ c ∈ s, c < 24
theorem bk_of {b : List (List Nat)} (h1 : 1 ≤ b.length) (h2 : b.length ≤ 8) (h : ∀ s ∈ b, Sch s) : Bk b :=
  ⟨h1, h2, fun s hs => (h s hs).up, fun s hs => (h s hs).ne, fun s hs => (h s hs).len, fun s hs => (h s hs).lt⟩
theorem T_mixed_nat {k n : Nat} (hn : n ≤ 100) (a b : Int) (rest : St) : ∃ ps : List Nat, ps.Perm (List.range n) ∧ ∃ a' b', callE (callR fns W (k + 2)) i_law_mixed [.ref 0, .lst ((List.range n).map nI)] (J a b :: rest) = some (.lst (ps.map nI), J a' b' :: rest) := by
  obtain ⟨ys, hy, a', b', e⟩ := T_mixed (W := W) (k := k) (x := .lst ((List.range n).map nI)) (xs := (List.range n).map nI) a b rest (fun _ _ => rfl) (by simp; omega) (fun y hy => by obtain ⟨m, _, rfl⟩ := List.mem_map.1 hy; exact .inl rfl)
  obtain ⟨ps, rfl, hp⟩ := perm_map_inv nI _ _ hy
  exact ⟨ps, hp, a', b', e⟩
theorem T_scheme {k wide most : Nat} (hw : 1 ≤ wide) (hw2 : wide ≤ 24) (hm : 1 ≤ most) (hm2 : most ≤ 8) (a b : Int) (rest : St) : ∃ s a' b', callE (callR fns W (k + 3)) i_law_scheme [.ref 0, nI wide, nI most] (J a b :: rest) = some (tI s, J a' b' :: rest) ∧ s.Pairwise (· < ·) ∧ s ≠ [] ∧ s.length ≤ most ∧ ∀ c ∈ s, c < wide := by
  obtain ⟨ps, hp, a1, b1, e1⟩ := T_mixed_nat (W := W) (k := k) (n := wide) (by omega) a b rest
  obtain ⟨v, a2, b2, hv, e2⟩ := T_take (W := W) (k := k + 1) (top := most) (by omega) (by omega) a1 b1 rest
  have hnd : (ps.take (1 + v)).Nodup := (hp.nodup_iff.2 List.nodup_range).sublist (List.take_sublist _ _)
  have hpl := hp.length_eq
  rw [List.length_range] at hpl
  refine ⟨srt (ps.take (1 + v)), a2, b2, ?_, srt_lt hnd, ?_, ?_, ?_⟩
  · unfold callE
    rw [run_at (fn := m_law_scheme) rfl]
    have q1 : evS (callR fns W (k + 2)) W (.asg (.nm 3) (.slice (.call i_law_mixed (.cons (.var 0) (.cons (.frz (.comp (.one (.nm 4) (.rng1 (.var 1)) .nil (.var 4)))) .nil))) .none (.some (.bin .add (.con (.int 1)) (.call i_law_take (.cons (.var 0) (.cons (.var 2) .nil))))))) [some (.ref 0), some (nI wide), some (nI most), none, none] (J a b :: rest) =
        some (.next, [some (.ref 0), some (nI wide), some (nI most), some (.lst ((ps.take (1 + v)).map nI)), none], J a2 b2 :: rest) := by
      simp
      rw [eg_map nI (List.range wide) nI none (ei_rng1 _ _ _ _ _ _ (by simp) (by omega)) rfl (fun c _ => ⟨_, by simp; rfl, by simp⟩)]
      simp only [bnd_some, List.length_map, List.length_range]
      rw [if_pos (by simp only [cap]; omega)]
      simp [e1, e2, binD]
      rw [show (1 : Int) + (v : Int) = ((1 + v : Nat) : Int) by omega]
      simp only [sliceD, seq_lst, Option.map_some, liftO_some]
      rw [cut_take (α := D)]
    have : runF (callR fns W (k + 2)) W m_law_scheme [.ref 0, nI wide, nI most] (J a b :: rest) = some (tI (srt (ps.take (1 + v))), J a2 b2 :: rest) := by
      refine runF_ret (fn := m_law_scheme) (ρ' := [some (.ref 0), some (nI wide), some (nI most), some (.lst ((ps.take (1 + v)).map nI)), none]) rfl ?_
      show evSs _ _ (.cons _ _) [some (.ref 0), some (nI wide), some (nI most), none, none] (J a b :: rest) = _
      rw [ss_cons _ _ _ _ _ _ q1]
      simp [-List.map_take, sortD_srt, tI]
    rw [this]
    exact fin_J0 (by simp)
  · intro e
    have := (srt_perm (ps.take (1 + v))).length_eq
    rw [e, List.length_nil, List.length_take] at this
    omega
  · rw [(srt_perm _).length_eq, List.length_take]
    omega
  · intro c hc
    have h1 := (srt_perm _).mem_iff.1 hc
    exact List.mem_range.1 (hp.mem_iff.1 (List.mem_of_mem_take h1))
end K56

end

section
set_option maxRecDepth 100000
set_option maxHeartbeats 4000000
namespace K56
open MM MP PySem
/-- a book has a right plan -/
def HR (b : List (List Nat)) : Prop := ∃ t : PM.T, t.Right (CC b) ∧ ∀ x, t.In x ↔ x < b.length
theorem HR.hung {b : List (List Nat)} (h : HR b) : HB b := by
  obtain ⟨t, h1, h2⟩ := h
  exact PM.hung_congr h2 (PM.right_hung t h1)
theorem HR.one (s : List Nat) : HR [s] := ⟨.leaf 0, trivial, fun x => by simp [PM.T.In]⟩
theorem HR.lead {b b' : List (List Nat)} (h : HR b) (f g : Nat → Nat) (hf : ∀ i, i < b.length → f i < b'.length) (hs : ∀ j, j < b'.length → ∃ i, i < b.length ∧ f i = j) (hfi : ∀ i j, i < b.length → j < b.length → f i = f j → i = j)
    (hc : ∀ i, i < b.length → ∀ c', c' ∈ cols b' (f i) ↔ ∃ c, c ∈ cols b i ∧ g c = c') (hg : ∀ i j c d, i < b.length → j < b.length → c ∈ cols b i → d ∈ cols b j → g c = g d → c = d) : HR b' := by
  obtain ⟨t, h1, h2⟩ := h
  refine ⟨t.map f, PM.right_map f g t h1 (fun x y hx hy => hfi x y ((h2 x).1 hx) ((h2 y).1 hy)) (fun x hx => hc x ((h2 x).1 hx)) fun x y c d hx hy => hg x y c d ((h2 x).1 hx) ((h2 y).1 hy), fun y => ?_⟩
  rw [PM.in_map]
  constructor
  · rintro ⟨x, hx, rfl⟩
    exact hf x ((h2 x).1 hx)
  · intro hy
    obtain ⟨i, hi, e⟩ := hs y hy
    exact ⟨i, (h2 i).2 hi, e⟩
theorem HR.perm {b b' : List (List Nat)} (h : HR b) (hp : b.Perm b') : HR b' := by
  obtain ⟨f, h1, h2, h3⟩ := perm_idx hp
  refine h.lead f id (fun i hi => (h1 i hi).1) h3 h2 (fun i hi c' => ?_) fun i j c d _ _ _ _ e => e
  rw [cols_get, (h1 i hi).2]
  exact ⟨fun k => ⟨c', k, rfl⟩, fun ⟨c, hc, e⟩ => e ▸ hc⟩
/-- columns called otherwise, unlike ones unlike -/
theorem HR.call {b b' : List (List Nat)} (h : HR b) (g : Nat → Nat) (hl : b'.length = b.length) (hc : ∀ i, i < b.length → ∀ c', c' ∈ cols b' i ↔ ∃ c, c ∈ cols b i ∧ g c = c') (hg : ∀ i j c d, i < b.length → j < b.length → c ∈ cols b i → d ∈ cols b j → g c = g d → c = d) : HR b' :=
  h.lead id g (fun i hi => by rw [hl]; exact hi) (fun j hj => ⟨j, by rw [← hl]; exact hj, rfl⟩) (fun _ _ _ _ e => e) hc hg
/-- two books glued at some columns that each source has all of or none -/
theorem HR.app {b d : List (List Nat)} (hb : HR b) (hd : HR d) (V : Nat → Prop) (hV : ∀ i j c, i < b.length → j < d.length → c ∈ cols b i → c ∈ cols d j → V c)
    (ab : ∀ i, i < b.length → ∀ c c0, V c → V c0 → c0 ∈ cols b i → c ∈ cols b i) (ad : ∀ j, j < d.length → ∀ c c0, V c → V c0 → c0 ∈ cols d j → c ∈ cols d j)
    (h : ∃ i j c, i < b.length ∧ j < d.length ∧ c ∈ cols b i ∧ c ∈ cols d j) : HR (b ++ d) := by
  obtain ⟨t1, r1, m1⟩ := hb
  obtain ⟨t2, r2, m2⟩ := hd
  have in2 : ∀ y, (t2.map (b.length + ·)).In y ↔ b.length ≤ y ∧ y < b.length + d.length := fun y => by
    rw [PM.in_map]
    constructor
    · rintro ⟨x, hx, rfl⟩
      have := (m2 x).1 hx
      omega
    · rintro ⟨h1, h2⟩
      exact ⟨y - b.length, (m2 _).2 (by omega), by omega⟩
  have c1 : ∀ i, i < b.length → ∀ c, CC (b ++ d) i c ↔ c ∈ cols b i := fun i hi c => by
    show c ∈ cols (b ++ d) i ↔ _
    rw [cols_app_l hi]
  have c2 : ∀ j c, CC (b ++ d) (b.length + j) c ↔ c ∈ cols d j := fun j c => by
    show c ∈ cols (b ++ d) (b.length + j) ↔ _
    rw [cols_app_r]
  refine ⟨.fork t1 (t2.map (b.length + ·)), ⟨?_, ?_, ?_, ?_⟩, fun x => ?_⟩
  · have := PM.right_map (C' := CC (b ++ d)) id id t1 r1 (fun _ _ _ _ e => e) (fun x hx c' => ⟨fun k => ⟨c', (c1 x ((m1 x).1 hx) c').1 k, rfl⟩, fun ⟨c, hc, e⟩ => (c1 x ((m1 x).1 hx) c').2 (e ▸ hc)⟩) fun _ _ _ _ _ _ _ _ e => e
    have e : t1.map id = t1 := by
      clear r1 m1 this
      induction t1 with
      | leaf x => rfl
      | fork l r ih1 ih2 => rw [PM.T.map, ih1, ih2]
    rwa [e] at this
  · exact PM.right_map (C' := CC (b ++ d)) (b.length + ·) id t2 r2 (fun x y _ _ e => Nat.add_left_cancel e) (fun x hx c' => ⟨fun k => ⟨c', (c2 x c').1 k, rfl⟩, fun ⟨c, hc, e⟩ => (c2 x c').2 (e ▸ hc)⟩) fun _ _ _ _ _ _ _ _ e => e
  · intro x h1 h2
    have := (m1 x).1 h1
    have := (in2 x).1 h2
    omega
  · obtain ⟨i, j, c, hi, hj, h1, h2⟩ := h
    refine ⟨⟨i, b.length + j, (m1 i).2 hi, (in2 _).2 ⟨by omega, by omega⟩, by omega, c, (c1 i hi c).2 h1, (c2 j c).2 h2⟩, ?_⟩
    rintro x y hx hy ⟨_, c0, h3, h4⟩ e ⟨u, hu, hue⟩ ⟨v, hv, hve⟩
    have kx := (m1 x).1 hx
    have ku := (m1 u).1 hu
    have ky := (in2 y).1 hy
    have kv := (in2 v).1 hv
    have ey : y = b.length + (y - b.length) := by omega
    have ev : v = b.length + (v - b.length) := by omega
    rw [ey] at h4 ⊢
    rw [ev] at hve
    have v0 := hV x (y - b.length) c0 kx (by omega) ((c1 x kx c0).1 h3) ((c2 _ c0).1 h4)
    have ve := hV u (v - b.length) e ku (by omega) ((c1 u ku e).1 hue) ((c2 _ e).1 hve)
    exact ⟨(c1 x kx e).2 (ab x kx e c0 ve v0 ((c1 x kx c0).1 h3)), (c2 _ e).2 (ad _ (by omega) e c0 ve v0 ((c2 _ c0).1 h4))⟩
  · show t1.In x ∨ (t2.map (b.length + ·)).In x ↔ _
    rw [m1, in2, List.length_append]
    omega
end K56

end

section
set_option maxRecDepth 100000
set_option maxHeartbeats 4000000
namespace K56
open MM MP PySem
variable {W : Nat}
/-- with a scheme more that has a column of one of them -/
theorem HB.snoc {b : List (List Nat)} {s : List Nat} (h : HB b) (hs : ∃ t ∈ b, ∃ c, c ∈ t ∧ c ∈ s) : HB (b ++ [s]) := by
  obtain ⟨t, ht, c, hc1, hc2⟩ := hs
  obtain ⟨i, hi, e⟩ := List.getElem_of_mem ht
  refine h.app (HB.one s) ⟨i, 0, c, hi, by simp, ?_, by simpa [cols] using hc2⟩
  rw [cols_get, List.getElem?_eq_getElem hi, e]
  exact hc1
theorem T_hungbook {k most : Nat} (hm1 : 1 ≤ most) (hm2 : most ≤ 7) (a b : Int) (rest : St) : ∃ B a' b', callE (callR fns W (k + 4)) i_law_hung_book [.ref 0, nI most, nI 6] (J a b :: rest) = some (bk B, J a' b' :: rest) ∧ B ≠ [] ∧ B.length ≤ most ∧ (∀ s ∈ B, Sch s) ∧ HB B := by
  obtain ⟨s0, a1, b1, e1, u1, u2, u3, u4⟩ := T_scheme (W := W) (k := k) (wide := 6) (most := 3) (by omega) (by omega) (by omega) (by omega) a b rest
  obtain ⟨v, a2, b2, hv, e2⟩ := T_take (W := W) (k := k + 2) (top := most) (by omega) (by omega) a1 b1 (rest ++ [.lst ([s0].map tI)])
  have hs0 : Sch s0 := ⟨u1, u2, by omega, fun c hc => by have := u4 c hc; omega⟩
  have q1 : evS (callR fns W (k + 3)) W (.asg (.nm 3) (.new (.disp (.cons (.call i_law_scheme (.cons (.var 0) (.cons (.var 2) (.cons (.con (.int 3)) .nil)))) .nil)))) [some (.ref 0), some (nI most), some (nI 6), none, none, none] (J a b :: rest) =
      some (.next, [some (.ref 0), some (nI most), some (nI 6), some (.ref (rest.length + 1)), none, none], J a1 b1 :: (rest ++ [.lst ([s0].map tI)])) := by
    have : callE (callR fns W (k + 3)) i_law_scheme [.ref 0, nI 6, .int 3] (J a b :: rest) = some (tI s0, J a1 b1 :: rest) := e1
    simp [this]
  have q2 : evIt (callR fns W (k + 3)) (.rng1 (.call i_law_take (.cons (.var 0) (.cons (.var 1) .nil)))) [some (.ref 0), some (nI most), some (nI 6), some (.ref (rest.length + 1)), none, none] (J a1 b1 :: (rest ++ [.lst ([s0].map tI)])) = some (((List.range v).map nI, none), J a2 b2 :: (rest ++ [.lst ([s0].map tI)])) := by
    refine ei_rng1 _ _ _ _ _ _ ?_ (by omega)
    have : callE (callR fns W (k + 3)) i_law_take [.ref 0, nI most] (J a1 b1 :: (rest ++ [.lst ([s0].map tI)])) = some (nI v, J a2 b2 :: (rest ++ [.lst ([s0].map tI)])) := e2
    simp only [ev_call', evs_cons, evs_nil, ev_var]
    simp [-List.map_cons]
    exact this
  have := for_rule (src := none) (f := bodyF (callR fns W (k + 3)) W (.nm 4) (.cons (.asg (.nm 5) (.call i_law_one (.cons (.var 0) (.cons (.call i_law_one (.cons (.var 0) (.cons (.var 3) .nil))) .nil))))
    (.cons (.app (.var 3) (.call i_law_rising (.cons (.frz (.disp (.cons (.frz (.disp (.cons (.var 5) .nil))) (.cons (.call i_law_scheme (.cons (.var 0) (.cons (.var 2) (.cons (.con (.int 2)) .nil)))) .nil)))) .nil)))
    .nil))) nI
      (fun is ρ st' => ∃ (a' b' : Int) (B : List (List Nat)) (o4 o5 : Option D), ρ = [some (.ref 0), some (nI most), some (nI 6), some (.ref (rest.length + 1)), o4, o5] ∧ st' = J a' b' :: (rest ++ [.lst (B.map tI)]) ∧ B ≠ [] ∧ B.length + is.length ≤ most ∧ (∀ s ∈ B, Sch s) ∧ HB B)
      (fun fl ρ st' => ∃ (a' b' : Int) (B : List (List Nat)) (o4 o5 : Option D), fl = .next ∧ ρ = [some (.ref 0), some (nI most), some (nI 6), some (.ref (rest.length + 1)), o4, o5] ∧ st' = J a' b' :: (rest ++ [.lst (B.map tI)]) ∧ B ≠ [] ∧ B.length ≤ most ∧ (∀ s ∈ B, Sch s) ∧ HB B)
      ?_ ?_ (List.range v) [some (.ref 0), some (nI most), some (nI 6), some (.ref (rest.length + 1)), none, none] (J a2 b2 :: (rest ++ [.lst ([s0].map tI)])) ⟨a2, b2, [s0], none, none, rfl, rfl, by simp, by simp; omega, by simpa using hs0, HB.one s0⟩
  · obtain ⟨fl, ρ', st', h1, a', b', B, o4, o5, rfl, rfl, rfl, h2, h3, h4, h5⟩ := this
    refine ⟨B, a', b', ?_, h2, h3, h4, h5⟩
    unfold callE
    rw [run_at (fn := m_law_hung_book) rfl]
    have : runF (callR fns W (k + 3)) W m_law_hung_book [.ref 0, nI most, nI 6] (J a b :: rest) = some (bk B, J a' b' :: (rest ++ [.lst (B.map tI)])) := by
      refine runF_ret (fn := m_law_hung_book) (ρ' := [some (.ref 0), some (nI most), some (nI 6), some (.ref (rest.length + 1)), o4, o5]) rfl ?_
      show evSs _ _ (.cons _ _) [some (.ref 0), some (nI most), some (nI 6), none, none, none] (J a b :: rest) = _
      rw [ss_cons _ _ _ _ _ _ q1, ss_cons (ρ' := [some (.ref 0), some (nI most), some (nI 6), some (.ref (rest.length + 1)), o4, o5]) (st' := J a' b' :: (rest ++ [.lst (B.map tI)])) _ _ _ _ _ _ (by rw [s_for, q2]; exact h1)]
      simp
      rfl
    rw [this]
    exact fin_J (by simp)
  · rintro ρ st' ⟨a', b', B, o4, o5, rfl, rfl, h1, h2, h3, h4⟩
    exact ⟨rfl, a', b', B, o4, o5, rfl, rfl, rfl, h1, by simpa using h2, h3, h4⟩
  · rintro i is ρ st' ⟨a', b', B, o4, o5, rfl, rfl, h1, h2, h3, h4⟩
    simp only [List.length_cons] at h2
    obtain ⟨d, hd, a3, b3, e3⟩ := T_one (W := W) (k := k + 1) (x := .ref (rest.length + 1)) (xs := B.map tI) a' b' (rest ++ [.lst (B.map tI)]) (fun a b => by simp) (by simpa using h1) (by simp; omega) (fun y hy => by obtain ⟨n, _, rfl⟩ := List.mem_map.1 hy; simp)
    obtain ⟨t, ht, rfl⟩ := List.mem_map.1 hd
    have hT := h3 t ht
    have hTl := hT.len
    obtain ⟨d, hd, a4, b4, e4⟩ := T_one (W := W) (k := k + 1) (x := tI t) (xs := t.map nI) a3 b3 (rest ++ [.lst (B.map tI)]) (fun a b => rfl) (by simpa using hT.ne) (by simp; omega) (fun y hy => by obtain ⟨n, _, rfl⟩ := List.mem_map.1 hy; rfl)
    obtain ⟨c, hc, rfl⟩ := List.mem_map.1 hd
    obtain ⟨s, a5, b5, e5, w1, w2, w3, w4⟩ := T_scheme (W := W) (k := k) (wide := 6) (most := 2) (by omega) (by omega) (by omega) (by omega) a4 b4 (rest ++ [.lst (B.map tI)])
    have hq : ∀ p ∈ [((.lst [nI c] : D), [c]), (tI s, s)], ∀ c ∈ p.2, c < 24 := by
      simp
      exact ⟨hT.lt c hc, fun x hx => by have := w4 x hx; omega⟩
    have e6 := S_rs (W := W) (k := k + 2) (ls := [(.lst [nI c], [c]), (tI s, s)]) (by simp [IsNs]) (by simp; exact nodup_of_lt w1) hq
    obtain ⟨R, hR⟩ : ∃ R, R = rs [((.lst [nI c] : D), [c]), (tI s, s)] := ⟨_, rfl⟩
    have hmem : ∀ z, z ∈ R ↔ z = c ∨ z ∈ s := fun z => by
      rw [hR, mem_rs hq]
      simp
    have hRs : Sch R := by
      refine ⟨by rw [hR]; exact ups_lt _ _, List.ne_nil_of_mem ((hmem c).2 (.inl rfl)), ?_, ?_⟩
      · have := nodup_len (m := R) (g := c :: s) (by rw [hR]; exact nodup_of_lt (ups_lt _ _)) fun z hz => by
          rw [List.mem_cons]; exact (hmem z).1 hz
        rw [List.length_cons] at this
        omega
      · intro z hz
        rcases (hmem z).1 hz with rfl | k
        · exact hT.lt z hc
        · have := w4 z k; omega
    rw [← hR] at e6
    refine ⟨rfl, .inl ⟨[some (.ref 0), some (nI most), some (nI 6), some (.ref (rest.length + 1)), some (nI i), some (nI c)], J a5 b5 :: (rest ++ [.lst ((B ++ [R]).map tI)]), ?_, a5, b5, B ++ [R], _, _, rfl, rfl, by simp, by simp; omega, ?_, h4.snoc ⟨t, ht, c, hc, (hmem c).2 (.inl rfl)⟩⟩⟩
    · have e5' : callE (callR fns W (k + 3)) i_law_scheme [.ref 0, nI 6, .int 2] (J a4 b4 :: (rest ++ [.lst (B.map tI)])) = some (tI s, J a5 b5 :: (rest ++ [.lst (B.map tI)])) := e5
      simp [bodyF, e3, e4, e5']
      have e6' := e6.call (J a5 b5 :: (rest ++ [.lst (B.map tI)]))
      simp at e6'
      rw [e6']
      simp
      rw [if_pos (by simp only [cap]; omega)]
      simp
    · intro z hz
      rw [List.mem_append, List.mem_singleton] at hz
      exact hz.elim (h3 z) fun e => e ▸ hRs
end K56

end

section
set_option maxRecDepth 100000
set_option maxHeartbeats 4000000
namespace K56
open MM MP PySem
variable {W : Nat}
/-- a book as a list -/
abbrev bl (b : List (List Nat)) : D := .lst (b.map tI)
theorem idx_bl {st : St} {b : List (List Nat)} {i : Nat} (h : i < b.length) : idxD st (bl b) (.int (i : Int)) = some (tI (cols b i)) :=
  idx_seq (xs := b.map tI) rfl (by rw [List.getElem?_map, List.getElem?_eq_getElem h, cols_get, List.getElem?_eq_getElem h]; rfl)
def fel (b : List (List Nat)) (c : Nat) : List Nat := (List.range b.length).filter fun j => decide (c ∈ cols b j)
abbrev rD (p : Nat × List Nat) : D := .tup [nI p.1, tI p.2]
def rows (b : List (List Nat)) (i : Nat) : List (Nat × List Nat) := (cols b i).map fun c => (c, fel b c)
theorem clean_rDs (l : List (Nat × List Nat)) : cleans (l.map rD) = true := by rw [cleans_iff]; intro x h; obtain ⟨p, _, rfl⟩ := List.mem_map.1 h; simp
theorem S_fellow {k i : Nat} {b : List (List Nat)} (hb : b.length ≤ 8) (hi : i < b.length) (hl : (cols b i).length ≤ 8) : PurL (callR fns W (k + 1)) i_law_fellow_columns [bl b, nI i] ((rows b i).map rD) := by
  refine ⟨pures_of_cleans _ (clean_rDs _), fun st => ⟨st.length, [.lst ((rows b i).map rD)], ?_, Nat.le_refl _, by simp⟩⟩
  rw [run_at (fn := m_law_fellow_columns) rfl]
  refine runF_ret (fn := m_law_fellow_columns) (ρ' := [some (bl b), some (nI i), none, none]) rfl ?_
  show evSs _ _ (.cons _ _) [some (bl b), some (nI i), none, none] st = _
  rw [ss_step, s_ret, ev_new, el_comp]
  rw [eg_map nI (cols b i) (fun c => rD (c, fel b c)) none (by simp [idx_bl hi]) rfl (fun c _ => ⟨[some (bl b), some (nI i), none, some (nI c)], by simp, by
    simp
    rw [eg_fil nI (List.range b.length) (fun j => decide (c ∈ cols b j)) nI none (ei_rng1 _ _ _ _ _ _ (by simp) (by omega)) rfl (fun j hj => ⟨_, by simp; rfl, by rw [et_one]; simp [idx_bl (List.mem_range.1 hj), cmpD], by simp⟩)]
    have := List.length_filter_le (fun j => decide (c ∈ cols b j)) (List.range b.length)
    rw [List.length_range] at this
    simp only [bnd_some, List.length_map]
    rw [if_pos (by simp only [cap]; omega)]
    rfl⟩)]
  simp only [bnd_some, List.length_map]
  rw [if_pos (by simp only [cap]; exact decide_eq_true (by omega))]
  simp [rows]
theorem T_same {k : Nat} {b : List (List Nat)} (hb : b.length ≤ 8) (hne : b ≠ []) (hs : ∀ s ∈ b, s ≠ [] ∧ s.Nodup ∧ s.length ≤ 8) (x y : Int) (rest : St) :
    ∃ cs x' y', callE (callR fns W (k + 3)) i_law_same_columns [.ref 0, bl b] (J x y :: rest) = some (.lst (cs.map nI), J x' y' :: rest) ∧ cs ≠ [] ∧ cs.Nodup ∧ cs.length ≤ 8 ∧ (∀ j, j < b.length → ∀ c ∈ cs, ∀ c0 ∈ cs, c0 ∈ cols b j → c ∈ cols b j) ∧ ∃ i, i < b.length ∧ ∀ c ∈ cs, c ∈ cols b i := by
  have hpos := List.length_pos_iff.2 hne
  obtain ⟨i, x1, y1, hi, e1⟩ := T_take (W := W) (k := k + 1) (top := b.length) (by omega) (by omega) x y rest
  obtain ⟨c1, c2, c3⟩ := hs (cols b i) (cols_mem hi)
  have e2 := (S_fellow (W := W) (k := k + 1) hb hi c3).call (J x1 y1 :: rest)
  have hrl : (rows b i).length = (cols b i).length := by simp [rows]
  obtain ⟨d, hd, x2, y2, e3⟩ := T_one (W := W) (k := k) (x := .lst ((rows b i).map rD)) (xs := (rows b i).map rD) x1 y1 rest (fun _ _ => rfl) (by simp [rows]; exact c1) (by simp; omega) (fun z hz => (pures_iff _).1 (pures_of_cleans _ (clean_rDs (rows b i))) z hz)
  obtain ⟨p, hp, rfl⟩ := List.mem_map.1 hd
  obtain ⟨c0, hc0, rfl⟩ := List.mem_map.1 (show p ∈ (cols b i).map fun c => (c, fel b c) from hp)
  obtain ⟨F, hF⟩ : ∃ F, F = (rows b i).filter fun r => decide (r.2 = fel b c0) := ⟨_, rfl⟩
  have hFl : F.length ≤ 8 := by
    rw [hF]
    have := List.length_filter_le (fun r : Nat × List Nat => decide (r.2 = fel b c0)) (rows b i)
    omega
  have hF1 : F.map (·.1) = (cols b i).filter fun c => decide (fel b c = fel b c0) := by
    rw [hF, rows, List.filter_map, List.map_map]
    have : ((fun x : Nat × List Nat => x.1) ∘ fun c => (c, fel b c)) = id := rfl
    rw [this, List.map_id]
    rfl
  obtain ⟨ys, hy, x3, y3, e4⟩ := T_mixed (W := W) (k := k) (x := .lst ((F.map (·.1)).map nI)) (xs := (F.map (·.1)).map nI) x2 y2 rest (fun _ _ => rfl) (by simp; omega) (fun y hy => by obtain ⟨m, _, rfl⟩ := List.mem_map.1 hy; exact .inl rfl)
  obtain ⟨ps, rfl, hps⟩ := perm_map_inv nI _ _ hy
  have hc0F : c0 ∈ F.map (·.1) := by rw [hF1, List.mem_filter]; simp [hc0]
  have hpl := hps.length_eq
  rw [List.length_map] at hpl
  have hppos := List.length_pos_of_mem (hps.mem_iff.2 hc0F)
  obtain ⟨v, x4, y4, hv, e5⟩ := T_take (W := W) (k := k + 1) (top := ps.length) (by omega) (by omega) x3 y3 rest
  have hsame : ∀ c ∈ ps.take (1 + v), fel b c = fel b c0 := by
    intro c hc
    have := hps.mem_iff.1 (List.mem_of_mem_take hc)
    rw [hF1] at this
    simpa using (List.mem_filter.1 this).2
  refine ⟨ps.take (1 + v), x4, y4, ?_, ?_, ?_, ?_, ?_, i, hi, ?_⟩
  · unfold callE
    rw [run_at (fn := m_law_same_columns) rfl]
    have q1 : evS (callR fns W (k + 2)) W (.asg (.nm 2) (.call i_law_fellow_columns (.cons (.var 1) (.cons (.call i_law_take (.cons (.var 0) (.cons (.len (.var 1)) .nil))) .nil)))) [some (.ref 0), some (bl b), none, none, none, none] (J x y :: rest) =
        some (.next, [some (.ref 0), some (bl b), some (.lst ((rows b i).map rD)), none, none, none], J x1 y1 :: rest) := by
      simp [e1, e2]
    have q2 : evS (callR fns W (k + 2)) W (.asg (.nm 3) (.call i_law_one (.cons (.var 0) (.cons (.var 2) .nil)))) [some (.ref 0), some (bl b), some (.lst ((rows b i).map rD)), none, none, none] (J x1 y1 :: rest) =
        some (.next, [some (.ref 0), some (bl b), some (.lst ((rows b i).map rD)), some (rD (c0, fel b c0)), none, none], J x2 y2 :: rest) := by
      simp [e3]
    have q3 : evS (callR fns W (k + 2)) W (.asg (.nm 4) (.call i_law_mixed (.cons (.var 0) (.cons (.frz (.comp (.one (.nm 5) (.seq (.var 2)) (.cons (.cmp .eq (.idx (.var 5) (.con (.int 1))) (.idx (.var 3) (.con (.int 1)))) .nil) (.idx (.var 5) (.con (.int 0)))))) .nil)))) [some (.ref 0), some (bl b), some (.lst ((rows b i).map rD)), some (rD (c0, fel b c0)), none, none] (J x2 y2 :: rest) =
        some (.next, [some (.ref 0), some (bl b), some (.lst ((rows b i).map rD)), some (rD (c0, fel b c0)), some (.lst (ps.map nI)), none], J x3 y3 :: rest) := by
      simp
      rw [eg_fil rD (rows b i) (fun r => decide (r.2 = fel b c0)) (fun r => nI r.1) none (by simp) rfl (fun r hr => ⟨[some (.ref 0), some (bl b), some (.lst ((rows b i).map rD)), some (rD (c0, fel b c0)), none, some (rD r)], by simp, by rw [et_one]; simp [cmpD], by simp⟩)]
      rw [← hF]
      simp only [bnd_some, List.length_map]
      rw [if_pos (by simp only [cap]; omega)]
      rw [List.map_map] at e4
      have : (nI ∘ fun x : Nat × List Nat => x.1) = fun r => nI r.1 := rfl
      rw [this] at e4
      simp [e4]
    have : runF (callR fns W (k + 2)) W m_law_same_columns [.ref 0, bl b] (J x y :: rest) = some (.lst ((ps.take (1 + v)).map nI), J x4 y4 :: rest) := by
      refine runF_ret (fn := m_law_same_columns) (ρ' := [some (.ref 0), some (bl b), some (.lst ((rows b i).map rD)), some (rD (c0, fel b c0)), some (.lst (ps.map nI)), none]) rfl ?_
      show evSs _ _ (.cons _ _) [some (.ref 0), some (bl b), none, none, none, none] (J x y :: rest) = _
      rw [ss_cons _ _ _ _ _ _ q1, ss_cons _ _ _ _ _ _ q2, ss_cons _ _ _ _ _ _ q3]
      simp [e5, binD]
      rw [show (1 : Int) + (v : Int) = ((1 + v : Nat) : Int) by omega]
      simp only [sliceD, seq_lst, Option.map_some, liftO_some]
      rw [cut_take (α := D)]
      simp [List.map_take]
    rw [this]
    exact fin_J0 (by simp [-List.map_take])
  · intro e
    have := congrArg List.length e
    rw [List.length_take, List.length_nil] at this
    omega
  · have : (F.map (·.1)).Nodup := by rw [hF1]; exact c2.filter _
    exact (hps.nodup_iff.2 this).sublist (List.take_sublist _ _)
  · rw [List.length_take]; omega
  · intro j hj c hc c1 hc1 hin
    have e := (hsame c1 hc1).trans (hsame c hc).symm
    have : j ∈ fel b c1 := by
      unfold fel
      rw [List.mem_filter]
      exact ⟨List.mem_range.2 hj, by simpa using hin⟩
    rw [e] at this
    unfold fel at this
    simpa using (List.mem_filter.1 this).2
  · intro c hc
    have := hps.mem_iff.1 (List.mem_of_mem_take hc)
    rw [hF1] at this
    exact (List.mem_filter.1 this).1
/-! ### columns called otherwise -/
def rn (ps : List (Nat × Nat)) (c : Nat) : Nat := ((ps.find? fun p => decide (p.1 = c)).map (·.2)).getD c
abbrev kvD (p : Nat × Nat) : D × D := (nI p.1, nI p.2)
theorem beq_nI (a b : Nat) : D.beq (nI a) (nI b) = decide (a = b) := by
  rw [beq_dec]
  exact decide_eq_decide.2 nI_inj
theorem pairs_pI : ∀ ps : List (Nat × Nat), pairsOf (ps.map pI) = some (ps.map kvD)
  | [] => rfl
  | p :: ps => by rw [List.map_cons, pairsOf, pairs_pI ps]; rfl
theorem get_kv (c : Nat) : ∀ ps : List (Nat × Nat), getKv (nI c) (ps.map kvD) = (ps.find? fun p => decide (p.1 = c)).map fun p => nI p.2
  | [] => rfl
  | p :: ps => by
    rw [List.map_cons, getKv, get_kv c ps, beq_nI, List.find?_cons]
    by_cases h : p.1 = c <;> simp [h]
theorem put_kv : ∀ (ps acc : List (Nat × Nat)), ((acc ++ ps).map (·.1)).Nodup → (ps.map kvD).foldl (fun kvs p => putKv p.1 p.2 kvs) (acc.map kvD) = (acc ++ ps).map kvD
  | [], acc, _ => by simp
  | p :: ps, acc, h => by
    have hn : ∀ q ∈ acc, q.1 ≠ p.1 := by
      intro q hq e
      rw [List.map_append, List.nodup_append] at h
      exact h.2.2 q.1 (List.mem_map.2 ⟨q, hq, rfl⟩) p.1 (by simp) e
    have e : putKv (nI p.1) (nI p.2) (acc.map kvD) = (acc ++ [p]).map kvD := by
      unfold putKv
      rw [if_neg]
      · simp
      · rw [Bool.not_eq_true, List.any_eq_false]
        intro z hz
        obtain ⟨q, hq, rfl⟩ := List.mem_map.1 hz
        rw [beq_nI]
        simpa using hn q hq
    rw [List.map_cons, List.foldl_cons, e, put_kv ps (acc ++ [p]) (by simpa using h)]
    simp
theorem S_called {k : Nat} {b : List (List Nat)} {ps : List (Nat × Nat)} (hb : b.length ≤ 8) (hs : ∀ s ∈ b, s.length ≤ 8) (hn : (ps.map (·.1)).Nodup) : PurL (callR fns W (k + 1)) i_law_called [bl b, .lst (ps.map pI)] ((b.map fun s => srt (s.map (rn ps))).map tI) := by
  refine ⟨pures_of_cleans _ (clean_tIs _), fun st => ⟨st.length + 1, [.dct (ps.map kvD), .lst ((b.map fun s => srt (s.map (rn ps))).map tI)], ?_, Nat.le_succ _, by simp⟩⟩
  rw [run_at (fn := m_law_called) rfl]
  have q1 : evS (callR fns W k) W (.asg (.nm 2) (.dictOf (.var 1))) [some (bl b), some (.lst (ps.map pI)), none, none, none] st = some (.next, [some (bl b), some (.lst (ps.map pI)), some (.ref st.length), none, none], st ++ [.dct (ps.map kvD)]) := by
    have h1 : ((ps.map kvD).all fun p => isKey p.1) = true := by
      rw [List.all_eq_true]
      intro z hz
      obtain ⟨q, hq, rfl⟩ := List.mem_map.1 hz
      rfl
    have h2 := put_kv ps [] (by simpa using hn)
    simp only [List.map_nil, List.nil_append] at h2
    rw [s_asg, ev_dictOf]
    simp only [ev_var]
    simp [-List.map_map]
    rw [pairs_pI]
    dsimp only
    rw [if_pos h1, h2]
  refine runF_ret (fn := m_law_called) (ρ' := [some (bl b), some (.lst (ps.map pI)), some (.ref st.length), none, none]) rfl ?_
  show evSs _ _ (.cons _ _) [some (bl b), some (.lst (ps.map pI)), none, none, none] st = _
  rw [ss_cons _ _ _ _ _ _ q1]
  rw [ss_step, s_ret, ev_new, el_comp]
  rw [eg_map tI b (fun s => tI (srt (s.map (rn ps)))) none (by simp) rfl (fun s hsb => ⟨[some (bl b), some (.lst (ps.map pI)), some (.ref st.length), none, some (tI s)], by simp, by
    have hsl := hs s hsb
    simp only [ev_tupL, el_srtL, el_comp]
    rw [eg_map nI s (fun c => nI (rn ps c)) none (by simp) rfl (fun c _ => ⟨_, by simp; rfl, by
      simp [isDc, getD2, isKey, get_kv, rn]
      cases ps.find? fun p => decide (p.1 = c) <;> rfl⟩)]
    rw [show (s.map fun c => nI (rn ps c)) = (s.map (rn ps)).map nI by rw [List.map_map]; rfl]
    simp only [bnd_some, List.length_map]
    rw [if_pos (by simp only [cap]; exact decide_eq_true (by omega))]
    simp only [bnd_some]
    rw [sortD_srt]
    rfl⟩)]
  simp only [bnd_some, List.length_map]
  rw [if_pos (by simp only [cap]; exact decide_eq_true (by omega))]
  simp
end K56

end

section
set_option maxRecDepth 100000
set_option maxHeartbeats 4000000
namespace K56
open MM MP PySem
variable {W : Nat}
/-- schemes of a glued book -/
structure GS (lo hi : Nat) (s : List Nat) : Prop where
  up : s.Pairwise (· < ·)
  ne : s ≠ []
  len : s.length ≤ 3
  lt : ∀ c ∈ s, lo ≤ c ∧ c < hi
theorem fst_zip : ∀ (a b : List Nat), ((a.zip b).map (·.1)).Sublist a
  | [], _ => by simp
  | _ :: _, [] => by simp
  | x :: a, y :: b => by
    rw [List.zip_cons_cons, List.map_cons]
    exact (fst_zip a b).cons_cons x
theorem snd_zip : ∀ (a b : List Nat), ((a.zip b).map (·.2)).Sublist b
  | [], b => by simp
  | _ :: _, [] => by simp
  | x :: a, y :: b => by
    rw [List.zip_cons_cons, List.map_cons]
    exact (snd_zip a b).cons_cons y
theorem snd_inj : ∀ (l : List (Nat × Nat)), (l.map (·.2)).Nodup → ∀ p ∈ l, ∀ q ∈ l, p.2 = q.2 → p = q
  | [], _, p, hp, _, _, _ => by cases hp
  | a :: l, h, p, hp, q, hq, e => by
    rw [List.map_cons, List.nodup_cons] at h
    rw [List.mem_cons] at hp hq
    rcases hp with rfl | hp
    · rcases hq with rfl | hq
      · rfl
      · exact absurd (List.mem_map.2 ⟨q, hq, e.symm⟩) h.1
    · rcases hq with rfl | hq
      · exact absurd (List.mem_map.2 ⟨p, hp, e⟩) h.1
      · exact snd_inj l h.2 p hp q hq e
theorem rn_or (ps : List (Nat × Nat)) (c : Nat) : (∃ p ∈ ps, p.1 = c ∧ rn ps c = p.2) ∨ rn ps c = c := by
  unfold rn
  cases h : ps.find? fun p => decide (p.1 = c) with
  | none => exact .inr rfl
  | some p =>
    have h1 := List.mem_of_find?_eq_some h
    have h2 := List.find?_some h
    rw [decide_eq_true_eq] at h2
    exact .inl ⟨p, h1, h2, rfl⟩
theorem rn_mem : ∀ {ps : List (Nat × Nat)}, (ps.map (·.1)).Nodup → ∀ p ∈ ps, rn ps p.1 = p.2
  | [], _, p, hp => by cases hp
  | a :: l, h, p, hp => by
    rw [List.map_cons, List.nodup_cons] at h
    unfold rn
    rw [List.find?_cons]
    rw [List.mem_cons] at hp
    rcases hp with rfl | hp
    · simp
    · have hne : ¬ (a.1 = p.1) := fun e => h.1 (List.mem_map.2 ⟨p, hp, e.symm⟩)
      simp only [hne, decide_false]
      exact rn_mem h.2 p hp
/-- unlike columns stay unlike -/
theorem rn_inj {ps : List (Nat × Nat)} {mid : Nat} (hn : (ps.map (·.2)).Nodup) (hlt : ∀ p ∈ ps, p.2 < mid) {c d : Nat} (hc : mid ≤ c) (hd : mid ≤ d) (e : rn ps c = rn ps d) : c = d := by
  rcases rn_or ps c with ⟨p, hp, h1, h2⟩ | h1
  · rcases rn_or ps d with ⟨q, hq, h3, h4⟩ | h3
    · have := snd_inj ps hn p hp q hq (by rw [← h2, ← h4, e])
      rw [← h1, ← h3, this]
    · have := hlt p hp
      omega
  · rcases rn_or ps d with ⟨q, hq, h3, h4⟩ | h3
    · have := hlt q hq
      omega
    · omega
theorem nodup_map_on {f : Nat → Nat} : ∀ {l : List Nat}, l.Nodup → (∀ a ∈ l, ∀ b ∈ l, f a = f b → a = b) → (l.map f).Nodup
  | [], _, _ => by simp
  | x :: l, h, hf => by
    rw [List.nodup_cons] at h
    rw [List.map_cons, List.nodup_cons]
    refine ⟨fun k => ?_, nodup_map_on h.2 fun a ha b hb => hf a (by simp [ha]) b (by simp [hb])⟩
    obtain ⟨y, hy, e⟩ := List.mem_map.1 k
    exact h.1 (hf y (by simp [hy]) x (by simp) e ▸ hy)
theorem zip_eq (a b : List Nat) : (List.range (min a.length b.length)).map (fun k => pI (a.getD k 0, b.getD k 0)) = (a.zip b).map pI := by
  apply List.ext_getElem
  · simp
  · intro i h1 h2
    simp at h1
    simp [List.getD, h1]
    constructor
    · rw [List.getElem?_eq_getElem (by omega)]; rfl
    · rw [List.getElem?_eq_getElem (by omega)]; rfl
theorem cols_map {b : List (List Nat)} {f : List Nat → List Nat} {i : Nat} (h : i < b.length) : cols (b.map f) i = f (cols b i) := by
  rw [cols_get, cols_get, List.getElem?_map, List.getElem?_eq_getElem h]
  rfl
theorem T_glued : ∀ (n size : Nat), 1 ≤ size → size ≤ n → size ≤ 7 → ∀ (k lo : Nat) (x y : Int) (rest : St),
    ∃ b hi x' y', callE (callR fns W (k + 4 + n)) i_law_glued [.ref 0, nI size, nI lo] (J x y :: rest) = some (.tup [bl b, nI hi], J x' y' :: rest) ∧ b.length = size ∧ lo ≤ hi ∧ hi ≤ lo + 3 * size ∧ (∀ s ∈ b, GS lo hi s) ∧ HR b
  | 0, size, h1, h2, _, _, _, _, _, _ => by omega
  | n + 1, size, h1, h2, h6, k, lo, x, y, rest => by
    by_cases hs1 : size = 1
    · subst hs1
      obtain ⟨v, x1, y1, hv, e1⟩ := T_take (W := W) (k := k + 3 + n) (top := 3) (by omega) (by omega) x y rest
      have hs : ∀ c, c ∈ (List.range (1 + v)).map (fun c => lo + c) ↔ lo ≤ c ∧ c < lo + (1 + v) := fun c => by
        simp only [List.mem_map, List.mem_range]
        exact ⟨fun ⟨a, ha, e⟩ => by omega, fun ⟨h1, h2⟩ => ⟨c - lo, by omega, by omega⟩⟩
      refine ⟨[(List.range (1 + v)).map fun c => lo + c], lo + (1 + v), x1, y1, ?_, rfl, by omega, by omega, ?_, HR.one _⟩
      · unfold callE
        rw [show k + 4 + (n + 1) = (k + 4 + n) + 1 by omega, run_at (fn := m_law_glued) rfl]
        have e1' : callE (callR fns W (k + 4 + n)) i_law_take [.ref 0, .int 3] (J x y :: rest) = some (nI v, J x1 y1 :: rest) := by
          rw [show k + 4 + n = k + 3 + n + 1 by omega]; exact e1
        have q1 : evS (callR fns W (k + 4 + n)) W (.asg (.nm 3) (.bin .add (.con (.int 1)) (.call i_law_take (.cons (.var 0) (.cons (.con (.int 3)) .nil))))) [some (.ref 0), some (nI 1), some (nI lo), none, none, none, none, none, none, none, none, none, none] (J x y :: rest) =
            some (.next, [some (.ref 0), some (nI 1), some (nI lo), some (nI (1 + v)), none, none, none, none, none, none, none, none, none], J x1 y1 :: rest) := by
          simp [e1', binD]
        have q2 : evS (callR fns W (k + 4 + n)) W (.ret (.tup (.cons (.frz (.disp (.cons (.tupL (.comp (.one (.nm 4) (.rng1 (.var 3)) .nil (.bin .add (.var 2) (.var 4))))) .nil))) (.cons (.bin .add (.var 2) (.var 3)) .nil)))) [some (.ref 0), some (nI 1), some (nI lo), some (nI (1 + v)), none, none, none, none, none, none, none, none, none] (J x1 y1 :: rest) =
            some (.ret (.tup [bl [(List.range (1 + v)).map fun c => lo + c], nI (lo + (1 + v))]), [some (.ref 0), some (nI 1), some (nI lo), some (nI (1 + v)), none, none, none, none, none, none, none, none, none], J x1 y1 :: rest) := by
          simp only [s_ret, ev_tup, evs_cons, evs_nil, ev_frz, el_disp, ev_tupL, el_comp]
          rw [eg_map nI (List.range (1 + v)) (fun c => nI (lo + c)) none (ei_rng1 _ _ _ _ _ _ (by simp) (by omega)) rfl (fun c _ => ⟨_, by simp; rfl, by simp [binD]⟩)]
          simp only [bnd_some, List.length_map, List.length_range]
          rw [if_pos (by simp only [cap]; exact decide_eq_true (by omega))]
          simp [binD, tI]
        have : runF (callR fns W (k + 4 + n)) W m_law_glued [.ref 0, nI 1, nI lo] (J x y :: rest) = some (.tup [bl [(List.range (1 + v)).map fun c => lo + c], nI (lo + (1 + v))], J x1 y1 :: rest) := by
          refine runF_ret (fn := m_law_glued) (ρ' := [some (.ref 0), some (nI 1), some (nI lo), some (nI (1 + v)), none, none, none, none, none, none, none, none, none]) rfl ?_
          show evSs _ _ (.cons _ _) [some (.ref 0), some (nI 1), some (nI lo), none, none, none, none, none, none, none, none, none, none] (J x y :: rest) = _
          refine ss_ret _ _ _ _ _ _ ?_
          rw [s_ite]
          rw [show test (callR fns W (k + 4 + n)) (.cmp .eq (.var 1) (.con (.int 1))) [some (.ref 0), some (nI 1), some (nI lo), none, none, none, none, none, none, none, none, none, none] (J x y :: rest) = some (true, J x y :: rest) by simp [cmpD]]
          dsimp only
          rw [ss_cons _ _ _ _ _ _ q1, ss_ret _ _ _ _ _ _ q2]
        rw [this]
        exact fin_J0 (by simp)
      · intro s hsm
        rw [List.mem_singleton] at hsm
        subst hsm
        refine ⟨?_, by simp, by simp; omega, fun c hc => (hs c).1 hc⟩
        rw [List.pairwise_map]
        exact List.pairwise_lt_range.imp fun h => by omega
    · obtain ⟨v, x1, y1, hv, e1⟩ := T_take (W := W) (k := k + 3 + n) (top := size - 1) (by omega) (by omega) x y rest
      obtain ⟨b1, mid, x2, y2, e2, l1, l2, l3, l4, l5⟩ := T_glued n (1 + v) (by omega) (by omega) (by omega) k lo x1 y1 rest
      obtain ⟨b2, hi, x3, y3, e3, r1, r2, r3, r4, r5⟩ := T_glued n (size - (1 + v)) (by omega) (by omega) (by omega) k mid x2 y2 rest
      obtain ⟨fi, x4, y4, e4, f1, f2, f3, f6, i1, f4, f5⟩ := T_same (W := W) (k := k + 1 + n) (b := b1) (by omega) (by intro e; rw [e] at l1; simp at l1; omega) (fun s hs => ⟨(l4 s hs).ne, nodup_of_lt (l4 s hs).up, by have := (l4 s hs).len; omega⟩) x3 y3 rest
      obtain ⟨se, x5, y5, e5, s1, s2, s3, s6, i2, s4, s5⟩ := T_same (W := W) (k := k + 1 + n) (b := b2) (by omega) (by intro e; rw [e] at r1; simp at r1; omega) (fun s hs => ⟨(r4 s hs).ne, nodup_of_lt (r4 s hs).up, by have := (r4 s hs).len; omega⟩) x4 y4 rest
      obtain ⟨ps, hps⟩ : ∃ ps, ps = se.zip fi := ⟨_, rfl⟩
      have hk : (ps.map (·.1)).Nodup := by rw [hps]; exact s2.sublist (fst_zip se fi)
      have hv2 : (ps.map (·.2)).Nodup := by rw [hps]; exact f2.sublist (snd_zip se fi)
      have hvm : ∀ p ∈ ps, lo ≤ p.2 ∧ p.2 < mid := by
        intro p hp
        have : p.2 ∈ fi := by rw [hps] at hp; exact (List.of_mem_zip hp).2
        exact (l4 _ (cols_mem f4)).lt _ (f5 _ this)
      have e6 := (S_called (W := W) (k := k + 3 + n) (b := b2) (ps := ps) (by omega) (fun s hs => by have := (r4 s hs).len; omega) hk).call (J x5 y5 :: rest)
      obtain ⟨b3, hb3⟩ : ∃ b3, b3 = b2.map fun s => srt (s.map (rn ps)) := ⟨_, rfl⟩
      rw [← hb3] at e6
      have hb3l : b3.length = b2.length := by rw [hb3, List.length_map]
      have hmem : ∀ (s : List Nat) (z : Nat), z ∈ srt (s.map (rn ps)) ↔ ∃ c ∈ s, rn ps c = z := fun s z => by
        rw [(srt_perm _).mem_iff, List.mem_map]
      refine ⟨b1 ++ b3, hi, x5, y5, ?_, by rw [List.length_append]; omega, by omega, by omega, ?_, ?_⟩
      · unfold callE
        rw [show k + 4 + (n + 1) = (k + 4 + n) + 1 by omega, run_at (fn := m_law_glued) rfl]
        rw [show k + 3 + n + 1 = k + 4 + n by omega] at e1 e6
        rw [show k + 1 + n + 3 = k + 4 + n by omega] at e4 e5
        have q0 : evS (callR fns W (k + 4 + n)) W (.ite (.cmp .eq (.var 1) (.con (.int 1))) (.cons (.asg (.nm 3) (.bin .add (.con (.int 1)) (.call i_law_take (.cons (.var 0) (.cons (.con (.int 3)) .nil)))))
    (.cons (.ret (.tup (.cons (.frz (.disp (.cons (.tupL (.comp (.one (.nm 4) (.rng1 (.var 3)) .nil (.bin .add (.var 2) (.var 4))))) .nil))) (.cons (.bin .add (.var 2) (.var 3)) .nil))))
    .nil)) .nil) [some (.ref 0), some (nI size), some (nI lo), none, none, none, none, none, none, none, none, none, none] (J x y :: rest) =
            some (.next, [some (.ref 0), some (nI size), some (nI lo), none, none, none, none, none, none, none, none, none, none], J x y :: rest) := by
          have hne : ¬ ((size : Int) = 1) := by omega
          rw [s_ite]
          rw [show test (callR fns W (k + 4 + n)) (.cmp .eq (.var 1) (.con (.int 1))) [some (.ref 0), some (nI size), some (nI lo), none, none, none, none, none, none, none, none, none, none] (J x y :: rest) = some (false, J x y :: rest) by simp [cmpD, hne]]
          simp
        have q1 : evS (callR fns W (k + 4 + n)) W (.asg (.nm 5) (.bin .add (.con (.int 1)) (.call i_law_take (.cons (.var 0) (.cons (.bin .sub (.var 1) (.con (.int 1))) .nil))))) [some (.ref 0), some (nI size), some (nI lo), none, none, none, none, none, none, none, none, none, none] (J x y :: rest) =
            some (.next, [some (.ref 0), some (nI size), some (nI lo), none, none, some (nI (1 + v)), none, none, none, none, none, none, none], J x1 y1 :: rest) := by
          have : (size : Int) - 1 = ((size - 1 : Nat) : Int) := by omega
          simp [binD]
          rw [this, e1]
          simp [binD]
        have q2 : evS (callR fns W (k + 4 + n)) W (.asg (.tp (.cons (.nm 6) (.cons (.nm 7) .nil))) (.call i_law_glued (.cons (.var 0) (.cons (.var 5) (.cons (.var 2) .nil))))) [some (.ref 0), some (nI size), some (nI lo), none, none, some (nI (1 + v)), none, none, none, none, none, none, none] (J x1 y1 :: rest) =
            some (.next, [some (.ref 0), some (nI size), some (nI lo), none, none, some (nI (1 + v)), some (bl b1), some (nI mid), none, none, none, none, none], J x2 y2 :: rest) := by
          simp only [s_asg, ev_call', evs_cons, evs_nil, ev_var]
          simp [-Int.natCast_add, e2]
        have q3 : evS (callR fns W (k + 4 + n)) W (.asg (.tp (.cons (.nm 8) (.cons (.nm 9) .nil))) (.call i_law_glued (.cons (.var 0) (.cons (.bin .sub (.var 1) (.var 5)) (.cons (.var 7) .nil))))) [some (.ref 0), some (nI size), some (nI lo), none, none, some (nI (1 + v)), some (bl b1), some (nI mid), none, none, none, none, none] (J x2 y2 :: rest) =
            some (.next, [some (.ref 0), some (nI size), some (nI lo), none, none, some (nI (1 + v)), some (bl b1), some (nI mid), some (bl b2), some (nI hi), none, none, none], J x3 y3 :: rest) := by
          have : (size : Int) - ((1 + v : Nat) : Int) = ((size - (1 + v) : Nat) : Int) := by omega
          simp only [s_asg, ev_call', evs_cons, evs_nil, ev_var, ev_bin]
          simp [-Int.natCast_add, binD]
          rw [this, e3]
          simp
        have q4 : evS (callR fns W (k + 4 + n)) W (.par 10 11 (.call i_law_same_columns (.cons (.var 0) (.cons (.var 6) .nil))) (.call i_law_same_columns (.cons (.var 0) (.cons (.var 8) .nil)))) [some (.ref 0), some (nI size), some (nI lo), none, none, some (nI (1 + v)), some (bl b1), some (nI mid), some (bl b2), some (nI hi), none, none, none] (J x3 y3 :: rest) =
            some (.next, [some (.ref 0), some (nI size), some (nI lo), none, none, some (nI (1 + v)), some (bl b1), some (nI mid), some (bl b2), some (nI hi), some (.lst (fi.map nI)), some (.lst (se.map nI)), none], J x5 y5 :: rest) := by
          simp [e4, e5]
        have q5 : evS (callR fns W (k + 4 + n)) W (.asg (.nm 3) (.mn (.len (.var 10)) (.len (.var 11)))) [some (.ref 0), some (nI size), some (nI lo), none, none, some (nI (1 + v)), some (bl b1), some (nI mid), some (bl b2), some (nI hi), some (.lst (fi.map nI)), some (.lst (se.map nI)), none] (J x5 y5 :: rest) =
            some (.next, [some (.ref 0), some (nI size), some (nI lo), some (nI (min se.length fi.length)), none, some (nI (1 + v)), some (bl b1), some (nI mid), some (bl b2), some (nI hi), some (.lst (fi.map nI)), some (.lst (se.map nI)), none], J x5 y5 :: rest) := by
          simp [mnD]
          split <;> omega
        have q6 : evS (callR fns W (k + 4 + n)) W (.ret (.tup (.cons (.bin .add (.var 6) (.call i_law_called (.cons (.var 8) (.cons (.frz (.comp (.one (.nm 12) (.rng1 (.var 3)) .nil (.tup (.cons (.idx (.var 11) (.var 12)) (.cons (.idx (.var 10) (.var 12)) .nil)))))) .nil)))) (.cons (.var 9) .nil)))) [some (.ref 0), some (nI size), some (nI lo), some (nI (min se.length fi.length)), none, some (nI (1 + v)), some (bl b1), some (nI mid), some (bl b2), some (nI hi), some (.lst (fi.map nI)), some (.lst (se.map nI)), none] (J x5 y5 :: rest) =
            some (.ret (.tup [bl (b1 ++ b3), nI hi]), [some (.ref 0), some (nI size), some (nI lo), some (nI (min se.length fi.length)), none, some (nI (1 + v)), some (bl b1), some (nI mid), some (bl b2), some (nI hi), some (.lst (fi.map nI)), some (.lst (se.map nI)), none], J x5 y5 :: rest) := by
          have qf : evE (callR fns W (k + 4 + n)) (.frz (.comp (.one (.nm 12) (.rng1 (.var 3)) .nil (.tup (.cons (.idx (.var 11) (.var 12)) (.cons (.idx (.var 10) (.var 12)) .nil)))))) [some (.ref 0), some (nI size), some (nI lo), some (nI (min se.length fi.length)), none, some (nI (1 + v)), some (bl b1), some (nI mid), some (bl b2), some (nI hi), some (.lst (fi.map nI)), some (.lst (se.map nI)), none] (J x5 y5 :: rest) = some (.lst (ps.map pI), J x5 y5 :: rest) := by
            rw [ev_frz, el_comp]
            rw [eg_map nI (List.range (min se.length fi.length)) (fun k => pI (se.getD k 0, fi.getD k 0)) none (ei_rng1 _ _ _ _ _ _ (by simp) (by omega)) rfl (fun c hc => ⟨[some (.ref 0), some (nI size), some (nI lo), some (nI (min se.length fi.length)), none, some (nI (1 + v)), some (bl b1), some (nI mid), some (bl b2), some (nI hi), some (.lst (fi.map nI)), some (.lst (se.map nI)), some (nI c)], by simp, by
              have hc' := List.mem_range.1 hc
              have g1 : (se.map nI)[c]? = some (nI (se.getD c 0)) := by
                rw [List.getElem?_map, List.getD, List.getElem?_eq_getElem (by omega)]; rfl
              have g2 : (fi.map nI)[c]? = some (nI (fi.getD c 0)) := by
                rw [List.getElem?_map, List.getD, List.getElem?_eq_getElem (by omega)]; rfl
              have i1 : idxD (J x5 y5 :: rest) (.lst (se.map nI)) (.int (c : Int)) = some (nI (se.getD c 0)) := idx_seq (seq_lst _) g1
              have i2 : idxD (J x5 y5 :: rest) (.lst (fi.map nI)) (.int (c : Int)) = some (nI (fi.getD c 0)) := idx_seq (seq_lst _) g2
              simp [i1, i2]⟩)]
            simp only [bnd_some, List.length_map, List.length_range]
            rw [if_pos (by simp only [cap]; exact decide_eq_true (by omega)), zip_eq, ← hps]
            simp only [bnd_some]
          have qa : binD .add (J x5 y5 :: rest) (bl b1) (bl b3) = some (bl (b1 ++ b3)) := by
            rw [add_lst (by simp; omega)]
            simp
          simp [-ev_frz, -el_comp, -List.map_append, qf, e6, qa]
        have : runF (callR fns W (k + 4 + n)) W m_law_glued [.ref 0, nI size, nI lo] (J x y :: rest) = some (.tup [bl (b1 ++ b3), nI hi], J x5 y5 :: rest) := by
          refine runF_ret (fn := m_law_glued) (ρ' := [some (.ref 0), some (nI size), some (nI lo), some (nI (min se.length fi.length)), none, some (nI (1 + v)), some (bl b1), some (nI mid), some (bl b2), some (nI hi), some (.lst (fi.map nI)), some (.lst (se.map nI)), none]) rfl ?_
          show evSs _ _ (.cons _ _) [some (.ref 0), some (nI size), some (nI lo), none, none, none, none, none, none, none, none, none, none] (J x y :: rest) = _
          rw [ss_cons _ _ _ _ _ _ q0, ss_cons _ _ _ _ _ _ q1, ss_cons _ _ _ _ _ _ q2, ss_cons _ _ _ _ _ _ q3, ss_cons _ _ _ _ _ _ q4, ss_cons _ _ _ _ _ _ q5, ss_ret _ _ _ _ _ _ q6]
        rw [this]
        exact fin_J0 (by simpa using ⟨pures_of_cleans _ (clean_tIs b1), pures_of_cleans _ (clean_tIs b3)⟩)
      · intro s hs
        rw [List.mem_append] at hs
        rcases hs with hs | hs
        · have := l4 s hs
          exact ⟨this.up, this.ne, this.len, fun c hc => by have := this.lt c hc; omega⟩
        · rw [hb3] at hs
          obtain ⟨t, ht, rfl⟩ := List.mem_map.1 hs
          have hT := r4 t ht
          refine ⟨srt_lt (nodup_map_on (nodup_of_lt hT.up) fun a ha c hc e => rn_inj hv2 (fun p hp => (hvm p hp).2) (hT.lt a ha).1 (hT.lt c hc).1 e), ?_, ?_, ?_⟩
          · intro e
            have := (srt_perm (t.map (rn ps))).length_eq
            rw [e, List.length_map, List.length_nil] at this
            exact hT.ne (List.length_eq_zero_iff.1 this.symm)
          · rw [(srt_perm _).length_eq, List.length_map]
            exact hT.len
          · intro z hz
            obtain ⟨c, hc, rfl⟩ := (hmem t z).1 hz
            have := hT.lt c hc
            rcases rn_or ps c with ⟨p, hp, _, h2⟩ | h2
            · have := hvm p hp; omega
            · omega
      · have hB3 : HR b3 := r5.call (rn ps) hb3l (fun i hi c' => by
          rw [hb3, cols_map hi]
          exact hmem _ _) fun i j c d hi hj hc hd e => rn_inj hv2 (fun p hp => (hvm p hp).2) ((r4 _ (cols_mem hi)).lt c hc).1 ((r4 _ (cols_mem hj)).lt d hd).1 e
        have hin1 : ∀ p ∈ ps, p.1 ∈ se := fun p hp => by rw [hps] at hp; exact (List.of_mem_zip hp).1
        have hin2 : ∀ p ∈ ps, p.2 ∈ fi := fun p hp => by rw [hps] at hp; exact (List.of_mem_zip hp).2
        have hb3m : ∀ j, j < b3.length → ∀ z, z ∈ cols b3 j ↔ ∃ c ∈ cols b2 j, rn ps c = z := fun j hj z => by
          rw [hb3, cols_map (by omega)]
          exact hmem _ _
        have hback : ∀ j, j < b3.length → ∀ p ∈ ps, p.2 ∈ cols b3 j → p.1 ∈ cols b2 j := fun j hj p hp hc => by
          obtain ⟨c, hc1, hc2⟩ := (hb3m j hj _).1 hc
          have e1 := rn_mem hk p hp
          have l1 := (r4 _ (cols_mem (show j < b2.length by omega))).lt c hc1
          have l2 := (r4 _ (cols_mem s4)).lt _ (s5 _ (hin1 p hp))
          have := rn_inj hv2 (fun p hp => (hvm p hp).2) l1.1 l2.1 (hc2.trans e1.symm)
          exact this ▸ hc1
        obtain ⟨a, as, ese⟩ := List.exists_cons_of_ne_nil s1
        obtain ⟨d, ds, efi⟩ := List.exists_cons_of_ne_nil f1
        have hp0 : (a, d) ∈ ps := by rw [hps, ese, efi]; simp
        refine l5.app hB3 (fun c => ∃ p ∈ ps, p.2 = c) ?_ ?_ ?_ ⟨i1, i2, d, f4, by omega, f5 d (by rw [efi]; simp), ?_⟩
        · intro i j c hi hj h1 h2
          obtain ⟨c', hc1, hc2⟩ := (hb3m j hj c).1 h2
          rcases rn_or ps c' with ⟨p, hp, _, h4⟩ | h4
          · exact ⟨p, hp, h4.symm.trans hc2⟩
          · have := (l4 _ (cols_mem hi)).lt c h1
            have := (r4 _ (cols_mem (show j < b2.length by omega))).lt c' hc1
            omega
        · rintro i hi c c0 ⟨p, hp, rfl⟩ ⟨q, hq, rfl⟩ h0
          exact f6 i hi _ (hin2 p hp) _ (hin2 q hq) h0
        · rintro j hj c c0 ⟨p, hp, rfl⟩ ⟨q, hq, rfl⟩ h0
          have h1 := hback j hj q hq h0
          have h2 := s6 j (by omega) _ (hin1 p hp) _ (hin1 q hq) h1
          exact (hb3m j hj _).2 ⟨p.1, h2, rn_mem hk p hp⟩
        · rw [hb3m i2 (by omega)]
          exact ⟨a, s5 a (by rw [ese]; simp), rn_mem hk (a, d) hp0⟩
end K56

end

section
set_option maxRecDepth 100000
set_option maxHeartbeats 4000000
namespace K56
open MM MP PySem
variable {W : Nat}
theorem T_ringless {k most : Nat} (hm1 : 1 ≤ most) (hm2 : most ≤ 7) (x y : Int) (rest : St) : ∃ B x' y', callE (callR fns W (k + 12)) i_law_ringless_book [.ref 0, nI most] (J x y :: rest) = some (bk B, J x' y' :: rest) ∧ B ≠ [] ∧ B.length ≤ most ∧ (∀ s ∈ B, Sch s) ∧ HR B := by
  obtain ⟨v, x1, y1, hv, e1⟩ := T_take (W := W) (k := k + 10) (top := most) (by omega) (by omega) x y rest
  obtain ⟨b, hi, x2, y2, e2, l1, l2, l3, l4, l5⟩ := T_glued (W := W) 7 (1 + v) (by omega) (by omega) (by omega) k 0 x1 y1 rest
  obtain ⟨ps, hp, x3, y3, e3⟩ := T_mixed_nat (W := W) (k := k + 9) (n := 24) (by omega) x2 y2 rest
  have hnd : ps.Nodup := hp.nodup_iff.2 List.nodup_range
  have hpl := hp.length_eq
  rw [List.length_range] at hpl
  have hget : ∀ c, c < 24 → ps[c]? = some (ps.getD c 0) := fun c hc => by
    rw [List.getD, List.getElem?_eq_getElem (by omega)]; rfl
  have hlt : ∀ c, c < 24 → ps.getD c 0 < 24 := fun c hc => List.mem_range.1 (hp.mem_iff.1 (List.mem_of_getElem? (hget c hc)))
  have hinj : ∀ c, c < 24 → ∀ d, d < 24 → ps.getD c 0 = ps.getD d 0 → c = d := fun c hc d hd e => by
    have h1 := hget c hc
    have h2 := hget d hd
    rw [e, ← h2] at h1
    exact (List.getElem?_inj (by omega) hnd).1 h1
  obtain ⟨b2, hb2⟩ : ∃ b2, b2 = b.map fun s => srt (s.map fun c => ps.getD c 0) := ⟨_, rfl⟩
  have hb2l : b2.length = b.length := by rw [hb2, List.length_map]
  have hc24 : ∀ s ∈ b, ∀ c ∈ s, c < 24 := fun s hs c hc => by have := (l4 s hs).lt c hc; omega
  have hmem : ∀ (s : List Nat) (z : Nat), z ∈ srt (s.map fun c => ps.getD c 0) ↔ ∃ c ∈ s, ps.getD c 0 = z := fun s z => by
    rw [(srt_perm _).mem_iff, List.mem_map]
  have hS : ∀ s ∈ b2, Sch s := by
    intro s hs
    rw [hb2] at hs
    obtain ⟨t, ht, rfl⟩ := List.mem_map.1 hs
    have hT := l4 t ht
    refine ⟨srt_lt (nodup_map_on (nodup_of_lt hT.up) fun a ha c hc e => hinj a (hc24 t ht a ha) c (hc24 t ht c hc) e), ?_, ?_, ?_⟩
    · intro e
      have := (srt_perm (t.map fun c => ps.getD c 0)).length_eq
      rw [e, List.length_map, List.length_nil] at this
      exact hT.ne (List.length_eq_zero_iff.1 this.symm)
    · rw [(srt_perm _).length_eq, List.length_map]
      have := hT.len
      omega
    · intro z hz
      obtain ⟨c, hc, rfl⟩ := (hmem t z).1 hz
      exact hlt c (hc24 t ht c hc)
  have hB2 : HR b2 := l5.call (fun c => ps.getD c 0) hb2l (fun i hi c' => by
    rw [hb2, cols_map hi]
    exact hmem _ _) fun i j c d hi hj hc hd e => hinj c (hc24 _ (cols_mem hi) c hc) d (hc24 _ (cols_mem hj) d hd) e
  obtain ⟨ys, hy, x4, y4, e4⟩ := T_mixed (W := W) (k := k + 9) (x := bl b2) (xs := b2.map tI) x3 y3 rest (fun _ _ => rfl) (by simp; omega) (fun y hy => by obtain ⟨m, _, rfl⟩ := List.mem_map.1 hy; exact .inl (by simp))
  obtain ⟨B, rfl, hBp⟩ := perm_map_inv tI _ _ hy
  have hBl := hBp.length_eq
  refine ⟨B, x4, y4, ?_, ?_, by omega, fun s hs => hS s (hBp.mem_iff.1 hs), hB2.perm hBp.symm⟩
  · unfold callE
    rw [run_at (fn := m_law_ringless_book) rfl]
    have q1 : evS (callR fns W (k + 11)) W (.asg (.tp (.cons (.nm 2) (.cons (.nm 3) .nil))) (.call i_law_glued (.cons (.var 0) (.cons (.bin .add (.con (.int 1)) (.call i_law_take (.cons (.var 0) (.cons (.var 1) .nil)))) (.cons (.con (.int 0)) .nil))))) [some (.ref 0), some (nI most), none, none, none, none, none, none] (J x y :: rest) =
        some (.next, [some (.ref 0), some (nI most), some (bl b), some (nI hi), none, none, none, none], J x2 y2 :: rest) := by
      have e2' : callE (callR fns W (k + 11)) i_law_glued [.ref 0, nI (1 + v), .int 0] (J x1 y1 :: rest) = some (.tup [bl b, nI hi], J x2 y2 :: rest) := e2
      have : ((1 : Int) + (v : Int)) = ((1 + v : Nat) : Int) := by omega
      simp [e1, binD]
      rw [this, e2']
      simp
    have q2 : evS (callR fns W (k + 11)) W (.asg (.nm 4) (.call i_law_mixed (.cons (.var 0) (.cons (.frz (.comp (.one (.nm 5) (.rng1 (.con (.int 24))) .nil (.var 5)))) .nil)))) [some (.ref 0), some (nI most), some (bl b), some (nI hi), none, none, none, none] (J x2 y2 :: rest) =
        some (.next, [some (.ref 0), some (nI most), some (bl b), some (nI hi), some (.lst (ps.map nI)), none, none, none], J x3 y3 :: rest) := by
      have qf : ∀ s, evE (callR fns W (k + 11)) (.frz (.comp (.one (.nm 5) (.rng1 (.con (.int 24))) .nil (.var 5)))) [some (.ref 0), some (nI most), some (bl b), some (nI hi), none, none, none, none] s = some (.lst ((List.range 24).map nI), s) := fun s => by
        rw [ev_frz, el_comp]
        rw [eg_map nI (List.range 24) nI none (ei_rng1 _ _ _ _ 24 _ (by simp) (by omega)) rfl (fun c _ => ⟨_, by simp; rfl, by simp⟩)]
        simp only [bnd_some, List.length_map, List.length_range]
        rw [if_pos (by simp only [cap]; exact decide_eq_true (by omega))]
        rfl
      simp [-ev_frz, qf, e3]
    have q3 : evS (callR fns W (k + 11)) W (.asg (.nm 6) (.frz (.comp (.one (.nm 7) (.seq (.var 2)) .nil (.tupL (.srtL (.comp (.one (.nm 5) (.seq (.var 7)) .nil (.idx (.var 4) (.var 5)))))))))) [some (.ref 0), some (nI most), some (bl b), some (nI hi), some (.lst (ps.map nI)), none, none, none] (J x3 y3 :: rest) =
        some (.next, [some (.ref 0), some (nI most), some (bl b), some (nI hi), some (.lst (ps.map nI)), none, some (bl b2), none], J x3 y3 :: rest) := by
      rw [s_asg, ev_frz, el_comp]
      rw [eg_map tI b (fun s => tI (srt (s.map fun c => ps.getD c 0))) none (by simp) rfl (fun s hsb => ⟨[some (.ref 0), some (nI most), some (bl b), some (nI hi), some (.lst (ps.map nI)), none, none, some (tI s)], by simp, by
        have hsl := (l4 s hsb).len
        simp only [ev_tupL, el_srtL, el_comp]
        rw [eg_map nI s (fun c => nI (ps.getD c 0)) none (by simp) rfl (fun c hc => ⟨[some (.ref 0), some (nI most), some (bl b), some (nI hi), some (.lst (ps.map nI)), some (nI c), none, some (tI s)], by simp, by
          have i1 : idxD (J x3 y3 :: rest) (.lst (ps.map nI)) (.int (c : Int)) = some (nI (ps.getD c 0)) := idx_seq (seq_lst _) (by rw [List.getElem?_map, hget c (hc24 s hsb c hc)]; rfl)
          simp [i1]⟩)]
        rw [show (s.map fun c => nI (ps.getD c 0)) = (s.map fun c => ps.getD c 0).map nI by rw [List.map_map]; rfl]
        simp only [bnd_some, List.length_map]
        rw [if_pos (by simp only [cap]; exact decide_eq_true (by omega))]
        simp only [bnd_some]
        rw [sortD_srt]
        rfl⟩)]
      simp only [bnd_some, List.length_map]
      rw [if_pos (by simp only [cap]; exact decide_eq_true (by omega))]
      simp [hb2]
    have : runF (callR fns W (k + 11)) W m_law_ringless_book [.ref 0, nI most] (J x y :: rest) = some (bk B, J x4 y4 :: rest) := by
      refine runF_ret (fn := m_law_ringless_book) (ρ' := [some (.ref 0), some (nI most), some (bl b), some (nI hi), some (.lst (ps.map nI)), none, some (bl b2), none]) rfl ?_
      show evSs _ _ (.cons _ _) [some (.ref 0), some (nI most), none, none, none, none, none, none] (J x y :: rest) = _
      rw [ss_cons _ _ _ _ _ _ q1, ss_cons _ _ _ _ _ _ q2, ss_cons _ _ _ _ _ _ q3]
      simp [e4]
      rfl
    rw [this]
    exact fin_J0 (by simp)
  · intro e
    rw [e, List.length_nil] at hBl
    omega
/-- a list of rows, each with a column of the next one -/
theorem chain_hung : ∀ (n : Nat) (B : List (List Nat)), B.length = n + 1 → (∀ i, i + 1 < B.length → ∃ c, c ∈ cols B i ∧ c ∈ cols B (i + 1)) → HB B
  | 0, B, hl, _ => by
    obtain ⟨s, rfl⟩ := List.length_eq_one_iff.1 hl
    exact HB.one s
  | n + 1, B, hl, h => by
    rcases List.eq_nil_or_concat B with rfl | ⟨B', s, e⟩
    · simp at hl
    rw [List.concat_eq_append] at e
    subst e
    have hl' : B'.length = n + 1 := by simpa using hl
    have h1 := chain_hung n B' hl' fun i hi => by
      obtain ⟨c, h1, h2⟩ := h i (by rw [List.length_append]; omega)
      rw [cols_app_l (by omega)] at h1
      rw [cols_app_l hi] at h2
      exact ⟨c, h1, h2⟩
    refine h1.snoc ?_
    obtain ⟨c, h2, h3⟩ := h n (by rw [List.length_append]; simp; omega)
    rw [cols_app_l (by omega)] at h2
    rw [show n + 1 = B'.length + 0 by omega, cols_app_r] at h3
    refine ⟨cols B' n, cols_mem (by omega), c, h2, by simpa [cols] using h3⟩
end K56

end

section
set_option maxRecDepth 100000
set_option maxHeartbeats 4000000
namespace K56
open MM MP PySem
variable {W : Nat}
/-- a clause that makes a new object for each item -/
theorem walk_new {α : Type} {f : D → St → R (List D)} (φ : α → D) (o : α → O) : ∀ (xs : List α) (st : St), (∀ x ∈ xs, ∀ s, f (φ x) s = some ([.ref s.length], s ++ [o x])) →
    walkF none f (xs.map φ) st = some ((List.range xs.length).map (fun i => D.ref (st.length + i)), st ++ xs.map o)
  | [], st, _ => by simp [walkF]
  | x :: xs, st, h => by
    have ih := walk_new φ o xs (st ++ [o x]) fun y hy => h y (by simp [hy])
    rw [List.map_cons, walkF, stays_none, if_pos rfl, h x (by simp), bnd_some, ih, bnd_some]
    rw [List.length_cons, List.range_succ_eq_map]
    simp [Function.comp, Nat.add_assoc, Nat.add_comm 1]
theorem eg_new {cl : Cl} {ρ : Rho} {st : St} {g : G} {it : It} {e : E} {α : Type} (φ : α → D) (xs : List α) (o : α → O)
    (hit : evIt cl it ρ st = some ((xs.map φ, none), st))
    (hb : ∀ x ∈ xs, ∀ s, ∃ ρ', bindG g (φ x) (wipeR ρ g.slots) = some ρ' ∧ evE cl e ρ' s = some (.ref s.length, s ++ [o x])) :
    evGs cl (.one g it .nil e) ρ st = some ((List.range xs.length).map (fun i => D.ref (st.length + i)), st ++ xs.map o) := by
  rw [evGs, hit]
  simp only [bnd_some]
  rw [walk_new φ o xs st]
  intro x hx s
  obtain ⟨ρ', h1, h2⟩ := hb x hx s
  rw [h1]
  simp [h2]
abbrev oL (r : List Nat) : O := .lst (r.map nI)
theorem getR {a b : Int} {rest ex : St} {R : List (List Nat)} {i : Nat} (h : i < R.length) : (J a b :: (rest ++ (R.map oL ++ ex)))[rest.length + 1 + i]? = some (oL (cols R i)) := by
  rw [show rest.length + 1 + i = (rest.length + i) + 1 by omega, List.getElem?_cons_succ, List.getElem?_append_right (by omega), Nat.add_sub_cancel_left, List.getElem?_append_left (by simpa using h), List.getElem?_map, cols_get, List.getElem?_eq_getElem h]
  rfl
theorem setR {a b : Int} {rest ex : St} {R : List (List Nat)} {i : Nat} (r : List Nat) (h : i < R.length) : (J a b :: (rest ++ (R.map oL ++ ex))).set (rest.length + 1 + i) (oL r) = J a b :: (rest ++ ((R.set i r).map oL ++ ex)) := by
  rw [show rest.length + 1 + i = (rest.length + i) + 1 by omega, List.set_cons_succ, List.set_append_right _ _ (by omega), Nat.add_sub_cancel_left, List.set_append_left _ _ (by simpa using h), List.map_set]
theorem getF {a b : Int} {rest ex : St} {R : List (List Nat)} {o : O} : (J a b :: (rest ++ (R.map oL ++ o :: ex)))[rest.length + 1 + R.length]? = some o := by
  rw [show rest.length + 1 + R.length = (rest.length + R.length) + 1 by omega, List.getElem?_cons_succ, List.getElem?_append_right (by omega), Nat.add_sub_cancel_left, List.getElem?_append_right (by simp)]
  simp
theorem setF {a b : Int} {rest ex : St} {R : List (List Nat)} {o x : O} : (J a b :: (rest ++ (R.map oL ++ o :: ex))).set (rest.length + 1 + R.length) x = J a b :: (rest ++ (R.map oL ++ x :: ex)) := by
  rw [show rest.length + 1 + R.length = (rest.length + R.length) + 1 by omega, List.set_cons_succ, List.set_append_right _ _ (by omega), Nat.add_sub_cancel_left, List.set_append_right _ _ (by simp)]
  simp
theorem mod_back : ∀ (n : Nat), n < 8 → ∀ (i : Nat), i < n → ((i : Int) - 1).fmod (n : Int) = (((if i = 0 then n - 1 else i - 1) : Nat) : Int) := by decide
/-- rows of a ring that is being made -/
structure RW (f : Nat → Nat) (n : Nat) (R : List (List Nat)) : Prop where
  len : R.length = n
  own : ∀ i, i < n → f i ∈ cols R i
  back : ∀ i, i < n → f (if i = 0 then n - 1 else i - 1) ∈ cols R i
  few : ∀ i, i < n → (cols R i).length ≤ 4
  lt : ∀ i, i < n → ∀ c ∈ cols R i, c < 24
theorem cols_set {R : List (List Nat)} {i j : Nat} {r : List Nat} (h : i < R.length) : cols (R.set i r) j = if i = j then r else cols R j := by
  rw [cols_get, cols_get, List.getElem?_set]
  by_cases e : i = j
  · simp [e, show j < R.length by omega]
  · simp [e]
/-- rows put in order -/
def up (r : List Nat) : List Nat := ups 24 fun c => decide (c ∈ r)
theorem mem_up {r : List Nat} (h : ∀ c ∈ r, c < 24) {c : Nat} : c ∈ up r ↔ c ∈ r := by
  rw [up, mem_ups, decide_eq_true_eq]
  exact ⟨fun k => k.2, fun k => ⟨h c k, k⟩⟩
theorem up_sch {r : List Nat} (h : ∀ c ∈ r, c < 24) (hne : r ≠ []) (hl : r.length ≤ 4) : Sch (up r) := by
  refine ⟨ups_lt _ _, ?_, ?_, fun c hc => h c ((mem_up h).1 hc)⟩
  · obtain ⟨c, hc⟩ := List.exists_mem_of_ne_nil r hne
    exact List.ne_nil_of_mem ((mem_up h).2 hc)
  · have := nodup_len (m := up r) (g := r) (nodup_of_lt (ups_lt _ _)) fun c hc => (mem_up h).1 hc
    omega
theorem S_up {k : Nat} {r : List Nat} (h : ∀ c ∈ r, c < 24) : Pur (callR fns W (k + 1)) i_law_rising [.lst (r.map fun c => .lst [nI c])] (tI (up r)) := by
  have := S_rs (W := W) (k := k) (ls := r.map fun c => (.lst [nI c], [c])) (by simp [IsNs]) (by simp) (by simpa using h)
  rw [List.map_map] at this
  have e : rs (r.map fun c => ((.lst [nI c] : D), [c])) = up r := by
    unfold rs up
    congr 1
    funext c
    rw [Bool.eq_iff_iff, List.any_eq_true, decide_eq_true_eq]
    constructor
    · rintro ⟨p, hp, hc⟩
      obtain ⟨d, hd, rfl⟩ := List.mem_map.1 hp
      simp at hc
      exact hc ▸ hd
    · exact fun hc => ⟨_, List.mem_map.2 ⟨c, hc, rfl⟩, by simp⟩
  rw [e] at this
  exact this
theorem ring_rows {k : Nat} {ids : List Nat} (hids : ids.length = 24) {f : Nat → Nat} (hf : ∀ i, i < 24 → ids[i]? = some (f i) ∧ f i < 24) {n : Nat} {m : Int} (hn1 : 3 ≤ n) (hn2 : n ≤ 7) (x y : Int) (rest : St) {R : List (List Nat)} (hR : RW f n R) (h2 : ∀ i, i < n → (cols R i).length ≤ 2) (o6 o7 : Option D) (refs : List D) (hrefs : refs = (List.range n).map fun i => .ref (rest.length + 1 + i)) :
    ∃ R' x' y' o6' o7', forF none (bodyF (callR fns W (k + 3)) W (.nm 6) (.cons (.asg (.nm 7) (.idx (.var 5) (.var 6)))
    (.cons (.ext (.var 7) (.ite (.cmp .eq (.call i_law_take (.cons (.var 0) (.cons (.con (.int 3)) .nil))) (.con (.int 0))) (.disp (.cons (.idx (.var 3) (.bin .sub (.var 2) (.con (.int 1)))) .nil)) (.disp .nil)))
    (.cons (.ext (.var 7) (.ite (.cmp .eq (.call i_law_take (.cons (.var 0) (.cons (.con (.int 3)) .nil))) (.con (.int 0))) (.disp (.cons (.idx (.var 3) (.bin .add (.var 2) (.var 6))) .nil)) (.disp .nil)))
    .nil)))) ((List.range n).map nI) [some (.ref 0), some (.int m), some (nI n), some (.lst (ids.map nI)), none, some (.ref (rest.length + 1 + n)), o6, o7] (J x y :: (rest ++ (R.map oL ++ [.lst refs]))) =
      some (.next, [some (.ref 0), some (.int m), some (nI n), some (.lst (ids.map nI)), none, some (.ref (rest.length + 1 + n)), o6', o7'], J x' y' :: (rest ++ (R'.map oL ++ [.lst refs]))) ∧ RW f n R' := by
  have := for_rule (src := none) (f := bodyF (callR fns W (k + 3)) W (.nm 6) (.cons (.asg (.nm 7) (.idx (.var 5) (.var 6)))
    (.cons (.ext (.var 7) (.ite (.cmp .eq (.call i_law_take (.cons (.var 0) (.cons (.con (.int 3)) .nil))) (.con (.int 0))) (.disp (.cons (.idx (.var 3) (.bin .sub (.var 2) (.con (.int 1)))) .nil)) (.disp .nil)))
    (.cons (.ext (.var 7) (.ite (.cmp .eq (.call i_law_take (.cons (.var 0) (.cons (.con (.int 3)) .nil))) (.con (.int 0))) (.disp (.cons (.idx (.var 3) (.bin .add (.var 2) (.var 6))) .nil)) (.disp .nil)))
    .nil)))) nI
      (fun is ρ s => ∃ (x' y' : Int) (R' : List (List Nat)) (o6 o7 : Option D) (j : Nat), ρ = [some (.ref 0), some (.int m), some (nI n), some (.lst (ids.map nI)), none, some (.ref (rest.length + 1 + n)), o6, o7] ∧ s = J x' y' :: (rest ++ (R'.map oL ++ [.lst refs])) ∧ RW f n R' ∧ (∀ i, j ≤ i → i < n → (cols R' i).length ≤ 2) ∧ is = (List.range (n - j)).map (fun i => j + i) ∧ j ≤ n)
      (fun fl ρ s => ∃ (x' y' : Int) (R' : List (List Nat)) (o6 o7 : Option D), fl = .next ∧ ρ = [some (.ref 0), some (.int m), some (nI n), some (.lst (ids.map nI)), none, some (.ref (rest.length + 1 + n)), o6, o7] ∧ s = J x' y' :: (rest ++ (R'.map oL ++ [.lst refs])) ∧ RW f n R')
      ?_ ?_ (List.range n) [some (.ref 0), some (.int m), some (nI n), some (.lst (ids.map nI)), none, some (.ref (rest.length + 1 + n)), o6, o7] (J x y :: (rest ++ (R.map oL ++ [.lst refs]))) ⟨x, y, R, o6, o7, 0, rfl, rfl, hR, fun i _ hi => h2 i hi, by simp, by omega⟩
  · obtain ⟨fl, ρ', s, h1, x', y', R', o6', o7', rfl, rfl, rfl, h2⟩ := this
    exact ⟨R', x', y', o6', o7', h1, h2⟩
  · rintro ρ s ⟨x', y', R', o6, o7, j, rfl, rfl, h1, h2, h3, h4⟩
    exact ⟨rfl, x', y', R', o6, o7, rfl, rfl, rfl, h1⟩
  · rintro i is ρ s ⟨x', y', R', o6, o7, j, rfl, rfl, h1, h2, h3, h4⟩
    have hj : j < n := by
      rcases Nat.lt_or_ge j n with k | k
      · exact k
      · rw [show n - j = 0 by omega] at h3; simp at h3
    obtain ⟨mm, hm⟩ : ∃ mm, n - j = mm + 1 := ⟨n - j - 1, by omega⟩
    rw [hm, List.range_succ_eq_map, List.map_cons, List.cons.injEq] at h3
    obtain ⟨e0, h3⟩ := h3
    rw [Nat.add_zero] at e0
    subst i
    refine ⟨rfl, .inl ?_⟩
    have hl := h1.len
    obtain ⟨v, x1, y1, hv, e1⟩ := T_take (W := W) (k := k + 2) (top := 3) (by omega) (by omega) x' y' (rest ++ (R'.map oL ++ [.lst refs]))
    have e1' : callE (callR fns W (k + 3)) i_law_take [.ref 0, .int 3] (J x' y' :: (rest ++ (R'.map oL ++ [.lst refs]))) = some (nI v, J x1 y1 :: (rest ++ (R'.map oL ++ [.lst refs]))) := e1
    have d1 : ∃ ex1 : List Nat, ex1.length ≤ 1 ∧ (∀ c ∈ ex1, c < 24) ∧ evL (callR fns W (k + 3)) (.ite (.cmp .eq (.call i_law_take (.cons (.var 0) (.cons (.con (.int 3)) .nil))) (.con (.int 0))) (.disp (.cons (.idx (.var 3) (.bin .sub (.var 2) (.con (.int 1)))) .nil)) (.disp .nil)) [some (.ref 0), some (.int m), some (nI n), some (.lst (ids.map nI)), none, some (.ref (rest.length + 1 + n)), some (nI j), some (.ref (rest.length + 1 + j))] (J x' y' :: (rest ++ (R'.map oL ++ [.lst refs]))) = some (ex1.map nI, J x1 y1 :: (rest ++ (R'.map oL ++ [.lst refs]))) := by
      by_cases h0 : v = 0
      · subst h0
        have hg := hf (n - 1) (by omega)
        have i1 : ∀ s, idxD s (.lst (ids.map nI)) (.int ((n - 1 : Nat) : Int)) = some (nI (f (n - 1))) := fun s => idx_seq (seq_lst _) (by rw [List.getElem?_map, hg.1]; rfl)
        refine ⟨[f (n - 1)], by simp, by simpa using hg.2, ?_⟩
        simp [e1', cmpD, binD]
        rw [show (n : Int) - 1 = ((n - 1 : Nat) : Int) by omega, i1]
        rfl
      · have : ¬ ((v : Int) = 0) := by omega
        exact ⟨[], by simp, by simp, by simp [e1', cmpD, this, h0]⟩
    obtain ⟨ex1, x1l, x1t, d1⟩ := d1
    obtain ⟨R1, hR1⟩ : ∃ R1, R1 = R'.set j (cols R' j ++ ex1) := ⟨_, rfl⟩
    have hR1l : R1.length = n := by rw [hR1, List.length_set]; exact hl
    have c1 : cols R1 j = cols R' j ++ ex1 := by rw [hR1, cols_set (by omega), if_pos rfl]
    obtain ⟨u, x2, y2, hu, e2⟩ := T_take (W := W) (k := k + 2) (top := 3) (by omega) (by omega) x1 y1 (rest ++ (R1.map oL ++ [.lst refs]))
    have e2' : callE (callR fns W (k + 3)) i_law_take [.ref 0, .int 3] (J x1 y1 :: (rest ++ (R1.map oL ++ [.lst refs]))) = some (nI u, J x2 y2 :: (rest ++ (R1.map oL ++ [.lst refs]))) := e2
    have d2 : ∃ ex2 : List Nat, ex2.length ≤ 1 ∧ (∀ c ∈ ex2, c < 24) ∧ evL (callR fns W (k + 3)) (.ite (.cmp .eq (.call i_law_take (.cons (.var 0) (.cons (.con (.int 3)) .nil))) (.con (.int 0))) (.disp (.cons (.idx (.var 3) (.bin .add (.var 2) (.var 6))) .nil)) (.disp .nil)) [some (.ref 0), some (.int m), some (nI n), some (.lst (ids.map nI)), none, some (.ref (rest.length + 1 + n)), some (nI j), some (.ref (rest.length + 1 + j))] (J x1 y1 :: (rest ++ (R1.map oL ++ [.lst refs]))) = some (ex2.map nI, J x2 y2 :: (rest ++ (R1.map oL ++ [.lst refs]))) := by
      by_cases h0 : u = 0
      · subst h0
        have hg := hf (n + j) (by omega)
        have i1 : ∀ s, idxD s (.lst (ids.map nI)) (.int ((n + j : Nat) : Int)) = some (nI (f (n + j))) := fun s => idx_seq (seq_lst _) (by rw [List.getElem?_map, hg.1]; rfl)
        refine ⟨[f (n + j)], by simp, by simpa using hg.2, ?_⟩
        simp [e2', cmpD, binD]
        rw [show (n : Int) + (j : Int) = ((n + j : Nat) : Int) by omega, i1]
        rfl
      · have : ¬ ((u : Int) = 0) := by omega
        exact ⟨[], by simp, by simp, by simp [e2', cmpD, this, h0]⟩
    obtain ⟨ex2, x2l, x2t, d2⟩ := d2
    obtain ⟨R2, hR2⟩ : ∃ R2, R2 = R1.set j (cols R1 j ++ ex2) := ⟨_, rfl⟩
    have hR2l : R2.length = n := by rw [hR2, List.length_set]; exact hR1l
    have hc2 : ∀ i, cols R2 i = if j = i then cols R' j ++ ex1 ++ ex2 else cols R' i := fun i => by
      rw [hR2, cols_set (by omega), c1]
      by_cases e : j = i
      · simp [e]
      · rw [if_neg e, if_neg e, hR1, cols_set (by omega), if_neg e]
    have hlj := h2 j (Nat.le_refl _) hj
    refine ⟨[some (.ref 0), some (.int m), some (nI n), some (.lst (ids.map nI)), none, some (.ref (rest.length + 1 + n)), some (nI j), some (.ref (rest.length + 1 + j))], J x2 y2 :: (rest ++ (R2.map oL ++ [.lst refs])), ?_, x2, y2, R2, _, _, j + 1, rfl, rfl, ⟨hR2l, ?_, ?_, ?_, ?_⟩, ?_, ?_, hj⟩
    · have hfr : (J x' y' :: (rest ++ (R'.map oL ++ [.lst refs])))[rest.length + 1 + n]? = some (.lst refs) := by
        have := getF (a := x') (b := y') (rest := rest) (ex := []) (R := R') (o := .lst refs)
        rwa [hl] at this
      have hix : idxD (J x' y' :: (rest ++ (R'.map oL ++ [.lst refs]))) (.ref (rest.length + 1 + n)) (.int (j : Int)) = some (.ref (rest.length + 1 + j)) := by
        refine idx_seq (xs := refs) (by rw [seq_ref, hfr]) ?_
        rw [hrefs, List.getElem?_map, List.getElem?_range hj]
        rfl
      have q1 : evS (callR fns W (k + 3)) W (.asg (.nm 7) (.idx (.var 5) (.var 6))) [some (.ref 0), some (.int m), some (nI n), some (.lst (ids.map nI)), none, some (.ref (rest.length + 1 + n)), some (nI j), o7] (J x' y' :: (rest ++ (R'.map oL ++ [.lst refs]))) =
          some (.next, [some (.ref 0), some (.int m), some (nI n), some (.lst (ids.map nI)), none, some (.ref (rest.length + 1 + n)), some (nI j), some (.ref (rest.length + 1 + j))], J x' y' :: (rest ++ (R'.map oL ++ [.lst refs]))) := by
        simp [hix]
      have g1 := getR (a := x') (b := y') (rest := rest) (ex := [.lst refs]) (R := R') (i := j) (by omega)
      have g1' := getR (a := x1) (b := y1) (rest := rest) (ex := [.lst refs]) (R := R') (i := j) (by omega)
      have g2 := getR (a := x1) (b := y1) (rest := rest) (ex := [.lst refs]) (R := R1) (i := j) (by omega)
      have g2' := getR (a := x2) (b := y2) (rest := rest) (ex := [.lst refs]) (R := R1) (i := j) (by omega)
      have s1 := setR (a := x1) (b := y1) (rest := rest) (ex := [.lst refs]) (R := R') (i := j) (cols R' j ++ ex1) (by omega)
      have s2 := setR (a := x2) (b := y2) (rest := rest) (ex := [.lst refs]) (R := R1) (i := j) (cols R1 j ++ ex2) (by omega)
      rw [← hR1] at s1
      rw [← hR2] at s2
      have hl1 : (cols R1 j).length ≤ 3 := by rw [c1, List.length_append]; omega
      have q2 : evS (callR fns W (k + 3)) W (.ext (.var 7) (.ite (.cmp .eq (.call i_law_take (.cons (.var 0) (.cons (.con (.int 3)) .nil))) (.con (.int 0))) (.disp (.cons (.idx (.var 3) (.bin .sub (.var 2) (.con (.int 1)))) .nil)) (.disp .nil))) [some (.ref 0), some (.int m), some (nI n), some (.lst (ids.map nI)), none, some (.ref (rest.length + 1 + n)), some (nI j), some (.ref (rest.length + 1 + j))] (J x' y' :: (rest ++ (R'.map oL ++ [.lst refs]))) =
          some (.next, [some (.ref 0), some (.int m), some (nI n), some (.lst (ids.map nI)), none, some (.ref (rest.length + 1 + n)), some (nI j), some (.ref (rest.length + 1 + j))], J x1 y1 :: (rest ++ (R1.map oL ++ [.lst refs]))) := by
        rw [s_ext]
        rw [show evE (callR fns W (k + 3)) (.var 7) [some (.ref 0), some (.int m), some (nI n), some (.lst (ids.map nI)), none, some (.ref (rest.length + 1 + n)), some (nI j), some (.ref (rest.length + 1 + j))] (J x' y' :: (rest ++ (R'.map oL ++ [.lst refs]))) = some (.ref (rest.length + 1 + j), J x' y' :: (rest ++ (R'.map oL ++ [.lst refs]))) by simp]
        rw [bnd_some, isL_ref, g1]
        dsimp only
        rw [if_pos rfl, d1, bnd_some, ext_ref, g1']
        dsimp only
        rw [if_pos (by simp only [cap, List.length_map]; exact decide_eq_true (by omega)), ← List.map_append, s1]
        rfl
      have q3 : evS (callR fns W (k + 3)) W (.ext (.var 7) (.ite (.cmp .eq (.call i_law_take (.cons (.var 0) (.cons (.con (.int 3)) .nil))) (.con (.int 0))) (.disp (.cons (.idx (.var 3) (.bin .add (.var 2) (.var 6))) .nil)) (.disp .nil))) [some (.ref 0), some (.int m), some (nI n), some (.lst (ids.map nI)), none, some (.ref (rest.length + 1 + n)), some (nI j), some (.ref (rest.length + 1 + j))] (J x1 y1 :: (rest ++ (R1.map oL ++ [.lst refs]))) =
          some (.next, [some (.ref 0), some (.int m), some (nI n), some (.lst (ids.map nI)), none, some (.ref (rest.length + 1 + n)), some (nI j), some (.ref (rest.length + 1 + j))], J x2 y2 :: (rest ++ (R2.map oL ++ [.lst refs]))) := by
        rw [s_ext]
        rw [show evE (callR fns W (k + 3)) (.var 7) [some (.ref 0), some (.int m), some (nI n), some (.lst (ids.map nI)), none, some (.ref (rest.length + 1 + n)), some (nI j), some (.ref (rest.length + 1 + j))] (J x1 y1 :: (rest ++ (R1.map oL ++ [.lst refs]))) = some (.ref (rest.length + 1 + j), J x1 y1 :: (rest ++ (R1.map oL ++ [.lst refs]))) by simp]
        rw [bnd_some, isL_ref, g2]
        dsimp only
        rw [if_pos rfl, d2, bnd_some, ext_ref, g2']
        dsimp only
        rw [if_pos (by simp only [cap, List.length_map]; exact decide_eq_true (by omega)), ← List.map_append, s2]
        rfl
      rw [bodyF, bind_nm, if_pos (by simp)]
      dsimp only [List.set]
      rw [ss_cons _ _ _ _ _ _ q1, ss_cons _ _ _ _ _ _ q2, ss_cons _ _ _ _ _ _ q3, ss_nil]
    · intro i hi
      rw [hc2]
      split
      · rename_i e
        rw [← e]
        simp [h1.own j hj]
      · exact h1.own i hi
    · intro i hi
      rw [hc2]
      split
      · rename_i e
        rw [← e]
        have := h1.back j hj
        simp [this]
      · exact h1.back i hi
    · intro i hi
      rw [hc2]
      split
      · simp only [List.length_append]
        omega
      · exact h1.few i hi
    · intro i hi c hc
      rw [hc2] at hc
      split at hc
      · simp only [List.mem_append] at hc
        rcases hc with (hc | hc) | hc
        · exact h1.lt j hj c hc
        · exact x1t c hc
        · exact x2t c hc
      · exact h1.lt i hi c hc
    · intro i hi1 hi2
      rw [hc2, if_neg (by omega)]
      exact h2 i (by omega) hi2
    · rw [h3, show n - (j + 1) = mm by omega, List.map_map]
      refine List.map_congr_left fun i _ => ?_
      simp only [Function.comp]
      omega
end K56

end

section
set_option maxRecDepth 100000
set_option maxHeartbeats 4000000
namespace K56
open MM MP PySem
variable {W : Nat}
theorem eg_map_to {cl : Cl} {ρ : Rho} {st st1 : St} {g : G} {it : It} {e : E} {α : Type} (φ : α → D) (xs : List α) (e' : α → D) (src : Option (Nat × List D))
    (hit : evIt cl it ρ st = some ((xs.map φ, src), st1)) (hs : stays src st1 = true)
    (hb : ∀ x ∈ xs, ∃ ρ', bindG g (φ x) (wipeR ρ g.slots) = some ρ' ∧ evE cl e ρ' st1 = some (e' x, st1)) :
    evGs cl (.one g it .nil e) ρ st = some (xs.map e', st1) := by
  rw [evGs, hit]
  simp only [bnd_some]
  rw [walkF_flat φ (fun x => [e' x]) hs xs]
  · congr 2
    clear hit hb
    induction xs with
    | nil => rfl
    | cons x xs ih => rw [List.flatMap_cons, ih]; rfl
  intro x hx
  obtain ⟨ρ', h1, h2⟩ := hb x hx
  rw [h1]
  simp [h2]
abbrev tellE : E := .tupL (.comp (.one (.nm 7) (.seq (.call i_law_mixed (.cons (.var 0) (.cons (.var 5) .nil)))) .nil (.call i_law_rising (.cons (.frz (.comp (.one (.nm 4) (.seq (.var 7)) .nil (.frz (.disp (.cons (.var 4) .nil)))))) .nil))))
theorem T_tell {k : Nat} {rest2 : St} {F : Nat} {is : List Nat} {row : Nat → List Nat} (hF : ∀ x y, (J x y :: rest2)[F]? = some (.lst (is.map .ref))) (hrow : ∀ j ∈ is, ∀ x y, (J x y :: rest2)[j]? = some (oL (row j)))
    (h24 : ∀ j ∈ is, (∀ c ∈ row j, c < 24) ∧ (row j).length ≤ 4) (hl : is.length ≤ 8) (o1 o2 o3 o6 o7 : Option D) (x y : Int) :
    ∃ (js : List Nat) (x' y' : Int), js.Perm is ∧ evE (callR fns W (k + 3)) tellE [some (.ref 0), o1, o2, o3, none, some (.ref F), o6, o7] (J x y :: rest2) = some (bk (js.map fun j => up (row j)), J x' y' :: rest2) := by
  have hlt : ∀ j ∈ is, j < rest2.length + 1 := fun j hj => lt_of_get (hrow j hj 0 0)
  obtain ⟨ys, hy, x1, y1, e1⟩ := T_mixed (W := W) (k := k + 1) (x := .ref F) (xs := is.map .ref) x y rest2 (fun a b => by rw [seq_ref, hF]) (by simp; omega) (fun z hz => by
    obtain ⟨j, hj, rfl⟩ := List.mem_map.1 hz
    exact .inr ⟨j, hlt j hj, rfl⟩)
  obtain ⟨js, rfl, hjs⟩ := perm_map_inv D.ref _ _ hy
  have hjl := hjs.length_eq
  refine ⟨js, x1, y1, hjs, ?_⟩
  rw [ev_tupL, el_comp]
  rw [eg_map_to (st1 := J x1 y1 :: rest2) D.ref js (fun j => tI (up (row j))) none (by simp [e1]) rfl (fun j hj => by
    have hji := hjs.mem_iff.1 hj
    have hg := hrow j hji x1 y1
    refine ⟨[some (.ref 0), o1, o2, o3, none, some (.ref F), o6, some (.ref j)], by simp, ?_⟩
    have qf : evE (callR fns W (k + 3)) (.frz (.comp (.one (.nm 4) (.seq (.var 7)) .nil (.frz (.disp (.cons (.var 4) .nil)))))) [some (.ref 0), o1, o2, o3, none, some (.ref F), o6, some (.ref j)] (J x1 y1 :: rest2) = some (.lst ((row j).map fun c => .lst [nI c]), J x1 y1 :: rest2) := by
      rw [ev_frz, el_comp]
      rw [eg_map nI (row j) (fun c => .lst [nI c]) (some (j, (row j).map nI)) (by simp [hg]) (stays_self hg) (fun c _ => ⟨_, by simp; rfl, by simp⟩)]
      have := (h24 j hji).2
      simp only [bnd_some, List.length_map]
      rw [if_pos (by simp only [cap]; exact decide_eq_true (by omega))]
      rfl
    simp [-ev_frz, qf, (S_up (W := W) (k := k + 2) (h24 j hji).1).call])]
  simp only [bnd_some, List.length_map]
  rw [if_pos (by simp only [cap]; exact decide_eq_true (by omega))]
  simp [bk]
theorem T_ring {k m : Nat} (hm1 : 3 ≤ m) (hm2 : m ≤ 7) (x y : Int) (rest : St) : ∃ B x' y', callE (callR fns W (k + 4)) i_law_ring_book [.ref 0, .int (m : Int)] (J x y :: rest) = some (bk B, J x' y' :: rest) ∧ B ≠ [] ∧ B.length ≤ m + 1 ∧ (∀ s ∈ B, Sch s) ∧ HB B := by
  obtain ⟨v, x1, y1, hv, e1⟩ := T_take (W := W) (k := k + 2) (top := m - 2) (by omega) (by omega) x y rest
  have e1' : callE (callR fns W (k + 3)) i_law_take [.ref 0, .int ((m : Int) - 2)] (J x y :: rest) = some (nI v, J x1 y1 :: rest) := by
    rw [show (m : Int) - 2 = ((m - 2 : Nat) : Int) by omega]
    exact e1
  obtain ⟨ps, hp, x2, y2, e2⟩ := T_mixed_nat (W := W) (k := k + 1) (n := 24) (by omega) x1 y1 rest
  have hpl := hp.length_eq
  rw [List.length_range] at hpl
  obtain ⟨f, hfd⟩ : ∃ f : Nat → Nat, f = fun c => ps.getD c 0 := ⟨_, rfl⟩
  have hf : ∀ i, i < 24 → ps[i]? = some (f i) ∧ f i < 24 := fun c hc => by
    have h1 : ps[c]? = some (f c) := by rw [hfd]; show ps[c]? = some (ps.getD c 0); rw [List.getD, List.getElem?_eq_getElem (by omega)]; rfl
    exact ⟨h1, List.mem_range.1 (hp.mem_iff.1 (List.mem_of_getElem? h1))⟩
  obtain ⟨n, hn⟩ : ∃ n, n = 3 + v := ⟨_, rfl⟩
  obtain ⟨bk0, hbk0⟩ : ∃ g : Nat → Nat, g = fun i => if i = 0 then n - 1 else i - 1 := ⟨_, rfl⟩
  obtain ⟨R0, hR0⟩ : ∃ R0, R0 = (List.range n).map fun i => [f i, f (bk0 i)] := ⟨_, rfl⟩
  have hR0l : R0.length = n := by rw [hR0]; simp
  have hc0 : ∀ i, i < n → cols R0 i = [f i, f (bk0 i)] := fun i hi => by
    rw [hR0, cols_get, List.getElem?_map, List.getElem?_range hi]
    rfl
  have hRW : RW f n R0 := by
    refine ⟨hR0l, fun i hi => by rw [hc0 i hi]; simp, fun i hi => by rw [hc0 i hi, hbk0]; simp, fun i hi => by rw [hc0 i hi]; simp, fun i hi c hc => ?_⟩
    rw [hc0 i hi] at hc
    simp only [List.mem_cons, List.not_mem_nil, or_false] at hc
    rcases hc with rfl | rfl
    · exact (hf i (by omega)).2
    · refine (hf _ ?_).2
      rw [hbk0]
      dsimp only
      split <;> omega
  obtain ⟨refs, hrefs⟩ : ∃ refs, refs = (List.range n).map fun i => D.ref (rest.length + 1 + i) := ⟨_, rfl⟩
  obtain ⟨R, x3, y3, o6, o7, e3, hR⟩ := ring_rows (W := W) (k := k) hpl hf (n := n) (by omega) (by omega) x2 y2 rest hRW (fun i hi => by rw [hc0 i hi]; simp) none none refs hrefs
  have hRl := hR.len
  have hRup : ∀ i, i < n → ∀ c, c ∈ up (cols R i) ↔ c ∈ cols R i := fun i hi c => mem_up (hR.lt i hi)
  have hHR : HB (R.map up) := by
    refine chain_hung (n - 1) _ (by rw [List.length_map]; omega) fun i hi => ?_
    rw [List.length_map] at hi
    refine ⟨f i, ?_, ?_⟩
    · rw [cols_map (by omega), hRup i (by omega)]
      exact hR.own i (by omega)
    · rw [cols_map (by omega), hRup (i + 1) (by omega)]
      have := hR.back (i + 1) (by omega)
      simpa using this
  have hSR : ∀ i, i < n → Sch (up (cols R i)) := fun i hi => up_sch (hR.lt i hi) (List.ne_nil_of_mem (hR.own i hi)) (hR.few i hi)
  have hRmap : (List.range n).map (fun i => up (cols R i)) = R.map up := by
    apply List.ext_getElem
    · simp [hRl]
    · intro i h1 h2
      simp at h1 h2
      simp [cols_get, h2]
  obtain ⟨w, x4, y4, hw, e4⟩ := T_take (W := W) (k := k + 2) (top := 2) (by omega) (by omega) x3 y3 (rest ++ (R.map oL ++ [.lst refs]))
  have e4' : callE (callR fns W (k + 3)) i_law_take [.ref 0, .int 2] (J x3 y3 :: (rest ++ (R.map oL ++ [.lst refs]))) = some (nI w, J x4 y4 :: (rest ++ (R.map oL ++ [.lst refs]))) := e4
  have hfr : ∀ (a b : Int) (ex : St) (o : O), (J a b :: (rest ++ (R.map oL ++ o :: ex)))[rest.length + 1 + n]? = some o := fun a b ex o => by
    have := getF (a := a) (b := b) (rest := rest) (ex := ex) (R := R) (o := o)
    rwa [hRl] at this
  have q1 : evS (callR fns W (k + 3)) W (.asg (.nm 2) (.bin .add (.con (.int 3)) (.call i_law_take (.cons (.var 0) (.cons (.bin .sub (.var 1) (.con (.int 2))) .nil))))) [some (.ref 0), some (.int (m : Int)), none, none, none, none, none, none] (J x y :: rest) =
      some (.next, [some (.ref 0), some (.int (m : Int)), some (nI n), none, none, none, none, none], J x1 y1 :: rest) := by
    simp [binD, e1', hn]
  have q2 : evS (callR fns W (k + 3)) W (.asg (.nm 3) (.call i_law_mixed (.cons (.var 0) (.cons (.frz (.comp (.one (.nm 4) (.rng1 (.con (.int 24))) .nil (.var 4)))) .nil)))) [some (.ref 0), some (.int (m : Int)), some (nI n), none, none, none, none, none] (J x1 y1 :: rest) =
      some (.next, [some (.ref 0), some (.int (m : Int)), some (nI n), some (.lst (ps.map nI)), none, none, none, none], J x2 y2 :: rest) := by
    have qf : ∀ s, evE (callR fns W (k + 3)) (.frz (.comp (.one (.nm 4) (.rng1 (.con (.int 24))) .nil (.var 4)))) [some (.ref 0), some (.int (m : Int)), some (nI n), none, none, none, none, none] s = some (.lst ((List.range 24).map nI), s) := fun s => by
      rw [ev_frz, el_comp]
      rw [eg_map nI (List.range 24) nI none (ei_rng1 _ _ _ _ 24 _ (by simp) (by omega)) rfl (fun c _ => ⟨_, by simp; rfl, by simp⟩)]
      simp only [bnd_some, List.length_map, List.length_range]
      rw [if_pos (by simp only [cap]; exact decide_eq_true (by omega))]
      rfl
    simp [-ev_frz, qf, e2]
  have q3 : evS (callR fns W (k + 3)) W (.asg (.nm 5) (.new (.comp (.one (.nm 6) (.rng1 (.var 2)) .nil (.new (.disp (.cons (.idx (.var 3) (.var 6)) (.cons (.idx (.var 3) (.bin .mod (.intf (.bin .sub (.var 6) (.con (.int 1)))) (.var 2))) .nil)))))))) [some (.ref 0), some (.int (m : Int)), some (nI n), some (.lst (ps.map nI)), none, none, none, none] (J x2 y2 :: rest) =
      some (.next, [some (.ref 0), some (.int (m : Int)), some (nI n), some (.lst (ps.map nI)), none, some (.ref (rest.length + 1 + n)), none, none], J x2 y2 :: (rest ++ (R0.map oL ++ [.lst refs]))) := by
    rw [s_asg, ev_new, el_comp]
    rw [eg_new nI (List.range n) (fun i => oL [f i, f (bk0 i)]) (ei_rng1 _ _ _ _ _ _ (by simp) (by omega)) (fun i hi s => by
      have hi' := List.mem_range.1 hi
      have hb : bk0 i < 24 := by rw [hbk0]; dsimp only; split <;> omega
      have i1 : idxD s (.lst (ps.map nI)) (.int (i : Int)) = some (nI (f i)) := idx_seq (seq_lst _) (by rw [List.getElem?_map, (hf i (by omega)).1]; rfl)
      have i2 : idxD s (.lst (ps.map nI)) (.int ((bk0 i : Nat) : Int)) = some (nI (f (bk0 i))) := idx_seq (seq_lst _) (by rw [List.getElem?_map, (hf _ hb).1]; rfl)
      have hm : ((i : Int) - 1).fmod (n : Int) = ((bk0 i : Nat) : Int) := by rw [mod_back n (by omega) i hi', hbk0]
      have hn0 : ¬ (n = 0) := by omega
      refine ⟨[some (.ref 0), some (.int (m : Int)), some (nI n), some (.lst (ps.map nI)), none, none, some (nI i), none], by simp, ?_⟩
      simp [i1, binD, intD, hm, hn0, i2])]
    simp only [bnd_some, List.length_map, List.length_range]
    rw [if_pos (by simp only [cap]; exact decide_eq_true (by omega))]
    rw [hrefs, hR0]
    simp
    omega
  have q4 : evS (callR fns W (k + 3)) W (.forS (.nm 6) (.rng1 (.var 2)) (.cons (.asg (.nm 7) (.idx (.var 5) (.var 6)))
    (.cons (.ext (.var 7) (.ite (.cmp .eq (.call i_law_take (.cons (.var 0) (.cons (.con (.int 3)) .nil))) (.con (.int 0))) (.disp (.cons (.idx (.var 3) (.bin .sub (.var 2) (.con (.int 1)))) .nil)) (.disp .nil)))
    (.cons (.ext (.var 7) (.ite (.cmp .eq (.call i_law_take (.cons (.var 0) (.cons (.con (.int 3)) .nil))) (.con (.int 0))) (.disp (.cons (.idx (.var 3) (.bin .add (.var 2) (.var 6))) .nil)) (.disp .nil)))
    .nil)))) [some (.ref 0), some (.int (m : Int)), some (nI n), some (.lst (ps.map nI)), none, some (.ref (rest.length + 1 + n)), none, none] (J x2 y2 :: (rest ++ (R0.map oL ++ [.lst refs]))) =
      some (.next, [some (.ref 0), some (.int (m : Int)), some (nI n), some (.lst (ps.map nI)), none, some (.ref (rest.length + 1 + n)), o6, o7], J x3 y3 :: (rest ++ (R.map oL ++ [.lst refs]))) := by
    rw [s_for]
    rw [ei_rng1 (n := n) _ _ _ _ _ (by simp; rfl) (by omega)]
    exact e3
  have fin : ∀ (ρ5 : Rho) (rest2 : St) (B : List (List Nat)) (x5 y5 x6 y6 : Int) (ex : St),
      evS (callR fns W (k + 3)) W (.ite (.cmp .eq (.call i_law_take (.cons (.var 0) (.cons (.con (.int 2)) .nil))) (.con (.int 0))) (.cons (.app (.var 5) (.new (.disp (.cons (.call i_law_one (.cons (.var 0) (.cons (.slice (.var 3) .none (.some (.var 2))) .nil))) (.cons (.idx (.var 3) (.con (.int 23))) .nil)))))
    .nil) .nil) [some (.ref 0), some (.int (m : Int)), some (nI n), some (.lst (ps.map nI)), none, some (.ref (rest.length + 1 + n)), o6, o7] (J x3 y3 :: (rest ++ (R.map oL ++ [.lst refs]))) = some (.next, ρ5, J x5 y5 :: rest2) →
      evE (callR fns W (k + 3)) tellE ρ5 (J x5 y5 :: rest2) = some (bk B, J x6 y6 :: rest2) → rest2 = rest ++ ex → callE (callR fns W (k + 4)) i_law_ring_book [.ref 0, .int (m : Int)] (J x y :: rest) = some (bk B, J x6 y6 :: rest) := by
    intro ρ5 rest2 B x5 y5 x6 y6 ex h5 h6 hex
    unfold callE
    rw [run_at (fn := m_law_ring_book) rfl]
    have : runF (callR fns W (k + 3)) W m_law_ring_book [.ref 0, .int (m : Int)] (J x y :: rest) = some (bk B, J x6 y6 :: (rest ++ ex)) := by
      refine runF_ret (fn := m_law_ring_book) (ρ' := ρ5) rfl ?_
      show evSs _ _ (.cons _ _) [some (.ref 0), some (.int (m : Int)), none, none, none, none, none, none] (J x y :: rest) = _
      rw [ss_cons _ _ _ _ _ _ q1, ss_cons _ _ _ _ _ _ q2, ss_cons _ _ _ _ _ _ q3, ss_cons _ _ _ _ _ _ q4, ss_cons _ _ _ _ _ _ h5]
      rw [ss_step, s_ret, h6, ← hex]
      rfl
    rw [this]
    exact fin_J (by simp)
  have is1 : refs = ((List.range n).map fun i => rest.length + 1 + i).map D.ref := by rw [hrefs, List.map_map]; rfl
  by_cases h0 : w = 0
  · subst h0
    obtain ⟨d, hd, x5, y5, e5⟩ := T_one (W := W) (k := k + 1) (x := .lst ((ps.take n).map nI)) (xs := (ps.take n).map nI) x4 y4 (rest ++ (R.map oL ++ [.lst refs])) (fun _ _ => rfl) (by
      intro e
      have := congrArg List.length e
      rw [List.length_map, List.length_take, List.length_nil] at this
      omega) (by rw [List.length_map, List.length_take]; omega) (fun z hz => by obtain ⟨m, _, rfl⟩ := List.mem_map.1 hz; rfl)
    obtain ⟨c, hc, rfl⟩ := List.mem_map.1 hd
    obtain ⟨j, hj, hcj⟩ : ∃ j, j < n ∧ c = f j := by
      obtain ⟨j, hj, e⟩ := List.getElem_of_mem hc
      rw [List.length_take] at hj
      have hj' : j < n := by omega
      refine ⟨j, hj', ?_⟩
      rw [List.getElem_take] at e
      have := (hf j (by omega)).1
      rw [List.getElem?_eq_getElem (by omega), Option.some.injEq] at this
      rw [← e, this]
    have hc24 : c < 24 := by rw [hcj]; exact (hf j (by omega)).2
    have h23 := hf 23 (by omega)
    have i23 : ∀ s, idxD s (.lst (ps.map nI)) (.int 23) = some (nI (f 23)) := fun s => idx_seq (i := 23) (seq_lst _) (by rw [List.getElem?_map, h23.1]; rfl)
    obtain ⟨row, hrow⟩ : ∃ row : Nat → List Nat, row = fun z => cols (R ++ [[], [c, f 23]]) (z - (rest.length + 1)) := ⟨_, rfl⟩
    have hr1 : ∀ i, i < n → row (rest.length + 1 + i) = cols R i := fun i hi => by
      rw [hrow]
      dsimp only
      rw [Nat.add_sub_cancel_left, cols_app_l (by omega)]
    have hr2 : row (rest.length + 1 + n + 1) = [c, f 23] := by
      rw [hrow]
      dsimp only
      rw [show rest.length + 1 + n + 1 - (rest.length + 1) = R.length + 1 by omega, cols_app_r]
      rfl
    have q5 : evS (callR fns W (k + 3)) W (.ite (.cmp .eq (.call i_law_take (.cons (.var 0) (.cons (.con (.int 2)) .nil))) (.con (.int 0))) (.cons (.app (.var 5) (.new (.disp (.cons (.call i_law_one (.cons (.var 0) (.cons (.slice (.var 3) .none (.some (.var 2))) .nil))) (.cons (.idx (.var 3) (.con (.int 23))) .nil)))))
    .nil) .nil) [some (.ref 0), some (.int (m : Int)), some (nI n), some (.lst (ps.map nI)), none, some (.ref (rest.length + 1 + n)), o6, o7] (J x3 y3 :: (rest ++ (R.map oL ++ [.lst refs]))) =
        some (.next, [some (.ref 0), some (.int (m : Int)), some (nI n), some (.lst (ps.map nI)), none, some (.ref (rest.length + 1 + n)), o6, o7], J x5 y5 :: (rest ++ (R.map oL ++ [.lst (refs ++ [.ref (rest.length + 1 + n + 1)]), oL [c, f 23]]))) := by
      have hsl : ∀ s, sliceD s (.lst (ps.map nI)) none (some (n : Int)) = some (.lst ((ps.take n).map nI)) := fun s => by
        simp only [sliceD, seq_lst, Option.map_some]
        rw [cut_take (α := D), List.map_take]
      have ht : test (callR fns W (k + 3)) (.cmp .eq (.call i_law_take (.cons (.var 0) (.cons (.con (.int 2)) .nil))) (.con (.int 0))) [some (.ref 0), some (.int (m : Int)), some (nI n), some (.lst (ps.map nI)), none, some (.ref (rest.length + 1 + n)), o6, o7] (J x3 y3 :: (rest ++ (R.map oL ++ [.lst refs]))) = some (true, J x4 y4 :: (rest ++ (R.map oL ++ [.lst refs]))) := by
        simp [e4', cmpD]
      have hnew : evE (callR fns W (k + 3)) (.new (.disp (.cons (.call i_law_one (.cons (.var 0) (.cons (.slice (.var 3) .none (.some (.var 2))) .nil))) (.cons (.idx (.var 3) (.con (.int 23))) .nil)))) [some (.ref 0), some (.int (m : Int)), some (nI n), some (.lst (ps.map nI)), none, some (.ref (rest.length + 1 + n)), o6, o7] (J x4 y4 :: (rest ++ (R.map oL ++ [.lst refs]))) = some (.ref (rest.length + 1 + n + 1), J x5 y5 :: (rest ++ (R.map oL ++ [.lst refs, oL [c, f 23]]))) := by
        rw [List.map_take] at e5
        simp [hsl, e5, i23, hRl]
        omega
      rw [s_ite, ht]
      dsimp only
      refine (ss_cons _ _ _ _ (.app _ _) .nil ?_).trans (ss_nil _ _ _ _)
      rw [s_app]
      rw [show evE (callR fns W (k + 3)) (.var 5) [some (.ref 0), some (.int (m : Int)), some (nI n), some (.lst (ps.map nI)), none, some (.ref (rest.length + 1 + n)), o6, o7] (J x4 y4 :: (rest ++ (R.map oL ++ [.lst refs]))) = some (.ref (rest.length + 1 + n), J x4 y4 :: (rest ++ (R.map oL ++ [.lst refs]))) by simp]
      rw [bnd_some, isL_ref, hfr]
      dsimp only
      rw [if_pos rfl, hnew, bnd_some, app_ref, hfr]
      dsimp only
      have hrl : refs.length = n := by rw [hrefs]; simp
      rw [if_pos (by simp only [cap]; exact decide_eq_true (by omega))]
      have := setF (a := x5) (b := y5) (rest := rest) (ex := [oL [c, f 23]]) (R := R) (o := .lst refs) (x := .lst (refs ++ [.ref (rest.length + 1 + n + 1)]))
      rw [hRl] at this
      rw [this]
      rfl
    obtain ⟨js, x6, y6, hjs, e6⟩ := T_tell (W := W) (k := k) (rest2 := rest ++ (R.map oL ++ [.lst (refs ++ [.ref (rest.length + 1 + n + 1)]), oL [c, f 23]])) (F := rest.length + 1 + n) (is := ((List.range n).map fun i => rest.length + 1 + i) ++ [rest.length + 1 + n + 1]) (row := row)
      (fun a b => by rw [hfr, List.map_append, ← is1]; rfl)
      (fun j hj a b => by
        rw [List.mem_append, List.mem_map, List.mem_singleton] at hj
        rcases hj with ⟨i, hi, rfl⟩ | rfl
        · rw [hr1 i (List.mem_range.1 hi)]
          exact getR (by have := List.mem_range.1 hi; omega)
        · rw [hr2]
          rw [show rest.length + 1 + n + 1 = (rest.length + (R.map oL).length + 1) + 1 by rw [List.length_map]; omega, List.getElem?_cons_succ, ← List.append_assoc, List.getElem?_append_right (by simp)]
          simp)
      (fun j hj => by
        rw [List.mem_append, List.mem_map, List.mem_singleton] at hj
        rcases hj with ⟨i, hi, rfl⟩ | rfl
        · rw [hr1 i (List.mem_range.1 hi)]
          exact ⟨hR.lt i (List.mem_range.1 hi), hR.few i (List.mem_range.1 hi)⟩
        · rw [hr2]
          refine ⟨fun z hz => ?_, by simp⟩
          simp only [List.mem_cons, List.not_mem_nil, or_false] at hz
          rcases hz with rfl | rfl
          · exact hc24
          · exact h23.2)
      (by simp; omega) (some (.int (m : Int))) (some (nI n)) (some (.lst (ps.map nI))) o6 o7 x5 y5
    have hB0 : ((((List.range n).map fun i => rest.length + 1 + i) ++ [rest.length + 1 + n + 1]).map fun j => up (row j)) = R.map up ++ [up [c, f 23]] := by
      rw [List.map_append, List.map_map, ← hRmap, List.map_cons, List.map_nil, hr2]
      congr 1
      refine List.map_congr_left fun i hi => ?_
      simp only [Function.comp]
      rw [hr1 i (List.mem_range.1 hi)]
    have hperm := hjs.map fun j => up (row j)
    rw [hB0] at hperm
    have hlast : ∀ z, z ∈ up [c, f 23] ↔ z ∈ [c, f 23] := fun z => mem_up (by
      intro z hz
      simp only [List.mem_cons, List.not_mem_nil, or_false] at hz
      rcases hz with rfl | rfl
      · exact hc24
      · exact h23.2)
    refine ⟨_, x6, y6, fin _ _ _ x5 y5 x6 y6 _ q5 e6 rfl, ?_, ?_, ?_, ?_⟩
    · intro e
      have := hperm.length_eq
      rw [e] at this
      simp at this
    · rw [hperm.length_eq]
      simp
      omega
    · intro s hs
      have := hperm.mem_iff.1 hs
      rw [List.mem_append, List.mem_singleton, ← hRmap, List.mem_map] at this
      rcases this with ⟨i, hi, rfl⟩ | rfl
      · exact hSR i (List.mem_range.1 hi)
      · refine up_sch ?_ (by simp) (by simp)
        intro z hz
        simp only [List.mem_cons, List.not_mem_nil, or_false] at hz
        rcases hz with rfl | rfl
        · exact hc24
        · exact h23.2
    · refine HB.perm (HB.snoc hHR ⟨up (cols R j), ?_, c, ?_, (hlast c).2 (by simp)⟩) hperm.symm
      · rw [← hRmap]
        exact List.mem_map.2 ⟨j, List.mem_range.2 hj, rfl⟩
      · rw [hRup j hj, hcj]
        exact hR.own j hj
  · have hw0 : ¬ ((w : Int) = 0) := by omega
    obtain ⟨row, hrow⟩ : ∃ row : Nat → List Nat, row = fun z => cols R (z - (rest.length + 1)) := ⟨_, rfl⟩
    have hr1 : ∀ i, i < n → row (rest.length + 1 + i) = cols R i := fun i hi => by
      rw [hrow]
      dsimp only
      rw [Nat.add_sub_cancel_left]
    have q5 : evS (callR fns W (k + 3)) W (.ite (.cmp .eq (.call i_law_take (.cons (.var 0) (.cons (.con (.int 2)) .nil))) (.con (.int 0))) (.cons (.app (.var 5) (.new (.disp (.cons (.call i_law_one (.cons (.var 0) (.cons (.slice (.var 3) .none (.some (.var 2))) .nil))) (.cons (.idx (.var 3) (.con (.int 23))) .nil)))))
    .nil) .nil) [some (.ref 0), some (.int (m : Int)), some (nI n), some (.lst (ps.map nI)), none, some (.ref (rest.length + 1 + n)), o6, o7] (J x3 y3 :: (rest ++ (R.map oL ++ [.lst refs]))) =
        some (.next, [some (.ref 0), some (.int (m : Int)), some (nI n), some (.lst (ps.map nI)), none, some (.ref (rest.length + 1 + n)), o6, o7], J x4 y4 :: (rest ++ (R.map oL ++ [.lst refs]))) := by
      have ht : test (callR fns W (k + 3)) (.cmp .eq (.call i_law_take (.cons (.var 0) (.cons (.con (.int 2)) .nil))) (.con (.int 0))) [some (.ref 0), some (.int (m : Int)), some (nI n), some (.lst (ps.map nI)), none, some (.ref (rest.length + 1 + n)), o6, o7] (J x3 y3 :: (rest ++ (R.map oL ++ [.lst refs]))) = some (false, J x4 y4 :: (rest ++ (R.map oL ++ [.lst refs]))) := by
        simp [e4', cmpD, hw0, h0]
      rw [s_ite, ht]
      dsimp only
      rw [ss_nil]
    obtain ⟨js, x6, y6, hjs, e6⟩ := T_tell (W := W) (k := k) (rest2 := rest ++ (R.map oL ++ [.lst refs])) (F := rest.length + 1 + n) (is := (List.range n).map fun i => rest.length + 1 + i) (row := row)
      (fun a b => by rw [hfr, ← is1])
      (fun j hj a b => by
        rw [List.mem_map] at hj
        obtain ⟨i, hi, rfl⟩ := hj
        rw [hr1 i (List.mem_range.1 hi)]
        exact getR (by have := List.mem_range.1 hi; omega))
      (fun j hj => by
        rw [List.mem_map] at hj
        obtain ⟨i, hi, rfl⟩ := hj
        rw [hr1 i (List.mem_range.1 hi)]
        exact ⟨hR.lt i (List.mem_range.1 hi), hR.few i (List.mem_range.1 hi)⟩)
      (by simp; omega) (some (.int (m : Int))) (some (nI n)) (some (.lst (ps.map nI))) o6 o7 x4 y4
    have hB0 : (((List.range n).map fun i => rest.length + 1 + i).map fun j => up (row j)) = R.map up := by
      rw [List.map_map, ← hRmap]
      refine List.map_congr_left fun i hi => ?_
      simp only [Function.comp]
      rw [hr1 i (List.mem_range.1 hi)]
    have hperm := hjs.map fun j => up (row j)
    rw [hB0] at hperm
    refine ⟨_, x6, y6, fin _ _ _ x4 y4 x6 y6 _ q5 e6 rfl, ?_, ?_, ?_, hHR.perm hperm.symm⟩
    · intro e
      have := hperm.length_eq
      rw [e] at this
      simp at this
      omega
    · rw [hperm.length_eq]
      simp
      omega
    · intro s hs
      have := hperm.mem_iff.1 hs
      rw [← hRmap, List.mem_map] at this
      obtain ⟨i, hi, rfl⟩ := this
      exact hSR i (List.mem_range.1 hi)
theorem T_some {k most : Nat} (hm1 : 4 ≤ most) (hm2 : most ≤ 7) (x y : Int) (rest : St) : ∃ B x' y', callE (callR fns W (k + 13)) i_law_some_book [.ref 0, .int (most : Int)] (J x y :: rest) = some (bk B, J x' y' :: rest) ∧ Bk B ∧ B.length ≤ most ∧ PM.Hung (CC B) (· ∈ allS B) := by
  suffices ∃ B x' y', callE (callR fns W (k + 13)) i_law_some_book [.ref 0, .int (most : Int)] (J x y :: rest) = some (bk B, J x' y' :: rest) ∧ B ≠ [] ∧ B.length ≤ most ∧ (∀ s ∈ B, Sch s) ∧ HB B by
    obtain ⟨B, x', y', e, h1, h2, h3, h4⟩ := this
    have := List.length_pos_iff.2 h1
    exact ⟨B, x', y', e, bk_of (by omega) (by omega) h3, h2, h4.all⟩
  obtain ⟨v, x1, y1, hv, e1⟩ := T_take (W := W) (k := k + 11) (top := 4) (by omega) (by omega) x y rest
  have e1' : callE (callR fns W (k + 12)) i_law_take [.ref 0, .int 4] (J x y :: rest) = some (nI v, J x1 y1 :: rest) := e1
  by_cases h2 : v < 2
  · obtain ⟨B, x', y', e, hB⟩ := T_ringless (W := W) (k := k) (most := most) (by omega) (by omega) x1 y1 rest
    have e' : callE (callR fns W (k + 12)) i_law_ringless_book [.ref 0, .int (most : Int)] (J x1 y1 :: rest) = some (bk B, J x' y' :: rest) := e
    refine ⟨B, x', y', ?_, hB.1, by omega, hB.2.2.1, hB.2.2.2.hung⟩
    unfold callE
    rw [run_at (fn := m_law_some_book) rfl]
    simp only [runF, m_law_some_book]
    have : (v : Int) < 2 := by omega
    simp [e1', cmpD, cmpInt, this, e']
    exact fin_J0 (by simp)
  · have hv2 : ¬ ((v : Int) < 2) := by omega
    by_cases h3 : v = 2
    · obtain ⟨B, x', y', e, hB⟩ := T_ring (W := W) (k := k + 8) (m := most - 1) (by omega) (by omega) x1 y1 rest
      refine ⟨B, x', y', ?_, hB.1, by omega, hB.2.2.1, hB.2.2.2⟩
      unfold callE
      rw [run_at (fn := m_law_some_book) rfl]
      simp only [runF, m_law_some_book]
      subst h3
      have e' : callE (callR fns W (k + 12)) i_law_ring_book [.ref 0, .int ((most - 1 : Nat) : Int)] (J x1 y1 :: rest) = some (bk B, J x' y' :: rest) := e
      have hmx : (if (most : Int) - 1 > 3 then (most : Int) - 1 else 3) = ((most - 1 : Nat) : Int) := by split <;> omega
      simp [e1', cmpD, cmpInt, binD, mxD, -Int.natCast_sub]
      simp only [gt_iff_lt] at hmx
      rw [hmx, e']
      simp
      exact fin_J0 (by simp)
    · obtain ⟨B, x', y', e, hB⟩ := T_hungbook (W := W) (k := k + 8) (most := most) (by omega) (by omega) x1 y1 rest
      have e' : callE (callR fns W (k + 12)) i_law_hung_book [.ref 0, .int (most : Int), .int 6] (J x1 y1 :: rest) = some (bk B, J x' y' :: rest) := e
      refine ⟨B, x', y', ?_, hB⟩
      unfold callE
      rw [run_at (fn := m_law_some_book) rfl]
      simp only [runF, m_law_some_book]
      have hv3 : ¬ ((v : Int) = 2) := by omega
      simp [e1', cmpD, cmpInt, hv2, hv3, e']
      exact fin_J0 (by simp)
end K56

end

section
set_option maxRecDepth 100000
set_option maxHeartbeats 4000000
namespace K56
open MM MP PySem
variable {W : Nat}
/-! ### the law -/
theorem T_pool {k : Nat} (ns : List Int) : ∃ a b : Int, callL (callR fns W (k + 1)) i_law_pool [.scr ns, .int 0] [] = some ([.int a, .int b], []) := by
  suffices ∃ a b : Int, callR fns W (k + 1) i_law_pool [.scr ns, .int 0] [] = some (.ref 0, [.lst [.int a, .int b]]) by
    obtain ⟨a, b, e⟩ := this
    refine ⟨a, b, ?_⟩
    unfold callL
    rw [e]
    rfl
  rw [run_at (fn := m_law_pool) rfl]
  simp only [runF, m_law_pool]
  cases ns with
  | nil =>
    have he : eqD [] (.scr []) (.lst []) = some true := rfl
    simp [lenD, cmpD, cmpInt, he, negD, binD, intD, mxD, big64]
  | cons c r =>
    have h0 : (0 : Int) < ((c :: r).length : Int) := by simp
    have hi : idxD [] (.scr (c :: r)) (.int 0) = some (.int c) := by
      simp [idxD, L2.atI, L2.ixN]
    simp only [List.length_cons] at h0
    simp [lenD, cmpD, cmpInt, h0, hi, negD, binD, intD, mxD, big64]
    generalize decide (1000000000000000000 ≤ if c < -1 - c then -1 - c else c) = q
    cases q <;> simp
/-- what order and stuck tell of a book -/
inductive Tells (b : List (List Nat)) : Option (List Nat) → Option (List Nat) → Prop
  | ord (r : List Nat) (hp : r.Perm (allS b)) (ho : OrdR b r) (hd : DisA b) : Tells b (some r) none
  | stk (g : List Nat) (hg : Gr b g) (h2 : 2 ≤ g.length) (hh : PM.Hung (CC b) (· ∈ g)) (hno : ∀ s ∈ g, goB b g s = false) (hd : ¬ DisA b) : Tells b none (some g)
theorem tells {b : List (List Nat)} (h : Bk b) (hh : PM.Hung (CC b) (· ∈ allS b)) : Tells b (oos b).1 (oos b).2 := by
  have h1 := h.one
  have hne : allS b ≠ [] := by
    intro e
    have e' := congrArg List.length e
    rw [List.length_range, List.length_nil] at e'
    omega
  rcases oosF_spec h b.length (allS b) [] (allS_gr b) hne (by simp) hh with ⟨r, e, hp, ho, hd⟩ | ⟨g, e, hg, h2, hgh, hno, hd⟩
  · have e' : oos b = (some (r ++ [].reverse), none) := e
    rw [e']
    simp only [List.reverse_nil, List.append_nil]
    exact .ord r hp ho hd
  · have e' : oos b = (none, some g) := e
    rw [e']
    refine .stk g hg h2 hgh (fun s hs => ?_) hd
    cases hb : goB b g s with
    | false => rfl
    | true => exact absurd ((go_iff h hg).1 hb) (hno s hs)
theorem optT_clean (o : Option (List Nat)) : clean (optT o) = true := by cases o <;> simp [optT]
theorem wt_nIs : ∀ l : List Nat, (∀ x ∈ l, x < 1000) → D.wts (l.map nI) ≤ 13 * l.length
  | [], _ => by simp [D.wts]
  | x :: xs, h => by
    have := wt_nIs xs fun y hy => h y (by simp [hy])
    have hx := h x (by simp)
    have hw : D.wt (nI x) = 11 := by
      show (if (x : Int).natAbs < 1000000000 then 11 else 33554432) = 11
      rw [if_pos (by omega)]
    rw [List.map_cons, D.wts, hw, List.length_cons]
    omega
theorem wt_opt {o : Option (List Nat)} (h : ∀ l, o = some l → l.length ≤ 8 ∧ ∀ x ∈ l, x < 8) : D.wt (optT o) ≤ 200 := by
  cases o with
  | none => decide
  | some l =>
    obtain ⟨h1, h2⟩ := h l rfl
    have := wt_nIs l fun x hx => by have := h2 x hx; omega
    show D.wts (l.map nI) + 3 ≤ 200
    omega
/-- what is told is little -/
theorem Tells.small {b : List (List Nat)} (h : Bk b) {o o' : Option (List Nat)} (t : Tells b o o') : D.wt (.tup [optT o, optT o']) ≤ cap := by
  have h6 := h.six
  have h1 : D.wt (optT o) ≤ 200 := wt_opt fun l e => by
    cases t with
    | ord r hp ho hd =>
      cases e
      have := hp.length_eq
      rw [List.length_range] at this
      exact ⟨by omega, fun x hx => by have := List.mem_range.1 (hp.mem_iff.1 hx); omega⟩
    | stk g hg h2 hh hno hd => cases e
  have h2 : D.wt (optT o') ≤ 200 := wt_opt fun l e => by
    cases t with
    | ord r hp ho hd => cases e
    | stk g hg h2 hh hno hd =>
      cases e
      exact ⟨hg.len h, fun x hx => by have := hg.lt x hx; omega⟩
  show D.wts [optT o, optT o'] + 3 ≤ cap
  simp only [D.wts, cap]
  omega
theorem dep_opt (o : Option (List Nat)) : D.dep (optT o) ≤ 1 := by cases o <;> simp [optT]
theorem dep_tD : ∀ t : PM.T, D.dep (tD t) = tdep t
  | .leaf x => rfl
  | .fork l r => by
    show D.dep (.tup [tD l, tD r]) = _
    simp [dep_tD l, dep_tD r, tdep]
theorem tdep_row : ∀ t : PM.T, tdep t + 1 ≤ (row t).length
  | .leaf x => by simp [tdep, row]
  | .fork l r => by
    have h1 := tdep_row l
    have h2 := tdep_row r
    simp only [tdep, row, List.length_append]
    omega
theorem mem_row : ∀ (t : PM.T) (x : Nat), x ∈ row t ↔ t.In x
  | .leaf y, x => by simp [row, PM.T.In]
  | .fork l r, x => by
    rw [row, List.mem_append, mem_row l, mem_row r]
    rfl
theorem row_nodup {C : Nat → Nat → Prop} : ∀ t : PM.T, t.Right C → (row t).Nodup
  | .leaf y, _ => by simp [row]
  | .fork l r, h => by
    obtain ⟨h1, h2, h3, _⟩ := h
    rw [row, List.nodup_append]
    exact ⟨row_nodup l h1, row_nodup r h2, fun a ha b hb e => h3 a ((mem_row l a).1 ha) (e ▸ (mem_row r b).1 hb)⟩
theorem rt_dep {b : List (List Nat)} {t : PM.T} (h : Bk b) (ht : RT b (allS b) t) : D.dep (tD t) ≤ 8 := by
  have h6 := h.six
  have h1 := tdep_row t
  have h2 := nodup_len (m := row t) (g := allS b) (row_nodup t ht.right) fun x hx => (ht.mem x).1 ((mem_row t x).1 hx)
  rw [List.length_range] at h2
  rw [dep_tD]
  omega
/-- the law's own values, behind the first statements of a turn -/
abbrev env (ns : List Int) (o2 : Option D) (b : List (List Nat)) (o o' : Option (List Nat)) (r : List (Option D)) : Rho := [some (.scr ns), some (.ref 0), o2, some (bk b), some (optT o), some (optT o')] ++ r
end K56

end

section
set_option maxRecDepth 100000
set_option maxHeartbeats 4000000
namespace K56
open MM MP PySem
variable {W : Nat}
/-- a plan of all sources -/
structure PlA (b : List (List Nat)) (t : PM.T) : Prop where
  nd : (row t).Nodup
  mem : ∀ x, x ∈ row t ↔ x < b.length
theorem PlA.len {b : List (List Nat)} {t : PM.T} (h : PlA b t) : (row t).length = b.length := by
  have h1 := nodup_len (g := List.range b.length) h.nd fun x hx => List.mem_range.2 ((h.mem x).1 hx)
  have h2 := nodup_len (m := List.range b.length) (g := row t) List.nodup_range fun x hx => (h.mem x).2 (List.mem_range.1 hx)
  rw [List.length_range] at h1 h2
  omega
theorem PlA.pl {b : List (List Nat)} {t : PM.T} (hb : Bk b) (h : PlA b t) : Pl t := ⟨h.nd, fun x hx => by have := (h.mem x).1 hx; have := hb.six; omega⟩
theorem PlA.dep {b : List (List Nat)} {t : PM.T} (hb : Bk b) (h : PlA b t) : tdep t ≤ 7 := by
  have h1 := tdep_row t
  have h2 := h.len
  have := hb.six
  omega
theorem S_form {k many : Nat} : ∀ (t : PM.T) (d : Nat), tdep t ≤ d → (∀ x ∈ row t, x < many) → Pur (callR fns W (k + tdep t + 4)) i_has_form [tD t, nI many, .int (d : Int)] (.bl true)
  | .leaf x, d, _, h => by
    refine .of0 rfl fun st => ?_
    rw [show k + tdep (.leaf x) + 4 = (k + 3) + 1 from rfl, run_at (fn := m_has_form) rfl]
    simp only [runF, m_has_form]
    have hx : x < many := h x (by simp [row])
    simp [tD, (S_below (W := W) (k := k) x many).call, hx]
  | .fork l r, d, hd, h => by
    obtain ⟨d, rfl⟩ : ∃ e, d = e + 1 := ⟨d - 1, by simp [tdep] at hd; omega⟩
    simp only [tdep] at hd
    refine .of0 rfl fun st => ?_
    have hl := S_form (k := k + (max (tdep l) (tdep r) - tdep l)) (many := many) l d (by omega) (fun x hx => h x (by simp [row, hx]))
    have hr := S_form (k := k + (max (tdep l) (tdep r) - tdep r)) (many := many) r d (by omega) (fun x hx => h x (by simp [row, hx]))
    rw [show k + (max (tdep l) (tdep r) - tdep l) + tdep l + 4 = k + max (tdep l) (tdep r) + 4 by omega] at hl
    rw [show k + (max (tdep l) (tdep r) - tdep r) + tdep r + 4 = k + max (tdep l) (tdep r) + 4 by omega] at hr
    rw [show k + tdep (.fork l r) + 4 = (k + max (tdep l) (tdep r) + 4) + 1 by simp [tdep]; omega, run_at (fn := m_has_form) rfl]
    simp only [runF, m_has_form]
    have e : tD (.fork l r) = .tup [tD l, tD r] := rfl
    have e2 : ((d + 1 : Nat) : Int) - 1 = (d : Int) := by omega
    have hd0 : (0 : Int) < ((d + 1 : Nat) : Int) := by omega
    rw [e]
    have hg : evGs (callR fns W (k + max (tdep l) (tdep r) + 4)) (.one (.nm 3) (.seq (.var 0)) .nil (.call i_has_form (.cons (.var 3) (.cons (.var 1) (.cons (.bin .sub (.var 2) (.con (.int 1))) .nil))))) [some (.tup [tD l, tD r]), some (nI many), some (.int ((d + 1 : Nat) : Int)), none] st = some ([.bl true, .bl true], st) := by
      refine eg_map tD [l, r] (fun _ => .bl true) none (by simp) rfl (fun t ht => ⟨[some (.tup [tD l, tD r]), some (nI many), some (.int ((d + 1 : Nat) : Int)), some (tD t)], by simp, ?_⟩)
      simp only [List.mem_cons, List.not_mem_nil, or_false] at ht
      rcases ht with rfl | rfl
      · simp [-Int.natCast_add, binD, e2, hl.call]
      · simp [-Int.natCast_add, binD, e2, hr.call]
    have hlen : D.pures [tD l, tD r] = true := by simp
    simp [-Int.natCast_add, cmpD, cmpInt, hd0]
    rw [hg]
    simp [bools, cap]
theorem enm_tI {cl : Cl} {a : E} {ρ : Rho} {st : St} {s : List Nat} (h : evE cl a ρ st = some (tI s, st)) : evIt cl (.enm a) ρ st = some (((List.range s.length).map fun i => D.tup [nI i, nI (s.getD i 0)], none), st) := by
  rw [evIt, h]
  simp only [bnd_some, tI]
  congr 3
  apply List.ext_getElem
  · simp
  · intro i h1 h2
    simp at h1
    simp [List.getD, h1]
theorem slice_to {st : St} (s : List Nat) (n : Nat) : sliceD st (tI s) none (some (n : Int)) = some (tI (s.take n)) := by
  show some (D.tup (cutD (s.map nI) none (some (n : Int)))) = _
  rw [cut_take (α := D), tI, List.map_take]
theorem slice_from {st : St} (xs : List D) : sliceD st (.tup xs) (some 1) none = some (.tup (xs.drop 1)) := by
  simp [sliceD, cutD, HT.sIx]
  cases xs with
  | nil => rfl
  | cons x r => simp
theorem S_twice {k : Nat} {s : List Nat} (hn : s.Nodup) : Pur (callR fns W (k + 1)) i_first_twice [tI s] .non := by
  refine .of0 rfl fun st => ?_
  rw [run_at (fn := m_first_twice) rfl]
  have := for_rule (src := none) (f := bodyF (callR fns W k) W (.tp (.cons (.nm 1) (.cons (.nm 2) .nil))) (.cons (.ite (.cmp .isin (.var 2) (.slice (.var 0) .none (.some (.var 1)))) (.cons (.ret (.var 2))
    .nil) .nil)
    .nil)) (fun i : Nat => D.tup [nI i, nI (s.getD i 0)])
      (fun is ρ st' => ∃ o1 o2, ρ = [some (tI s), o1, o2] ∧ st' = st ∧ ∀ i ∈ is, i < s.length)
      (fun fl ρ st' => st' = st ∧ fl = .next ∧ ∃ o1 o2, ρ = [some (tI s), o1, o2])
      ?_ ?_ (List.range s.length) [some (tI s), none, none] st ⟨none, none, rfl, rfl, fun i hi => List.mem_range.1 hi⟩
  · obtain ⟨fl, ρ', st', h1, rfl, rfl, o1, o2, rfl⟩ := this
    simp only [runF, m_first_twice]
    simp [s_for]
    have e0 : evIt (callR fns W k) (.enm (.var 0)) [some (tI s), none, none] st' = _ := enm_tI (s := s) (by simp)
    rw [e0]
    dsimp only
    rw [h1]
    simp
  · rintro ρ st' ⟨o1, o2, rfl, rfl, _⟩
    exact ⟨rfl, rfl, rfl, o1, o2, rfl⟩
  · rintro i is ρ st' ⟨o1, o2, rfl, rfl, hi⟩
    have hil := hi i (by simp)
    refine ⟨rfl, .inl ⟨[some (tI s), some (nI i), some (nI (s.getD i 0))], st', ?_, _, _, rfl, rfl, fun j hj => hi j (by simp [hj])⟩⟩
    have hni : s.getD i 0 ∉ s.take i := by
      intro hm
      rw [List.mem_iff_getElem] at hm
      obtain ⟨j, hj, e⟩ := hm
      rw [List.length_take] at hj
      rw [List.getElem_take] at e
      have e2 : s.getD i 0 = s[i] := by simp [List.getD, hil]
      rw [e2] at e
      have e3 : s[j]? = s[i]? := by rw [List.getElem?_eq_getElem (by omega), List.getElem?_eq_getElem hil, e]
      have := (List.getElem?_inj (by omega) hn).1 e3
      omega
    have hsl := slice_to (st := st') s i
    have hin : inD st' (nI (s.getD i 0)) ((s.take i).map nI) = some false := by
      rw [in_nIs]
      exact congrArg some (decide_eq_false hni)
    simp only [bodyF, bind_tp, bindl_cons, bind_nm]
    simp [hsl, cmpD]
    simp only [List.getD] at hin
    simp [tI] at hin ⊢
    rw [hin]
    simp
theorem S_lacking {k n : Nat} {s : List Nat} (hn : n ≤ 1000) (h : ∀ x, x < n → x ∈ s) : Pur (callR fns W (k + 1)) i_first_lacking [tI s, nI n] .non := by
  refine .of0 rfl fun st => ?_
  rw [run_at (fn := m_first_lacking) rfl]
  have := for_rule (src := none) (f := bodyF (callR fns W k) W (.nm 2) (.cons (.ite (.cmp .notin (.var 2) (.var 0)) (.cons (.ret (.var 2))
    .nil) .nil)
    .nil)) nI
      (fun is ρ st' => ∃ o, ρ = [some (tI s), some (nI n), o] ∧ st' = st ∧ ∀ i ∈ is, i < n)
      (fun fl ρ st' => st' = st ∧ fl = .next ∧ ∃ o, ρ = [some (tI s), some (nI n), o])
      ?_ ?_ (List.range n) [some (tI s), some (nI n), none] st ⟨none, rfl, rfl, fun i hi => List.mem_range.1 hi⟩
  · obtain ⟨fl, ρ', st', h1, rfl, rfl, o, rfl⟩ := this
    simp only [runF, m_first_lacking]
    simp [s_for]
    have e0 : evIt (callR fns W k) (.rng1 (.var 1)) [some (tI s), some (nI n), none] st' = some (((List.range n).map nI, none), st') := ei_rng1 _ _ _ _ _ _ (by simp) (by omega)
    rw [e0]
    dsimp only
    rw [h1]
    simp
  · rintro ρ st' ⟨o, rfl, rfl, _⟩
    exact ⟨rfl, rfl, rfl, o, rfl⟩
  · rintro i is ρ st' ⟨o, rfl, rfl, hi⟩
    have := h i (hi i (by simp))
    exact ⟨rfl, .inl ⟨[some (tI s), some (nI n), some (nI i)], st', by simp [bodyF, cmpD, this], _, rfl, rfl, fun j hj => hi j (by simp [hj])⟩⟩
theorem S_partof {k : Nat} {b : List (List Nat)} {t : PM.T} (hb : Bk b) (h : PlA b t) : Pur (callR fns W (k + 12)) i_is_part_of [nI b.length, tD t] (.bl true) := by
  refine .of0 rfl fun st => ?_
  rw [run_at (fn := m_is_part_of) rfl]
  simp only [runF, m_is_part_of]
  have hd := h.dep hb
  have h1 := S_form (W := W) (k := k + (7 - tdep t)) (many := b.length) t 11 (by omega) fun x hx => (h.mem x).1 hx
  rw [show k + (7 - tdep t) + tdep t + 4 = k + 11 by omega] at h1
  have h2 := S_row (W := W) (k := k + (9 - tdep t)) t (h.pl hb).len
  rw [show k + (9 - tdep t) + tdep t + 2 = k + 11 by omega] at h2
  have h1' : callE (callR fns W (k + 11)) i_has_form [tD t, nI b.length, .int 11] st = some (.bl true, st) := h1.call st
  simp [h1', h2.call, (S_twice (W := W) (k := k + 10) h.nd).call, cmpD]
theorem S_planof {k : Nat} {b : List (List Nat)} {t : PM.T} (hb : Bk b) (h : PlA b t) : Pur (callR fns W (k + 13)) i_is_plan_of [bk b, tD t] (.bl true) := by
  refine .of0 rfl fun st => ?_
  rw [run_at (fn := m_is_plan_of) rfl]
  simp only [runF, m_is_plan_of]
  have hd := h.dep hb
  have h2 := S_row (W := W) (k := k + (10 - tdep t)) t (h.pl hb).len
  rw [show k + (10 - tdep t) + tdep t + 2 = k + 12 by omega] at h2
  have h6 := hb.six
  simp [(S_partof (W := W) (k := k) hb h).call, h2.call, (S_lacking (W := W) (k := k + 11) (n := b.length) (by omega) fun x hx => (h.mem x).2 hx).call, cmpD]
theorem S_wantparts {k : Nat} {b : List (List Nat)} {t : PM.T} (hb : Bk b) (h : PlA b t) : Pur (callR fns W (k + 12)) i_want_parts [nI b.length, tD t] .non := by
  refine .of0 rfl fun st => ?_
  rw [run_at (fn := m_want_parts) rfl]
  simp only [runF, m_want_parts]
  have hd := h.dep hb
  have h1 := S_form (W := W) (k := k + (7 - tdep t)) (many := b.length) t 11 (by omega) fun x hx => (h.mem x).1 hx
  rw [show k + (7 - tdep t) + tdep t + 4 = k + 11 by omega] at h1
  have h2 := S_row (W := W) (k := k + (9 - tdep t)) t (h.pl hb).len
  rw [show k + (9 - tdep t) + tdep t + 2 = k + 11 by omega] at h2
  have h1' : callE (callR fns W (k + 11)) i_has_form [tD t, nI b.length, .int 11] st = some (.bl true, st) := h1.call st
  simp [h1', h2.call, (S_twice (W := W) (k := k + 10) h.nd).call, cmpD]
theorem S_wantpart {k : Nat} {b : List (List Nat)} {t : PM.T} (hb : Bk b) (h : PlA b t) : Pur (callR fns W (k + 13)) i_want_part [bk b, tD t] .non := by
  refine .of0 rfl fun st => ?_
  rw [run_at (fn := m_want_part) rfl]
  simp only [runF, m_want_part]
  simp [(S_wantparts (W := W) (k := k) hb h).call]
theorem S_wantplan {k : Nat} {b : List (List Nat)} {t : PM.T} (hb : Bk b) (h : PlA b t) : Pur (callR fns W (k + 14)) i_want_plan [bk b, tD t] .non := by
  refine .of0 rfl fun st => ?_
  rw [run_at (fn := m_want_plan) rfl]
  simp only [runF, m_want_plan]
  have hd := h.dep hb
  have h2 := S_row (W := W) (k := k + (11 - tdep t)) t (h.pl hb).len
  rw [show k + (11 - tdep t) + tdep t + 2 = k + 13 by omega] at h2
  have h6 := hb.six
  simp [(S_wantpart (W := W) (k := k) hb h).call, h2.call, (S_lacking (W := W) (k := k + 12) (n := b.length) (by omega) fun x hx => (h.mem x).2 hx).call, cmpD]
theorem S_planright {k : Nat} {b : List (List Nat)} {t : PM.T} (hb : Bk b) (hh : PM.Hung (CC b) (· ∈ allS b)) (h : PlA b t) (hW : 100 ≤ W) : Pur (callR fns W (k + 14)) i_plan_right [bk b, tD t] (.bl (allG b t)) := by
  refine .of0 rfl fun st => ?_
  rw [run_at (fn := m_plan_right) rfl]
  simp only [runF, m_plan_right]
  have hd := h.dep hb
  have h1 := S_allgood (W := W) (k := k + (8 - tdep t)) hb (h.pl hb) fun x hx => (h.mem x).1 hx
  rw [show k + (8 - tdep t) + tdep t + 5 = k + 13 by omega] at h1
  have h2 := (hung_iff hb (allS_gr b)).2 hh
  simp [(S_isbook (W := W) (k := k + 6) hb).call, (S_every (W := W) (k := k + 12) hb).call, (S_hangs (W := W) (k := k + 8) hb (allS_gr b) hW).call, h2, (S_planof (W := W) (k := k) hb h).call, h1.call]
end K56

end

section
set_option maxRecDepth 100000
set_option maxHeartbeats 4000000
namespace K56
open MM MP PySem
variable {W : Nat}
theorem enm_bk {cl : Cl} {a : E} {ρ : Rho} {st : St} {b : List (List Nat)} (h : evE cl a ρ st = some (bk b, st)) : evIt cl (.enm a) ρ st = some (((List.range b.length).map fun i => D.tup [nI i, tI (cols b i)], none), st) := by
  rw [evIt, h]
  simp only [bnd_some, bk]
  congr 3
  apply List.ext_getElem
  · simp
  · intro i h1 h2
    simp at h1
    simp [cols, List.getD, h1]
abbrev C3 : Ss := (.cons (.asg (.nm 7) (.len (.frz (.comp (.one (.nm 8) (.seq (.var 4)) (.cons (.cmp .isin (.var 8) (.var 6)) .nil) (.var 8))))))
    (.cons (.ite (.and (.cmp .ne (.var 5) (.var 2)) (.and (.cmp .ne (.var 5) (.var 3)) (.chn .lt .lt (.con (.int 0)) (.var 7) (.len (.var 4))))) (.cons (.app (.var 1) (.tup (.cons (.var 2) (.cons (.var 3) (.cons (.var 5) .nil)))))
    .nil) .nil)
    .nil))
abbrev C2 : Ss := (.cons (.asg (.nm 4) (.call i_shared_of (.cons (.var 0) (.cons (.var 2) (.cons (.var 3) .nil)))))
    (.cons (.forS (.tp (.cons (.nm 5) (.cons (.nm 6) .nil))) (.enm (.var 0)) C3)
    .nil))
abbrev C1 : Ss := (.cons (.forS (.nm 3) (.rng2 (.bin .add (.var 2) (.con (.int 1))) (.len (.var 0))) C2)
    .nil)
theorem pt3 {k : Nat} {b : List (List Nat)} (h : Bk b) {st : St} {p q r : Nat} (hr : r < b.length) (o5 o6 o7 : Option D) (found : List T3) (hN : found.length ≤ 100000) :
    ∃ o7', bodyF (callR fns W (k + 1)) W (.tp (.cons (.nm 5) (.cons (.nm 6) .nil))) C3 (.tup [nI r, tI (cols b r)]) [some (bk b), some (.ref st.length), some (nI p), some (nI q), some (tI (sh b p q)), o5, o6, o7, none] (st ++ [.lst (found.map t3D)]) =
      some (.next, [some (bk b), some (.ref st.length), some (nI p), some (nI q), some (tI (sh b p q)), some (nI r), some (tI (cols b r)), o7', none], st ++ [.lst ((found ++ if thC b p q r then [(p, q, r)] else []).map t3D)]) := by
  have hl1 := List.length_filter_le (fun c => decide (c ∈ cols b r)) (sh b p q)
  have hl2 := List.length_filter_le (fun c => decide (c ∈ cols b q)) (cols b p)
  have hl3 := cols_len h p
  obtain ⟨Z, hZ⟩ : ∃ Z, Z = sh b p q := ⟨_, rfl⟩
  obtain ⟨H, hH⟩ : ∃ H, H = hasC b p q r := ⟨_, rfl⟩
  have hH2 : H = Z.filter fun c => decide (c ∈ cols b r) := by rw [hH, hZ]; rfl
  have hZ2 : Z.length ≤ 8 := by rw [hZ]; unfold sh; omega
  have hH3 : H.length ≤ 8 := by rw [← hZ, ← hH2] at hl1; omega
  refine ⟨some (nI H.length), ?_⟩
  simp only [thC, ← hZ, ← hH]
  have q1 : evS (callR fns W (k + 1)) W (.asg (.nm 7) (.len (.frz (.comp (.one (.nm 8) (.seq (.var 4)) (.cons (.cmp .isin (.var 8) (.var 6)) .nil) (.var 8)))))) [some (bk b), some (.ref st.length), some (nI p), some (nI q), some (tI Z), some (nI r), some (tI (cols b r)), o7, none] (st ++ [.lst (found.map t3D)]) =
      some (.next, [some (bk b), some (.ref st.length), some (nI p), some (nI q), some (tI Z), some (nI r), some (tI (cols b r)), some (nI H.length), none], st ++ [.lst (found.map t3D)]) := by
    rw [s_asg, ev_len, ev_frz, el_comp]
    rw [eg_fil nI Z (fun c => decide (c ∈ cols b r)) nI none (by simp) rfl (fun c _ => ⟨_, by simp; rfl, by rw [et_one]; simp [cmpD], by simp⟩)]
    rw [← hH2]
    simp only [bnd_some, List.length_map]
    rw [if_pos (by simp only [cap]; exact decide_eq_true (by omega))]
    simp
  have q2 : evE (callR fns W (k + 1)) (.and (.cmp .ne (.var 5) (.var 2)) (.and (.cmp .ne (.var 5) (.var 3)) (.chn .lt .lt (.con (.int 0)) (.var 7) (.len (.var 4))))) [some (bk b), some (.ref st.length), some (nI p), some (nI q), some (tI Z), some (nI r), some (tI (cols b r)), some (nI H.length), none] (st ++ [.lst (found.map t3D)]) =
      some (.bl (decide (r ∉ [p, q]) && (decide (0 < H.length) && decide (H.length < Z.length))), st ++ [.lst (found.map t3D)]) := by
    have e1 : evE (callR fns W (k + 1)) (.cmp .ne (.var 5) (.var 2)) [some (bk b), some (.ref st.length), some (nI p), some (nI q), some (tI Z), some (nI r), some (tI (cols b r)), some (nI H.length), none] (st ++ [.lst (found.map t3D)]) = some (.bl (decide (r ≠ p)), st ++ [.lst (found.map t3D)]) := by
      simp [cmpD]
    have e2 : evE (callR fns W (k + 1)) (.cmp .ne (.var 5) (.var 3)) [some (bk b), some (.ref st.length), some (nI p), some (nI q), some (tI Z), some (nI r), some (tI (cols b r)), some (nI H.length), none] (st ++ [.lst (found.map t3D)]) = some (.bl (decide (r ≠ q)), st ++ [.lst (found.map t3D)]) := by
      simp [cmpD]
    have e3 := ev_chn2 (cl := callR fns W (k + 1)) (ρ := [some (bk b), some (.ref st.length), some (nI p), some (nI q), some (tI Z), some (nI r), some (tI (cols b r)), some (nI H.length), none]) (st := st ++ [.lst (found.map t3D)]) (o := .lt) (p := .lt) (a := .con (.int 0)) (b := .var 7) (c := .len (.var 4)) (x := .int 0) (y := .int (H.length : Int)) (z := .int (Z.length : Int)) (t := decide (0 < H.length)) (u := decide (H.length < Z.length)) (by simp) (by simp) (by simp) (by simp [cmpD, cmpInt]) (by simp [cmpD, cmpInt])
    rw [ev_and, e1, bnd_some, ev_and, e2, bnd_some, e3, andK_b, andK_b, ← Bool.and_assoc]
    congr 4
    rw [Bool.eq_iff_iff]
    simp
  have hb : bindG (.tp (.cons (.nm 5) (.cons (.nm 6) .nil))) (.tup [nI r, tI (cols b r)]) [some (bk b), some (.ref st.length), some (nI p), some (nI q), some (tI Z), o5, o6, o7, none] = some [some (bk b), some (.ref st.length), some (nI p), some (nI q), some (tI Z), some (nI r), some (tI (cols b r)), o7, none] := by simp
  rw [bodyF, hb]
  dsimp only
  rw [ss_cons _ _ _ _ _ _ q1, ss_step, s_ite, test_eq, q2]
  simp only [bnd_some, truth_bl, liftO_some]
  cases hc : (decide (r ∉ [p, q]) && (decide (0 < H.length) && decide (H.length < Z.length))) with
  | false => simp
  | true =>
    simp
    rw [if_pos (by simp only [cap]; omega)]
    simp
theorem pt2 {k : Nat} {b : List (List Nat)} (h : Bk b) {st : St} {p j : Nat} (hp : p < b.length) (hj : p + 1 + j < b.length) (o3 o4 o5 o6 o7 : Option D) (found : List T3) (hN : found.length ≤ 90000) :
    ∃ o4' o5' o6' o7', bodyF (callR fns W (k + 1)) W (.nm 3) C2 (nI (p + 1 + j)) [some (bk b), some (.ref st.length), some (nI p), o3, o4, o5, o6, o7, none] (st ++ [.lst (found.map t3D)]) =
      some (.next, [some (bk b), some (.ref st.length), some (nI p), some (nI (p + 1 + j)), o4', o5', o6', o7', none], st ++ [.lst ((found ++ thR b p (p + 1 + j)).map t3D)]) := by
  have h6 := h.six
  obtain ⟨_, _, lR⟩ := len_thF h
  have lR := lR p (p + 1 + j)
  have hc := S_shared (W := W) (k := k) (i := p) (j := p + 1 + j) h hp hj
  obtain ⟨ρ', e, o5', o6', o7', rfl⟩ := for_acc (src := none) (f := bodyF (callR fns W (k + 1)) W (.tp (.cons (.nm 5) (.cons (.nm 6) .nil))) C3) (fun i : Nat => D.tup [nI i, tI (cols b i)]) t3D (fun r => if thC b p (p + 1 + j) r then [((p, p + 1 + j, r) : T3)] else []) st 100000 (fun ρ => ∃ o5 o6 o7, ρ = [some (bk b), some (.ref st.length), some (nI p), some (nI (p + 1 + j)), some (tI (sh b p (p + 1 + j))), o5, o6, o7, none]) (fun _ => rfl) (List.range b.length) (by
    rintro r hr ρ found ⟨o5, o6, o7, rfl⟩ hN
    obtain ⟨o7', e⟩ := pt3 (W := W) (k := k) h (st := st) (p := p) (q := p + 1 + j) (List.mem_range.1 hr) o5 o6 o7 found (by omega)
    exact ⟨_, e, _, _, o7', rfl⟩) found [some (bk b), some (.ref st.length), some (nI p), some (nI (p + 1 + j)), some (tI (sh b p (p + 1 + j))), o5, o6, o7, none] ⟨o5, o6, o7, rfl⟩ (by unfold thR at lR; omega)
  have e0 : evIt (callR fns W (k + 1)) (.enm (.var 0)) [some (bk b), some (.ref st.length), some (nI p), some (nI (p + 1 + j)), some (tI (sh b p (p + 1 + j))), o5, o6, o7, none] (st ++ [.lst (found.map t3D)]) = some (((List.range b.length).map fun i => D.tup [nI i, tI (cols b i)], none), st ++ [.lst (found.map t3D)]) := enm_bk (by simp)
  refine ⟨some (tI (sh b p (p + 1 + j))), o5', o6', o7', ?_⟩
  have q1 : evS (callR fns W (k + 1)) W (.asg (.nm 4) (.call i_shared_of (.cons (.var 0) (.cons (.var 2) (.cons (.var 3) .nil))))) [some (bk b), some (.ref st.length), some (nI p), some (nI (p + 1 + j)), o4, o5, o6, o7, none] (st ++ [.lst (found.map t3D)]) = some (.next, [some (bk b), some (.ref st.length), some (nI p), some (nI (p + 1 + j)), some (tI (sh b p (p + 1 + j))), o5, o6, o7, none], st ++ [.lst (found.map t3D)]) := by
    simp [-Int.natCast_add, hc.call]
  rw [bodyF, bind_nm, if_pos (by simp)]
  dsimp only [List.set]
  rw [ss_cons _ _ _ _ _ _ q1, ss_step, s_for, e0]
  dsimp only
  rw [e]
  simp [thR]
theorem S_pthirds {k : Nat} {b : List (List Nat)} (h : Bk b) : Pur (callR fns W (k + 2)) i_thirds_of [bk b] (.tup ((thF b).map t3D)) := by
  refine ⟨by simpa using pures_of_cleans _ (clean_t3s _), fun st => ⟨[.lst ((thF b).map t3D)], ?_⟩⟩
  have h6 := h.six
  obtain ⟨lF, lQ, lR⟩ := len_thF h
  rw [run_at (fn := m_thirds_of) rfl]
  simp only [runF, m_thirds_of]
  have e0 : ∀ s : St, evIt (callR fns W (k + 1)) (.rng1 (.len (.var 0))) [some (bk b), some (.ref st.length), none, none, none, none, none, none, none] s = some (((List.range b.length).map nI, none), s) := fun s => ei_rng1 _ _ _ _ _ _ (by simp) (by omega)
  simp [s_for, e0]
  obtain ⟨ρ', e, o2, o3, o4, o5, o6, o7, rfl⟩ := for_acc (src := none) (f := bodyF (callR fns W (k + 1)) W (.nm 2) C1) nI t3D (fun p => thQ b p) st 80000 (fun ρ => ∃ o2 o3 o4 o5 o6 o7, ρ = [some (bk b), some (.ref st.length), o2, o3, o4, o5, o6, o7, none]) (fun _ => rfl) (List.range b.length) (by
    rintro p hp ρ found ⟨o2, o3, o4, o5, o6, o7, rfl⟩ hN
    have hp' := List.mem_range.1 hp
    have e2 := ei_rng2 (cl := callR fns W (k + 1)) (ρ := [some (bk b), some (.ref st.length), some (nI p), o3, o4, o5, o6, o7, none]) (st := st ++ [.lst (found.map t3D)]) (.bin .add (.var 2) (.con (.int 1))) (.len (.var 0)) (p + 1) b.length (by simp [binD]) (by simp) (by omega) (by omega)
    obtain ⟨ρ', e, o3', o4', o5', o6', o7', rfl⟩ := for_acc (src := none) (f := bodyF (callR fns W (k + 1)) W (.nm 3) C2) (fun j : Nat => nI (p + 1 + j)) t3D (fun j => thR b p (p + 1 + j)) st 90000 (fun ρ => ∃ o3 o4 o5 o6 o7, ρ = [some (bk b), some (.ref st.length), some (nI p), o3, o4, o5, o6, o7, none]) (fun _ => rfl) (List.range (b.length - (p + 1))) (by
      rintro j hj ρ found ⟨o3, o4, o5, o6, o7, rfl⟩ hN
      obtain ⟨o4', o5', o6', o7', e⟩ := pt2 (W := W) (k := k) h (st := st) (p := p) (j := j) hp' (by have := List.mem_range.1 hj; omega) o3 o4 o5 o6 o7 found (by omega)
      exact ⟨_, e, _, _, _, _, _, rfl⟩) found [some (bk b), some (.ref st.length), some (nI p), o3, o4, o5, o6, o7, none] ⟨_, _, _, _, _, rfl⟩ (by show found.length + (thQ b p).length ≤ _; omega)
    refine ⟨_, ?_, some (nI p), o3', o4', o5', o6', o7', rfl⟩
    rw [bodyF, bind_nm, if_pos (by simp)]
    dsimp only [List.set]
    rw [ss_step, s_for, e2]
    dsimp only
    rw [e]
    simp [thQ]) [] [some (bk b), some (.ref st.length), none, none, none, none, none, none, none] ⟨_, _, _, _, _, _, rfl⟩ (by show 0 + (thF b).length ≤ _; omega)
  simp only [List.map_nil] at e
  rw [e]
  simp [thF]
theorem S_joined' {k : Nat} {b : List (List Nat)} (h : Bk b) (hh : PM.Hung (CC b) (· ∈ allS b)) (hW : 100 ≤ W) : Pur (callR fns W (k + 8)) i_made_joined [bk b] (bk b) := S_joined h hh hW
theorem S_thirdsP {k : Nat} {b : List (List Nat)} (h : Bk b) (hh : PM.Hung (CC b) (· ∈ allS b)) (hW : 100 ≤ W) : Pur (callR fns W (k + 9)) i_thirds [bk b] (.tup ((thF b).map t3D)) := by
  refine .of0 (by simpa using pures_of_cleans _ (clean_t3s _)) fun st => ?_
  rw [run_at (fn := m_thirds) rfl]
  simp only [runF, m_thirds]
  simp [(S_joined (W := W) (k := k) h hh hW).call, (S_pthirds (W := W) (k := k + 6) h).call]
end K56

end

section
set_option maxRecDepth 100000
set_option maxHeartbeats 4000000
namespace K56
open MM MP PySem
variable {W : Nat}
/-! ### thirds that a plan shows -/
def parts (t : PM.T) : List (List Nat) := (fks t).map fun p => p.1 ++ p.2
def hasB (p q : Nat) (s : List Nat) : Bool := decide (p ∈ s) && decide (q ∈ s)
def shownB (ps : List (List Nat)) (x : T3) : Bool := match ps.find? (hasB x.1 x.2.1) with
  | some s => decide (x.2.2 ∉ s)
  | none => false
def lpl : PM.T → Nat → Nat → List Nat
  | .leaf x, _, _ => lvs (.leaf x)
  | .fork l r, p, q => if hasB p q (lvs l) then lpl l p q else if hasB p q (lvs r) then lpl r p q else lvs (.fork l r)
theorem mem_lvs {t : PM.T} (h : Pl t) {x : Nat} : x ∈ lvs t ↔ x ∈ row t := (lvs_perm h).mem_iff.symm
theorem hasB_iff {p q : Nat} {s : List Nat} : hasB p q s = true ↔ p ∈ s ∧ q ∈ s := by simp [hasB]
theorem parts_none {p q : Nat} : ∀ (t : PM.T), Pl t → ¬ (p ∈ row t ∧ q ∈ row t) → (parts t).find? (hasB p q) = none := by
  intro t ht h
  rw [List.find?_eq_none]
  intro s hs hh
  obtain ⟨f, hf, rfl⟩ := List.mem_map.1 hs
  have h1 := fks_in t f hf
  rw [hasB_iff] at hh
  have : ∀ x, x ∈ f.1 ++ f.2 → x ∈ row t := fun x hx => by
    rw [List.mem_append] at hx
    exact hx.elim (h1.1 x) (h1.2 x)
  exact h ⟨this p hh.1, this q hh.2⟩
theorem parts_some {p q : Nat} (hpq : p ≠ q) : ∀ (t : PM.T), Pl t → p ∈ row t → q ∈ row t → ∃ s, (parts t).find? (hasB p q) = some s ∧ ∀ x, x ∈ s ↔ x ∈ lpl t p q
  | .leaf y, _, hp, hq => by
    simp only [row, List.mem_singleton] at hp hq
    exact absurd (hp.trans hq.symm) hpq
  | .fork l r, ht, hp, hq => by
    have hl := ht.left
    have hr := ht.right
    have e : parts (.fork l r) = parts l ++ (parts r ++ [lvs l ++ lvs r]) := by simp [parts, fks]
    rw [e, List.find?_append]
    by_cases h1 : p ∈ row l ∧ q ∈ row l
    · obtain ⟨s, e1, e2⟩ := parts_some hpq l hl h1.1 h1.2
      refine ⟨s, by rw [e1]; rfl, fun x => ?_⟩
      rw [e2, lpl, if_pos (hasB_iff.2 ⟨(mem_lvs hl).2 h1.1, (mem_lvs hl).2 h1.2⟩)]
    · rw [parts_none l hl h1, Option.none_or, List.find?_append]
      have n1 : ¬ hasB p q (lvs l) = true := fun k => h1 ⟨(mem_lvs hl).1 (hasB_iff.1 k).1, (mem_lvs hl).1 (hasB_iff.1 k).2⟩
      by_cases h2 : p ∈ row r ∧ q ∈ row r
      · obtain ⟨s, e1, e2⟩ := parts_some hpq r hr h2.1 h2.2
        refine ⟨s, by rw [e1]; rfl, fun x => ?_⟩
        rw [e2, lpl, if_neg n1, if_pos (hasB_iff.2 ⟨(mem_lvs hr).2 h2.1, (mem_lvs hr).2 h2.2⟩)]
      · rw [parts_none r hr h2, Option.none_or]
        have n2 : ¬ hasB p q (lvs r) = true := fun k => h2 ⟨(mem_lvs hr).1 (hasB_iff.1 k).1, (mem_lvs hr).1 (hasB_iff.1 k).2⟩
        have hm : ∀ x, x ∈ lvs l ++ lvs r ↔ x ∈ row (.fork l r) := fun x => by
          rw [List.mem_append, mem_lvs hl, mem_lvs hr, row, List.mem_append]
        refine ⟨lvs l ++ lvs r, ?_, fun x => ?_⟩
        · rw [List.find?_cons, hasB_iff.2 ⟨(hm p).2 hp, (hm q).2 hq⟩]
        · rw [hm, lpl, if_neg n1, if_neg n2, mem_lvs ht]
/-- whether all thirds are shown -/
def SB (b : List (List Nat)) (t : PM.T) : Bool := (thF b).all fun x => decide (x.2.2 ∉ lpl t x.1 x.2.1)
theorem shown_SB {b : List (List Nat)} {t : PM.T} (hb : Bk b) (h : PlA b t) : (thF b).all (shownB (parts t)) = SB b t := by
  unfold SB
  rw [Bool.eq_iff_iff, List.all_eq_true, List.all_eq_true]
  have key : ∀ x ∈ thF b, shownB (parts t) x = decide (x.2.2 ∉ lpl t x.1 x.2.1) := by
    intro x hx
    obtain ⟨h1, h2, _, _⟩ := mem_thF.1 hx
    obtain ⟨s, e1, e2⟩ := parts_some (p := x.1) (q := x.2.1) (by omega) t (h.pl hb) ((h.mem _).2 (by omega)) ((h.mem _).2 h2)
    unfold shownB
    rw [e1]
    exact decide_eq_decide.2 (not_congr (e2 _))
  exact ⟨fun k x hx => by rw [← key x hx]; exact k x hx, fun k x hx => by rw [key x hx]; exact k x hx⟩
/-- no third comes too early -/
def NoT (b : List (List Nat)) (t : PM.T) : Prop := ∀ p q r, p ∈ row t → q ∈ row t → p ≠ q → (∃ c, c ∈ cols b p ∧ c ∈ cols b q ∧ c ∈ cols b r) → (∃ d, d ∈ cols b p ∧ d ∈ cols b q ∧ d ∉ cols b r) → r ∉ lpl t p q
theorem hasB_comm (p q : Nat) (s : List Nat) : hasB p q s = hasB q p s := Bool.and_comm _ _
theorem lpl_comm (p q : Nat) : ∀ t : PM.T, lpl t p q = lpl t q p
  | .leaf _ => rfl
  | .fork l r => by rw [lpl, lpl, hasB_comm p q, hasB_comm p q, lpl_comm p q l, lpl_comm p q r]
theorem SB_iff {b : List (List Nat)} {t : PM.T} (hb : Bk b) (h : PlA b t) : SB b t = true ↔ NoT b t := by
  unfold SB
  rw [List.all_eq_true]
  constructor
  · rintro k p q r hp hq hpq ⟨c, c1, c2, c3⟩ ⟨d, d1, d2, d3⟩
    have hp' := (h.mem p).1 hp
    have hq' := (h.mem q).1 hq
    have hr' : r < b.length := Classical.byContradiction fun hn => by rw [cols_nil hn] at c3; cases c3
    have hth : thC b p q r = true := thC_iff.2 ⟨⟨fun e => d3 (e ▸ d1), fun e => d3 (e ▸ d2)⟩, ⟨c, ⟨c1, c2⟩, c3⟩, d, ⟨d1, d2⟩, d3⟩
    rcases Nat.lt_or_gt_of_ne hpq with hlt | hlt
    · have := k (p, q, r) (mem_thF.2 ⟨hlt, hq', hr', hth⟩)
      simpa using this
    · have := k (q, p, r) (mem_thF.2 ⟨hlt, hp', hr', thC_symm hth⟩)
      rw [lpl_comm]
      simpa using this
  · rintro k ⟨p, q, r⟩ hx
    obtain ⟨h1, h2, h3, h4⟩ := mem_thF.1 hx
    dsimp only at h1 h2 h3 h4 ⊢
    obtain ⟨_, ⟨c, ⟨c1, c2⟩, c3⟩, d, ⟨d1, d2⟩, d3⟩ := thC_iff.1 h4
    rw [decide_eq_true_eq]
    exact k p q r ((h.mem p).2 (by omega)) ((h.mem q).2 h2) (by omega) ⟨c, c1, c2, c3⟩ ⟨d, d1, d2, d3⟩
/-- at each fork -/
def AtF (P : (Nat → Prop) → (Nat → Prop) → Prop) : PM.T → Prop
  | .leaf _ => True
  | .fork l r => AtF P l ∧ AtF P r ∧ P l.In r.In
theorem pl_apart {l r : PM.T} (h : Pl (.fork l r)) : ∀ x, l.In x → r.In x → False := fun x h1 h2 => by
  have := h.nd
  rw [row, List.nodup_append] at this
  exact this.2.2 x ((mem_row l x).2 h1) x ((mem_row r x).2 h2) rfl
theorem NoT_iff {b : List (List Nat)} : ∀ t : PM.T, Pl t → (NoT b t ↔ AtF (PM.AoN (CC b)) t)
  | .leaf y, _ => by
    refine ⟨fun _ => trivial, fun _ p q r hp hq hpq => ?_⟩
    simp only [row, List.mem_singleton] at hp hq
    exact absurd (hp.trans hq.symm) hpq
  | .fork l r, h => by
    have hl := h.left
    have hr := h.right
    have hd := pl_apart h
    have ihl := NoT_iff (b := b) l hl
    have ihr := NoT_iff (b := b) r hr
    have el : ∀ p q, p ∈ row l → q ∈ row l → lpl (.fork l r) p q = lpl l p q := fun p q hp hq => by
      rw [lpl, if_pos (hasB_iff.2 ⟨(mem_lvs hl).2 hp, (mem_lvs hl).2 hq⟩)]
    have er : ∀ p q, p ∈ row r → q ∈ row r → lpl (.fork l r) p q = lpl r p q := fun p q hp hq => by
      rw [lpl, if_neg (fun k => hd p ((mem_row l p).1 ((mem_lvs hl).1 (hasB_iff.1 k).1)) ((mem_row r p).1 hp)), if_pos (hasB_iff.2 ⟨(mem_lvs hr).2 hp, (mem_lvs hr).2 hq⟩)]
    have ex : ∀ p q, p ∈ row l → q ∈ row r → lpl (.fork l r) p q = lvs (.fork l r) := fun p q hp hq => by
      rw [lpl, if_neg (fun k => hd q ((mem_row l q).1 ((mem_lvs hl).1 (hasB_iff.1 k).2)) ((mem_row r q).1 hq)), if_neg (fun k => hd p ((mem_row l p).1 hp) ((mem_row r p).1 ((mem_lvs hr).1 (hasB_iff.1 k).1)))]
    have inl : ∀ x, x ∈ row l → x ∈ row (.fork l r) := fun x hx => List.mem_append_left _ hx
    have inr : ∀ x, x ∈ row r → x ∈ row (.fork l r) := fun x hx => List.mem_append_right _ hx
    constructor
    · intro k
      refine ⟨ihl.1 fun p q z hp hq hpq hc hdd => ?_, ihr.1 fun p q z hp hq hpq hc hdd => ?_, ?_⟩
      · have := k p q z (inl p hp) (inl q hq) hpq hc hdd
        rwa [el p q hp hq] at this
      · have := k p q z (inr p hp) (inr q hq) hpq hc hdd
        rwa [er p q hp hq] at this
      · rintro p q z hp hq hz ⟨c, h1, h2, h3⟩ d h4 h5
        refine Classical.byContradiction fun hn => ?_
        have hp' := (mem_row l p).2 hp
        have hq' := (mem_row r q).2 hq
        have := k p q z (inl p hp') (inr q hq') (fun e => hd p hp (e ▸ hq)) ⟨c, h1, h2, h3⟩ ⟨d, h4, h5, hn⟩
        rw [ex p q hp' hq', mem_lvs h] at this
        exact this (hz.elim (fun k => inl z ((mem_row l z).2 k)) fun k => inr z ((mem_row r z).2 k))
    · rintro ⟨k1, k2, k3⟩ p q z hp hq hpq hc hdd
      rw [row, List.mem_append] at hp hq
      have cross : ∀ p q, p ∈ row l → q ∈ row r → (∃ c, c ∈ cols b p ∧ c ∈ cols b q ∧ c ∈ cols b z) → (∃ d, d ∈ cols b p ∧ d ∈ cols b q ∧ d ∉ cols b z) → z ∉ lpl (.fork l r) p q := by
        rintro p q hp hq ⟨c, h1, h2, h3⟩ ⟨d, h4, h5, h6⟩
        rw [ex p q hp hq, mem_lvs h]
        intro hz
        rw [row, List.mem_append] at hz
        exact h6 (k3 p q z ((mem_row l p).1 hp) ((mem_row r q).1 hq) (hz.imp (mem_row l z).1 (mem_row r z).1) ⟨c, h1, h2, h3⟩ d h4 h5)
      rcases hp with hp | hp
      · rcases hq with hq | hq
        · rw [el p q hp hq]
          exact ihl.2 k1 p q z hp hq hpq hc hdd
        · exact cross p q hp hq hc hdd
      · rcases hq with hq | hq
        · obtain ⟨c, h1, h2, h3⟩ := hc
          obtain ⟨d, h4, h5, h6⟩ := hdd
          rw [lpl_comm]
          exact cross q p hq hp ⟨c, h2, h1, h3⟩ ⟨d, h5, h4, h6⟩
        · rw [er p q hp hq]
          exact ihr.2 k2 p q z hp hq hpq hc hdd
theorem allG_iff {b : List (List Nat)} (hb : Bk b) : ∀ t : PM.T, Pl t → (allG b t = true ↔ AtF (PM.Good (CC b)) t)
  | .leaf y, _ => by simp [allG, fks, AtF]
  | .fork l r, h => by
    have e : allG b (.fork l r) = (allG b l && (allG b r && goodB b (lvs l) (lvs r))) := by
      simp [allG, fks, List.all_append, Bool.and_assoc]
    have e1 : (fun y => y ∈ lvs l) = l.In := funext fun y => propext ((mem_lvs h.left).trans (mem_row l y))
    have e2 : (fun y => y ∈ lvs r) = r.In := funext fun y => propext ((mem_lvs h.right).trans (mem_row r y))
    rw [e, Bool.and_eq_true, Bool.and_eq_true, allG_iff hb l h.left, allG_iff hb r h.right, good_iff hb, e1, e2]
    rfl
/-- neighbours across at each fork -/
def acrB (b : List (List Nat)) (t : PM.T) : Bool := (fks t).all fun p => decide (across b p.1 p.2 ≠ [])
theorem acr_iff {b : List (List Nat)} : ∀ t : PM.T, Pl t → (acrB b t = true ↔ AtF (fun L R => ∃ i j, L i ∧ R j ∧ PM.Near (CC b) i j) t)
  | .leaf y, _ => by simp [acrB, fks, AtF]
  | .fork l r, h => by
    have e : acrB b (.fork l r) = (acrB b l && (acrB b r && decide (across b (lvs l) (lvs r) ≠ []))) := by
      simp [acrB, fks, List.all_append, Bool.and_assoc]
    have e1 : across b (lvs l) (lvs r) ≠ [] ↔ ∃ i j, l.In i ∧ r.In j ∧ PM.Near (CC b) i j := by
      constructor
      · intro hne
        obtain ⟨p, hp⟩ := List.exists_mem_of_ne_nil _ hne
        obtain ⟨h1, h2, h3⟩ := mem_across.1 hp
        exact ⟨p.1, p.2, (mem_row l _).1 ((mem_lvs h.left).1 h1), (mem_row r _).1 ((mem_lvs h.right).1 h2), nr_iff.1 h3⟩
      · rintro ⟨i, j, hi, hj, hn⟩
        exact List.ne_nil_of_mem (mem_across.2 ⟨(mem_lvs h.left).2 ((mem_row l i).2 hi), (mem_lvs h.right).2 ((mem_row r j).2 hj), nr_iff.2 hn⟩ : (i, j) ∈ across b (lvs l) (lvs r))
    rw [e, Bool.and_eq_true, Bool.and_eq_true, acr_iff l h.left, acr_iff r h.right, decide_eq_true_eq, e1]
    rfl
/-- a right plan shows all thirds -/
theorem good_shows {b : List (List Nat)} : ∀ t : PM.T, Pl t → AtF (PM.Good (CC b)) t → AtF (PM.AoN (CC b)) t
  | .leaf _, _, _ => trivial
  | .fork l r, h, ⟨h1, h2, h3⟩ => ⟨good_shows l h.left h1, good_shows r h.right h2, PM.AoN.of_good h3 (pl_apart h)⟩
theorem acr_hung {b : List (List Nat)} : ∀ t : PM.T, AtF (fun L R => ∃ i j, L i ∧ R j ∧ PM.Near (CC b) i j) t → PM.Hung (CC b) t.In
  | .leaf x, _ => PM.hung_one (x := x) fun y => Iff.rfl
  | .fork l r, ⟨h1, h2, h3⟩ => PM.hung_join (acr_hung l h1) (acr_hung r h2) h3
/-- in a book with a right plan a plan with neighbours across that shows all thirds is right -/
theorem shows_good {b : List (List Nat)} {t0 : PM.T} (h0 : t0.Right (CC b)) : ∀ t : PM.T, Pl t → (∀ x, t.In x → t0.In x) → AtF (fun L R => ∃ i j, L i ∧ R j ∧ PM.Near (CC b) i j) t → AtF (PM.AoN (CC b)) t → AtF (PM.Good (CC b)) t
  | .leaf _, _, _, _, _ => trivial
  | .fork l r, h, hs, ⟨a1, a2, a3⟩, ⟨h1, h2, h3⟩ => ⟨shows_good h0 l h.left (fun x hx => hs x (.inl hx)) a1 h1, shows_good h0 r h.right (fun x hx => hs x (.inr hx)) a2 h2,
      PM.good_of_right t0 h0 l.In r.In (fun x hx => hs x (.inl hx)) (fun x hx => hs x (.inr hx)) (pl_apart h) (acr_hung l a1) (acr_hung r a2) a3 h3⟩
/-- the law's two looks -/
theorem told_one {b : List (List Nat)} {t : PM.T} (hb : Bk b) (h : PlA b t) : allG b t = true → SB b t = true := fun k =>
  (SB_iff hb h).2 ((NoT_iff t (h.pl hb)).2 (good_shows t (h.pl hb) ((allG_iff hb t (h.pl hb)).1 k)))
theorem told_two {b : List (List Nat)} {t : PM.T} (hb : Bk b) (h : PlA b t) (hr : HR b) (ha : acrB b t = true) : allG b t = SB b t := by
  obtain ⟨t0, h0, hm⟩ := hr
  rw [Bool.eq_iff_iff]
  refine ⟨told_one hb h, fun k => (allG_iff hb t (h.pl hb)).2 ?_⟩
  exact shows_good h0 t (h.pl hb) (fun x hx => (hm x).2 ((h.mem x).1 ((mem_row t x).2 hx))) ((acr_iff t (h.pl hb)).1 ha) ((NoT_iff t (h.pl hb)).1 ((SB_iff hb h).1 k))
end K56

end

section
set_option maxRecDepth 100000
set_option maxHeartbeats 4000000
namespace K56
open MM MP PySem
variable {W : Nat}
theorem S_isshown {k : Nat} (x : T3) (ps : List (List Nat)) : Pur (callR fns W (k + 1)) i_is_shown [t3D x, .lst (ps.map tI)] (.bl (shownB ps x)) := by
  refine .of0 rfl fun st => ?_
  obtain ⟨p, q, r⟩ := x
  rw [run_at (fn := m_is_shown) rfl]
  have := for_rule (src := none) (f := bodyF (callR fns W k) W (.nm 5) (.cons (.ite (.and (.cmp .isin (.var 2) (.var 5)) (.cmp .isin (.var 3) (.var 5))) (.cons (.ret (.cmp .notin (.var 4) (.var 5)))
    .nil) .nil)
    .nil)) tI
      (fun xs ρ st' => ∃ o, ρ = [some (t3D (p, q, r)), some (.lst (ps.map tI)), some (nI p), some (nI q), some (nI r), o] ∧ st' = st ∧ xs.find? (hasB p q) = ps.find? (hasB p q))
      (fun fl ρ st' => st' = st ∧ ((fl = .next ∧ ∃ o, ρ = [some (t3D (p, q, r)), some (.lst (ps.map tI)), some (nI p), some (nI q), some (nI r), o] ∧ ps.find? (hasB p q) = none) ∨ ∃ s, fl = .ret (.bl (decide (r ∉ s))) ∧ ps.find? (hasB p q) = some s))
      ?_ ?_ ps [some (t3D (p, q, r)), some (.lst (ps.map tI)), some (nI p), some (nI q), some (nI r), none] st ⟨none, rfl, rfl, rfl⟩
  · obtain ⟨fl, ρ', st', h1, rfl, ⟨rfl, o, rfl, h2⟩ | ⟨s, rfl, h2⟩⟩ := this
    · simp only [runF, m_is_shown]
      simp [s_for]
      rw [h1]
      simp [shownB, h2]
    · simp only [runF, m_is_shown]
      simp [s_for]
      rw [h1]
      simp [shownB, h2]
  · rintro ρ st' ⟨o, rfl, rfl, e⟩
    exact ⟨rfl, rfl, .inl ⟨rfl, o, rfl, e.symm⟩⟩
  · rintro s xs ρ st' ⟨o, rfl, rfl, e⟩
    rw [List.find?_cons] at e
    refine ⟨rfl, ?_⟩
    cases hc : hasB p q s with
    | true =>
      rw [hc] at e
      right
      refine ⟨.bl (decide (r ∉ s)), [some (t3D (p, q, r)), some (.lst (ps.map tI)), some (nI p), some (nI q), some (nI r), some (tI s)], st', ?_, rfl, .inr ⟨s, rfl, e.symm⟩⟩
      unfold hasB at hc
      simp [bodyF, cmpD, andK_b, hc]
    | false =>
      rw [hc] at e
      left
      refine ⟨[some (t3D (p, q, r)), some (.lst (ps.map tI)), some (nI p), some (nI q), some (nI r), some (tI s)], st', ?_, some (tI s), rfl, rfl, e⟩
      unfold hasB at hc
      simp [bodyF, cmpD, andK_b, hc]
theorem parts_len (t : PM.T) : (parts t).length + 1 = (row t).length := by rw [parts, List.length_map, fks_len]
theorem S_shows {k : Nat} {b : List (List Nat)} {t : PM.T} (hb : Bk b) (hh : PM.Hung (CC b) (· ∈ allS b)) (h : PlA b t) (hW : 100 ≤ W) : Pur (callR fns W (k + 15)) i_shows [bk b, tD t] (.bl (SB b t)) := by
  refine .of0 rfl fun st => ?_
  have hd := h.dep hb
  have h1 := S_forks (W := W) (k := k + (10 - tdep t)) t (h.pl hb)
  rw [show k + (10 - tdep t) + tdep t + 4 = k + 14 by omega] at h1
  have hl := parts_len t
  have hl2 := (h.pl hb).len
  have hfl := fks_len t
  obtain ⟨lF, _, _⟩ := len_thF hb
  rw [run_at (fn := m_shows) rfl]
  simp only [runF, m_shows]
  simp [(S_joined (W := W) (k := k + 6) hb hh hW).call, (S_wantplan (W := W) (k := k) hb h).call]
  rw [eg_map fD (fks t) (fun p => tI (p.1 ++ p.2)) none (by simp [h1.call]) rfl (fun p hp => ⟨[some (bk b), some (tD t), none, some (tI p.1), some (tI p.2), none], by simp [fD], by
    have h2 := fks_small t p hp
    have ha : binD .add st (tI p.1) (tI p.2) = some (tI (p.1 ++ p.2)) := add_tI (a := p.1) (c := p.2) (by omega)
    simp [ha]⟩)]
  simp only [bnd_some, List.length_map]
  rw [if_pos (by simp only [cap]; omega)]
  simp
  rw [show ((fks t).map fun p => tI (p.1 ++ p.2)) = (parts t).map tI by rw [parts, List.map_map]; rfl]
  rw [eg_map t3D (thF b) (fun x => .bl (shownB (parts t) x)) none (by simp [(S_pthirds (W := W) (k := k + 12) hb).call]) rfl (fun x hx => ⟨_, by simp; rfl, by
    have := (S_isshown (W := W) (k := k + 13) x (parts t)).call st
    simp [this]⟩)]
  simp only [bnd_some, List.length_map]
  rw [if_pos (by simp only [cap]; omega)]
  simp
  rw [← shown_SB hb h]
/-! ### the law's own looks -/
theorem lpl_lvs {t : PM.T} (p q : Nat) : ∃ s : PM.T, lpl t p q = lvs s := by
  induction t with
  | leaf x => exact ⟨.leaf x, rfl⟩
  | fork l r ih1 ih2 =>
    rw [lpl]
    split
    · exact ih1
    · split
      · exact ih2
      · exact ⟨.fork l r, rfl⟩
theorem S_least {k p q : Nat} : ∀ (t : PM.T), Pl t → Pur (callR fns W (k + tdep t + 2)) i_law_least_part [tD t, .tup [nI p, nI q]] (tI (lpl t p q))
  | .leaf x, h => by
    refine .of0 (by simp) fun st => ?_
    rw [show k + tdep (.leaf x) + 2 = (k + 1) + 1 from rfl, run_at (fn := m_law_least_part) rfl]
    simp only [runF, m_law_least_part]
    have := (S_tleaves (W := W) (k := k) (.leaf x) h).call st
    have e : callE (callR fns W (k + 1)) i_law_tree_leaves [nI x] st = some (tI (lvs (.leaf x)), st) := this
    simp [tD, e, lpl]
  | .fork l r, h => by
    refine .of0 (by simp) fun st => ?_
    have hl := S_least (k := k + (max (tdep l) (tdep r) - tdep l)) (p := p) (q := q) l h.left
    have hr := S_least (k := k + (max (tdep l) (tdep r) - tdep r)) (p := p) (q := q) r h.right
    rw [show k + (max (tdep l) (tdep r) - tdep l) + tdep l + 2 = k + max (tdep l) (tdep r) + 2 by omega] at hl
    rw [show k + (max (tdep l) (tdep r) - tdep r) + tdep r + 2 = k + max (tdep l) (tdep r) + 2 by omega] at hr
    have tl := S_tleaves (W := W) (k := k + (max (tdep l) (tdep r) - tdep l) + 1) l h.left
    have tr := S_tleaves (W := W) (k := k + (max (tdep l) (tdep r) - tdep r) + 1) r h.right
    rw [show k + (max (tdep l) (tdep r) - tdep l) + 1 + tdep l + 1 = k + max (tdep l) (tdep r) + 2 by omega] at tl
    rw [show k + (max (tdep l) (tdep r) - tdep r) + 1 + tdep r + 1 = k + max (tdep l) (tdep r) + 2 by omega] at tr
    have tt := S_tleaves (W := W) (k := k) (.fork l r) h
    rw [show k + tdep (.fork l r) + 1 = k + max (tdep l) (tdep r) + 2 by simp [tdep]; omega] at tt
    rw [show k + tdep (.fork l r) + 2 = (k + max (tdep l) (tdep r) + 2) + 1 by simp [tdep]; omega, run_at (fn := m_law_least_part) rfl]
    have side : ∀ (s : PM.T) (o : Option D), Pur (callR fns W (k + max (tdep l) (tdep r) + 2)) i_law_tree_leaves [tD s] (tI (lvs s)) → Pur (callR fns W (k + max (tdep l) (tdep r) + 2)) i_law_least_part [tD s, .tup [nI p, nI q]] (tI (lpl s p q)) →
        bodyF (callR fns W (k + max (tdep l) (tdep r) + 2)) W (.nm 2) (.cons (.ite (.cmp .eq (.frz (.comp (.one (.nm 3) (.seq (.var 1)) (.cons (.cmp .notin (.var 3) (.call i_law_tree_leaves (.cons (.var 2) .nil))) .nil) (.var 3)))) (.frz (.disp .nil))) (.cons (.ret (.call i_law_least_part (.cons (.var 2) (.cons (.var 1) .nil))))
    .nil) .nil)
    .nil) (tD s) [some (tD (.fork l r)), some (.tup [nI p, nI q]), o, none] st = if hasB p q (lvs s) then some (.ret (tI (lpl s p q)), [some (tD (.fork l r)), some (.tup [nI p, nI q]), some (tD s), none], st) else some (.next, [some (tD (.fork l r)), some (.tup [nI p, nI q]), some (tD s), none], st) := by
      intro s o h1 h2
      have ht : test (callR fns W (k + max (tdep l) (tdep r) + 2)) (.cmp .eq (.frz (.comp (.one (.nm 3) (.seq (.var 1)) (.cons (.cmp .notin (.var 3) (.call i_law_tree_leaves (.cons (.var 2) .nil))) .nil) (.var 3)))) (.frz (.disp .nil))) [some (tD (.fork l r)), some (.tup [nI p, nI q]), some (tD s), none] st = some (hasB p q (lvs s), st) := by
        rw [test_eq, ev_cmp, ev_frz, el_comp]
        rw [eg_fil nI [p, q] (fun c => decide (c ∉ lvs s)) nI none (by simp) rfl (fun c _ => ⟨_, by simp; rfl, by rw [et_one]; simp [h1.call, cmpD], by simp⟩)]
        have := List.length_filter_le (fun c => decide (c ∉ lvs s)) [p, q]
        simp only [List.length_cons, List.length_nil] at this
        simp only [bnd_some, List.length_map]
        rw [if_pos (by simp only [cap]; exact decide_eq_true (by omega))]
        simp only [bnd_some, ev_frz, el_disp, evs_nil, cmpD]
        rw [show (D.lst []) = .lst (([] : List Nat).map nI) from rfl, eq_lstI]
        simp only [liftO_some, Option.map_some, bnd_some, truth_bl]
        rw [Option.some.injEq, Prod.mk.injEq]
        refine ⟨?_, rfl⟩
        rw [Bool.eq_iff_iff, hasB_iff, decide_eq_true_eq, List.filter_eq_nil_iff]
        simp
      rw [bodyF, bind_nm, if_pos (by simp)]
      dsimp only [List.set]
      rw [ss_step, s_ite, ht]
      cases hasB p q (lvs s) with
      | true => simp [h2.call]
      | false => simp
    have e : tD (.fork l r) = .tup [tD l, tD r] := rfl
    have q2 : evS (callR fns W (k + max (tdep l) (tdep r) + 2)) W (.forS (.nm 2) (.seq (.var 0)) (.cons (.ite (.cmp .eq (.frz (.comp (.one (.nm 3) (.seq (.var 1)) (.cons (.cmp .notin (.var 3) (.call i_law_tree_leaves (.cons (.var 2) .nil))) .nil) (.var 3)))) (.frz (.disp .nil))) (.cons (.ret (.call i_law_least_part (.cons (.var 2) (.cons (.var 1) .nil))))
    .nil) .nil)
    .nil)) [some (tD (.fork l r)), some (.tup [nI p, nI q]), none, none] st = if hasB p q (lvs l) then some (.ret (tI (lpl l p q)), [some (tD (.fork l r)), some (.tup [nI p, nI q]), some (tD l), none], st) else if hasB p q (lvs r) then some (.ret (tI (lpl r p q)), [some (tD (.fork l r)), some (.tup [nI p, nI q]), some (tD r), none], st) else some (.next, [some (tD (.fork l r)), some (.tup [nI p, nI q]), some (tD r), none], st) := by
      rw [s_for]
      rw [show evIt (callR fns W (k + max (tdep l) (tdep r) + 2)) (.seq (.var 0)) [some (tD (.fork l r)), some (.tup [nI p, nI q]), none, none] st = some (([tD l, tD r], none), st) by simp [e]]
      dsimp only
      rw [forF, stays_none, if_pos rfl, side l none tl hl]
      cases hasB p q (lvs l) with
      | true => simp
      | false =>
        simp only [Bool.false_eq_true, if_false]
        rw [forF, stays_none, if_pos rfl, side r _ tr hr]
        cases hasB p q (lvs r) with
        | true => simp
        | false => simp [forF]
    have q1 : evS (callR fns W (k + max (tdep l) (tdep r) + 2)) W (.ite (.not (.isi .int (.var 0))) (.cons (.forS (.nm 2) (.seq (.var 0)) (.cons (.ite (.cmp .eq (.frz (.comp (.one (.nm 3) (.seq (.var 1)) (.cons (.cmp .notin (.var 3) (.call i_law_tree_leaves (.cons (.var 2) .nil))) .nil) (.var 3)))) (.frz (.disp .nil))) (.cons (.ret (.call i_law_least_part (.cons (.var 2) (.cons (.var 1) .nil))))
    .nil) .nil)
    .nil))
    .nil) .nil) [some (tD (.fork l r)), some (.tup [nI p, nI q]), none, none] st = if hasB p q (lvs l) then some (.ret (tI (lpl l p q)), [some (tD (.fork l r)), some (.tup [nI p, nI q]), some (tD l), none], st) else if hasB p q (lvs r) then some (.ret (tI (lpl r p q)), [some (tD (.fork l r)), some (.tup [nI p, nI q]), some (tD r), none], st) else some (.next, [some (tD (.fork l r)), some (.tup [nI p, nI q]), some (tD r), none], st) := by
      rw [s_ite]
      rw [show test (callR fns W (k + max (tdep l) (tdep r) + 2)) (.not (.isi .int (.var 0))) [some (tD (.fork l r)), some (.tup [nI p, nI q]), none, none] st = some (true, st) by simp [e]]
      dsimp only
      rw [ss_step, q2]
      cases hasB p q (lvs l) <;> cases hasB p q (lvs r) <;> simp
    have go : evSs (callR fns W (k + max (tdep l) (tdep r) + 2)) W m_law_least_part.body [some (tD (.fork l r)), some (.tup [nI p, nI q]), none, none] st = some (.ret (tI (lpl (.fork l r) p q)), (if hasB p q (lvs l) then [some (tD (.fork l r)), some (.tup [nI p, nI q]), some (tD l), none] else [some (tD (.fork l r)), some (.tup [nI p, nI q]), some (tD r), none]), st) := by
      show evSs _ _ (.cons _ _) _ st = _
      rw [ss_step, q1, lpl]
      cases hasB p q (lvs l) with
      | true => simp
      | false => cases hasB p q (lvs r) with
        | true => simp
        | false => simp [tt.call]
    exact runF_ret (fn := m_law_least_part) rfl go
theorem slice_two {st : St} (x y z : D) : sliceD st (.tup [x, y, z]) none (some 2) = some (.tup [x, y]) := by
  have : cutD [x, y, z] none (some ((2 : Nat) : Int)) = [x, y, z].take 2 := cut_take (α := D) [x, y, z] 2
  show some (D.tup (cutD [x, y, z] none (some 2))) = _
  rw [show (2 : Int) = ((2 : Nat) : Int) from rfl, this]
  rfl
theorem S_tshows {k : Nat} {b : List (List Nat)} {t : PM.T} (hb : Bk b) (h : PlA b t) : Pur (callR fns W (k + 11)) i_law_tree_shows [bk b, tD t] (.bl (SB b t)) := by
  refine .of0 rfl fun st => ?_
  have hd := h.dep hb
  obtain ⟨lF, _, _⟩ := len_thF hb
  rw [run_at (fn := m_law_tree_shows) rfl]
  simp only [runF, m_law_tree_shows]
  simp
  rw [eg_fil t3D (thF b) (fun x => decide (x.2.2 ∈ lpl t x.1 x.2.1)) t3D none (by simp [(S_thirds (W := W) (k := k + 8) hb).call]) rfl (fun x hx => ⟨[some (bk b), some (tD t), some (t3D x)], by simp, by
    have hlp := S_least (W := W) (k := k + (8 - tdep t)) (p := x.1) (q := x.2.1) t (h.pl hb)
    rw [show k + (8 - tdep t) + tdep t + 2 = k + 10 by omega] at hlp
    have hs := slice_two (st := st) (nI x.1) (nI x.2.1) (nI x.2.2)
    rw [et_one]
    simp [hs, hlp.call, cmpD], by simp⟩)]
  have h3 := List.length_filter_le (fun x : T3 => decide (x.2.2 ∈ lpl t x.1 x.2.1)) (thF b)
  simp only [bnd_some, List.length_map]
  rw [if_pos (by simp only [cap]; omega)]
  simp [cmpD]
  rw [eq_lst0 (clean_t3s _) (by have := deps_t3s ((thF b).filter fun x => decide (x.2.2 ∈ lpl t x.1 x.2.1)); omega)]
  simp [SB]
  rw [Bool.eq_iff_iff]
  simp
theorem S_allacr {k : Nat} {b : List (List Nat)} {t : PM.T} (hb : Bk b) (h : PlA b t) : Pur (callR fns W (k + 11)) i_law_all_across [bk b, tD t] (.bl (acrB b t)) := by
  refine .of0 rfl fun st => ?_
  have hd := h.dep hb
  have hf := S_tforks (W := W) (k := k + (8 - tdep t)) t (h.pl hb)
  rw [show k + (8 - tdep t) + tdep t + 2 = k + 10 by omega] at hf
  have hfl := fks_len t
  have hl2 := (h.pl hb).len
  rw [run_at (fn := m_law_all_across) rfl]
  simp only [runF, m_law_all_across]
  simp
  rw [eg_fil fD (fks t) (fun p => decide (across b p.1 p.2 = [])) fD none (by simp [hf _]) rfl (fun p hp => ⟨[some (bk b), some (tD t), some (fD p)], by simp, by
    have h1 := fks_in t p hp
    have h2 := fks_small t p hp
    have := S_lacross (W := W) (k := k + 7) (l := p.1) (r := p.2) hb (fun i hi => (h.mem i).1 (h1.1 i hi)) h2.1 (fun i hi => (h.mem i).1 (h1.2 i hi)) h2.2
    have e := eq_lst0 (st := st) (clean_pIs (across b p.1 p.2)) (by have := deps_pIs (across b p.1 p.2); omega)
    rw [et_one]
    simp [fD, this.call, cmpD]
    rw [e]
    simp, by simp⟩)]
  have h3 := List.length_filter_le (fun p : List Nat × List Nat => decide (across b p.1 p.2 = [])) (fks t)
  simp only [bnd_some, List.length_map]
  rw [if_pos (by simp only [cap]; omega)]
  simp [cmpD]
  rw [eq_lst0 (clean_fDs _) (by
    rw [deps_iff]
    intro x hx
    obtain ⟨p, _, rfl⟩ := List.mem_map.1 hx
    simp [fD])]
  simp [acrB]
  rw [Bool.eq_iff_iff]
  simp
theorem S_told {k : Nat} {b : List (List Nat)} {t : PM.T} (hb : Bk b) (hh : PM.Hung (CC b) (· ∈ allS b)) (h : PlA b t) (rl : Bool) (hr : rl = true → HR b) (hW : 100 ≤ W) : Pur (callR fns W (k + 16)) i_law_tree_told_right [bk b, tD t, .bl rl] (.bl true) := by
  refine .of0 rfl fun st => ?_
  have hd := h.dep hb
  have r1 := S_tright (W := W) (k := k + (9 - tdep t)) hb (h.pl hb) fun x hx => (h.mem x).1 hx
  rw [show k + (9 - tdep t) + tdep t + 6 = k + 15 by omega] at r1
  have r2 := S_tshows (W := W) (k := k + 4) hb h
  have r3 := S_planright (W := W) (k := k + 1) hb hh h hW
  have r4 := S_shows (W := W) (k := k) hb hh h hW
  have r5 := S_allacr (W := W) (k := k + 4) hb h
  have m1 := told_one hb h
  have q1 : evS (callR fns W (k + 15)) W (.par 3 4 (.call i_law_tree_is_right (.cons (.var 0) (.cons (.var 1) .nil))) (.call i_law_tree_shows (.cons (.var 0) (.cons (.var 1) .nil)))) [some (bk b), some (tD t), some (.bl rl), none, none] st = some (.next, [some (bk b), some (tD t), some (.bl rl), some (.bl (allG b t)), some (.bl (SB b t))], st) := by
    simp [r1.call, r2.call]
  have q2 : evE (callR fns W (k + 15)) (.cmp .ne (.repr (.tup (.cons (.call i_plan_right (.cons (.var 0) (.cons (.var 1) .nil))) (.cons (.call i_shows (.cons (.var 0) (.cons (.var 1) .nil))) .nil)))) (.repr (.tup (.cons (.var 3) (.cons (.var 4) .nil))))) [some (bk b), some (tD t), some (.bl rl), some (.bl (allG b t)), some (.bl (SB b t))] st = some (.bl false, st) :=
    ne_tame (st1 := st) (d := .tup [.bl (allG b t), .bl (SB b t)]) (by simp [r3.call, r4.call]) (by simp) (by simp) (by simp) (by show D.wts [.bl (allG b t), .bl (SB b t)] + 3 ≤ cap; simp [D.wts, D.wt, cap])
  rw [run_at (fn := m_law_tree_told_right) rfl]
  refine runF_ret (fn := m_law_tree_told_right) (ρ' := [some (bk b), some (tD t), some (.bl rl), some (.bl (allG b t)), some (.bl (SB b t))]) rfl ?_
  show evSs _ _ (.cons _ _) [some (bk b), some (tD t), some (.bl rl), none, none] st = _
  rw [ss_cons _ _ _ _ _ _ q1, ss_step, s_ite, test_eq, q2]
  simp only [bnd_some, truth_bl, liftO_some, ss_nil, then_next]
  rw [ss_step, s_ite, test_eq]
  rw [show evE (callR fns W (k + 15)) (.and (.var 3) (.not (.var 4))) [some (bk b), some (tD t), some (.bl rl), some (.bl (allG b t)), some (.bl (SB b t))] st = some (.bl false, st) by
    simp [andK_b]
    exact m1]
  simp only [bnd_some, truth_bl, liftO_some, ss_nil, then_next]
  rw [ss_step, s_ret]
  rw [show evE (callR fns W (k + 15)) (.or (.not (.var 2)) (.or (.not (.call i_law_all_across (.cons (.var 0) (.cons (.var 1) .nil)))) (.cmp .eq (.var 3) (.var 4)))) [some (bk b), some (tD t), some (.bl rl), some (.bl (allG b t)), some (.bl (SB b t))] st = some (.bl true, st) by
    cases rl with
    | false => rw [or_t (by simp)]
    | true =>
      rw [or_f (by simp)]
      cases ha : acrB b t with
      | false => rw [or_t (by simp [r5.call, ha])]
      | true =>
        rw [or_f (by simp [r5.call, ha])]
        simp [cmpD, told_two hb h (hr rfl) ha]]
  rfl
end K56

end

section
set_option maxRecDepth 100000
set_option maxHeartbeats 4000000
namespace K56
open MM MP PySem
variable {W : Nat}
/-! ### plans that the law draws -/
structure PlG (g : List Nat) (t : PM.T) : Prop where
  nd : (row t).Nodup
  mem : ∀ x, x ∈ row t ↔ x ∈ g
theorem Side.plg {g : List Nat} {p : List Nat × List Nat} {l r : PM.T} (h : Side g p) (hl : PlG p.1 l) (hr : PlG p.2 r) : PlG g (.fork l r) := by
  refine ⟨?_, fun x => ?_⟩
  · rw [row, List.nodup_append]
    refine ⟨hl.nd, hr.nd, fun a ha c hc e => ?_⟩
    have h1 := (hl.mem a).1 ha
    have h2 := (hr.mem c).1 hc
    rw [h.rest, List.mem_filter, decide_eq_true_eq] at h2
    exact h2.2 (e ▸ h1)
  · rw [row, List.mem_append, hl.mem, hr.mem, h.rest, List.mem_filter, decide_eq_true_eq]
    constructor
    · rintro (k | k)
      · exact h.sub.subset k
      · exact k.1
    · intro k
      by_cases hx : x ∈ p.1
      · exact .inl hx
      · exact .inr ⟨k, hx⟩
theorem PlG.pla {b : List (List Nat)} {t : PM.T} (h : PlG (allS b) t) : PlA b t := ⟨h.nd, fun x => by rw [h.mem, List.mem_range]⟩
theorem T_alltrees : ∀ (n k : Nat) (g : List Nat), g.Pairwise (· < ·) → g ≠ [] → g.length ≤ n → g.length ≤ 5 → ∀ st : St,
    ∃ ts : List PM.T, (∀ t ∈ ts, PlG g t) ∧ ts.length ≤ Bd g.length ∧ callE (callR fns W (k + 1 + n)) i_law_all_trees [tI g] st = some (.lst (ts.map tD), st)
  | 0, k, g, hg, hne, hn, h5, st => absurd (List.length_pos_iff.2 hne) (by omega)
  | n + 1, k, g, hg, hne, hn, h5, st => by
    suffices ∃ ts : List PM.T, (∀ t ∈ ts, PlG g t) ∧ ts.length ≤ Bd g.length ∧ callR fns W (k + 1 + (n + 1)) i_law_all_trees [tI g] st = some (.ref st.length, st ++ [.lst (ts.map tD)]) by
      obtain ⟨ts, h1, h2, e⟩ := this
      refine ⟨ts, h1, h2, ?_⟩
      unfold callE
      rw [e]
      exact fin_new0 (Nat.le_refl _) (by simp) fun y hy => .inl ((pures_iff _).1 (pures_of_cleans _ (clean_tDs ts)) y hy)
    have hpos := List.length_pos_iff.2 hne
    rw [show k + 1 + (n + 1) = (k + 1 + n) + 1 by omega, run_at (fn := m_law_all_trees) rfl]
    by_cases h1 : g.length = 1
    · obtain ⟨x, rfl⟩ := List.length_eq_one_iff.1 h1
      refine ⟨[.leaf x], by
        intro t ht
        rw [List.mem_singleton] at ht
        subst ht
        exact ⟨by simp [row], fun y => by simp [row]⟩, by simp [Bd], ?_⟩
      simp only [runF, m_law_all_trees]
      have hi : idxD st (tI [x]) (.int 0) = some (nI x) := by simp [tI]
      simp [cmpD, hi, tD]
    · obtain ⟨x, r, rfl⟩ := List.exists_cons_of_ne_nil hne
      simp only [List.length_cons] at h5 h1 hn
      obtain ⟨ss, hss, hlen, e⟩ := T_sides (W := W) (k := k + n) x r (by omega) (st ++ [.lst []])
      rw [show k + n + 1 = k + 1 + n by omega] at e
      simp only [runF, m_law_all_trees]
      have hr0 : ¬ ((r.length : Int) + 1 = 1) := by omega
      simp [s_for, cmpD, hr0, e]
      obtain ⟨B, hB⟩ : ∃ B, B = Bd (r.length + 1) := ⟨_, rfl⟩
      have hB1 := Bd_1024 (r.length + 1) (by omega)
      have := for_rule (src := none) (f := bodyF (callR fns W (k + 1 + n)) W (.tp (.cons (.nm 2) (.cons (.nm 3) .nil))) (.cons (.forS (.nm 4) (.seq (.call i_law_all_trees (.cons (.var 2) .nil))) (.cons (.ext (.var 1) (.comp (.one (.nm 5) (.seq (.call i_law_all_trees (.cons (.var 3) .nil))) .nil (.tup (.cons (.var 4) (.cons (.var 5) .nil))))))
    .nil))
    .nil)) fD
        (fun xs ρ s => ∃ (ts : List PM.T) (o2 o3 o4 : Option D), ρ = [some (tI (x :: r)), some (.ref st.length), o2, o3, o4, none] ∧ s = st ++ [.lst (ts.map tD)] ∧ (∀ p ∈ xs, p ∈ ss) ∧ (∀ t ∈ ts, PlG (x :: r) t) ∧ 2 ^ r.length * ts.length + xs.length * B ≤ ss.length * B)
        (fun fl ρ s => ∃ (ts : List PM.T) (o2 o3 o4 : Option D), fl = .next ∧ ρ = [some (tI (x :: r)), some (.ref st.length), o2, o3, o4, none] ∧ s = st ++ [.lst (ts.map tD)] ∧ (∀ t ∈ ts, PlG (x :: r) t) ∧ 2 ^ r.length * ts.length ≤ ss.length * B)
        ?_ ?_ ss [some (tI (x :: r)), some (.ref st.length), none, none, none, none] (st ++ [.lst []]) ⟨[], none, none, none, rfl, rfl, fun p hp => hp, by simp, by simp⟩
      · obtain ⟨fl, ρ', s, h3, ts, o2, o3, o4, rfl, rfl, rfl, h4, h6⟩ := this
        rw [h3]
        simp
        refine ⟨ts, h4, ?_, rfl⟩
        rw [← hB]
        exact Nat.le_of_mul_le_mul_left (Nat.le_trans h6 (Nat.mul_le_mul_right B hlen)) (Nat.pow_pos (by omega))
      · rintro ρ s ⟨ts, o2, o3, o4, rfl, rfl, _, h4, h6⟩
        exact ⟨rfl, ts, o2, o3, o4, rfl, rfl, rfl, h4, by simpa using h6⟩
      · rintro p ps ρ s ⟨ts, o2, o3, o4, rfl, rfl, h3, h4, h6⟩
        have hp := hss p (h3 p (by simp))
        have hpl := hp.len hg
        simp only [List.length_cons] at hpl
        have hpne := List.length_pos_iff.2 hp.ne
        have hlt := hp.lt
        simp only [List.length_cons] at hlt
        have gl : p.1.Pairwise (· < ·) := hg.sublist hp.sub
        have gr : p.2.Pairwise (· < ·) := by rw [show p.2 = _ from hp.rest]; exact hg.filter _
        have hrne : p.2 ≠ [] := by
          intro e
          have e' := congrArg List.length e
          rw [List.length_nil] at e'
          omega
        obtain ⟨lefts, n1, n2, n3⟩ := T_alltrees n k p.1 gl hp.ne (by omega) (by omega) (st ++ [.lst (ts.map tD)])
        have hbd := Bd_le p.1.length (by omega) p.2.length (by omega) hpne (List.length_pos_iff.2 hrne) (by omega)
        rw [hpl, ← hB, Nat.add_sub_cancel] at hbd
        obtain ⟨M, hM⟩ : ∃ M, M = Bd p.2.length := ⟨_, rfl⟩
        rw [← hM] at hbd
        have hlo : 2 ^ r.length * (lefts.length * M) ≤ B := Nat.le_trans (Nat.mul_le_mul_left _ (Nat.mul_le_mul_right M n2)) hbd
        have hssB : 2 ^ r.length * ts.length + B ≤ 2 ^ r.length * B := by
          have h7 : ss.length * B ≤ 2 ^ r.length * B := Nat.mul_le_mul_right B hlen
          have h8 : (ps.length + 1) * B = ps.length * B + B := Nat.succ_mul _ _
          simp only [List.length_cons] at h6
          omega
        refine ⟨rfl, .inl ?_⟩
        have inner := for_rule (src := none) (f := bodyF (callR fns W (k + 1 + n)) W (.nm 4) (.cons (.ext (.var 1) (.comp (.one (.nm 5) (.seq (.call i_law_all_trees (.cons (.var 3) .nil))) .nil (.tup (.cons (.var 4) (.cons (.var 5) .nil))))))
    .nil)) tD
          (fun xs ρ s => ∃ (out : List PM.T) (o4 : Option D), ρ = [some (tI (x :: r)), some (.ref st.length), some (tI p.1), some (tI p.2), o4, none] ∧ s = st ++ [.lst (out.map tD)] ∧ (∀ t ∈ xs, t ∈ lefts) ∧ (∀ t ∈ out, PlG (x :: r) t) ∧ out.length + xs.length * M ≤ ts.length + lefts.length * M)
          (fun fl ρ s => ∃ (out : List PM.T) (o4 : Option D), fl = .next ∧ ρ = [some (tI (x :: r)), some (.ref st.length), some (tI p.1), some (tI p.2), o4, none] ∧ s = st ++ [.lst (out.map tD)] ∧ (∀ t ∈ out, PlG (x :: r) t) ∧ out.length ≤ ts.length + lefts.length * M)
          ?_ ?_ lefts [some (tI (x :: r)), some (.ref st.length), some (tI p.1), some (tI p.2), o4, none] (st ++ [.lst (ts.map tD)]) ⟨ts, o4, rfl, rfl, fun t ht => ht, h4, Nat.le_refl _⟩
        · obtain ⟨fl, ρ', s', h7, out, o4', rfl, rfl, rfl, h8, h9⟩ := inner
          refine ⟨[some (tI (x :: r)), some (.ref st.length), some (tI p.1), some (tI p.2), o4', none], st ++ [.lst (out.map tD)], ?_, out, _, _, _, rfl, rfl, fun q hq => h3 q (by simp [hq]), h8, ?_⟩
          · simp [bodyF, fD, s_for, n3]
            rw [h7]
            simp
          · have h10 : 2 ^ r.length * out.length ≤ 2 ^ r.length * (ts.length + lefts.length * M) := Nat.mul_le_mul_left _ h9
            rw [Nat.mul_add] at h10
            have h8 : (ps.length + 1) * B = ps.length * B + B := Nat.succ_mul _ _
            simp only [List.length_cons] at h6
            omega
        · rintro ρ s ⟨out, o4, rfl, rfl, _, h8, h9⟩
          exact ⟨rfl, out, o4, rfl, rfl, rfl, h8, by simpa using h9⟩
        · rintro t tt ρ s ⟨out, o4, rfl, rfl, h7, h8, h9⟩
          simp only [List.length_cons] at h9
          rw [Nat.succ_mul] at h9
          obtain ⟨others, m1, m2, m3⟩ := T_alltrees n k p.2 gr hrne (by omega) (by omega) (st ++ [.lst (out.map tD)])
          rw [← hM] at m2
          have hout : out.length + M ≤ 100000 := by
            have hb2 : lefts.length * M ≤ B := Nat.le_trans (Nat.le_mul_of_pos_left _ (Nat.pow_pos (by omega))) hlo
            have hts : ts.length ≤ B := Nat.le_of_mul_le_mul_left (Nat.le_trans (Nat.le_add_right _ _) hssB) (Nat.pow_pos (by omega))
            omega
          refine ⟨rfl, .inl ⟨[some (tI (x :: r)), some (.ref st.length), some (tI p.1), some (tI p.2), some (tD t), none], st ++ [.lst ((out ++ others.map fun r => PM.T.fork t r).map tD)], ?_, out ++ others.map (fun r => PM.T.fork t r), some (tD t), rfl, rfl, fun q hq => h7 q (by simp [hq]), ?_, by rw [List.length_append, List.length_map]; omega⟩⟩
          · simp [bodyF]
            rw [eg_map tD others (fun r => tD (.fork t r)) none (by simp [m3]) rfl (fun r hr => ⟨_, by simp; rfl, by simp [tD]⟩)]
            simp only [bnd_some, List.length_map]
            rw [if_pos (by simp only [cap]; omega)]
            simp
            rw [if_pos (by simp only [cap]; omega)]
            simp
          · intro u hu
            rw [List.mem_append, List.mem_map] at hu
            rcases hu with hu | ⟨r', hr', rfl⟩
            · exact h8 u hu
            · exact hp.plg (n1 t (h7 t (by simp))) (m1 r' hr')
/-! ### forests -/
def rowsF (fs : List PM.T) : List Nat := fs.flatMap row
theorem rows_perm {a c : List PM.T} (h : a.Perm c) : (rowsF a).Perm (rowsF c) := h.flatMap_right row
theorem rows_leaf : ∀ l : List Nat, rowsF (l.map PM.T.leaf) = l
  | [] => rfl
  | x :: l => by
    have := rows_leaf l
    unfold rowsF at this ⊢
    rw [List.map_cons, List.flatMap_cons, this]
    rfl
theorem tD_leaf (l : List Nat) : (l.map PM.T.leaf).map tD = l.map nI := by rw [List.map_map]; rfl
/-- two of a forest put together -/
theorem join_perm {fs rest : List PM.T} {a c : PM.T} {g : List Nat} (h : (a :: c :: rest).Perm fs) (hg : (rowsF fs).Perm g) (t : PM.T) (ht : t = .fork a c ∨ t = .fork c a) : (rowsF (rest ++ [t])).Perm g := by
  refine List.Perm.trans ?_ ((rows_perm h).trans hg)
  unfold rowsF
  rw [List.flatMap_append, List.flatMap_cons, List.flatMap_cons, List.flatMap_cons, List.flatMap_nil, List.append_nil]
  refine List.perm_append_comm.trans ?_
  rw [← List.append_assoc]
  refine List.Perm.append_right _ ?_
  rcases ht with rfl | rfl
  · exact .refl _
  · exact List.perm_append_comm
theorem plg_of {g : List Nat} {t : PM.T} (hg : g.Nodup) (h : (rowsF [t]).Perm g) : PlG g t := by
  have e : rowsF [t] = row t := by simp [rowsF]
  rw [e] at h
  exact ⟨h.nodup_iff.2 hg, fun x => h.mem_iff⟩
theorem pop_ref {s : St} {n : Nat} {xs : List D} {i : Nat} {y : D} (h : s[n]? = some (.lst xs)) (hy : xs[i]? = some y) (hi : i < 1000) : popD s (.ref n) (.int (i : Int)) = some (y, s.set n (.lst (xs.eraseIdx i))) := by
  simp only [popD, h]
  rw [if_pos (by simp; omega)]
  simp [hy]
theorem map_erase {α β : Type} (f : α → β) : ∀ (l : List α) (i : Nat), (l.map f).eraseIdx i = (l.eraseIdx i).map f
  | [], _ => rfl
  | x :: xs, 0 => rfl
  | x :: xs, i + 1 => by simp [map_erase f xs i]
theorem T_drawn {k : Nat} {g : List Nat} (hg : g.Nodup) (hne : g ≠ []) (hl : g.length ≤ 8) (hW : 100 ≤ W) (x y : Int) (rest : St) :
    ∃ t x' y', PlG g t ∧ callE (callR fns W (k + 3)) i_law_drawn_tree [.ref 0, tI g] (J x y :: rest) = some (tD t, J x' y' :: rest) := by
  suffices ∃ t x' y' ex, PlG g t ∧ callR fns W (k + 3) i_law_drawn_tree [.ref 0, tI g] (J x y :: rest) = some (tD t, J x' y' :: (rest ++ ex)) by
    obtain ⟨t, x', y', ex, h, e⟩ := this
    refine ⟨t, x', y', h, ?_⟩
    unfold callE
    rw [e]
    exact fin_J (by simp)
  obtain ⟨ys, hy, x1, y1, e1⟩ := T_mixedL (W := W) (k := k) (x := .lst (g.map nI)) (xs := g.map nI) x y rest (fun _ _ => rfl) (by simp; omega) (by simp)
  obtain ⟨ps, rfl, hps⟩ := perm_map_inv nI _ _ hy
  have hpl := hps.length_eq
  have hpos := List.length_pos_iff.2 hne
  rw [run_at (fn := m_law_drawn_tree) rfl]
  have q1 : evS (callR fns W (k + 2)) W (.asg (.nm 2) (.new (.call i_law_mixed (.cons (.var 0) (.cons (.frz (.ofE (.var 1))) .nil))))) [some (.ref 0), some (tI g), none, none, none] (J x y :: rest) =
      some (.next, [some (.ref 0), some (tI g), some (.ref (rest.length + 1)), none, none], J x1 y1 :: (rest ++ [.lst (((ps.map PM.T.leaf)).map tD)])) := by
    rw [tD_leaf]
    simp [e1]
  have := whl_rule (c := test (callR fns W (k + 2)) (.cmp .gt (.len (.var 2)) (.con (.int 1)))) (f := evSs (callR fns W (k + 2)) W (.cons (.asg (.nm 3) (.popAt (.var 2) (.call i_law_take (.cons (.var 0) (.cons (.len (.var 2)) .nil)))))
    (.cons (.asg (.nm 4) (.popAt (.var 2) (.call i_law_take (.cons (.var 0) (.cons (.len (.var 2)) .nil)))))
    (.cons (.app (.var 2) (.tup (.cons (.var 3) (.cons (.var 4) .nil))))
    .nil))))
      (fun m ρ s => ∃ (fs : List PM.T) (x' y' : Int) (o3 o4 : Option D), ρ = [some (.ref 0), some (tI g), some (.ref (rest.length + 1)), o3, o4] ∧ s = J x' y' :: (rest ++ [.lst (fs.map tD)]) ∧ (rowsF fs).Perm g ∧ fs ≠ [] ∧ fs.length ≤ 8 ∧ m = fs.length)
      (fun fl ρ s => ∃ (t : PM.T) (x' y' : Int) (o3 o4 : Option D), fl = .next ∧ ρ = [some (.ref 0), some (tI g), some (.ref (rest.length + 1)), o3, o4] ∧ s = J x' y' :: (rest ++ [.lst [tD t]]) ∧ PlG g t)
      ?_ W ps.length [some (.ref 0), some (tI g), some (.ref (rest.length + 1)), none, none] (J x1 y1 :: (rest ++ [.lst (((ps.map PM.T.leaf)).map tD)])) (by omega) ⟨ps.map PM.T.leaf, x1, y1, none, none, rfl, rfl, by rw [rows_leaf]; exact hps, by
        intro e
        have := congrArg List.length e
        rw [List.length_map, List.length_nil] at this
        omega, by rw [List.length_map]; omega, by rw [List.length_map]⟩
  · obtain ⟨fl, ρ', s', h1, t, x', y', o3, o4, rfl, rfl, rfl, ht⟩ := this
    refine ⟨t, x', y', [.lst [tD t]], ht, ?_⟩
    refine runF_ret (fn := m_law_drawn_tree) (ρ' := [some (.ref 0), some (tI g), some (.ref (rest.length + 1)), o3, o4]) rfl ?_
    show evSs _ _ (.cons _ _) [some (.ref 0), some (tI g), none, none, none] (J x y :: rest) = _
    rw [ss_cons _ _ _ _ _ _ q1, ss_cons (ρ' := [some (.ref 0), some (tI g), some (.ref (rest.length + 1)), o3, o4]) (st' := J x' y' :: (rest ++ [.lst [tD t]])) _ _ _ _ _ _ (by rw [s_whl]; exact h1)]
    have hi : idxD (J x' y' :: (rest ++ [.lst [tD t]])) (.ref (rest.length + 1)) (.int 0) = some (tD t) := idx_seq (i := 0) (xs := [tD t]) (by simp) rfl
    simp [hi]
  · rintro m ρ s ⟨fs, x', y', o3, o4, rfl, rfl, hp, hfn, hf8, rfl⟩
    have hfpos := List.length_pos_iff.2 hfn
    by_cases h1 : 1 < fs.length
    · right
      refine ⟨by simp [cmpD, cmpInt]; omega, .inl ?_⟩
      obtain ⟨v, x2, y2, hv, e2⟩ := T_take (W := W) (k := k + 1) (top := fs.length) (by omega) (by omega) x' y' (rest ++ [.lst (fs.map tD)])
      have hv1 : (fs.map tD)[v]? = some (tD fs[v]) := by rw [List.getElem?_map, List.getElem?_eq_getElem hv]; rfl
      obtain ⟨f2, hf2⟩ : ∃ f2, f2 = fs.eraseIdx v := ⟨_, rfl⟩
      have hf2l : f2.length + 1 = fs.length := by rw [hf2, List.length_eraseIdx_of_lt hv]; omega
      obtain ⟨u, x3, y3, hu, e3⟩ := T_take (W := W) (k := k + 1) (top := f2.length) (by omega) (by omega) x2 y2 (rest ++ [.lst (f2.map tD)])
      have hu1 : (f2.map tD)[u]? = some (tD f2[u]) := by rw [List.getElem?_map, List.getElem?_eq_getElem hu]; rfl
      have hperm : (fs[v] :: f2[u] :: f2.eraseIdx u).Perm fs := by
        refine List.Perm.trans ?_ (erase_perm fs v hv)
        rw [← hf2]
        exact (erase_perm f2 u hu).cons _
      refine ⟨[some (.ref 0), some (tI g), some (.ref (rest.length + 1)), some (tD fs[v]), some (tD f2[u])], J x3 y3 :: (rest ++ [.lst ((f2.eraseIdx u ++ [PM.T.fork fs[v] f2[u]]).map tD)]), (f2.eraseIdx u ++ [PM.T.fork fs[v] f2[u]]).length, ?_, ?_, _, x3, y3, _, _, rfl, rfl, join_perm hperm hp _ (.inl rfl), by simp, ?_, rfl⟩
      · have p1 := pop_ref (s := J x2 y2 :: (rest ++ [.lst (fs.map tD)])) (n := rest.length + 1) (by simp) hv1 (by omega)
        have p2 := pop_ref (s := J x3 y3 :: (rest ++ [.lst (f2.map tD)])) (n := rest.length + 1) (by simp) hu1 (by omega)
        rw [map_erase, ← hf2] at p1
        rw [map_erase] at p2
        have r1 : evS (callR fns W (k + 2)) W (.asg (.nm 3) (.popAt (.var 2) (.call i_law_take (.cons (.var 0) (.cons (.len (.var 2)) .nil))))) [some (.ref 0), some (tI g), some (.ref (rest.length + 1)), o3, o4] (J x' y' :: (rest ++ [.lst (fs.map tD)])) =
            some (.next, [some (.ref 0), some (tI g), some (.ref (rest.length + 1)), some (tD fs[v]), o4], J x2 y2 :: (rest ++ [.lst (f2.map tD)])) := by
          simp [e2, p1]
        have r2 : evS (callR fns W (k + 2)) W (.asg (.nm 4) (.popAt (.var 2) (.call i_law_take (.cons (.var 0) (.cons (.len (.var 2)) .nil))))) [some (.ref 0), some (tI g), some (.ref (rest.length + 1)), some (tD fs[v]), o4] (J x2 y2 :: (rest ++ [.lst (f2.map tD)])) =
            some (.next, [some (.ref 0), some (tI g), some (.ref (rest.length + 1)), some (tD fs[v]), some (tD f2[u])], J x3 y3 :: (rest ++ [.lst ((f2.eraseIdx u).map tD)])) := by
          simp [e3, p2]
        rw [ss_cons _ _ _ _ _ _ r1, ss_cons _ _ _ _ _ _ r2]
        have hel : (f2.eraseIdx u).length ≤ 8 := by rw [List.length_eraseIdx_of_lt hu]; omega
        simp
        rw [if_pos (by simp only [cap]; omega)]
        simp [tD]
      · rw [List.length_append, List.length_eraseIdx_of_lt hu]
        simp
        omega
      · rw [List.length_append, List.length_eraseIdx_of_lt hu]
        simp
        omega
    · left
      obtain ⟨t, rfl⟩ : ∃ t, fs = [t] := List.length_eq_one_iff.1 (by omega)
      exact ⟨by simp [cmpD, cmpInt], t, x', y', o3, o4, rfl, rfl, rfl, plg_of hg hp⟩
end K56

end

section
set_option maxRecDepth 100000
set_option maxHeartbeats 4000000
namespace K56
open MM MP PySem
variable {W : Nat}
theorem mem_rows {fs : List PM.T} {x : Nat} : x ∈ rowsF fs ↔ ∃ t ∈ fs, x ∈ row t := by unfold rowsF; rw [List.mem_flatMap]
theorem forest_pl {b : List (List Nat)} (hb : Bk b) {fs : List PM.T} (h : (rowsF fs).Perm (allS b)) : ∀ t ∈ fs, Pl t ∧ ∀ x ∈ row t, x < b.length := by
  intro t ht
  have h6 := hb.six
  have hin : ∀ x ∈ row t, x < b.length := fun x hx => List.mem_range.1 (h.mem_iff.1 (mem_rows.2 ⟨t, ht, hx⟩))
  refine ⟨⟨?_, fun x hx => by have := hin x hx; omega⟩, hin⟩
  have hnd := h.nodup_iff.2 List.nodup_range
  unfold rowsF at hnd
  exact hnd.sublist (by
    clear hnd h hin
    induction fs with
    | nil => cases ht
    | cons a fs ih =>
      rw [List.flatMap_cons]
      rw [List.mem_cons] at ht
      rcases ht with rfl | ht
      · exact List.sublist_append_left _ _
      · exact (ih ht).trans (List.sublist_append_right _ _))
theorem forest_dep {b : List (List Nat)} (hb : Bk b) {fs : List PM.T} (h : (rowsF fs).Perm (allS b)) : ∀ t ∈ fs, tdep t ≤ 7 := by
  intro t ht
  obtain ⟨h1, h2⟩ := forest_pl hb h t ht
  have h3 := tdep_row t
  have h4 := nodup_len (m := row t) (g := allS b) h1.nd fun x hx => List.mem_range.2 (h2 x hx)
  rw [List.length_range] at h4
  have := hb.six
  omega
theorem T_joined {k : Nat} {b : List (List Nat)} (hb : Bk b) (hh : PM.Hung (CC b) (· ∈ allS b)) (hW : 100 ≤ W) (x y : Int) (rest : St) :
    ∃ t x' y', PlA b t ∧ callE (callR fns W (k + 10)) i_law_joined_tree [.ref 0, bk b, tI (allS b)] (J x y :: rest) = some (tD t, J x' y' :: rest) := by
  suffices ∃ t x' y' ex, PlG (allS b) t ∧ callR fns W (k + 10) i_law_joined_tree [.ref 0, bk b, tI (allS b)] (J x y :: rest) = some (tD t, J x' y' :: (rest ++ ex)) by
    obtain ⟨t, x', y', ex, h, e⟩ := this
    refine ⟨t, x', y', h.pla, ?_⟩
    unfold callE
    rw [e]
    exact fin_J (by simp)
  have h6 := hb.six
  have h1 := hb.one
  obtain ⟨ys, hy, x1, y1, e1⟩ := T_mixedL (W := W) (k := k + 7) (x := .lst ((allS b).map nI)) (xs := (allS b).map nI) x y rest (fun _ _ => rfl) (by simp; omega) (by simp)
  obtain ⟨ps, rfl, hps⟩ := perm_map_inv nI _ _ hy
  have hpl := hps.length_eq
  rw [List.length_range] at hpl
  rw [run_at (fn := m_law_joined_tree) rfl]
  have q1 : evS (callR fns W (k + 9)) W (.asg (.nm 3) (.new (.call i_law_mixed (.cons (.var 0) (.cons (.frz (.ofE (.var 2))) .nil))))) [some (.ref 0), some (bk b), some (tI (allS b)), none, none, none, none, none, none] (J x y :: rest) =
      some (.next, [some (.ref 0), some (bk b), some (tI (allS b)), some (.ref (rest.length + 1)), none, none, none, none, none], J x1 y1 :: (rest ++ [.lst (((ps.map PM.T.leaf)).map tD)])) := by
    rw [tD_leaf]
    simp [e1]
  have := whl_rule (c := test (callR fns W (k + 9)) (.cmp .gt (.len (.var 3)) (.con (.int 1)))) (f := evSs (callR fns W (k + 9)) W (.cons (.asg (.nm 4) (.popAt (.var 3) (.con (.int 0))))
    (.cons (.asg (.nm 5) (.call i_law_tree_leaves (.cons (.var 4) .nil)))
    (.cons (.asg (.nm 6) (.frz (.comp (.one (.nm 7) (.rng1 (.len (.var 3))) (.cons (.cmp .ne (.call i_law_fork_across (.cons (.var 1) (.cons (.var 5) (.cons (.call i_law_tree_leaves (.cons (.idx (.var 3) (.var 7)) .nil)) .nil)))) (.frz (.disp .nil))) .nil) (.var 7)))))
    (.cons (.asg (.nm 8) (.popAt (.var 3) (.call i_law_one (.cons (.var 0) (.cons (.var 6) .nil)))))
    (.cons (.app (.var 3) (.call i_law_one (.cons (.var 0) (.cons (.frz (.disp (.cons (.tup (.cons (.var 4) (.cons (.var 8) .nil))) (.cons (.tup (.cons (.var 8) (.cons (.var 4) .nil))) .nil)))) .nil))))
    .nil))))))
      (fun m ρ s => ∃ (fs : List PM.T) (x' y' : Int) (o4 o5 o6 o8 : Option D), ρ = [some (.ref 0), some (bk b), some (tI (allS b)), some (.ref (rest.length + 1)), o4, o5, o6, none, o8] ∧ s = J x' y' :: (rest ++ [.lst (fs.map tD)]) ∧ (rowsF fs).Perm (allS b) ∧ fs ≠ [] ∧ fs.length ≤ 8 ∧ m = fs.length)
      (fun fl ρ s => ∃ (t : PM.T) (x' y' : Int), fl = .next ∧ ρ[3]? = some (some (.ref (rest.length + 1))) ∧ s = J x' y' :: (rest ++ [.lst [tD t]]) ∧ PlG (allS b) t)
      ?_ W ps.length [some (.ref 0), some (bk b), some (tI (allS b)), some (.ref (rest.length + 1)), none, none, none, none, none] (J x1 y1 :: (rest ++ [.lst (((ps.map PM.T.leaf)).map tD)])) (by omega) ⟨ps.map PM.T.leaf, x1, y1, none, none, none, none, rfl, rfl, by rw [rows_leaf]; exact hps, by
        intro e
        have := congrArg List.length e
        rw [List.length_map, List.length_nil] at this
        omega, by rw [List.length_map]; omega, by rw [List.length_map]⟩
  · obtain ⟨fl, ρ', s', h1, t, x', y', rfl, h3, rfl, ht⟩ := this
    refine ⟨t, x', y', [.lst [tD t]], ht, ?_⟩
    refine runF_ret (fn := m_law_joined_tree) (ρ' := ρ') rfl ?_
    show evSs _ _ (.cons _ _) [some (.ref 0), some (bk b), some (tI (allS b)), none, none, none, none, none, none] (J x y :: rest) = _
    rw [ss_cons _ _ _ _ _ _ q1, ss_cons (ρ' := ρ') (st' := J x' y' :: (rest ++ [.lst [tD t]])) _ _ _ _ _ _ (by rw [s_whl]; exact h1)]
    have hi : idxD (J x' y' :: (rest ++ [.lst [tD t]])) (.ref (rest.length + 1)) (.int 0) = some (tD t) := idx_seq (i := 0) (xs := [tD t]) (by simp) rfl
    simp [h3, hi]
  · rintro m ρ s ⟨fs, x', y', o4, o5, o6, o8, rfl, rfl, hp, hfn, hf8, rfl⟩
    have hfpos := List.length_pos_iff.2 hfn
    by_cases h2 : 1 < fs.length
    · right
      refine ⟨by simp [cmpD, cmpInt]; omega, .inl ?_⟩
      obtain ⟨t0, f2, rfl⟩ := List.exists_cons_of_ne_nil hfn
      simp only [List.length_cons] at h2 hf8
      have hpl2 := forest_pl hb hp
      have hdp2 := forest_dep hb hp
      obtain ⟨hp0, hin0⟩ := hpl2 t0 (by simp)
      have hd0 := hdp2 t0 (by simp)
      have l0 := S_tleaves (W := W) (k := k + (8 - tdep t0)) t0 hp0
      rw [show k + (8 - tdep t0) + tdep t0 + 1 = k + 9 by omega] at l0
      -- which of the others can be joined
      obtain ⟨q, hq⟩ : ∃ q : Nat → Bool, q = fun j => decide (across b (lvs t0) (lvs (f2.getD j (.leaf 0))) ≠ []) := ⟨_, rfl⟩
      obtain ⟨F, hF⟩ : ∃ F, F = (List.range f2.length).filter q := ⟨_, rfl⟩
      have hFl : F.length ≤ f2.length := by
        rw [hF]
        have := List.length_filter_le q (List.range f2.length)
        rwa [List.length_range] at this
      have hFne : F ≠ [] := by
        have hz0 : row t0 ≠ [] := by
          intro e
          have := tdep_row t0
          rw [e] at this
          simp at this
        obtain ⟨z, hz⟩ := List.exists_mem_of_ne_nil _ hz0
        obtain ⟨t1, f3, hf3⟩ := List.exists_cons_of_ne_nil (show f2 ≠ [] by intro e; rw [e] at h2; simp at h2)
        have hz1 : row t1 ≠ [] := by
          intro e
          have := tdep_row t1
          rw [e] at this
          simp at this
        obtain ⟨w, hw⟩ := List.exists_mem_of_ne_nil _ hz1
        have hnd := hp.nodup_iff.2 List.nodup_range
        have hsplit : rowsF (t0 :: f2) = row t0 ++ rowsF f2 := by simp [rowsF]
        rw [hsplit, List.nodup_append] at hnd
        have hmem : ∀ v, v ∈ allS b ↔ v ∈ row t0 ∨ v ∈ rowsF f2 := fun v => by rw [← hp.mem_iff, hsplit, List.mem_append]
        have hw2 : w ∈ rowsF f2 := mem_rows.2 ⟨t1, by rw [hf3]; simp, hw⟩
        obtain ⟨u, v, hu, hv, hpu, hpv, hn⟩ := hh.2 (· ∈ row t0) ⟨z, (hmem z).2 (.inl hz), hz⟩ ⟨w, (hmem w).2 (.inr hw2), fun k => hnd.2.2 w k w hw2 rfl⟩
        have hv2 := ((hmem v).1 hv).resolve_left hpv
        obtain ⟨t2, ht2, hvt⟩ := mem_rows.1 hv2
        obtain ⟨j, hj, e⟩ := List.getElem_of_mem ht2
        refine List.ne_nil_of_mem (a := j) ?_
        rw [hF, List.mem_filter, hq]
        refine ⟨List.mem_range.2 hj, ?_⟩
        have e2 : f2.getD j (.leaf 0) = t2 := by rw [List.getD, List.getElem?_eq_getElem hj, e]; rfl
        dsimp only
        rw [e2, decide_eq_true_eq]
        exact List.ne_nil_of_mem (mem_across.2 ⟨(mem_lvs hp0).2 hpu, (mem_lvs (hpl2 t2 (by simp [ht2])).1).2 hvt, nr_iff.2 hn⟩ : (u, v) ∈ across b (lvs t0) (lvs t2))
      obtain ⟨d, hdm, x2, y2, e3⟩ := T_one (W := W) (k := k + 7) (x := .lst (F.map nI)) (xs := F.map nI) x' y' (rest ++ [.lst (f2.map tD)]) (fun _ _ => rfl) (by simpa using hFne) (by simp; omega) (fun y hy => by obtain ⟨n, _, rfl⟩ := List.mem_map.1 hy; rfl)
      obtain ⟨u, huF, rfl⟩ := List.mem_map.1 hdm
      have hu : u < f2.length := by rw [hF, List.mem_filter, List.mem_range] at huF; exact huF.1
      have hu1 : (f2.map tD)[u]? = some (tD f2[u]) := by rw [List.getElem?_map, List.getElem?_eq_getElem hu]; rfl
      have hperm : (t0 :: f2[u] :: f2.eraseIdx u).Perm (t0 :: f2) := (erase_perm f2 u hu).cons _
      obtain ⟨d2, hdm2, x3, y3, e4⟩ := T_one (W := W) (k := k + 7) (x := .lst [.tup [tD t0, tD f2[u]], .tup [tD f2[u], tD t0]]) (xs := [.tup [tD t0, tD f2[u]], .tup [tD f2[u], tD t0]]) x2 y2 (rest ++ [.lst ((f2.eraseIdx u).map tD)]) (fun _ _ => rfl) (by simp) (by simp) (fun y hy => by
        simp only [List.mem_cons, List.not_mem_nil, or_false] at hy
        rcases hy with rfl | rfl <;> simp)
      obtain ⟨t3, ht3, hd2⟩ : ∃ t3 : PM.T, (t3 = PM.T.fork t0 f2[u] ∨ t3 = PM.T.fork f2[u] t0) ∧ d2 = tD t3 := by
        simp only [List.mem_cons, List.not_mem_nil, or_false] at hdm2
        rcases hdm2 with rfl | rfl
        · exact ⟨.fork t0 f2[u], .inl rfl, rfl⟩
        · exact ⟨.fork f2[u] t0, .inr rfl, rfl⟩
      subst hd2
      have hel : (f2.eraseIdx u).length + 1 = f2.length := by rw [List.length_eraseIdx_of_lt hu]; omega
      refine ⟨[some (.ref 0), some (bk b), some (tI (allS b)), some (.ref (rest.length + 1)), some (tD t0), some (tI (lvs t0)), some (.lst (F.map nI)), none, some (tD f2[u])], J x3 y3 :: (rest ++ [.lst ((f2.eraseIdx u ++ [t3]).map tD)]), (f2.eraseIdx u ++ [t3]).length, ?_, ?_, _, x3, y3, _, _, _, _, rfl, rfl, join_perm hperm hp _ ht3, by simp, ?_, rfl⟩
      · have p1 := pop_ref (s := J x' y' :: (rest ++ [.lst ((t0 :: f2).map tD)])) (n := rest.length + 1) (xs := (t0 :: f2).map tD) (i := 0) (y := tD t0) (by simp) rfl (by omega)
        have p2 := pop_ref (s := J x2 y2 :: (rest ++ [.lst (f2.map tD)])) (n := rest.length + 1) (by simp) hu1 (by omega)
        rw [map_erase] at p1 p2
        have r1 : evS (callR fns W (k + 9)) W (.asg (.nm 4) (.popAt (.var 3) (.con (.int 0)))) [some (.ref 0), some (bk b), some (tI (allS b)), some (.ref (rest.length + 1)), o4, o5, o6, none, o8] (J x' y' :: (rest ++ [.lst ((t0 :: f2).map tD)])) =
            some (.next, [some (.ref 0), some (bk b), some (tI (allS b)), some (.ref (rest.length + 1)), some (tD t0), o5, o6, none, o8], J x' y' :: (rest ++ [.lst (f2.map tD)])) := by
          have p1' : popD (J x' y' :: (rest ++ [.lst ((t0 :: f2).map tD)])) (.ref (rest.length + 1)) (.int 0) = _ := p1
          simp at p1'
          simp [p1']
        have r2 : evS (callR fns W (k + 9)) W (.asg (.nm 5) (.call i_law_tree_leaves (.cons (.var 4) .nil))) [some (.ref 0), some (bk b), some (tI (allS b)), some (.ref (rest.length + 1)), some (tD t0), o5, o6, none, o8] (J x' y' :: (rest ++ [.lst (f2.map tD)])) =
            some (.next, [some (.ref 0), some (bk b), some (tI (allS b)), some (.ref (rest.length + 1)), some (tD t0), some (tI (lvs t0)), o6, none, o8], J x' y' :: (rest ++ [.lst (f2.map tD)])) := by
          simp [l0.call]
        have r3 : evS (callR fns W (k + 9)) W (.asg (.nm 6) (.frz (.comp (.one (.nm 7) (.rng1 (.len (.var 3))) (.cons (.cmp .ne (.call i_law_fork_across (.cons (.var 1) (.cons (.var 5) (.cons (.call i_law_tree_leaves (.cons (.idx (.var 3) (.var 7)) .nil)) .nil)))) (.frz (.disp .nil))) .nil) (.var 7))))) [some (.ref 0), some (bk b), some (tI (allS b)), some (.ref (rest.length + 1)), some (tD t0), some (tI (lvs t0)), o6, none, o8] (J x' y' :: (rest ++ [.lst (f2.map tD)])) =
            some (.next, [some (.ref 0), some (bk b), some (tI (allS b)), some (.ref (rest.length + 1)), some (tD t0), some (tI (lvs t0)), some (.lst (F.map nI)), none, o8], J x' y' :: (rest ++ [.lst (f2.map tD)])) := by
          rw [s_asg, ev_frz, el_comp]
          rw [eg_fil nI (List.range f2.length) q nI none (ei_rng1 _ _ _ _ _ _ (by simp) (by omega)) rfl (fun j hj => ⟨[some (.ref 0), some (bk b), some (tI (allS b)), some (.ref (rest.length + 1)), some (tD t0), some (tI (lvs t0)), o6, some (nI j), o8], by simp, by
            have hj' := List.mem_range.1 hj
            have hmem : f2[j] ∈ t0 :: f2 := List.mem_cons_of_mem _ (List.getElem_mem hj')
            obtain ⟨pj, ij⟩ := hpl2 f2[j] hmem
            have dj := hdp2 f2[j] hmem
            have lj := S_tleaves (W := W) (k := k + (8 - tdep f2[j])) f2[j] pj
            rw [show k + (8 - tdep f2[j]) + tdep f2[j] + 1 = k + 9 by omega] at lj
            have hi : idxD (J x' y' :: (rest ++ [.lst (f2.map tD)])) (.ref (rest.length + 1)) (.int (j : Int)) = some (tD f2[j]) := idx_seq (xs := f2.map tD) (by simp) (by rw [List.getElem?_map, List.getElem?_eq_getElem hj']; rfl)
            have la := S_lacross (W := W) (k := k + 6) (l := lvs t0) (r := lvs f2[j]) hb (fun i hi => hin0 i ((mem_lvs hp0).1 hi)) (len_ups _ _) (fun i hi => ij i ((mem_lvs pj).1 hi)) (len_ups _ _)
            have ee := eq_lst0 (st := J x' y' :: (rest ++ [.lst (f2.map tD)])) (clean_pIs (across b (lvs t0) (lvs f2[j]))) (by have := deps_pIs (across b (lvs t0) (lvs f2[j])); omega)
            have eq2 : f2.getD j (.leaf 0) = f2[j] := by rw [List.getD, List.getElem?_eq_getElem hj']; rfl
            rw [hq, et_one]
            simp only [eq2]
            simp [hi, lj.call, la.call, cmpD]
            rw [ee]
            simp, by simp⟩)]
          rw [← hF]
          simp only [bnd_some, List.length_map]
          rw [if_pos (by simp only [cap]; exact decide_eq_true (by omega))]
          simp
        have r4 : evS (callR fns W (k + 9)) W (.asg (.nm 8) (.popAt (.var 3) (.call i_law_one (.cons (.var 0) (.cons (.var 6) .nil))))) [some (.ref 0), some (bk b), some (tI (allS b)), some (.ref (rest.length + 1)), some (tD t0), some (tI (lvs t0)), some (.lst (F.map nI)), none, o8] (J x' y' :: (rest ++ [.lst (f2.map tD)])) =
            some (.next, [some (.ref 0), some (bk b), some (tI (allS b)), some (.ref (rest.length + 1)), some (tD t0), some (tI (lvs t0)), some (.lst (F.map nI)), none, some (tD f2[u])], J x2 y2 :: (rest ++ [.lst ((f2.eraseIdx u).map tD)])) := by
          simp [e3, p2]
        have r5 : evS (callR fns W (k + 9)) W (.app (.var 3) (.call i_law_one (.cons (.var 0) (.cons (.frz (.disp (.cons (.tup (.cons (.var 4) (.cons (.var 8) .nil))) (.cons (.tup (.cons (.var 8) (.cons (.var 4) .nil))) .nil)))) .nil)))) [some (.ref 0), some (bk b), some (tI (allS b)), some (.ref (rest.length + 1)), some (tD t0), some (tI (lvs t0)), some (.lst (F.map nI)), none, some (tD f2[u])] (J x2 y2 :: (rest ++ [.lst ((f2.eraseIdx u).map tD)])) =
            some (.next, [some (.ref 0), some (bk b), some (tI (allS b)), some (.ref (rest.length + 1)), some (tD t0), some (tI (lvs t0)), some (.lst (F.map nI)), none, some (tD f2[u])], J x3 y3 :: (rest ++ [.lst ((f2.eraseIdx u ++ [t3]).map tD)])) := by
          simp [e4]
          rw [if_pos (by simp only [cap]; omega)]
          simp
        rw [ss_cons _ _ _ _ _ _ r1, ss_cons _ _ _ _ _ _ r2, ss_cons _ _ _ _ _ _ r3, ss_cons _ _ _ _ _ _ r4, ss_cons _ _ _ _ _ _ r5, ss_nil]
      · rw [List.length_append, List.length_eraseIdx_of_lt hu]
        simp
        omega
      · rw [List.length_append, List.length_eraseIdx_of_lt hu]
        simp
        omega
    · left
      obtain ⟨t, rfl⟩ : ∃ t, fs = [t] := List.length_eq_one_iff.1 (by omega)
      exact ⟨by simp [cmpD, cmpInt], t, x', y', rfl, rfl, rfl, plg_of List.nodup_range hp⟩
end K56

end

section
/-! A right plan: when what two neighbours share is struck, they fall apart. -/
namespace PM
theorem struck_apart {C} : ∀ t : T, t.Right C → ∀ s u, t.In s → t.In u → Near C s u → ∃ P : Nat → Prop, P s ∧ ¬ P u ∧ ∀ x y, t.In x → t.In y → P x → ¬ P y → ∀ c, C x c → C y c → C s c ∧ C u c
  | .leaf z, _, s, u, hs, hu, hn => by
    have h1 : s = z := hs
    have h2 : u = z := hu
    exact (hn.1 (h1.trans h2.symm)).elim
  | .fork l r, ⟨hl, hr, hd, hg⟩, s, u, hs, hu, hn => by
    -- within one side
    have side : ∀ A B : T, A.Right C → (∀ x, A.In x → B.In x → False) → Good C A.In B.In → (∃ P : Nat → Prop, P s ∧ ¬ P u ∧ ∀ x y, A.In x → A.In y → P x → ¬ P y → ∀ c, C x c → C y c → C s c ∧ C u c) → A.In s → A.In u →
        ∃ P : Nat → Prop, P s ∧ ¬ P u ∧ ∀ x y, (A.In x ∨ B.In x) → (A.In y ∨ B.In y) → P x → ¬ P y → ∀ c, C x c → C y c → C s c ∧ C u c := by
      rintro A B _ hd hg ⟨P, p1, p2, p3⟩ hsA huA
      by_cases hM : ∃ m, (∃ x, A.In x ∧ C x m) ∧ (∃ y, B.In y ∧ C y m) ∧ ¬ (C s m ∧ C u m)
      · obtain ⟨m, hm1, hm2, hm3⟩ := hM
        obtain ⟨x0, y0, hx0, hy0, hxy0⟩ := hg.1
        have h0 := (hg.2 x0 y0 hx0 hy0 hxy0 m hm1 hm2).1
        refine ⟨fun x => (A.In x ∧ P x) ∨ (B.In x ∧ P x0), .inl ⟨hsA, p1⟩, fun k => k.elim (fun k => p2 k.2) fun k => hd u huA k.1, ?_⟩
        intro x y hx hy hpx hpy c hc1 hc2
        rcases hpx with ⟨hxA, hpx⟩ | ⟨hxB, hp0⟩
        · rcases hy with hyA | hyB
          · exact p3 x y hxA hyA hpx (fun k => hpy (.inl ⟨hyA, k⟩)) c hc1 hc2
          · have hn0 : ¬ P x0 := fun k => hpy (.inr ⟨hyB, k⟩)
            have hxm := (hg.2 x y hxA hyB ⟨fun e => hd x hxA (e ▸ hyB), c, hc1, hc2⟩ m hm1 hm2).1
            exact (hm3 (p3 x x0 hxA hx0 hpx hn0 m hxm h0)).elim
        · rcases hy with hyA | hyB
          · have hny : ¬ P y := fun k => hpy (.inl ⟨hyA, k⟩)
            have hym := (hg.2 y x hyA hxB ⟨fun e => hd y hyA (e ▸ hxB), c, hc2, hc1⟩ m hm1 hm2).1
            exact (hm3 (p3 x0 y hx0 hyA hp0 hny m h0 hym)).elim
          · exact (hpy (.inr ⟨hyB, hp0⟩)).elim
      · refine ⟨fun x => A.In x ∧ P x, ⟨hsA, p1⟩, fun k => p2 k.2, ?_⟩
        rintro x y hx hy ⟨hxA, hpx⟩ hpy c hc1 hc2
        rcases hy with hyA | hyB
        · exact p3 x y hxA hyA hpx (fun k => hpy ⟨hyA, k⟩) c hc1 hc2
        · exact Classical.byContradiction fun k => hM ⟨c, ⟨x, hxA, hc1⟩, ⟨y, hyB, hc2⟩, k⟩
    have hd' : ∀ x, r.In x → l.In x → False := fun x a b => hd x b a
    rcases hs with hsl | hsr
    · rcases hu with hul | hur
      · exact side l r hl hd hg (struck_apart l hl s u hsl hul hn) hsl hul
      · refine ⟨l.In, hsl, fun k => hd u k hur, ?_⟩
        rintro x y hx hy hpx hpy c hc1 hc2
        exact hg.2 s u hsl hur hn c ⟨x, hpx, hc1⟩ ⟨y, hy.resolve_left hpy, hc2⟩
    · rcases hu with hul | hur
      · refine ⟨r.In, hsr, fun k => hd u hul k, ?_⟩
        rintro x y hx hy hpx hpy c hc1 hc2
        exact hg.symm.2 s u hsr hul hn c ⟨x, hpx, hc1⟩ ⟨y, hy.resolve_right hpy, hc2⟩
      · obtain ⟨P, p1, p2, p3⟩ := side r l hr hd' hg.symm (struck_apart r hr s u hsr hur hn) hsr hur
        exact ⟨P, p1, p2, fun x y hx hy => p3 x y hx.symm hy.symm⟩
end PM

end

section
set_option maxRecDepth 100000
set_option maxHeartbeats 4000000
namespace K56
open MM MP PySem
variable {W : Nat}
/-! ### what is left when columns are struck -/
def uj (b : List (List Nat)) (Z : List Nat) (x y : Nat) : Bool := (sh b x y).any fun c => decide (c ∉ Z)
theorem uj_iff {b : List (List Nat)} {Z : List Nat} {x y : Nat} : uj b Z x y = true ↔ ∃ c, c ∈ cols b x ∧ c ∈ cols b y ∧ c ∉ Z := by
  unfold uj
  rw [List.any_eq_true]
  simp only [mem_sh, decide_eq_true_eq]
  exact exists_congr fun c => ⟨fun k => ⟨k.1.1, k.1.2, k.2⟩, fun k => ⟨⟨k.1, k.2.1⟩, k.2.2⟩⟩
theorem uj_symm {b : List (List Nat)} {Z : List Nat} {x y : Nat} (h : uj b Z x y = true) : uj b Z y x = true := by
  rw [uj_iff] at h ⊢
  obtain ⟨c, h1, h2, h3⟩ := h
  exact ⟨c, h2, h1, h3⟩
theorem S_leftj {k i j : Nat} {b : List (List Nat)} {Z : List Nat} (h : Bk b) (hi : i < b.length) (hj : j < b.length) : Pur (callR fns W (k + 2)) i_are_left_joined [bk b, nI i, nI j, tI Z] (.bl (uj b Z i j)) := by
  refine .of0 rfl fun st => ?_
  have hl2 := List.length_filter_le (fun c => decide (c ∈ cols b j)) (cols b i)
  have hl3 := cols_len h i
  rw [run_at (fn := m_are_left_joined) rfl]
  simp only [runF, m_are_left_joined]
  simp
  rw [eg_map nI (sh b i j) (fun c => .bl (decide (c ∉ Z))) none (by simp [(S_shared (W := W) (k := k) h hi hj).call]) rfl (fun c _ => ⟨_, by simp; rfl, by simp [cmpD]⟩)]
  simp only [bnd_some, List.length_map]
  rw [if_pos (by simp only [cap]; unfold sh; omega)]
  simp [uj]
theorem S_whole {k i : Nat} {b : List (List Nat)} {Z : List Nat} (h : Bk b) (hi : i < b.length) (hZ : Z.length ≤ 24) : Pur (callR fns W (k + 1)) i_is_whole_or_none [bk b, nI i, tI Z] (.bl (decide ((Z.filter fun c => decide (c ∈ cols b i)) = []) || decide ((Z.filter fun c => decide (c ∈ cols b i)).length = Z.length))) := by
  refine .of0 rfl fun st => ?_
  have hl := List.length_filter_le (fun c => decide (c ∈ cols b i)) Z
  rw [run_at (fn := m_is_whole_or_none) rfl]
  have q1 : evS (callR fns W k) W (.asg (.nm 3) (.frz (.comp (.one (.nm 4) (.seq (.var 2)) (.cons (.cmp .isin (.var 4) (.idx (.var 0) (.var 1))) .nil) (.var 4))))) [some (bk b), some (nI i), some (tI Z), none, none] st = some (.next, [some (bk b), some (nI i), some (tI Z), some (.lst ((Z.filter fun c => decide (c ∈ cols b i)).map nI)), none], st) := by
    rw [s_asg, ev_frz, el_comp]
    rw [eg_fil nI Z (fun c => decide (c ∈ cols b i)) nI none (by simp) rfl (fun c _ => ⟨_, by simp; rfl, by rw [et_one]; simp [hi, cmpD], by simp⟩)]
    simp only [bnd_some, List.length_map]
    rw [if_pos (by simp only [cap]; exact decide_eq_true (by omega))]
    simp
  obtain ⟨H, hH⟩ : ∃ H, H = Z.filter fun c => decide (c ∈ cols b i) := ⟨_, rfl⟩
  rw [← hH] at q1 ⊢
  refine runF_ret (fn := m_is_whole_or_none) (ρ' := [some (bk b), some (nI i), some (tI Z), some (.lst (H.map nI)), none]) rfl ?_
  show evSs _ _ (.cons _ _) [some (bk b), some (nI i), some (tI Z), none, none] st = _
  rw [ss_cons _ _ _ _ _ _ q1, ss_step, s_ret, ev_or]
  simp [cmpD, orK_b]
/-- the pieces found so far -/
structure Pcs (b : List (List Nat)) (Z g : List Nat) (ps : List (List Nat)) (left : List Nat) : Prop where
  pm : (ps.flatten ++ left).Perm g
  up : ∀ p ∈ ps, p.Pairwise (· < ·) ∧ p ≠ []
  cl : ∀ p ∈ ps, ∀ x ∈ p, ∀ y ∈ g, uj b Z x y = true → y ∈ p
  re : ∀ p ∈ ps, ∃ x0 ∈ p, ∀ q : Nat → Prop, (∀ x y, q x → x ∈ g → y ∈ g → uj b Z x y = true → q y) → q x0 → ∀ x ∈ p, q x
/-- one piece that grows out of G -/
structure Grow (b : List (List Nat)) (Z G : List Nat) (x0 : Nat) (at_ : Nat) (piece left : List Nat) : Prop where
  pm : (piece ++ left).Perm G
  has : x0 ∈ piece
  le : at_ ≤ piece.length
  cl : ∀ x ∈ piece.take at_, ∀ y ∈ left, uj b Z x y = false
  re : ∀ q : Nat → Prop, (∀ x y, q x → x ∈ G → y ∈ G → uj b Z x y = true → q y) → q x0 → ∀ x ∈ piece, q x
theorem Grow.step {b : List (List Nat)} {Z G : List Nat} {x0 a : Nat} {piece left : List Nat} (h : Grow b Z G x0 a piece left) (ha : a < piece.length) :
    Grow b Z G x0 (a + 1) (piece ++ left.filter fun y => uj b Z piece[a] y) (left.filter fun y => !uj b Z piece[a] y) := by
  refine ⟨?_, by simp [h.has], by simp; omega, ?_, ?_⟩
  · refine List.Perm.trans ?_ h.pm
    rw [List.append_assoc]
    exact (filter_perm _ left).append_left piece
  · intro x hx y hy
    have ht : (piece ++ left.filter fun y => uj b Z piece[a] y).take (a + 1) = piece.take (a + 1) := List.take_append_of_le_length (by omega)
    rw [ht, List.take_succ_eq_append_getElem ha, List.mem_append, List.mem_singleton] at hx
    obtain ⟨hy1, hy2⟩ := List.mem_filter.1 hy
    rcases hx with hx | rfl
    · exact h.cl x hx y hy1
    · simpa using hy2
  · intro q hq h0 x hx
    rw [List.mem_append] at hx
    rcases hx with hx | hx
    · exact h.re q hq h0 x hx
    · obtain ⟨h1, h2⟩ := List.mem_filter.1 hx
      have hp := List.getElem_mem ha
      exact hq piece[a] x (h.re q hq h0 _ hp) (h.pm.mem_iff.1 (by simp [hp])) (h.pm.mem_iff.1 (by simp [h1])) h2
theorem T_grow {k : Nat} {b : List (List Nat)} {g G Z : List Nat} {x0 : Nat} (h : Bk b) (hG : G.Nodup) (hlt : ∀ i ∈ G, i < b.length) (hG8 : G.length ≤ 8) {st : St} {ps : List (List Nat)} :
    ∀ (n l a : Nat) (piece left : List Nat) (o7 : Option D) (s : St), Over st s → s[l]? = some (.lst (left.map nI)) → s[st.length]? = some (.lst (ps.map tI)) → Grow b Z G x0 a piece left → piece.length - a + left.length < n →
    ∃ o7' s' l' left' piece', whlF (test (callR fns W (k + 3)) (.cmp .lt (.var 6) (.len (.var 5)))) (evSs (callR fns W (k + 3)) W (.cons (.asg (.nm 7) (.frz (.comp (.one (.nm 8) (.seq (.var 4)) (.cons (.call i_are_left_joined (.cons (.var 0) (.cons (.idx (.var 5) (.var 6)) (.cons (.var 8) (.cons (.var 2) .nil))))) .nil) (.var 8)))))
    (.cons (.asg (.nm 4) (.new (.comp (.one (.nm 8) (.seq (.var 4)) (.cons (.cmp .notin (.var 8) (.var 7)) .nil) (.var 8)))))
    (.cons (.asg (.nm 5) (.bin .add (.var 5) (.var 7)))
    (.cons (.asg (.nm 6) (.bin .add (.var 6) (.con (.int 1))))
    .nil))))) n [some (bk b), some (tI g), some (tI Z), some (.ref st.length), some (.ref l), some (.lst (piece.map nI)), some (nI a), o7, none] s =
      some (.next, [some (bk b), some (tI g), some (tI Z), some (.ref st.length), some (.ref l'), some (.lst (piece'.map nI)), some (nI piece'.length), o7', none], s') ∧
      Over st s' ∧ (l' = l ∨ st.length < l') ∧ s'[l']? = some (.lst (left'.map nI)) ∧ s'[st.length]? = some (.lst (ps.map tI)) ∧ Grow b Z G x0 piece'.length piece' left'
  | 0, _, _, _, _, _, _, _, _, _, _, hm => absurd hm (by omega)
  | n + 1, l, a, piece, left, o7, s, hov, hl, hf, hw, hm => by
    by_cases ha : a < piece.length
    · have hw' := hw.step ha
      have hlen := hw.pm.length_eq
      rw [List.length_append] at hlen
      obtain ⟨F, hF⟩ : ∃ F, F = left.filter fun y => uj b Z piece[a] y := ⟨_, rfl⟩
      obtain ⟨L', hL⟩ : ∃ L', L' = left.filter fun y => !uj b Z piece[a] y := ⟨_, rfl⟩
      have hFL : F.length + L'.length = left.length := by
        have := (filter_perm (fun y => uj b Z piece[a] y) left).length_eq
        rw [List.length_append] at this
        rw [hF, hL]
        exact this
      have hL2 : L' = left.filter fun y => decide (y ∉ F) := by
        rw [hL]
        refine List.filter_congr fun y hy => ?_
        rw [Bool.eq_iff_iff, hF]
        simp [hy]
      rw [← hF, ← hL] at hw'
      have hin : ∀ z ∈ left, z < b.length := fun z hz => hlt z (hw.pm.mem_iff.1 (by simp [hz]))
      have hhere : piece[a] < b.length := hlt _ (hw.pm.mem_iff.1 (by simp [List.getElem_mem ha]))
      obtain ⟨s1, e1, a1, a2, a3⟩ := new_st s (.lst (L'.map nI))
      have hvl := hov.len
      have hff := lt_of_get hf
      obtain ⟨o7', s', l', left', piece', r1, r2, r3, r4, r5, r6⟩ := T_grow (k := k) h hG hlt hG8 n s.length (a + 1) (piece ++ F) L' (some (.lst (F.map nI))) s1 (by rw [← e1]; exact hov.app _) a1 (a2 _ _ hf) hw' (by rw [List.length_append]; omega)
      refine ⟨o7', s', l', left', piece', ?_, r2, ?_, r4, r5, r6⟩
      · rw [← r1]
        refine whl_step_next ?_ ?_
        · simp [cmpD, cmpInt]
          omega
        · have hi : idxD s (.lst (piece.map nI)) (.int (a : Int)) = some (nI piece[a]) := idx_seq (seq_lst _) (by rw [List.getElem?_map, List.getElem?_eq_getElem ha]; rfl)
          have q1 : evS (callR fns W (k + 3)) W (.asg (.nm 7) (.frz (.comp (.one (.nm 8) (.seq (.var 4)) (.cons (.call i_are_left_joined (.cons (.var 0) (.cons (.idx (.var 5) (.var 6)) (.cons (.var 8) (.cons (.var 2) .nil))))) .nil) (.var 8))))) [some (bk b), some (tI g), some (tI Z), some (.ref st.length), some (.ref l), some (.lst (piece.map nI)), some (nI a), o7, none] s =
              some (.next, [some (bk b), some (tI g), some (tI Z), some (.ref st.length), some (.ref l), some (.lst (piece.map nI)), some (nI a), some (.lst (F.map nI)), none], s) := by
            rw [s_asg, ev_frz, el_comp]
            rw [eg_fil nI left (fun y => uj b Z piece[a] y) nI (some (l, left.map nI)) (by simp [hl]) (stays_self hl) (fun y hy => ⟨[some (bk b), some (tI g), some (tI Z), some (.ref st.length), some (.ref l), some (.lst (piece.map nI)), some (nI a), o7, some (nI y)], by simp, by rw [et_one]; simp [hi, (S_leftj (W := W) (k := k + 1) (Z := Z) h hhere (hin y hy)).call], by simp⟩)]
            rw [← hF]
            simp only [bnd_some, List.length_map]
            rw [if_pos (by simp only [cap]; exact decide_eq_true (by omega))]
            simp
          have q2 : evS (callR fns W (k + 3)) W (.asg (.nm 4) (.new (.comp (.one (.nm 8) (.seq (.var 4)) (.cons (.cmp .notin (.var 8) (.var 7)) .nil) (.var 8))))) [some (bk b), some (tI g), some (tI Z), some (.ref st.length), some (.ref l), some (.lst (piece.map nI)), some (nI a), some (.lst (F.map nI)), none] s =
              some (.next, [some (bk b), some (tI g), some (tI Z), some (.ref st.length), some (.ref s.length), some (.lst (piece.map nI)), some (nI a), some (.lst (F.map nI)), none], s1) := by
            rw [s_asg, ev_new, el_comp]
            rw [eg_fil nI left (fun y => decide (y ∉ F)) nI (some (l, left.map nI)) (by simp [hl]) (stays_self hl) (fun y hy => ⟨_, by simp; rfl, by rw [et_one]; simp [cmpD], by simp⟩)]
            rw [← hL2]
            simp only [bnd_some, List.length_map]
            rw [if_pos (by simp only [cap]; exact decide_eq_true (by omega))]
            simp [← e1]
          have hadd : ∀ s, binD .add s (.lst (piece.map nI)) (.lst (F.map nI)) = some (.lst ((piece ++ F).map nI)) := fun s => by rw [add_lst (by simp; omega), List.map_append]
          have q3 : evS (callR fns W (k + 3)) W (.asg (.nm 5) (.bin .add (.var 5) (.var 7))) [some (bk b), some (tI g), some (tI Z), some (.ref st.length), some (.ref s.length), some (.lst (piece.map nI)), some (nI a), some (.lst (F.map nI)), none] s1 =
              some (.next, [some (bk b), some (tI g), some (tI Z), some (.ref st.length), some (.ref s.length), some (.lst ((piece ++ F).map nI)), some (nI a), some (.lst (F.map nI)), none], s1) := by
            simp [-List.map_append, hadd]
          have q4 : evS (callR fns W (k + 3)) W (.asg (.nm 6) (.bin .add (.var 6) (.con (.int 1)))) [some (bk b), some (tI g), some (tI Z), some (.ref st.length), some (.ref s.length), some (.lst ((piece ++ F).map nI)), some (nI a), some (.lst (F.map nI)), none] s1 =
              some (.next, [some (bk b), some (tI g), some (tI Z), some (.ref st.length), some (.ref s.length), some (.lst ((piece ++ F).map nI)), some (nI (a + 1)), some (.lst (F.map nI)), none], s1) := by
            simp [binD]
          rw [ss_cons _ _ _ _ _ _ q1, ss_cons _ _ _ _ _ _ q2, ss_cons _ _ _ _ _ _ q3, ss_cons _ _ _ _ _ _ q4, ss_nil]
      · right
        rcases r3 with r3 | r3
        · omega
        · exact r3
    · have hae : a = piece.length := by have := hw.le; omega
      subst hae
      refine ⟨o7, s, l, left, piece, ?_, hov, .inl rfl, hl, hf, hw⟩
      rw [whlF]
      have : test (callR fns W (k + 3)) (.cmp .lt (.var 6) (.len (.var 5))) [some (bk b), some (tI g), some (tI Z), some (.ref st.length), some (.ref l), some (.lst (piece.map nI)), some (nI piece.length), o7, none] s = some (false, s) := by
        simp [cmpD, cmpInt]
      rw [this]
/-- one piece more -/
theorem Pcs.snoc {b : List (List Nat)} {Z g : List Nat} {ps : List (List Nat)} {left piece left' P : List Nat} {x0 : Nat} (hg : g.Nodup) (h : Pcs b Z g ps left) (hw : Grow b Z left x0 piece.length piece left') (hP : P.Pairwise (· < ·)) (hm : piece.Perm P) : Pcs b Z g (ps ++ [P]) left' := by
  have hnd := h.pm.nodup_iff.2 hg
  rw [List.nodup_append] at hnd
  have hsub : ∀ x, x ∈ left → x ∈ g := fun x hx => h.pm.mem_iff.1 (by simp [hx])
  refine ⟨?_, ?_, ?_, ?_⟩
  · rw [List.flatten_append, List.flatten_cons, List.flatten_nil, List.append_nil, List.append_assoc]
    exact (((hm.symm.append_right left').trans hw.pm).append_left ps.flatten).trans h.pm
  · intro p hp
    rw [List.mem_append, List.mem_singleton] at hp
    rcases hp with hp | rfl
    · exact h.up p hp
    · exact ⟨hP, List.ne_nil_of_mem (hm.mem_iff.1 hw.has)⟩
  · intro p hp x hx y hy hu
    rw [List.mem_append, List.mem_singleton] at hp
    rcases hp with hp | rfl
    · exact h.cl p hp x hx y hy hu
    · have hx' := hm.mem_iff.2 hx
      have hxl : x ∈ left := hw.pm.mem_iff.1 (by simp [hx'])
      have hyl : y ∈ left := by
        have := h.pm.mem_iff.2 hy
        rw [List.mem_append] at this
        rcases this with k | k
        · obtain ⟨p', hp', hyp⟩ := List.mem_flatten.1 k
          have := h.cl p' hp' y hyp x (hsub x hxl) (uj_symm hu)
          exact (hnd.2.2 x (List.mem_flatten.2 ⟨p', hp', this⟩) x hxl rfl).elim
        · exact k
      have := hw.pm.mem_iff.2 hyl
      rw [List.mem_append] at this
      rcases this with k | k
      · exact hm.mem_iff.1 k
      · have := hw.cl x (by rw [List.take_of_length_le (Nat.le_refl _)]; exact hx') y k
        rw [hu] at this
        cases this
  · intro p hp
    rw [List.mem_append, List.mem_singleton] at hp
    rcases hp with hp | rfl
    · exact h.re p hp
    · refine ⟨x0, hm.mem_iff.1 hw.has, fun q hq h0 x hx => ?_⟩
      exact hw.re q (fun u v hu hug hvg hn => hq u v hu (hsub u hug) (hsub v hvg) hn) h0 x (hm.mem_iff.2 hx)
theorem T_without {k : Nat} {b : List (List Nat)} {g Z : List Nat} (h : Bk b) (hg : Gr b g) (hW : 100 ≤ W) (st : St) :
    ∃ ps : List (List Nat), Pcs b Z g ps [] ∧ callE (callR fns W (k + 4)) i_pieces_without [bk b, tI g, tI Z] st = some (.lst (ps.map tI), st) := by
  suffices ∃ ps : List (List Nat), Pcs b Z g ps [] ∧ ∃ ex, callR fns W (k + 4) i_pieces_without [bk b, tI g, tI Z] st = some (.ref st.length, st ++ ex) ∧ (st ++ ex)[st.length]? = some (.lst (ps.map tI)) by
    obtain ⟨ps, h1, ex, e, h2⟩ := this
    refine ⟨ps, h1, ?_⟩
    unfold callE
    rw [e]
    exact fin_new0 (Nat.le_refl _) h2 fun y hy => .inl ((pures_iff _).1 (pures_of_cleans _ (clean_tIs ps)) y hy)
  have hg8 := hg.len h
  have hnd := nodup_of_lt hg.up
  rw [run_at (fn := m_pieces_without) rfl]
  simp only [runF, m_pieces_without]
  simp [s_whl]
  have := whl_rule (c := test (callR fns W (k + 3)) (.cmp .ne (.var 4) (.frz (.disp .nil)))) (f := evSs (callR fns W (k + 3)) W (.cons (.asg (.nm 5) (.frz (.disp (.cons (.popAt (.var 4) (.con (.int 0))) .nil))))
    (.cons (.asg (.nm 6) (.con (.int 0)))
    (.cons (.whl (.cmp .lt (.var 6) (.len (.var 5))) (.cons (.asg (.nm 7) (.frz (.comp (.one (.nm 8) (.seq (.var 4)) (.cons (.call i_are_left_joined (.cons (.var 0) (.cons (.idx (.var 5) (.var 6)) (.cons (.var 8) (.cons (.var 2) .nil))))) .nil) (.var 8)))))
    (.cons (.asg (.nm 4) (.new (.comp (.one (.nm 8) (.seq (.var 4)) (.cons (.cmp .notin (.var 8) (.var 7)) .nil) (.var 8)))))
    (.cons (.asg (.nm 5) (.bin .add (.var 5) (.var 7)))
    (.cons (.asg (.nm 6) (.bin .add (.var 6) (.con (.int 1))))
    .nil)))))
    (.cons (.app (.var 3) (.tupL (.srt (.var 5))))
    .nil)))))
      (fun m ρ s => ∃ (l : Nat) (left : List Nat) (ps : List (List Nat)) (o5 o6 o7 : Option D), ρ = [some (bk b), some (tI g), some (tI Z), some (.ref st.length), some (.ref l), o5, o6, o7, none] ∧ Over st s ∧ st.length < l ∧ s[l]? = some (.lst (left.map nI)) ∧ s[st.length]? = some (.lst (ps.map tI)) ∧ Pcs b Z g ps left ∧ ps.length + left.length ≤ 8 ∧ m = left.length)
      (fun fl ρ s => ∃ (l : Nat) (ps : List (List Nat)) (o5 o6 o7 : Option D), fl = .next ∧ ρ = [some (bk b), some (tI g), some (tI Z), some (.ref st.length), some (.ref l), o5, o6, o7, none] ∧ Over st s ∧ s[st.length]? = some (.lst (ps.map tI)) ∧ Pcs b Z g ps [])
      ?_ W g.length [some (bk b), some (tI g), some (tI Z), some (.ref st.length), some (.ref (st.length + 1)), none, none, none, none] (st ++ [.lst [], .lst (g.map nI)]) (by omega) ⟨st.length + 1, g, [], none, none, none, rfl, ⟨_, rfl⟩, by omega, by simp, by simp, ⟨by simp, by simp, by simp, by simp⟩, by simpa using hg8, rfl⟩
  · obtain ⟨fl, ρ', s', h1, l, ps, o5, o6, o7, rfl, rfl, ⟨ex, rfl⟩, h2, h3⟩ := this
    rw [h1]
    simp
    exact ⟨ps, h3, by simpa using h2⟩
  · rintro m ρ s ⟨l, left, ps, o5, o6, o7, rfl, ov, hll, gl, gf, hP, hlen, rfl⟩
    have htest : test (callR fns W (k + 3)) (.cmp .ne (.var 4) (.frz (.disp .nil))) [some (bk b), some (tI g), some (tI Z), some (.ref st.length), some (.ref l), o5, o6, o7, none] s = some (decide (left ≠ []), s) := by
      simp [cmpD]
      rw [eq_ref _ _ gl, eq_lst_nil]
      simp
    cases left with
    | nil =>
      left
      exact ⟨by rw [htest]; rfl, l, ps, o5, o6, o7, rfl, rfl, ov, gf, hP⟩
    | cons x left0 =>
      right
      refine ⟨by rw [htest]; rfl, .inl ?_⟩
      obtain ⟨s1, e1, a1, a2, a3⟩ := upd_st gl (.lst (left0.map nI))
      have gf1 : s1[st.length]? = some (.lst (ps.map tI)) := by rw [a2 _ (by omega)]; exact gf
      have hndl : (x :: left0).Nodup := by
        have := hP.pm.nodup_iff.2 hnd
        rw [List.nodup_append] at this
        exact this.2.1
      have hsub : ∀ i ∈ x :: left0, i ∈ g := fun i hi => hP.pm.mem_iff.1 (List.mem_append_right _ hi)
      simp only [List.length_cons] at hlen
      have hw0 : Grow b Z (x :: left0) x 0 [x] left0 := ⟨by simp, by simp, by simp, by simp, fun q _ h0 z hz => by
        simp only [List.mem_singleton] at hz
        exact hz ▸ h0⟩
      obtain ⟨o7', s2, l', left', piece', r1, r2, r3, r4, r5, r6⟩ := T_grow (W := W) (k := k) (g := g) h hndl (fun i hi => hg.lt i (hsub i hi)) (by simp; omega) W l 0 [x] left0 o7 s1 (by rw [← e1]; exact ov.set _ (by omega)) a1 gf1 hw0 (by simp; omega)
      have hpm := r6.pm
      have hpl := hpm.length_eq
      rw [List.length_append, List.length_cons] at hpl
      have hppos := List.length_pos_of_mem r6.has
      have hndp : piece'.Nodup := by
        have := hpm.nodup_iff.2 hndl
        rw [List.nodup_append] at this
        exact this.1
      have hP' := hP.snoc hnd r6 (srt_lt hndp) (srt_perm piece').symm
      obtain ⟨s3, e3, b1, b2, b3⟩ := upd_st r5 (.lst ((ps ++ [srt piece']).map tI))
      have hl' : st.length < l' := by
        rcases r3 with r3 | r3
        · omega
        · exact r3
      refine ⟨[some (bk b), some (tI g), some (tI Z), some (.ref st.length), some (.ref l'), some (.lst (piece'.map nI)), some (nI piece'.length), o7', none], s3, left'.length, ?_, by simp only [List.length_cons]; omega, l', left', ps ++ [srt piece'], _, _, _, rfl, by rw [← e3]; exact r2.set _ (Nat.le_refl _), hl', by rw [b2 _ (by omega)]; exact r4, b1, hP', by rw [List.length_append]; simp; omega, rfl⟩
      have q1 : evS (callR fns W (k + 3)) W (.asg (.nm 5) (.frz (.disp (.cons (.popAt (.var 4) (.con (.int 0))) .nil)))) [some (bk b), some (tI g), some (tI Z), some (.ref st.length), some (.ref l), o5, o6, o7, none] s = some (.next, [some (bk b), some (tI g), some (tI Z), some (.ref st.length), some (.ref l), some (.lst [nI x]), o6, o7, none], s1) := by
        simp [gl, popD, e1]
      have q2 : evS (callR fns W (k + 3)) W (.asg (.nm 6) (.con (.int 0))) [some (bk b), some (tI g), some (tI Z), some (.ref st.length), some (.ref l), some (.lst [nI x]), o6, o7, none] s1 = some (.next, [some (bk b), some (tI g), some (tI Z), some (.ref st.length), some (.ref l), some (.lst [nI x]), some (.int 0), o7, none], s1) := by
        simp
      have q4 : evS (callR fns W (k + 3)) W (.app (.var 3) (.tupL (.srt (.var 5)))) [some (bk b), some (tI g), some (tI Z), some (.ref st.length), some (.ref l'), some (.lst (piece'.map nI)), some (nI piece'.length), o7', none] s2 = some (.next, [some (bk b), some (tI g), some (tI Z), some (.ref st.length), some (.ref l'), some (.lst (piece'.map nI)), some (nI piece'.length), o7', none], s3) := by
        simp [r5, sortD_srt]
        rw [if_pos (by simp only [cap]; omega)]
        simp [← e3, tI]
      rw [ss_cons _ _ _ _ _ _ q1, ss_cons _ _ _ _ _ _ q2]
      rw [ss_cons (s := .whl _ _) _ _ _ _ _ (by rw [s_whl]; exact r1)]
      rw [ss_cons _ _ _ _ _ _ q4, ss_nil]
end K56

end

section
set_option maxRecDepth 100000
set_option maxHeartbeats 4000000
namespace K56
open MM MP PySem
open PySem.PyData (strOk)
variable {W : Nat}
/-! ### the planner on books without thirds -/
theorem fold_mem (f : List Int → List Int → Bool) : ∀ (ts : List (List Int)) (t : List Int), ts.foldl (fun b u => if f u b then u else b) t ∈ t :: ts
  | [], t => by simp
  | u :: ts, t => by
    rw [List.foldl_cons]
    have := fold_mem f ts (if f u t then u else t)
    rw [List.mem_cons] at this
    rcases this with h | h
    · rw [h]
      split <;> simp
    · exact List.mem_cons_of_mem _ (List.mem_cons_of_mem _ h)
theorem tints_map {α : Type} (f : α → List Int) : ∀ xs : List α, tints (xs.map fun x => .tup ((f x).map .int)) = some (xs.map f)
  | [] => rfl
  | x :: xs => by
    have ha : ∀ l : List Int, asInts (l.map .int) = some l := fun l => by
      induction l with
      | nil => rfl
      | cons i r ih => simp [asInts, ih]
    rw [List.map_cons, tints, ha, tints_map f xs]
    rfl
theorem minT_mem {α : Type} (f : α → List Int) {xs : List α} (hne : xs ≠ []) : ∃ x ∈ xs, minT (xs.map fun x => .tup ((f x).map .int)) = some (.tup ((f x).map .int)) := by
  obtain ⟨y, ys, rfl⟩ := List.exists_cons_of_ne_nil hne
  have := fold_mem HT.lexLt (ys.map f) (f y)
  rw [← List.map_cons, List.mem_map] at this
  obtain ⟨x, hx, e⟩ := this
  refine ⟨x, hx, ?_⟩
  unfold minT
  rw [tints_map f, List.map_cons]
  dsimp only
  rw [← e]
def prs (b : List (List Nat)) (g : List Nat) : List (Nat × Nat) := g.flatMap fun i => (g.filter fun j => decide (i < j) && nr b i j).map fun j => (i, j)
theorem len_prs (b : List (List Nat)) (g : List Nat) (hl : g.length ≤ 8) : (prs b g).length ≤ 64 := by
  have := len_flat (fun i => (g.filter fun j => decide (i < j) && nr b i j).map fun j => (i, j)) 8 g (fun i _ => by
    rw [List.length_map]
    have := List.length_filter_le (fun j => decide (i < j) && nr b i j) g
    omega)
  unfold prs
  omega
theorem mem_prs {b : List (List Nat)} {g : List Nat} {p : Nat × Nat} : p ∈ prs b g ↔ p.1 ∈ g ∧ p.2 ∈ g ∧ p.1 < p.2 ∧ nr b p.1 p.2 = true := by
  unfold prs
  simp only [List.mem_flatMap, List.mem_map, List.mem_filter, Bool.and_eq_true, decide_eq_true_eq]
  constructor
  · rintro ⟨i, hi, j, ⟨hj, h1, h2⟩, rfl⟩
    exact ⟨hi, hj, h1, h2⟩
  · rintro ⟨h1, h2, h3, h4⟩
    exact ⟨p.1, h1, p.2, ⟨h2, h3, h4⟩, rfl⟩
theorem T_least {k : Nat} {b : List (List Nat)} {g : List Nat} (h : Bk b) (hg : Gr b g) (hh : PM.Hung (CC b) (· ∈ g)) (h2 : 2 ≤ g.length) : ∃ i j, i ∈ g ∧ j ∈ g ∧ i < j ∧ nr b i j = true ∧ Pur (callR fns W (k + 3)) i_least_pair [bk b, tI g] (.tup [nI i, nI j]) := by
  have hg8 := hg.len h
  have hlp := len_prs b g hg8
  have hne : prs b g ≠ [] := by
    obtain ⟨x, y, r, rfl⟩ : ∃ x y r, g = x :: y :: r := by
      match g, h2 with
      | x :: y :: r, _ => exact ⟨x, y, r, rfl⟩
    have hxy : y ≠ x := by
      have := nodup_of_lt hg.up
      simp at this
      exact fun e => this.1.1 e.symm
    obtain ⟨u, v, hu, hv, hpu, hpv, hn⟩ := hh.2 (· = x) ⟨x, by simp, rfl⟩ ⟨y, by simp, hxy⟩
    rcases Nat.lt_or_gt_of_ne hn.1 with hlt | hlt
    · exact List.ne_nil_of_mem (mem_prs.2 ⟨hu, hv, hlt, nr_iff.2 hn⟩ : (u, v) ∈ _)
    · exact List.ne_nil_of_mem (mem_prs.2 ⟨hv, hu, hlt, nr_iff.2 hn.symm⟩ : (v, u) ∈ _)
  obtain ⟨p, hp, hmin⟩ := minT_mem (fun p : Nat × Nat => [((sh b p.1 p.2).length : Int), (p.1 : Int), (p.2 : Int)]) hne
  obtain ⟨m1, m2, m3, m4⟩ := mem_prs.1 hp
  refine ⟨p.1, p.2, m1, m2, m3, m4, .of0 rfl fun st => ?_⟩
  rw [run_at (fn := m_least_pair) rfl]
  have q1 : evS (callR fns W (k + 2)) W (.asg (.nm 2) (.frz (.comp (.two (.nm 3) (.seq (.var 1)) .nil (.nm 4) (.seq (.var 1)) (.cons (.and (.cmp .lt (.var 3) (.var 4)) (.call i_are_neighbours (.cons (.var 0) (.cons (.var 3) (.cons (.var 4) .nil))))) .nil) (.tup (.cons (.var 3) (.cons (.var 4) .nil))))))) [some (bk b), some (tI g), none, none, none] st = some (.next, [some (bk b), some (tI g), some (.lst ((prs b g).map pI)), none, none], st) := by
    rw [s_asg, ev_frz, el_comp]
    rw [eg_two nI g (fun _ => true) (fun _ => nI) (fun _ => g) (fun i j => decide (i < j) && nr b i j) (fun i j => pI (i, j)) none (fun _ => none) (by simp) rfl (fun i hi => ⟨_, by simp; rfl, by simp, fun _ => ⟨by simp, rfl, fun j hj => ⟨_, by simp; rfl, by rw [et_one]; simp [cmpD, cmpInt, (S_near (W := W) (k := k) h (hg.lt i hi) (hg.lt j hj)).call, andK_b], by simp⟩⟩⟩)]
    rw [List.filter_eq_self.2 fun _ _ => rfl]
    rw [show (g.flatMap fun i => (g.filter fun j => decide (i < j) && nr b i j).map fun j => pI (i, j)) = (prs b g).map pI by
      unfold prs
      rw [List.map_flatMap]
      congr 1
      funext i
      rw [List.map_map]
      rfl]
    simp only [bnd_some, List.length_map]
    rw [if_pos (by simp only [cap]; exact decide_eq_true (by omega))]
    simp
  have q2 : evL (callR fns W (k + 2)) (.comp (.one (.tp (.cons (.nm 3) (.cons (.nm 4) .nil))) (.seq (.var 2)) .nil (.tup (.cons (.len (.call i_shared_of (.cons (.var 0) (.cons (.var 3) (.cons (.var 4) .nil))))) (.cons (.var 3) (.cons (.var 4) .nil)))))) [some (bk b), some (tI g), some (.lst ((prs b g).map pI)), none, none] st = some ((prs b g).map fun p => .tup ([((sh b p.1 p.2).length : Int), (p.1 : Int), (p.2 : Int)].map .int), st) := by
    rw [el_comp]
    rw [eg_map pI (prs b g) (fun p => .tup ([((sh b p.1 p.2).length : Int), (p.1 : Int), (p.2 : Int)].map .int)) none (by simp) rfl (fun p hp => ⟨[some (bk b), some (tI g), some (.lst ((prs b g).map pI)), some (nI p.1), some (nI p.2)], by simp, by
      obtain ⟨n1, n2, _, _⟩ := mem_prs.1 hp
      simp [(S_shared (W := W) (k := k + 1) h (hg.lt _ n1) (hg.lt _ n2)).call]⟩)]
    simp only [bnd_some, List.length_map]
    rw [if_pos (by simp only [cap]; exact decide_eq_true (by omega))]
  refine runF_ret (fn := m_least_pair) (ρ' := [some (bk b), some (tI g), some (.lst ((prs b g).map pI)), none, none]) rfl ?_
  show evSs _ _ (.cons _ _) [some (bk b), some (tI g), none, none, none] st = _
  rw [ss_cons _ _ _ _ _ _ q1, ss_step, s_ret, ev_slice]
  rw [show evE (callR fns W (k + 2)) (.minL (.comp (.one (.tp (.cons (.nm 3) (.cons (.nm 4) .nil))) (.seq (.var 2)) .nil (.tup (.cons (.len (.call i_shared_of (.cons (.var 0) (.cons (.var 3) (.cons (.var 4) .nil))))) (.cons (.var 3) (.cons (.var 4) .nil))))))) [some (bk b), some (tI g), some (.lst ((prs b g).map pI)), none, none] st = some (.tup ([((sh b p.1 p.2).length : Int), (p.1 : Int), (p.2 : Int)].map .int), st) by
    rw [evE, q2, bnd_some, hmin]
    rfl]
  simp [slice_from]
theorem eq_strs {st : St} {x y : Str} (hx : strOk x = true) (hy : strOk y = true) : eqD st (.str x) (.str y) = some (decide (x = y)) := by
  have hd : ∀ x : Str, strOk x = true → D.dep (.str x) = 0 := fun x h => by
    show (if PyData.canLay0 (.str x) = true then 0 else 1000) = 0
    rw [if_pos (by simpa [PyData.canLay0] using h)]
  have hp : ∀ x : Str, D.pure (.str x) = true := fun _ => rfl
  simp only [eqD, der, hp, hd x hx, hd y hy]
  simp only [D.py, PyData.eqv]
  simp
  rw [Bool.eq_iff_iff]
  simp
theorem plan_ring {st : St} : eqD st (.str "plan") (.str "ring") = some false := by
  rw [eq_strs (ok_of _) (ok_of _)]
  have : ¬ ((Str.ofString "plan") = Str.ofString "ring") := by decide +kernel
  rw [decide_eq_false this]
theorem plan_plan {st : St} : eqD st (.str "plan") (.str "plan") = some true := eq_str (ok_of _)
/-- without a third each source has all or none of what two share -/
theorem all_none {b : List (List Nat)} (hb : Bk b) (hT : thF b = []) {s u x : Nat} (hs : s < b.length) (hu : u < b.length) (hx : x < b.length) (hsu : s ≠ u) {c d : Nat} (hc : c ∈ sh b s u) (hcx : c ∈ cols b x) (hd : d ∈ sh b s u) : d ∈ cols b x := by
  rw [mem_sh] at hc hd
  refine Classical.byContradiction fun hn => ?_
  have hth : thC b s u x = true := thC_iff.2 ⟨⟨fun e => hn (e ▸ hd.1), fun e => hn (e ▸ hd.2)⟩, ⟨c, hc, hcx⟩, d, hd, hn⟩
  rcases Nat.lt_or_gt_of_ne hsu with hlt | hlt
  · have := (mem_thF (t := (s, u, x))).2 ⟨hlt, hu, hx, hth⟩
    rw [hT] at this
    cases this
  · have := (mem_thF (t := (u, s, x))).2 ⟨hlt, hs, hx, thC_symm hth⟩
    rw [hT] at this
    cases this
/-- what the pieces are good for -/
structure Parts (b : List (List Nat)) (g p0 : List Nat) (ps : List (List Nat)) : Prop where
  gr0 : Gr b p0
  h0 : PM.Hung (CC b) (· ∈ p0)
  gr1 : Gr b (srt ps.flatten)
  h1 : PM.Hung (CC b) (· ∈ srt ps.flatten)
  len : p0.length + (srt ps.flatten).length = g.length
  ne0 : p0 ≠ []
  ne1 : srt ps.flatten ≠ []
theorem pcs_parts {b : List (List Nat)} (hb : Bk b) (hr : HR b) (hT : thF b = []) {g : List Nat} (hg : Gr b g) (hh : PM.Hung (CC b) (· ∈ g)) {s u : Nat} (hs : s ∈ g) (hu : u ∈ g) (hn : PM.Near (CC b) s u) {ps : List (List Nat)} (h : Pcs b (sh b s u) g ps []) :
    ∃ p0 qs, ps = p0 :: qs ∧ qs ≠ [] ∧ Parts b g p0 qs := by
  have hpm := h.pm
  rw [List.append_nil] at hpm
  have hnd := hpm.nodup_iff.2 (nodup_of_lt hg.up)
  have mem : ∀ x, x ∈ g ↔ ∃ p ∈ ps, x ∈ p := fun x => by rw [← hpm.mem_iff, List.mem_flatten]
  obtain ⟨t0, r0, m0⟩ := hr
  obtain ⟨P, p1, p2, p3⟩ := PM.struck_apart t0 r0 s u ((m0 s).2 (hg.lt s hs)) ((m0 u).2 (hg.lt u hu)) hn
  have stay : ∀ x y, x ∈ g → y ∈ g → uj b (sh b s u) x y = true → (P x ↔ P y) := by
    intro x y hx hy hxy
    obtain ⟨c, c1, c2, c3⟩ := uj_iff.1 hxy
    constructor
    · intro k
      exact Classical.byContradiction fun k' => c3 (mem_sh.2 (p3 x y ((m0 x).2 (hg.lt x hx)) ((m0 y).2 (hg.lt y hy)) k k' c c1 c2))
    · intro k
      exact Classical.byContradiction fun k' => c3 (mem_sh.2 (p3 y x ((m0 y).2 (hg.lt y hy)) ((m0 x).2 (hg.lt x hx)) k k' c c2 c1))
  have same : ∀ p ∈ ps, ∀ x ∈ p, ∀ y ∈ p, P x → P y := by
    intro p hp x hx y hy hPx
    obtain ⟨x0, hx0, hre⟩ := h.re p hp
    by_cases h0 : P x0
    · exact hre P (fun a c ha hag hcg hac => (stay a c hag hcg hac).1 ha) h0 y hy
    · exact (hre (fun z => ¬ P z) (fun a c ha hag hcg hac => fun k => ha ((stay a c hag hcg hac).2 k)) h0 x hx hPx).elim
  obtain ⟨ps1, hps1, hs1⟩ := (mem s).1 hs
  obtain ⟨pu, hpu, hu1⟩ := (mem u).1 hu
  have hne : ps1 ≠ pu := fun e => p2 (same ps1 hps1 s hs1 u (e ▸ hu1) p1)
  obtain ⟨p0, qs, rfl⟩ := List.exists_cons_of_ne_nil (List.ne_nil_of_mem hps1)
  have hq : qs ≠ [] := by
    intro e
    rw [e] at hps1 hpu
    simp only [List.mem_singleton] at hps1 hpu
    exact hne (hps1.trans hpu.symm)
  rw [List.flatten_cons, List.nodup_append] at hnd
  have hsub : ∀ p ∈ p0 :: qs, ∀ x ∈ p, x ∈ g := fun p hp x hx => (mem x).2 ⟨p, hp, hx⟩
  -- each piece hangs together
  have hung : ∀ p ∈ p0 :: qs, PM.Hung (CC b) (· ∈ p) := by
    intro p hp
    obtain ⟨x0, hx0, hre⟩ := h.re p hp
    refine ⟨⟨x0, hx0⟩, ?_⟩
    rintro f ⟨x, hx, hfx⟩ ⟨y, hy, hfy⟩
    refine Classical.byContradiction fun hno => ?_
    have cl : ∀ a c, f a → a ∈ p → c ∈ g → uj b (sh b s u) a c = true → f c := by
      intro a c ha hap hcg hac
      refine Classical.byContradiction fun hfc => hno ⟨a, c, hap, h.cl p hp a hap c hcg hac, ha, hfc, ?_⟩
      obtain ⟨d, d1, d2, _⟩ := uj_iff.1 hac
      exact ⟨fun e => hfc (e ▸ ha), d, d1, d2⟩
    have cl' : ∀ a c, ¬ f a → a ∈ p → c ∈ g → uj b (sh b s u) a c = true → ¬ f c := by
      intro a c ha hap hcg hac hfc
      refine hno ⟨c, a, h.cl p hp a hap c hcg hac, hap, hfc, ha, ?_⟩
      obtain ⟨d, d1, d2, _⟩ := uj_iff.1 hac
      exact ⟨fun e => ha (e ▸ hfc), d, d2, d1⟩
    by_cases hf0 : f x0
    · have := hre (fun z => z ∈ p ∧ f z) (fun a c ha _ hcg hac => ⟨h.cl p hp a ha.1 c hcg hac, cl a c ha.2 ha.1 hcg hac⟩) ⟨hx0, hf0⟩ y hy
      exact hfy this.2
    · have := hre (fun z => z ∈ p ∧ ¬ f z) (fun a c ha _ hcg hac => ⟨h.cl p hp a ha.1 c hcg hac, cl' a c ha.2 ha.1 hcg hac⟩) ⟨hx0, hf0⟩ x hx
      exact this.2 hfx
  -- each piece has a source with all that is struck
  obtain ⟨cz, cz1, cz2⟩ := hn.2
  have hz : cz ∈ sh b s u := mem_sh.2 ⟨cz1, cz2⟩
  have hasZ : ∀ p ∈ p0 :: qs, ∃ x ∈ p, cz ∈ cols b x := by
    intro p hp
    by_cases hsp : s ∈ p
    · exact ⟨s, hsp, cz1⟩
    · obtain ⟨x0, hx0, _⟩ := h.re p hp
      obtain ⟨x, y, hx, hy, hxp, hyp, hxy⟩ := hh.2 (· ∈ p) ⟨x0, hsub p hp x0 hx0, hx0⟩ ⟨s, hs, hsp⟩
      obtain ⟨_, c, c1, c2⟩ := hxy
      have hcZ : c ∈ sh b s u := Classical.byContradiction fun k => hyp (h.cl p hp x hxp y hy (uj_iff.2 ⟨c, c1, c2, k⟩))
      exact ⟨x, hxp, all_none hb hT (hg.lt s hs) (hg.lt u hu) (hg.lt x hx) hn.1 hcZ c1 hz⟩
  have mf : ∀ x, x ∈ srt qs.flatten ↔ ∃ p ∈ qs, x ∈ p := fun x => by rw [(srt_perm _).mem_iff, List.mem_flatten]
  refine ⟨p0, qs, rfl, hq, ⟨(h.up p0 (by simp)).1, fun i hi => hg.lt i (hsub p0 (by simp) i hi)⟩, hung p0 (by simp), ⟨srt_lt hnd.2.1, fun i hi => ?_⟩, ?_, ?_, (h.up p0 (by simp)).2, ?_⟩
  · obtain ⟨p, hp, hx⟩ := (mf i).1 hi
    exact hg.lt i (hsub p (by simp [hp]) i hx)
  · -- the rest hangs together
    obtain ⟨q0, qr, hq0⟩ := List.exists_cons_of_ne_nil hq
    obtain ⟨x0, hx0⟩ := List.exists_mem_of_ne_nil _ (h.up q0 (by rw [hq0]; simp)).2
    refine ⟨⟨x0, (mf x0).2 ⟨q0, by rw [hq0]; simp, hx0⟩⟩, ?_⟩
    rintro f ⟨x, hx, hfx⟩ ⟨y, hy, hfy⟩
    obtain ⟨px, hpx, hxx⟩ := (mf x).1 hx
    obtain ⟨py, hpy, hyy⟩ := (mf y).1 hy
    by_cases hcx : ∃ z, z ∈ px ∧ ¬ f z
    · obtain ⟨z, hz1, hz2⟩ := hcx
      obtain ⟨a, c, ha, hc, h1, h2, h3⟩ := (hung px (by simp [hpx])).2 f ⟨x, hxx, hfx⟩ ⟨z, hz1, hz2⟩
      exact ⟨a, c, (mf a).2 ⟨px, hpx, ha⟩, (mf c).2 ⟨px, hpx, hc⟩, h1, h2, h3⟩
    · by_cases hcy : ∃ z, z ∈ py ∧ f z
      · obtain ⟨z, hz1, hz2⟩ := hcy
        obtain ⟨a, c, ha, hc, h1, h2, h3⟩ := (hung py (by simp [hpy])).2 f ⟨z, hz1, hz2⟩ ⟨y, hyy, hfy⟩
        exact ⟨a, c, (mf a).2 ⟨py, hpy, ha⟩, (mf c).2 ⟨py, hpy, hc⟩, h1, h2, h3⟩
      · obtain ⟨a, ha, hca⟩ := hasZ px (by simp [hpx])
        obtain ⟨c, hc, hcc⟩ := hasZ py (by simp [hpy])
        have fa : f a := Classical.byContradiction fun k => hcx ⟨a, ha, k⟩
        have fc : ¬ f c := fun k => hcy ⟨c, hc, k⟩
        exact ⟨a, c, (mf a).2 ⟨px, hpx, ha⟩, (mf c).2 ⟨py, hpy, hc⟩, fa, fc, fun e => fc (e ▸ fa), cz, hca, hcc⟩
  · have := hpm.length_eq
    rw [List.flatten_cons, List.length_append] at this
    rw [(srt_perm _).length_eq]
    exact this
  · obtain ⟨q0, qr, hq0⟩ := List.exists_cons_of_ne_nil hq
    obtain ⟨x0, hx0⟩ := List.exists_mem_of_ne_nil _ (h.up q0 (by rw [hq0]; simp)).2
    exact List.ne_nil_of_mem ((mf x0).2 ⟨q0, by rw [hq0]; simp, hx0⟩)
abbrev pD (t : PM.T) : D := .tup [.str "plan", tD t]
theorem T_found {b : List (List Nat)} (hb : Bk b) (hr : HR b) (hT : thF b = []) (hW : 100 ≤ W) : ∀ (n k : Nat) (g : List Nat), Gr b g → PM.Hung (CC b) (· ∈ g) → g ≠ [] → g.length ≤ n → ∀ st : St,
    ∃ t, callE (callR fns W (k + 5 + n)) i_found_in [bk b, tI g] st = some (pD t, st)
  | 0, k, g, hg, hh, hne, hn, st => absurd (List.length_pos_iff.2 hne) (by omega)
  | n + 1, k, g, hg, hh, hne, hn, st => by
    suffices ∃ t, callR fns W (k + 5 + (n + 1)) i_found_in [bk b, tI g] st = some (pD t, st) by
      obtain ⟨t, e⟩ := this
      refine ⟨t, ?_⟩
      unfold callE
      rw [e]
      exact fin_pure0 (by simp [pD]; rfl)
    have hpos := List.length_pos_iff.2 hne
    have hg8 := hg.len hb
    rw [show k + 5 + (n + 1) = (k + 5 + n) + 1 by omega, run_at (fn := m_found_in) rfl]
    by_cases h1 : g.length = 1
    · obtain ⟨x, rfl⟩ := List.length_eq_one_iff.1 h1
      refine ⟨.leaf x, ?_⟩
      simp only [runF, m_found_in]
      have hi : idxD st (tI [x]) (.int 0) = some (nI x) := by simp [tI]
      simp [cmpD, hi, tD]
    · obtain ⟨s, u, hs, hu, hsu, hnr, lp⟩ := T_least (W := W) (k := k + 2 + n) hb hg hh (by omega)
      rw [show k + 2 + n + 3 = k + 5 + n by omega] at lp
      obtain ⟨Z, hZ⟩ : ∃ Z, Z = sh b s u := ⟨_, rfl⟩
      have hsl := hg.lt s hs
      have hul := hg.lt u hu
      have hZl : Z.length ≤ 8 := by
        have h3 := cols_len hb s
        have h4 := List.length_filter_le (fun c => decide (c ∈ cols b u)) (cols b s)
        rw [hZ]
        unfold sh
        omega
      have hsh := S_shared (W := W) (k := k + 4 + n) hb hsl hul
      rw [show k + 4 + n + 1 = k + 5 + n by omega, ← hZ] at hsh
      obtain ⟨ps, hP, e7⟩ := T_without (W := W) (k := k + 1 + n) (Z := Z) hb hg hW st
      rw [show k + 1 + n + 4 = k + 5 + n by omega] at e7
      have hP' := hP
      rw [hZ] at hP'
      obtain ⟨p0, qs, rfl, hq, hpt⟩ := pcs_parts hb hr hT hg hh hs hu (nr_iff.1 hnr) hP'
      have hn0 := List.length_pos_iff.2 hpt.ne0
      have hn1 := List.length_pos_iff.2 hpt.ne1
      have hlen := hpt.len
      obtain ⟨t1, f1⟩ := T_found hb hr hT hW n k p0 hpt.gr0 hpt.h0 hpt.ne0 (by omega) st
      obtain ⟨t2, f2⟩ := T_found hb hr hT hW n k (srt qs.flatten) hpt.gr1 hpt.h1 hpt.ne1 (by omega) st
      have hfl : qs.flatten.length ≤ 8 := by
        rw [← (srt_perm qs.flatten).length_eq]
        omega
      have hne1 : ¬ ((g.length : Int) = 1) := by omega
      have hql : ¬ (((p0 :: qs).length : Int) = 1) := by
        have := List.length_pos_iff.2 hq
        simp only [List.length_cons]
        omega
      let env (r2 r3 r4 r5 r7 r8 r10 r11 : Option D) : Rho := [some (bk b), some (tI g), r2, r3, r4, r5, none, r7, r8, none, r10, r11, none]
      have q0 : evS (callR fns W (k + 5 + n)) W (.ite (.cmp .eq (.len (.var 1)) (.con (.int 1))) (.cons (.ret (.tup (.cons (.con (.str "plan")) (.cons (.idx (.var 1) (.con (.int 0))) .nil)))) .nil) .nil) (env none none none none none none none none) st = some (.next, env none none none none none none none none, st) := by
        rw [s_ite, show test (callR fns W (k + 5 + n)) (.cmp .eq (.len (.var 1)) (.con (.int 1))) (env none none none none none none none none) st = some (false, st) by simp [env, cmpD, hne1, h1]]
        simp
      have q1 : evS (callR fns W (k + 5 + n)) W (.asg (.tp (.cons (.nm 2) (.cons (.nm 3) .nil))) (.call i_least_pair (.cons (.var 0) (.cons (.var 1) .nil)))) (env none none none none none none none none) st = some (.next, env (some (nI s)) (some (nI u)) none none none none none none, st) := by
        simp [env, lp.call]
      have q2 : evS (callR fns W (k + 5 + n)) W (.asg (.nm 4) (.call i_shared_of (.cons (.var 0) (.cons (.var 2) (.cons (.var 3) .nil))))) (env (some (nI s)) (some (nI u)) none none none none none none) st = some (.next, env (some (nI s)) (some (nI u)) (some (tI Z)) none none none none none, st) := by
        simp [env, hsh.call]
      have q3 : evS (callR fns W (k + 5 + n)) W (.asg (.nm 5) (.frz (.comp (.one (.nm 6) (.seq (.var 1)) (.cons (.not (.call i_is_whole_or_none (.cons (.var 0) (.cons (.var 6) (.cons (.var 4) .nil))))) .nil) (.var 6))))) (env (some (nI s)) (some (nI u)) (some (tI Z)) none none none none none) st = some (.next, env (some (nI s)) (some (nI u)) (some (tI Z)) (some (.lst [])) none none none none, st) := by
        rw [s_asg, ev_frz, el_comp]
        rw [eg_fil nI g (fun _ => false) nI none (by simp [env]) rfl (fun x hx => ⟨[some (bk b), some (tI g), some (nI s), some (nI u), some (tI Z), none, some (nI x), none, none, none, none, none, none], by simp [env], by
          have hxl := hg.lt x hx
          have hw := S_whole (W := W) (k := k + 4 + n) (Z := Z) hb hxl (by omega)
          rw [show k + 4 + n + 1 = k + 5 + n by omega] at hw
          have hv : (decide ((Z.filter fun c => decide (c ∈ cols b x)) = []) || decide ((Z.filter fun c => decide (c ∈ cols b x)).length = Z.length)) = true := by
            cases hf : Z.filter fun c => decide (c ∈ cols b x) with
            | nil => simp
            | cons c r =>
              have hc : c ∈ Z.filter fun c => decide (c ∈ cols b x) := by rw [hf]; simp
              rw [List.mem_filter, decide_eq_true_eq] at hc
              have : Z.filter (fun c => decide (c ∈ cols b x)) = Z := List.filter_eq_self.2 fun d hd => decide_eq_true (all_none hb hT hsl hul hxl (Nat.ne_of_lt hsu) (hZ ▸ hc.1) hc.2 (hZ ▸ hd))
              rw [← hf, this]
              simp
          rw [hv] at hw
          rw [et_one]
          simp [hw.call], by simp⟩)]
        rw [List.filter_eq_nil_iff.2 (fun _ _ => by simp)]
        simp [cap, env]
      have q4 : ∀ R, evS (callR fns W (k + 5 + n)) W (.ite (.cmp .ne (.var 5) (.frz (.disp .nil))) R .nil) (env (some (nI s)) (some (nI u)) (some (tI Z)) (some (.lst [])) none none none none) st = some (.next, env (some (nI s)) (some (nI u)) (some (tI Z)) (some (.lst [])) none none none none, st) := fun R => by
        rw [s_ite, show test (callR fns W (k + 5 + n)) (.cmp .ne (.var 5) (.frz (.disp .nil))) (env (some (nI s)) (some (nI u)) (some (tI Z)) (some (.lst [])) none none none none) st = some (false, st) by
          simp [env, cmpD]
          have := eq_lst_nil (st := st) []
          simp at this
          rw [this]
          rfl]
        simp
      have q5 : evS (callR fns W (k + 5 + n)) W (.asg (.nm 7) (.call i_pieces_without (.cons (.var 0) (.cons (.var 1) (.cons (.var 4) .nil))))) (env (some (nI s)) (some (nI u)) (some (tI Z)) (some (.lst [])) none none none none) st = some (.next, env (some (nI s)) (some (nI u)) (some (tI Z)) (some (.lst [])) (some (.lst ((p0 :: qs).map tI))) none none none, st) := by
        simp only [s_asg, ev_call', evs_cons, evs_nil, ev_var]
        simp [env, e7, -List.map_cons]
      have q6 : ∀ R, evS (callR fns W (k + 5 + n)) W (.ite (.cmp .eq (.len (.var 7)) (.con (.int 1))) R .nil) (env (some (nI s)) (some (nI u)) (some (tI Z)) (some (.lst [])) (some (.lst ((p0 :: qs).map tI))) none none none) st = some (.next, env (some (nI s)) (some (nI u)) (some (tI Z)) (some (.lst [])) (some (.lst ((p0 :: qs).map tI))) none none none, st) := fun R => by
        rw [s_ite, show test (callR fns W (k + 5 + n)) (.cmp .eq (.len (.var 7)) (.con (.int 1))) (env (some (nI s)) (some (nI u)) (some (tI Z)) (some (.lst [])) (some (.lst ((p0 :: qs).map tI))) none none none) st = some (false, st) by
          simp only [test_eq, ev_cmp, ev_len, ev_var, ev_con]
          simp [env, cmpD, -List.map_cons]
          simp only [List.length_cons] at hql
          omega]
        simp
      have q7 : evS (callR fns W (k + 5 + n)) W (.asg (.nm 8) (.tupL (.srtL (.comp (.two (.nm 9) (.seq (.slice (.var 7) (.some (.con (.int 1))) .none)) .nil (.nm 6) (.seq (.var 9)) .nil (.var 6)))))) (env (some (nI s)) (some (nI u)) (some (tI Z)) (some (.lst [])) (some (.lst ((p0 :: qs).map tI))) none none none) st = some (.next, env (some (nI s)) (some (nI u)) (some (tI Z)) (some (.lst [])) (some (.lst ((p0 :: qs).map tI))) (some (tI (srt qs.flatten))) none none, st) := by
        have hsl : sliceD st (.lst ((p0 :: qs).map tI)) (some 1) none = some (.lst (qs.map tI)) := by
          simp [sliceD, cutD, HT.sIx]
          rw [List.take_of_length_le (by simp)]
        rw [s_asg, ev_tupL, el_srtL, el_comp]
        rw [eg_two tI qs (fun _ => true) (fun _ => nI) (fun p => p) (fun _ _ => true) (fun _ => nI) none (fun _ => none) (by
          simp only [ei_seq, ev_slice, ev_var, evo_some, ev_con, evo_none]
          simp only [env, List.getElem?_cons_succ, List.getElem?_cons_zero, bnd_some]
          rw [hsl]
          simp) rfl (fun p hp => ⟨_, by simp [env]; rfl, by simp, fun _ => ⟨by simp, rfl, fun c _ => ⟨_, by simp; rfl, by simp, by simp⟩⟩⟩)]
        rw [show ((qs.filter fun _ => true).flatMap fun x => (x.filter fun _ => true).map nI) = qs.flatten.map nI by
          rw [List.filter_eq_self.2 fun _ _ => rfl, List.map_flatten, List.flatMap_def]
          congr 1
          refine List.map_congr_left fun p _ => ?_
          rw [List.filter_eq_self.2 fun _ _ => rfl]]
        simp only [bnd_some, List.length_map]
        rw [if_pos (by simp only [cap]; exact decide_eq_true (by omega))]
        simp only [bnd_some]
        rw [sortD_srt]
        simp [env, tI]
      have q8 : evS (callR fns W (k + 5 + n)) W (.asg (.nm 10) (.frz (.disp (.cons (.call i_found_in (.cons (.var 0) (.cons (.idx (.var 7) (.con (.int 0))) .nil))) (.cons (.call i_found_in (.cons (.var 0) (.cons (.var 8) .nil))) .nil))))) (env (some (nI s)) (some (nI u)) (some (tI Z)) (some (.lst [])) (some (.lst ((p0 :: qs).map tI))) (some (tI (srt qs.flatten))) none none) st = some (.next, env (some (nI s)) (some (nI u)) (some (tI Z)) (some (.lst [])) (some (.lst ((p0 :: qs).map tI))) (some (tI (srt qs.flatten))) (some (.lst [pD t1, pD t2])) none, st) := by
        have hi : idxD st (.lst ((p0 :: qs).map tI)) (.int 0) = some (tI p0) := idx_seq (i := 0) (seq_lst _) rfl
        simp only [s_asg, ev_frz, el_disp, evs_cons, evs_nil, ev_call', ev_var, ev_idx, ev_con]
        simp [env, -List.map_cons, hi, f1, f2]
      have i0 : ∀ (st : St) (t : PM.T), idxD st (pD t) (.int 0) = some (.str "plan") := fun st t => idx_seq (i := 0) (seq_tup _) rfl
      have i1 : ∀ (st : St) (t : PM.T), idxD st (pD t) (.int 1) = some (tD t) := fun st t => idx_seq (i := 1) (seq_tup _) rfl
      have j0 : idxD st (.lst [pD t1, pD t2]) (.int 0) = some (pD t1) := idx_seq (i := 0) (seq_lst _) rfl
      have j1 : idxD st (.lst [pD t1, pD t2]) (.int 1) = some (pD t2) := idx_seq (i := 1) (seq_lst _) rfl
      have q9 : evS (callR fns W (k + 5 + n)) W (.asg (.nm 11) (.frz (.comp (.one (.nm 12) (.seq (.var 10)) (.cons (.cmp .eq (.idx (.var 12) (.con (.int 0))) (.con (.str "ring"))) .nil) (.var 12))))) (env (some (nI s)) (some (nI u)) (some (tI Z)) (some (.lst [])) (some (.lst ((p0 :: qs).map tI))) (some (tI (srt qs.flatten))) (some (.lst [pD t1, pD t2])) none) st = some (.next, env (some (nI s)) (some (nI u)) (some (tI Z)) (some (.lst [])) (some (.lst ((p0 :: qs).map tI))) (some (tI (srt qs.flatten))) (some (.lst [pD t1, pD t2])) (some (.lst [])), st) := by
        rw [s_asg, ev_frz, el_comp]
        rw [eg_fil pD [t1, t2] (fun _ => false) pD none (by simp [env]) rfl (fun t ht => ⟨[some (bk b), some (tI g), some (nI s), some (nI u), some (tI Z), some (.lst []), none, some (.lst ((p0 :: qs).map tI)), some (tI (srt qs.flatten)), none, some (.lst [pD t1, pD t2]), none, some (pD t)], by simp [env], by
          rw [et_one]
          simp only [ev_cmp, ev_idx, ev_var, ev_con]
          simp only [List.getElem?_cons_succ, List.getElem?_cons_zero, bnd_some, i0, liftO_some, cmpD, plan_ring]
          rfl, by simp⟩)]
        rw [List.filter_eq_nil_iff.2 (fun _ _ => by simp)]
        simp [cap, env]
      have q10 : evS (callR fns W (k + 5 + n)) W (.ret (.ite (.cmp .ne (.var 11) (.frz (.disp .nil))) (.idx (.var 11) (.con (.int 0))) (.tup (.cons (.con (.str "plan")) (.cons (.tup (.cons (.idx (.idx (.var 10) (.con (.int 0))) (.con (.int 1))) (.cons (.idx (.idx (.var 10) (.con (.int 1))) (.con (.int 1))) .nil))) .nil))))) (env (some (nI s)) (some (nI u)) (some (tI Z)) (some (.lst [])) (some (.lst ((p0 :: qs).map tI))) (some (tI (srt qs.flatten))) (some (.lst [pD t1, pD t2])) (some (.lst []))) st = some (.ret (pD (.fork t1 t2)), env (some (nI s)) (some (nI u)) (some (tI Z)) (some (.lst [])) (some (.lst ((p0 :: qs).map tI))) (some (tI (srt qs.flatten))) (some (.lst [pD t1, pD t2])) (some (.lst [])), st) := by
        have e0 := eq_lst_nil (st := st) []
        simp at e0
        rw [s_ret, ev_ite]
        rw [show evE (callR fns W (k + 5 + n)) (.cmp .ne (.var 11) (.frz (.disp .nil))) (env (some (nI s)) (some (nI u)) (some (tI Z)) (some (.lst [])) (some (.lst ((p0 :: qs).map tI))) (some (tI (srt qs.flatten))) (some (.lst [pD t1, pD t2])) (some (.lst []))) st = some (.bl false, st) by
          simp only [ev_cmp, ev_frz, el_disp, evs_nil, ev_var]
          simp only [env, List.getElem?_cons_succ, List.getElem?_cons_zero, bnd_some, cmpD, e0]
          rfl]
        simp only [bnd_some, truth_bl, ev_tup, evs_cons, evs_nil, ev_idx, ev_var, ev_con]
        simp only [env, List.getElem?_cons_succ, List.getElem?_cons_zero, bnd_some, j0, j1, i1, liftO_some]
        rfl
      refine ⟨.fork t1 t2, ?_⟩
      refine runF_ret (fn := m_found_in) (ρ' := env (some (nI s)) (some (nI u)) (some (tI Z)) (some (.lst [])) (some (.lst ((p0 :: qs).map tI))) (some (tI (srt qs.flatten))) (some (.lst [pD t1, pD t2])) (some (.lst []))) rfl ?_
      show evSs _ _ (.cons _ _) (env none none none none none none none none) st = _
      rw [ss_cons _ _ _ _ _ _ q0, ss_cons _ _ _ _ _ _ q1, ss_cons _ _ _ _ _ _ q2, ss_cons _ _ _ _ _ _ q3, ss_cons _ _ _ _ _ _ (q4 _), ss_cons _ _ _ _ _ _ q5, ss_cons _ _ _ _ _ _ (q6 _), ss_cons _ _ _ _ _ _ q7, ss_cons _ _ _ _ _ _ q8, ss_cons _ _ _ _ _ _ q9, ss_ret _ _ _ _ _ _ q10]
theorem T_within {k : Nat} {b : List (List Nat)} (hb : Bk b) (hr : HR b) (hT : thF b = []) (hW : 100 ≤ W) (st : St) : ∃ t, callE (callR fns W (k + 14)) i_plan_within [bk b, tI (allS b)] st = some (tD t, st) := by
  have h1 := hb.one
  have h6 := hb.six
  have hne : allS b ≠ [] := by
    intro e
    have e' := congrArg List.length e
    rw [List.length_range, List.length_nil] at e'
    omega
  obtain ⟨t, e⟩ := T_found (W := W) hb hr hT hW 8 k (allS b) (allS_gr b) hr.hung.all hne (by simp; omega) st
  have e' : callE (callR fns W (k + 13)) i_found_in [bk b, tI (allS b)] st = some (pD t, st) := e
  refine ⟨t, ?_⟩
  unfold callE
  rw [run_at (fn := m_plan_within) rfl]
  have hp := plan_plan (st := st)
  simp only [runF, m_plan_within]
  simp [e', cmpD, hp]
  exact fin_pure0 (by simp)
theorem T_anyplan {k : Nat} {b : List (List Nat)} (hb : Bk b) (hr : HR b) (hW : 100 ≤ W) (st : St) : callE (callR fns W (k + 15)) i_any_plan [bk b] st = some (.bl (decide (thF b = [])), st) := by
  unfold callE
  rw [run_at (fn := m_any_plan) rfl]
  simp only [runF, m_any_plan]
  by_cases hT : thF b = []
  · obtain ⟨t, e⟩ := T_within (W := W) (k := k) hb hr hT hW st
    have hne : cmpD .isnot st (tD t) .non = some true := by cases t <;> rfl
    simp [(S_joined (W := W) (k := k + 6) hb hr.hung.all hW).call, (S_pthirds (W := W) (k := k + 12) hb).call, hT, truth, (S_every (W := W) (k := k + 13) hb).call, e, hne]
    exact fin_pure0 rfl
  · obtain ⟨x, xs, hx⟩ := List.exists_cons_of_ne_nil hT
    simp [(S_joined (W := W) (k := k + 6) hb hr.hung.all hW).call, (S_pthirds (W := W) (k := k + 12) hb).call, hx, truth]
    exact fin_pure0 rfl
end K56

end

section
set_option maxRecDepth 100000
set_option maxHeartbeats 4000000
namespace K56
open MM MP PySem
variable {W : Nat}
/-! ### the law -/
theorem wt_t3s : ∀ l : List T3, (∀ t ∈ l, t.1 < 1000 ∧ t.2.1 < 1000 ∧ t.2.2 < 1000) → D.wts (l.map t3D) ≤ 50 * l.length
  | [], _ => by simp [D.wts]
  | t :: l, h => by
    have ih := wt_t3s l fun u hu => h u (by simp [hu])
    obtain ⟨h1, h2, h3⟩ := h t (by simp)
    have hw : ∀ x : Nat, x < 1000 → D.wt (nI x) = 11 := fun x hx => by
      show (if (x : Int).natAbs < 1000000000 then 11 else 33554432) = 11
      rw [if_pos (by omega)]
    have : D.wt (t3D t) = 42 := by
      show D.wts [nI t.1, nI t.2.1, nI t.2.2] + 3 = 42
      simp only [D.wts, hw _ h1, hw _ h2, hw _ h3]
    rw [List.map_cons, D.wts, this, List.length_cons]
    omega
theorem thirds_told {b : List (List Nat)} (hb : Bk b) : tame (.tup ((thF b).map t3D)) = true ∧ D.dep (.tup ((thF b).map t3D)) ≤ 60 ∧ D.wt (.tup ((thF b).map t3D)) ≤ cap := by
  obtain ⟨lF, _, _⟩ := len_thF hb
  have h6 := hb.six
  refine ⟨tame_clean _ (by simpa using clean_t3s _), ?_, ?_⟩
  · have := deps_t3s (thF b)
    simp only [dep_tup]
    omega
  · have := wt_t3s (thF b) fun t ht => by
      obtain ⟨h1, h2, h3, _⟩ := mem_thF.1 ht
      omega
    show D.wts ((thF b).map t3D) + 3 ≤ cap
    simp only [cap]
    omega
theorem walk_draw {P : D → Prop} {f : D → St → R (List D)} (h : ∀ i x y, ∃ d x' y', f (nI i) [J x y] = some ([d], [J x' y']) ∧ P d) : ∀ (is : List Nat) (x y : Int), ∃ ds x' y', walkF none f (is.map nI) [J x y] = some (ds, [J x' y']) ∧ ds.length = is.length ∧ ∀ d ∈ ds, P d
  | [], x, y => ⟨[], x, y, by simp [walkF], rfl, by simp⟩
  | i :: is, x, y => by
    obtain ⟨d, x1, y1, e, hd⟩ := h i x y
    obtain ⟨ds, x2, y2, e2, hl, hds⟩ := walk_draw h is x1 y1
    refine ⟨d :: ds, x2, y2, ?_, by simp [hl], ?_⟩
    · rw [List.map_cons, walkF, stays_none, if_pos rfl, e, bnd_some, e2, bnd_some]
      rfl
    · intro z hz
      rw [List.mem_cons] at hz
      rcases hz with rfl | hz
      · exact hd
      · exact hds z hz
theorem tDs_of {b : List (List Nat)} : ∀ ds : List D, (∀ d ∈ ds, ∃ t, PlA b t ∧ d = tD t) → ∃ ts : List PM.T, ds = ts.map tD ∧ ∀ t ∈ ts, PlA b t
  | [], _ => ⟨[], rfl, by simp⟩
  | d :: ds, h => by
    obtain ⟨ts, e, ht⟩ := tDs_of ds fun z hz => h z (by simp [hz])
    obtain ⟨t, h1, h2⟩ := h d (by simp)
    refine ⟨t :: ts, by rw [List.map_cons, e, h2], fun z hz => ?_⟩
    rw [List.mem_cons] at hz
    rcases hz with rfl | hz
    · exact h1
    · exact ht z hz
theorem T_law {k : Nat} (hW : 100 ≤ W) (ns : List Int) : ∃ st', callR fns W (k + 17) i_law [.scr ns] [] = some (.bl true, st') := by
  obtain ⟨a, c, e⟩ := T_pool (W := W) (k := k + 15) ns
  have q1 : evS (callR fns W (k + 16)) W (.asg (.nm 1) (.new (.call i_law_pool (.cons (.var 0) (.cons (.con (.int 0)) .nil))))) [some (.scr ns), none, none, none, none, none, none, none, none] [] =
      some (.next, [some (.scr ns), some (.ref 0), none, none, none, none, none, none, none], [J a c]) := by
    simp [e]
  obtain ⟨b, x1, y1, e2, hne, h5, hS, hR⟩ := T_ringless (W := W) (k := k + 4) (most := 5) (by omega) (by omega) a c []
  have hpos := List.length_pos_iff.2 hne
  have hb : Bk b := bk_of (by omega) (by omega) hS
  have hh := hR.hung.all
  have e2' : callE (callR fns W (k + 16)) i_law_ringless_book [.ref 0, .int 5] [J a c] = some (bk b, [J x1 y1]) := e2
  have q2 : evS (callR fns W (k + 16)) W (.asg (.nm 2) (.call i_law_ringless_book (.cons (.var 1) (.cons (.con (.int 5)) .nil)))) [some (.scr ns), some (.ref 0), none, none, none, none, none, none, none] [J a c] =
      some (.next, [some (.scr ns), some (.ref 0), some (bk b), none, none, none, none, none, none], [J x1 y1]) := by
    simp [e2']
  have q3 : evS (callR fns W (k + 16)) W (.par 3 4 (.call i_law_all_sources (.cons (.var 2) .nil)) (.call i_law_thirds_of (.cons (.var 2) .nil))) [some (.scr ns), some (.ref 0), some (bk b), none, none, none, none, none, none] [J x1 y1] =
      some (.next, [some (.scr ns), some (.ref 0), some (bk b), some (tI (allS b)), some (.lst ((thF b).map t3D)), none, none, none, none], [J x1 y1]) := by
    simp [(S_allsrc (W := W) (k := k + 15) hb).call, (S_thirds (W := W) (k := k + 14) hb).call]
  obtain ⟨g1, g2, g3⟩ := thirds_told hb
  have t1 : test (callR fns W (k + 16)) (.or (.cmp .ne (.repr (.call i_thirds (.cons (.var 2) .nil))) (.repr (.tupE (.var 4)))) (.cmp .ne (.repr (.call i_any_plan (.cons (.var 2) .nil))) (.repr (.cmp .eq (.var 4) (.frz (.disp .nil)))))) [some (.scr ns), some (.ref 0), some (bk b), some (tI (allS b)), some (.lst ((thF b).map t3D)), none, none, none, none] [J x1 y1] = some (false, [J x1 y1]) := by
    have hE := eq_lst0 (st := [J x1 y1]) (clean_t3s (thF b)) (by have := deps_t3s (thF b); omega)
    rw [test_eq, or_f (ne_tame (st1 := [J x1 y1]) (d := .tup ((thF b).map t3D)) (by simp [(S_thirdsP (W := W) (k := k + 7) hb hh hW).call]) (by simp) g1 g2 g3)]
    have hE' : evE (callR fns W (k + 16)) (.cmp .eq (.var 4) (.frz (.disp .nil))) [some (.scr ns), some (.ref 0), some (bk b), some (tI (allS b)), some (.lst ((thF b).map t3D)), none, none, none, none] [J x1 y1] = some (.bl (decide (thF b = [])), [J x1 y1]) := by
      have : decide (((thF b).map t3D) = []) = decide (thF b = []) := by cases thF b <;> rfl
      rw [this] at hE
      simp [cmpD, hE]
    rw [ne_tame (st1 := [J x1 y1]) (d := .bl (decide (thF b = []))) (by simp [T_anyplan (W := W) (k := k + 1) hb hR hW]) hE' rfl (by simp) (by show 5 ≤ cap; simp [cap])]
    simp
  have hp5 : ∃ (ts : List PM.T) (x2 y2 : Int), (∀ t ∈ ts, PlA b t) ∧ ts.length ≤ 1024 ∧ evS (callR fns W (k + 16)) W (.asg (.nm 5) (.ite (.cmp .lt (.len (.var 3)) (.con (.int 5))) (.call i_law_all_trees (.cons (.var 3) .nil)) (.frz (.comp (.one (.nm 6) (.rng1 (.con (.int 12))) .nil (.call i_law_joined_tree (.cons (.var 1) (.cons (.var 2) (.cons (.var 3) .nil))))))))) [some (.scr ns), some (.ref 0), some (bk b), some (tI (allS b)), some (.lst ((thF b).map t3D)), none, none, none, none] [J x1 y1] =
      some (.next, [some (.scr ns), some (.ref 0), some (bk b), some (tI (allS b)), some (.lst ((thF b).map t3D)), some (.lst (ts.map tD)), none, none, none], [J x2 y2]) := by
    have hall : allS b ≠ [] := by
      intro e
      have e' := congrArg List.length e
      rw [List.length_range, List.length_nil] at e'
      omega
    by_cases h4 : b.length < 5
    · obtain ⟨ts, m1, m2, m3⟩ := T_alltrees (W := W) 5 (k + 10) (allS b) (allS_gr b).up hall (by simp; omega) (by simp; omega) [J x1 y1]
      have m3' : callE (callR fns W (k + 16)) i_law_all_trees [tI (allS b)] [J x1 y1] = some (.lst (ts.map tD), [J x1 y1]) := m3
      have hlt : (b.length : Int) < 5 := by omega
      refine ⟨ts, x1, y1, fun t ht => (m1 t ht).pla, Nat.le_trans m2 (Bd_1024 _ (by simp; omega)), ?_⟩
      simp [cmpD, cmpInt, hlt, m3']
    · have hge : ¬ ((b.length : Int) < 5) := by omega
      have hw := walk_draw (P := fun d => ∃ t, PlA b t ∧ d = tD t) (f := fun x st => match bindG (.nm 6) x (wipeR [some (.scr ns), some (.ref 0), some (bk b), some (tI (allS b)), some (.lst ((thF b).map t3D)), none, none, none, none] (G.slots (.nm 6))) with
        | some ρ' => bnd (evTs (callR fns W (k + 16)) .nil ρ' st) fun b' st => if b' then bnd (evE (callR fns W (k + 16)) (.call i_law_joined_tree (.cons (.var 1) (.cons (.var 2) (.cons (.var 3) .nil)))) ρ' st) fun d st => some ([d], st) else some ([], st)
        | none => none) (fun i x y => by
        obtain ⟨t, x', y', h1, h2⟩ := T_joined (W := W) (k := k + 6) hb hh hW x y []
        refine ⟨tD t, x', y', ?_, t, h1, rfl⟩
        simp [h2]) (List.range 12) x1 y1
      obtain ⟨ds, x2, y2, w1, w2, w3⟩ := hw
      obtain ⟨ts, rfl, w4⟩ := tDs_of ds w3
      rw [List.length_map, List.length_range] at w2
      refine ⟨ts, x2, y2, w4, by omega, ?_⟩
      have hg : evGs (callR fns W (k + 16)) (.one (.nm 6) (.rng1 (.con (.int 12))) .nil (.call i_law_joined_tree (.cons (.var 1) (.cons (.var 2) (.cons (.var 3) .nil))))) [some (.scr ns), some (.ref 0), some (bk b), some (tI (allS b)), some (.lst ((thF b).map t3D)), none, none, none, none] [J x1 y1] = some (ts.map tD, [J x2 y2]) := by
        rw [evGs, ei_rng1 _ _ _ _ 12 _ (by simp; rfl) (by omega)]
        simp only [bnd_some]
        exact w1
      rw [s_asg, ev_ite]
      rw [show evE (callR fns W (k + 16)) (.cmp .lt (.len (.var 3)) (.con (.int 5))) [some (.scr ns), some (.ref 0), some (bk b), some (tI (allS b)), some (.lst ((thF b).map t3D)), none, none, none, none] [J x1 y1] = some (.bl false, [J x1 y1]) by
        simp [cmpD, cmpInt, hge]]
      simp only [bnd_some, truth_bl]
      rw [ev_frz, el_comp, hg]
      simp only [bnd_some, List.length_map]
      rw [if_pos (by simp only [cap]; exact decide_eq_true (by omega))]
      simp
  obtain ⟨ts, x2, y2, m1, m2, q5⟩ := hp5
  have hall : allS b ≠ [] := by
    intro e
    have e' := congrArg List.length e
    rw [List.length_range, List.length_nil] at e'
    omega
  obtain ⟨td, x3, y3, d1, d2⟩ := T_drawn (W := W) (k := k + 13) (g := allS b) List.nodup_range hall (by simp; omega) hW x2 y2 []
  have q6 : ∃ o7, evS (callR fns W (k + 16)) W (.forS (.nm 7) (.seq (.bin .add (.var 5) (.frz (.disp (.cons (.call i_law_drawn_tree (.cons (.var 1) (.cons (.var 3) .nil))) .nil))))) (.cons (.ite (.not (.call i_law_tree_told_right (.cons (.var 2) (.cons (.var 7) (.cons (.con (.bl true)) .nil))))) (.cons (.ret (.con (.bl false))) .nil) .nil) .nil)) [some (.scr ns), some (.ref 0), some (bk b), some (tI (allS b)), some (.lst ((thF b).map t3D)), some (.lst (ts.map tD)), none, none, none] [J x2 y2] =
      some (.next, [some (.scr ns), some (.ref 0), some (bk b), some (tI (allS b)), some (.lst ((thF b).map t3D)), some (.lst (ts.map tD)), none, o7, none], [J x3 y3]) := by
    have hadd : binD .add [J x3 y3] (.lst (ts.map tD)) (.lst [tD td]) = some (.lst ((ts ++ [td]).map tD)) := by
      show (if decide ((ts.map tD).length + [tD td].length ≤ cap) = true then some (D.lst (ts.map tD ++ [tD td])) else none) = _
      rw [if_pos (decide_eq_true (by simp [cap]; omega)), List.map_append]
      rfl
    have hit : evIt (callR fns W (k + 16)) (.seq (.bin .add (.var 5) (.frz (.disp (.cons (.call i_law_drawn_tree (.cons (.var 1) (.cons (.var 3) .nil))) .nil))))) [some (.scr ns), some (.ref 0), some (bk b), some (tI (allS b)), some (.lst ((thF b).map t3D)), some (.lst (ts.map tD)), none, none, none] [J x2 y2] = some (((ts ++ [td]).map tD, none), [J x3 y3]) := by
      simp [-List.map_append, d2, hadd]
    have := for_rule (src := none) (f := bodyF (callR fns W (k + 16)) W (.nm 7) (.cons (.ite (.not (.call i_law_tree_told_right (.cons (.var 2) (.cons (.var 7) (.cons (.con (.bl true)) .nil))))) (.cons (.ret (.con (.bl false))) .nil) .nil) .nil)) tD
      (fun xs ρ s => (∃ o, ρ = [some (.scr ns), some (.ref 0), some (bk b), some (tI (allS b)), some (.lst ((thF b).map t3D)), some (.lst (ts.map tD)), none, o, none]) ∧ s = [J x3 y3] ∧ ∀ t ∈ xs, PlA b t)
      (fun fl ρ s => fl = .next ∧ (∃ o, ρ = [some (.scr ns), some (.ref 0), some (bk b), some (tI (allS b)), some (.lst ((thF b).map t3D)), some (.lst (ts.map tD)), none, o, none]) ∧ s = [J x3 y3])
      ?_ ?_ (ts ++ [td]) [some (.scr ns), some (.ref 0), some (bk b), some (tI (allS b)), some (.lst ((thF b).map t3D)), some (.lst (ts.map tD)), none, none, none] [J x3 y3] ⟨⟨none, rfl⟩, rfl, fun t ht => by
        rw [List.mem_append, List.mem_singleton] at ht
        rcases ht with ht | rfl
        · exact m1 t ht
        · exact d1.pla⟩
    · obtain ⟨fl, ρ', s', h1, rfl, ⟨o, rfl⟩, rfl⟩ := this
      refine ⟨o, ?_⟩
      rw [s_for, hit]
      exact h1
    · rintro ρ s ⟨⟨o, rfl⟩, rfl, _⟩
      exact ⟨rfl, rfl, ⟨o, rfl⟩, rfl⟩
    · rintro t tt ρ s ⟨⟨o, rfl⟩, rfl, ht⟩
      have := (S_told (W := W) (k := k) hb hh (ht t (by simp)) true (fun _ => hR) hW).call [J x3 y3]
      exact ⟨rfl, .inl ⟨[some (.scr ns), some (.ref 0), some (bk b), some (tI (allS b)), some (.lst ((thF b).map t3D)), some (.lst (ts.map tD)), none, some (tD t), none], [J x3 y3], by simp [bodyF, this], ⟨_, rfl⟩, rfl, fun u hu => ht u (by simp [hu])⟩⟩
  obtain ⟨o7, q6⟩ := q6
  obtain ⟨b2, x4, y4, e4, hb2, _, hh2⟩ := T_some (W := W) (k := k + 3) (most := 5) (by omega) (by omega) x3 y3 []
  have e4' : callE (callR fns W (k + 16)) i_law_some_book [.ref 0, .int 5] [J x3 y3] = some (bk b2, [J x4 y4]) := e4
  have q7 : evS (callR fns W (k + 16)) W (.asg (.nm 8) (.call i_law_some_book (.cons (.var 1) (.cons (.con (.int 5)) .nil)))) [some (.scr ns), some (.ref 0), some (bk b), some (tI (allS b)), some (.lst ((thF b).map t3D)), some (.lst (ts.map tD)), none, o7, none] [J x3 y3] =
      some (.next, [some (.scr ns), some (.ref 0), some (bk b), some (tI (allS b)), some (.lst ((thF b).map t3D)), some (.lst (ts.map tD)), none, o7, some (bk b2)], [J x4 y4]) := by
    simp [e4']
  obtain ⟨u1, u2, u3⟩ := thirds_told hb2
  have t2 : test (callR fns W (k + 16)) (.cmp .ne (.repr (.call i_thirds (.cons (.var 8) .nil))) (.repr (.tupE (.call i_law_thirds_of (.cons (.var 8) .nil))))) [some (.scr ns), some (.ref 0), some (bk b), some (tI (allS b)), some (.lst ((thF b).map t3D)), some (.lst (ts.map tD)), none, o7, some (bk b2)] [J x4 y4] = some (false, [J x4 y4]) := by
    rw [test_eq, ne_tame (st1 := [J x4 y4]) (st2 := [J x4 y4]) (d := .tup ((thF b2).map t3D)) (by simp [(S_thirdsP (W := W) (k := k + 7) hb2 hh2 hW).call]) (by simp [(S_thirds (W := W) (k := k + 14) hb2).call]) u1 u2 u3]
    simp
  have q8 : ∃ ρ' s', evS (callR fns W (k + 16)) W (.forS (.nm 6) (.rng1 (.con (.int 3))) (.cons (.ite (.not (.call i_law_tree_told_right (.cons (.var 8) (.cons (.call i_law_joined_tree (.cons (.var 1) (.cons (.var 8) (.cons (.call i_law_all_sources (.cons (.var 8) .nil)) .nil)))) (.cons (.con (.bl false)) .nil))))) (.cons (.ret (.con (.bl false))) .nil) .nil) .nil)) [some (.scr ns), some (.ref 0), some (bk b), some (tI (allS b)), some (.lst ((thF b).map t3D)), some (.lst (ts.map tD)), none, o7, some (bk b2)] [J x4 y4] = some (.next, ρ', s') := by
    have := for_rule (src := none) (f := bodyF (callR fns W (k + 16)) W (.nm 6) (.cons (.ite (.not (.call i_law_tree_told_right (.cons (.var 8) (.cons (.call i_law_joined_tree (.cons (.var 1) (.cons (.var 8) (.cons (.call i_law_all_sources (.cons (.var 8) .nil)) .nil)))) (.cons (.con (.bl false)) .nil))))) (.cons (.ret (.con (.bl false))) .nil) .nil) .nil)) nI
      (fun xs ρ s => ∃ (o6 : Option D) (x y : Int), ρ = [some (.scr ns), some (.ref 0), some (bk b), some (tI (allS b)), some (.lst ((thF b).map t3D)), some (.lst (ts.map tD)), o6, o7, some (bk b2)] ∧ s = [J x y])
      (fun fl ρ s => fl = .next)
      ?_ ?_ (List.range 3) [some (.scr ns), some (.ref 0), some (bk b), some (tI (allS b)), some (.lst ((thF b).map t3D)), some (.lst (ts.map tD)), none, o7, some (bk b2)] [J x4 y4] ⟨none, x4, y4, rfl, rfl⟩
    · obtain ⟨fl, ρ', s', h1, rfl⟩ := this
      refine ⟨ρ', s', ?_⟩
      rw [s_for, ei_rng1 _ _ _ _ 3 _ (by simp; rfl) (by omega)]
      exact h1
    · rintro ρ s ⟨o6, x, y, rfl, rfl⟩
      exact ⟨rfl, rfl⟩
    · rintro i is ρ s ⟨o6, x, y, rfl, rfl⟩
      obtain ⟨t, x5, y5, ht, e5⟩ := T_joined (W := W) (k := k + 6) hb2 hh2 hW x y []
      have := (S_told (W := W) (k := k) hb2 hh2 ht false (fun h => nomatch h) hW).call [J x5 y5]
      exact ⟨rfl, .inl ⟨[some (.scr ns), some (.ref 0), some (bk b), some (tI (allS b)), some (.lst ((thF b).map t3D)), some (.lst (ts.map tD)), some (nI i), o7, some (bk b2)], [J x5 y5], by simp [bodyF, (S_allsrc (W := W) (k := k + 15) hb2).call, e5, this], _, _, _, rfl, rfl⟩⟩
  obtain ⟨ρ', s', q8⟩ := q8
  refine ⟨s', ?_⟩
  rw [run_at (fn := m_law) rfl]
  refine runF_ret (fn := m_law) (ρ' := ρ') rfl ?_
  show evSs _ _ (.cons _ _) [some (.scr ns), none, none, none, none, none, none, none, none] [] = _
  rw [ss_cons _ _ _ _ _ _ q1, ss_cons _ _ _ _ _ _ q2, ss_cons _ _ _ _ _ _ q3, ss_step, s_ite, t1]
  dsimp only
  rw [ss_nil, then_next, ss_cons _ _ _ _ _ _ q5, ss_cons _ _ _ _ _ _ q6, ss_cons _ _ _ _ _ _ q7, ss_step, s_ite, t2]
  dsimp only
  rw [ss_nil, then_next, ss_cons _ _ _ _ _ _ q8]
  simp
end K56

end

section
namespace K56
open MM MP PySem
def fuel : Nat := 1000
def deep : Nat := 40
theorem plain (ns : List Int) (_ : ns.length ≤ 63) : ∃ st', callR fns fuel deep 84 [.scr ns] [] = some (.bl true, st') := T_law (W := fuel) (k := 23) (by decide) ns
end K56

end

section
set_option maxRecDepth 100000
set_option maxHeartbeats 4000000
/-! Tuples whose one object is known to carry no dict: rules of making. -/
namespace MM
open PySem PySem.Spec PyProof.Rows L2 HT

/-- a tuple's own object -/
def tobj (its : List Value) : Obj := { cls := .type "tuple", data := .seq its.toArray }
/-- a tuple as it stands: its object has no dict -/
def TupX (H : Hp) (a : Addr) (vs : List V) : Prop := ∃ o, H a = some (.frz o (.tup vs)) ∧ o.dict = none
theorem TupX.sqT {K : PySem.W.Frag} {H : Hp} {a : Addr} {vs : List V} (h : TupX H a vs) : SqT K H a vs := let ⟨o, h, _⟩ := h; .inl (.inr ⟨o, h⟩)
/-- what a rule that makes a tuple asks -/
def NewT (H : Hp) (xs : List V) (Q : VK) : Prop := ∀ p ob, H p = none → ob.dict = none → Q (.ref p) (upd H p (.frz ob (.tup xs)))
section
variable {X : Cx} {pins : List (Addr × Obj)} {σ : L2.St} {H : Hp} {s : Shared}
theorem inv_tup (I : Inv X pins σ H s) {h' : Heap} {t : Nat} (kp : ∀ b o, s.heap.get? b = some o → h'.get? b = some o) {xs : List V} {its : List Value} (hz : xs.length ≤ sizeLine) (r : Vals xs its) {Q : VK} (q : NewT H xs Q) :
    EP X pins σ Q (.ref h'.objs.size) { s with heap := h'.push (tobj its), toks := t } := by
  have J : Inv X pins σ H { s with heap := h', toks := t } := I.kept kp
  have e : (h'.push (tobj its)).get? h'.objs.size = some (tobj its) := Heap.get?_push_size _ rfl
  exact ⟨.ref h'.objs.size, upd H h'.objs.size (.frz (tobj its) (.tup xs)), J.laid (t' := t) (fun b o z => Heap.get?_push_of_some _ z) (Nat.le_refl _) ⟨e, hz, its, r, _, e, rfl, 0, rfl⟩, rfl, q _ _ (J.hok.fresh (Nat.le_refl _)) rfl⟩
/-- a written tuple -/
theorem pe_tupX {es : List Expr} {t : TA} {x1} {pos : Pos} (h : PA X es t) : PE X (.Tuple es x1 pos) (fun σ H Q => t σ H fun xs H1 => xs.length ≤ sizeLine ∧ NewT H1 xs Q) := by
  refine ⟨fun pins s σ H Q I hq => ?_⟩
  refine wpAny_Tuple_spliced (thn (h.run pos pins s σ H _ I hq) fun us s1 ⟨xs, H1, I1, r, z, q⟩ => ⟨r.length ▸ z, ?_⟩)
  exact inv_tup (t := s1.toks) I1 (fun b o z => z) z r q
/-- tuple(x) of a list or a tuple -/
theorem cr_tupX : CallR X (.type "tuple") (fun xs H Q => ∃ p ys, xs = [.ref p] ∧ ((SqL X.K H p ys ∧ NewT H ys Q) ∨ (SqT X.K H p ys ∧ Q (.ref p) H))) := by
  intro pins s σ H xs us Q I r ⟨p, ys, ex, h⟩
  subst ex
  obtain ⟨u, eu, rx⟩ := vals1 r
  subst eu
  cases rx
  rcases h with ⟨hq, q⟩ | ⟨hq, q⟩
  · obtain ⟨its, r', pl, hz⟩ := I.list hq
    exact call_tuple_list pl.isList (fun h' kp => inv_tup (t := s.toks) I kp hz r' q) (by rw [List.size_toArray, ← r'.length]; exact hz)
  · obtain ⟨its, r', pl, hz⟩ := I.tuple hq
    exact call_tuple_same pl ⟨.ref p, H, I, rfl, q⟩
/-- tuple + tuple -/
theorem op_catX : OpR X (binaryOp .Add) (fun x y H Q => ∃ a b xs ys, x = .ref a ∧ y = .ref b ∧ SqT X.K H a xs ∧ SqT X.K H b ys ∧ xs.length + ys.length ≤ sizeLine ∧
    (xs = [] → Q (.ref b) H) ∧ (xs ≠ [] → ys = [] → Q (.ref a) H) ∧ (xs ≠ [] → ys ≠ [] → NewT H (xs ++ ys) Q)) := by
  intro pins s σ H x y v u Q I rx ry ⟨a, b, xs, ys, ex, ey, ha, hb, hz, q0, q1, q2⟩
  subst ex ey
  cases rx
  cases ry
  obtain ⟨its, r1, p1, _⟩ := I.tuple ha
  obtain ⟨its2, r2, p2, _⟩ := I.tuple hb
  by_cases hx : xs = []
  · subst hx
    cases r1
    exact cat_tup0 p1 p2 ⟨.ref b, H, I, rfl, q0 rfl⟩
  · have l1 := r1.length
    have l2 := r2.length
    refine cat_tup p1 p2 (fun z => hx (r1.nil_iff.mp z)) (fun z => ⟨.ref a, H, I, rfl, q1 hx (r2.nil_iff.mp z)⟩) (fun z => ?_) (by rw [← l1, ← l2]; exact hz)
    exact inv_tup (t := s.toks) I (fun b o z => z) (by rw [List.length_append]; exact hz) (r1.append r2) (q2 hx fun e => z (r2.nil_iff.mpr e))
/-- a slice of a tuple -/
theorem sl_tupX : SlR X (fun x lo hi H Q => ∃ a xs, x = .ref a ∧ SqT X.K H a xs ∧
    (HT.sIx xs.length 0 lo = 0 ∧ HT.sIx xs.length xs.length hi = xs.length → Q (.ref a) H) ∧ (¬ (HT.sIx xs.length 0 lo = 0 ∧ HT.sIx xs.length xs.length hi = xs.length) → NewT H (cutV xs lo hi) Q)) := by
  intro pins s σ H x v vl vu lo hi sl Q I rx hs pl pu ⟨a, xs, ex, hx, q1, q2⟩
  subst ex
  cases rx
  obtain ⟨its, r, ht, hz⟩ := I.tuple hx
  have hlen : its.toArray.size = xs.length := by rw [List.size_toArray]; exact r.length.symm
  by_cases hw : HT.sIx xs.length 0 lo = 0 ∧ HT.sIx xs.length xs.length hi = xs.length
  · exact ⟨"tuple", _, PyProof.Rows.slot_tuple_getitem.lookup, ht.typeIs, getItem_tuple_whole ht hs pl pu (by rw [hlen]; exact hw) ⟨.ref a, H, I, rfl, q1 hw⟩⟩
  · refine ⟨"tuple", _, PyProof.Rows.slot_tuple_getitem.lookup, ht.typeIs, HT.getItem_tuple_cut ht hs pl pu (by rw [hlen]; exact hw) ?_ (by rw [hlen]; exact hz)⟩
    rw [hlen]
    exact inv_tup (t := s.toks) I (fun b o z => z) (Nat.le_trans (cutV_length xs lo hi) hz) ((r.drop (HT.sIx xs.length 0 lo)).take (HT.sIx xs.length xs.length hi - HT.sIx xs.length 0 lo)) (q2 hw)
/-- tuple(range(..)) -/
theorem pe_tupRgX {e : Expr} {te : L2.St → Hp → (Int → Int → Hp → Prop) → Prop} {p pos : Pos} (hc : X.calm = true) (hg : Gl X "tuple") (hm : X.mg "tuple" = none) (he : PRg X e te) (na : starEach [e] X.env = (false, eval e X.env) :: starEach [] X.env := by rfl) :
    PE X (.Call (.Name "tuple" p) [e] [] pos) (fun σ H Q => te σ H fun a b H1 => RgOk a b ∧ NewT H1 (rgV a b) Q) := by
  refine ⟨fun pins s σ H Q I h => ?_⟩
  refine Call_ (ld_blt I hg hm boot_tuple (PyProof.Rows.callWith_type1 (args_cons (thn (he pins s σ H _ I h) fun x s1 ⟨r, a, b, t, u, v, H1, ex, hr, I1, ok, q⟩ => args_nil ?_) na) na))
  subst ex
  obtain ⟨b1, b2, b3, b4, b5⟩ := ok
  refine call_tuple_range (n := (b - a).toNat) (I1.ok.hd hc) hr (small_one b1 b2 b3 b4) (rangeSize_nat a b) b5 fun h' tk acc hk hi => ?_
  have := inv_tup (t := tk) I1 hk (its := acc.toList) (by rw [rgV_length, sizeLine_eq]; omega) (vals_rg hi) q
  simpa [tobj] using this

/-! ### t[::-1] -/
theorem rev_parts {prog : Program} {w : World} {A : Around} {E : Value → Shared → Prop} {sl : Addr} {t : Tok} {n : Nat} {Q : Int × Int × Nat → Shared → Prop} (hs : s.heap.IsSliceOf sl .none .none (.int (-1) t)) (h : Q ((n : Int) - 1, -1, n) s) :
    wpAny (model prog w) A (Builtin.Slice.sliceApplied (.ref sl) (pure (n : Int))) Q E s := by
  obtain ⟨os, hos, hcs, hds⟩ := id hs
  unfold Builtin.Slice.sliceApplied Builtin.Slice.sliceFields
  refine wpAny_bind (wpAny_bind (wpAny_field hos hds (x := .none) rfl (wpAny_bind (wpAny_field hos hds (x := .none) rfl (wpAny_bind (wpAny_field hos hds (x := .int (-1) t) rfl (wpAny_pure ?_)))))))
  refine wpAny_bind (slicePart_int ?_)
  show wpAny _ _ (if ((-1 : Int) == 0) = true then _ else _) _ _ s
  rw [if_neg (by decide)]
  refine wpAny_bind (slicePart_none (wpAny_bind (slicePart_none (wpAny_bind (wpAny_pure ?_)))))
  have e1 : Builtin.Slice.sliceAdjust none none (-1) (n : Int) = ((n : Int) - 1, -1) := rfl
  have e2 : Builtin.Slice.slicePlaces ((n : Int) - 1) (-1) (-1) = n := by
    unfold Builtin.Slice.slicePlaces
    rw [if_neg (by decide), show (-(-1 : Int)) = 1 from rfl, Int.ediv_one]
    split <;> omega
  show wpAny _ _ (match Builtin.Slice.sliceAdjust none none (-1) (n : Int) with | (lo, hi) => pure (lo, (-1 : Int), Builtin.Slice.slicePlaces lo hi (-1))) _ _ s
  rw [e1]
  show wpAny _ _ (pure ((n : Int) - 1, (-1 : Int), Builtin.Slice.slicePlaces ((n : Int) - 1) (-1) (-1))) _ _ s
  rw [e2]
  exact wpAny_pure h
theorem fm_congr {α β : Type} {f g : α → Option β} : ∀ {l : List α}, (∀ a ∈ l, f a = g a) → l.filterMap f = l.filterMap g
  | [], _ => rfl
  | a :: l, h => by
    have ih := fm_congr (l := l) fun b hb => h b (List.mem_cons_of_mem _ hb)
    have ha := h a List.mem_cons_self
    simp only [List.filterMap_cons, ha, ih]
theorem pick_rev {α : Type} (xs : List α) : ((List.range xs.length).filterMap fun (m : Nat) => xs[(((xs.length : Int) - 1) + (m : Int) * (-1)).toNat]?) = xs.reverse := by
  have e : ∀ m ∈ List.range xs.length, xs[(((xs.length : Int) - 1) + (m : Int) * (-1)).toNat]? = xs.reverse[m]? := by
    intro m hm
    rw [List.mem_range] at hm
    rw [List.getElem?_reverse hm]
    congr 1
    omega
  rw [fm_congr e]
  have : (List.range xs.reverse.length).filterMap (fun m => xs.reverse[m]?) = xs.reverse := by
    have := PySem.W.krv_all xs.reverse.toArray
    simpa using this
  simpa using this
theorem getItem_rev {prog : Program} {w : World} {A : Around} {E : Value → Shared → Prop} {t sl : Addr} {items : List Value} {k : Tok} {Q : Value → Shared → Prop} (ht : IsTup s.heap t items.toArray) (hs : s.heap.IsSliceOf sl .none .none (.int (-1) k))
    (h : Q (.ref s.heap.objs.size) { s with heap := s.heap.push (tobj items.reverse) }) (hsz : items.length ≤ sizeLine) : wpAny (model prog w) A (getItem (.ref t) (.ref sl)) Q E s := by
  have hr : sizeOk (.seq items.reverse.toArray) := by
    show items.reverse.toArray.size ≤ sizeLine
    rw [List.size_toArray, List.length_reverse]
    exact hsz
  obtain ⟨os, hos, hcs, hds⟩ := id hs
  have hTs : s.TypeIs (.ref sl) "slice" := ⟨os, hos, hcs⟩
  unfold getItem
  try with_reducible refine wpAny_holding ?_
  first | refine wpAny_bind (wpAny_pure ?_) | skip
  refine wpAny_bind (wpAny_sequenceKey ht.typeIs (by decide) ?_)
  refine wpAny_bind (wpAny_callSpecial?_slot (name := Str.ofString "__getitem__") ht.typeIs PyProof.Rows.slot_tuple_getitem
    (wpAny_call_entry PyProof.Rows.slot_tuple_getitem ht.typeIs entry_tuple_getitem ?_ (args_tuple_getitem _ _)))
  show wpAny _ _ (Builtin.Tuple.tupleItemsOf (.ref t) >>= _) _ _ s
  refine wpAny_bind (tupleItemsOf_ ht ?_)
  refine wpAny_bind (wpAny_typeOf hTs ?_)
  rw [if_pos (by decide)]
  refine wpAny_bind (rev_parts hs ?_)
  have hno : ¬ ((((items.toArray.size : Int) - 1) == 0 && (-1 : Int) == 1 && items.toArray.size == items.toArray.size) = true) := by
    rw [Bool.and_eq_true, Bool.and_eq_true]
    rintro ⟨⟨_, z⟩, _⟩
    exact absurd z (by decide)
  show wpAny _ _ (if ((((items.toArray.size : Int) - 1) == 0 && (-1 : Int) == 1 && items.toArray.size == items.toArray.size) = true) then _ else _) _ _ s
  have ep : ((List.range items.toArray.size).filterMap fun (m : Nat) => items.toArray[(((items.toArray.size : Int) - 1) + (m : Int) * (-1)).toNat]?).toArray = items.reverse.toArray := by
    have := pick_rev items
    simp only [List.size_toArray, List.getElem?_toArray]
    rw [this]
  rw [if_neg hno, ep]
  first
    | exact wpAny_bind (m := Builtin.Tuple.tupleExact _) (wpAny_newObj_type (wpAny_pure ⟨_, rfl, wpAny_pure h⟩) hr)
    | exact wpAny_bind (m := Builtin.Tuple.tupleExact _) (wpAny_newObj_type (wpAny_bind (wpAny_pure (wpAny_pure ⟨_, rfl, wpAny_pure h⟩))) hr)
    | exact wpAny_bind (wpAny_bind (m := Builtin.Tuple.tupleExact _) (wpAny_newObj_type (wpAny_pure (wpAny_pure ⟨_, rfl, wpAny_pure h⟩)) hr))
    | exact wpAny_bind (wpAny_bind (m := Builtin.Tuple.tupleExact _) (wpAny_newObj_type (wpAny_pure ⟨_, rfl, wpAny_pure h⟩) hr))
/-- x[::-1] of a list or a tuple -/
theorem pe_revX {e : Expr} {te : TE} {k : Nat} {p1 p2 p3 pos : Pos} (he : PE X e te) : PE X (.Subscript e (.Slice none none (some (.UnaryOp .USub (.Constant (.int 1) k p1) p2)) p3) pos)
    (fun σ H Q => te σ H fun x H1 => ∃ a xs, x = .ref a ∧ ((SqL X.K H1 a xs ∧ ∀ p, H1 p = none → Q (.ref p) (upd H1 p (.lst xs.reverse))) ∨ (SqT X.K H1 a xs ∧ NewT H1 xs.reverse Q))) := by
  refine ⟨fun pins s σ H Q I h => ?_⟩
  refine Subscript_ (thn (he.run pins s σ H _ I h) fun v s1 ⟨x, H1, I1, r1, a, xs, ex, q1⟩ => ?_)
  subst ex
  cases r1
  have hst : PO X (some (.UnaryOp .USub (.Constant (.int 1) k p1) p2)) (tPart (tUn (rU fun i => .int (-i)) (tC (.int 1)))) := po_some (pe_un un_neg pe_int)
  refine wpAny_Slice (thn (po_none.run pins s1 σ H1 (fun o H2 => o = none ∧ H2 = H1) I1 ⟨rfl, rfl⟩) fun vl s2 ⟨l, H2, I2, pl, el, e2⟩ => ?_)
  subst el e2
  refine thn (po_none.run pins s2 σ H2 (fun o H3 => o = none ∧ H3 = H2) I2 ⟨rfl, rfl⟩) fun vu s3 ⟨u, H3, I3, pu, eu, e3⟩ => ?_
  subst eu e3
  refine thn (hst.run pins s3 σ H3 (fun o H4 => o = some (-1) ∧ H4 = H3) I3 ⟨1, rfl, -1, rfl, rfl, rfl⟩) fun vs s4 ⟨o, H4, I4, ps, eo, e4⟩ => ?_
  subst eo e4
  have I5 : Inv X pins σ H4 { s4 with heap := s4.heap.push { cls := .type "slice", data := .fields #[vl, vu, vs] } } := I4.kept (t' := s4.toks) fun b ob q => Heap.get?_push_of_some _ q
  show wpAny (model X.prog X.w) X.A (subscriptTail e (.Slice none none (some (.UnaryOp .USub (.Constant (.int 1) k p1) p2)) p3) (.ref a) (.ref s4.heap.objs.size)) (EP X pins σ Q) X.xe { s4 with heap := s4.heap.push { cls := .type "slice", data := .fields #[vl, vu, vs] } }
  rcases q1 with ⟨hx, q⟩ | ⟨hx, q⟩
  · obtain ⟨its, r, ht, hz⟩ := I5.list hx
    have hlen := r.length
    refine tail_any (ops := [.ref a, .ref s4.heap.objs.size]) ht.isList.typeIs (PySem.slot_list_getitem.lookup) ?_ (by with_unfolding_all rfl)
    refine wpAny_getItem_list_slice ht.isList (Heap.IsSliceOf.new _ vl vu vs) pl pu ps (by decide) ?_ (by rw [List.size_toArray]; omega)
    rw [PySem.W.krv_pick]
    exact ⟨.ref _, _, I5.laid (t' := s4.toks) (o := .lst xs.reverse) (fun b ob q => Heap.get?_push_of_some _ q) (Nat.le_refl _) ⟨by rw [List.length_reverse]; exact hz, _, 0, r.reverse, Heap.get?_push_size _ rfl⟩, rfl, q _ (I5.hok.fresh (Nat.le_refl _))⟩
  · obtain ⟨its, r, ht, hz⟩ := I5.tuple hx
    have hlen := r.length
    cases pl
    cases pu
    cases ps with
    | int i t =>
      refine tail_any (ops := [.ref a, .ref s4.heap.objs.size]) ht.typeIs (PyProof.Rows.slot_tuple_getitem.lookup) ?_ (by with_unfolding_all rfl)
      exact getItem_rev ht (Heap.IsSliceOf.new _ .none .none (.int (-1) t)) (inv_tup (t := s4.toks) I5 (fun b o z => z) (by rw [List.length_reverse]; exact hz) r.reverse q) (by omega)
end
end MM

end

section
set_option maxRecDepth 100000
set_option maxHeartbeats 4000000
/-! Mini machine: how its data stand in the model's heap. -/
namespace MM
open PySem PySem.Spec PyProof.Rows L2

theorem cap_line : cap = sizeLine := by decide

/-- f: the frozen lists; p: lists being made, which nothing names -/
structure FP where
  f : Addr → Prop
  p : Addr → Prop
def FP.add (F : FP) (a : Addr) : FP := ⟨fun b => F.f b ∨ b = a, F.p⟩
def FP.hold (F : FP) (a : Addr) : FP := ⟨F.f, fun b => F.p b ∨ b = a⟩

mutual
/-- data d stand as value v: m the mutable objects' addresses, F the frozen lists -/
inductive RD (K : PySem.W.Frag) (m : List Addr) (F : FP) (H : Hp) : D → V → Prop
  | non : RD K m F H .non .non
  | bl (b : Bool) : RD K m F H (.bl b) (.bl b)
  | int (i : Int) : RD K m F H (.int i) (.int i)
  | str (x : Str) : RD K m F H (.str x) (.str x)
  | tup {a : Addr} {vs : List V} {xs : List D} : TupX H a vs → vs.length ≤ cap → RDs K m F H xs vs → RD K m F H (.tup xs) (.ref a)
  | lst {a : Addr} {vs : List V} {xs : List D} : F.f a → H a = some (.lst vs) → vs.length ≤ cap → RDs K m F H xs vs → RD K m F H (.lst xs) (.ref a)
  | scrF {a : Addr} {ns : List Int} {o : Obj} : H a = some (.frz o (.lst (ns.map V.int))) → ns.length ≤ cap → RD K m F H (.scr ns) (.ref a)
  | scrK {a : Addr} {ns : List Int} : (∀ H', SqL K H' a (ns.map V.int)) → ns.length ≤ cap → RD K m F H (.scr ns) (.ref a)
  | ref {n : Nat} {a : Addr} : m[n]? = some a → RD K m F H (.ref n) (.ref a)
inductive RDs (K : PySem.W.Frag) (m : List Addr) (F : FP) (H : Hp) : List D → List V → Prop
  | nil : RDs K m F H [] []
  | cons {d : D} {ds : List D} {v : V} {vs : List V} : RD K m F H d v → RDs K m F H ds vs → RDs K m F H (d :: ds) (v :: vs)
end

/-- what never changes -/
def imm : HO → Bool
  | .tup _ => true
  | .frz _ _ => true
  | _ => false
/-- how worlds grow -/
structure Gro (m : List Addr) (F : FP) (H : Hp) (m' : List Addr) (F' : FP) (H' : Hp) : Prop where
  pre : ∀ (n : Nat) a, m[n]? = some a → m'[n]? = some a
  fro : ∀ a, F.f a → F'.f a
  pro : F'.p = F.p
  keep : ∀ a u, H a = some u → (imm u = true ∨ F.f a ∨ F.p a) → H' a = some u

section
variable {K : PySem.W.Frag} {m m' m'' : List Addr} {F F' F'' : FP} {H H' H'' : Hp}
theorem Gro.refl : Gro m F H m F H := ⟨fun _ _ h => h, fun _ h => h, rfl, fun _ _ h _ => h⟩
theorem Gro.trans (a : Gro m F H m' F' H') (b : Gro m' F' H' m'' F'' H'') : Gro m F H m'' F'' H'' :=
  ⟨fun n x h => b.pre n x (a.pre n x h), fun x h => b.fro x (a.fro x h), b.pro.trans a.pro, fun x u h i => b.keep x u (a.keep x u h i) (i.imp id fun j => j.imp (a.fro x) fun z => by rw [a.pro]; exact z)⟩
theorem Gro.tupX (g : Gro m F H m' F' H') {a : Addr} {vs : List V} (h : TupX H a vs) : TupX H' a vs :=
  let ⟨o, e, d⟩ := h
  ⟨o, g.keep _ _ e (.inl rfl), d⟩
mutual
theorem RD.mono (g : Gro m F H m' F' H') : ∀ {d : D} {v : V}, RD K m F H d v → RD K m' F' H' d v
  | _, _, .non => .non
  | _, _, .bl b => .bl b
  | _, _, .int i => .int i
  | _, _, .str x => .str x
  | _, _, .tup h l r => .tup (g.tupX h) l (RDs.mono g r)
  | _, _, .lst f h l r => .lst (g.fro _ f) (g.keep _ _ h (.inr (.inl f))) l (RDs.mono g r)
  | _, _, .scrF h l => .scrF (g.keep _ _ h (.inl rfl)) l
  | _, _, .scrK h l => .scrK h l
  | _, _, .ref h => .ref (g.pre _ _ h)
theorem RDs.mono (g : Gro m F H m' F' H') : ∀ {ds : List D} {vs : List V}, RDs K m F H ds vs → RDs K m' F' H' ds vs
  | _, _, .nil => .nil
  | _, _, .cons h t => .cons (RD.mono g h) (RDs.mono g t)
end
mutual
/-- other lists being made do not matter -/
theorem RD.reF (hF : ∀ a, F.f a → F'.f a) : ∀ {d : D} {v : V}, RD K m F H d v → RD K m F' H d v
  | _, _, .non => .non
  | _, _, .bl b => .bl b
  | _, _, .int i => .int i
  | _, _, .str x => .str x
  | _, _, .tup h l r => .tup h l (RDs.reF hF r)
  | _, _, .lst f h l r => .lst (hF _ f) h l (RDs.reF hF r)
  | _, _, .scrF h l => .scrF h l
  | _, _, .scrK h l => .scrK h l
  | _, _, .ref h => .ref h
theorem RDs.reF (hF : ∀ a, F.f a → F'.f a) : ∀ {ds : List D} {vs : List V}, RDs K m F H ds vs → RDs K m F' H ds vs
  | _, _, .nil => .nil
  | _, _, .cons h t => .cons (RD.reF hF h) (RDs.reF hF t)
end
theorem RDs.length : ∀ {ds : List D} {vs : List V}, RDs K m F H ds vs → ds.length = vs.length
  | _, _, .nil => rfl
  | _, _, .cons _ t => congrArg (· + 1) (RDs.length t)
theorem RDs.get : ∀ {ds : List D} {vs : List V} {i : Nat} {d : D}, RDs K m F H ds vs → ds[i]? = some d → ∃ v, vs[i]? = some v ∧ RD K m F H d v
  | _, _, _, _, .nil, e => by simp at e
  | _, _, 0, d, .cons h _, e => by
    simp at e
    subst e
    exact ⟨_, rfl, h⟩
  | _, _, i + 1, d, .cons _ t, e => by
    obtain ⟨v, h1, h2⟩ := RDs.get (i := i) t (by simpa using e)
    exact ⟨v, by simpa using h1, h2⟩
theorem RDs.append : ∀ {ds es : List D} {vs ws : List V}, RDs K m F H ds vs → RDs K m F H es ws → RDs K m F H (ds ++ es) (vs ++ ws)
  | _, _, _, _, .nil, r => r
  | _, _, _, _, .cons h t, r => .cons h (RDs.append t r)
theorem RDs.drop : ∀ {ds : List D} {vs : List V} (n : Nat), RDs K m F H ds vs → RDs K m F H (ds.drop n) (vs.drop n)
  | _, _, 0, h => h
  | _, _, _ + 1, .nil => .nil
  | _, _, n + 1, .cons _ t => RDs.drop n t
theorem RDs.take : ∀ {ds : List D} {vs : List V} (n : Nat), RDs K m F H ds vs → RDs K m F H (ds.take n) (vs.take n)
  | _, _, 0, _ => .nil
  | _, _, _ + 1, .nil => .nil
  | _, _, n + 1, .cons h t => .cons h (RDs.take n t)
theorem RDs.reverse : ∀ {ds : List D} {vs : List V}, RDs K m F H ds vs → RDs K m F H ds.reverse vs.reverse
  | _, _, .nil => .nil
  | _, _, .cons h t => by
    rw [List.reverse_cons, List.reverse_cons]
    exact (RDs.reverse t).append (.cons h .nil)
theorem RDs.set : ∀ {ds : List D} {vs : List V} (n : Nat) {d : D} {v : V}, RDs K m F H ds vs → RD K m F H d v → RDs K m F H (ds.set n d) (vs.set n v)
  | _, _, _, _, _, .nil, _ => .nil
  | _, _, 0, _, _, .cons _ t, r => .cons r t
  | _, _, n + 1, _, _, .cons h t, r => .cons h (RDs.set n t r)
theorem RDs.eraseIdx : ∀ {ds : List D} {vs : List V} (n : Nat), RDs K m F H ds vs → RDs K m F H (ds.eraseIdx n) (vs.eraseIdx n)
  | _, _, _, .nil => .nil
  | _, _, 0, .cons _ t => t
  | _, _, n + 1, .cons h t => .cons h (RDs.eraseIdx n t)
theorem RDs.dropLast : ∀ {ds : List D} {vs : List V}, RDs K m F H ds vs → RDs K m F H ds.dropLast vs.dropLast
  | _, _, .nil => .nil
  | _, _, .cons h .nil => .nil
  | _, _, .cons h (.cons h2 t) => .cons h (RDs.dropLast (.cons h2 t))
theorem RDs.ints : ∀ {ds : List D} {vs : List V} {is : List Int}, RDs K m F H ds vs → asInts ds = some is → vs = is.map V.int
  | _, _, _, .nil, e => by
    simp [asInts] at e
    subst e
    rfl
  | d :: ds, _, is, .cons h t, e => by
    cases d with
    | int i =>
      cases h
      simp [asInts] at e
      obtain ⟨js, e1, e2⟩ := e
      subst e2
      rw [RDs.ints t e1]
      rfl
    | _ => simp [asInts] at e
theorem RDs.of_ints : ∀ (is : List Int), RDs K m F H (is.map .int) (is.map V.int)
  | [] => .nil
  | i :: r => .cons (.int i) (RDs.of_ints r)
theorem RDs.bools : ∀ {ds : List D} {vs : List V} {bs : List Bool}, RDs K m F H ds vs → MM.bools ds = some bs → vs = bs.map V.bl
  | _, _, _, .nil, e => by
    simp [MM.bools] at e
    subst e
    rfl
  | d :: ds, _, is, .cons h t, e => by
    cases d with
    | bl i =>
      cases h
      simp [MM.bools] at e
      obtain ⟨js, e1, e2⟩ := e
      subst e2
      rw [RDs.bools t e1]
      rfl
    | _ => simp [MM.bools] at e
end

/-- an object of the Mini machine as it stands -/
def RO (K : PySem.W.Frag) (m : List Addr) (F : FP) (H : Hp) : O → Addr → Prop
  | .lst xs, a => ∃ vs, H a = some (.lst vs) ∧ vs.length ≤ cap ∧ RDs K m F H xs vs
  | .dct kvs, a => ∃ kv : List (Key × V), H a = some (.dK kv) ∧ kv.length ≤ cap ∧ Paired (fun (p : D × D) (q : Key × V) => (∃ i, p.1 = .int i ∧ q.1 = .inl i) ∧ RD K m F H p.2 q.2) kvs kv
/-- the state as it stands -/
structure RSt (K : PySem.W.Frag) (m : List Addr) (F : FP) (H : Hp) (st : St) : Prop where
  len : m.length = st.length
  inj : m.Nodup
  frf : ∀ a, F.f a → ∃ u, H a = some u
  sep : ∀ (n : Nat) a, m[n]? = some a → ¬ F.f a
  prt : ∀ a, F.p a → (∃ u, H a = some u) ∧ a ∉ m ∧ ¬ F.f a
  obj : ∀ (n : Nat) o a, st[n]? = some o → m[n]? = some a → RO K m F H o a
/-- the slots as they stand -/
structure REnv (K : PySem.W.Frag) (m : List Addr) (F : FP) (H : Hp) (ρ : Rho) (σ : L2.St) : Prop where
  len : ρ.length = σ.length
  get : ∀ (i : Nat) d, ρ[i]? = some (some d) → ∃ v, σ[i]? = some (some v) ∧ RD K m F H d v
section
variable {K : PySem.W.Frag} {m m' m'' : List Addr} {F F' F'' : FP} {H H' H'' : Hp} {ρ : Rho} {σ : L2.St} {st : St}
theorem REnv.mono (r : REnv K m F H ρ σ) (g : Gro m F H m' F' H') : REnv K m' F' H' ρ σ :=
  ⟨r.len, fun i d e => let ⟨v, h1, h2⟩ := r.get i d e; ⟨v, h1, h2.mono g⟩⟩
theorem REnv.set (r : REnv K m F H ρ σ) {i : Nat} {d : D} {v : V} (h : RD K m F H d v) : REnv K m F H (ρ.set i (some d)) (σ.set i (some v)) := by
  refine ⟨by rw [List.length_set, List.length_set]; exact r.len, fun j e q => ?_⟩
  by_cases hij : i = j
  · subst hij
    by_cases hl : i < ρ.length
    · rw [List.getElem?_set_self hl] at q
      cases q
      exact ⟨v, List.getElem?_set_self (by rw [← r.len]; exact hl), h⟩
    · rw [List.getElem?_eq_none (by rw [List.length_set]; omega)] at q
      cases q
  · rw [List.getElem?_set_ne hij] at q
    obtain ⟨w, h1, h2⟩ := r.get j e q
    exact ⟨w, by rw [List.getElem?_set_ne hij]; exact h1, h2⟩
theorem wipeR_len (ρ : Rho) : ∀ l, (wipeR ρ l).length = ρ.length
  | [] => rfl
  | i :: r => by rw [wipeR, List.length_set, wipeR_len ρ r]
theorem REnv.wipe (r : REnv K m F H ρ σ) : ∀ l : List Nat, REnv K m F H (wipeR ρ l) (L2.wipe σ l)
  | [] => r
  | i :: l => by
    have ih := r.wipe l
    refine ⟨by rw [wipeR, L2.wipe, List.length_set, List.length_set]; exact ih.len, fun j e q => ?_⟩
    rw [wipeR] at q
    rw [L2.wipe]
    by_cases hij : i = j
    · subst hij
      by_cases hl : i < (wipeR ρ l).length
      · rw [List.getElem?_set_self hl] at q
        cases q
      · rw [List.getElem?_eq_none (by rw [List.length_set]; omega)] at q
        cases q
    · rw [List.getElem?_set_ne hij] at q
      obtain ⟨w, h1, h2⟩ := ih.get j e q
      exact ⟨w, by rw [List.getElem?_set_ne hij]; exact h1, h2⟩

/-- a new immutable object (a tuple): nothing else changes -/
theorem gro_upd {p : Addr} {u : HO} (hp : H p = none) : Gro m F H m F (upd H p u) :=
  ⟨fun _ _ h => h, fun _ h => h, rfl, fun a w h _ => by rw [upd_ne (ne_of_none h hp)]; exact h⟩
theorem RO.mono {o : O} {a : Addr} (g : Gro m F H m' F' H') (h : RO K m F H o a) (ha : H' a = H a) : RO K m' F' H' o a := by
  cases o with
  | lst xs =>
    obtain ⟨vs, h1, h2, h3⟩ := h
    exact ⟨vs, ha.trans h1, h2, h3.mono g⟩
  | dct kvs =>
    obtain ⟨vs, h1, h2, h3⟩ := h
    exact ⟨vs, ha.trans h1, h2, Paired.mapP h3 fun p q z => ⟨z.1, z.2.mono g⟩⟩
theorem RO.reF (hF : ∀ a, F.f a → F'.f a) {o : O} {a : Addr} (h : RO K m F H o a) : RO K m F' H o a := by
  cases o with
  | lst xs =>
    obtain ⟨vs, h1, h2, h3⟩ := h
    exact ⟨vs, h1, h2, h3.reF hF⟩
  | dct kvs =>
    obtain ⟨vs, h1, h2, h3⟩ := h
    exact ⟨vs, h1, h2, Paired.mapP h3 fun p q z => ⟨z.1, z.2.reF hF⟩⟩
theorem RO.there {o : O} {a : Addr} (h : RO K m F H o a) : ∃ u, H a = some u ∧ imm u = false := by
  cases o with
  | lst xs => obtain ⟨vs, h1, _⟩ := h; exact ⟨_, h1, rfl⟩
  | dct kvs => obtain ⟨vs, h1, _⟩ := h; exact ⟨_, h1, rfl⟩
theorem RSt.at (r : RSt K m F H st) {n : Nat} {o : O} (h : st[n]? = some o) : ∃ a, m[n]? = some a ∧ RO K m F H o a := by
  have hn : n < st.length := (List.getElem?_eq_some_iff.mp h).1
  have hm : n < m.length := by rw [r.len]; exact hn
  exact ⟨m[n], List.getElem?_eq_getElem hm, r.obj n o _ h (List.getElem?_eq_getElem hm)⟩
/-- a mutable object's address is tracked -/
theorem RSt.tracked (r : RSt K m F H st) {n : Nat} {a : Addr} (h : m[n]? = some a) : ∃ u, H a = some u ∧ imm u = false := by
  have hn : n < m.length := (List.getElem?_eq_some_iff.mp h).1
  have hs : n < st.length := by rw [← r.len]; exact hn
  exact (r.obj n st[n] a (List.getElem?_eq_getElem hs) h).there
theorem ne_tr {p a : Addr} (hp : H p = none) (h : ∃ u, H a = some u) : a ≠ p := by
  obtain ⟨u, e⟩ := h
  exact ne_of_none e hp
/-- behind a new tuple or the like -/
theorem RSt.upd (r : RSt K m F H st) {p : Addr} {u : HO} (hp : H p = none) : RSt K m F (L2.upd H p u) st := by
  refine ⟨r.len, r.inj, fun a h => ?_, r.sep, fun a h => ?_, fun n o a h1 h2 => ?_⟩
  · rw [upd_ne (ne_tr hp (r.frf a h))]
    exact r.frf a h
  · obtain ⟨h1, h2, h3⟩ := r.prt a h
    rw [upd_ne (ne_tr hp h1)]
    exact ⟨h1, h2, h3⟩
  · have q := r.obj n o a h1 h2
    obtain ⟨w, e, _⟩ := q.there
    exact q.mono (gro_upd hp) (upd_ne (ne_of_none e hp))
/-- what nobody knows -/
structure Fre (m : List Addr) (F : FP) (a : Addr) : Prop where
  m : a ∉ m
  f : ¬ F.f a
  p : ¬ F.p a
theorem RSt.fre (r : RSt K m F H st) {p : Addr} (hp : H p = none) : Fre m F p := by
  refine ⟨fun z => ?_, fun z => ne_tr hp (r.frf p z) rfl, fun z => ne_tr hp (r.prt p z).1 rfl⟩
  obtain ⟨n, hn⟩ := List.mem_iff_getElem?.mp z
  obtain ⟨u, e, _⟩ := r.tracked hn
  rw [hp] at e
  cases e
theorem gro_freeze {p : Addr} : Gro m F H m (F.add p) H := ⟨fun _ _ h => h, fun _ h => .inl h, rfl, fun _ _ h _ => h⟩
/-- a list that no one knows yet is frozen -/
theorem RSt.freeze (r : RSt K m F H st) {p : Addr} {u : HO} (hp : H p = some u) (hm : Fre m F p) : RSt K m (F.add p) H st := by
  refine ⟨r.len, r.inj, fun a h => ?_, fun n a h1 h2 => ?_, fun a h => ?_, fun n o a h1 h2 => (r.obj n o a h1 h2).mono gro_freeze rfl⟩
  · rcases h with h | h
    · exact r.frf a h
    · subst h; exact ⟨u, hp⟩
  · rcases h2 with h2 | h2
    · exact r.sep n a h1 h2
    · subst h2
      exact hm.m (List.mem_of_getElem? h1)
  · obtain ⟨h1, h2, h3⟩ := r.prt a h
    refine ⟨h1, h2, fun z => ?_⟩
    rcases z with z | z
    · exact h3 z
    · subst z; exact hm.p h
/-- a new list, frozen -/
theorem RSt.updF (r : RSt K m F H st) {p : Addr} {u : HO} (hp : H p = none) : RSt K m (F.add p) (L2.upd H p u) st := (r.upd hp).freeze upd_same (r.fre hp)
/-- .. becomes an object of the Mini machine -/
theorem gro_push {p : Addr} : Gro m F H (m ++ [p]) F H :=
  ⟨fun n a h => by rw [List.getElem?_append_left (List.getElem?_eq_some_iff.mp h).1]; exact h, fun _ h => h, rfl, fun _ _ h _ => h⟩
theorem RSt.push (r : RSt K m F H st) {p : Addr} {o : O} (hm : Fre m F p) (ho : RO K m F H o p) : RSt K (m ++ [p]) F H (st ++ [o]) := by
  refine ⟨by rw [List.length_append, List.length_append, r.len]; rfl, ?_, r.frf, fun n a h => ?_, fun a h => ?_, fun n o' a h1 h2 => ?_⟩
  · rw [List.nodup_append]
    refine ⟨r.inj, by simp, fun a ha b hb e => ?_⟩
    have : b = p := by simpa using hb
    exact hm.m (this ▸ e ▸ ha)
  · by_cases hn : n < m.length
    · rw [List.getElem?_append_left hn] at h
      exact r.sep n a h
    · rw [List.getElem?_append_right (by omega)] at h
      have : n - m.length = 0 := by
        by_cases z : n - m.length = 0
        · exact z
        · rw [List.getElem?_eq_none (by simp; omega)] at h
          cases h
      rw [this] at h
      cases h
      exact hm.f
  · obtain ⟨h1, h2, h3⟩ := r.prt a h
    refine ⟨h1, fun z => ?_, h3⟩
    rcases List.mem_append.mp z with z | z
    · exact h2 z
    · have : a = p := by simpa using z
      subst this
      exact hm.p h
  · by_cases hn : n < m.length
    · rw [List.getElem?_append_left (by rw [← r.len]; exact hn)] at h1
      rw [List.getElem?_append_left hn] at h2
      exact (r.obj n o' a h1 h2).mono gro_push rfl
    · rw [List.getElem?_append_right (by omega)] at h2
      have : n - m.length = 0 := by
        by_cases z : n - m.length = 0
        · exact z
        · rw [List.getElem?_eq_none (by simp; omega)] at h2
          cases h2
      rw [this] at h2
      cases h2
      rw [List.getElem?_append_right (by rw [← r.len]; omega), ← r.len, this] at h1
      cases h1
      exact ho.mono gro_push rfl
/-- an object is written -/
theorem gro_write {n : Nat} {a : Addr} {u : HO} (r : RSt K m F H st) (h : m[n]? = some a) : Gro m F H m F (L2.upd H a u) := by
  refine ⟨fun _ _ h => h, fun _ h => h, rfl, fun b w e i => ?_⟩
  have : b ≠ a := by
    rintro rfl
    rcases i with i | i | i
    · obtain ⟨x, e1, e2⟩ := r.tracked h
      rw [e] at e1
      cases e1
      rw [i] at e2
      cases e2
    · exact r.sep n b h i
    · exact (r.prt b i).2.1 (List.mem_of_getElem? h)
  rw [upd_ne this]
  exact e
theorem RSt.write (r : RSt K m F H st) {n : Nat} {a : Addr} {u : HO} {o : O} (h : m[n]? = some a) (ho : RO K m F (L2.upd H a u) o a) : RSt K m F (L2.upd H a u) (st.set n o) := by
  have g := gro_write (u := u) r h
  refine ⟨by rw [List.length_set]; exact r.len, r.inj, fun b hb => ?_, r.sep, fun b hb => ?_, fun k o' b h1 h2 => ?_⟩
  · obtain ⟨w, e⟩ := r.frf b hb
    exact ⟨w, g.keep b w e (.inr (.inl hb))⟩
  · obtain ⟨⟨w, e⟩, h2, h3⟩ := r.prt b hb
    exact ⟨⟨w, g.keep b w e (.inr (.inr hb))⟩, h2, h3⟩
  · by_cases hk : n = k
    · subst hk
      have hl : n < st.length := by rw [← r.len]; exact (List.getElem?_eq_some_iff.mp h).1
      rw [List.getElem?_set_self hl] at h1
      cases h1
      rw [h] at h2
      cases h2
      exact ho
    · rw [List.getElem?_set_ne hk] at h1
      have ne : b ≠ a := by
        rintro rfl
        have h1' := (List.getElem?_eq_some_iff.mp h)
        have h2' := (List.getElem?_eq_some_iff.mp h2)
        obtain ⟨l1, e1⟩ := h1'
        obtain ⟨l2, e2⟩ := h2'
        exact hk ((List.getElem_inj r.inj).mp (e1.trans e2.symm))
      exact (r.obj k o' b h1 h2).mono g (upd_ne ne)

/-! ### a list being made -/
/-- the world of what runs meanwhile -/
theorem RSt.hold (r : RSt K m F H st) {p : Addr} {u : HO} (hp : H p = some u) (hm : Fre m F p) : RSt K m (F.hold p) H st := by
  have mv : ∀ {d v}, RD K m F H d v → RD K m (F.hold p) H d v := fun h => RD.reF (F := F) (F' := F.hold p) (fun _ z => z) h
  refine ⟨r.len, r.inj, r.frf, r.sep, fun a h => ?_, fun n o a h1 h2 => RO.reF (F := F) (F' := F.hold p) (fun _ z => z) (r.obj n o a h1 h2)⟩
  rcases h with h | h
  · exact r.prt a h
  · subst h
    exact ⟨⟨u, hp⟩, hm.m, hm.f⟩
end
end MM

end

section
set_option maxRecDepth 100000
set_option maxHeartbeats 4000000
/-! Mini machine: readings by evaluation; operators. -/
namespace MM
open PySem PySem.Spec PyProof.Rows L2

/-- a reading: what c gives -/
def T (K : PySem.W.Frag) (c : Rho → St → R D) : TE := fun σ H Q => ∃ ρ st m F d st', REnv K m F H ρ σ ∧ RSt K m F H st ∧ c ρ st = some (d, st') ∧
  ∀ v H' m' F', Gro m F H m' F' H' → RSt K m' F' H' st' → RD K m' F' H' d v → Q v H'
def TEs (K : PySem.W.Frag) (c : Rho → St → R (List D)) : TA := fun σ H Q => ∃ ρ st m F d st', REnv K m F H ρ σ ∧ RSt K m F H st ∧ c ρ st = some (d, st') ∧
  ∀ v H' m' F', Gro m F H m' F' H' → RSt K m' F' H' st' → RDs K m' F' H' d v → Q v H'
/-- a list just made -/
def TL (K : PySem.W.Frag) (c : Rho → St → R (List D)) : TE := fun σ H Q => ∃ ρ st m F d st', REnv K m F H ρ σ ∧ RSt K m F H st ∧ c ρ st = some (d, st') ∧
  ∀ a vs H' m' F', Gro m F H m' F' H' → RSt K m' F' H' st' → H' a = some (.lst vs) → vs.length ≤ cap → Fre m' F' a → RDs K m' F' H' d vs → Q (.ref a) H'
def TB (K : PySem.W.Frag) (c : Rho → St → R Bool) : TT := fun σ H Q => ∃ ρ st m F d st', REnv K m F H ρ σ ∧ RSt K m F H st ∧ c ρ st = some (d, st') ∧
  ∀ H' m' F', Gro m F H m' F' H' → RSt K m' F' H' st' → Q d H'
def TO_ (K : PySem.W.Frag) (c : Rho → St → R (Option Int)) : TO := fun σ H Q => ∃ ρ st m F d st', REnv K m F H ρ σ ∧ RSt K m F H st ∧ c ρ st = some (d, st') ∧
  ∀ H' m' F', Gro m F H m' F' H' → RSt K m' F' H' st' → Q d H'

section
variable {K : PySem.W.Frag} {m : List Addr} {F : FP} {H : Hp} {ρ : Rho} {σ : L2.St} {st st1 : St}
theorem T.use {c : Rho → St → R D} {d : D} {Q : VK} (r : REnv K m F H ρ σ) (s : RSt K m F H st) (e : c ρ st = some (d, st1))
    (k : ∀ v H1 m1 F1, Gro m F H m1 F1 H1 → REnv K m1 F1 H1 ρ σ → RSt K m1 F1 H1 st1 → RD K m1 F1 H1 d v → Q v H1) : T K c σ H Q :=
  ⟨ρ, st, m, F, d, st1, r, s, e, fun v H1 m1 F1 g s1 d1 => k v H1 m1 F1 g (r.mono g) s1 d1⟩
theorem TEs.use {c : Rho → St → R (List D)} {d : List D} {Q : List V → Hp → Prop} (r : REnv K m F H ρ σ) (s : RSt K m F H st) (e : c ρ st = some (d, st1))
    (k : ∀ v H1 m1 F1, Gro m F H m1 F1 H1 → REnv K m1 F1 H1 ρ σ → RSt K m1 F1 H1 st1 → RDs K m1 F1 H1 d v → Q v H1) : TEs K c σ H Q :=
  ⟨ρ, st, m, F, d, st1, r, s, e, fun v H1 m1 F1 g s1 d1 => k v H1 m1 F1 g (r.mono g) s1 d1⟩
theorem TL.use {c : Rho → St → R (List D)} {d : List D} {Q : VK} (r : REnv K m F H ρ σ) (s : RSt K m F H st) (e : c ρ st = some (d, st1))
    (k : ∀ a vs H1 m1 F1, Gro m F H m1 F1 H1 → REnv K m1 F1 H1 ρ σ → RSt K m1 F1 H1 st1 → H1 a = some (.lst vs) → vs.length ≤ cap → Fre m1 F1 a → RDs K m1 F1 H1 d vs → Q (.ref a) H1) : TL K c σ H Q :=
  ⟨ρ, st, m, F, d, st1, r, s, e, fun a vs H1 m1 F1 g s1 h1 h2 h3 d1 => k a vs H1 m1 F1 g (r.mono g) s1 h1 h2 h3 d1⟩
theorem TB.use {c : Rho → St → R Bool} {d : Bool} {Q : Bool → Hp → Prop} (r : REnv K m F H ρ σ) (s : RSt K m F H st) (e : c ρ st = some (d, st1))
    (k : ∀ H1 m1 F1, Gro m F H m1 F1 H1 → REnv K m1 F1 H1 ρ σ → RSt K m1 F1 H1 st1 → Q d H1) : TB K c σ H Q :=
  ⟨ρ, st, m, F, d, st1, r, s, e, fun H1 m1 F1 g s1 => k H1 m1 F1 g (r.mono g) s1⟩
theorem TO_.use {c : Rho → St → R (Option Int)} {d : Option Int} {Q : Option Int → Hp → Prop} (r : REnv K m F H ρ σ) (s : RSt K m F H st) (e : c ρ st = some (d, st1))
    (k : ∀ H1 m1 F1, Gro m F H m1 F1 H1 → REnv K m1 F1 H1 ρ σ → RSt K m1 F1 H1 st1 → Q d H1) : TO_ K c σ H Q :=
  ⟨ρ, st, m, F, d, st1, r, s, e, fun H1 m1 F1 g s1 => k H1 m1 F1 g (r.mono g) s1⟩
end
theorem _root_.L2.PE.imp {X : Cx} {e : Expr} {t t' : TE} (h : PE X e t) (i : ∀ σ H Q, t' σ H Q → t σ H Q) : PE X e t' := ⟨fun pins s σ H Q I q => h.run pins s σ H Q I (i σ H Q q)⟩
theorem _root_.L2.PT.imp {X : Cx} {e : Expr} {t t' : TT} (h : PT X e t) (i : ∀ σ H Q, t' σ H Q → t σ H Q) : PT X e t' := ⟨fun pins s σ H Q I q => h.run pins s σ H Q I (i σ H Q q)⟩
theorem _root_.L2.PA.imp {X : Cx} {e : List Expr} {t t' : TA} (h : PA X e t) (i : ∀ σ H Q, t' σ H Q → t σ H Q) : PA X e t' := ⟨fun pos pins s σ H Q I q => h.run pos pins s σ H Q I (i σ H Q q)⟩
theorem _root_.L2.PS.imp {X : Cx} {e : Stmt} {t t' : TS} (h : PS X e t) (i : ∀ D σ H, t' D σ H → t D σ H) : PS X e t' := ⟨fun pins s σ H D I q => h.run pins s σ H D I (i D σ H q)⟩
theorem _root_.L2.PSs.imp {X : Cx} {e : List Stmt} {t t' : TS} (h : PSs X e t) (i : ∀ D σ H, t' D σ H → t D σ H) : PSs X e t' := ⟨fun pins s σ H D I q => h.run pins s σ H D I (i D σ H q)⟩
theorem _root_.L2.PO.imp {X : Cx} {e : Option Expr} {t t' : TO} (h : PO X e t) (i : ∀ σ H Q, t' σ H Q → t σ H Q) : PO X e t' := ⟨fun pins s σ H Q I q => h.run pins s σ H Q I (i σ H Q q)⟩
theorem _root_.L2.PI.imp {X : Cx} {g e : Expr} {t t' : TI} (h : PI X g e t) (i : ∀ σ H Q, t' σ H Q → t σ H Q) : PI X g e t' := ⟨fun pins s σ H Q I q => h.run pins s σ H Q I (i σ H Q q)⟩
theorem _root_.L2.PG.imp {X : Cx} {g : Expr} {t t' : TG} (h : PG X g t) (i : ∀ v σ H Q, t' v σ H Q → t v σ H Q) : PG X g t' := ⟨fun pins s σ H v u Q I r q => h.run pins s σ H v u Q I r (i v σ H Q q)⟩
theorem _root_.L2.PE.or {X : Cx} {e : Expr} {t t' : TE} (h : PE X e t) (h' : PE X e t') : PE X e (fun σ H Q => t σ H Q ∨ t' σ H Q) :=
  ⟨fun pins s σ H Q I q => q.elim (h.run pins s σ H Q I) (h'.run pins s σ H Q I)⟩
theorem liftO_eq {α : Type} {st : St} {o : Option α} {r : α × St} (h : liftO st o = some r) : o = some r.1 ∧ r.2 = st := by
  cases o with
  | none => cases h
  | some a => cases h; exact ⟨rfl, rfl⟩

/-! ### two-place readings by values -/
/-- what f tells of two data -/
def rOf (K : PySem.W.Frag) (f : St → D → D → Option D) : R2 := fun x y H Q => ∃ m F st d e z, RSt K m F H st ∧ RD K m F H d x ∧ RD K m F H e y ∧ f st d e = some z ∧
  ∀ w H' m' F', Gro m F H m' F' H' → RSt K m' F' H' st → RD K m' F' H' z w → Q w H'
def rOf1 (K : PySem.W.Frag) (f : St → D → Option D) : V → Hp → VK → Prop := fun x H Q => ∃ m F st d z, RSt K m F H st ∧ RD K m F H d x ∧ f st d = some z ∧
  ∀ w H' m' F', Gro m F H m' F' H' → RSt K m' F' H' st → RD K m' F' H' z w → Q w H'
section
variable {K : PySem.W.Frag}
theorem T.op2 {ca cb : Rho → St → R D} {f : St → D → D → Option D} {σ : L2.St} {H : Hp} {Q : VK} (h : T K (fun ρ st => bnd (ca ρ st) fun x st => bnd (cb ρ st) fun y st => liftO st (f st x y)) σ H Q) :
    tOp (rOf K f) (T K ca) (T K cb) σ H Q := by
  obtain ⟨ρ, st, m, F, d, st', re, rs, e, k⟩ := h
  obtain ⟨x, st1, e1, e⟩ := bnd_eq e
  obtain ⟨y, st2, e2, e⟩ := bnd_eq e
  obtain ⟨e3, e4⟩ := liftO_eq e
  have e4' : st' = st2 := e4
  subst e4'
  refine T.use re rs e1 fun v H1 m1 F1 g1 re1 rs1 d1 => T.use re1 rs1 e2 fun w H2 m2 F2 g2 re2 rs2 d2 => ?_
  exact ⟨m2, F2, st', x, y, d, rs2, d1.mono g2, d2, e3, fun u H3 m3 F3 g3 rs3 d3 => k u H3 m3 F3 ((g1.trans g2).trans g3) rs3 d3⟩
theorem T.op1 {ca : Rho → St → R D} {f : St → D → Option D} {σ : L2.St} {H : Hp} {Q : VK} (h : T K (fun ρ st => bnd (ca ρ st) fun x st => liftO st (f st x)) σ H Q) :
    tUn (rOf1 K f) (T K ca) σ H Q := by
  obtain ⟨ρ, st, m, F, d, st', re, rs, e, k⟩ := h
  obtain ⟨x, st1, e1, e⟩ := bnd_eq e
  obtain ⟨e3, e4⟩ := liftO_eq e
  have e4' : st' = st1 := e4
  subst e4'
  refine T.use re rs e1 fun v H1 m1 F1 g1 re1 rs1 d1 => ?_
  exact ⟨m1, F1, st', x, d, rs1, d1, e3, fun u H3 m3 F3 g3 rs3 d3 => k u H3 m3 F3 (g1.trans g3) rs3 d3⟩
/-- arguments, then what f tells -/
def rN (K : PySem.W.Frag) (f : List D → St → R D) : List V → Hp → VK → Prop := fun vs H Q => ∃ m F ds st d st', RSt K m F H st ∧ RDs K m F H ds vs ∧ f ds st = some (d, st') ∧
  ∀ v H' m' F', Gro m F H m' F' H' → RSt K m' F' H' st' → RD K m' F' H' d v → Q v H'
def rNL (K : PySem.W.Frag) (f : List D → St → R (List D)) : List V → Hp → VK → Prop := fun vs H Q => ∃ m F ds st d st', RSt K m F H st ∧ RDs K m F H ds vs ∧ f ds st = some (d, st') ∧
  ∀ a vs H' m' F', Gro m F H m' F' H' → RSt K m' F' H' st' → H' a = some (.lst vs) → vs.length ≤ cap → Fre m' F' a → RDs K m' F' H' d vs → Q (.ref a) H'
theorem T.callN {c : Rho → St → R (List D)} {f : List D → St → R D} {σ : L2.St} {H : Hp} {Q : VK} (h : T K (fun ρ st => bnd (c ρ st) f) σ H Q) : tCB (rN K f) (TEs K c) σ H Q := by
  obtain ⟨ρ, st, m, F, d, st', re, rs, e, k⟩ := h
  obtain ⟨x, st1, e1, e⟩ := bnd_eq e
  refine TEs.use re rs e1 fun v H1 m1 F1 g1 re1 rs1 d1 => ?_
  exact ⟨m1, F1, x, st1, d, st', rs1, d1, e, fun u H3 m3 F3 g3 rs3 d3 => k u H3 m3 F3 (g1.trans g3) rs3 d3⟩
theorem TL.callN {c : Rho → St → R (List D)} {f : List D → St → R (List D)} {σ : L2.St} {H : Hp} {Q : VK} (h : TL K (fun ρ st => bnd (c ρ st) f) σ H Q) : tCB (rNL K f) (TEs K c) σ H Q := by
  obtain ⟨ρ, st, m, F, d, st', re, rs, e, k⟩ := h
  obtain ⟨x, st1, e1, e⟩ := bnd_eq e
  refine TEs.use re rs e1 fun v H1 m1 F1 g1 re1 rs1 d1 => ?_
  exact ⟨m1, F1, x, st1, d, st', rs1, d1, e, fun a vs H3 m3 F3 g3 rs3 q1 q2 q3 d3 => k a vs H3 m3 F3 (g1.trans g3) rs3 q1 q2 q3 d3⟩
end

/-! ### sequences as they stand -/
section
variable {K : PySem.W.Frag} {m : List Addr} {F : FP} {H : Hp} {st : St}
theorem RO.list {xs : List D} {a : Addr} (h : RO K m F H (.lst xs) a) : ∃ vs, H a = some (.lst vs) ∧ vs.length ≤ cap ∧ RDs K m F H xs vs := h
theorem seqOf_ref {n : Nat} {xs : List D} (h : seqOf st (.ref n) = some xs) : st[n]? = some (.lst xs) := by
  simp only [seqOf] at h
  split at h
  · rename_i ys e
    cases h
    exact e
  · cases h
/-- a list or a tuple -/
theorem seq_of (rs : RSt K m F H st) {d : D} {v : V} {xs : List D} (r : RD K m F H d v) (h : seqOf st d = some xs) :
    ∃ a vs, v = .ref a ∧ ((∃ ys, d = .tup ys ∧ SqT K H a vs) ∨ ((∀ ys, d ≠ .tup ys) ∧ H a = some (.lst vs))) ∧ vs.length ≤ cap ∧ RDs K m F H xs vs := by
  cases d with
  | tup ys =>
    cases r with
    | tup h1 h2 h3 =>
      cases h
      exact ⟨_, _, rfl, .inl ⟨_, rfl, h1.sqT⟩, h2, h3⟩
  | lst ys =>
    cases r with
    | lst h1 h2 h3 h4 =>
      cases h
      exact ⟨_, _, rfl, .inr ⟨fun _ z => (nomatch z), h2⟩, h3, h4⟩
  | ref n =>
    cases r with
    | ref hm =>
      obtain ⟨vs, h1, h2, h3⟩ := (rs.obj n _ _ (seqOf_ref h) hm).list
      exact ⟨_, _, rfl, .inr ⟨fun _ z => (nomatch z), h1⟩, h2, h3⟩
  | _ => simp [seqOf] at h
theorem lst_of (rs : RSt K m F H st) {d : D} {v : V} {xs : List D} (r : RD K m F H d v) (h : lstOf st d = some xs) :
    ∃ a vs, v = .ref a ∧ H a = some (.lst vs) ∧ vs.length ≤ cap ∧ RDs K m F H xs vs := by
  have h1 : seqOf st d = some xs := by
    cases d <;> first | exact h | simp [lstOf] at h
  obtain ⟨a, vs, e1, e2, e3, e4⟩ := seq_of rs r h1
  rcases e2 with ⟨ys, e2, _⟩ | ⟨_, e2⟩
  · subst e2
    simp [lstOf] at h
  · exact ⟨a, vs, e1, e2, e3, e4⟩
theorem SqS.line {n : Nat} (h : n ≤ cap) : n ≤ sizeLine := by rw [← cap_line]; exact h
/-- the mutable list at n -/
theorem ref_of (rs : RSt K m F H st) {n : Nat} {v : V} {xs : List D} (r : RD K m F H (.ref n) v) (h : st[n]? = some (.lst xs)) :
    ∃ a vs, v = .ref a ∧ m[n]? = some a ∧ H a = some (.lst vs) ∧ vs.length ≤ cap ∧ RDs K m F H xs vs := by
  cases r with
  | ref hm =>
    obtain ⟨vs, h1, h2, h3⟩ := (rs.obj n _ _ h hm).list
    exact ⟨_, _, rfl, hm, h1, h2, h3⟩
/-- a new tuple -/
theorem done_tup (rs : RSt K m F H st) {vs : List V} {xs : List D} (hl : vs.length ≤ cap) (r : RDs K m F H xs vs) {Q : VK}
    (k : ∀ w H' m' F', Gro m F H m' F' H' → RSt K m' F' H' st → RD K m' F' H' (.tup xs) w → Q w H') : NewT H vs Q := fun p ob hp hd =>
  k _ _ m F (gro_upd hp) (rs.upd hp) (.tup ⟨ob, upd_same, hd⟩ hl (r.mono (gro_upd hp)))
/-- a new list, frozen at once -/
theorem done_lst (rs : RSt K m F H st) {vs : List V} {xs : List D} (hl : vs.length ≤ cap) (r : RDs K m F H xs vs) {p : Addr} (hp : H p = none) {Q : VK}
    (k : ∀ w H' m' F', Gro m F H m' F' H' → RSt K m' F' H' st → RD K m' F' H' (.lst xs) w → Q w H') : Q (.ref p) (upd H p (.lst vs)) := by
  have g : Gro m F H m (F.add p) (upd H p (.lst vs)) := (gro_upd hp).trans gro_freeze
  exact k _ _ m _ g (rs.updF hp) (.lst (.inr rfl) upd_same hl (r.mono g))
/-- a new list, as just made -/
theorem done_new (rs : RSt K m F H st) {vs : List V} {xs : List D} (hl : vs.length ≤ cap) (r : RDs K m F H xs vs) {p : Addr} (hp : H p = none) {Q : VK}
    (k : ∀ a vs H' m' F', Gro m F H m' F' H' → RSt K m' F' H' st → H' a = some (.lst vs) → vs.length ≤ cap → Fre m' F' a → RDs K m' F' H' xs vs → Q (.ref a) H') : Q (.ref p) (upd H p (.lst vs)) := by
  exact k p vs _ m F (gro_upd hp) (rs.upd hp) upd_same hl (rs.fre hp) (r.mono (gro_upd hp))
end

/-! ### deep data -/
section
variable {K : PySem.W.Frag} {m : List Addr} {F : FP} {H : Hp}
theorem dpAll_ints : ∀ ns : List Int, DpAll K H (ns.map V.int) (ns.map PyData.int)
  | [] => .nil
  | n :: r => .cons (.int n) (dpAll_ints r)
mutual
theorem RD.dp : ∀ {d : D} {v : V}, RD K m F H d v → D.pure d = true → Dp K H v d.py
  | _, _, .non, _ => .non
  | _, _, .bl b, _ => .bl b
  | _, _, .int i, _ => .int i
  | _, _, .str x, _ => .str x
  | _, _, .tup h l r, p => .tup h.sqT (RDs.dp r (by simpa [D.pure] using p))
  | _, _, .lst f h l r, p => .lst (.inl (.inl h)) (RDs.dp r (by simpa [D.pure] using p))
  | _, _, .scrF h l, _ => .lst (.inl (.inr ⟨_, h⟩)) (dpAll_ints _)
  | _, _, .scrK h l, _ => .lst (h H) (dpAll_ints _)
  | _, _, .ref h, p => by simp [D.pure] at p
theorem RDs.dp : ∀ {ds : List D} {vs : List V}, RDs K m F H ds vs → D.pures ds = true → DpAll K H vs (D.pys ds)
  | _, _, .nil, _ => .nil
  | d :: ds, _, .cons h t, p => by
    have p' : D.pure d = true ∧ D.pures ds = true := by simpa [D.pures] using p
    exact .cons (RD.dp h p'.1) (RDs.dp t p'.2)
end
/-- a mutable list, told inline -/
theorem RD.dpDer {st : St} (rs : RSt K m F H st) {d : D} {v : V} (r : RD K m F H d v) (p : D.pure (der st d) = true) : Dp K H v (der st d).py := by
  cases d with
  | ref n =>
    cases e : st[n]? with
    | none => simp [der, e, D.pure] at p
    | some o =>
      cases o with
      | lst ys =>
        cases r with
        | ref hm =>
          obtain ⟨vs, h1, h2, h3⟩ := (rs.obj n _ _ e hm).list
          simp only [der, e] at p ⊢
          exact .lst (.inl (.inl h1)) (h3.dp (by simpa [D.pure] using p))
      | dct kvs => simp [der, e, D.pure] at p
  | _ => exact r.dp p
theorem canLay_ints : ∀ ns : List Int, PyData.canLayAll0 (ns.map PyData.int) = true
  | [] => by simp [PyData.canLayAll0]
  | n :: r => by simp [PyData.canLayAll0, PyData.canLay0, canLay_ints r]
mutual
theorem canLay_of_dep : ∀ {d : D}, D.dep d ≤ 60 → PyData.canLay0 d.py = true
  | .non, _ => by simp [D.py, PyData.canLay0]
  | .bl b, _ => by simp [D.py, PyData.canLay0]
  | .int i, _ => by simp [D.py, PyData.canLay0]
  | .str x, h => by
    simp only [D.dep] at h
    split at h
    · simpa [D.py] using ‹_›
    · omega
  | .tup xs, h => by
    simp only [D.dep] at h
    simp only [D.py, PyData.canLay0]
    exact canLays_of_dep (by omega)
  | .lst xs, h => by
    simp only [D.dep] at h
    simp only [D.py, PyData.canLay0]
    exact canLays_of_dep (by omega)
  | .scr ns, _ => by
    simp only [D.py, PyData.canLay0]
    exact canLay_ints ns
  | .ref n, _ => by simp [D.py, PyData.canLay0]
theorem canLays_of_dep : ∀ {ds : List D}, D.deps ds ≤ 60 → PyData.canLayAll0 (D.pys ds) = true
  | [], _ => by simp [D.pys, PyData.canLayAll0]
  | x :: xs, h => by
    simp only [D.deps] at h
    simp only [D.pys, PyData.canLayAll0, Bool.and_eq_true]
    exact ⟨canLay_of_dep (by omega), canLays_of_dep (by omega)⟩
end
mutual
theorem depth_le : ∀ d : D, d.py.depth ≤ D.dep d
  | .non => by simp [D.py, PyData.depth]
  | .bl b => by simp [D.py, PyData.depth]
  | .int i => by simp [D.py, PyData.depth]
  | .str x => by simp [D.py, PyData.depth]
  | .tup xs => by
    simp only [D.py, PyData.depth, D.dep]
    have := depths_le xs
    omega
  | .lst xs => by
    simp only [D.py, PyData.depth, D.dep]
    have := depths_le xs
    omega
  | .scr ns => by
    simp only [D.py, PyData.depth, D.dep]
    have : PyData.depthAll (ns.map PyData.int) = 0 := by
      induction ns with
      | nil => simp [PyData.depthAll]
      | cons n r ih => simp [PyData.depthAll, PyData.depth, ih]
    omega
  | .ref n => by simp [D.py, PyData.depth]
theorem depths_le : ∀ ds : List D, PyData.depthAll (D.pys ds) ≤ D.deps ds
  | [] => by simp [D.pys, PyData.depthAll]
  | x :: xs => by
    simp only [D.pys, PyData.depthAll, D.deps]
    have h1 := depth_le x
    have h2 := depths_le xs
    omega
end
theorem shaped_of {d : D} (h : D.dep d ≤ 60) : SeqAt.shaped d.py = true := by
  unfold SeqAt.shaped
  rw [canLay_of_dep h, Bool.true_and]
  have := depth_le d
  exact decide_eq_true (by omega)
end
end MM

end

section
set_option maxRecDepth 100000
set_option maxHeartbeats 4000000
/-! Mini machine: operators and comparisons by values. -/
namespace MM
open PySem PySem.Spec PyProof.Rows L2

def bopOf : Bop → Operator
  | .add => .Add
  | .sub => .Sub
  | .mul => .Mult
  | .fdiv => .FloorDiv
  | .mod => .Mod
  | .pow => .Pow
def copOf : Cop → CmpOp
  | .eq => .Eq
  | .ne => .NotEq
  | .lt => .Lt
  | .le => .LtE
  | .gt => .Gt
  | .ge => .GtE
  | .isin => .In
  | .notin => .NotIn
  | .is => .Is
  | .isnot => .IsNot
section
variable {X : Cx}
theorem big64_eq : big64 = 2 ^ 64 := by decide
/-- a value that leaves all as it is -/
theorem stay {K : PySem.W.Frag} {m : List Addr} {F : FP} {H : Hp} {st : St} {d : D} {v : V} {Q : VK} (rs : RSt K m F H st) (r : RD K m F H d v)
    (k : ∀ w H' m' F', Gro m F H m' F' H' → RSt K m' F' H' st → RD K m' F' H' d w → Q w H') : Q v H := k v H m F Gro.refl rs r

theorem op_bin (o : Bop) : OpR X (binaryOp (bopOf o)) (rOf X.K (binD o)) := by
  intro pins s σ H x y v u Q I rx ry h
  obtain ⟨m, F, st, d, e, z, rs, rd, re, hz, k⟩ := h
  cases d with
  | int i =>
    cases e with
    | int j =>
      cases rd
      cases re
      cases o with
      | add =>
        cases hz
        exact op_add pins s σ H _ _ v u Q I rx ry ⟨i, j, rfl, rfl, stay rs (.int _) k⟩
      | sub =>
        cases hz
        exact op_sub pins s σ H _ _ v u Q I rx ry ⟨i, j, rfl, rfl, stay rs (.int _) k⟩
      | mul =>
        simp only [binD] at hz
        split at hz
        · rename_i hc
          cases hz
          simp only [Bool.or_eq_true, Bool.and_eq_true, decide_eq_true_eq, big64_eq] at hc
          exact op_mul pins s σ H _ _ v u Q I rx ry ⟨i, j, rfl, rfl, hc, stay rs (.int _) k⟩
        · cases hz
      | fdiv =>
        simp only [binD] at hz
        split at hz
        · rename_i hc
          cases hz
          simp only [Bool.and_eq_true, decide_eq_true_eq] at hc
          exact op_fdivN pins s σ H _ _ v u Q I rx ry ⟨i, j, rfl, rfl, hc, stay rs (.int _) k⟩
        · cases hz
      | mod =>
        simp only [binD] at hz
        split at hz
        · rename_i hc
          cases hz
          simp only [decide_eq_true_eq] at hc
          exact op_modN pins s σ H _ _ v u Q I rx ry ⟨i, j, rfl, rfl, hc, stay rs (.int _) k⟩
        · cases hz
      | pow =>
        simp only [binD] at hz
        split at hz
        · rename_i hc
          cases hz
          simp only [Bool.and_eq_true, decide_eq_true_eq] at hc
          exact op_pow pins s σ H _ _ v u Q I rx ry ⟨i, j, rfl, rfl, ⟨hc.1.1, hc.1.2, by have := hc.2; omega⟩, stay rs (.int _) k⟩
        · cases hz
    | _ => cases o <;> simp [binD, seqOf] at hz
  | str i =>
    cases e with
    | str j =>
      cases rd
      cases re
      cases o <;> simp only [binD] at hz <;> try cases hz
      split at hz
      · rename_i hc
        cases hz
        simp only [decide_eq_true_eq] at hc
        exact op_add_str pins s σ H _ _ v u Q I rx ry ⟨i, j, rfl, rfl, SqS.line hc, stay rs (.str _) k⟩
      · cases hz
    | _ => cases o <;> simp [binD, seqOf] at hz
  | tup xs =>
    cases e with
    | tup ys =>
      cases o <;> simp only [binD] at hz <;> try cases hz
      split at hz
      · rename_i hc
        cases hz
        simp only [decide_eq_true_eq] at hc
        cases rd with
        | tup h1 h2 h3 =>
          rename_i a vs
          cases re with
          | tup g1 g2 g3 =>
            rename_i b ws
            have l1 := h3.length
            have l2 := g3.length
            have hl : vs.length + ws.length ≤ cap := by omega
            refine op_catX pins s σ H _ _ v u Q I rx ry ⟨a, b, vs, ws, rfl, rfl, h1.sqT, g1.sqT, SqS.line hl, fun z => ?_, fun _ z => ?_, fun _ _ => ?_⟩
            · subst z
              have : xs = [] := List.length_eq_zero_iff.mp (by rw [l1]; rfl)
              subst this
              exact stay rs (.tup g1 g2 g3) k
            · subst z
              have : ys = [] := List.length_eq_zero_iff.mp (by rw [l2]; rfl)
              subst this
              rw [List.append_nil] at k
              exact stay rs (.tup h1 h2 h3) k
            · exact done_tup rs (by rw [List.length_append]; exact hl) (h3.append g3) k
      · cases hz
    | _ => cases o <;> simp [binD, seqOf] at hz
  | non => cases o <;> simp [binD, seqOf] at hz <;> (cases e <;> simp at hz)
  | bl b => cases o <;> simp [binD, seqOf] at hz <;> (cases e <;> simp at hz)
  | scr ns => cases o <;> simp [binD, seqOf] at hz
  | lst xs =>
    cases e with
    | int _ => cases o <;> simp [binD, seqOf] at hz
    | str _ => cases o <;> simp [binD, seqOf] at hz
    | tup _ => cases o <;> simp [binD, seqOf] at hz
    | non => cases o <;> simp [binD, seqOf] at hz
    | bl _ => cases o <;> simp [binD, seqOf] at hz
    | scr _ => cases o <;> simp [binD, seqOf] at hz
    | _ =>
      cases o <;> simp only [binD] at hz <;> try cases hz
      split at hz
      · rename_i q1 q2
        split at hz
        · rename_i hc
          cases hz
          simp only [decide_eq_true_eq] at hc
          obtain ⟨a, vs, rfl, h1, h2, h3⟩ := lst_of rs rd (show lstOf st _ = some _ from q1)
          obtain ⟨b, ws, rfl, g1, g2, g3⟩ := lst_of rs re (show lstOf st _ = some _ from q2)
          have hl : vs.length + ws.length ≤ cap := by rw [← h3.length, ← g3.length]; exact hc
          exact op_cat pins s σ H _ _ v u Q I rx ry ⟨a, b, vs, ws, rfl, rfl, h1, g1, SqS.line hl, fun p hp => done_lst rs (by rw [List.length_append]; exact hl) (h3.append g3) hp k⟩
        · cases hz
      · cases hz
  | ref n =>
    cases e with
    | int _ => cases o <;> simp [binD, seqOf] at hz <;> (split at hz <;> simp at hz)
    | str _ => cases o <;> simp [binD, seqOf] at hz <;> (split at hz <;> simp at hz)
    | tup _ => cases o <;> simp [binD, seqOf] at hz
    | non => cases o <;> simp [binD, seqOf] at hz <;> (split at hz <;> simp at hz)
    | bl _ => cases o <;> simp [binD, seqOf] at hz <;> (split at hz <;> simp at hz)
    | scr _ => cases o <;> simp [binD, seqOf] at hz
    | _ =>
      cases o <;> simp only [binD] at hz <;> try cases hz
      split at hz
      · rename_i q1 q2
        split at hz
        · rename_i hc
          cases hz
          simp only [decide_eq_true_eq] at hc
          obtain ⟨a, vs, rfl, h1, h2, h3⟩ := lst_of rs rd (show lstOf st _ = some _ from q1)
          obtain ⟨b, ws, rfl, g1, g2, g3⟩ := lst_of rs re (show lstOf st _ = some _ from q2)
          have hl : vs.length + ws.length ≤ cap := by rw [← h3.length, ← g3.length]; exact hc
          exact op_cat pins s σ H _ _ v u Q I rx ry ⟨a, b, vs, ws, rfl, rfl, h1, g1, SqS.line hl, fun p hp => done_lst rs (by rw [List.length_append]; exact hl) (h3.append g3) hp k⟩
        · cases hz
      · cases hz
end
end MM

end

section
set_option maxRecDepth 100000
set_option maxHeartbeats 4000000
/-! Mini machine: comparisons by values; truth. -/
namespace MM
open PySem PySem.Spec PyProof.Rows L2
section
variable {X : Cx}
theorem eqD_inv {st : St} {a b : D} {r : Bool} (h : eqD st a b = some r) :
    D.pure (der st a) = true ∧ D.pure (der st b) = true ∧ D.dep (der st a) ≤ 60 ∧ D.dep (der st b) ≤ 60 ∧ r = PyData.eqv (der st a).py (der st b).py := by
  simp only [eqD] at h
  split at h
  · rename_i hc
    cases h
    simp only [Bool.and_eq_true, decide_eq_true_eq] at hc
    exact ⟨hc.1.1.1, hc.1.1.2, hc.1.2, hc.2, rfl⟩
  · cases h
theorem inD_inv {st : St} {a : D} {xs : List D} {r : Bool} (h : inD st a xs = some r) :
    D.pure a = true ∧ D.pures xs = true ∧ D.dep a ≤ 60 ∧ D.deps xs ≤ 60 ∧ r = xs.any fun y => PyData.eqv y.py a.py := by
  simp only [inD] at h
  split at h
  · rename_i hc
    cases h
    simp only [Bool.and_eq_true, decide_eq_true_eq] at hc
    exact ⟨hc.1.1.1, hc.1.1.2, hc.1.2, hc.2, rfl⟩
  · cases h
theorem pys_any (p : PyData → Bool) : ∀ xs : List D, (D.pys xs).any p = xs.any fun y => p y.py
  | [] => rfl
  | x :: xs => by simp [D.pys, pys_any p xs]
theorem int_inv {K : PySem.W.Frag} {m : List Addr} {F : FP} {H : Hp} {i : Int} {v : V} (r : RD K m F H (.int i) v) : v = .int i := by
  cases r
  rfl
/-- in: the container's items as data -/
theorem in_reads {K : PySem.W.Frag} {m : List Addr} {F : FP} {H : Hp} {st : St} (rs : RSt K m F H st) {e : D} {y : V} {xs : List D} (re : RD K m F H e y) (q : seqOf st e = some xs) (p : D.pures xs = true) :
    Dp K H y (.tuple (D.pys xs)) ∨ Dp K H y (.list (D.pys xs)) := by
  obtain ⟨a, vs, rfl, h, hl, r⟩ := seq_of rs re q
  rcases h with ⟨_, _, h⟩ | ⟨_, h⟩
  · exact .inl (.tup h (r.dp p))
  · exact .inr (.lst (.inl (.inl h)) (r.dp p))
theorem cmpD_ord {o : Cop} {st : St} {d e : D} {b : Bool} (ho : o = .lt ∨ o = .le ∨ o = .gt ∨ o = .ge) (hb : cmpD o st d e = some b) :
    (∃ i j, d = .int i ∧ e = .int j ∧ cmpInt o i j = some b) ∨ (∃ xs ys is js, d = .tup xs ∧ e = .tup ys ∧ o = .lt ∧ asInts xs = some is ∧ asInts ys = some js ∧ b = HT.lexLt is js) := by
  cases d with
  | int i =>
    cases e with
    | int j => exact .inl ⟨i, j, rfl, rfl, by rcases ho with h | h | h | h <;> subst h <;> simpa [cmpD] using hb⟩
    | _ => rcases ho with h | h | h | h <;> subst h <;> simp [cmpD] at hb
  | tup xs =>
    cases e with
    | tup ys =>
      rcases ho with h | h | h | h <;> subst h <;> simp only [cmpD] at hb
      · split at hb
        · rename_i q1 q2
          cases hb
          exact .inr ⟨_, _, _, _, rfl, rfl, rfl, ‹_›, ‹_›, rfl⟩
        · cases hb
      all_goals cases hb
    | _ => rcases ho with h | h | h | h <;> subst h <;> simp [cmpD] at hb
  | _ => rcases ho with h | h | h | h <;> subst h <;> simp [cmpD] at hb
theorem op_cmp (hu : X.A.units + 65 < cLine) (o : Cop) : OpR X (compareOp (copOf o)) (rOf X.K fun st x y => (cmpD o st x y).map .bl) := by
  intro pins s σ H x y v u Q I rx ry h
  obtain ⟨m, F, st, d, e, z, rs, rd, re, hz, k⟩ := h
  have hz' : (cmpD o st d e).map D.bl = some z := hz
  obtain ⟨b, hb, rfl⟩ := Option.map_eq_some_iff.mp hz'
  have fin : Q (.bl b) H := stay rs (.bl b) k
  cases o with
  | eq =>
    obtain ⟨p1, p2, d1, d2, rfl⟩ := eqD_inv (show eqD st d e = some b from hb)
    exact op_eqD (by omega) pins s σ H x y v u Q I rx ry ⟨_, _, rd.dpDer rs p1, re.dpDer rs p2, shaped_of d1, shaped_of d2, fin⟩
  | ne =>
    have hb' : (eqD st d e).map (!·) = some b := hb
    obtain ⟨c, hc, rfl⟩ := Option.map_eq_some_iff.mp hb'
    obtain ⟨p1, p2, d1, d2, rfl⟩ := eqD_inv hc
    exact op_neD (by omega) pins s σ H x y v u Q I rx ry ⟨_, _, rd.dpDer rs p1, re.dpDer rs p2, shaped_of d1, shaped_of d2, fin⟩
  | isin =>
    simp only [cmpD] at hb
    split at hb
    · rename_i xs q
      obtain ⟨p1, p2, d1, d2, rfl⟩ := inD_inv hb
      have hd := rd.dp p1
      obtain ⟨as, r1⟩ := Dp.reads I _ x v hd rx
      rw [← pys_any fun y => PyData.eqv y d.py] at fin
      rcases in_reads rs re q p2 with he | he
      · obtain ⟨bs, r2⟩ := Dp.reads I _ y u he ry
        exact SeqAt.in_tuple_reads r2 r1 (canLays_of_dep d2) (canLay_of_dep d1) (room_in_shaped (shaped_of d1) hu) ⟨.bl _, H, I, rfl, fin⟩
      · obtain ⟨bs, r2⟩ := Dp.reads I _ y u he ry
        exact SeqAt.in_list_reads r2 r1 (canLays_of_dep d2) (canLay_of_dep d1) (room_in_shaped (shaped_of d1) hu) ⟨.bl _, H, I, rfl, fin⟩
    · cases hb
  | notin =>
    simp only [cmpD] at hb
    split at hb
    · rename_i xs q
      have hb' : (inD st d xs).map (!·) = some b := hb
      obtain ⟨c, hc, rfl⟩ := Option.map_eq_some_iff.mp hb'
      obtain ⟨p1, p2, d1, d2, rfl⟩ := inD_inv hc
      have hd := rd.dp p1
      obtain ⟨as, r1⟩ := Dp.reads I _ x v hd rx
      rw [← pys_any fun y => PyData.eqv y d.py] at fin
      rcases in_reads rs re q p2 with he | he
      · obtain ⟨bs, r2⟩ := Dp.reads I _ y u he ry
        exact SeqAt.notIn_tuple_reads r2 r1 (canLays_of_dep d2) (canLay_of_dep d1) (room_in_shaped (shaped_of d1) hu) ⟨.bl _, H, I, rfl, fin⟩
      · obtain ⟨bs, r2⟩ := Dp.reads I _ y u he ry
        exact SeqAt.notIn_list_reads r2 r1 (canLays_of_dep d2) (canLay_of_dep d1) (room_in_shaped (shaped_of d1) hu) ⟨.bl _, H, I, rfl, fin⟩
    · cases hb
  | is =>
    simp only [cmpD] at hb
    cases e with
    | non =>
      cases re
      have e1 : b = decide (x = .non) := by
        cases hb
        cases rd <;> simp
      subst e1
      exact op_isN pins s σ H x _ v u Q I rx ry ⟨rfl, fin⟩
    | _ => cases hb
  | isnot =>
    simp only [cmpD] at hb
    cases e with
    | non =>
      cases re
      have e1 : b = !decide (x = .non) := by
        cases hb
        cases rd <;> simp
      subst e1
      exact op_notN pins s σ H x _ v u Q I rx ry ⟨rfl, fin⟩
    | bl c =>
      cases re
      cases d with
      | bl a =>
        cases rd
        have e1 : b = !decide (a = c) := by
          cases hb
          cases a <;> cases c <;> rfl
        subst e1
        exact op_isnot_bl pins s σ H _ _ v u Q I rx ry ⟨a, c, rfl, rfl, fin⟩
      | _ => cases hb
    | _ => cases hb
  | lt =>
    rcases cmpD_ord (by simp) hb with ⟨i, j, rfl, rfl, q⟩ | ⟨xs, ys, is, js, rfl, rfl, _, q1, q2, rfl⟩
    · cases rd
      cases re
      cases q
      exact op_lt pins s σ H _ _ v u Q I rx ry ⟨i, j, rfl, rfl, fin⟩
    · cases rd with
      | tup h1 h2 h3 =>
        cases re with
        | tup g1 g2 g3 =>
          have e1 := h3.ints q1
          have e2 := g3.ints q2
          subst e1
          subst e2
          exact op_ltT (by omega) pins s σ H _ _ v u Q I rx ry ⟨_, _, is, js, rfl, rfl, h1.sqT, g1.sqT, fin⟩
  | le =>
    rcases cmpD_ord (by simp) hb with ⟨i, j, rfl, rfl, q⟩ | ⟨xs, ys, is, js, _, _, q, _⟩
    · cases rd
      cases re
      cases q
      exact op_le pins s σ H _ _ v u Q I rx ry ⟨i, j, rfl, rfl, fin⟩
    · cases q
  | gt =>
    rcases cmpD_ord (by simp) hb with ⟨i, j, rfl, rfl, q⟩ | ⟨xs, ys, is, js, _, _, q, _⟩
    · cases rd
      cases re
      cases q
      exact op_gt pins s σ H _ _ v u Q I rx ry ⟨i, j, rfl, rfl, fin⟩
    · cases q
  | ge =>
    rcases cmpD_ord (by simp) hb with ⟨i, j, rfl, rfl, q⟩ | ⟨xs, ys, is, js, _, _, q, _⟩
    · cases rd
      cases re
      cases q
      exact op_ge pins s σ H _ _ v u Q I rx ry ⟨i, j, rfl, rfl, fin⟩
    · cases q

/-- a value's truth -/
theorem tru_of {K : PySem.W.Frag} {m : List Addr} {F : FP} {H : Hp} {st : St} (rs : RSt K m F H st) {d : D} {v : V} {b : Bool} (r : RD K m F H d v) (h : truth st d = some b) : TruV K v H b := by
  have go : ∀ xs, seqOf st d = some xs → b = !xs.isEmpty → TruV K v H b := by
    intro xs q e
    obtain ⟨a, vs, rfl, h, hl, r2⟩ := seq_of rs r q
    have e2 : xs.isEmpty = vs.isEmpty := by
      cases r2 <;> rfl
    rw [e2] at e
    rcases h with ⟨_, _, h⟩ | ⟨_, h⟩
    · exact .inr (.inl ⟨vs, h, e⟩)
    · exact .inl ⟨vs, .inl (.inl h), e⟩
  cases d with
  | non => cases r; cases h; rfl
  | bl c => cases r; cases h; rfl
  | int i => cases r; cases h; rfl
  | str x => simp [truth, seqOf] at h
  | scr x => simp [truth, seqOf] at h
  | tup xs =>
    simp only [truth, seqOf] at h
    cases h
    exact go xs rfl rfl
  | lst xs =>
    simp only [truth, seqOf] at h
    cases h
    exact go xs rfl rfl
  | ref n =>
    simp only [truth] at h
    split at h
    · rename_i xs q
      cases h
      exact go xs q rfl
    · cases h
end
end MM

end

section
set_option maxRecDepth 100000
set_option maxHeartbeats 4000000
/-! Mini machine: the context; functions; the checker. -/
namespace MM
open PySem PySem.Spec PyProof.Rows L2

/-! ### functions: as FnOk, where repr is not running -/
abbrev SpN := List V → Hp → VK → Prop
abbrev NoE : XK := fun _ _ _ => False
structure FnG (P : Program) (w : World) (K : PySem.W.Frag) (mg : Str → Option Value) (base : Heap) (k : Nat) (f : Addr) (fd : FuncData) (ps : List Str) (sp : SpN) : Prop where
  len : ∀ vs H Q, sp vs H Q → vs.length = ps.length
  run : ∀ (A : Around) (outer : List Env) (s : Shared) (H : Hp) (args : Args) (us : List Value) (vs : List V) (Q : VK), Room k A → A.guards = some [] → Env0 P w K mg base A outer s H → BindsTo s fd args (ps.zip us) →
    Vals vs us → sp vs H Q → codeAny (model P w) A (.call (.ref f) args) (CR CX0 outer P w H s Q NoE) s
/-- what a function of the table does -/
def SpF (K : PySem.W.Frag) (cl : Cl) (f : Nat) : SpN := fun vs H Q => ∃ m F st ds d st', RSt K m F H st ∧ RDs K m F H ds vs ∧ cl f ds st = some (d, st') ∧
  ∀ v H' m' F', Gro m F H m' F' H' → RSt K m' F' H' st' → RD K m' F' H' d v → Q v H'

/-- the tables of the checker -/
structure Tb where
  tb : List Str
  gc : List (Str × Int)
  N : List Str
/-- where a name may be stored: none: a def's own body; some b: a block b -/
abbrev Cs := Option Scope
def cellB : Cs → Str → Bool
  | none, _ => true
  | some b, x => decide (b.names.lookup x = some .cell)
/-- the context that a piece of code stands in -/
structure Good (c : Tb) (cl : Cl) (ps : Nat → List Str) (k : Nat) (sc : Scope) (cs : Cs) (X : Cx) : Prop where
  slots : X.N = c.N
  nd : X.N.Nodup
  scope : X.env.scope = sc
  calm : X.calm = true
  room : Room k X.A
  guards : X.A.guards = some []
  xe : X.xe = fun _ _ => False
  fn : ∀ x, cellB cs x = true → X.fn x = true
  free : ∀ x ∈ builtinNames, X.mg x = none
  con : ∀ p ∈ c.gc, ∃ t, X.mg p.1 = some (.int p.2 t)
  call : ∀ (f : Nat) x, c.tb[f]? = some x → ∃ a fd, X.mg x = some (.ref a) ∧ PySem.W.keepIn X.K (.ref a) = true ∧ Binds X.K fd (ps f) [] ∧ FnG X.prog X.w X.K X.mg X.base k a fd (ps f) (SpF X.K cl f)
section
variable {c : Tb} {cl : Cl} {ps : Nat → List Str} {k : Nat} {sc : Scope} {cs : Cs} {X : Cx}
theorem Good.units (g : Good c cl ps k sc cs X) : X.A.units + 65 < cLine := by
  have := g.room.un
  omega
theorem Good.hu (g : Good c cl ps k sc cs X) : X.A.units + 1 < cLine := by
  have := g.room.un
  omega
/-- a block within -/
theorem Good.blk (g : Good c cl ps k sc cs X) (s : Shared) (H : Hp) (C : Addr) (cells : List (Str × Addr)) (fp : List Addr) (b : Scope) :
    Good c cl ps k (relS b sc) (some b) (X.blk s H b (compEnvC b cells C X.env) fp) where
  slots := g.slots
  nd := g.nd
  scope := by rw [← g.scope]; rfl
  calm := g.calm
  room := g.room
  guards := g.guards
  xe := rfl
  fn := fun x h => by
    have h' : b.names.lookup x = some .cell := of_decide_eq_true h
    show (b.names.lookup x == some NameKind.cell) = true
    rw [h']
    rfl
  free := g.free
  con := g.con
  call := g.call
end

/-! ### the checker's small looks -/
def visB (sc : Scope) (x : Str) : Bool := match sc.names.lookup x with
  | some .local => true
  | some .cell => true
  | some .free => true
  | _ => false
def locB (sc : Scope) (cs : Cs) (x : Str) : Bool := match sc.names.lookup x with
  | some .local => true
  | some .cell => cellB cs x
  | _ => false
def glB (sc : Scope) (x : Str) : Bool := match sc.names.lookup x with
  | some .globalImplicit => true
  | _ => false
def plainN (x : Str) : Bool := !(x == ("__debug__" : Str)) && !(x == ("__classdict__" : Str))
def notStar : Expr → Bool
  | .Starred .. => false
  | _ => true
def notSlice : Expr → Bool
  | .Slice .. => false
  | _ => true
def notSet : Expr → Bool
  | .Set .. => false
  | _ => true
def notComp : Expr → Bool
  | .ListComp .. => false
  | .SetComp .. => false
  | .DictComp .. => false
  | _ => true
def plainTest : Expr → Bool
  | .UnaryOp .Not _ _ => false
  | .BoolOp .. => false
  | .IfExp .. => false
  | .Compare .. => false
  | _ => true
section
variable {c : Tb} {cl : Cl} {ps : Nat → List Str} {k : Nat} {sc : Scope} {cs : Cs} {X : Cx}
theorem vis_of (g : Good c cl ps k sc cs X) {x : Str} (h : visB sc x = true) : Vis X.env.scope x := by
  rw [g.scope]
  unfold visB at h
  unfold Vis
  split at h <;> simp_all
theorem gl_of (g : Good c cl ps k sc cs X) {x : Str} (h : glB sc x = true) : Gl X x := by
  unfold Gl Env.kindOf
  rw [g.scope]
  unfold glB at h
  split at h
  · assumption
  · cases h
theorem loc_of (g : Good c cl ps k sc cs X) {x : Str} (h : locB sc cs x = true) : L2.Loc X.env.scope x ∧ (X.fn x = true ∨ X.env.scope.names.lookup x = some .local) := by
  rw [g.scope]
  unfold locB at h
  unfold L2.Loc
  split at h
  · rename_i e
    exact ⟨.inl e, .inr e⟩
  · rename_i e
    exact ⟨.inr e, .inl (g.fn x h)⟩
  · cases h
theorem plainN_of {x : Str} (h : plainN x = true) : (x == ("__debug__" : Str)) = false ∧ (x == ("__classdict__" : Str)) = false := by
  simpa [plainN] using h
theorem star_of {e : Expr} {es : List Expr} {env : Env} (h : notStar e = true) : starEach (e :: es) env = (false, eval e env) :: starEach es env := by
  cases e <;> first | rfl | cases h
theorem plain_of {b : Expr} (h : notSlice b = true) : PlainIx b := by
  intro o i
  cases b <;> first | rfl | cases h
theorem set_of {e : Expr} (h : notSet e = true) : ∀ env x, foldedSetIterable e env x = pure x := by
  intro env x
  cases e <;> first | rfl | cases h
theorem test_of {e : Expr} (h : plainTest e = true) (env : Env) : ∀ whole, isTrue e env whole = (do let v ← whole; standAt e.pos; holding [v] (truthy v)) := by
  intro whole
  cases e with
  | UnaryOp o _ _ => cases o <;> first | rfl | cases h
  | _ => first | rfl | cases h
theorem mark_of {op : CmpOp} {e : Expr} (h : notSet e = true) : behindInMarks op e = false := by
  cases e <;> first | rfl | cases h
theorem comp_of {e : Expr} (h : notComp e = true) (t : Option Expr) (l : Nat) (env : Env) : swapsWith e t l env = pure false := by
  cases e <;> first | rfl | cases h
theorem compS_of {e t : Expr} (h : notComp e = true) (l : Nat) (env : Env) : swapsWithSole [t] e l env = pure false := comp_of h _ l env

/-! ### calls of functions of the table -/
theorem run_g {pins : List (Addr × Obj)} {σ : L2.St} {H : Hp} {s : Shared} {Q : VK} {us : List Value} {vs : List V} {f : Addr} {fd : FuncData} {pl : List Str} {sp : SpN} (g : Good c cl ps k sc cs X)
    (G : FnG X.prog X.w X.K X.mg X.base k f fd pl sp) (hb : Binds X.K fd pl []) (I : Inv X pins σ H s) (r : Vals vs us) (h : sp vs H Q) : wpAny (model X.prog X.w) X.A (call (.ref f) us) (EP X pins σ Q) X.xe s := by
  have hl : (us ++ ([] : List Value)).length = pl.length := by
    rw [List.append_nil, ← r.length]
    exact G.len _ _ _ h
  have bt := hb s us I.kIn hl
  rw [List.append_nil] at bt
  refine wpAny_call (codeAny_mono (G.run X.A X.stack s H ⟨us, []⟩ us vs Q g.room g.guards I.env0 bt r h) fun res s' q => ?_)
  match res, q with
  | .ok (.ret u), q => exact I.after q
  | .ok .next, q => exact False.elim q
  | .ok .brk, q => exact False.elim q
  | .ok .cont, q => exact False.elim q
  | .error e, q => exact False.elim q
/-- f(e, ..) -/
theorem pe_g {x : Str} {p pos : Pos} {e : Expr} {es : List Expr} {t : TA} {f : Addr} {fd : FuncData} {pl : List Str} {sp : SpN} (g : Good c cl ps k sc cs X) (G : FnG X.prog X.w X.K X.mg X.base k f fd pl sp) (hg : Gl X x)
    (hm : X.mg x = some (.ref f)) (hk : PySem.W.keepIn X.K (.ref f) = true) (hb : Binds X.K fd pl []) (ha : PA X (e :: es) t) (hd : (x == ("__debug__" : Str)) = false)
    (h1 : notStar e = true) (h2 : ∀ env, (backTo pos (starEach es env)).any (·.1) = false) : PE X (.Call (.Name x p) (e :: es) [] pos) (fun σ H Q => t σ H fun vs H1 => sp vs H1 Q) := by
  refine ⟨fun pins s σ H Q I q => wpAny_Call_Name_kw (ld_glob I hg hm ?_ hd)⟩
  refine PySem.W.callWith_K (h₀ := X.base) I.ok.mod.kin hk ?_ (star_of h1) (h2 _)
  exact thn (ha.run pos pins s σ H _ I q) fun us s1 ⟨vs, H1, I1, r, q1⟩ => ⟨I1.kIn, run_g g G hb I1 r q1⟩
end
end MM

end

section
set_option maxRecDepth 100000
set_option maxHeartbeats 4000000
/-! Mini machine: each expression's rule. -/
namespace MM
open PySem PySem.Spec PyProof.Rows L2
section
variable {K : PySem.W.Frag}
theorem T.mono {c : Rho → St → R D} {σ : L2.St} {H : Hp} {Q Q' : VK} (h : T K c σ H Q) (i : ∀ v H, Q v H → Q' v H) : T K c σ H Q' := by
  obtain ⟨ρ, st, m, F, d, st', re, rs, e, k⟩ := h
  exact ⟨ρ, st, m, F, d, st', re, rs, e, fun v H1 m1 F1 g s1 d1 => i v H1 (k v H1 m1 F1 g s1 d1)⟩
theorem TL.mono {c : Rho → St → R (List D)} {σ : L2.St} {H : Hp} {Q Q' : VK} (h : TL K c σ H Q) (i : ∀ v H, Q v H → Q' v H) : TL K c σ H Q' := by
  obtain ⟨ρ, st, m, F, d, st', re, rs, e, k⟩ := h
  exact ⟨ρ, st, m, F, d, st', re, rs, e, fun a vs H1 m1 F1 g s1 h1 h2 h3 d1 => i _ H1 (k a vs H1 m1 F1 g s1 h1 h2 h3 d1)⟩
end
section
variable {c : Tb} {cl : Cl} {ps : Nat → List Str} {k : Nat} {sc : Scope} {cs : Cs} {X : Cx}

theorem tcb1 {r : List V → Hp → VK → Prop} {ta : TE} {σ : L2.St} {H : Hp} {Q : VK} (h : ta σ H fun x H1 => r [x] H1 Q) : tCB r (tCons ta tNil) σ H Q := h
/-! ### built-ins of one argument -/
theorem noStar1 (pos : Pos) (env : Env) : (backTo pos (starEach [] env)).any (·.1) = false := rfl
theorem call1 {x : Str} {id : String} {r : List V → Hp → VK → Prop} {f : St → D → Option D} {ca : Rho → St → R D} {e : Expr} {p pos : Pos} (g : Good c cl ps k sc cs X) (hc : CallR X (.builtin id) r) (hx : x ∈ builtinNames)
    (hb : bootBuiltins x = some (.builtin id)) (hn : x ≠ "__name__") (hd : (x == ("__debug__" : Str)) = false) (hg : glB sc x = true) (he : PE X e (T X.K ca)) (hs : notStar e = true) (step : ∀ v H Q, rOf1 X.K f v H Q → r [v] H Q) :
    PE X (.Call (.Name x p) [e] [] pos) (T X.K fun ρ st => bnd (ca ρ st) fun x st => liftO st (f st x)) :=
  (pe_callB hc (gl_of g hg) (g.free x hx) hb (pa_cons he pa_nil (star_of hs)) hn hd (star_of hs)).imp fun σ H Q h => T.mono (T.op1 h) fun v H1 q => step v H1 Q q
theorem call1T {x : Str} {ty : String} {r : List V → Hp → VK → Prop} {f : St → D → Option D} {ca : Rho → St → R D} {e : Expr} {p pos : Pos} (g : Good c cl ps k sc cs X) (hc : CallR X (.type ty) r) (hx : x ∈ builtinNames)
    (hb : bootBuiltins x = some (.type ty)) (hn : x ≠ "__name__") (hd : (x == ("__debug__" : Str)) = false) (hg : glB sc x = true) (he : PE X e (T X.K ca)) (hs : notStar e = true) (step : ∀ v H Q, rOf1 X.K f v H Q → r [v] H Q) :
    PE X (.Call (.Name x p) [e] [] pos) (T X.K fun ρ st => bnd (ca ρ st) fun x st => liftO st (f st x)) :=
  (pe_callTy hc (gl_of g hg) (g.free x hx) hb (pa_cons he pa_nil (star_of hs)) hn hd (star_of hs)).imp fun σ H Q h => T.mono (T.op1 h) fun v H1 q => step v H1 Q q
/-- .. that make a list -/
theorem TL.op1 {K : PySem.W.Frag} {ca : Rho → St → R D} {f : St → D → Option (List D)} {σ : L2.St} {H : Hp} {Q : VK} (h : TL K (fun ρ st => bnd (ca ρ st) fun x st => liftO st (f st x)) σ H Q) :
    T K ca σ H fun v H1 => ∃ m F st d xs, RSt K m F H1 st ∧ RD K m F H1 d v ∧ f st d = some xs ∧
      ∀ a vs H' m' F', Gro m F H1 m' F' H' → RSt K m' F' H' st → H' a = some (.lst vs) → vs.length ≤ cap → Fre m' F' a → RDs K m' F' H' xs vs → Q (.ref a) H' := by
  obtain ⟨ρ, st, m, F, d, st', re, rs, e, k⟩ := h
  obtain ⟨x, st1, e1, e⟩ := bnd_eq e
  obtain ⟨e3, e4⟩ := liftO_eq e
  have e4' : st' = st1 := e4
  subst e4'
  refine T.use re rs e1 fun v H1 m1 F1 g1 re1 rs1 d1 => ?_
  exact ⟨m1, F1, st', x, d, rs1, d1, e3, fun a vs H3 m3 F3 g3 rs3 q1 q2 q3 d3 => k a vs H3 m3 F3 (g1.trans g3) rs3 q1 q2 q3 d3⟩

theorem e_len {ca : Rho → St → R D} {e : Expr} {p pos : Pos} (g : Good c cl ps k sc cs X) (hg : glB sc "len" = true) (he : PE X e (T X.K ca)) (hs : notStar e = true) :
    PE X (.Call (.Name "len" p) [e] [] pos) (T X.K fun ρ st => bnd (ca ρ st) fun x st => liftO st (lenD st x)) := by
  refine call1 g call_len (by simp [builtinNames]) (by decide +kernel) (by decide) (by decide) hg he hs fun v H Q ⟨m, F, st, d, z, rs, rd, hz, q⟩ => ?_
  have seq : ∀ xs, seqOf st d = some xs → z = .int xs.length → ∃ x n, [v] = [x] ∧ LenV X.K x H n ∧ Q (.int n) H := by
    intro xs hx hz
    subst hz
    obtain ⟨a, vs, rfl, h, hl, r⟩ := seq_of rs rd hx
    refine ⟨_, vs.length, rfl, ?_, ?_⟩
    · rcases h with ⟨_, _, h⟩ | ⟨_, h⟩
      · exact .inr ⟨vs, h, rfl⟩
      · exact .inl ⟨vs, .inl (.inl h), rfl⟩
    · rw [← r.length]
      exact stay rs (.int _) q
  cases d with
  | str y =>
    simp only [lenD] at hz
    split at hz
    · rename_i hc
      cases hz
      cases rd
      exact ⟨_, y.length, rfl, ⟨SqS.line (of_decide_eq_true hc), rfl⟩, stay rs (.int _) q⟩
    · cases hz
  | scr ns =>
    cases hz
    cases rd with
    | scrF h l => exact ⟨_, ns.length, rfl, .inl ⟨_, .inl (.inr ⟨_, h⟩), by rw [List.length_map]⟩, stay rs (.int _) q⟩
    | scrK h l => exact ⟨_, ns.length, rfl, .inl ⟨_, h H, by rw [List.length_map]⟩, stay rs (.int _) q⟩
  | tup xs => exact seq xs rfl (by cases hz; rfl)
  | lst xs => exact seq xs rfl (by cases hz; rfl)
  | ref n =>
    have hz' : (seqOf st (.ref n)).map (fun xs => D.int xs.length) = some z := hz
    obtain ⟨xs, h1, h2⟩ := Option.map_eq_some_iff.mp hz'
    exact seq xs h1 h2.symm
  | _ => cases hz
theorem e_int {ca : Rho → St → R D} {e : Expr} {p pos : Pos} (g : Good c cl ps k sc cs X) (hg : glB sc "int" = true) (he : PE X e (T X.K ca)) (hs : notStar e = true) :
    PE X (.Call (.Name "int" p) [e] [] pos) (T X.K fun ρ st => bnd (ca ρ st) fun x st => liftO st (intD x)) := by
  refine call1T (f := fun _ => intD) g call_int1 (by simp [builtinNames]) (by decide +kernel) (by decide) (by decide) hg he hs fun v H Q ⟨m, F, st, d, z, rs, rd, hz, q⟩ => ?_
  cases d with
  | int i => cases rd; cases hz; exact .inl ⟨i, rfl, stay rs (.int _) q⟩
  | bl b => cases rd; cases hz; exact .inr ⟨b, rfl, stay rs (.int _) q⟩
  | _ => cases hz
/-- tuple(x) -/
theorem e_tupE {ca : Rho → St → R D} {e : Expr} {p pos : Pos} (g : Good c cl ps k sc cs X) (hg : glB sc "tuple" = true) (he : PE X e (T X.K ca)) (hs : notStar e = true) :
    PE X (.Call (.Name "tuple" p) [e] [] pos) (T X.K fun ρ st => bnd (ca ρ st) fun x st => liftO st ((seqOf st x).map .tup)) := by
  refine call1T (f := fun st x => (seqOf st x).map .tup) g cr_tupX (by simp [builtinNames]) (by decide +kernel) (by decide) (by decide) hg he hs fun v H Q ⟨m, F, st, d, z, rs, rd, hz, q⟩ => ?_
  obtain ⟨xs, hx, rfl⟩ := Option.map_eq_some_iff.mp (show (seqOf st d).map D.tup = some z from hz)
  obtain ⟨a, vs, rfl, h, hl, r⟩ := seq_of rs rd hx
  refine ⟨a, vs, rfl, ?_⟩
  rcases h with ⟨ys, ed, h⟩ | ⟨_, h⟩
  · subst ed
    have exs : ys = xs := by simpa [seqOf] using hx
    subst exs
    exact .inr ⟨h, stay rs rd q⟩
  · exact .inl ⟨.inl (.inl h), done_tup rs hl r q⟩
/-- tuple([..]) -/
theorem e_tupL {ca : Rho → St → R (List D)} {e : Expr} {p pos : Pos} (g : Good c cl ps k sc cs X) (hg : glB sc "tuple" = true) (he : PE X e (TL X.K ca)) (hs : notStar e = true) :
    PE X (.Call (.Name "tuple" p) [e] [] pos) (T X.K fun ρ st => bnd (ca ρ st) fun xs st => some (.tup xs, st)) := by
  refine (pe_callTy cr_tupX (gl_of g hg) (g.free "tuple" (by simp [builtinNames])) (by decide +kernel) (pa_cons he pa_nil (star_of hs)) (by decide) (by decide) (star_of hs)).imp fun σ H Q h => ?_
  obtain ⟨ρ, st, m, F, d, st', re, rs, e, q⟩ := h
  obtain ⟨xs, st1, e1, e⟩ := bnd_eq e
  cases e
  refine tcb1 (TL.use re rs e1 fun a vs H1 m1 F1 g1 re1 rs1 h1 h2 h3 d1 => ?_)
  exact ⟨a, vs, rfl, .inl ⟨.inl (.inl h1), done_tup rs1 h2 d1 fun w H' m' F' g' => q w H' m' F' (g1.trans g')⟩⟩
/-- any, all of a list just made -/
theorem e_any {ca : Rho → St → R (List D)} {e : Expr} {p pos : Pos} (g : Good c cl ps k sc cs X) (hg : glB sc "any" = true) (he : PE X e (TL X.K ca)) (hs : notStar e = true) :
    PE X (.Call (.Name "any" p) [e] [] pos) (T X.K fun ρ st => bnd (ca ρ st) fun xs st => match bools xs with
      | some bs => some (.bl (bs.any id), st)
      | none => none) := by
  refine (pe_callB (cr_any g.calm) (gl_of g hg) (g.free "any" (by simp [builtinNames])) (by decide +kernel) (pa_cons he pa_nil (star_of hs)) (by decide) (by decide) (star_of hs)).imp fun σ H Q h => ?_
  obtain ⟨ρ, st, m, F, d, st', re, rs, e, q⟩ := h
  obtain ⟨xs, st1, e1, e⟩ := bnd_eq e
  split at e
  · rename_i bs hb
    cases e
    refine tcb1 (TL.use re rs e1 fun a vs H1 m1 F1 g1 re1 rs1 h1 h2 h3 d1 => ?_)
    have := d1.bools hb
    subst this
    exact ⟨a, bs, rfl, .inl (.inl h1), q _ _ _ _ g1 rs1 (.bl _)⟩
  · cases e
theorem e_all {ca : Rho → St → R (List D)} {e : Expr} {p pos : Pos} (g : Good c cl ps k sc cs X) (hg : glB sc "all" = true) (he : PE X e (TL X.K ca)) (hs : notStar e = true) :
    PE X (.Call (.Name "all" p) [e] [] pos) (T X.K fun ρ st => bnd (ca ρ st) fun xs st => match bools xs with
      | some bs => some (.bl (bs.all id), st)
      | none => none) := by
  refine (pe_callB (cr_all g.calm) (gl_of g hg) (g.free "all" (by simp [builtinNames])) (by decide +kernel) (pa_cons he pa_nil (star_of hs)) (by decide) (by decide) (star_of hs)).imp fun σ H Q h => ?_
  obtain ⟨ρ, st, m, F, d, st', re, rs, e, q⟩ := h
  obtain ⟨xs, st1, e1, e⟩ := bnd_eq e
  split at e
  · rename_i bs hb
    cases e
    refine tcb1 (TL.use re rs e1 fun a vs H1 m1 F1 g1 re1 rs1 h1 h2 h3 d1 => ?_)
    have := d1.bools hb
    subst this
    exact ⟨a, bs, rfl, .inl (.inl h1), q _ _ _ _ g1 rs1 (.bl _)⟩
  · cases e
/-- two arguments -/
theorem call2 {x : Str} {id : String} {r : List V → Hp → VK → Prop} {f : St → D → D → Option D} {ca cb : Rho → St → R D} {a b : Expr} {p pos : Pos} (g : Good c cl ps k sc cs X) (hc : CallR X (.builtin id) r) (hx : x ∈ builtinNames)
    (hb : bootBuiltins x = some (.builtin id)) (hn : x ≠ "__name__") (hd : (x == ("__debug__" : Str)) = false) (hg : glB sc x = true) (he : PE X a (T X.K ca)) (he2 : PE X b (T X.K cb)) (hs : notStar a = true) (hs2 : notStar b = true)
    (step : ∀ v w H Q, rOf X.K f v w H Q → r [v, w] H Q) :
    PE X (.Call (.Name x p) [a, b] [] pos) (T X.K fun ρ st => bnd (ca ρ st) fun x st => bnd (cb ρ st) fun y st => liftO st (f st x y)) :=
  (pe_callB hc (gl_of g hg) (g.free x hx) hb (pa_cons he (pa_cons he2 pa_nil (star_of hs2)) (star_of hs)) hn hd (star_of hs) (by rw [star_of hs2]; rfl)).imp fun σ H Q h =>
    T.mono (T.op2 h) fun v H1 q => T.mono q fun w H2 q2 => step v w H2 Q q2
theorem e_max {ca cb : Rho → St → R D} {a b : Expr} {p pos : Pos} (g : Good c cl ps k sc cs X) (hg : glB sc "max" = true) (he : PE X a (T X.K ca)) (he2 : PE X b (T X.K cb)) (hs : notStar a = true) (hs2 : notStar b = true) :
    PE X (.Call (.Name "max" p) [a, b] [] pos) (T X.K fun ρ st => bnd (ca ρ st) fun x st => bnd (cb ρ st) fun y st => liftO st (mxD x y)) := by
  refine call2 (f := fun _ => mxD) g (call_max2 g.calm) (by simp [builtinNames]) (by decide +kernel) (by decide) (by decide) hg he he2 hs hs2 fun v w H Q ⟨m, F, st, d, e, z, rs, rd, re, hz, q⟩ => ?_
  cases d with
  | int i =>
    cases e with
    | int j => cases rd; cases re; cases hz; exact ⟨i, j, rfl, stay rs (.int _) q⟩
    | _ => cases hz
  | _ => cases hz
theorem e_min {ca cb : Rho → St → R D} {a b : Expr} {p pos : Pos} (g : Good c cl ps k sc cs X) (hg : glB sc "min" = true) (he : PE X a (T X.K ca)) (he2 : PE X b (T X.K cb)) (hs : notStar a = true) (hs2 : notStar b = true) :
    PE X (.Call (.Name "min" p) [a, b] [] pos) (T X.K fun ρ st => bnd (ca ρ st) fun x st => bnd (cb ρ st) fun y st => liftO st (mnD x y)) := by
  refine call2 (f := fun _ => mnD) g (call_min2 g.calm) (by simp [builtinNames]) (by decide +kernel) (by decide) (by decide) hg he he2 hs hs2 fun v w H Q ⟨m, F, st, d, e, z, rs, rd, re, hz, q⟩ => ?_
  cases d with
  | int i =>
    cases e with
    | int j => cases rd; cases re; cases hz; exact ⟨i, j, rfl, stay rs (.int _) q⟩
    | _ => cases hz
  | _ => cases hz
/-! ### isinstance -/
def tyName : Ty → String
  | .int => "int"
  | .bool => "bool"
  | .tuple => "tuple"
  | .str => "str"
def tyStr : Ty → Str
  | .int => "int"
  | .bool => "bool"
  | .tuple => "tuple"
  | .str => "str"
theorem tyBoot (t : Ty) : bootBuiltins (tyStr t) = some (.type (tyName t)) := by cases t <;> decide +kernel
theorem tyFree (t : Ty) : tyStr t ∈ builtinNames := by cases t <;> simp [builtinNames, tyStr]
theorem kit_none (t : Ty) : kitB "NoneType" (tyName t) = some false := by cases t <;> decide +kernel
theorem kit_bool (t : Ty) : kitB "bool" (tyName t) = some (t == .int || t == .bool) := by cases t <;> decide +kernel
theorem kit_int (t : Ty) : kitB "int" (tyName t) = some (t == .int) := by cases t <;> decide +kernel
theorem kit_str (t : Ty) : kitB "str" (tyName t) = some (t == .str) := by cases t <;> decide +kernel
theorem kit_tup (t : Ty) : kitB "tuple" (tyName t) = some (t == .tuple) := by cases t <;> decide +kernel
theorem e_isi {t : Ty} {ca : Rho → St → R D} {a : Expr} {p p2 pos : Pos} (g : Good c cl ps k sc cs X) (hg : glB sc "isinstance" = true) (hg2 : glB sc (tyStr t) = true) (he : PE X a (T X.K ca)) (hs : notStar a = true) :
    PE X (.Call (.Name "isinstance" p) [a, .Name (tyStr t) p2] [] pos) (T X.K fun ρ st => bnd (ca ρ st) fun x st => liftO st ((isiD t x).map .bl)) := by
  have ht : PE X (.Name (tyStr t) p2) (tC (.ty (tyName t))) := pe_bltn (gl_of g hg2) (g.free _ (tyFree t)) (tyBoot t) rfl (by cases t <;> decide) (by cases t <;> decide)
  refine (pe_callB call_isi (gl_of g hg) (g.free "isinstance" (by simp [builtinNames])) (by decide +kernel) (pa_cons he (pa_cons ht pa_nil) (star_of hs)) (by decide) (by decide) (star_of hs)).imp fun σ H Q h => ?_
  refine T.mono (T.op1 (f := fun _ x => (isiD t x).map .bl) h) fun v H1 q => ?_
  obtain ⟨m, F, st, d, z, rs, rd, hz, q⟩ := q
  obtain ⟨b, hb, rfl⟩ := Option.map_eq_some_iff.mp (show (isiD t d).map D.bl = some z from hz)
  have fin : ∀ ty, TyX X.K H1 v (.type ty) → kitB ty (tyName t) = some b → ∃ x cc tt u b, [v, V.ty (tyName t)] = [x, cc] ∧ ClsV cc u ∧ TyX X.K H1 x tt ∧ PySem.W.kitOne X.K tt u = some b ∧ Q (.bl b) H1 :=
    fun ty h1 h2 => ⟨v, _, _, _, b, rfl, .ty _, h1, kit_ty h2, stay rs (.bl b) q⟩
  cases d with
  | non => cases rd; cases hb; exact fin _ (.base .non) (kit_none t)
  | bl y => cases rd; cases hb; exact fin _ (.base (.bl y)) (kit_bool t)
  | int y => cases rd; cases hb; exact fin _ (.base (.int y)) (kit_int t)
  | str y => cases rd; cases hb; exact fin _ (.base (.str y)) (kit_str t)
  | tup xs =>
    cases hb
    cases rd with
    | tup h1 h2 h3 =>
      obtain ⟨o, h1, _⟩ := h1
      exact fin _ (.fTuple h1) (kit_tup t)
  | _ => cases hb
/-! ### items, slices -/
theorem atI_at {α : Type} {xs : List α} {i : Int} {y : α} (h : atI xs i = some y) : ∃ j, ixN xs.length i = some j ∧ xs[j]? = some y := by
  unfold atI at h
  cases e : ixN xs.length i with
  | none => rw [e] at h; cases h
  | some j => rw [e] at h; exact ⟨j, rfl, h⟩
theorem atI_of {α : Type} {xs : List α} {i : Int} {j : Nat} {y : α} (h : ixN xs.length i = some j) (e : xs[j]? = some y) : atI xs i = some y := by
  unfold atI
  rw [h]
  exact e
theorem ix_all : IxR X (rOf X.K idxD) := by
  have ho := ix_seq (X := X)
  intro value slice pins s σ H x y v u Q I rx ry h hsub
  obtain ⟨m, F, st, d, e, z, rs, rd, re, hz, k⟩ := h
  cases e with
  | int i =>
    cases re
    have seq : ∀ xs, seqOf st d = some xs → atD xs i = some z → rIx X.K x (.int i) H Q := by
      intro xs hx hz
      obtain ⟨a, vs, rfl, h, hl, r⟩ := seq_of rs rd hx
      obtain ⟨j, h1, h2⟩ := atI_at hz
      obtain ⟨w, h3, h4⟩ := r.get h2
      have q : Q w H := stay rs h4 k
      have at_ : atI vs i = some w := atI_of (by rw [← r.length]; exact h1) h3
      rcases h with ⟨_, _, h⟩ | ⟨_, h⟩
      · exact .inr (.inl ⟨a, vs, i, w, rfl, rfl, h, at_, q⟩)
      · exact .inl ⟨a, vs, i, w, rfl, rfl, .inl (.inl h), at_, q⟩
    refine ho value slice pins s σ H x _ v u Q I rx ry ?_ hsub
    cases d with
    | scr ns =>
      obtain ⟨j, hj, rfl⟩ := Option.map_eq_some_iff.mp (show (atI ns i).map D.int = some z from hz)
      obtain ⟨n, h1, h2⟩ := atI_at hj
      have at_ : atI (ns.map V.int) i = some (.int j) := atI_of (by rw [List.length_map]; exact h1) (by rw [List.getElem?_map, h2]; rfl)
      cases rd with
      | scrF h l => exact .inl ⟨_, _, i, _, rfl, rfl, .inl (.inr ⟨_, h⟩), at_, stay rs (.int j) k⟩
      | scrK h l => exact .inl ⟨_, _, i, _, rfl, rfl, h H, at_, stay rs (.int j) k⟩
    | tup xs => exact seq xs rfl hz
    | lst xs => exact seq xs rfl hz
    | ref n =>
      have hz' : (match seqOf st (.ref n) with
        | some xs => atD xs i
        | none => none) = some z := hz
      cases e : seqOf st (.ref n) with
      | none => rw [e] at hz'; cases hz'
      | some xs => rw [e] at hz'; exact seq xs e hz'
    | non => simp [idxD, seqOf] at hz
    | bl _ => simp [idxD, seqOf] at hz
    | int _ => simp [idxD, seqOf] at hz
    | str _ => simp [idxD, seqOf] at hz
  | _ => cases d <;> simp [idxD] at hz
theorem e_idx {ca cb : Rho → St → R D} {a b : Expr} {pos : Pos} (he : PE X a (T X.K ca)) (he2 : PE X b (T X.K cb)) (hs : notSlice b = true) :
    PE X (.Subscript a b pos) (T X.K fun ρ st => bnd (ca ρ st) fun x st => bnd (cb ρ st) fun y st => liftO st (idxD st x y)) :=
  (pe_ix ix_all he he2 (plain_of hs)).imp fun σ H Q h => T.op2 h
theorem RDs.cut {K : PySem.W.Frag} {m : List Addr} {F : FP} {H : Hp} {xs : List D} {vs : List V} (r : RDs K m F H xs vs) (lo hi : Option Int) : RDs K m F H (cutD xs lo hi) (cutV vs lo hi) := by
  unfold cutD cutV
  rw [r.length]
  exact (r.drop _).take _
theorem cut_le (vs : List V) (lo hi : Option Int) (h : vs.length ≤ cap) : (cutV vs lo hi).length ≤ cap := Nat.le_trans (cutV_length vs lo hi) h
/-- the whole slice -/
theorem cut_all {vs : List D} {lo hi : Option Int} (h1 : HT.sIx vs.length 0 lo = 0) (h2 : HT.sIx vs.length vs.length hi = vs.length) : cutD vs lo hi = vs := by
  unfold cutD
  rw [h1, h2]
  simp
/-- x[lo:hi] of a list, a tuple -/
def rSlD (K : PySem.W.Frag) : V → Option Int → Option Int → Hp → VK → Prop := fun x lo hi H Q => ∃ m F st d z, RSt K m F H st ∧ RD K m F H d x ∧ sliceD st d lo hi = some z ∧
  ∀ w H' m' F', Gro m F H m' F' H' → RSt K m' F' H' st → RD K m' F' H' z w → Q w H'
theorem sl_all : SlR X (rSlD X.K) := by
  intro pins s σ H x v vl vu lo hi sl Q I rx hs pl pu h
  obtain ⟨m, F, st, d, z, rs, rd, hz, q⟩ := h
  have lst : ∀ xs, lstOf st d = some xs → z = .lst (cutD xs lo hi) → rSlL X.K x lo hi H Q := by
    intro xs hx hz
    subst hz
    obtain ⟨a, vs, rfl, h, hl, r⟩ := lst_of rs rd hx
    exact ⟨a, vs, rfl, .inl (.inl h), fun p hp => done_lst rs (cut_le vs lo hi hl) (r.cut lo hi) hp q⟩
  cases d with
  | tup xs =>
    cases hz
    cases rd with
    | tup h hl r =>
      rename_i a vs
      refine sl_tupX pins s σ H _ v vl vu lo hi sl Q I rx hs pl pu ⟨a, vs, rfl, h.sqT, fun ⟨e1, e2⟩ => ?_, fun _ => done_tup rs (cut_le vs lo hi hl) (r.cut lo hi) q⟩
      rw [← r.length] at e1 e2
      rw [cut_all e1 e2] at q
      exact stay rs (.tup h hl r) q
  | lst xs => exact sl_list pins s σ H _ v vl vu lo hi sl Q I rx hs pl pu (lst xs rfl (by cases hz; rfl))
  | ref n =>
    obtain ⟨xs, h1, h2⟩ := Option.map_eq_some_iff.mp (show (seqOf st (.ref n)).map (fun xs => D.lst (cutD xs lo hi)) = some z from hz)
    exact sl_list pins s σ H _ v vl vu lo hi sl Q I rx hs pl pu (lst xs h1 h2.symm)
  | _ => simp [sliceD, seqOf] at hz
theorem e_slice {ca : Rho → St → R D} {cl1 ch : Rho → St → R (Option Int)} {a : Expr} {lo hi : Option Expr} {p2 pos : Pos} (he : PE X a (T X.K ca)) (h1 : PO X lo (TO_ X.K cl1)) (h2 : PO X hi (TO_ X.K ch)) :
    PE X (.Subscript a (.Slice lo hi none p2) pos) (T X.K fun ρ st => bnd (ca ρ st) fun x st => bnd (cl1 ρ st) fun l st => bnd (ch ρ st) fun h st => liftO st (sliceD st x l h)) := by
  refine (pe_slice sl_all he h1 h2).imp fun σ H Q h => ?_
  obtain ⟨ρ, st, m, F, d, st', re, rs, e, q⟩ := h
  obtain ⟨x, st1, e1, e⟩ := bnd_eq e
  obtain ⟨l, st2, e2, e⟩ := bnd_eq e
  obtain ⟨u, st3, e3, e⟩ := bnd_eq e
  obtain ⟨e4, e5⟩ := liftO_eq e
  have e5' : st' = st3 := e5
  subst e5'
  refine T.use re rs e1 fun v H1 m1 F1 g1 re1 rs1 d1 => TO_.use re1 rs1 e2 fun H2 m2 F2 g2 re2 rs2 => TO_.use re2 rs2 e3 fun H3 m3 F3 g3 re3 rs3 => ?_
  exact ⟨m3, F3, st', x, d, rs3, d1.mono (g2.trans g3), e4, fun w H' m' F' g' => q w H' m' F' (((g1.trans g2).trans g3).trans g')⟩
theorem l_slice {ca : Rho → St → R D} {cl1 ch : Rho → St → R (Option Int)} {a : Expr} {lo hi : Option Expr} {p2 pos : Pos} (he : PE X a (T X.K ca)) (h1 : PO X lo (TO_ X.K cl1)) (h2 : PO X hi (TO_ X.K ch)) :
    PE X (.Subscript a (.Slice lo hi none p2) pos) (TL X.K fun ρ st => bnd (ca ρ st) fun x st => bnd (cl1 ρ st) fun l st => bnd (ch ρ st) fun h st => liftO st ((lstOf st x).map fun xs => cutD xs l h)) := by
  refine (pe_slice sl_list he h1 h2).imp fun σ H Q h => ?_
  obtain ⟨ρ, st, m, F, d, st', re, rs, e, q⟩ := h
  obtain ⟨x, st1, e1, e⟩ := bnd_eq e
  obtain ⟨l, st2, e2, e⟩ := bnd_eq e
  obtain ⟨u, st3, e3, e⟩ := bnd_eq e
  obtain ⟨e4, e5⟩ := liftO_eq e
  have e5' : st' = st3 := e5
  subst e5'
  obtain ⟨xs, hx, rfl⟩ := Option.map_eq_some_iff.mp e4
  refine T.use re rs e1 fun v H1 m1 F1 g1 re1 rs1 d1 => TO_.use re1 rs1 e2 fun H2 m2 F2 g2 re2 rs2 => TO_.use re2 rs2 e3 fun H3 m3 F3 g3 re3 rs3 => ?_
  obtain ⟨a, vs, rfl, h, hl, r⟩ := lst_of rs3 (d1.mono (g2.trans g3)) hx
  exact ⟨a, vs, rfl, .inl (.inl h), fun p hp => done_new rs3 (cut_le vs l u hl) (r.cut l u) hp fun a vs H' m' F' g' => q a vs H' m' F' (((g1.trans g2).trans g3).trans g')⟩
end
end MM

end

section
set_option maxRecDepth 100000
set_option maxHeartbeats 4000000
/-! Mini machine: further expressions: truth values, tuples, calls, lists just made. -/
namespace MM
open PySem PySem.Spec PyProof.Rows L2
section
variable {c : Tb} {cl : Cl} {ps : Nat → List Str} {k : Nat} {sc : Scope} {cs : Cs} {X : Cx}

theorem e_neg {ca : Rho → St → R D} {e : Expr} {pos : Pos} (he : PE X e (T X.K ca)) : PE X (.UnaryOp .USub e pos) (T X.K fun ρ st => bnd (ca ρ st) fun x st => liftO st (negD x)) := by
  refine (pe_un un_neg he).imp fun σ H Q h => T.mono (T.op1 (f := fun _ => negD) h) fun v H1 ⟨m, F, st, d, z, rs, rd, hz, q⟩ => ?_
  cases d with
  | int i => cases rd; cases hz; exact ⟨i, rfl, stay rs (.int _) q⟩
  | _ => cases hz
theorem e_not {ca : Rho → St → R D} {e : Expr} {pos : Pos} (he : PE X e (T X.K ca)) : PE X (.UnaryOp .Not e pos) (T X.K fun ρ st => bnd (ca ρ st) fun x st => liftO st ((truth st x).map fun b => .bl (!b))) := by
  refine (pe_notT he).imp fun σ H Q h => T.mono (T.op1 (f := fun st x => (truth st x).map fun b => .bl (!b)) h) fun v H1 ⟨m, F, st, d, z, rs, rd, hz, q⟩ => ?_
  obtain ⟨b, hb, rfl⟩ := Option.map_eq_some_iff.mp (show (truth st d).map (fun b => D.bl (!b)) = some z from hz)
  exact ⟨b, tru_of rs rd hb, stay rs (.bl _) q⟩
theorem e_bin {o : Bop} {ca cb : Rho → St → R D} {a b : Expr} {pos : Pos} (he : PE X a (T X.K ca)) (he2 : PE X b (T X.K cb)) :
    PE X (.BinOp a (bopOf o) b pos) (T X.K fun ρ st => bnd (ca ρ st) fun x st => bnd (cb ρ st) fun y st => liftO st (binD o st x y)) :=
  (pe_op (op_bin o) he he2).imp fun σ H Q h => T.op2 h
theorem e_cmp {o : Cop} {ca cb : Rho → St → R D} {a b : Expr} {pos : Pos} (g : Good c cl ps k sc cs X) (he : PE X a (T X.K ca)) (he2 : PE X b (T X.K cb)) (hs : notSet b = true) :
    PE X (.Compare a [copOf o] [b] pos) (T X.K fun ρ st => bnd (ca ρ st) fun x st => bnd (cb ρ st) fun y st => liftO st ((cmpD o st x y).map .bl)) :=
  (pe_cmpR (op_cmp g.units o) he he2 (mark_of hs)).imp fun σ H Q h => T.op2 h
/-- what a test asks -/
def tstC (ca : Rho → St → R D) : Rho → St → R Bool := fun ρ st => bnd (ca ρ st) fun x st => liftO st (truth st x)
theorem TB.use2 {K : PySem.W.Frag} {ca : Rho → St → R D} {σ : L2.St} {H : Hp} {Q : Bool → Hp → Prop} (h : TB K (tstC ca) σ H Q) :
    T K ca σ H fun v H1 => ∃ m F st d b, RSt K m F H1 st ∧ RD K m F H1 d v ∧ truth st d = some b ∧ ∀ H' m' F', Gro m F H1 m' F' H' → RSt K m' F' H' st → Q b H' := by
  obtain ⟨ρ, st, m, F, d, st', re, rs, e, q⟩ := h
  obtain ⟨x, st1, e1, e⟩ := bnd_eq e
  obtain ⟨e3, e4⟩ := liftO_eq e
  have e4' : st' = st1 := e4
  subst e4'
  refine T.use re rs e1 fun v H1 m1 F1 g1 re1 rs1 d1 => ?_
  exact ⟨m1, F1, st', x, d, rs1, d1, e3, fun H3 m3 F3 g3 rs3 => q H3 m3 F3 (g1.trans g3) rs3⟩
theorem t_plain {ca : Rho → St → R D} {e : Expr} (he : PE X e (T X.K ca)) (hp : plainTest e = true) : PT X e (TB X.K (tstC ca)) := by
  refine (pt_truth he (test_of hp _)).imp fun σ H Q h => T.mono (TB.use2 h) fun v H1 ⟨m, F, st, d, b, rs, rd, hb, q⟩ => ?_
  exact ⟨b, tru_of rs rd hb, q _ _ _ Gro.refl rs⟩
/-- the and of values whose first one is a bool -/
def andC (ca cb : Rho → St → R D) : Rho → St → R D := fun ρ st => bnd (ca ρ st) fun x st => match x with
  | .bl true => cb ρ st
  | .bl false => some (.bl false, st)
  | _ => none
def orC (ca cb : Rho → St → R D) : Rho → St → R D := fun ρ st => bnd (ca ρ st) fun x st => match x with
  | .bl true => some (.bl true, st)
  | .bl false => cb ρ st
  | _ => none
theorem e_and {ca cb : Rho → St → R D} {a b : Expr} {rest : List Expr} {pos : Pos} (he : PE X a (T X.K ca)) (he2 : PE X (.BoolOp .And (b :: rest) pos) (T X.K cb)) : PE X (.BoolOp .And (a :: b :: rest) pos) (T X.K (andC ca cb)) := by
  refine (pe_and he he2).imp fun σ H Q h => ?_
  obtain ⟨ρ, st, m, F, d, st', re, rs, e, q⟩ := h
  obtain ⟨x, st1, e1, e⟩ := bnd_eq e
  refine T.use re rs e1 fun v H1 m1 F1 g1 re1 rs1 d1 => ?_
  cases x with
  | bl b =>
    cases d1
    cases b with
    | true =>
      refine ⟨true, rfl, ?_⟩
      rw [if_pos rfl]
      exact ⟨ρ, st1, m1, F1, d, st', re1, rs1, e, fun v H' m' F' g' => q v H' m' F' (g1.trans g')⟩
    | false =>
      refine ⟨false, rfl, ?_⟩
      rw [if_neg (by decide)]
      cases e
      exact q _ _ _ _ g1 rs1 (.bl _)
  | _ => cases e
theorem e_or {ca cb : Rho → St → R D} {a b : Expr} {rest : List Expr} {pos : Pos} (he : PE X a (T X.K ca)) (he2 : PE X (.BoolOp .Or (b :: rest) pos) (T X.K cb)) : PE X (.BoolOp .Or (a :: b :: rest) pos) (T X.K (orC ca cb)) := by
  refine (pe_or he he2).imp fun σ H Q h => ?_
  obtain ⟨ρ, st, m, F, d, st', re, rs, e, q⟩ := h
  obtain ⟨x, st1, e1, e⟩ := bnd_eq e
  refine T.use re rs e1 fun v H1 m1 F1 g1 re1 rs1 d1 => ?_
  cases x with
  | bl b =>
    cases d1
    cases b with
    | true =>
      refine ⟨true, rfl, ?_⟩
      rw [if_pos rfl]
      cases e
      exact q _ _ _ _ g1 rs1 (.bl _)
    | false =>
      refine ⟨false, rfl, ?_⟩
      rw [if_neg (by decide)]
      exact ⟨ρ, st1, m1, F1, d, st', re1, rs1, e, fun v H' m' F' g' => q v H' m' F' (g1.trans g')⟩
  | _ => cases e
/-- .. as tests -/
theorem tst_and {ca cb : Rho → St → R D} {ρ : Rho} {st : St} {r : Bool × St} (e : tstC (andC ca cb) ρ st = some r) :
    ∃ b st1, tstC ca ρ st = some (b, st1) ∧ (b = true ∧ tstC cb ρ st1 = some r ∨ b = false ∧ r = (false, st1)) := by
  obtain ⟨z, st2, e1, e⟩ := bnd_eq e
  obtain ⟨x, st1, e2, e1⟩ := bnd_eq e1
  cases x with
  | bl b =>
    refine ⟨b, st1, by simp [tstC, e2, truth, liftO], ?_⟩
    cases b with
    | true =>
      have e1' : cb ρ st1 = some (z, st2) := e1
      exact .inl ⟨rfl, by simp only [tstC, e1', bnd_some]; exact e⟩
    | false =>
      cases e1
      cases e
      exact .inr ⟨rfl, rfl⟩
  | _ => cases e1
theorem tst_or {ca cb : Rho → St → R D} {ρ : Rho} {st : St} {r : Bool × St} (e : tstC (orC ca cb) ρ st = some r) :
    ∃ b st1, tstC ca ρ st = some (b, st1) ∧ (b = false ∧ tstC cb ρ st1 = some r ∨ b = true ∧ r = (true, st1)) := by
  obtain ⟨z, st2, e1, e⟩ := bnd_eq e
  obtain ⟨x, st1, e2, e1⟩ := bnd_eq e1
  cases x with
  | bl b =>
    refine ⟨b, st1, by simp [tstC, e2, truth, liftO], ?_⟩
    cases b with
    | false =>
      have e1' : cb ρ st1 = some (z, st2) := e1
      exact .inl ⟨rfl, by simp only [tstC, e1', bnd_some]; exact e⟩
    | true =>
      cases e1
      cases e
      exact .inr ⟨rfl, rfl⟩
  | _ => cases e1
theorem t_and {ca cb : Rho → St → R D} {a b : Expr} {rest : List Expr} {pos : Pos} (he : PT X a (TB X.K (tstC ca))) (he2 : PW X (.BoolOp .And (b :: rest) pos) (TB X.K (tstC cb))) :
    PW X (.BoolOp .And (a :: b :: rest) pos) (TB X.K (tstC (andC ca cb))) := by
  have h0 := pw_and he he2
  refine ⟨fun wh pins s σ H Q I h => h0.run wh pins s σ H Q I ?_⟩
  obtain ⟨ρ, st, m, F, d, st', re, rs, e, q⟩ := h
  obtain ⟨b, st1, e1, e2⟩ := tst_and e
  refine TB.use re rs e1 fun H1 m1 F1 g1 re1 rs1 => ?_
  rcases e2 with ⟨rfl, e2⟩ | ⟨rfl, e2⟩
  · rw [if_pos rfl]
    exact ⟨ρ, st1, m1, F1, d, st', re1, rs1, e2, fun H' m' F' g' => q H' m' F' (g1.trans g')⟩
  · rw [if_neg (by decide)]
    cases e2
    exact q _ _ _ g1 rs1
theorem t_or {ca cb : Rho → St → R D} {a b : Expr} {rest : List Expr} {pos : Pos} (he : PT X a (TB X.K (tstC ca))) (he2 : PW X (.BoolOp .Or (b :: rest) pos) (TB X.K (tstC cb))) :
    PW X (.BoolOp .Or (a :: b :: rest) pos) (TB X.K (tstC (orC ca cb))) := by
  have h0 := pw_or he he2
  refine ⟨fun wh pins s σ H Q I h => h0.run wh pins s σ H Q I ?_⟩
  obtain ⟨ρ, st, m, F, d, st', re, rs, e, q⟩ := h
  obtain ⟨b, st1, e1, e2⟩ := tst_or e
  refine TB.use re rs e1 fun H1 m1 F1 g1 re1 rs1 => ?_
  rcases e2 with ⟨rfl, e2⟩ | ⟨rfl, e2⟩
  · rw [if_neg (by decide)]
    exact ⟨ρ, st1, m1, F1, d, st', re1, rs1, e2, fun H' m' F' g' => q H' m' F' (g1.trans g')⟩
  · rw [if_pos rfl]
    cases e2
    exact q _ _ _ g1 rs1
theorem t_not {ca : Rho → St → R D} {e : Expr} {pos : Pos} (he : PT X e (TB X.K (tstC ca))) : PT X (.UnaryOp .Not e pos) (TB X.K (tstC fun ρ st => bnd (ca ρ st) fun x st => liftO st ((truth st x).map fun b => .bl (!b)))) := by
  refine (pt_not he).imp fun σ H Q h => ?_
  obtain ⟨ρ, st, m, F, d, st', re, rs, e, q⟩ := h
  obtain ⟨z, st2, e1, e⟩ := bnd_eq e
  obtain ⟨x, st1, e2, e1⟩ := bnd_eq e1
  obtain ⟨e3, e4⟩ := liftO_eq e1
  obtain ⟨b, hb, hz⟩ := Option.map_eq_some_iff.mp e3
  have hz' : z = .bl (!b) := hz.symm
  have e4' : st2 = st1 := e4
  subst hz' e4'
  cases e
  refine TB.use re rs (show tstC ca ρ st = some (b, st') by simp [tstC, e2, hb, liftO]) fun H1 m1 F1 g1 re1 rs1 => q _ _ _ g1 rs1
theorem t_cmp {o : Cop} {ca cb : Rho → St → R D} {a b : Expr} {pos : Pos} (g : Good c cl ps k sc cs X) (he : PE X a (T X.K ca)) (he2 : PE X b (T X.K cb)) (hs : notSet b = true) :
    PT X (.Compare a [copOf o] [b] pos) (TB X.K (tstC fun ρ st => bnd (ca ρ st) fun x st => bnd (cb ρ st) fun y st => liftO st ((cmpD o st x y).map .bl))) := by
  refine (pt_cmpR (op_cmp g.units o) he he2 (mark_of hs)).imp fun σ H Q h => ?_
  have h2 : T X.K (fun ρ st => bnd (ca ρ st) fun x st => bnd (cb ρ st) fun y st => liftO st ((cmpD o st x y).map .bl)) σ H fun v H1 => ∃ b, v = .bl b ∧ Q b H1 := by
    obtain ⟨ρ, st, m, F, d, st', re, rs, e, q⟩ := h
    obtain ⟨z, st2, e1, e⟩ := bnd_eq e
    have e1' := e1
    obtain ⟨x, st3, _, e1⟩ := bnd_eq e1
    obtain ⟨y, st4, _, e1⟩ := bnd_eq e1
    obtain ⟨e3, e4⟩ := liftO_eq e1
    obtain ⟨r, hr, hz⟩ := Option.map_eq_some_iff.mp e3
    have hz' : z = .bl r := hz.symm
    subst hz'
    cases e
    exact ⟨ρ, st, m, F, _, _, re, rs, e1', fun v H' m' F' g' rs' d' => by
      cases d'
      exact ⟨_, rfl, q _ _ _ g' rs'⟩⟩
  exact T.op2 (f := fun st x y => (cmpD o st x y).map .bl) h2
/-! ### chains -/
def chnC (o p : Cop) (ca cb cc : Rho → St → R D) : Rho → St → R D := fun ρ st => bnd (ca ρ st) fun x st => bnd (cb ρ st) fun y st => match cmpD o st x y with
  | some true => bnd (cc ρ st) fun z st => liftO st ((cmpD p st y z).map .bl)
  | some false => some (.bl false, st)
  | none => none
theorem rOf_bl {K : PySem.W.Frag} {m : List Addr} {F : FP} {H : Hp} {st : St} {o : Cop} {x y : D} {v w : V} {b : Bool} {Q : VK} (rs : RSt K m F H st) (rx : RD K m F H x v) (ry : RD K m F H y w) (e : cmpD o st x y = some b)
    (q : ∀ H' m' F', Gro m F H m' F' H' → RSt K m' F' H' st → Q (.bl b) H') : rOf K (fun st x y => (cmpD o st x y).map .bl) v w H Q :=
  ⟨m, F, st, x, y, .bl b, rs, rx, ry, by simp [e], fun w H' m' F' g rs' d' => by cases d'; exact q _ _ _ g rs'⟩
theorem chn_ok {K : PySem.W.Frag} {o p : Cop} {ca cb cc : Rho → St → R D} {σ : L2.St} {H : Hp} {Q : Bool → Hp → Prop} (h : TB K (tstC (chnC o p ca cb cc)) σ H Q) :
    tChain (rOf K fun st x y => (cmpD o st x y).map .bl) (rOf K fun st x y => (cmpD p st x y).map .bl) (T K ca) (T K cb) (T K cc) σ H fun v H1 => ∃ b, v = .bl b ∧ Q b H1 := by
  obtain ⟨ρ, st, m, F, d, st', re, rs, e, q⟩ := h
  obtain ⟨z, st2, e1, e⟩ := bnd_eq e
  obtain ⟨x, st3, ex, e1⟩ := bnd_eq e1
  obtain ⟨y, st4, ey, e1⟩ := bnd_eq e1
  refine T.use re rs ex fun v H1 m1 F1 g1 re1 rs1 d1 => T.use re1 rs1 ey fun w H2 m2 F2 g2 re2 rs2 d2 => ?_
  split at e1
  · rename_i hc
    refine rOf_bl rs2 (d1.mono g2) d2 hc fun H3 m3 F3 g3 rs3 => ⟨true, rfl, ?_⟩
    rw [if_pos rfl]
    obtain ⟨u, st5, eu, e1⟩ := bnd_eq e1
    obtain ⟨e3, e4⟩ := liftO_eq e1
    obtain ⟨r, hr, hz⟩ := Option.map_eq_some_iff.mp e3
    have hz' : z = .bl r := hz.symm
    have e4' : st2 = st5 := e4
    subst hz' e4'
    cases e
    refine T.use (re2.mono g3) rs3 eu fun v4 H4 m4 F4 g4 re4 rs4 d4 => ?_
    exact rOf_bl rs4 (d2.mono (g3.trans g4)) d4 hr fun H5 m5 F5 g5 rs5 => ⟨_, rfl, q _ _ _ ((((g1.trans g2).trans g3).trans g4).trans g5) rs5⟩
  · rename_i hc
    cases e1
    cases e
    refine rOf_bl rs2 (d1.mono g2) d2 hc fun H3 m3 F3 g3 rs3 => ⟨false, rfl, ?_⟩
    rw [if_neg (by decide)]
    exact ⟨_, rfl, q _ _ _ ((g1.trans g2).trans g3) rs3⟩
  · cases e1
theorem chn_bl {o p : Cop} {ca cb cc : Rho → St → R D} {ρ : Rho} {st st' : St} {d : D} (e : chnC o p ca cb cc ρ st = some (d, st')) : ∃ b, d = .bl b := by
  obtain ⟨x, st3, ex, e⟩ := bnd_eq e
  obtain ⟨y, st4, ey, e⟩ := bnd_eq e
  split at e
  · obtain ⟨u, st5, eu, e⟩ := bnd_eq e
    obtain ⟨e3, e4⟩ := liftO_eq e
    obtain ⟨r, hr, hz⟩ := Option.map_eq_some_iff.mp e3
    exact ⟨r, hz.symm⟩
  · cases e
    exact ⟨_, rfl⟩
  · cases e
theorem chain_mono {r r' : R2} {K : PySem.W.Frag} {ca cb cc : Rho → St → R D} {σ : L2.St} {H : Hp} {Q Q' : VK} (hr : ∀ x y H Q Q', (∀ v H, Q v H → Q' v H) → r x y H Q → r x y H Q') (hr' : ∀ x y H Q Q', (∀ v H, Q v H → Q' v H) → r' x y H Q → r' x y H Q')
    (h : tChain r r' (T K ca) (T K cb) (T K cc) σ H Q) (i : ∀ v H, Q v H → Q' v H) : tChain r r' (T K ca) (T K cb) (T K cc) σ H Q' := by
  refine T.mono h fun x H1 h => T.mono h fun y H2 h => hr _ _ _ _ _ (fun z H3 ⟨k, e, h⟩ => ⟨k, e, ?_⟩) h
  cases k with
  | true =>
    rw [if_pos rfl] at h ⊢
    exact T.mono h fun w H4 h => hr' _ _ _ _ _ i h
  | false =>
    rw [if_neg (by decide)] at h ⊢
    exact i _ _ h
theorem rOf_mono {K : PySem.W.Frag} {f : St → D → D → Option D} (x y : V) (H : Hp) (Q Q' : VK) (i : ∀ v H, Q v H → Q' v H) (h : rOf K f x y H Q) : rOf K f x y H Q' := by
  obtain ⟨m, F, st, d, e, z, h1, h2, h3, h4, h5⟩ := h
  exact ⟨m, F, st, d, e, z, h1, h2, h3, h4, fun w H' m' F' g rs r => i _ _ (h5 w H' m' F' g rs r)⟩
theorem marks_of {o p : CmpOp} {b c : Expr} (hc : notSet c = true) : lastMarks [o, p] [b, c] = false := by
  show behindInMarks p c = false
  exact mark_of hc
theorem e_chn {o p : Cop} {ca cb cc : Rho → St → R D} {a b d : Expr} {pos : Pos} (g : Good c cl ps k sc cs X) (h1 : PE X a (T X.K ca)) (h2 : PE X b (T X.K cb)) (h3 : PE X d (T X.K cc)) (hs : notSet d = true) :
    PE X (.Compare a [copOf o, copOf p] [b, d] pos) (T X.K (chnC o p ca cb cc)) := by
  refine (pe_chain (op_cmp g.units o) (op_cmp g.units p) h1 h2 h3 (marks_of hs)).imp fun σ H Q h => ?_
  have h' : TB X.K (tstC (chnC o p ca cb cc)) σ H fun b H1 => Q (.bl b) H1 := by
    obtain ⟨ρ, st, m, F, d, st', re, rs, e, q⟩ := h
    obtain ⟨b, rfl⟩ := chn_bl e
    exact ⟨ρ, st, m, F, b, st', re, rs, by simp [tstC, e, truth, liftO], fun H' m' F' g' rs' => q _ _ _ _ g' rs' (.bl b)⟩
  exact chain_mono rOf_mono rOf_mono (chn_ok h') fun v H ⟨b, e, q⟩ => by subst e; exact q
theorem t_chn {o p : Cop} {ca cb cc : Rho → St → R D} {a b d : Expr} {pos : Pos} (g : Good c cl ps k sc cs X) (h1 : PE X a (T X.K ca)) (h2 : PE X b (T X.K cb)) (h3 : PE X d (T X.K cc)) (hs : notSet d = true) :
    PT X (.Compare a [copOf o, copOf p] [b, d] pos) (TB X.K (tstC (chnC o p ca cb cc))) :=
  (pt_chain (op_cmp g.units o) (op_cmp g.units p) h1 h2 h3 (marks_of hs)).imp fun σ H Q h => chn_ok h
/-! ### if .. else -/
def iteC (cc ca cb : Rho → St → R D) : Rho → St → R D := fun ρ st => bnd (cc ρ st) fun x st => match truth st x with
  | some true => ca ρ st
  | some false => cb ρ st
  | none => none
theorem ite_inv {α : Type} {cc : Rho → St → R D} {fa fb : Rho → St → R α} {ρ : Rho} {st : St} {r : α × St} (e : (bnd (cc ρ st) fun x st => match truth st x with
    | some true => fa ρ st
    | some false => fb ρ st
    | none => none) = some r) : ∃ b st1, tstC cc ρ st = some (b, st1) ∧ (if b = true then fa ρ st1 else fb ρ st1) = some r := by
  obtain ⟨x, st1, e1, e⟩ := bnd_eq e
  split at e
  · rename_i h
    exact ⟨true, st1, by simp [tstC, e1, h, liftO], by rw [if_pos rfl]; exact e⟩
  · rename_i h
    exact ⟨false, st1, by simp [tstC, e1, h, liftO], by rw [if_neg (by decide)]; exact e⟩
  · cases e
theorem e_ite {cc ca cb : Rho → St → R D} {d a b : Expr} {pos : Pos} (hc : PT X d (TB X.K (tstC cc))) (h1 : PE X a (T X.K ca)) (h2 : PE X b (T X.K cb)) : PE X (.IfExp d a b pos) (T X.K (iteC cc ca cb)) := by
  refine (pe_ifExp hc h1 h2).imp fun σ H Q h => ?_
  obtain ⟨ρ, st, m, F, d, st', re, rs, e, q⟩ := h
  obtain ⟨b, st1, e1, e2⟩ := ite_inv e
  refine TB.use re rs e1 fun H1 m1 F1 g1 re1 rs1 => ?_
  cases b with
  | true =>
    rw [if_pos rfl] at e2 ⊢
    exact ⟨ρ, st1, m1, F1, d, st', re1, rs1, e2, fun v H' m' F' g' => q v H' m' F' (g1.trans g')⟩
  | false =>
    rw [if_neg (by decide)] at e2 ⊢
    exact ⟨ρ, st1, m1, F1, d, st', re1, rs1, e2, fun v H' m' F' g' => q v H' m' F' (g1.trans g')⟩
theorem l_ite {cc : Rho → St → R D} {ca cb : Rho → St → R (List D)} {d a b : Expr} {pos : Pos} (hc : PT X d (TB X.K (tstC cc))) (h1 : PE X a (TL X.K ca)) (h2 : PE X b (TL X.K cb)) : PE X (.IfExp d a b pos) (TL X.K fun ρ st => bnd (cc ρ st) fun x st => match truth st x with
    | some true => ca ρ st
    | some false => cb ρ st
    | none => none) := by
  refine (pe_ifExp hc h1 h2).imp fun σ H Q h => ?_
  obtain ⟨ρ, st, m, F, d, st', re, rs, e, q⟩ := h
  obtain ⟨b, st1, e1, e2⟩ := ite_inv e
  refine TB.use re rs e1 fun H1 m1 F1 g1 re1 rs1 => ?_
  cases b with
  | true =>
    rw [if_pos rfl] at e2 ⊢
    exact ⟨ρ, st1, m1, F1, d, st', re1, rs1, e2, fun a vs H' m' F' g' => q a vs H' m' F' (g1.trans g')⟩
  | false =>
    rw [if_neg (by decide)] at e2 ⊢
    exact ⟨ρ, st1, m1, F1, d, st', re1, rs1, e2, fun a vs H' m' F' g' => q a vs H' m' F' (g1.trans g')⟩
/-! ### arguments, tuples, displays -/
def nilC : Rho → St → R (List D) := fun _ st => some ([], st)
def consC (ca : Rho → St → R D) (cr : Rho → St → R (List D)) : Rho → St → R (List D) := fun ρ st => bnd (ca ρ st) fun d st => bnd (cr ρ st) fun ds st => some (d :: ds, st)
theorem a_nil : PA X [] (TEs X.K nilC) := pa_nil.imp fun σ H Q ⟨ρ, st, m, F, d, st', re, rs, e, q⟩ => by
  cases e
  exact q _ _ _ _ Gro.refl rs .nil
theorem a_cons {ca : Rho → St → R D} {cr : Rho → St → R (List D)} {e : Expr} {es : List Expr} (h1 : PE X e (T X.K ca)) (h2 : PA X es (TEs X.K cr)) (hs : notStar e = true) : PA X (e :: es) (TEs X.K (consC ca cr)) := by
  refine (pa_cons h1 h2 (star_of hs)).imp fun σ H Q h => ?_
  obtain ⟨ρ, st, m, F, d, st', re, rs, e, q⟩ := h
  obtain ⟨x, st1, e1, e⟩ := bnd_eq e
  obtain ⟨xs, st2, e2, e⟩ := bnd_eq e
  cases e
  refine T.use re rs e1 fun v H1 m1 F1 g1 re1 rs1 d1 => TEs.use re1 rs1 e2 fun vs H2 m2 F2 g2 re2 rs2 d2 => ?_
  exact q _ _ _ _ (g1.trans g2) rs2 (.cons (d1.mono g2) d2)
theorem es_len {cr : Rho → St → R (List D)} : True := trivial
theorem e_tup {cr : Rho → St → R (List D)} {es : List Expr} {j : Nat} {pos : Pos} (h : PA X es (TEs X.K cr)) (hl : ∀ ρ st r, cr ρ st = some r → r.1.length ≤ cap) : PE X (.Tuple es j pos) (T X.K fun ρ st => bnd (cr ρ st) fun ds st => some (.tup ds, st)) := by
  refine (pe_tupX h).imp fun σ H Q h => ?_
  obtain ⟨ρ, st, m, F, d, st', re, rs, e, q⟩ := h
  obtain ⟨x, st1, e1, e⟩ := bnd_eq e
  cases e
  refine TEs.use re rs e1 fun vs H1 m1 F1 g1 re1 rs1 d1 => ?_
  have hl' : vs.length ≤ cap := by rw [← d1.length]; exact hl _ _ _ e1
  exact ⟨SqS.line hl', done_tup rs1 hl' d1 fun w H' m' F' g' => q w H' m' F' (g1.trans g')⟩
theorem l_disp {cr : Rho → St → R (List D)} {es : List Expr} {pos : Pos} (h : PA X es (TEs X.K cr)) (hl : ∀ ρ st r, cr ρ st = some r → r.1.length ≤ cap) : PE X (.List es pos) (TL X.K cr) := by
  refine (pe_lst h).imp fun σ H Q h => ?_
  obtain ⟨ρ, st, m, F, d, st', re, rs, e, q⟩ := h
  refine TEs.use re rs e fun vs H1 m1 F1 g1 re1 rs1 d1 => ?_
  have hl' : vs.length ≤ cap := by rw [← d1.length]; exact hl _ _ _ e
  exact ⟨SqS.line hl', fun p hp => done_new rs1 hl' d1 hp fun a vs H' m' F' g' => q a vs H' m' F' (g1.trans g')⟩
theorem addL_inv {st : St} {x y : D} {d : List D} (h : addL st x y = some d) : ∃ xs ys, lstOf st x = some xs ∧ lstOf st y = some ys ∧ xs.length + ys.length ≤ cap ∧ d = xs ++ ys := by
  unfold addL at h
  split at h
  · rename_i xs ys h1 h2
    split at h
    · rename_i hc
      cases h
      exact ⟨xs, ys, h1, h2, of_decide_eq_true hc, rfl⟩
    · cases h
  · cases h
/-! ### a list just made, as a value -/
theorem e_frz {ca : Rho → St → R (List D)} {e : Expr} (h : PE X e (TL X.K ca)) : PE X e (T X.K fun ρ st => bnd (ca ρ st) fun xs st => some (.lst xs, st)) := by
  refine h.imp fun σ H Q h => ?_
  obtain ⟨ρ, st, m, F, d, st', re, rs, e, q⟩ := h
  obtain ⟨x, st1, e1, e⟩ := bnd_eq e
  cases e
  refine TL.use re rs e1 fun a vs H1 m1 F1 g1 re1 rs1 h1 h2 h3 d1 => ?_
  exact q _ _ m1 _ (g1.trans gro_freeze) (rs1.freeze h1 h3) (.lst (.inr rfl) h1 h2 (d1.mono gro_freeze))
theorem e_new {ca : Rho → St → R (List D)} {e : Expr} (h : PE X e (TL X.K ca)) : PE X e (T X.K fun ρ st => bnd (ca ρ st) fun xs st => some (.ref st.length, st ++ [.lst xs])) := by
  refine h.imp fun σ H Q h => ?_
  obtain ⟨ρ, st, m, F, d, st', re, rs, e, q⟩ := h
  obtain ⟨x, st1, e1, e⟩ := bnd_eq e
  cases e
  refine TL.use re rs e1 fun a vs H1 m1 F1 g1 re1 rs1 h1 h2 h3 d1 => ?_
  refine q _ _ (m1 ++ [a]) F1 (g1.trans gro_push) (rs1.push h3 ⟨vs, h1, h2, d1⟩) (.ref ?_)
  rw [← rs1.len, List.getElem?_append_right (Nat.le_refl _), Nat.sub_self]
  rfl
/-- list(x) -/
theorem l_ofE {ca : Rho → St → R D} {e : Expr} {p pos : Pos} (g : Good c cl ps k sc cs X) (hg : glB sc "list" = true) (he : PE X e (T X.K ca)) (hs : notStar e = true) :
    PE X (.Call (.Name "list" p) [e] [] pos) (TL X.K fun ρ st => bnd (ca ρ st) fun x st => liftO st (seqOf st x)) := by
  refine (pe_callTy call_list_of (gl_of g hg) (g.free "list" (by simp [builtinNames])) (by decide +kernel) (pa_cons he pa_nil (star_of hs)) (by decide) (by decide) (star_of hs)).imp fun σ H Q h => ?_
  refine tcb1 (T.mono (TL.op1 (f := seqOf) h) fun v H1 ⟨m, F, st, d, xs, rs, rd, hx, q⟩ => ?_)
  obtain ⟨a, vs, rfl, h, hl, r⟩ := seq_of rs rd hx
  refine ⟨a, vs, rfl, ?_, fun p hp => done_new rs hl r hp q⟩
  rcases h with ⟨_, _, h⟩ | ⟨_, h⟩
  · exact .inr h
  · exact .inl (.inl (.inl h))
/-- a list made by + -/
theorem l_add {ca cb : Rho → St → R D} {a b : Expr} {pos : Pos} (he : PE X a (T X.K ca)) (he2 : PE X b (T X.K cb)) :
    PE X (.BinOp a .Add b pos) (TL X.K fun ρ st => bnd (ca ρ st) fun x st => bnd (cb ρ st) fun y st => liftO st (addL st x y)) := by
  refine (pe_op op_cat he he2).imp fun σ H Q h => ?_
  obtain ⟨ρ, st, m, F, d, st', re, rs, e, q⟩ := h
  obtain ⟨x, st1, e1, e⟩ := bnd_eq e
  obtain ⟨y, st2, e2, e⟩ := bnd_eq e
  obtain ⟨e3, e4⟩ := liftO_eq e
  have e4' : st' = st2 := e4
  subst e4'
  refine T.use re rs e1 fun v H1 m1 F1 g1 re1 rs1 d1 => T.use re1 rs1 e2 fun w H2 m2 F2 g2 re2 rs2 d2 => ?_
  obtain ⟨xs, ys, hx, hy, hl, hd⟩ := addL_inv e3
  obtain ⟨a, vs, rfl, h1, h2, h3⟩ := lst_of rs2 (d1.mono g2) hx
  obtain ⟨b, ws, rfl, k1, k2, k3⟩ := lst_of rs2 d2 hy
  have hd' : d = xs ++ ys := hd
  subst hd'
  have hl' : vs.length + ws.length ≤ cap := by rw [← h3.length, ← k3.length]; exact hl
  exact ⟨a, b, vs, ws, rfl, rfl, h1, k1, SqS.line hl', fun p hp => done_new rs2 (by rw [List.length_append]; exact hl') (h3.append k3) hp fun a vs H' m' F' g' => q a vs H' m' F' ((g1.trans g2).trans g')⟩
end
end MM

end

section
set_option maxRecDepth 100000
set_option maxHeartbeats 4000000
/-! Mini machine: calls of functions of the table. -/
namespace MM
open PySem PySem.Spec PyProof.Rows L2
section
variable {K : PySem.W.Frag} {m m' : List Addr} {F F' F'' : FP} {H : Hp} {st st2 : St} {L : Nat}
mutual
theorem RD.isUnder : ∀ {d : D} {v : V}, RD K m F H d v → m.length ≤ L → D.under L d = true
  | _, _, .non, _ => rfl
  | _, _, .bl b, _ => rfl
  | _, _, .int i, _ => rfl
  | _, _, .str x, _ => rfl
  | _, _, .tup _ _ r, h => by simpa [D.under] using RDs.isUnder r h
  | _, _, .lst _ _ _ r, h => by simpa [D.under] using RDs.isUnder r h
  | _, _, .scrF _ _, _ => rfl
  | _, _, .scrK _ _, _ => rfl
  | _, _, .ref e, h => by
    have := (List.getElem?_eq_some_iff.mp e).1
    simp only [D.under, decide_eq_true_eq]
    omega
theorem RDs.isUnder : ∀ {ds : List D} {vs : List V}, RDs K m F H ds vs → m.length ≤ L → D.unders L ds = true
  | _, _, .nil, _ => rfl
  | _, _, .cons h t, hl => by simp [D.unders, RD.isUnder h hl, RDs.isUnder t hl]
end
mutual
theorem RD.cut (hF : ∀ a, F.f a → F''.f a) : ∀ {d : D} {v : V}, RD K m F H d v → D.under L d = true → RD K (m.take L) F'' H d v
  | _, _, .non, _ => .non
  | _, _, .bl b, _ => .bl b
  | _, _, .int i, _ => .int i
  | _, _, .str x, _ => .str x
  | _, _, .tup h l r, u => .tup h l (RDs.cutL hF r (by simpa [D.under] using u))
  | _, _, .lst f h l r, u => .lst (hF _ f) h l (RDs.cutL hF r (by simpa [D.under] using u))
  | _, _, .scrF h l, _ => .scrF h l
  | _, _, .scrK h l, _ => .scrK h l
  | .ref n, _, .ref e, u => by
    have u' : n < L := by simpa [D.under] using u
    exact .ref (by rw [List.getElem?_take_of_lt u']; exact e)
theorem RDs.cutL (hF : ∀ a, F.f a → F''.f a) : ∀ {ds : List D} {vs : List V}, RDs K m F H ds vs → D.unders L ds = true → RDs K (m.take L) F'' H ds vs
  | _, _, .nil, _ => .nil
  | d :: ds, _, .cons h t, u => by
    have u' : D.under L d = true ∧ D.unders L ds = true := by simpa [D.unders] using u
    exact .cons (RD.cut hF h u'.1) (RDs.cutL hF t u'.2)
end
mutual
theorem under_of_pure : ∀ d : D, D.pure d = true → D.under L d = true
  | .non, _ => rfl
  | .bl b, _ => rfl
  | .int i, _ => rfl
  | .str x, _ => rfl
  | .tup xs, h => by simpa [D.under] using unders_of_pure xs (by simpa [D.pure] using h)
  | .lst xs, h => by simpa [D.under] using unders_of_pure xs (by simpa [D.pure] using h)
  | .scr ns, _ => rfl
  | .ref n, h => by simp [D.pure] at h
theorem unders_of_pure : ∀ ds : List D, D.pures ds = true → D.unders L ds = true
  | [], _ => rfl
  | d :: ds, h => by
    have h' : D.pure d = true ∧ D.pures ds = true := by simpa [D.pures] using h
    simp [D.unders, under_of_pure d h'.1, unders_of_pure ds h'.2]
end
theorem RO.isUnder {o : O} {a : Addr} (h : RO K m F H o a) (hl : m.length ≤ L) : O.under L o = true := by
  cases o with
  | lst xs =>
    obtain ⟨vs, _, _, r⟩ := h
    exact r.isUnder hl
  | dct kvs =>
    obtain ⟨kv, _, _, r⟩ := h
    simp only [O.under, List.all_eq_true]
    intro p hp
    have go : ∀ {l : List (D × D)} {l2 : List (Key × V)}, Paired (fun (p : D × D) (q : Key × V) => (∃ i, p.1 = .int i ∧ q.1 = .inl i) ∧ RD K m F H p.2 q.2) l l2 → ∀ p ∈ l, D.under L p.1 = true ∧ D.under L p.2 = true := by
      intro l l2 r
      induction r with
      | nil => intro p hp; cases hp
      | cons h _ ih =>
        intro p hp
        rcases List.mem_cons.mp hp with rfl | hp
        · obtain ⟨⟨i, e, _⟩, r⟩ := h
          exact ⟨by rw [e]; rfl, r.isUnder hl⟩
        · exact ih p hp
    have := go r p hp
    rw [this.1, this.2]
    rfl
theorem RO.cut (hF : ∀ a, F.f a → F''.f a) {o : O} {a : Addr} (h : RO K m F H o a) (u : O.under L o = true) : RO K (m.take L) F'' H o a := by
  cases o with
  | lst xs =>
    obtain ⟨vs, h1, h2, r⟩ := h
    exact ⟨vs, h1, h2, r.cutL hF u⟩
  | dct kvs =>
    obtain ⟨kv, h1, h2, r⟩ := h
    refine ⟨kv, h1, h2, ?_⟩
    have go : ∀ {l : List (D × D)} {l2 : List (Key × V)}, Paired (fun (p : D × D) (q : Key × V) => (∃ i, p.1 = .int i ∧ q.1 = .inl i) ∧ RD K m F H p.2 q.2) l l2 → (∀ p ∈ l, D.under L p.2 = true) →
        Paired (fun (p : D × D) (q : Key × V) => (∃ i, p.1 = .int i ∧ q.1 = .inl i) ∧ RD K (m.take L) F'' H p.2 q.2) l l2 := by
      intro l l2 r
      induction r with
      | nil => intro _; exact .nil
      | cons h _ ih => intro hu; exact .cons ⟨h.1, h.2.cut hF (hu _ List.mem_cons_self)⟩ (ih fun p hp => hu p (List.mem_cons_of_mem _ hp))
    refine go r fun p hp => ?_
    have := List.all_eq_true.mp (show (kvs.all fun p => D.under L p.1 && D.under L p.2) = true from u) p hp
    exact (Bool.and_eq_true_iff.mp this).2
theorem oldOk_get : ∀ {a b : St}, oldOk L a b = true → ∀ (n : Nat) o, b[n]? = some o → n < a.length → O.beq (a[n]?.getD (.lst [])) o = true ∨ O.under L o = true
  | [], _, _, n, o, _, h => by simp at h
  | x :: xs, [], h, _, _, _, _ => by simp [oldOk] at h
  | x :: xs, y :: ys, h, n, o, e, hn => by
    have h' : (O.beq x y = true ∨ O.under L y = true) ∧ oldOk L xs ys = true := by simpa [oldOk] using h
    cases n with
    | zero =>
      cases e
      exact h'.1
    | succ n => exact oldOk_get h'.2 n o (by simpa using e) (by simpa using hn)
theorem oldOk_len : ∀ {a b : St}, oldOk L a b = true → a.length ≤ b.length
  | [], _, _ => Nat.zero_le _
  | x :: xs, [], h => by simp [oldOk] at h
  | x :: xs, y :: ys, h => by
    have h' : (O.beq x y = true ∨ O.under L y = true) ∧ oldOk L xs ys = true := by simpa [oldOk] using h
    have := oldOk_len h'.2
    simp
    omega
/-- behind a call: the callee's own objects are dropped -/
theorem RSt.drop {H0 : Hp} {m0 : List Addr} {F0 : FP} (r0 : RSt K m0 F0 H0 st) (r : RSt K m F H st2) (ok : oldOk st.length st st2 = true) (hF : ∀ a, F.f a → F''.f a) (hp : F''.p = F.p) (hF2 : ∀ a, F''.f a → F.f a ∨ ∃ n : Nat, st.length ≤ n ∧ m[n]? = some a) :
    RSt K (m.take st.length) F'' H (st2.take st.length) := by
  have hl := oldOk_len ok
  refine ⟨by rw [List.length_take, List.length_take, r.len], r.inj.sublist (List.take_sublist _ _), fun a h => ?_, fun n a h1 h2 => ?_, fun a h => ?_, fun n o a h1 h2 => ?_⟩
  · rcases hF2 a h with h | ⟨n, _, h⟩
    · exact r.frf a h
    · obtain ⟨u, e, _⟩ := r.tracked h
      exact ⟨u, e⟩
  · by_cases hn : n < st.length
    · rw [List.getElem?_take_of_lt hn] at h1
      rcases hF2 a h2 with h | ⟨j, hj, h⟩
      · exact r.sep n a h1 h
      · obtain ⟨l1, e1⟩ := List.getElem?_eq_some_iff.mp h1
        obtain ⟨l2, e2⟩ := List.getElem?_eq_some_iff.mp h
        have := (List.getElem_inj r.inj).mp (e1.trans e2.symm)
        omega
    · rw [List.getElem?_eq_none (by rw [List.length_take]; omega)] at h1
      cases h1
  · rw [hp] at h
    obtain ⟨h1, h2, h3⟩ := r.prt a h
    refine ⟨h1, fun z => h2 (List.mem_of_mem_take z), fun z => ?_⟩
    rcases hF2 a z with z | ⟨n, _, z⟩
    · exact h3 z
    · exact h2 (List.mem_of_getElem? z)
  · by_cases hn : n < st.length
    · rw [List.getElem?_take_of_lt hn] at h1 h2
      have q := r.obj n o a h1 h2
      refine q.cut hF ?_
      rcases oldOk_get ok n o h1 hn with e | e
      · rw [List.getElem?_eq_getElem hn] at e
        have e' : st[n] = o := O.eq_of_beq e
        have hm : n < m0.length := by rw [r0.len]; exact hn
        have q0 := r0.obj n st[n] m0[n] (List.getElem?_eq_getElem hn) (List.getElem?_eq_getElem hm)
        rw [← e']
        exact q0.isUnder (by rw [r0.len]; exact Nat.le_refl _)
      · exact e
    · rw [List.getElem?_eq_none (by rw [List.length_take]; omega)] at h1
      cases h1
theorem mapM_rds (f : D → Option D) (hf : ∀ d v d', RD K m F H d v → f d = some d' → RD K m' F'' H d' v) : ∀ {ds ds' : List D} {vs : List V}, RDs K m F H ds vs → ds.mapM f = some ds' → RDs K m' F'' H ds' vs
  | [], ds', _, .nil, e => by
    simp at e
    subst e
    exact .nil
  | d :: ds, ds', _, .cons h t, e => by
    rw [List.mapM_cons] at e
    cases e1 : f d with
    | none => rw [e1] at e; cases e
    | some d' =>
      rw [e1] at e
      cases e2 : ds.mapM f with
      | none => rw [e2] at e; cases e
      | some l =>
        rw [e2] at e
        cases e
        exact .cons (hf _ _ _ h e1) (mapM_rds f hf t e2)
/-- the value with its new lists frozen -/
theorem frz_ok (r : RSt K m F H st2) (hF : ∀ a, F.f a → F''.f a) (hF3 : ∀ (n : Nat) a, L ≤ n → m[n]? = some a → F''.f a) : ∀ (k : Nat) (d d' : D) (v : V), RD K m F H d v → frzD st2 L k d = some d' → RD K (m.take L) F'' H d' v
  | 0, _, _, _, _, e => by cases e
  | k + 1, d, d', v, h, e => by
    unfold frzD at e
    split at e
    · rename_i hp
      cases e
      exact h.cut hF (under_of_pure d hp)
    · cases h with
      | tup h1 h2 h3 =>
        obtain ⟨l, hl, rfl⟩ := Option.map_eq_some_iff.mp e
        exact .tup h1 h2 (mapM_rds (frzD st2 L k) (fun a b c q1 q2 => frz_ok r hF hF3 k a c b q1 q2) h3 hl)
      | lst h0 h1 h2 h3 =>
        obtain ⟨l, hl, rfl⟩ := Option.map_eq_some_iff.mp e
        exact .lst (hF _ h0) h1 h2 (mapM_rds (frzD st2 L k) (fun a b c q1 q2 => frz_ok r hF hF3 k a c b q1 q2) h3 hl)
      | @ref n a hm =>
        simp only at e
        split at e
        · rename_i hn
          cases e
          exact .ref (by rw [List.getElem?_take_of_lt hn]; exact hm)
        · rename_i hn
          have hFa : F''.f a := hF3 n a (by omega) hm
          split at e
          · rename_i xs hx
            obtain ⟨vs, h1, h2, h3⟩ := (r.obj n _ a hx hm).list
            split at e
            · rename_i hp
              cases e
              exact .lst hFa h1 h2 (h3.cutL hF (unders_of_pure xs hp))
            · obtain ⟨l, hl, rfl⟩ := Option.map_eq_some_iff.mp e
              exact .lst hFa h1 h2 (mapM_rds (frzD st2 L k) (fun a b c q1 q2 => frz_ok r hF hF3 k a c b q1 q2) h3 hl)
          · cases e
      | non => simp [D.pure] at *
      | bl _ => simp [D.pure] at *
      | int _ => simp [D.pure] at *
      | str _ => simp [D.pure] at *
      | scrF _ _ => simp [D.pure] at *
      | scrK _ _ => simp [D.pure] at *
theorem gro_drop {m0 : List Addr} {F0 : FP} {H0 : Hp} (r0 : RSt K m0 F0 H0 st) (g : Gro m0 F0 H0 m F H) (hF : ∀ a, F.f a → F''.f a) (hp : F''.p = F.p) : Gro m0 F0 H0 (m.take st.length) F'' H := by
  refine ⟨fun n a h => ?_, fun a h => hF a (g.fro a h), hp.trans g.pro, g.keep⟩
  have hn : n < st.length := by rw [← r0.len]; exact (List.getElem?_eq_some_iff.mp h).1
  rw [List.getElem?_take_of_lt hn]
  exact g.pre n a h
end
section
variable {c : Tb} {cl : Cl} {ps : Nat → List Str} {k : Nat} {sc : Scope} {cs : Cs} {X : Cx}
theorem e_call {f : Nat} {x : Str} {p pos : Pos} {e : Expr} {es : List Expr} {cr : Rho → St → R (List D)} (g : Good c cl ps k sc cs X) (hf : c.tb[f]? = some x) (hg : glB sc x = true) (hd : plainN x = true) (ha : PA X (e :: es) (TEs X.K cr))
    (h1 : notStar e = true) (h2 : ∀ env, (backTo pos (starEach es env)).any (·.1) = false) :
    PE X (.Call (.Name x p) (e :: es) [] pos) (T X.K fun ρ st => bnd (cr ρ st) fun ds st => match cl f ds st with
      | some r => finV st r
      | none => none) := by
  obtain ⟨a, fd, hm, hk, hb, G⟩ := g.call f x hf
  refine (pe_g g G (gl_of g hg) hm hk hb ha (plainN_of hd).1 h1 h2).imp fun σ H Q h => ?_
  obtain ⟨ρ, st, m, F, d, st', re, rs, e, q⟩ := h
  obtain ⟨ds, st1, e1, e⟩ := bnd_eq e
  refine TEs.use re rs e1 fun vs H1 m1 F1 g1 re1 rs1 d1 => ?_
  split at e
  · rename_i r hr
    unfold finV at e
    split at e
    · rename_i ok
      obtain ⟨d', hd', e2⟩ := Option.map_eq_some_iff.mp e
      cases e2
      refine ⟨m1, F1, st1, ds, r.1, r.2, rs1, d1, hr, fun v H' m' F' g' rs' rd' => ?_⟩
      have hF : ∀ a, F'.f a → (FP.mk (fun a => F'.f a ∨ ∃ n : Nat, st1.length ≤ n ∧ m'[n]? = some a) F'.p).f a := fun a h => .inl h
      exact q v H' (m'.take st1.length) _ (g1.trans (gro_drop rs1 g' hF rfl)) (rs1.drop rs' ok hF rfl fun a h => h) (frz_ok rs' hF (fun n a h1 h2 => .inr ⟨n, h1, h2⟩) 8 _ _ v rd' hd')
    · cases e
  · cases e
theorem l_call {f : Nat} {x : Str} {p pos : Pos} {e : Expr} {es : List Expr} {cr : Rho → St → R (List D)} (g : Good c cl ps k sc cs X) (hf : c.tb[f]? = some x) (hg : glB sc x = true) (hd : plainN x = true) (ha : PA X (e :: es) (TEs X.K cr))
    (h1 : notStar e = true) (h2 : ∀ env, (backTo pos (starEach es env)).any (·.1) = false) :
    PE X (.Call (.Name x p) (e :: es) [] pos) (TL X.K fun ρ st => bnd (cr ρ st) fun ds st => match cl f ds st with
      | some r => finL st r
      | none => none) := by
  obtain ⟨a, fd, hm, hk, hb, G⟩ := g.call f x hf
  refine (pe_g g G (gl_of g hg) hm hk hb ha (plainN_of hd).1 h1 h2).imp fun σ H Q h => ?_
  obtain ⟨ρ, st, m, F, d, st', re, rs, e, q⟩ := h
  obtain ⟨ds, st1, e1, e⟩ := bnd_eq e
  refine TEs.use re rs e1 fun vs H1 m1 F1 g1 re1 rs1 d1 => ?_
  split at e
  · rename_i r hr
    unfold finL at e
    split at e
    · rename_i ok
      split at e
      · rename_i n hn
        split at e
        · cases e
        · rename_i hl
          split at e
          · rename_i xs hx
            split at e
            · rename_i hp
              cases e
              refine ⟨m1, F1, st1, ds, r.1, r.2, rs1, d1, hr, fun v H' m' F' g' rs' rd' => ?_⟩
              rw [hn] at rd'
              cases rd' with
              | ref hm' =>
                rename_i b
                obtain ⟨ws, h1, h2, h3⟩ := (rs'.obj n _ b hx hm').list
                have hF : ∀ a, F'.f a → F'.f a := fun a h => h
                refine q b ws H' (m'.take st1.length) F' (g1.trans (gro_drop rs1 g' hF rfl)) (rs1.drop rs' ok hF rfl fun a h => .inl h) h1 h2 ⟨fun z => ?_, rs'.sep n b hm', fun z => (rs'.prt b z).2.1 (List.mem_of_getElem? hm')⟩ (h3.cutL hF (unders_of_pure _ hp))
                obtain ⟨j, hj⟩ := List.mem_iff_getElem?.mp z
                have hjl : j < st1.length := by
                  have := (List.getElem?_eq_some_iff.mp hj).1
                  rw [List.length_take] at this
                  omega
                rw [List.getElem?_take_of_lt hjl] at hj
                obtain ⟨l1, e1⟩ := List.getElem?_eq_some_iff.mp hj
                obtain ⟨l2, e2⟩ := List.getElem?_eq_some_iff.mp hm'
                have := (List.getElem_inj rs'.inj).mp (e1.trans e2.symm)
                omega
            · cases e
          · cases e
      · cases e
    · cases e
  · cases e
end
end MM

end

section
set_option maxRecDepth 100000
set_option maxHeartbeats 4000000
/-! Mini machine: targets, what is walked, comprehensions. -/
namespace MM
open PySem PySem.Spec PyProof.Rows L2

/-! ### targets -/
/-- slots outside stay -/
def Out (sl : List Nat) (σ σ' : L2.St) : Prop := ∀ l : List Nat, (∀ i ∈ sl, i ∈ l) → L2.wipe σ' l = L2.wipe σ l
theorem wipe_set {σ : L2.St} {i : Nat} {o : Option V} : ∀ {l : List Nat}, i ∈ l → L2.wipe (σ.set i o) l = L2.wipe σ l
  | [], h => by cases h
  | j :: l, h => by
    unfold L2.wipe
    by_cases hi : i ∈ l
    · rw [wipe_set hi]
    · have e : i = j := by
        rcases List.mem_cons.mp h with h | h
        · exact h
        · exact absurd h hi
      subst e
      have go : ∀ (l : List Nat), i ∉ l → (L2.wipe (σ.set i o) l).set i none = (L2.wipe σ l).set i none := by
        intro l hl
        induction l with
        | nil => simp [L2.wipe]
        | cons k l ih =>
          have hk : k ≠ i := fun e => hl (by simp [e])
          have h2 := ih fun z => hl (List.mem_cons_of_mem _ z)
          unfold L2.wipe
          rw [List.set_comm _ _ hk, h2, List.set_comm _ _ (Ne.symm hk)]
      exact go l hi
theorem Out.set {σ : L2.St} {i : Nat} {v : V} : Out [i] σ (σ.set i (some v)) := fun l h => wipe_set (h i (by simp))
theorem Out.refl {sl : List Nat} {σ : L2.St} : Out sl σ σ := fun _ _ => rfl
theorem Out.trans {s1 s2 : List Nat} {σ σ1 σ2 : L2.St} (a : Out s1 σ σ1) (b : Out s2 σ1 σ2) : Out (s1 ++ s2) σ σ2 := fun l h =>
  (b l fun i hi => h i (List.mem_append_right _ hi)).trans (a l fun i hi => h i (List.mem_append_left _ hi))
def TGt (K : PySem.W.Frag) (g : G) : TG := fun v σ H Q => ∃ ρ m F d ρ', REnv K m F H ρ σ ∧ RD K m F H d v ∧ bindG g d ρ = some ρ' ∧ ∀ σ', REnv K m F H ρ' σ' → Out g.slots σ σ' → Q σ' H
def TGts (K : PySem.W.Frag) (g : Gn) : TGs := fun vs σ H Q => ∃ ρ m F ds ρ', REnv K m F H ρ σ ∧ RDs K m F H ds vs ∧ bindGl g ds ρ = some ρ' ∧ ∀ σ', REnv K m F H ρ' σ' → Out g.slots σ σ' → Q σ' H
mutual
def chkG (c : Tb) (sc : Scope) (cs : Cs) : G → Expr → Bool
  | .nm i, e => match e with
    | .Name x _ => decide (c.N[i]? = some x) && locB sc cs x
    | _ => false
  | .tp gs, e => match e with
    | .Tuple es _ _ => chkGl c sc cs gs es
    | _ => false
def chkGl (c : Tb) (sc : Scope) (cs : Cs) : Gn → List Expr → Bool
  | .nil, es => match es with
    | [] => true
    | _ => false
  | .cons g gs, es => match es with
    | e :: r => notStar e && chkG c sc cs g e && chkGl c sc cs gs r
    | [] => false
end
theorem each_of {e : Expr} {es : List Expr} {env : Env} (h : notStar e = true) : assignEach (e :: es) env = (false, assign e env) :: assignEach es env := by
  cases e <;> first | rfl | cases h
def Gn.len : Gn → Nat
  | .nil => 0
  | .cons _ gs => gs.len + 1
theorem bindGl_len : ∀ {gs : Gn} {ds : List D} {ρ ρ' : Rho}, bindGl gs ds ρ = some ρ' → ds.length = gs.len
  | .nil, [], _, _, _ => rfl
  | .nil, _ :: _, _, _, h => by simp [bindGl] at h
  | .cons g gs, [], _, _, h => by simp [bindGl] at h
  | .cons g gs, d :: ds, ρ, ρ', h => by
    simp only [bindGl] at h
    split at h
    · simp [Gn.len, bindGl_len h]
    · cases h
theorem chkGl_len {c : Tb} {sc : Scope} {cs : Cs} {env : Env} : ∀ {gs : Gn} {es : List Expr}, chkGl c sc cs gs es = true → (assignEach es env).length = gs.len ∧ (assignEach es env).findIdx? (·.1) = none
  | .nil, [], _ => ⟨rfl, rfl⟩
  | .nil, _ :: _, h => by simp [chkGl] at h
  | .cons g gs, [], h => by simp [chkGl] at h
  | .cons g gs, e :: es, h => by
    have h' : (notStar e = true ∧ chkG c sc cs g e = true) ∧ chkGl c sc cs gs es = true := by simpa [chkGl] using h
    obtain ⟨h1, h2⟩ := chkGl_len (env := env) h'.2
    rw [each_of h'.1.1]
    refine ⟨by simp [Gn.len, h1], ?_⟩
    rw [List.findIdx?_cons]
    simp [h2]
section
variable {c : Tb} {cl : Cl} {ps : Nat → List Str} {k : Nat} {sc : Scope} {cs : Cs} {X : Cx}
mutual
theorem g_ok (gd : Good c cl ps k sc cs X) : ∀ (g : G) (e : Expr), chkG c sc cs g e = true → PG X e (TGt X.K g)
  | .nm i, e, h => by
    cases e with
    | Name x p =>
      have h' : c.N[i]? = some x ∧ locB sc cs x = true := by simpa [chkG] using h
      obtain ⟨h1, h2⟩ := loc_of gd h'.2
      refine (pg_name gd.nd (by rw [gd.slots]; exact h'.1) h1 h2).imp fun v σ H Q q => ?_
      obtain ⟨ρ, m, F, d, ρ', re, rd, e, q⟩ := q
      simp only [bindG] at e
      split at e
      · cases e
        exact q _ (re.set rd) Out.set
      · cases e
    | _ => simp [chkG] at h
  | .tp gs, e, h => by
    cases e with
    | Tuple es j p =>
      have h' : chkGl c sc cs gs es = true := by simpa [chkG] using h
      obtain ⟨h1, h2⟩ := chkGl_len (env := X.env) h'
      refine (pg_tup gd.calm (gs_ok gd gs es h') h1 h2).imp fun v σ H Q q => ?_
      obtain ⟨ρ, m, F, d, ρ', re, rd, e, q⟩ := q
      cases d with
      | tup xs =>
        cases rd with
        | tup hs hl r =>
          have e' : bindGl gs xs ρ = some ρ' := by simpa [bindG] using e
          exact ⟨_, _, rfl, hs.sqT, by rw [← r.length]; exact bindGl_len e', ρ, m, F, xs, ρ', re, r, e', q⟩
      | _ => simp [bindG] at e
    | _ => simp [chkG] at h
theorem gs_ok (gd : Good c cl ps k sc cs X) : ∀ (g : Gn) (es : List Expr), chkGl c sc cs g es = true → PGs X es (TGts X.K g)
  | .nil, [], _ => ⟨fun pins s σ H vs us Q I r q => pgs_nil.run pins s σ H vs us Q I r (by
      obtain ⟨ρ, m, F, d, ρ', re, rd, e, q⟩ := q
      cases d with
      | nil =>
        cases rd
        simp only [bindGl] at e
        cases e
        exact ⟨rfl, q _ re Out.refl⟩
      | cons _ _ => simp [bindGl] at e)⟩
  | .nil, _ :: _, h => by simp [chkGl] at h
  | .cons g gs, [], h => by simp [chkGl] at h
  | .cons g gs, e :: es, h => by
    have h' : (notStar e = true ∧ chkG c sc cs g e = true) ∧ chkGl c sc cs gs es = true := by simpa [chkGl] using h
    have p1 := g_ok gd g e h'.1.2
    have p2 := gs_ok gd gs es h'.2
    have p := pgs_cons p1 p2 (by rw [each_of h'.1.1]; rfl)
    refine ⟨fun pins s σ H vs us Q I r q => p.run pins s σ H vs us Q I r ?_⟩
    obtain ⟨ρ, m, F, ds, ρ', re, rd, e, q⟩ := q
    cases ds with
    | nil => simp [bindGl] at e
    | cons d ds =>
      cases rd with
      | cons r1 r2 =>
        simp only [bindGl] at e
        split at e
        · rename_i ρ1 e1
          refine ⟨_, _, rfl, ρ, m, F, d, ρ1, re, r1, e1, fun σ1 re1 o1 => ?_⟩
          exact ⟨ρ1, m, F, ds, ρ', re1, r2, e, fun σ2 re2 o2 => q σ2 re2 (o1.trans o2)⟩
        · cases e
end
end

theorem RDs.reP {K : PySem.W.Frag} {m : List Addr} {F : FP} {H : Hp} {ds : List D} {vs : List V} (p : Addr → Prop) (h : RDs K m F H ds vs) : RDs K m ⟨F.f, p⟩ H ds vs := RDs.reF (F := F) (F' := ⟨F.f, p⟩) (fun _ z => z) h
theorem RD.reP {K : PySem.W.Frag} {m : List Addr} {F : FP} {H : Hp} {d : D} {v : V} (p : Addr → Prop) (h : RD K m F H d v) : RD K m ⟨F.f, p⟩ H d v := RD.reF (F := F) (F' := ⟨F.f, p⟩) (fun _ z => z) h
/-! ### what is walked -/
/-- J walks the items xs while the source stays -/
def Walks (K : PySem.W.Frag) (J : L2.It) (xs : List D) (src : Option (Nat × List D)) (m : List Addr) (F : FP) (H : Hp) : Prop :=
  ∀ m1 F1 H1 st1, Gro m ⟨F.f, F1.p⟩ H m1 F1 H1 → RSt K m1 F1 H1 st1 → stays src st1 = true →
    (∀ (i : Nat) x, xs[i]? = some x → J.go i H1 ∧ ∀ v H2, J.yld i H1 v H2 → Gro m1 F1 H1 m1 F1 H2 ∧ RSt K m1 F1 H2 st1 ∧ RD K m1 F1 H2 x v ∧ ∀ a, H1 a ≠ none → H2 a = H1 a) ∧ ∀ i : Nat, xs.length ≤ i → J.stop i H1
def TIt (K : PySem.W.Frag) (c : Rho → St → R (List D × Option (Nat × List D))) : TI := fun σ H R => ∃ ρ st m F xs src st', REnv K m F H ρ σ ∧ RSt K m F H st ∧ c ρ st = some ((xs, src), st') ∧
  ∀ J H' m' F', Gro m F H m' F' H' → RSt K m' F' H' st' → xs.length ≤ cap → Walks K J xs src m' F' H' → R J H'
theorem _root_.L2.PI.or {X : Cx} {g e : Expr} {t t' : TI} (h : PI X g e t) (h' : PI X g e t') : PI X g e (fun σ H R => t σ H R ∨ t' σ H R) :=
  ⟨fun pins s σ H R I q => q.elim (h.run pins s σ H R I) (h'.run pins s σ H R I)⟩
section
variable {K : PySem.W.Frag} {m : List Addr} {F : FP} {H : Hp}
theorem walks_tup {a : Addr} {vs : List V} {xs : List D} {src : Option (Nat × List D)} (h : TupX H a vs) (r : RDs K m F H xs vs) : Walks K (Itt K a) xs src m F H := by
  intro m1 F1 H1 st1 g rs _
  have h1 := (g.tupX h).sqT (K := K)
  have r1 := (r.reP F1.p).mono g
  refine ⟨fun i x hx => ?_, fun i hi => ⟨vs, h1, by rw [← r.length]; exact hi⟩⟩
  obtain ⟨v, hv, rv⟩ := r1.get hx
  refine ⟨⟨vs, v, h1, hv⟩, fun w H2 ⟨e, q⟩ => ?_⟩
  subst e
  have := q vs h1
  rw [hv] at this
  cases this
  exact ⟨Gro.refl, rs, rv, fun _ _ => rfl⟩
theorem sql_one {H1 : Hp} {a : Addr} {vs ws : List V} (h : H1 a = some (.lst vs)) (hk : SqL K H1 a ws → K.lookup a = none ∨ ws = vs) (q : SqL K H1 a ws) : ws = vs := by
  rcases q with (q | ⟨o, q⟩) | q
  · rw [h] at q
    cases q
    rfl
  · rw [h] at q
    cases q
  · rcases hk (.inr q) with z | z
    · obtain ⟨o, its, n, e, _⟩ := q
      rw [z] at e
      cases e
    · exact z
/-- a list that stays (frozen, or looked at by src) -/
theorem walks_lst {a : Addr} {xs : List D} {src : Option (Nat × List D)}
    (h : ∀ m1 F1 H1 st1, Gro m ⟨F.f, F1.p⟩ H m1 F1 H1 → RSt K m1 F1 H1 st1 → stays src st1 = true → ∃ vs, H1 a = some (.lst vs) ∧ RDs K m1 F1 H1 xs vs) : Walks K (Itl K a) xs src m F H := by
  intro m1 F1 H1 st1 g rs hs
  obtain ⟨vs, h1, r1⟩ := h m1 F1 H1 st1 g rs hs
  have hq : SqL K H1 a vs := .inl (.inl h1)
  refine ⟨fun i x hx => ?_, fun i hi => ⟨vs, hq, by rw [← r1.length]; exact hi⟩⟩
  obtain ⟨v, hv, rv⟩ := r1.get hx
  refine ⟨⟨vs, v, hq, hv⟩, fun w H2 ⟨e, q⟩ => ?_⟩
  subst e
  have := q vs hq
  rw [hv] at this
  cases this
  exact ⟨Gro.refl, rs, rv, fun _ _ => rfl⟩
theorem walks_rng {lo : Int} {n : Nat} {src : Option (Nat × List D)} : Walks K (Itr lo n) ((List.range n).map fun (i : Nat) => .int (lo + i)) src m F H := by
  intro m1 F1 H1 st1 g rs _
  refine ⟨fun i x hx => ?_, fun i hi => (by rw [List.length_map, List.length_range] at hi; exact hi)⟩
  rw [List.getElem?_map] at hx
  obtain ⟨j, hj, rfl⟩ := Option.map_eq_some_iff.mp hx
  obtain ⟨hl, e⟩ := List.getElem?_eq_some_iff.mp hj
  rw [List.getElem_range] at e
  subst e
  rw [List.length_range] at hl
  refine ⟨hl, fun w H2 ⟨e, q⟩ => ?_⟩
  subst e
  subst q
  exact ⟨Gro.refl, rs, .int _, fun _ _ => rfl⟩
/-- a mutable list that stays -/
theorem stays_ref {n : Nat} {xs : List D} {st1 : St} (h : stays (some (n, xs)) st1 = true) : st1[n]? = some (.lst xs) := by
  simp only [stays] at h
  split at h
  · rename_i ys e
    rw [D.eq_of_beqs h]
    exact e
  · cases h
end
section
variable {c : Tb} {cl : Cl} {ps : Nat → List Str} {k : Nat} {sc : Scope} {cs : Cs} {X : Cx}
def seqC (ca : Rho → St → R D) : Rho → St → R (List D × Option (Nat × List D)) := fun ρ st => bnd (ca ρ st) fun x st => match seqOf st x with
  | some xs => some ((xs, srcOf st x), st)
  | none => none
/-- the source of a list as it stands -/
theorem lst_stay {K : PySem.W.Frag} {m : List Addr} {F : FP} {H : Hp} {st : St} (rs : RSt K m F H st) {d : D} {a : Addr} {vs : List V} {xs : List D} (r : RD K m F H d (.ref a)) (hx : lstOf st d = some xs) :
    ∀ m1 F1 H1 st1, Gro m ⟨F.f, F1.p⟩ H m1 F1 H1 → RSt K m1 F1 H1 st1 → stays (srcOf st d) st1 = true → ∃ vs, H1 a = some (.lst vs) ∧ RDs K m1 F1 H1 xs vs := by
  intro m1 F1 H1 st1 g rs1 hs
  cases d with
  | lst ys =>
    cases hx
    have r1 := (r.reP F1.p).mono g
    cases r1 with
    | lst h1 h2 h3 h4 => exact ⟨_, h2, h4⟩
  | ref n =>
    have e : st[n]? = some (.lst xs) := seqOf_ref hx
    simp only [srcOf, e] at hs
    have e1 := stays_ref hs
    have r1 := (r.reP F1.p).mono g
    cases r1 with
    | ref hm =>
      obtain ⟨ws, h1, h2, h3⟩ := (rs1.obj n _ a e1 hm).list
      exact ⟨ws, h1, h3⟩
  | _ => simp [lstOf, seqOf] at hx
theorem it_seq {ca : Rho → St → R D} {tg e : Expr} (he : PE X e (T X.K ca)) : PI X tg e (TIt X.K (seqC ca)) := by
  refine ((pi_list he).or (pi_tup he)).imp fun σ H R h => ?_
  obtain ⟨ρ, st, m, F, xs, src, st', re, rs, e, q⟩ := h
  obtain ⟨x, st1, e1, e⟩ := bnd_eq e
  split at e
  · rename_i ys hx
    cases e
    cases x with
    | tup zs =>
      cases hx
      refine .inr (T.use re rs e1 fun v H1 m1 F1 g1 re1 rs1 d1 => ?_)
      cases d1 with
      | tup h1 h2 h3 => exact ⟨_, rfl, ⟨_, h1.sqT⟩, q _ _ _ _ g1 rs1 (by rw [h3.length]; exact h2) (walks_tup h1 h3)⟩
    | lst zs =>
      refine .inl (T.use re rs e1 fun v H1 m1 F1 g1 re1 rs1 d1 => ?_)
      obtain ⟨a, vs, rfl, h1, h2, h3⟩ := lst_of rs1 d1 (show lstOf _ (D.lst zs) = some xs from hx)
      exact ⟨_, rfl, ⟨_, .inl (.inl h1)⟩, q _ _ _ _ g1 rs1 (by rw [h3.length]; exact h2) (walks_lst (lst_stay (vs := vs) rs1 d1 hx))⟩
    | ref n =>
      refine .inl (T.use re rs e1 fun v H1 m1 F1 g1 re1 rs1 d1 => ?_)
      obtain ⟨a, vs, rfl, h1, h2, h3⟩ := lst_of rs1 d1 (show lstOf _ (D.ref n) = some xs from hx)
      exact ⟨_, rfl, ⟨_, .inl (.inl h1)⟩, q _ _ _ _ g1 rs1 (by rw [h3.length]; exact h2) (walks_lst (lst_stay (vs := vs) rs1 d1 hx))⟩
    | _ => simp [seqOf] at hx
  · cases e
theorem it_lis {ca : Rho → St → R (List D)} {tg e : Expr} (he : PE X e (TL X.K ca)) : PI X tg e (TIt X.K fun ρ st => bnd (ca ρ st) fun xs st => some ((xs, none), st)) := by
  refine (pi_list he).imp fun σ H R h => ?_
  obtain ⟨ρ, st, m, F, xs, src, st', re, rs, e, q⟩ := h
  obtain ⟨x, st1, e1, e⟩ := bnd_eq e
  cases e
  refine TL.use re rs e1 fun a vs H1 m1 F1 g1 re1 rs1 h1 h2 h3 d1 => ?_
  refine ⟨a, rfl, ⟨vs, .inl (.inl h1)⟩, q _ _ _ _ (g1.trans (gro_freeze (p := a))) (rs1.freeze h1 h3) (by rw [d1.length]; exact h2) (walks_lst fun m2 F2 H2 st2 g2 rs2 _ => ⟨vs, ?_, ?_⟩)⟩
  · exact g2.keep _ _ h1 (.inr (.inl (.inr rfl)))
  · exact ((d1.mono (gro_freeze (p := a))).reP F2.p).mono g2
theorem it_rng1 {ca : Rho → St → R D} {tg e : Expr} {p pos : Pos} (g : Good c cl ps k sc cs X) (hg : glB sc "range" = true) (he : PE X e (T X.K ca)) (hs : notStar e = true) :
    PI X tg (.Call (.Name "range" p) [e] [] pos) (TIt X.K fun ρ st => bnd (ca ρ st) fun x st => match x with
      | .int n => if decide (n ≤ 1000000) && decide (-1000000 ≤ n) then some (((List.range n.toNat).map fun (i : Nat) => .int i, none), st) else none
      | _ => none) := by
  refine (pi_range1 (gl_of g hg) (g.free "range" (by simp [builtinNames])) (pa_cons he pa_nil (star_of hs)) (star_of hs)).imp fun σ H R h => ?_
  obtain ⟨ρ, st, m, F, xs, src, st', re, rs, e, q⟩ := h
  obtain ⟨x, st1, e1, e⟩ := bnd_eq e
  cases x with
  | int n =>
    simp only at e
    split at e
    · rename_i hc
      simp only [Bool.and_eq_true, decide_eq_true_eq] at hc
      cases e
      refine T.use re rs e1 fun v H1 m1 F1 g1 re1 rs1 d1 => ?_
      cases d1
      refine ⟨n, rfl, by omega, by omega, q _ _ _ _ g1 rs1 ?_ ?_⟩
      · rw [List.length_map, List.length_range]
        unfold cap
        omega
      · have := walks_rng (K := X.K) (lo := 0) (n := n.toNat) (src := none) (m := m1) (F := F1) (H := H1)
        simpa using this
    · cases e
  | _ => cases e
theorem it_rng2 {ca cb : Rho → St → R D} {tg a b : Expr} {p pos : Pos} (g : Good c cl ps k sc cs X) (hg : glB sc "range" = true) (he : PE X a (T X.K ca)) (he2 : PE X b (T X.K cb)) (hs : notStar a = true) (hs2 : notStar b = true) :
    PI X tg (.Call (.Name "range" p) [a, b] [] pos) (TIt X.K fun ρ st => bnd (ca ρ st) fun x st => bnd (cb ρ st) fun y st => match x, y with
      | .int i, .int j => if decide (-1000000 ≤ i) && decide (i ≤ 1000000) && decide (-1000000 ≤ j) && decide (j ≤ 1000000) then some (((List.range (j - i).toNat).map fun (k : Nat) => .int (i + k), none), st) else none
      | _, _ => none) := by
  refine (pi_range2 (gl_of g hg) (g.free "range" (by simp [builtinNames])) (pa_cons he (pa_cons he2 pa_nil (star_of hs2)) (star_of hs)) (by rw [star_of hs, star_of hs2]; rfl) (star_of hs2)).imp fun σ H R h => ?_
  obtain ⟨ρ, st, m, F, xs, src, st', re, rs, e, q⟩ := h
  obtain ⟨x, st1, e1, e⟩ := bnd_eq e
  obtain ⟨y, st2, e2, e⟩ := bnd_eq e
  cases x with
  | int i =>
    cases y with
    | int j =>
      simp only at e
      split at e
      · rename_i hc
        simp only [Bool.and_eq_true, decide_eq_true_eq] at hc
        cases e
        refine T.use re rs e1 fun v H1 m1 F1 g1 re1 rs1 d1 => T.use re1 rs1 e2 fun w H2 m2 F2 g2 re2 rs2 d2 => ?_
        cases d1
        cases d2
        refine ⟨i, j, rfl, ⟨by omega, by omega, by omega, by omega⟩, q _ _ _ _ (g1.trans g2) rs2 ?_ walks_rng⟩
        rw [List.length_map, List.length_range]
        unfold cap
        omega
      · cases e
    | _ => cases e
  | _ => cases e
end
end MM

end

section
set_option maxRecDepth 100000
set_option maxHeartbeats 4000000
/-! Mini machine: list comprehensions. -/
namespace MM
open PySem PySem.Spec PyProof.Rows L2

section
variable {K : PySem.W.Frag} {m m' m1 m2 : List Addr} {F F' F1 F2 : FP} {H H' H1 H2 : Hp} {st st' : St} {ρ : Rho} {σ : L2.St} {D' : Addr}
theorem RO.reP {o : O} {a : Addr} (p : Addr → Prop) (h : RO K m F H o a) : RO K m ⟨F.f, p⟩ H o a := RO.reF (F := F) (F' := ⟨F.f, p⟩) (fun _ z => z) h
theorem REnv.reP (p : Addr → Prop) (h : REnv K m F H ρ σ) : REnv K m ⟨F.f, p⟩ H ρ σ := ⟨h.len, fun i d e => let ⟨v, a, b⟩ := h.get i d e; ⟨v, a, b.reP p⟩⟩
/-- fewer lists being made -/
theorem RSt.lessP {p : Addr → Prop} (h : RSt K m F H st) (hp : ∀ a, p a → F.p a) : RSt K m ⟨F.f, p⟩ H st :=
  ⟨h.len, h.inj, h.frf, h.sep, fun a z => h.prt a (hp a z), fun n o a e1 e2 => (h.obj n o a e1 e2).reP p⟩
/-- the list being made, and all around it: p, the other lists being made -/
structure Acc (K : PySem.W.Frag) (m1 : List Addr) (F1 : FP) (H1 : Hp) (D' : Addr) (m : List Addr) (F : FP) (H : Hp) (st : St) (acc : List D) : Prop where
  g : Gro m1 F1 H1 m F H
  rs : RSt K m F H st
  fre : Fre m F D'
  lst : ∃ vs, H D' = some (.lst vs) ∧ RDs K m F H acc vs
theorem Acc.hold {acc : List D} (a : Acc K m1 F1 H1 D' m F H st acc) : RSt K m (F.hold D') H st := let ⟨_, h, _⟩ := a.lst; a.rs.hold h a.fre
/-- behind what runs while the list is held -/
theorem Acc.step {acc : List D} (a : Acc K m1 F1 H1 D' m F H st acc) (g : Gro m (F.hold D') H m' F' H') (rs : RSt K m' F' H' st') : Acc K m1 F1 H1 D' m' ⟨F'.f, F1.p⟩ H' st' acc := by
  have ep : F'.p = (F.hold D').p := g.pro
  have e1 : F.p = F1.p := a.g.pro
  have hD : F'.p D' := by rw [ep]; exact .inr rfl
  obtain ⟨_, h2, h3⟩ := rs.prt D' hD
  have gg : Gro m ⟨F.f, F1.p⟩ H m' ⟨F'.f, F1.p⟩ H' := ⟨g.pre, g.fro, rfl, fun b u e i => g.keep b u e (i.imp id fun j => j.imp id fun z => .inl (by rw [e1]; exact z))⟩
  have g0 : Gro m1 F1 H1 m ⟨F.f, F1.p⟩ H := ⟨a.g.pre, a.g.fro, rfl, a.g.keep⟩
  refine ⟨g0.trans gg, rs.lessP fun b z => ?_, ⟨h2, h3, fun z => a.fre.p (by rw [e1]; exact z)⟩, ?_⟩
  · rw [ep]
    exact .inl (by rw [e1]; exact z)
  · obtain ⟨vs, e, r⟩ := a.lst
    exact ⟨vs, g.keep _ _ e (.inr (.inr (.inr rfl))), (r.reP F1.p).mono gg⟩
/-- an item more -/
theorem Acc.app {acc : List D} {vs : List V} {d : D} {v : V} (a : Acc K m1 F1 H1 D' m F H st acc) (h : H D' = some (.lst vs)) (h1 : H1 D' = none) (r : RD K m F H d v) : Acc K m1 F1 H1 D' m F (upd H D' (.lst (vs ++ [v]))) st (acc ++ [d]) := by
  have ne : ∀ b u, H b = some u → (imm u = true ∨ F.f b ∨ F.p b) → b ≠ D' := by
    rintro b u e i rfl
    rcases i with i | i | i
    · rw [h] at e
      cases e
      cases i
    · exact a.fre.f i
    · exact a.fre.p i
  have gg : Gro m F H m F (upd H D' (.lst (vs ++ [v]))) := ⟨fun _ _ z => z, fun _ z => z, rfl, fun b u e i => by rw [upd_ne (ne b u e i)]; exact e⟩
  refine ⟨a.g.trans gg, ⟨a.rs.len, a.rs.inj, fun b z => ?_, a.rs.sep, fun b z => ?_, fun n o b e1 e2 => ?_⟩, a.fre, vs ++ [v], upd_same, ?_⟩
  · obtain ⟨u, e⟩ := a.rs.frf b z
    exact ⟨u, gg.keep b u e (.inr (.inl z))⟩
  · obtain ⟨⟨u, e⟩, z2, z3⟩ := a.rs.prt b z
    exact ⟨⟨u, gg.keep b u e (.inr (.inr z))⟩, z2, z3⟩
  · have q := a.rs.obj n o b e1 e2
    exact q.mono gg (upd_ne fun z => a.fre.m (by rw [← z]; exact List.mem_of_getElem? e2))
  · obtain ⟨ws, e, rr⟩ := a.lst
    rw [h] at e
    cases e
    exact (rr.mono gg).append (.cons (r.mono gg) .nil)
/-- behind a turn of the source -/
theorem Acc.turn {acc : List D} (a : Acc K m1 F1 H1 D' m F H st acc) (g : Gro m F H m F H') (rs : RSt K m F H' st) (hk : ∀ b, H b ≠ none → H' b = H b) : Acc K m1 F1 H1 D' m F H' st acc := by
  obtain ⟨vs, e, r⟩ := a.lst
  exact ⟨a.g.trans g, rs, a.fre, vs, by rw [hk D' (by rw [e]; simp)]; exact e, r.mono g⟩
theorem Acc.fit {acc : List D} {xs : List D} {src : Option (Nat × List D)} {m0 : List Addr} {F0 : FP} {H0 : Hp} {J : L2.It} (a : Acc K m1 F1 H1 D' m F H st acc) (w : Walks K J xs src m0 F0 H0) (g : Gro m0 ⟨F0.f, F1.p⟩ H0 m ⟨F.f, F1.p⟩ H) (hs : stays src st = true) :
    (∀ (i : Nat) x, xs[i]? = some x → J.go i H ∧ ∀ v H2, J.yld i H v H2 → Acc K m1 F1 H1 D' m F H2 st acc ∧ Gro m F H m F H2 ∧ RD K m F H2 x v) ∧ ∀ i : Nat, xs.length ≤ i → J.stop i H := by
  have e1 : F.p = F1.p := a.g.pro
  obtain ⟨w1, w2⟩ := w m F H st (by rw [e1]; obtain ⟨f, p⟩ := F; cases e1; exact g) a.rs hs
  refine ⟨fun i x hx => ?_, w2⟩
  obtain ⟨h1, h2⟩ := w1 i x hx
  refine ⟨h1, fun v H2 y => ?_⟩
  obtain ⟨q1, q2, q3, q4⟩ := h2 v H2 y
  exact ⟨a.turn q1 q2 q4, q1, q3⟩
end

theorem wipe_idem (σ : L2.St) (l : List Nat) : L2.wipe (L2.wipe σ l) l = L2.wipe σ l := by
  have go : ∀ (r : List Nat) (τ : L2.St), (∀ i ∈ r, i ∈ l) → L2.wipe (L2.wipe τ r) l = L2.wipe τ l := by
    intro r
    induction r with
    | nil => intro τ _; rfl
    | cons i r ih =>
      intro τ h
      have e : L2.wipe τ (i :: r) = (L2.wipe τ r).set i none := rfl
      rw [e, wipe_set (h i (by simp))]
      exact ih τ fun j hj => h j (List.mem_cons_of_mem _ hj)
  exact go l σ fun _ z => z
/-- a clause's tests, then its element -/
def tailC (ct : Rho → St → R Bool) (ce : Rho → St → R D) : Rho → St → R (List D) := fun ρ st => bnd (ct ρ st) fun b st => if b then bnd (ce ρ st) fun d st => some ([d], st) else some ([], st)
def oneC (cI : Rho → St → R (List D × Option (Nat × List D))) (g : G) (ct : Rho → St → R Bool) (ce : Rho → St → R D) : Rho → St → R (List D) := fun ρ st => bnd (cI ρ st) fun p st => walkF p.2 (fun x st => match bindG g x (wipeR ρ g.slots) with
    | some ρ' => tailC ct ce ρ' st
    | none => none) p.1 st
/-- what a comprehension's list may hold at most -/
def capC (cr : Rho → St → R (List D)) : Rho → St → R (List D) := fun ρ st => bnd (cr ρ st) fun xs st => if decide (xs.length ≤ cap) then some (xs, st) else none
theorem walkF_cons {src : Option (Nat × List D)} {f : D → St → R (List D)} {x : D} {xs : List D} {st st' : St} {zs : List D} (h : walkF src f (x :: xs) st = some (zs, st')) :
    stays src st = true ∧ ∃ ys st1 ws, f x st = some (ys, st1) ∧ walkF src f xs st1 = some (ws, st') ∧ zs = ys ++ ws := by
  simp only [walkF] at h
  split at h
  · rename_i hs
    obtain ⟨ys, st1, e1, h⟩ := bnd_eq h
    obtain ⟨ws, st2, e2, h⟩ := bnd_eq h
    cases h
    exact ⟨hs, ys, st1, ws, e1, e2, rfl⟩
  · cases h
theorem walkF_nil {src : Option (Nat × List D)} {f : D → St → R (List D)} {st st' : St} {zs : List D} (h : walkF src f [] st = some (zs, st')) : stays src st = true ∧ zs = [] ∧ st' = st := by
  simp only [walkF] at h
  split at h
  · rename_i hs
    cases h
    exact ⟨hs, rfl, rfl⟩
  · cases h
theorem drop_cons {xs : List D} {i : Nat} (h : i < xs.length) : xs.drop i = xs[i] :: xs.drop (i + 1) := List.drop_eq_getElem_cons h
section
variable {K : PySem.W.Frag} {m1 : List Addr} {F1 : FP} {H1 : Hp} {D' : Addr}
/-- the turn's end: tests and element, the list held -/
theorem tail_ok {ct : Rho → St → R Bool} {ce : Rho → St → R D} {m : List Addr} {F : FP} {H : Hp} {st st' : St} {acc ys : List D} {ρ : Rho} {σ : L2.St} {Nx : Hp → Prop} (h1 : H1 D' = none) (a : Acc K m1 F1 H1 D' m F H st acc) (re : REnv K m (F.hold D') H ρ σ)
    (e : tailC ct ce ρ st = some (ys, st')) (hl : acc.length + ys.length ≤ cap) (k : ∀ m' (F' : FP) H', Gro m F H m' ⟨F'.f, F1.p⟩ H' → Acc K m1 F1 H1 D' m' ⟨F'.f, F1.p⟩ H' st' (acc ++ ys) → Nx H') :
    TB K ct σ H fun b H3 => if b = true then T K ce σ H3 fun y H4 => ∃ vs, H4 D' = some (.lst vs) ∧ vs.length < sizeLine ∧ Nx (upd H4 D' (.lst (vs ++ [y]))) else Nx H3 := by
  obtain ⟨b, st1, e1, e⟩ := bnd_eq e
  have ep : F.p = F1.p := a.g.pro
  have un : ∀ {m' : List Addr} {F' : FP} {H' : Hp}, Gro m (F.hold D') H m' F' H' → Gro m F H m' ⟨F'.f, F1.p⟩ H' := fun {m' F' H'} g => ⟨g.pre, g.fro, ep.symm, fun b u e i => g.keep b u e (i.imp id fun j => j.imp id .inl)⟩
  refine TB.use re a.hold e1 fun H3 m3 F3 g3 re3 rs3 => ?_
  cases b with
  | false =>
    rw [if_neg (by decide)]
    cases e
    rw [List.append_nil] at k
    exact k m3 F3 H3 (un g3) (a.step g3 rs3)
  | true =>
    rw [if_pos rfl]
    rw [if_pos rfl] at e
    obtain ⟨d, st2, e2, e⟩ := bnd_eq e
    cases e
    refine T.use re3 rs3 e2 fun y H4 m4 F4 g4 re4 rs4 d4 => ?_
    have a4 := a.step (g3.trans g4) rs4
    obtain ⟨vs, hv, rv⟩ := a4.lst
    have hlen : vs.length < sizeLine := by
      rw [← cap_line, ← rv.length]
      simp only [List.length_cons, List.length_nil] at hl
      omega
    have a5 := a4.app hv h1 (d4.reP F1.p)
    refine ⟨vs, hv, hlen, k m4 F4 _ ((un (g3.trans g4)).trans ?_) a5⟩
    refine ⟨fun _ _ z => z, fun _ z => z, rfl, fun b u e i => ?_⟩
    rw [upd_ne ?_]
    · exact e
    · rintro rfl
      rcases i with i | i | i
      · rw [hv] at e
        cases e
        cases i
      · exact a4.fre.f i
      · exact a4.fre.p i
theorem one_ok {cI : Rho → St → R (List D × Option (Nat × List D))} {g : G} {ct : Rho → St → R Bool} {ce : Rho → St → R D} {σ : L2.St} {H : Hp} {Q : VK} (h : TL K (capC (oneC cI g ct ce)) σ H Q) : tLc (TIt K cI) (TGt K g) (TB K ct) (T K ce) g.slots σ H Q := by
  obtain ⟨ρ, st, m, F, ds, st', re, rs, e, q⟩ := h
  obtain ⟨ds', st0, e0, e⟩ := bnd_eq e
  split at e
  · rename_i hcap
    have hcap := of_decide_eq_true hcap
    cases e
    obtain ⟨⟨xs, src⟩, st1, e1, e2⟩ := bnd_eq e0
    refine ⟨ρ, st, m, F, xs, src, st1, re, rs, e1, fun J H1 m1 F1 g1 rs1 hxl w D' hD => ?_⟩
    generalize hf : (fun (x : D) (st : St) => match bindG g x (wipeR ρ g.slots) with
      | some ρ' => tailC ct ce ρ' st
      | none => none) = f at e2
    have e2 : walkF src f xs st1 = some (ds, st') := e2
    refine ⟨fun i μ H => μ = xs.length - i ∧ i ≤ xs.length ∧ ∃ m2 F2 st2 acc zs, Acc K m1 F1 H1 D' m2 F2 H st2 acc ∧ walkF src f (xs.drop i) st2 = some (zs, st') ∧ ds = acc ++ zs, ⟨xs.length, by simp, Nat.zero_le _, m1, F1, st1, [], ds, ?_, e2, rfl⟩, ?_⟩
    · exact ⟨gro_upd hD, rs1.upd hD, rs1.fre hD, [], upd_same, .nil⟩
    · rintro i μ H2 ⟨rfl, hi, m2, F2, st2, acc, zs, a, ew, ed⟩
      have ep : F2.p = F1.p := a.g.pro
      have gw : Gro m1 ⟨F1.f, F1.p⟩ H1 m2 ⟨F2.f, F1.p⟩ H2 := ⟨a.g.pre, a.g.fro, rfl, a.g.keep⟩
      by_cases hlt : i < xs.length
      · rw [drop_cons hlt] at ew
        obtain ⟨hs, ys, st3, ws, ef, ew, ez⟩ := walkF_cons ew
        obtain ⟨w1, _⟩ := a.fit w gw hs
        obtain ⟨go, yl⟩ := w1 i xs[i] (List.getElem?_eq_getElem hlt)
        refine .inr ⟨go, fun H' => ∃ m2 F2 st2 acc zs, Acc K m1 F1 H1 D' m2 F2 H' st2 acc ∧ walkF src f (xs.drop (i + 1)) st2 = some (zs, st') ∧ ds = acc ++ zs, fun H' n => ⟨xs.length - (i + 1), by omega, rfl, hlt, n⟩, fun v H3 y => ?_⟩
        obtain ⟨a3, g3, r3⟩ := yl v H3 y
        rw [← hf] at ef
        simp only at ef
        split at ef
        · rename_i ρ' eb
          have gr : Gro m F H m2 F2 H3 := (g1.trans a.g).trans g3
          have re2 : REnv K m2 (F2.hold D') H3 (wipeR ρ g.slots) (L2.wipe σ g.slots) := ((re.mono gr).reP (F2.hold D').p).wipe g.slots
          refine ⟨wipeR ρ g.slots, m2, F2.hold D', xs[i], ρ', re2, r3.reP _, eb, fun σ2 re3 out => ⟨?_, ?_⟩⟩
          · rw [out g.slots fun _ z => z]
            exact wipe_idem σ g.slots
          · refine tail_ok hD a3 re3 ef (by rw [ed, ez] at hcap; simp only [List.length_append] at hcap; omega) fun m' F' H' _ a' => ?_
            exact ⟨m', _, st3, acc ++ ys, ws, a', ew, by rw [ed, ez, List.append_assoc]⟩
        · cases ef
      · have hi' : i = xs.length := by omega
        subst hi'
        rw [List.drop_length] at ew
        obtain ⟨hs, ez, es⟩ := walkF_nil ew
        obtain ⟨_, w2⟩ := a.fit w gw hs
        subst ez es
        rw [List.append_nil] at ed
        subst ed
        obtain ⟨vs, hv, rv⟩ := a.lst
        exact .inl ⟨w2 _ (Nat.le_refl _), q D' vs H2 m2 F2 (g1.trans a.g) a.rs hv (by rw [← rv.length]; exact hcap) a.fre rv⟩
  · cases e
end
end MM

end

section
set_option maxRecDepth 100000
set_option maxHeartbeats 4000000
/-! Mini machine: comprehensions of two clauses. -/
namespace MM
open PySem PySem.Spec PyProof.Rows L2

def innC (cI2 : Rho → St → R (List D × Option (Nat × List D))) (g2 : G) (ct2 : Rho → St → R Bool) (ce : Rho → St → R D) : Rho → St → R (List D) := fun ρ' st => bnd (cI2 ρ' st) fun q st => walkF q.2 (fun y st => match bindG g2 y (wipeR ρ' g2.slots) with
    | some ρ'' => tailC ct2 ce ρ'' st
    | none => none) q.1 st
def twoC (cI : Rho → St → R (List D × Option (Nat × List D))) (g : G) (ct : Rho → St → R Bool) (cI2 : Rho → St → R (List D × Option (Nat × List D))) (g2 : G) (ct2 : Rho → St → R Bool) (ce : Rho → St → R D) : Rho → St → R (List D) := fun ρ st =>
  bnd (cI ρ st) fun p st => walkF p.2 (fun x st => match bindG g x (wipeR ρ (g.slots ++ g2.slots)) with
    | some ρ' => bnd (ct ρ' st) fun b st => if b then innC cI2 g2 ct2 ce ρ' st else some ([], st)
    | none => none) p.1 st
theorem wipe_idem2 (σ : L2.St) (l r : List Nat) (h : ∀ i ∈ r, i ∈ l) : L2.wipe (L2.wipe σ r) l = L2.wipe σ l := by
  induction r with
  | nil => rfl
  | cons i r ih =>
    have e : L2.wipe σ (i :: r) = (L2.wipe σ r).set i none := rfl
    rw [e, wipe_set (h i (by simp))]
    exact ih fun j hj => h j (List.mem_cons_of_mem _ hj)
section
variable {K : PySem.W.Frag} {m1 : List Addr} {F1 : FP} {H1 : Hp} {D' : Addr}
/-- the inner loop -/
theorem inn_ok {cI2 : Rho → St → R (List D × Option (Nat × List D))} {g2 : G} {ct2 : Rho → St → R Bool} {ce : Rho → St → R D} {m : List Addr} {F : FP} {H : Hp} {st st' : St} {acc ys : List D} {ρ : Rho} {σ : L2.St} {Nx : Hp → Prop} (h1 : H1 D' = none)
    (a : Acc K m1 F1 H1 D' m F H st acc) {m3 : List Addr} {F3 : FP} {H3 : Hp} {st3 : St} (g3 : Gro m (F.hold D') H m3 F3 H3) (re : REnv K m3 F3 H3 ρ σ) (rs : RSt K m3 F3 H3 st3) (e : innC cI2 g2 ct2 ce ρ st3 = some (ys, st')) (hl : acc.length + ys.length ≤ cap)
    (k : ∀ m' (F' : FP) H', Acc K m1 F1 H1 D' m' F' H' st' (acc ++ ys) → Nx H') :
    TIt K cI2 σ H3 fun J1 H4 => ∃ W1 : Nat → Nat → Hp → Prop, (∃ m, W1 0 m H4) ∧ ∀ j k H, W1 j k H →
      (J1.stop j H ∧ Nx H) ∨ (J1.go j H ∧ ∃ Nx1 : Hp → Prop, (∀ H', Nx1 H' → ∃ k', k' < k ∧ W1 (j + 1) k' H') ∧ ∀ x H', J1.yld j H x H' → TGt K g2 x (L2.wipe σ g2.slots) H' fun σ3 H5 => L2.wipe σ3 g2.slots = L2.wipe σ g2.slots ∧ TB K ct2 σ3 H5 fun b H6 =>
        if b = true then T K ce σ3 H6 fun y H7 => ∃ acc, H7 D' = some (.lst acc) ∧ acc.length < sizeLine ∧ Nx1 (upd H7 D' (.lst (acc ++ [y]))) else Nx1 H6) := by
  obtain ⟨⟨xs, src⟩, st4, e1, e2⟩ := bnd_eq e
  refine ⟨ρ, st3, m3, F3, xs, src, st4, re, rs, e1, fun J H4 m4 F4 g4 rs4 hxl w => ?_⟩
  have a4 := a.step (g3.trans g4) rs4
  have re4 : REnv K m4 ⟨F4.f, F1.p⟩ H4 ρ σ := (re.mono g4).reP F1.p
  generalize hf : (fun (x : D) (st : St) => match bindG g2 x (wipeR ρ g2.slots) with
    | some ρ' => tailC ct2 ce ρ' st
    | none => none) = f at e2
  have e2 : walkF src f xs st4 = some (ys, st') := e2
  refine ⟨fun i μ H => μ = xs.length - i ∧ i ≤ xs.length ∧ ∃ m5 F5 st5 ac zs, Acc K m1 F1 H1 D' m5 F5 H st5 ac ∧ Gro m4 ⟨F4.f, F1.p⟩ H4 m5 F5 H ∧ walkF src f (xs.drop i) st5 = some (zs, st') ∧ acc ++ ys = ac ++ zs, ⟨xs.length, by simp, Nat.zero_le _, m4, _, st4, acc, ys, a4, Gro.refl, e2, rfl⟩, ?_⟩
  rintro i μ H5 ⟨rfl, hi, m5, F5, st5, ac, zs, a5, g5, ew, ed⟩
  have ep : F5.p = F1.p := a5.g.pro
  have gw : Gro m4 ⟨F4.f, F1.p⟩ H4 m5 ⟨F5.f, F1.p⟩ H5 := ⟨g5.pre, g5.fro, rfl, g5.keep⟩
  by_cases hlt : i < xs.length
  · rw [drop_cons hlt] at ew
    obtain ⟨hs, us, st6, ws, ef, ew, ez⟩ := walkF_cons ew
    obtain ⟨w1, _⟩ := a5.fit w gw hs
    obtain ⟨go, yl⟩ := w1 i xs[i] (List.getElem?_eq_getElem hlt)
    refine .inr ⟨go, fun H' => ∃ m5 F5 st5 ac zs, Acc K m1 F1 H1 D' m5 F5 H' st5 ac ∧ Gro m4 ⟨F4.f, F1.p⟩ H4 m5 F5 H' ∧ walkF src f (xs.drop (i + 1)) st5 = some (zs, st') ∧ acc ++ ys = ac ++ zs, fun H' n => ⟨xs.length - (i + 1), by omega, rfl, hlt, n⟩, fun v H6 y => ?_⟩
    obtain ⟨a6, g6, r6⟩ := yl v H6 y
    rw [← hf] at ef
    simp only at ef
    split at ef
    · rename_i ρ' eb
      have re6 : REnv K m5 (F5.hold D') H6 (wipeR ρ g2.slots) (L2.wipe σ g2.slots) := ((re4.mono (g5.trans g6)).reP (F5.hold D').p).wipe g2.slots
      refine ⟨wipeR ρ g2.slots, m5, F5.hold D', xs[i], ρ', re6, r6.reP _, eb, fun σ3 re7 out => ⟨?_, ?_⟩⟩
      · rw [out g2.slots fun _ z => z]
        exact wipe_idem σ g2.slots
      · refine tail_ok h1 a6 re7 ef ?_ fun m' F' H' gg a' => ?_
        · have := congrArg List.length ed
          rw [ez] at this
          simp only [List.length_append] at this
          omega
        · exact ⟨m', _, st6, ac ++ us, ws, a', (g5.trans g6).trans gg, ew, by rw [ed, ez, List.append_assoc]⟩
    · cases ef
  · have hi' : i = xs.length := by omega
    subst hi'
    rw [List.drop_length] at ew
    obtain ⟨hs, ez, es⟩ := walkF_nil ew
    obtain ⟨_, w2⟩ := a5.fit w gw hs
    subst ez es
    rw [List.append_nil] at ed
    refine .inl ⟨w2 _ (Nat.le_refl _), k m5 F5 H5 (by rw [ed]; exact a5)⟩
theorem two_ok {cI cI2 : Rho → St → R (List D × Option (Nat × List D))} {g g2 : G} {ct ct2 : Rho → St → R Bool} {ce : Rho → St → R D} {σ : L2.St} {H : Hp} {Q : VK} (h : TL K (capC (twoC cI g ct cI2 g2 ct2 ce)) σ H Q) :
    tLc2 (TIt K cI) (TGt K g) (TB K ct) (TIt K cI2) (TGt K g2) (TB K ct2) (T K ce) (g.slots ++ g2.slots) g2.slots σ H Q := by
  obtain ⟨ρ, st, m, F, ds, st', re, rs, e, q⟩ := h
  obtain ⟨ds', st0, e0, e⟩ := bnd_eq e
  split at e
  · rename_i hcap
    have hcap := of_decide_eq_true hcap
    cases e
    obtain ⟨⟨xs, src⟩, st1, e1, e2⟩ := bnd_eq e0
    refine ⟨ρ, st, m, F, xs, src, st1, re, rs, e1, fun J H1 m1 F1 g1 rs1 hxl w D' hD => ?_⟩
    generalize hf : (fun (x : D) (st : St) => match bindG g x (wipeR ρ (g.slots ++ g2.slots)) with
      | some ρ' => bnd (ct ρ' st) fun b st => if b then innC cI2 g2 ct2 ce ρ' st else some ([], st)
      | none => none) = f at e2
    have e2 : walkF src f xs st1 = some (ds, st') := e2
    refine ⟨fun i μ H => μ = xs.length - i ∧ i ≤ xs.length ∧ ∃ m2 F2 st2 acc zs, Acc K m1 F1 H1 D' m2 F2 H st2 acc ∧ walkF src f (xs.drop i) st2 = some (zs, st') ∧ ds = acc ++ zs, ⟨xs.length, by simp, Nat.zero_le _, m1, F1, st1, [], ds, ?_, e2, rfl⟩, ?_⟩
    · exact ⟨gro_upd hD, rs1.upd hD, rs1.fre hD, [], upd_same, .nil⟩
    · rintro i μ H2 ⟨rfl, hi, m2, F2, st2, acc, zs, a, ew, ed⟩
      have ep : F2.p = F1.p := a.g.pro
      have gw : Gro m1 ⟨F1.f, F1.p⟩ H1 m2 ⟨F2.f, F1.p⟩ H2 := ⟨a.g.pre, a.g.fro, rfl, a.g.keep⟩
      by_cases hlt : i < xs.length
      · rw [drop_cons hlt] at ew
        obtain ⟨hs, ys, st3, ws, ef, ew, ez⟩ := walkF_cons ew
        obtain ⟨w1, _⟩ := a.fit w gw hs
        obtain ⟨go, yl⟩ := w1 i xs[i] (List.getElem?_eq_getElem hlt)
        refine .inr ⟨go, fun H' => ∃ m2 F2 st2 acc zs, Acc K m1 F1 H1 D' m2 F2 H' st2 acc ∧ walkF src f (xs.drop (i + 1)) st2 = some (zs, st') ∧ ds = acc ++ zs, fun H' n => ⟨xs.length - (i + 1), by omega, rfl, hlt, n⟩, fun v H3 y => ?_⟩
        obtain ⟨a3, g3, r3⟩ := yl v H3 y
        rw [← hf] at ef
        simp only at ef
        split at ef
        · rename_i ρ' eb
          have gr : Gro m F H m2 F2 H3 := (g1.trans a.g).trans g3
          have re2 : REnv K m2 (F2.hold D') H3 (wipeR ρ (g.slots ++ g2.slots)) (L2.wipe σ (g.slots ++ g2.slots)) := ((re.mono gr).reP (F2.hold D').p).wipe _
          refine ⟨_, m2, F2.hold D', xs[i], ρ', re2, r3.reP _, eb, fun σ2 re3 out => ⟨?_, ?_⟩⟩
          · rw [out (g.slots ++ g2.slots) fun _ z => List.mem_append_left _ z]
            exact wipe_idem σ _
          · obtain ⟨b, st4, e4, ef⟩ := bnd_eq ef
            have hlen : acc.length + ys.length ≤ cap := by rw [ed, ez] at hcap; simp only [List.length_append] at hcap; omega
            refine TB.use re3 a3.hold e4 fun H4 m4 F4 g4 re4 rs4 => ?_
            cases b with
            | false =>
              rw [if_neg (by decide)] at ef ⊢
              cases ef
              exact ⟨m4, _, _, acc, ws, a3.step g4 rs4, ew, by rw [ed, ez]; rfl⟩
            | true =>
              rw [if_pos rfl] at ef ⊢
              exact inn_ok hD a3 g4 re4 rs4 ef hlen fun m' F' H' a' => ⟨m', F', st3, acc ++ ys, ws, a', ew, by rw [ed, ez, List.append_assoc]⟩
        · cases ef
      · have hi' : i = xs.length := by omega
        subst hi'
        rw [List.drop_length] at ew
        obtain ⟨hs, ez, es⟩ := walkF_nil ew
        obtain ⟨_, w2⟩ := a.fit w gw hs
        subst ez es
        rw [List.append_nil] at ed
        subst ed
        obtain ⟨vs, hv, rv⟩ := a.lst
        exact .inl ⟨w2 _ (Nat.le_refl _), q D' vs H2 m2 F2 (g1.trans a.g) a.rs hv (by rw [← rv.length]; exact hcap) a.fre rv⟩
  · cases e
end
end MM

end

section
set_option maxRecDepth 100000
set_option maxHeartbeats 4000000
/-! Mini machine: enumerate over a tuple. -/
namespace MM
open PySem PySem.Spec PyProof.Rows L2
open AutoSeq1 (wpAny_loadPart')
def titO (l : Addr) : Obj := { cls := .type "tuple_iterator", data := .fields #[.ref l, .int 0 0] }
def enmO (i : Addr) : Obj := { cls := .type "enumerate", data := .fields #[.none, .bool false, .ref i, rawInt 0, .none, .none] }
theorem meets_enumT (l : Addr) (items : Array Value) (n : Nat) (dct : Option Addr) (sl : Array (Option Value)) :
    Meets (Builtin.«enumerate.__new__» ⟨[.type "enumerate", .ref l], []⟩) (fun _ R s => s.heap.get? l = some { cls := .type "tuple", dict := dct, data := .seq items n, slots := sl } ∧
      R (.ok (.ret (.ref (s.heap.push (titO l)).objs.size))) { s with heap := (s.heap.push (titO l)).push (enmO s.heap.objs.size) }) :=
  .of_wp fun prog w A R s h => by
    obtain ⟨hp, g, d, tk, os⟩ := s
    obtain ⟨hl, h⟩ := h
    have hsub := sub_enumerate
    have hT : Heap.IsTuple (Shared.heap ⟨hp, g, d, tk, os⟩) l items := ⟨_, hl, rfl, n, rfl⟩
    wp_walk using wpAny_loadPart' hl
    refine wpAny_stack_any fun st => wpAny_pure ?_
    split
    · rename_i c _ _ _ _ _
      cases (c == Value.type "enumerate")
      · wp_walk using wpAny_loadPart' hl, wpAny_pyIter_tuple hT
        exact ⟨_, rfl, h⟩
      · wp_walk using wpAny_loadPart' hl, wpAny_pyIter_tuple hT
        exact ⟨_, rfl, h⟩
    · wp_walk using wpAny_loadPart' hl, wpAny_pyIter_tuple hT
      exact ⟨_, rfl, h⟩
theorem call_enumT {prog : Program} {w : World} {A : Around} {E : Value → Shared → Prop} {s : Shared} {l : Addr} {items : Array Value} {Q : Value → Shared → Prop} (hL : s.heap.IsTuple l items)
    (h : ∀ h', IsEnum h' (s.heap.objs.size + 1) s.heap.objs.size 0 .none → h'.IsTupleIter s.heap.objs.size l 0 → (∀ b o, s.heap.get? b = some o → h'.get? b = some o) → Q (.ref (s.heap.objs.size + 1)) { s with heap := h' }) :
    wpAny (model prog w) A (call (.type "enumerate") [.ref l]) Q E s := by
  obtain ⟨⟨c, dct, dt, sl⟩, hl, hc, n, hd⟩ := hL
  simp only at hc hd
  subst hc hd
  refine callType_new F.called_enumerate (by decide) (F.typeCall_enumerate_1 _) (F.newCall_enumerate_1 _) (fun obj => F.args_object_init_2 obj _) F.entry_enumerate_new (meets_enumT l items n dct sl) ⟨hl, ?_⟩
  have hz : (s.heap.push (titO l)).objs.size = s.heap.objs.size + 1 := Heap.size_push ..
  rw [hz]
  have he : IsEnum ((s.heap.push (titO l)).push (enmO s.heap.objs.size)) (s.heap.objs.size + 1) s.heap.objs.size 0 .none := by
    have e1 := Heap.get?_push_size (s.heap.push (titO l)) (o := enmO s.heap.objs.size) rfl
    rw [hz] at e1
    exact e1
  exact ⟨⟨_, he, rfl⟩, h _ he ⟨_, Heap.get?_push_of_some _ (Heap.get?_push_size _ rfl), rfl, rfl⟩ fun b o x => Heap.get?_push_of_some _ (Heap.get?_push_of_some _ x)⟩

/-- the tuple at a, each item in a new pair -/
def IteX (K : PySem.W.Frag) (a : Addr) : L2.It :=
  ⟨fun i H => ∃ (xs : List V) (x : V), SqT K H a xs ∧ xs[i]? = some x,
    fun i H v H' => ∃ T ob x, v = .ref T ∧ H T = none ∧ ob.dict = none ∧ H' = upd H T (.frz ob (.tup [.int (i : Nat), x])) ∧ ∀ xs, SqT K H a xs → xs[i]? = some x,
    fun i H => ∃ xs : List V, SqT K H a xs ∧ xs.length ≤ i⟩
theorem turn_enumX {P : Program} {w : World} {K : PySem.W.Frag} {elts : List Expr} {kk : Nat} {tpos : Pos} (a e it : Addr) :
    Turn P w K (.Tuple elts kk tpos) (IteX K a) [e, it] e (fun i h => (∃ old, IsEnum h e it ((i : Nat) : Int) old) ∧ h.IsTupleIter it a i ∧ e ≠ it) where
  mem := by simp
  obj := fun i h st b hb => by
    obtain ⟨⟨old, he⟩, ⟨o, ho, hc, hd⟩, _⟩ := st
    have e' : b = e ∨ b = it := by simpa using hb
    rcases e' with z | z
    · subst z
      exact ⟨_, he, fun v q => nomatch q⟩
    · subst z
      exact ⟨o, ho, fun v q => by rw [hd] at q; cases q⟩
  keep := fun i h h' st k => by
    obtain ⟨⟨old, he⟩, ⟨o, ho, r⟩, hne⟩ := st
    exact ⟨⟨old, k e (by simp) _ he⟩, ⟨o, k it (by simp) _ ho, r⟩, hne⟩
  item := by
    intro X hP hw hK hc i pins s σ H E I hf st hg
    subst hP hw hK
    obtain ⟨⟨old, he⟩, hit, hne⟩ := st
    obtain ⟨xs, x, hq, hx⟩ := hg
    obtain ⟨its, rv, p, hz⟩ := I.tuple hq
    obtain ⟨u, hu, ru⟩ := rv.get hx
    have hai : a ≠ it := by
      intro z
      subst z
      obtain ⟨o1, e1, c1, _⟩ := hit
      obtain ⟨o2, e2, c2, _⟩ := p
      rw [e1] at e2
      cases e2
      rw [c1] at c2
      exact absurd c2 (by decide)
    have hae : a ≠ e := by
      intro z
      subst z
      obtain ⟨o2, e2, c2, _⟩ := p
      rw [he] at e2
      cases e2
      exact absurd (show Value.type "enumerate" = Value.type "tuple" from c2) (by decide)
    have hel : e < s.heap.objs.size := Heap.lt_size he
    have hil : it < s.heap.objs.size := by obtain ⟨_, q, _⟩ := hit; exact Heap.lt_size q
    have hlt : i < its.toArray.size := by
      obtain ⟨q, _⟩ := List.getElem?_eq_some_iff.mp hu
      simpa using q
    have D := Draws.tuple (prog := X.prog) (w := X.w) (A := X.A.in1) (I.ok.hd hc) it a hai its.toArray
    refine wpAny_pyNext_enum_itemD D he ⟨hit, p⟩ hlt hne (by simpa using ⟨hne, hae.symm⟩) fun y h' tk hy ho hst hT hsz hk => ?_
    have hyu : y = u := by
      have : its.toArray[i]? = some u := by simpa using hu
      rw [this] at hy
      exact (Option.some.inj hy).symm
    subst hyu
    refine ⟨_, rfl, wpAny_letOwnedTupleGo_enum (s := { s with heap := h', toks := tk + 1 }) ho fun h'' he' sb => ?_⟩
    have sb1 : ∀ c, c ≠ e → h''.get? c = h'.get? c := sb.2
    have hT2 : h''.get? s.heap.objs.size = some (tobj [.int i tk, y]) := (sb1 _ (Nat.ne_of_gt hel)).trans hT
    have new : ObjOk X.prog X.w (upd H s.heap.objs.size (.frz (tobj [.int i tk, y]) (.tup [.int (i : Nat), x]))) h'' s.heap.objs.size (.frz (tobj [.int i tk, y]) (.tup [.int (i : Nat), x])) :=
      ⟨hT2, by show 2 ≤ sizeLine; decide, [.int i tk, y], .cons ⟨_, rfl⟩ (.cons ru .nil), ⟨_, hT2, rfl, _, rfl⟩⟩
    have J : Inv X pins σ (upd H s.heap.objs.size (.frz (tobj [.int i tk, y]) (.tup [.int (i : Nat), x]))) { s with heap := h'', toks := tk + 1 } :=
      I.turnedNew (ch := [e, it]) (fun b ob hb q => (sb1 b (fun z => hb (by simp [z]))).trans (hk b ob (fun z => hb (by simp [z])) (fun z => hb (by simp [z])) q)) hf (Nat.le_refl _) new
    refine ⟨.ref s.heap.objs.size, _, J, rfl, ⟨_, _, x, rfl, I.hok.fresh (Nat.le_refl _), rfl, rfl, fun ys hy => by rw [I.tuple_inj hy hq]; exact hx⟩, ⟨⟨y, ?_⟩, ?_, hne⟩, fun b hb => ?_⟩
    · have e1 : ((i + 1 : Nat) : Int) = (i : Int) + 1 := by omega
      rw [e1]
      exact he'
    · obtain ⟨o, z1, z2⟩ := hst.1
      exact ⟨o, (sb1 it (Ne.symm hne)).trans z1, z2⟩
    · have hb' : b < s.heap.objs.size := by
        have e' : b = e ∨ b = it := by simpa using hb
        rcases e' with z | z
        · rw [z]; exact hel
        · rw [z]; exact hil
      rw [upd_ne (Nat.ne_of_lt hb')]
      exact (hf b hb).1
  done := by
    intro X hP hw hK hc i pins s σ H E I hf st hg
    subst hP hw hK
    obtain ⟨⟨old, he⟩, hit, hne⟩ := st
    obtain ⟨xs, hq, hx⟩ := hg
    obtain ⟨its, rv, p, hz⟩ := I.tuple hq
    obtain ⟨f0, f1, f2, f3, f4, f5⟩ := hf it (by simp)
    have hl := rv.length
    unfold pyNext
    have hT : s.TypeIs (.ref e) "enumerate" := ⟨_, he, rfl⟩
    refine wpAny_bind (wpAny_attempt (wpAny_callSpecial?_slot (name := Str.ofString "__next__") hT F.slot_enumerate_next (wpAny_call_entry F.slot_enumerate_next hT F.entry_enumerate_next ?_ (F.args_enumerate_next_1 _))))
    show wpAny _ _ (field (.ref e) 2 >>= _) _ _ _
    refine wpAny_bind (wpAny_field he rfl (x := .ref it) rfl ?_)
    refine wpAny_bind (wpAny_nextOf_tuple_end (I.ok.hd hc) hit p (by simp; omega) fun h' x eb hx' => ?_)
    obtain ⟨o, ho, hc'⟩ := hx'
    refine wpAny_bind (wpAny_isInstance (T := "StopIteration") (b := true) ⟨o, ho, hc'⟩ isSubtype_stop ?_)
    exact wpAny_pure ⟨rfl, I.turned (t' := s.toks) (fun b o hb q => eb b o hb q) f0 f1 f3 f4 f5⟩
  self := fun A i s Q E st h => by
    obtain ⟨⟨_, he⟩, _⟩ := st
    exact wpAny_pyIter_enum he h
theorem pi_enumX {X : Cx} {e : Expr} {ta : TA} {p pos tpos : Pos} {elts : List Expr} {kk : Nat} (hg : Gl X "enumerate") (hm : X.mg "enumerate" = none) (ha : PA X [e] ta) (hs : starEach [e] X.env = [(false, eval e X.env)]) :
    PI X (.Tuple elts kk tpos) (.Call (.Name "enumerate" p) [e] [] pos) (fun σ H R => ta σ H fun vs H1 => ∃ a xs, vs = [.ref a] ∧ SqT X.K H1 a xs ∧ R (IteX X.K a) H1) := by
  refine ⟨fun pins s σ H R I h => ?_⟩
  refine Call_ (ld_blt I hg hm boot_enumerate (PyProof.Rows.callWith_type1 (thn (ha.run pos pins s σ H _ I h) fun us s1 ⟨vs, H1, I1, r1, a, xs, ex, hq, q⟩ => ?_) hs rfl))
  subst ex
  cases r1 with
  | cons r rr =>
    cases rr
    cases r
    obtain ⟨its, rv, p', hz⟩ := I1.tuple hq
    refine call_enumT p' fun h' he hit hk => wpAny_pyIter_enum he ?_
    have I2 : Inv X pins σ H1 { s1 with heap := h' } := I1.kept (t' := s1.toks) hk
    refine ⟨s1.heap.objs.size + 1, [s1.heap.objs.size + 1, s1.heap.objs.size], _, _, H1, rfl, I2, turn_enumX a (s1.heap.objs.size + 1) s1.heap.objs.size, ⟨⟨.none, he⟩, hit, Nat.succ_ne_self _⟩, fun b hb => ?_, q⟩
    have e' : b = s1.heap.objs.size + 1 ∨ b = s1.heap.objs.size := by simpa using hb
    have hle : s1.heap.objs.size ≤ b := by
      rcases e' with z | z
      · rw [z]; exact Nat.le_add_right _ _
      · rw [z]; exact Nat.le_refl _
    exact I1.fpOk hle (I1.hok.fresh hle)
theorem walks_enm {K : PySem.W.Frag} {m : List Addr} {F : FP} {H : Hp} {a : Addr} {vs : List V} {xs : List D} (h : TupX H a vs) (r : RDs K m F H xs vs) :
    Walks K (IteX K a) ((List.range xs.length).zipWith (fun (i : Nat) x => .tup [.int i, x]) xs) none m F H := by
  intro m1 F1 H1 st1 g rs _
  have h1 := (g.tupX h).sqT (K := K)
  have r1 := (r.reP F1.p).mono g
  refine ⟨fun i x hx => ?_, fun i hi => ⟨vs, h1, by rw [← r.length]; simpa using hi⟩⟩
  rw [List.getElem?_zipWith] at hx
  cases hy : xs[i]? with
  | none => rw [hy] at hx; simp at hx
  | some y =>
    have hl := (List.getElem?_eq_some_iff.mp hy).1
    rw [hy, List.getElem?_range hl] at hx
    simp only [Option.some.injEq] at hx
    subst hx
    obtain ⟨v, hv, rv⟩ := r1.get hy
    refine ⟨⟨vs, v, h1, hv⟩, fun w H2 ⟨T, ob, z, e1, e2, e3, e4, e5⟩ => ?_⟩
    subst e1 e4
    have := e5 vs h1
    rw [hv] at this
    cases this
    refine ⟨gro_upd e2, rs.upd e2, .tup ⟨ob, upd_same, e3⟩ (by show 2 ≤ cap; decide) (.cons (.int _) (.cons (rv.mono (gro_upd e2)) .nil)), fun b hb => ?_⟩
    exact upd_ne fun z => hb (by rw [z]; exact e2)
section
variable {c : Tb} {cl : Cl} {ps : Nat → List Str} {k : Nat} {sc : Scope} {cs : Cs} {X : Cx}
def enmC (ca : Rho → St → R D) : Rho → St → R (List D × Option (Nat × List D)) := fun ρ st => bnd (ca ρ st) fun x st => match x with
  | .tup xs => some (((List.range xs.length).zipWith (fun (i : Nat) x => .tup [.int i, x]) xs, none), st)
  | _ => none
theorem it_enm {ca : Rho → St → R D} {e : Expr} {p pos tpos : Pos} {elts : List Expr} {kk : Nat} (g : Good c cl ps k sc cs X) (hg : glB sc "enumerate" = true) (he : PE X e (T X.K ca)) (hs : notStar e = true) :
    PI X (.Tuple elts kk tpos) (.Call (.Name "enumerate" p) [e] [] pos) (TIt X.K (enmC ca)) := by
  refine (pi_enumX (gl_of g hg) (g.free "enumerate" (by simp [builtinNames])) (pa_cons he pa_nil (star_of hs)) (star_of hs)).imp fun σ H R h => ?_
  obtain ⟨ρ, st, m, F, xs, src, st', re, rs, e, q⟩ := h
  obtain ⟨x, st1, e1, e⟩ := bnd_eq e
  cases x with
  | tup ys =>
    cases e
    refine T.use re rs e1 fun v H1 m1 F1 g1 re1 rs1 d1 => ?_
    cases d1 with
    | tup h1 h2 h3 =>
      refine ⟨_, _, rfl, h1.sqT, q _ _ _ _ g1 rs1 ?_ (walks_enm h1 h3)⟩
      simp
      rw [h3.length]
      exact h2
  | _ => cases e
end
end MM

end

section
set_option maxRecDepth 100000
set_option maxHeartbeats 4000000
/-! Mini machine: methods of lists, index, reversals, ranges, repr. -/
namespace MM
open PySem PySem.Spec PyProof.Rows L2
/-- an expression that is no call -/
def notCall : Expr → Bool
  | .Call .. => false
  | _ => true
theorem base_of {o : Expr} (h : notCall o = true) (n : Str) (env : Env) : attributeBase o n env (eval o env) = eval o env := by
  cases o <;> first | rfl | cases h
theorem few1 {e : Expr} (h : notStar e = true) (cpos : Pos) (env : Env) : ((backTo cpos (starEach [e] env)).all (fun x => !x.1) && (backToKw cpos (keywordEach [] env)).all (fun x => x.1.isSome)
      && decide ((e :: ([] : List Expr)).length + ([] : List Keyword).length + (if ([] : List Keyword).isEmpty then 0 else 1) < 30)) = true := by
  rw [star_of h]
  rfl
theorem few2 {e f : Expr} (h : notStar e = true) (h2 : notStar f = true) (cpos : Pos) (env : Env) : ((backTo cpos (starEach [e, f] env)).all (fun x => !x.1) && (backToKw cpos (keywordEach [] env)).all (fun x => x.1.isSome)
      && decide ((e :: [f]).length + ([] : List Keyword).length + (if ([] : List Keyword).isEmpty then 0 else 1) < 30)) = true := by
  rw [star_of h, star_of h2]
  rfl
section
variable {K : PySem.W.Frag} {m : List Addr} {F : FP} {H : Hp} {st : St}
theorem isL_of {x : D} (h : isL st x = true) : ∃ n xs, x = .ref n ∧ st[n]? = some (.lst xs) := by
  cases x with
  | ref n =>
    simp only [isL] at h
    split at h
    · exact ⟨n, _, rfl, by assumption⟩
    · cases h
  | _ => cases h
theorem tyL_of (rs : RSt K m F H st) {x : D} {v : V} (r : RD K m F H x v) (h : isL st x = true) : tyV K "list" v H := by
  obtain ⟨n, xs, rfl, e⟩ := isL_of h
  obtain ⟨a, vs, rfl, _, h1, _, _⟩ := ref_of rs r e
  exact .inl ⟨rfl, vs, .inl (.inl h1)⟩
/-- a list is written -/
theorem wrote (rs : RSt K m F H st) {n : Nat} {a : Addr} {vs : List V} {xs : List D} (hm : m[n]? = some a) (hl : vs.length ≤ cap) (r : RDs K m F H xs vs) :
    Gro m F H m F (upd H a (.lst vs)) ∧ RSt K m F (upd H a (.lst vs)) (st.set n (.lst xs)) := by
  have g := gro_write (u := .lst vs) rs hm
  exact ⟨g, rs.write hm ⟨vs, upd_same, hl, r.mono g⟩⟩
end
section
variable {c : Tb} {cl : Cl} {ps : Nat → List Str} {k : Nat} {sc : Scope} {cs : Cs} {X : Cx}
/-- x.pop() -/
def popC (ca : Rho → St → R D) : Rho → St → R D := fun ρ st => bnd (ca ρ st) fun x st => match x with
  | .ref n => match st[n]? with
    | some (.lst xs) => match xs[xs.length - 1]? with
      | some y => some (y, st.set n (.lst xs.dropLast))
      | none => none
    | _ => none
  | _ => none
theorem e_pop {ca : Rho → St → R D} {o : Expr} {apos cpos : Pos} (ho : PE X o (T X.K ca)) (hb : notCall o = true) (hline : (apos.endLine == cpos.line) = true) :
    PE X (.Call (.Attribute o "pop" apos) [] [] cpos) (T X.K (popC ca)) := by
  refine (pe_bm0 F.plainAttrs_list F.slot_list_pop F.type_list_pop mt_pop ho (base_of hb _ _) hline).imp fun σ H Q h => ?_
  obtain ⟨ρ, st, m, F, d, st', re, rs, e, q⟩ := h
  obtain ⟨x, st1, e1, e⟩ := bnd_eq e
  cases x with
  | ref n =>
    simp only at e
    split at e
    · rename_i xs hx
      split at e
      · rename_i y hy
        cases e
        refine T.use re rs e1 fun v H1 m1 F1 g1 re1 rs1 d1 => ?_
        obtain ⟨a, vs, rfl, hm, h1, hl, r⟩ := ref_of rs1 d1 hx
        obtain ⟨w, hw, rw'⟩ := r.get hy
        obtain ⟨g, rs2⟩ := wrote rs1 hm (vs := vs.dropLast) (by rw [List.length_dropLast]; omega) r.dropLast
        refine ⟨.inl ⟨rfl, vs, .inl (.inl h1)⟩, a, vs, w, rfl, rfl, h1, by rw [← r.length]; exact hw, ?_⟩
        exact q _ _ _ _ (g1.trans g) rs2 (rw'.mono g)
      · cases e
    · cases e
  | _ => cases e
/-- x.pop(i) -/
def popAtC (ca ci : Rho → St → R D) : Rho → St → R D := fun ρ st => bnd (ca ρ st) fun x st => if isL st x then bnd (ci ρ st) fun y st => popD st x y else none
theorem e_popAt {ca ci : Rho → St → R D} {o e : Expr} {apos cpos : Pos} (ho : PE X o (T X.K ca)) (he : PE X e (T X.K ci)) (hb : notCall o = true) (hs : notStar e = true) (hline : (apos.endLine == cpos.line) = true) :
    PE X (.Call (.Attribute o "pop" apos) [e] [] cpos) (T X.K (popAtC ca ci)) := by
  refine (pe_bm F.plainAttrs_list F.slot_list_pop F.type_list_pop mt_popAt ho (pa_cons he pa_nil (star_of hs)) (base_of hb _ _) (few1 hs _ _) hline (star_of hs) rfl).imp fun σ H Q h => ?_
  obtain ⟨ρ, st, m, F, d, st', re, rs, e, q⟩ := h
  obtain ⟨x, st1, e1, e⟩ := bnd_eq e
  split at e
  · rename_i hL
    obtain ⟨y, st2, e2, e⟩ := bnd_eq e
    refine T.use re rs e1 fun v H1 m1 F1 g1 re1 rs1 d1 => ⟨tyL_of rs1 d1 hL, ?_⟩
    refine T.use re1 rs1 e2 fun w H2 m2 F2 g2 re2 rs2 d2 => ?_
    obtain ⟨n, xs0, rfl, _⟩ := isL_of hL
    cases y with
    | int i =>
      simp only [popD] at e
      split at e
      · rename_i xs hx
        split at e
        · rename_i hi
          simp only [Bool.and_eq_true, decide_eq_true_eq] at hi
          split at e
          · rename_i z hz
            cases e
            cases d2
            obtain ⟨a, vs, rfl, hm, h1, hl, r⟩ := ref_of rs2 (d1.mono g2) hx
            obtain ⟨w, hw, rw'⟩ := r.get hz
            obtain ⟨g, rs3⟩ := wrote rs2 hm (vs := vs.eraseIdx i.toNat) (Nat.le_trans (len_erase _ _) hl) (r.eraseIdx i.toNat)
            have hlt := (List.getElem?_eq_some_iff.mp hw).1
            refine ⟨a, vs, i, i.toNat, w, rfl, rfl, h1, by omega, by omega, seqIndex_of hi.1 (by omega), hw, ?_⟩
            exact q _ _ _ _ ((g1.trans g2).trans g) rs3 (rw'.mono g)
          · cases e
        · cases e
      · cases e
    | _ => simp [popD] at e
  · cases e
/-- x.append(v) -/
def appC (ca ce : Rho → St → R D) : Rho → St → R D := fun ρ st => bnd (ca ρ st) fun x st => if isL st x then bnd (ce ρ st) fun v st => (appD st x v).map fun s => (.non, s) else none
theorem e_app {ca ce : Rho → St → R D} {o e : Expr} {apos cpos : Pos} (ho : PE X o (T X.K ca)) (he : PE X e (T X.K ce)) (hb : notCall o = true) (hs : notStar e = true) (hline : (apos.endLine == cpos.line) = true) :
    PE X (.Call (.Attribute o "append" apos) [e] [] cpos) (T X.K (appC ca ce)) := by
  refine (pe_bm F.plainAttrs_list F.slot_list_append F.type_list_append mt_append ho (pa_cons he pa_nil (star_of hs)) (base_of hb _ _) (few1 hs _ _) hline (star_of hs) rfl).imp fun σ H Q h => ?_
  obtain ⟨ρ, st, m, F, d, st', re, rs, e, q⟩ := h
  obtain ⟨x, st1, e1, e⟩ := bnd_eq e
  split at e
  · rename_i hL
    obtain ⟨y, st2, e2, e⟩ := bnd_eq e
    refine T.use re rs e1 fun v H1 m1 F1 g1 re1 rs1 d1 => ⟨tyL_of rs1 d1 hL, ?_⟩
    refine T.use re1 rs1 e2 fun w H2 m2 F2 g2 re2 rs2 d2 => ?_
    obtain ⟨n, xs0, rfl, _⟩ := isL_of hL
    obtain ⟨s, es, e3⟩ := Option.map_eq_some_iff.mp e
    cases e3
    simp only [appD] at es
    split at es
    · rename_i xs hx
      split at es
      · rename_i hc
        simp only [decide_eq_true_eq] at hc
        cases es
        obtain ⟨a, vs, rfl, hm, h1, hl, r⟩ := ref_of rs2 (d1.mono g2) hx
        have hlen := r.length
        obtain ⟨g, rs3⟩ := wrote rs2 hm (vs := vs ++ [w]) (by rw [List.length_append, List.length_singleton]; omega) (r.append (.cons d2 .nil))
        refine ⟨a, vs, w, rfl, rfl, h1, by rw [← cap_line]; omega, ?_⟩
        exact q _ _ _ _ ((g1.trans g2).trans g) rs3 .non
      · cases es
    · cases es
  · cases e
/-- x.extend(ys), ys a list just made -/
def extC (ca : Rho → St → R D) (ce : Rho → St → R (List D)) : Rho → St → R D := fun ρ st => bnd (ca ρ st) fun x st => if isL st x then bnd (ce ρ st) fun v st => (extD st x v).map fun s => (.non, s) else none
theorem ext_fin {m m1 m2 : List Addr} {F F1 F2 : FP} {H H1 H2 : Hp} {st2 s : St} {n : Nat} {ys : List D} {ws : List V} {b : Addr} {v : V} {Q : VK} (d1 : RD X.K m2 F2 H2 (.ref n) v) (rs2 : RSt X.K m2 F2 H2 st2) (es : extD st2 (.ref n) ys = some s)
    (hb : H2 b = some (.lst ws)) (r2 : RDs X.K m2 F2 H2 ys ws) (q : ∀ v H' m' F', Gro m2 F2 H2 m' F' H' → RSt X.K m' F' H' s → RD X.K m' F' H' .non v → Q v H') : rExtend v [.ref b] H2 Q := by
  simp only [extD] at es
  split at es
  · rename_i xs hx
    split at es
    · rename_i hc
      simp only [decide_eq_true_eq] at hc
      cases es
      obtain ⟨a, vs, rfl, hm, h1, hl, r⟩ := ref_of rs2 d1 hx
      have l1 := r.length
      have l2 := r2.length
      obtain ⟨g, rs3⟩ := wrote rs2 hm (vs := vs ++ ws) (by rw [List.length_append]; omega) (r.append r2)
      refine ⟨a, b, vs, ws, rfl, rfl, h1, hb, by rw [← cap_line]; omega, ?_⟩
      exact q _ _ _ _ g rs3 .non
    · cases es
  · cases es
theorem e_ext {ca : Rho → St → R D} {ce : Rho → St → R (List D)} {o e : Expr} {apos cpos : Pos} (ho : PE X o (T X.K ca)) (he : PE X e (TL X.K ce)) (hb : notCall o = true) (hs : notStar e = true) (hline : (apos.endLine == cpos.line) = true) :
    PE X (.Call (.Attribute o "extend" apos) [e] [] cpos) (T X.K (extC ca ce)) := by
  refine (pe_bm F.plainAttrs_list F.slot_list_extend F.type_list_extend mt_extend ho (pa_cons he pa_nil (star_of hs)) (base_of hb _ _) (few1 hs _ _) hline (star_of hs) rfl).imp fun σ H Q h => ?_
  obtain ⟨ρ, st, m, F, d, st', re, rs, e, q⟩ := h
  obtain ⟨x, st1, e1, e⟩ := bnd_eq e
  split at e
  · rename_i hL
    obtain ⟨y, st2, e2, e⟩ := bnd_eq e
    refine T.use re rs e1 fun v H1 m1 F1 g1 re1 rs1 d1 => ⟨tyL_of rs1 d1 hL, ?_⟩
    refine TL.use re1 rs1 e2 fun b ws H2 m2 F2 g2 re2 rs2 h1 h2 h3 d2 => ?_
    obtain ⟨n, xs0, rfl, _⟩ := isL_of hL
    obtain ⟨s, es, e3⟩ := Option.map_eq_some_iff.mp e
    cases e3
    exact ext_fin (m := m) (m1 := m1) (F := F) (F1 := F1) (H := H) (H1 := H1) (d1.mono g2) rs2 es h1 d2 fun v H' m' F' g => q v H' m' F' ((g1.trans g2).trans g)
  · cases e
/-- .. any list -/
def extEC (ca ce : Rho → St → R D) : Rho → St → R D := fun ρ st => bnd (ca ρ st) fun x st => if isL st x then bnd (ce ρ st) fun v st => match lstOf st v with
  | some ys => (extD st x ys).map fun s => (.non, s)
  | none => none
  else none
theorem e_extE {ca ce : Rho → St → R D} {o e : Expr} {apos cpos : Pos} (ho : PE X o (T X.K ca)) (he : PE X e (T X.K ce)) (hb : notCall o = true) (hs : notStar e = true) (hline : (apos.endLine == cpos.line) = true) :
    PE X (.Call (.Attribute o "extend" apos) [e] [] cpos) (T X.K (extEC ca ce)) := by
  refine (pe_bm F.plainAttrs_list F.slot_list_extend F.type_list_extend mt_extend ho (pa_cons he pa_nil (star_of hs)) (base_of hb _ _) (few1 hs _ _) hline (star_of hs) rfl).imp fun σ H Q h => ?_
  obtain ⟨ρ, st, m, F, d, st', re, rs, e, q⟩ := h
  obtain ⟨x, st1, e1, e⟩ := bnd_eq e
  split at e
  · rename_i hL
    obtain ⟨y, st2, e2, e⟩ := bnd_eq e
    refine T.use re rs e1 fun v H1 m1 F1 g1 re1 rs1 d1 => ⟨tyL_of rs1 d1 hL, ?_⟩
    refine T.use re1 rs1 e2 fun u H2 m2 F2 g2 re2 rs2 d2 => ?_
    obtain ⟨n, xs0, rfl, _⟩ := isL_of hL
    split at e
    · rename_i ys hy
      obtain ⟨s, es, e3⟩ := Option.map_eq_some_iff.mp e
      cases e3
      obtain ⟨b, ws, rfl, h1, h2, d3⟩ := lst_of rs2 d2 hy
      exact ext_fin (m := m) (m1 := m1) (F := F) (F1 := F1) (H := H) (H1 := H1) (d1.mono g2) rs2 es h1 d3 fun v H' m' F' g => q v H' m' F' ((g1.trans g2).trans g)
    · cases e
  · cases e
/-- t.index(x), whole numbers -/
def indexC (ca ce : Rho → St → R D) : Rho → St → R D := fun ρ st => bnd (ca ρ st) fun a st => if isT a then bnd (ce ρ st) fun x st => liftO st (indexD a x) else none
theorem e_index {ca ce : Rho → St → R D} {o e : Expr} {apos cpos : Pos} (ho : PE X o (T X.K ca)) (he : PE X e (T X.K ce)) (hb : notCall o = true) (hs : notStar e = true) (hline : (apos.endLine == cpos.line) = true) :
    PE X (.Call (.Attribute o "index" apos) [e] [] cpos) (T X.K (indexC ca ce)) := by
  refine ⟨fun pins s σ H Q I h => ?_⟩
  obtain ⟨ρ, st, m, F, d, st', re, rs, e', q⟩ := h
  obtain ⟨x, st1, e1, e'⟩ := bnd_eq e'
  split at e'
  · rename_i hT
    obtain ⟨y, st2, e2, e'⟩ := bnd_eq e'
    obtain ⟨e3, e4⟩ := liftO_eq e'
    have e4' : st' = st2 := e4
    subst e4'
    cases x with
    | tup xs =>
      cases y with
      | int j =>
        simp only [indexD] at e3
        split at e3
        · rename_i is his
          split at e3
          · rename_i hj
            cases e3
            have hmem : j ∈ is := by simpa using hj
            have t1 : T X.K ca σ H (fun v H1 => ∃ a vs ms Fs, v = .ref a ∧ TupX H1 a vs ∧ vs = is.map V.int ∧ REnv X.K ms Fs H1 ρ σ ∧ RSt X.K ms Fs H1 st1 ∧ Gro m F H ms Fs H1) := by
              refine T.use re rs e1 fun v H1 m1 F1 g1 re1 rs1 d1 => ?_
              cases d1 with
              | tup h1 h2 h3 => exact ⟨_, _, m1, F1, rfl, h1, h3.ints his, re1, rs1, g1⟩
            refine wpAny_Call_method_late (base_of hb _ _) (few1 hs _ _) hline rfl (thn (ho.run pins s σ H _ I t1) fun v s1 ⟨x1, H1, I1, r1, a, vs, m1, F1, ex, hx, ev, re1, rs1, g1⟩ => ?_)
            subst ex ev
            cases r1
            obtain ⟨ob, hob, hdn⟩ := hx
            have hget : s1.heap.get? a = some ob := (I1.hok a _ hob).1
            obtain ⟨its, rv, p, hz⟩ := I1.tuple (.inl (.inr ⟨ob, hob⟩))
            refine ⟨"tuple", "tuple.index", PySem.F.plainAttrs_tuple, PySem.F.slot_tuple_index, PySem.F.type_tuple_index, p.typeIs, fun b eb => by cases eb; exact ⟨ob, hget, hdn⟩, ?_⟩
            have hA := (pa_cons he pa_nil (star_of hs)).run cpos pins s1 σ H1 (fun us H2 => ∃ m2 F2, us = [.int j] ∧ Gro m1 F1 H1 m2 F2 H2 ∧ RSt X.K m2 F2 H2 st') I1
              (T.use re1 rs1 e2 fun w H2 m2 F2 g2 re2 rs2 d2 => by cases d2; exact ⟨m2, F2, rfl, g2, rs2⟩)
            rw [star_of hs] at hA ⊢
            refine Calls.callWith_builtin rfl (Calls.evalArgs_plain ?_)
            refine thn hA fun us s2 ⟨ws, H2, I2, r2, m2, F2, ew, g2, rs2⟩ => ?_
            subst ew
            obtain ⟨u, rfl, t, rfl⟩ := vals1 r2
            have hob2 : H2 a = some (.frz ob (.tup (is.map V.int))) := g2.keep _ _ hob (.inl rfl)
            obtain ⟨its2, rv2, p2, _⟩ := I2.tuple (.inl (.inr ⟨ob, hob2⟩))
            exact SeqAt.tuple_index_ints p2 (intsAre_of rv2) hmem ⟨.int _, H2, I2.tok _, ⟨_, rfl⟩, q _ _ _ _ (g1.trans g2) rs2 (.int _)⟩
          · cases e3
        · cases e3
      | _ => simp [indexD] at e3
    | _ => simp [isT] at hT
  · cases e'
/-- a[i] = v -/
theorem set_m {m : List Addr} {F : FP} {H : Hp} {st s : St} {x y z : D} {o i v : V} {Q : Hp → Prop} (rs : RSt X.K m F H st) (h1 : RD X.K m F H x o) (h2 : RD X.K m F H y i) (h3 : RD X.K m F H z v) (e : setD st x y z = some s)
    (q : ∀ H', Gro m F H m F H' → RSt X.K m F H' s → Q H') : rSetL o i v H Q := by
  cases x with
  | ref n =>
    cases y with
    | int j =>
      simp only [setD] at e
      split at e
      · rename_i xs hx
        split at e
        · rename_i hc
          simp only [Bool.and_eq_true, decide_eq_true_eq] at hc
          cases e
          cases h2
          obtain ⟨a, vs, rfl, hm, e1, hl, r⟩ := ref_of rs h1 hx
          obtain ⟨g, rs3⟩ := wrote rs hm (vs := vs.set j.toNat v) (by rw [List.length_set]; exact hl) (r.set j.toNat h3)
          have hlen := r.length
          have hlt : j.toNat < vs.length := by omega
          refine ⟨a, vs, j, j.toNat, rfl, rfl, e1, ?_, q _ g rs3⟩
          unfold ixN
          rw [if_pos hc.1, if_pos (by omega)]
        · cases e
      · cases e
    | _ => simp [setD] at e
  | _ => simp [setD] at e
/-! ### ranges, reversals -/
theorem rg_data {K : PySem.W.Frag} {m : List Addr} {F : FP} {H : Hp} (n : Int) : RDs K m F H ((List.range n.toNat).map fun (i : Nat) => .int i) (rgV 0 n) := by
  have e1 : rgV 0 n = ((List.range n.toNat).map fun (i : Nat) => (i : Int)).map V.int := by
    unfold rgV
    rw [List.map_map, show n - 0 = n by omega]
    refine List.map_congr_left fun i _ => ?_
    show V.int (0 + (i : Int)) = V.int (i : Int)
    rw [Int.zero_add]
  have e2 : ((List.range n.toNat).map fun (i : Nat) => D.int i) = ((List.range n.toNat).map fun (i : Nat) => (i : Int)).map D.int := by
    rw [List.map_map]
    rfl
  rw [e1, e2]
  exact RDs.of_ints _
theorem rg_len {n : Int} (h : n ≤ 1000000) : (rgV 0 n).length ≤ cap := by
  rw [rgV_length]
  unfold cap
  omega
theorem e_tupR {ca : Rho → St → R D} {e : Expr} {p p2 pos pos2 : Pos} (g : Good c cl ps k sc cs X) (hg : glB sc "tuple" = true) (hg2 : glB sc "range" = true) (he : PE X e (T X.K ca)) (hs : notStar e = true) :
    PE X (.Call (.Name "tuple" p) [.Call (.Name "range" p2) [e] [] pos2] [] pos) (T X.K fun ρ st => bnd (ca ρ st) fun x st => match x with
      | .int n => if decide (n ≤ 1000000) && decide (-1000000 ≤ n) then some (.tup ((List.range n.toNat).map fun (i : Nat) => .int i), st) else none
      | _ => none) := by
  refine (pe_tupRgX g.calm (gl_of g hg) (g.free "tuple" (by simp [builtinNames])) (prg_1 (gl_of g hg2) (g.free "range" (by simp [builtinNames])) he (star_of hs))).imp fun σ H Q h => ?_
  obtain ⟨ρ, st, m, F, d, st', re, rs, e', q⟩ := h
  obtain ⟨x, st1, e1, e'⟩ := bnd_eq e'
  cases x with
  | int n =>
    simp only at e'
    split at e'
    · rename_i hc
      simp only [Bool.and_eq_true, decide_eq_true_eq] at hc
      cases e'
      refine T.use re rs e1 fun v H1 m1 F1 g1 re1 rs1 d1 => ?_
      cases d1
      exact ⟨n, rfl, ⟨by omega, by omega, by omega, by omega, by omega⟩, done_tup rs1 (rg_len hc.1) (rg_data n) fun w H' m' F' g' => q w H' m' F' (g1.trans g')⟩
    · cases e'
  | _ => cases e'
theorem l_ofR {ca : Rho → St → R D} {e : Expr} {p p2 pos pos2 : Pos} (g : Good c cl ps k sc cs X) (hg : glB sc "list" = true) (hg2 : glB sc "range" = true) (he : PE X e (T X.K ca)) (hs : notStar e = true) :
    PE X (.Call (.Name "list" p) [.Call (.Name "range" p2) [e] [] pos2] [] pos) (TL X.K fun ρ st => bnd (ca ρ st) fun x st => match x with
      | .int n => if decide (n ≤ 1000000) && decide (-1000000 ≤ n) then some ((List.range n.toNat).map fun (i : Nat) => .int i, st) else none
      | _ => none) := by
  refine (pe_listRg g.calm (gl_of g hg) (g.free "list" (by simp [builtinNames])) (prg_1 (gl_of g hg2) (g.free "range" (by simp [builtinNames])) he (star_of hs))).imp fun σ H Q h => ?_
  obtain ⟨ρ, st, m, F, d, st', re, rs, e', q⟩ := h
  obtain ⟨x, st1, e1, e'⟩ := bnd_eq e'
  cases x with
  | int n =>
    simp only at e'
    split at e'
    · rename_i hc
      simp only [Bool.and_eq_true, decide_eq_true_eq] at hc
      cases e'
      refine T.use re rs e1 fun v H1 m1 F1 g1 re1 rs1 d1 => ?_
      cases d1
      exact ⟨n, rfl, ⟨by omega, by omega, by omega, by omega, by omega⟩, fun p hp => done_new rs1 (rg_len hc.1) (rg_data n) hp fun a vs H' m' F' g' => q a vs H' m' F' (g1.trans g')⟩
    · cases e'
  | _ => cases e'
/-- x[::-1] -/
theorem e_rev {ca : Rho → St → R D} {e : Expr} {kk : Nat} {p1 p2 p3 pos : Pos} (he : PE X e (T X.K ca)) : PE X (.Subscript e (.Slice none none (some (.UnaryOp .USub (.Constant (.int 1) kk p1) p2)) p3) pos)
    (T X.K fun ρ st => bnd (ca ρ st) fun x st => liftO st (revD st x)) := by
  refine (pe_revX he).imp fun σ H Q h => ?_
  obtain ⟨ρ, st, m, F, d, st', re, rs, e', q⟩ := h
  obtain ⟨x, st1, e1, e'⟩ := bnd_eq e'
  obtain ⟨e3, e4⟩ := liftO_eq e'
  have e4' : st' = st1 := e4
  subst e4'
  refine T.use re rs e1 fun v H1 m1 F1 g1 re1 rs1 d1 => ?_
  have lst : ∀ xs, lstOf st' x = some xs → d = .lst xs.reverse → ∃ a vs, v = .ref a ∧ ((SqL X.K H1 a vs ∧ ∀ p, H1 p = none → Q (.ref p) (upd H1 p (.lst vs.reverse))) ∨ (SqT X.K H1 a vs ∧ NewT H1 vs.reverse Q)) := by
    intro xs hx hz
    subst hz
    obtain ⟨a, vs, rfl, h, hl, r⟩ := lst_of rs1 d1 hx
    exact ⟨a, vs, rfl, .inl ⟨.inl (.inl h), fun p hp => done_lst rs1 (by rw [List.length_reverse]; exact hl) r.reverse hp fun w H' m' F' g' => q w H' m' F' (g1.trans g')⟩⟩
  cases x with
  | tup xs =>
    cases e3
    cases d1 with
    | tup h hl r => exact ⟨_, _, rfl, .inr ⟨h.sqT, done_tup rs1 (by rw [List.length_reverse]; exact hl) r.reverse fun w H' m' F' g' => q w H' m' F' (g1.trans g')⟩⟩
  | lst xs => exact lst xs rfl (by cases e3; rfl)
  | ref n =>
    obtain ⟨xs, h1, h2⟩ := Option.map_eq_some_iff.mp (show (seqOf st' (.ref n)).map (fun xs => D.lst xs.reverse) = some d from e3)
    exact lst xs h1 h2.symm
  | _ => simp [revD, seqOf] at e3
theorem l_rev {ca : Rho → St → R D} {e : Expr} {kk : Nat} {p1 p2 p3 pos : Pos} (he : PE X e (T X.K ca)) : PE X (.Subscript e (.Slice none none (some (.UnaryOp .USub (.Constant (.int 1) kk p1) p2)) p3) pos)
    (TL X.K fun ρ st => bnd (ca ρ st) fun x st => liftO st ((lstOf st x).map List.reverse)) := by
  refine (pe_revX he).imp fun σ H Q h => ?_
  obtain ⟨ρ, st, m, F, d, st', re, rs, e', q⟩ := h
  obtain ⟨x, st1, e1, e'⟩ := bnd_eq e'
  obtain ⟨e3, e4⟩ := liftO_eq e'
  have e4' : st' = st1 := e4
  subst e4'
  obtain ⟨xs, hx, hd⟩ := Option.map_eq_some_iff.mp e3
  have hd' : xs.reverse = d := hd
  subst hd'
  refine T.use re rs e1 fun v H1 m1 F1 g1 re1 rs1 d1 => ?_
  obtain ⟨a, vs, rfl, h, hl, r⟩ := lst_of rs1 d1 hx
  exact ⟨a, vs, rfl, .inl ⟨.inl (.inl h), fun p hp => done_new rs1 (by rw [List.length_reverse]; exact hl) r.reverse hp fun a vs H' m' F' g' => q a vs H' m' F' (g1.trans g')⟩⟩
end

/-! ### repr -/
theorem text_len : ∀ (ts : List Str) (kk : Nat) (acc : Str), (textFrom kk acc ts).length ≤ acc.length + (ts.map fun t => t.length + 2).sum
  | [], kk, acc => by simp [textFrom]
  | t :: r, kk, acc => by
    have h := text_len r (kk + 1) (acc ++ (if kk > 0 then ", " else "" : String) ++ t)
    have e : (acc ++ (if kk > 0 then ", " else "" : String) ++ t).length ≤ acc.length + 2 + t.length := by
      rw [strLen_append, strLen_append]
      split
      · exact Nat.le_refl _
      · show acc.length + 0 + t.length ≤ _
        omega
    show (textFrom (kk + 1) (acc ++ (if kk > 0 then ", " else "" : String) ++ t) r).length ≤ _
    rw [List.map_cons, List.sum_cons]
    omega
theorem piled_sum : ∀ ts : List Str, piled ts = (ts.map fun t => t.length + 2).sum
  | [] => by simp [piled]
  | t :: r => by rw [piled_cons, piled_sum r, List.map_cons, List.sum_cons]
mutual
theorem shown_len : ∀ d : D, D.wt d ≤ cap → d.py.shown.length ≤ D.wt d ∧ d.py.showable = true
  | .non, _ => by simp only [D.py, PyData.shown, PyData.showable, D.wt]; exact ⟨by decide +kernel, trivial⟩
  | .bl b, _ => by
    simp only [D.py, PyData.shown, PyData.showable, D.wt]
    cases b <;> exact ⟨by decide +kernel, trivial⟩
  | .int i, h => by
    simp only [D.wt] at h ⊢
    split at h
    · rename_i hi
      rw [if_pos hi]
      simp only [D.py, PyData.shown, PyData.showable]
      refine ⟨?_, ?_⟩
      · have := int_text_length_le10 (a := i) (k := 9) (by decide) hi
        show (Str.ofString (toString i)).length ≤ 11
        rw [PySem.ofString_length]
        omega
      · refine decide_eq_true ?_
        by_cases h0 : i.natAbs = 0
        · rw [h0]; decide
        · exact (Nat.log2_lt h0).mpr (Nat.lt_of_lt_of_le hi (Nat.le_trans (show (1000000000 : Nat) ≤ 2 ^ 30 by decide) (Nat.pow_le_pow_right (by decide) (by decide))))
    · unfold cap at h; omega
  | .str x, h => by simp only [D.wt] at h; unfold cap at h; omega
  | .tup xs, h => by
    simp only [D.wt] at h ⊢
    obtain ⟨h1, h2⟩ := showns_len xs (by omega)
    simp only [D.py, PyData.shown, PyData.showable]
    refine ⟨?_, h2⟩
    have e : (tupleText (PyData.shownAll (D.pys xs))).length ≤ 1 + (Str.join ", " (PyData.shownAll (D.pys xs))).length + 2 := by
      unfold tupleText
      rw [strLen_append, strLen_append]
      split
      · exact Nat.le_refl _
      · exact Nat.le_succ _
    by_cases hz : PyData.shownAll (D.pys xs) = []
    · rw [hz] at e ⊢
      have : (Str.join ", " ([] : List Str)).length = 0 := rfl
      omega
    · have := join_length_add _ hz
      rw [piled_sum] at this
      omega
  | .lst xs, h => by
    simp only [D.wt] at h ⊢
    obtain ⟨h1, h2⟩ := showns_len xs (by omega)
    simp only [D.py, PyData.shown, PyData.showable]
    refine ⟨?_, h2⟩
    unfold listText
    rw [strLen_append]
    have := text_len (PyData.shownAll (D.pys xs)) 0 "["
    have e1 : (("[" : String) : Str).length = 1 := rfl
    have e2 : (("]" : String) : Str).length = 1 := rfl
    omega
  | .scr x, h => by simp only [D.wt] at h; unfold cap at h; omega
  | .ref x, h => by simp only [D.wt] at h; unfold cap at h; omega
theorem showns_len : ∀ ds : List D, D.wts ds ≤ cap → ((PyData.shownAll (D.pys ds)).map fun t => t.length + 2).sum ≤ D.wts ds ∧ PyData.showableAll (D.pys ds) = true
  | [], _ => by simp [D.pys, PyData.shownAll, PyData.showableAll, D.wts]
  | x :: xs, h => by
    simp only [D.wts] at h ⊢
    obtain ⟨a1, a2⟩ := shown_len x (by omega)
    obtain ⟨b1, b2⟩ := showns_len xs (by omega)
    simp only [D.pys, PyData.shownAll, PyData.showableAll, List.map_cons, List.sum_cons, a2, b2, Bool.and_self, and_true]
    omega
end
section
variable {X : Cx}
def rRepr (K : PySem.W.Frag) : List V → Hp → VK → Prop := fun vs H Q => ∃ x d, vs = [x] ∧ Dp K H x d ∧ d.showable = true ∧ d.shown.length ≤ sizeLine ∧ PyData.canLay0 d = true ∧ d.depth ≤ 60 ∧ Q (.str d.shown) H
theorem cr_repr (hg : X.A.guards = some []) (hu : X.A.units + 65 < cLine) : CallR X (.builtin "repr") (rRepr X.K) := by
  intro pins s σ H vs us Q I r ⟨x, d, ev, hd, hs, hl, hc, hdep, q⟩
  subst ev
  obtain ⟨u, rfl, ru⟩ := vals1 r
  have ref : ∀ a, u = .ref a → wpAny (model X.prog X.w) X.A (call (.builtin "repr") [u]) (EP X pins σ Q) X.xe s := by
    intro a eu
    subst eu
    obtain ⟨as, rd⟩ := Dp.reads I d x _ hd ru
    exact repr_of_reads' rd hs (PyData.noDict_hsm (PyData.hasDict_of_canLay d hc)) hg (by omega) (fun b o e => e) (fun h' u tk hk => ⟨.str d.shown, H, I.kept hk, ⟨u, rfl⟩, q⟩) hl
  cases hd with
  | non =>
    cases ru
    exact PySem.P.repr_of_none ⟨.str _, H, I.tok _, ⟨_, rfl⟩, by simpa only [PyData.shown] using q⟩
  | bl b =>
    cases ru
    exact PySem.P.repr_of_bool ⟨.str _, H, I.tok _, ⟨_, rfl⟩, by simpa only [PyData.shown] using q⟩
  | int i =>
    obtain ⟨t, rfl⟩ := ru
    exact PySem.P.repr_of_int (by simpa only [PyData.showable, decide_eq_true_eq] using hs) ⟨.str _, H, I.tok _, ⟨_, rfl⟩, by simpa only [PyData.shown] using q⟩
  | str z =>
    obtain ⟨t, rfl⟩ := ru
    exact PySem.P.repr_of_str ⟨.str _, H, I.tok _, ⟨_, rfl⟩, by simpa only [PyData.shown] using q⟩ (by simpa only [PyData.shown] using hl)
  | _ => exact ref _ ru
end
section
variable {c : Tb} {cl : Cl} {ps : Nat → List Str} {k : Nat} {sc : Scope} {cs : Cs} {X : Cx}
theorem e_repr {ca : Rho → St → R D} {e : Expr} {p pos : Pos} (g : Good c cl ps k sc cs X) (hg : glB sc "repr" = true) (he : PE X e (T X.K ca)) (hs : notStar e = true) :
    PE X (.Call (.Name "repr" p) [e] [] pos) (T X.K fun ρ st => bnd (ca ρ st) fun x st => liftO st (reprD st x)) := by
  refine call1 g (cr_repr g.guards g.units) (by simp [builtinNames]) (by decide +kernel) (by decide) (by decide) hg he hs fun v H Q ⟨m, F, st, d, z, rs, rd, hz, q⟩ => ?_
  simp only [reprD] at hz
  split at hz
  · rename_i hc
    simp only [Bool.and_eq_true, decide_eq_true_eq] at hc
    cases hz
    obtain ⟨h1, h2⟩ := shown_len (der st d) hc.2
    exact ⟨v, _, rfl, rd.dpDer rs hc.1.1, h2, SqS.line (Nat.le_trans h1 hc.2), canLay_of_dep hc.1.2, Nat.le_trans (depth_le _) hc.1.2, stay rs (.str _) q⟩
  · cases hz
end
end MM

end

section
set_option maxRecDepth 100000
set_option maxHeartbeats 4000000
/-! Mini machine: sorted, sets, dicts. -/
namespace MM
open PySem PySem.Spec PyProof.Rows L2

/-! ### the machine's own sorts -/
theorem insI_perm (i : Int) : ∀ l, (insI i l).Perm (i :: l)
  | [] => .refl _
  | j :: r => by
    unfold insI
    split
    · exact .refl _
    · exact ((insI_perm i r).cons j).trans (.swap i j r)
theorem sortI_perm : ∀ l, (sortI l).Perm l
  | [] => .refl _
  | i :: r => (insI_perm i _).trans ((sortI_perm r).cons i)
theorem insI_pw (i : Int) : ∀ l, l.Pairwise (· ≤ ·) → (insI i l).Pairwise (· ≤ ·)
  | [], _ => by simp [insI]
  | j :: r, h => by
    have h1 := List.pairwise_cons.mp h
    unfold insI
    split
    · rename_i hij
      refine List.pairwise_cons.mpr ⟨fun b hb => ?_, h⟩
      rcases List.mem_cons.mp hb with e | hb
      · rw [e]; exact hij
      · have := h1.1 b hb; omega
    · rename_i hij
      refine List.pairwise_cons.mpr ⟨fun b hb => ?_, insI_pw i r h1.2⟩
      rcases List.mem_cons.mp ((insI_perm i r).mem_iff.mp hb) with e | hb
      · rw [e]; omega
      · exact h1.1 b hb
theorem sortI_pw : ∀ l, (sortI l).Pairwise (· ≤ ·)
  | [] => .nil
  | i :: r => insI_pw i _ (sortI_pw r)
theorem sortI_of {a b : List Int} (h : a.Perm b) (p : a.Pairwise (· ≤ ·)) : a = sortI b := PySem.W.os_sorted_one (h.trans (sortI_perm b).symm) p (sortI_pw b)
theorem dedup_mem (x : Int) : ∀ l, x ∈ dedup l ↔ x ∈ l
  | [] => by simp [dedup]
  | i :: r => by
    unfold dedup
    split
    · rename_i h
      have hi : i ∈ r := by simpa using h
      rw [dedup_mem x r]
      constructor
      · exact List.mem_cons_of_mem _
      · intro q
        rcases List.mem_cons.mp q with e | q
        · rw [e]; exact hi
        · exact q
    · rw [List.mem_cons, List.mem_cons, dedup_mem x r]
theorem dedup_nodup : ∀ l, (dedup l).Nodup
  | [] => .nil
  | i :: r => by
    unfold dedup
    split
    · exact dedup_nodup r
    · rename_i h
      have hi : i ∉ r := by simpa using h
      exact List.nodup_cons.mpr ⟨fun z => hi ((dedup_mem i r).mp z), dedup_nodup r⟩
theorem set_sorted {ns is : List Int} (h : ns.Pairwise (· < ·)) (m : ∀ k, k ∈ ns ↔ k ∈ is) : ns = sortI (dedup is) := by
  have nd : ns.Nodup := h.imp fun h => Int.ne_of_lt h
  refine sortI_of ((List.perm_ext_iff_of_nodup nd (dedup_nodup is)).mpr fun k => ?_) (h.imp fun h => Int.le_of_lt h)
  rw [m k, dedup_mem]

/-! ### sorted of whole numbers -/
section
variable {X : Cx}
theorem cr_sortedN : CallR X (.builtin "sorted") (fun vs H Q => ∃ (a : Addr) (ns : List Int), vs = [V.ref a] ∧ (SqL X.K H a (ns.map V.int) ∨ SqT X.K H a (ns.map V.int)) ∧
    ∀ p : Addr, H p = none → Q (.ref p) (upd H p (.lst ((sortI ns).map V.int)))) := by
  intro pins s σ H vs us Q I r ⟨a, ns, ev, hs, q⟩
  rcases hs with hs | hs
  · exact cr_sortedI pins s σ H vs us Q I r ⟨a, ns, ev, hs, fun ns' p h1 h2 hp => by rw [sortI_of h1 h2]; exact q p hp⟩
  · subst ev
    obtain ⟨u, eu, rx⟩ := vals1 r
    subst eu
    cases rx
    obtain ⟨its, rv, ht, hz⟩ := I.tuple hs
    have hi := rv.ints
    have hzi : its.length ≤ sizeLine := by rw [← rv.length]; exact hz
    obtain ⟨o, ho, hcls, n, hd⟩ := id ht
    refine Calls.call_function_entry kind_sorted plain_sorted entry_sorted (args_sorted1 _) ?_
    unfold Builtin.«sorted»
    refine wpAny_bind (m := checkCount "sorted" 1 1 _) (wpAny_pure ?_)
    refine wpAny_bind (wpAny_collect_seq a (.inr rfl) ho hcls hd (fun h' hk => ?_) (by rw [List.size_toArray]; exact hzi))
    refine wpAny_bind (wpAny_newList ?_ hzi)
    have hoL : (h'.push (seqObj "list" its.toArray 0)).get? h'.objs.size = some (seqObj "list" its.toArray 0) := Heap.get?_push_size _ rfl
    refine wpAny_bind (wpAny_holding (wpAny_call_entry slot_list_sort ⟨_, hoL, rfl⟩ entry_list_sort
      (SrtO.list_sort_ord SrtO.swo_int (s := { s with heap := h'.push (seqObj "list" its.toArray 0) }) hoL hzi (fun h2 => SrtO.ints_sortable hi h2) fun out h1 h2 => ⟨_, rfl, ?_⟩) (args_list_sort _)))
    refine wpAny_pure ⟨_, rfl, ?_⟩
    obtain ⟨k1, k2, k3⟩ := SrtO.ints_out hi h1 h2
    obtain ⟨ep, he⟩ := sortedHeap_at (out := out.toArray) hoL
    have keep : ∀ b o, h'.get? b = some o → (sortedHeap (h'.push (seqObj "list" its.toArray 0)) h'.objs.size its out.toArray).get? b = some o := fun b o e1 => by
      have hlt := Heap.lt_size e1
      rw [sortedHeap_old (Nat.ne_of_lt hlt) (by rw [Heap.size_push]; exact Nat.lt_succ_of_lt hlt)]
      exact Heap.get?_push_of_some _ e1
    have I1 : Inv X pins σ H { s with heap := h' } := I.kept (t' := s.toks) hk
    have hp : H h'.objs.size = none := I1.hok.fresh (Nat.le_refl _)
    have e1 : out.map SrtO.iv = sortI ns := sortI_of k2 k3
    refine ⟨.ref h'.objs.size, _, I1.laid (t' := s.toks) keep (Nat.le_refl _) (o := .lst ((sortI ns).map V.int)) ⟨?_, out, ep, ?_, he⟩, rfl, q _ hp⟩
    · rw [List.length_map, (sortI_perm ns).length_eq]
      rw [List.length_map] at hz
      exact hz
    · rw [← e1]
      exact vals_of_ints k1
end

/-! ### sorted of tuples of whole numbers -/
theorem lex_ints : ∀ xs ys : List Int, PyProof.Rows.lexLt PyProof.Rows.itemOrd (PySem.W.keyToksAll (xs.map PyData.int)) (PySem.W.keyToksAll (ys.map PyData.int)) = HT.lexLt xs ys
  | [], [] => by decide +kernel
  | [], y :: ys => by
    simp only [List.map_nil, List.map_cons, PySem.W.keyToksAll, PySem.W.keyToks, PyProof.Rows.lex_cons, HT.lexLt]
    rfl
  | x :: xs, [] => by
    simp only [List.map_nil, List.map_cons, PySem.W.keyToksAll, PySem.W.keyToks, PyProof.Rows.lex_cons, HT.lexLt]
    rfl
  | x :: xs, y :: ys => by
    have ih := lex_ints xs ys
    simp only [List.map_cons, PySem.W.keyToksAll, PySem.W.keyToks, HT.lexLt_cons, List.cons_append, List.nil_append]
    have e : ∀ A B : List (Int ⊕ List Nat), PyProof.Rows.lexLt PyProof.Rows.itemOrd (Sum.inl 1 :: Sum.inl x :: A) (Sum.inl 1 :: Sum.inl y :: B) =
        (decide ((1 : Int) < 1) || (!decide ((1 : Int) < 1) && (decide (x < y) || (!decide (y < x) && PyProof.Rows.lexLt PyProof.Rows.itemOrd A B)))) := fun A B => rfl
    rw [e, ih]
    by_cases h : x = y
    · subst h
      simp
    · rw [if_neg h]
      by_cases h2 : x < y
      · simp [h2]
      · have h3 : y < x := by omega
        simp [h2, h3]
def encT (is : List Int) : PyData := .tuple (is.map .int)
theorem dataLe_T : PySem.W.dataLe false encT = fun a b => !HT.lexLt b a := by
  funext a b
  show (!PyProof.Rows.lexLt PyProof.Rows.itemOrd (PySem.W.keyToks (encT b)) (PySem.W.keyToks (encT a))) = _
  have : ∀ c, PySem.W.keyToks (encT c) = PySem.W.keyToksAll (c.map PyData.int) := fun c => by simp only [encT, PySem.W.keyToks]
  rw [this, this, lex_ints]
theorem alike_ints : ∀ xs ys : List Int, PySem.W.alikeAll (xs.map PyData.int) (ys.map PyData.int) = true
  | [], _ => by simp only [List.map_nil, PySem.W.alikeAll]
  | _ :: _, [] => by simp only [List.map_nil, List.map_cons, PySem.W.alikeAll]
  | x :: xs, y :: ys => by simp only [List.map_cons, PySem.W.alikeAll, PySem.W.alike, alike_ints xs ys, Bool.and_self]
theorem each_of_rds {K : PySem.W.Frag} {m : List Addr} {F : FP} {H : Hp} : ∀ {xs : List D} {vs : List V} {us : List Value} {ts : List (List Int)}, RDs K m F H xs vs → Vals vs us → tints xs = some ts →
    PySem.W.EachIs (fun u t => ∃ x, RelV x u ∧ RD K m F H (.tup (t.map .int)) x) us ts
  | [], _, _, _, .nil, .nil, e => by
    simp [tints] at e
    subst e
    exact .nil
  | d :: ds, _, _, ts, .cons r rr, .cons q qq, e => by
    cases d with
    | tup xs =>
      simp only [tints] at e
      split at e
      · rename_i is l h1 h2
        cases e
        refine .cons ⟨_, q, ?_⟩ (each_of_rds rr qq h2)
        have : is.map D.int = xs := by
          clear q qq rr r h2
          revert is
          induction xs with
          | nil => intro is h; simp [asInts] at h; subst h; rfl
          | cons x xs ih =>
            intro is h
            cases x with
            | int i =>
              simp [asInts] at h
              obtain ⟨js, h1, h2⟩ := h
              subst h2
              rw [List.map_cons, ih js h1]
            | _ => simp [asInts] at h
        rw [this]
        exact r
      · cases e
    | _ => simp [tints] at e
theorem rds_of_each {K : PySem.W.Frag} {m : List Addr} {F : FP} {H : Hp} : ∀ {us : List Value} {ts : List (List Int)}, PySem.W.EachIs (fun u t => ∃ x, RelV x u ∧ RD K m F H (.tup (t.map .int)) x) us ts →
    ∃ vs, Vals vs us ∧ RDs K m F H (ts.map fun t => .tup (t.map .int)) vs
  | _, _, .nil => ⟨[], .nil, .nil⟩
  | _, _, .cons h t => by
    obtain ⟨x, h1, h2⟩ := h
    obtain ⟨vs, h3, h4⟩ := rds_of_each t
    exact ⟨x :: vs, .cons h1 h3, .cons h2 h4⟩
theorem pure_ints : ∀ is : List Int, D.pures (is.map .int) = true
  | [] => rfl
  | i :: r => by simp [D.pures, D.pure, pure_ints r]
theorem pys_ints : ∀ is : List Int, D.pys (is.map .int) = is.map .int
  | [] => rfl
  | i :: r => by simp [D.pys, D.py, pys_ints r]
section
variable {X : Cx}
/-- sorted of a list -/
def rSortL (K : PySem.W.Frag) : List V → Hp → VK → Prop := fun vs H Q => ∃ (m : List Addr) (F : FP) (st : St) (xs ys : List D) (a : Addr) (ws : List V), vs = [V.ref a] ∧ RSt K m F H st ∧ H a = some (.lst ws) ∧ ws.length ≤ cap ∧ RDs K m F H xs ws ∧ sortD xs = some ys ∧
  ∀ a vs H' m' F', Gro m F H m' F' H' → RSt K m' F' H' st → H' a = some (.lst vs) → vs.length ≤ cap → Fre m' F' a → RDs K m' F' H' ys vs → Q (.ref a) H'
theorem depth_ints (t : List Int) : (encT t).depth ≤ 1 := by
  have : PyData.depthAll (t.map PyData.int) = 0 := by
    induction t with
    | nil => simp [PyData.depthAll]
    | cons n r ih => simp [PyData.depthAll, PyData.depth, ih]
  simp only [encT, PyData.depth]
  omega
theorem cr_sortL (hu : X.A.units + 65 < cLine) : CallR X (.builtin "sorted") (rSortL X.K) := by
  intro pins s σ H vs us Q I r ⟨m, F, st, xs, ys, a, ws, ev, rs, ha, hl, rd, hy, q⟩
  simp only [sortD] at hy
  split at hy
  · rename_i is his
    cases hy
    have e1 := rd.ints his
    subst e1
    refine cr_sortedN pins s σ H vs us Q I r ⟨a, is, ev, .inl (.inl (.inl ha)), fun p hp => ?_⟩
    exact done_new rs (by rw [List.length_map, (sortI_perm is).length_eq]; simpa using hl) (RDs.of_ints (sortI is)) hp q
  · split at hy
    · rename_i ts hts
      split at hy
      · rename_i hne
        cases hy
        subst ev
        obtain ⟨u, eu, rx⟩ := vals1 r
        subst eu
        cases rx
        obtain ⟨its, rv, pl, hz⟩ := I.list (.inl (.inl ha))
        have hE := each_of_rds rd rv hts
        have hlen : ts.length = its.length := (hE.length).symm
        have er : PySem.W.EachIs (fun v b => ∃ as, Reads s.heap v (encT b) as) its ts := by
          refine hE.mono fun u t h => ?_
          obtain ⟨x, h1, h2⟩ := h
          have hd := h2.dp (by simp only [D.pure, pure_ints])
          have e2 : (D.tup (t.map D.int)).py = encT t := by simp only [D.py, pys_ints, encT]
          rw [e2] at hd
          exact Dp.reads I (encT t) x u hd h1
        have hal : PySem.W.AllAlike (ts.map encT) := by
          intro d hd d' hd'
          obtain ⟨t, _, rfl⟩ := List.mem_map.mp hd
          obtain ⟨t', _, rfl⟩ := List.mem_map.mp hd'
          simp only [encT, PySem.W.alike]
          exact alike_ints t t'
        have hso : PySem.W.Sortable (ts.map encT) := by
          refine .inl fun d hd => ?_
          obtain ⟨t, ht, rfl⟩ := List.mem_map.mp hd
          have := List.all_eq_true.mp hne t ht
          cases t with
          | nil => simp at this
          | cons x r => exact ⟨.int x, r.map .int, rfl⟩
        refine PySem.W.sorted_data (enc := encT) pl.isList hE er hal hso (by rw [hlen, ← rv.length]; exact hz) (fun t _ => ?_) fun out ho hout => ?_
        · have := depth_ints t
          omega
        · rw [dataLe_T] at hout
          obtain ⟨vs', h1, h2⟩ := rds_of_each hout
          obtain ⟨ep, he'⟩ := PyProof.Rows.sortedAll_at s.heap its out.toArray
          have hln : vs'.length ≤ cap := by
            rw [h1.length, ho, hlen, ← rv.length]
            exact hl
          have hp : H (s.heap.objs.size + 1) = none := I.hok.fresh (Nat.le_succ _)
          refine ⟨.ref _, upd H (s.heap.objs.size + 1) (.lst vs'), I.laid (t' := s.toks) (fun _ _ => PyProof.Rows.sortedAll_old) (Nat.le_succ _) ⟨SqS.line hln, out, ep, h1, he'⟩, rfl, ?_⟩
          exact done_new rs hln h2 hp q
      · cases hy
    · cases hy
/-- sorted of a set of whole numbers -/
theorem cr_sortS (hc : X.calm = true) : CallR X (.builtin "sorted") (fun vs H Q => ∃ (a : Addr) (S : Int → Bool) (n : Nat) (is : List Int), vs = [V.ref a] ∧ H a = some (SetO X.w a S n) ∧ n < 64 ∧ (∀ k, S k = true ↔ k ∈ is) ∧
    ∀ p : Addr, H p = none → (sortI (dedup is)).length = n → Q (.ref p) (upd H p (.lst ((sortI (dedup is)).map V.int)))) := by
  intro pins s σ H vs us Q I r ⟨a, S, n, is, ev, ha, hn, hS, q⟩
  refine cr_sortedSet hc pins s σ H vs us Q I r ⟨a, S, n, ev, ha, hn, fun ns p h1 h2 h3 hp => ?_⟩
  have e := set_sorted h1 fun k => (h2 k).trans (hS k)
  subst e
  exact q p hp h3
/-- set(t) of a tuple of whole numbers -/
theorem cr_setT (hc : X.calm = true) : CallR X (.type "set") (fun vs H Q => ∃ (a : Addr) (ns : List Int), vs = [V.ref a] ∧ SqT X.K H a (ns.map V.int) ∧ ns.length < 64 ∧
    ∀ (p : Addr) (n : Nat), H p = none → n ≤ ns.length → Q (.ref p) (upd H p (SetO X.w p (fun j => decide (j ∈ ns)) n))) := by
  intro pins s σ H vs us Q I r ⟨a, ns, ev, hs, hn, q⟩
  subst ev
  obtain ⟨u, eu, rx⟩ := vals1 r
  subst eu
  cases rx
  obtain ⟨its, rv, ht, hz⟩ := I.tuple hs
  refine call_set_tupI ns (I.ok.hd hc) ht (intsAre_of rv) (by unfold scanBound; omega) fun h' tk c R hcn hk => ?_
  have hp : H s.heap.objs.size = none := I.hok.fresh (Nat.le_refl _)
  exact ⟨.ref _, _, I.laid (t' := tk) hk (Nat.le_refl _) (setO_new R), rfl, q _ c hp hcn⟩
end
section
variable {c : Tb} {cl : Cl} {ps : Nat → List Str} {k : Nat} {sc : Scope} {cs : Cs} {X : Cx}
theorem ints_back : ∀ {xs : List D} {is : List Int}, asInts xs = some is → xs = is.map D.int
  | [], is, h => by simp [asInts] at h; subst h; rfl
  | x :: xs, is, h => by
    cases x with
    | int i =>
      simp [asInts] at h
      obtain ⟨js, h1, h2⟩ := h
      subst h2
      rw [List.map_cons, ← ints_back h1]
    | _ => simp [asInts] at h
/-- sorted(x) -/
def srtC (ca : Rho → St → R D) : Rho → St → R (List D) := fun ρ st => bnd (ca ρ st) fun x st => match x with
  | .tup xs => match asInts xs with
    | some is => some ((sortI is).map .int, st)
    | none => none
  | x => match lstOf st x with
    | some xs => liftO st (sortD xs)
    | none => none
theorem cr_or {X : Cx} {f : Value} {r r' : List V → Hp → VK → Prop} (h : CallR X f r) (h' : CallR X f r') : CallR X f (fun xs H Q => r xs H Q ∨ r' xs H Q) := by
  intro pins s σ H xs us Q I q z
  rcases z with z | z
  · exact h pins s σ H xs us Q I q z
  · exact h' pins s σ H xs us Q I q z
theorem sortI_len {n : Nat} {is : List Int} (h : is.length ≤ n) : ((sortI is).map V.int).length ≤ n := by rw [List.length_map, (sortI_perm is).length_eq]; exact h
theorem l_srt {ca : Rho → St → R D} {e : Expr} {p pos : Pos} (g : Good c cl ps k sc cs X) (hg : glB sc "sorted" = true) (he : PE X e (T X.K ca)) (hs : notStar e = true) :
    PE X (.Call (.Name "sorted" p) [e] [] pos) (TL X.K (srtC ca)) := by
  refine (pe_callB (cr_or cr_sortedN (cr_sortL g.units)) (gl_of g hg) (g.free "sorted" (by simp [builtinNames])) (by decide +kernel) (pa_cons he pa_nil (star_of hs)) (by decide) (by decide) (star_of hs)).imp fun σ H Q h => ?_
  obtain ⟨ρ, st, m, F, ds, st', re, rs, e', q⟩ := h
  obtain ⟨x, st1, e1, e'⟩ := bnd_eq e'
  refine tcb1 (T.use re rs e1 fun v H1 m1 F1 g1 re1 rs1 d1 => ?_)
  have lst : ∀ xs, lstOf st1 x = some xs → liftO st1 (sortD xs) = some (ds, st') → (∃ (a : Addr) (ns : List Int), [v] = [V.ref a] ∧ (SqL X.K H1 a (ns.map V.int) ∨ SqT X.K H1 a (ns.map V.int)) ∧
      ∀ p : Addr, H1 p = none → Q (.ref p) (upd H1 p (.lst ((sortI ns).map V.int)))) ∨ rSortL X.K [v] H1 Q := by
    intro xs hx hz
    obtain ⟨e3, e4⟩ := liftO_eq hz
    have e4' : st' = st1 := e4
    subst e4'
    obtain ⟨a, vs, rfl, h, hl, r⟩ := lst_of rs1 d1 hx
    exact .inr ⟨m1, F1, st', xs, ds, a, vs, rfl, rs1, h, hl, r, e3, fun a vs H' m' F' g' => q a vs H' m' F' (g1.trans g')⟩
  cases x with
  | tup xs =>
    simp only at e'
    split at e'
    · rename_i is his
      cases e'
      cases d1 with
      | tup h hl r =>
        have e2 := r.ints his
        subst e2
        exact .inl ⟨_, is, rfl, .inr h.sqT, fun p hp => done_new rs1 (sortI_len (by simpa using hl)) (RDs.of_ints (sortI is)) hp fun a vs H' m' F' g' => q a vs H' m' F' (g1.trans g')⟩
    · cases e'
  | lst xs => exact lst xs rfl e'
  | ref n =>
    simp only at e'
    split at e'
    · rename_i ys hy
      exact lst ys hy e'
    · cases e'
  | _ => simp [lstOf, seqOf] at e'
/-- sorted([..]) -/
theorem l_srtL {ca : Rho → St → R (List D)} {e : Expr} {p pos : Pos} (g : Good c cl ps k sc cs X) (hg : glB sc "sorted" = true) (he : PE X e (TL X.K ca)) (hs : notStar e = true) :
    PE X (.Call (.Name "sorted" p) [e] [] pos) (TL X.K fun ρ st => bnd (ca ρ st) fun xs st => liftO st (sortD xs)) := by
  refine (pe_callB (cr_sortL g.units) (gl_of g hg) (g.free "sorted" (by simp [builtinNames])) (by decide +kernel) (pa_cons he pa_nil (star_of hs)) (by decide) (by decide) (star_of hs)).imp fun σ H Q h => ?_
  obtain ⟨ρ, st, m, F, ds, st', re, rs, e', q⟩ := h
  obtain ⟨xs, st1, e1, e'⟩ := bnd_eq e'
  obtain ⟨e3, e4⟩ := liftO_eq e'
  have e4' : st' = st1 := e4
  subst e4'
  refine tcb1 (TL.use re rs e1 fun a vs H1 m1 F1 g1 re1 rs1 h1 h2 h3 d1 => ?_)
  exact ⟨m1, F1, st', xs, ds, a, vs, rfl, rs1, h1, h2, d1, e3, fun a vs H' m' F' g' => q a vs H' m' F' (g1.trans g')⟩
/-- sorted(set(t)) -/
theorem l_srtSet {ca : Rho → St → R D} {e : Expr} {p p2 pos pos2 : Pos} (g : Good c cl ps k sc cs X) (hg : glB sc "sorted" = true) (hg2 : glB sc "set" = true) (he : PE X e (T X.K ca)) (hs : notStar e = true) :
    PE X (.Call (.Name "sorted" p) [.Call (.Name "set" p2) [e] [] pos2] [] pos) (TL X.K fun ρ st => bnd (ca ρ st) fun x st => match x with
      | .tup xs => if decide (xs.length < 64) then liftO st (sortSet xs) else none
      | _ => none) := by
  have pset := pe_callTy (cr_setT g.calm) (gl_of g hg2) (g.free "set" (by simp [builtinNames])) (p := p2) (pos := pos2) (by decide +kernel) (pa_cons he pa_nil (star_of hs)) (by decide) (by decide) (star_of hs)
  refine (pe_callB (cr_sortS g.calm) (gl_of g hg) (g.free "sorted" (by simp [builtinNames])) (by decide +kernel) (pa_cons pset pa_nil rfl) (by decide) (by decide) rfl).imp fun σ H Q h => ?_
  obtain ⟨ρ, st, m, F, ds, st', re, rs, e', q⟩ := h
  obtain ⟨x, st1, e1, e'⟩ := bnd_eq e'
  refine tcb1 (tcb1 (T.use re rs e1 fun v H1 m1 F1 g1 re1 rs1 d1 => ?_))
  cases x with
  | tup xs =>
    simp only at e'
    split at e'
    · rename_i hc
      simp only [decide_eq_true_eq] at hc
      obtain ⟨e3, e4⟩ := liftO_eq e'
      have e4' : st' = st1 := e4
      subst e4'
      simp only [sortSet] at e3
      split at e3
      · rename_i is his
        split at e3
        · cases e3
          cases d1 with
          | tup h hl r =>
            rename_i a vs
            have hlen := r.length
            have e2 := r.ints his
            subst e2
            have hn : is.length < 64 := by rw [List.length_map] at hlen; omega
            refine ⟨_, is, rfl, h.sqT, hn, fun p n hp hnl => ⟨p, _, n, is, rfl, upd_same, by omega, fun k => decide_eq_true_iff, fun p' hp' hn' => ?_⟩⟩
            have rs2 := rs1.upd (u := SetO X.w p (fun j => decide (j ∈ is)) n) hp
            have g2 : Gro m1 F1 H1 m1 F1 (upd H1 p (SetO X.w p (fun j => decide (j ∈ is)) n)) := gro_upd hp
            refine done_new rs2 ?_ (RDs.of_ints (sortI (dedup is))) hp' fun a vs H' m' F' g' => q a vs H' m' F' ((g1.trans g2).trans g')
            rw [List.length_map, hn']
            unfold cap
            omega
        · cases e3
      · cases e3
    · cases e'
  | _ => cases e'

/-! ### dicts -/
theorem pairsOf_back {K : PySem.W.Frag} {m : List Addr} {F : FP} {H : Hp} : ∀ {xs : List D} {vs : List V} {ds : List (D × D)}, RDs K m F H xs vs → pairsOf xs = some ds → (ds.all fun p => isKey p.1) = true →
    ∃ (as : List Addr) (kv : List (Key × V)), vs = as.map V.ref ∧ Paired (fun p q => SqT K H p [kV q.1, q.2]) as kv ∧ Paired (fun (p : D × D) (q : Key × V) => (∃ i, p.1 = .int i ∧ q.1 = .inl i) ∧ RD K m F H p.2 q.2) ds kv
  | [], _, ds, .nil, e, _ => by
    simp [pairsOf] at e
    subst e
    exact ⟨[], [], rfl, .nil, .nil⟩
  | x :: xs, _, ds, .cons r rr, e, hk => by
    match x, r, e with
    | .tup [d1, d2], .tup h hl r2, e =>
      simp only [pairsOf] at e
      obtain ⟨ds', h1, h2⟩ := Option.map_eq_some_iff.mp e
      subst h2
      simp only [List.all_cons, Bool.and_eq_true] at hk
      obtain ⟨as, kv, e1, p1, p2⟩ := pairsOf_back rr h1 hk.2
      cases d1 with
      | int i =>
        cases r2 with
        | cons a1 a2 =>
          cases a2 with
          | cons b1 b2 =>
            cases b2
            cases a1
            rename_i v2
            exact ⟨_ :: as, (.inl i, v2) :: kv, by rw [e1, List.map_cons], .cons h.sqT p1, .cons ⟨⟨i, rfl, rfl⟩, b1⟩ p2⟩
      | _ => simp [isKey] at hk
    | .non, _, e => simp [pairsOf] at e
    | .bl _, _, e => simp [pairsOf] at e
    | .int _, _, e => simp [pairsOf] at e
    | .str _, _, e => simp [pairsOf] at e
    | .lst _, _, e => simp [pairsOf] at e
    | .scr _, _, e => simp [pairsOf] at e
    | .ref _, _, e => simp [pairsOf] at e
    | .tup [], _, e => simp [pairsOf] at e
    | .tup [_], _, e => simp [pairsOf] at e
    | .tup (_ :: _ :: _ :: _), _, e => simp [pairsOf] at e
end
end MM

end

section
set_option maxRecDepth 100000
set_option maxHeartbeats 4000000
/-! Mini machine: the least of a list of tuples of whole numbers. -/
namespace MM
open PySem PySem.Spec PyProof.Rows L2
theorem encT_inj : ∀ {a b : List Int}, encT a = encT b → a = b := by
  intro a b h
  have h' : a.map PyData.int = b.map PyData.int := by
    unfold encT at h
    injection h
  clear h
  induction a generalizing b with
  | nil => cases b with
    | nil => rfl
    | cons y ys => simp at h'
  | cons x xs ih => cases b with
    | nil => simp at h'
    | cons y ys =>
      rw [List.map_cons, List.map_cons, List.cons.injEq] at h'
      obtain ⟨h1, h2⟩ := h'
      injection h1 with h1
      rw [h1, ih h2]
theorem dataLt_T (a b : List Int) : PySem.W.dataLt (encT a) (encT b) = HT.lexLt a b := by
  show PyProof.Rows.lexLt PyProof.Rows.itemOrd (PySem.W.keyToks (encT a)) (PySem.W.keyToks (encT b)) = _
  have : ∀ c, PySem.W.keyToks (encT c) = PySem.W.keyToksAll (c.map PyData.int) := fun c => by simp only [encT, PySem.W.keyToks]
  rw [this, this, lex_ints]
theorem minD_T : ∀ (ts : List (List Int)) (t : List Int), PySem.W.minD (encT t) (ts.map encT) = encT (ts.foldl (fun b u => if HT.lexLt u b then u else b) t)
  | [], t => rfl
  | u :: ts, t => by
    have ih := minD_T ts (if HT.lexLt u t then u else t)
    unfold PySem.W.minD at ih ⊢
    rw [List.map_cons, List.foldl_cons, List.foldl_cons, dataLt_T, ← ih]
    congr 1
    split <;> rfl
theorem canLay_T (t : List Int) : (encT t).canLay0 = true := by
  unfold encT
  simp only [PyData.canLay0]
  induction t with
  | nil => simp [PyData.canLayAll0]
  | cons x xs ih => simp [PyData.canLayAll0, PyData.canLay0, ih]
section
variable {X : Cx}
def rMinT (K : PySem.W.Frag) : List V → Hp → VK → Prop := fun vs H Q => ∃ (m : List Addr) (F : FP) (st : St) (xs : List D) (t : D) (a : Addr) (ws : List V), vs = [V.ref a] ∧ RSt K m F H st ∧ H a = some (.lst ws) ∧ ws.length ≤ cap ∧ RDs K m F H xs ws ∧ minT xs = some t ∧
  ∀ v, RD K m F H t v → Q v H
theorem each_at {K : PySem.W.Frag} {m : List Addr} {F : FP} {H : Hp} : ∀ {us : List Value} {ts : List (List Int)}, PySem.W.EachIs (fun u t => ∃ x, RelV x u ∧ RD K m F H (.tup (t.map .int)) x) us ts → ∀ (i : Nat) (v : Value), us[i]? = some v →
    ∃ t x, t ∈ ts ∧ RelV x v ∧ RD K m F H (.tup (t.map .int)) x
  | _, _, .nil, _, _, h => by simp at h
  | _, _, .cons h hh, 0, v, e => by
    simp at e
    subst e
    obtain ⟨x, h1, h2⟩ := h
    exact ⟨_, x, List.mem_cons_self, h1, h2⟩
  | _, _, .cons h hh, i + 1, v, e => by
    obtain ⟨t, x, h0, h1, h2⟩ := each_at hh i v (by simpa using e)
    exact ⟨t, x, List.mem_cons_of_mem _ h0, h1, h2⟩
theorem cr_minL (hc : X.calm = true) (hu : X.A.units + 65 < cLine) : CallR X (.builtin "min") (rMinT X.K) := by
  intro pins s σ H vs us Q I r ⟨m, F, st, xs, t, a, ws, ev, rs, ha, hl, rd, ht, q⟩
  unfold minT at ht
  split at ht
  · rename_i t0 ts hts
    cases ht
    subst ev
    obtain ⟨u, eu, rx⟩ := vals1 r
    subst eu
    cases rx
    obtain ⟨its, rv, pl, hz⟩ := I.list (.inl (.inl ha))
    have hE := each_of_rds rd rv hts
    have er : PySem.W.EachIs (fun v b => ∃ as, Reads s.heap v (encT b) as) its (t0 :: ts) := by
      refine hE.mono fun u t h => ?_
      obtain ⟨x, h1, h2⟩ := h
      have hd := h2.dp (by simp only [D.pure, pure_ints])
      have e2 : (D.tup (t.map D.int)).py = encT t := by simp only [D.py, pys_ints, encT]
      rw [e2] at hd
      exact Dp.reads I (encT t) x u hd h1
    obtain ⟨as, hra⟩ := PySem.W.each_readsAll encT er
    rw [List.map_cons] at hra
    have hal : PySem.W.AlikeAll (encT t0 :: ts.map encT) := by
      rw [← List.map_cons]
      refine ⟨fun d hd d' hd' => ?_, fun d hd => ?_⟩
      · obtain ⟨t, _, rfl⟩ := List.mem_map.mp hd
        obtain ⟨t', _, rfl⟩ := List.mem_map.mp hd'
        simp only [encT, PySem.W.alike]
        exact alike_ints t t'
      · obtain ⟨t, _, rfl⟩ := List.mem_map.mp hd
        unfold encT
        exact fun h => nomatch h
    have hdep : PyData.depthAll (encT t0 :: ts.map encT) ≤ 1 := by
      rw [← List.map_cons]
      generalize t0 :: ts = l
      induction l with
      | nil => simp [PyData.depthAll]
      | cons x xs ih =>
        have := depth_ints x
        simp only [List.map_cons, PyData.depthAll]
        omega
    refine PySem.W.min_list_data (vs := its.toArray) (I.ok.hd hc) pl.isList (by simpa using hra) hal (by omega) fun i v h' tk bs hv hr hk => ?_
    have I1 : Inv X pins σ H { s with heap := h', toks := tk } := I.kept (t' := tk) hk
    obtain ⟨t1, x, _, h1, h2⟩ := each_at hE i v (by simpa using hv)
    have hd := h2.dp (by simp only [D.pure, pure_ints])
    have e2 : (D.tup (t1.map D.int)).py = encT t1 := by simp only [D.py, pys_ints, encT]
    rw [e2] at hd
    obtain ⟨as', hr'⟩ := Dp.reads I1 (encT t1) x v hd h1
    rw [minD_T] at hr
    have e3 := encT_inj (Reads.unique hr' _ _ hr).1
    subst e3
    exact ⟨x, H, I1, h1, q x h2⟩
  · cases ht
end
section
variable {c : Tb} {cl : Cl} {ps : Nat → List Str} {k : Nat} {sc : Scope} {cs : Cs} {X : Cx}
theorem e_minL {ca : Rho → St → R (List D)} {e : Expr} {p pos : Pos} (g : Good c cl ps k sc cs X) (hg : glB sc "min" = true) (he : PE X e (TL X.K ca)) (hs : notStar e = true) :
    PE X (.Call (.Name "min" p) [e] [] pos) (T X.K fun ρ st => bnd (ca ρ st) fun xs st => liftO st (minT xs)) := by
  refine (pe_callB (cr_minL g.calm g.units) (gl_of g hg) (g.free "min" (by simp [builtinNames])) (by decide +kernel) (pa_cons he pa_nil (star_of hs)) (by decide) (by decide) (star_of hs)).imp fun σ H Q h => ?_
  obtain ⟨ρ, st, m, F, d, st', re, rs, e, q⟩ := h
  obtain ⟨xs, st1, e1, e⟩ := bnd_eq e
  obtain ⟨e3, e4⟩ := liftO_eq e
  have e4' : st' = st1 := e4
  subst e4'
  refine tcb1 (TL.use re rs e1 fun a vs H1 m1 F1 g1 re1 rs1 h1 h2 h3 d1 => ?_)
  exact ⟨m1, F1, st', xs, d, a, vs, rfl, rs1, h1, h2, d1, e3, fun v r => q _ _ _ _ g1 rs1 r⟩
end
end MM

end

section
set_option maxRecDepth 100000
set_option maxHeartbeats 4000000
/-! Mini machine: dicts. -/
namespace MM
open PySem PySem.Spec PyProof.Rows L2
section
variable {K : PySem.W.Frag} {m : List Addr} {F : FP} {H : Hp}
def KvR (K : PySem.W.Frag) (m : List Addr) (F : FP) (H : Hp) (p : D × D) (q : Key × V) : Prop := (∃ i, p.1 = .int i ∧ q.1 = .inl i) ∧ RD K m F H p.2 q.2
theorem key_eq {p : D × D} {q : Key × V} {i : Int} (r : KvR K m F H p q) : D.beq p.1 (.int i) = decide (q.1 = .inl i) := by
  obtain ⟨⟨j, e1, e2⟩, _⟩ := r
  rw [e1, e2]
  simp [D.beq]
theorem any_eq {i : Int} : ∀ {ds : List (D × D)} {kv : List (Key × V)}, Paired (KvR K m F H) ds kv → (ds.any fun p => D.beq p.1 (.int i)) = (kv.any fun q => decide (q.1 = .inl i))
  | _, _, .nil => rfl
  | _, _, .cons h t => by rw [List.any_cons, List.any_cons, key_eq h, any_eq t]
theorem map_put {i : Int} {v : D} {w : V} (r : RD K m F H v w) : ∀ {ds : List (D × D)} {kv : List (Key × V)}, Paired (KvR K m F H) ds kv →
    Paired (KvR K m F H) (ds.map fun p => if D.beq p.1 (.int i) then (p.1, v) else p) (kv.map fun q => if q.1 = .inl i then (q.1, w) else q)
  | _, _, .nil => .nil
  | _, _, .cons (b := q) h t => by
    rw [List.map_cons, List.map_cons]
    refine .cons ?_ (map_put r t)
    rw [key_eq h]
    by_cases e : q.1 = .inl i
    · rw [if_pos e, if_pos (decide_eq_true e)]
      exact ⟨h.1, r⟩
    · rw [if_neg e, if_neg (by simpa using e)]
      exact h
theorem paired_snoc {α β : Type} {R : α → β → Prop} {a : α} {b : β} (r : R a b) : ∀ {l : List α} {l' : List β}, Paired R l l' → Paired R (l ++ [a]) (l' ++ [b])
  | _, _, .nil => .cons r .nil
  | _, _, .cons h t => .cons h (paired_snoc r t)
theorem put_ok {i : Int} {v : D} {w : V} (r : RD K m F H v w) {ds : List (D × D)} {kv : List (Key × V)} (h : Paired (KvR K m F H) ds kv) : Paired (KvR K m F H) (putKv (.int i) v ds) (putK kv (.inl i) w) := by
  unfold putKv putK
  rw [any_eq h]
  split
  · exact map_put r h
  · exact paired_snoc ⟨⟨i, rfl, rfl⟩, r⟩ h
theorem merge_ok : ∀ {ds : List (D × D)} {kv : List (Key × V)} {as : List (D × D)} {ak : List (Key × V)}, Paired (KvR K m F H) ds kv → Paired (KvR K m F H) as ak →
    Paired (KvR K m F H) (ds.foldl (fun kvs p => putKv p.1 p.2 kvs) as) (mergeK ak kv)
  | _, _, _, _, .nil, q => q
  | p :: ds, z :: kv, as, ak, .cons h t, q => by
    obtain ⟨d, v⟩ := p
    obtain ⟨y, w⟩ := z
    obtain ⟨⟨i, e1, e2⟩, r⟩ := h
    have e1' : d = .int i := e1
    have e2' : y = .inl i := e2
    subst e1' e2'
    have ih := merge_ok t (put_ok (i := i) r q)
    exact ih
theorem get_ok {i : Int} : ∀ {ds : List (D × D)} {kv : List (Key × V)}, Paired (KvR K m F H) ds kv → (getKv (.int i) ds = none ∧ valV kv (.inl i) = none) ∨ ∃ d v, getKv (.int i) ds = some d ∧ valV kv (.inl i) = some v ∧ RD K m F H d v
  | _, _, .nil => .inl ⟨rfl, rfl⟩
  | p :: ds, q :: kv, .cons h t => by
    unfold getKv
    rw [key_eq h]
    by_cases e : q.1 = .inl i
    · rw [if_pos (decide_eq_true e), valV_pos e]
      exact .inr ⟨_, _, rfl, rfl, h.2⟩
    · rw [if_neg (by simpa using e), valV_neg e]
      exact get_ok t
end
section
variable {c : Tb} {cl : Cl} {ps : Nat → List Str} {k : Nat} {sc : Scope} {cs : Cs} {X : Cx}
theorem e_dictOf {ca : Rho → St → R D} {e : Expr} {p pos : Pos} (g : Good c cl ps k sc cs X) (hg : glB sc "dict" = true) (he : PE X e (T X.K ca)) (hs : notStar e = true) :
    PE X (.Call (.Name "dict" p) [e] [] pos) (T X.K fun ρ st => bnd (ca ρ st) fun a st => match lstOf st a with
      | some xs => match pairsOf xs with
        | some ps => if ps.all fun p => isKey p.1 then some (.ref st.length, st ++ [.dct (ps.foldl (fun kvs p => putKv p.1 p.2 kvs) [])]) else none
        | none => none
      | none => none) := by
  refine (pe_callTy (call_dictP g.calm) (gl_of g hg) (g.free "dict" (by simp [builtinNames])) (by decide +kernel) (pa_cons he pa_nil (star_of hs)) (by decide) (by decide) (star_of hs)).imp fun σ H Q h => ?_
  obtain ⟨ρ, st, m, F, d, st', re, rs, e', q⟩ := h
  obtain ⟨x, st1, e1, e'⟩ := bnd_eq e'
  split at e'
  · rename_i xs hx
    split at e'
    · rename_i ds hds
      split at e'
      · rename_i hk
        cases e'
        refine tcb1 (T.use re rs e1 fun v H1 m1 F1 g1 re1 rs1 d1 => ?_)
        obtain ⟨a, vs, rfl, h, hl, r⟩ := lst_of rs1 d1 hx
        obtain ⟨as, kv, e2, p1, p2⟩ := pairsOf_back r hds hk
        subst e2
        refine ⟨a, as, kv, rfl, .inl (.inl h), p1, fun p hp => ?_⟩
        have gu : Gro m1 F1 H1 m1 F1 (upd H1 p (.dK (mergeK [] kv))) := gro_upd hp
        have rs2 := rs1.upd (u := .dK (mergeK [] kv)) hp
        have pm := merge_ok (K := X.K) (m := m1) (F := F1) (H := H1) p2 .nil
        have hlen : (mergeK [] kv).length ≤ cap := by
          refine Nat.le_trans (length_mergeK kv []) ?_
          have l1 : as.length = kv.length := p1.length
          rw [List.length_map] at hl
          simp only [List.length_nil]
          omega
        have ro : RO X.K m1 F1 (upd H1 p (.dK (mergeK [] kv))) (.dct (ds.foldl (fun kvs p => putKv p.1 p.2 kvs) [])) p := ⟨mergeK [] kv, upd_same, hlen, Paired.mapP pm fun a b z => ⟨z.1, z.2.mono gu⟩⟩
        have rs3 := rs2.push (rs1.fre hp) ro
        refine q _ _ _ _ ((g1.trans gu).trans gro_push) rs3 (.ref ?_)
        rw [← rs1.len, List.getElem?_append_right (Nat.le_refl _), Nat.sub_self]
        rfl
      · cases e'
    · cases e'
  · cases e'
theorem isDc_of {st : St} {x : D} (h : isDc st x = true) : ∃ n kvs, x = .ref n ∧ st[n]? = some (.dct kvs) := by
  cases x with
  | ref n =>
    simp only [isDc] at h
    split at h
    · exact ⟨n, _, rfl, by assumption⟩
    · cases h
  | _ => cases h
def get2C (ca ck cd : Rho → St → R D) : Rho → St → R D := fun ρ st => bnd (ca ρ st) fun a st => if isDc st a then bnd (ck ρ st) fun k st => bnd (cd ρ st) fun d st => getD2 st a k d else none
theorem e_get2 {ca ck cd : Rho → St → R D} {o e f : Expr} {apos cpos : Pos} (g : Good c cl ps k sc cs X) (ho : PE X o (T X.K ca)) (he : PE X e (T X.K ck)) (hf : PE X f (T X.K cd)) (hb : notCall o = true) (hs : notStar e = true) (hs2 : notStar f = true) (hline : (apos.endLine == cpos.line) = true) :
    PE X (.Call (.Attribute o "get" apos) [e, f] [] cpos) (T X.K (get2C ca ck cd)) := by
  refine (pe_dget2 g.hu ho he hf ⟨base_of hb _ _, few2 hs hs2 _ _, hline, by rw [star_of hs, star_of hs2]; rfl⟩).imp fun σ H Q h => ?_
  obtain ⟨ρ, st, m, F, d, st', re, rs, e', q⟩ := h
  obtain ⟨x, st1, e1, e'⟩ := bnd_eq e'
  split at e'
  · rename_i hD
    obtain ⟨y, st2, e2, e'⟩ := bnd_eq e'
    obtain ⟨z, st3, e3, e'⟩ := bnd_eq e'
    refine T.use re rs e1 fun v H1 m1 F1 g1 re1 rs1 d1 => ?_
    obtain ⟨n, kvs0, rfl, hn0⟩ := isDc_of hD
    cases d1 with
    | ref hm =>
      rename_i a
      obtain ⟨kv0, k1, _, _⟩ := rs1.obj n _ _ hn0 hm
      refine ⟨a, rfl, .inl ⟨kv0, .inl k1⟩, T.use re1 rs1 e2 fun w H2 m2 F2 g2 re2 rs2 d2 => T.use re2 rs2 e3 fun u H3 m3 F3 g3 re3 rs3 d3 => ?_⟩
      simp only [getD2] at e'
      split at e'
      · rename_i kvs hn
        split at e'
        · rename_i hk
          cases e'
          have hm3 := (g2.trans g3).pre _ _ hm
          obtain ⟨kv, j1, _, j3⟩ := rs3.obj n _ _ hn hm3
          cases y with
          | int i =>
            cases d2
            refine ⟨valV kv (.inl i), .inl ⟨kv, .inl i, .inl j1, rfl, rfl⟩, ?_⟩
            rcases get_ok (i := i) j3 with ⟨z1, z2⟩ | ⟨d', v', z1, z2, z3⟩
            · rw [z1] at q
              rw [z2]
              exact q _ _ _ _ ((g1.trans g2).trans g3) rs3 d3
            · rw [z1] at q
              rw [z2]
              exact q _ _ _ _ ((g1.trans g2).trans g3) rs3 z3
          | _ => simp [isKey] at hk
        · cases e'
      · cases e'
  · cases e'
end
end MM

end

section
set_option maxRecDepth 100000
set_option maxHeartbeats 4000000
/-! Set comprehensions of two clauses: whole numbers. One lemma for a clause's loop, whatever a turn does. -/
namespace MM
open PySem PySem.Spec PyProof.Rows L2

/-- what a clause's loop asks: σb the slots that the block starts with (its own ones wiped), ta what a turn does -/
def Wlk (J : L2.It) (g : TG) (tt : TT) (ta : L2.St → Hp → (Hp → Prop) → Prop) (vs : List Nat) (σb : L2.St) (H0 : Hp) (fin : Hp → Prop) : Prop :=
  ∃ W : Nat → Nat → Hp → Prop, (∃ m, W 0 m H0) ∧ ∀ i m H, W i m H → (J.stop i H ∧ fin H) ∨ (J.go i H ∧ ∃ Nx : Hp → Prop, (∀ H', Nx H' → ∃ m', m' < m ∧ W (i + 1) m' H') ∧
    ∀ x H', J.yld i H x H' → g x σb H' fun σ2 H2 => L2.wipe σ2 vs = L2.wipe σb vs ∧ tt σ2 H2 fun b H3 => if b = true then ta σ2 H3 Nx else Nx H3)
/-- a turn's deed -/
def PAct (X : Cx) (act : Sem Unit) (vs : List Nat) (ta : L2.St → Hp → (Hp → Prop) → Prop) : Prop :=
  ∀ (pins : List (Addr × Obj)) (s : Shared) (σ : L2.St) (H : Hp) (Q : Hp → Prop), Inv X pins σ H s → ta σ H Q → wpAny (model X.prog X.w) X.A act (fun _ s' => ∃ H', Inv X pins (L2.wipe σ vs) H' s' ∧ Q H') (fun _ _ => False) s
theorem wipe_know {σ σ2 : L2.St} {l r : List Nat} (h : L2.wipe σ2 l = L2.wipe σ l) (hr : ∀ i ∈ r, i ∈ l) (j : Nat) (v : V) (e : (L2.wipe σ l)[j]? = some (some v)) : (L2.wipe σ2 r)[j]? = some (some v) := by
  rw [← h] at e
  obtain ⟨e1, e2⟩ := wipe_some e
  rw [wipe_out fun z => e2 (hr j z)]
  exact e1
section
variable {X : Cx}
theorem clause_ok (calm : X.calm = true) (noE : X.xe = fun _ _ => False) {e : Expr} {n : Nat} {it : Addr} {acc : Value} {tg : Expr} {ifs : List Expr} {act : Sem Unit} {p : Pos} {J : L2.It} {fp : List Addr} {tn : Nat → Heap → Prop} {g : TG} {tt : TT} {ta : L2.St → Hp → (Hp → Prop) → Prop}
    {pins : List (Addr × Obj)} {σ : L2.St} {vs va : List Nat} {H : Hp} {s : Shared} {fin : Hp → Prop} {R : Result → Shared → Prop}
    (turn : compTurn e n (.ref it) acc X.env = (do
      standAt p
      match ← pyNext (.ref it) with
      | none => pure (.done .next)
      | some v =>
        letOwnedTupleGo tg (.ref it) v
        assign tg X.env v
        let mut ok := true
        for c in ifs do
          if ok then ok ← isTrue c X.env (eval c X.env)
        if ok then act
        again (.compLoop e n (.ref it) acc X.env)))
    (under : X.A.under (.compLoop e n (.ref it) acc X.env) = X.A) (den : (model X.prog X.w).den (.compLoop e n (.ref it) acc X.env) = (compTurn e n (.ref it) acc X.env).onRaise fun x => do noteFrame x X.env; theTreesLotGoes x)
    (T : Turn X.prog X.w X.K tg J fp it tn) (hg : PG X tg g) (ht : PTs X ifs tt) (ha : PAct X act va ta) (sub : ∀ i ∈ va, i ∈ vs) (I0 : Inv X pins (L2.wipe σ vs) H s) (t0 : tn 0 s.heap) (free : ∀ b ∈ fp, FpOk X pins H b)
    (w : Wlk J g tt ta vs (L2.wipe σ vs) H fin) (done : ∀ s' H', Inv X pins (L2.wipe σ vs) H' s' → fin H' → R (.ok .next) s') : codeAny (model X.prog X.w) X.A (.compLoop e n (.ref it) acc X.env) R s := by
  obtain ⟨W, ⟨m0, w0⟩, step⟩ := w
  have keepFp : ∀ {H' : Hp}, (∀ b ∈ fp, H' b = none) → ∀ b ∈ fp, FpOk X pins H' b := fun z b hb => ⟨z b hb, (free b hb).2⟩
  have idem : L2.wipe (L2.wipe σ vs) vs = L2.wipe σ vs := by
    have : ∀ l : List Nat, (∀ i ∈ l, i ∈ vs) → L2.wipe (L2.wipe σ l) vs = L2.wipe σ vs := by
      intro l
      induction l with
      | nil => intro _; rfl
      | cons i r ih =>
        intro h
        have hs : ∀ (τ : L2.St) (o : Option V) (l : List Nat), i ∈ l → L2.wipe (τ.set i o) l = L2.wipe τ l := by
          intro τ o l
          induction l with
          | nil => intro z; cases z
          | cons j l ihl =>
            intro z
            unfold L2.wipe
            by_cases hl : i ∈ l
            · rw [ihl hl]
            · rcases List.mem_cons.mp z with e | z
              · subst e
                have hc : ∀ (τ : L2.St) (l : List Nat), i ∉ l → L2.wipe (τ.set i o) l = (L2.wipe τ l).set i o := by
                  intro τ l
                  induction l with
                  | nil => intro _; rfl
                  | cons j l ihc =>
                    intro hn
                    have hj : i ≠ j := fun e => hn (by rw [e]; exact List.mem_cons_self)
                    unfold L2.wipe
                    rw [ihc fun z => hn (List.mem_cons_of_mem _ z), List.set_comm _ _ hj]
                rw [hc τ l hl, List.set_set]
              · exact absurd z hl
        show L2.wipe ((L2.wipe σ r).set i none) vs = _
        rw [hs _ _ _ (h i List.mem_cons_self)]
        exact ih fun j z => h j (List.mem_cons_of_mem _ z)
    exact this vs fun _ z => z
  refine codeAny_loop rfl (fun k s' => ∃ i H', Inv X pins (L2.wipe σ vs) H' s' ∧ tn i s'.heap ∧ (∀ b ∈ fp, H' b = none) ∧ W i k H') ?_ m0 ⟨0, H, I0, t0, fun b hb => (free b hb).1, w0⟩
  rintro k s1 ⟨i, H1, I1, t1, f1, w1⟩
  rw [under, den]
  refine wpAny_noted ?_
  rw [turn]
  refine wpAny_bind (wpAny_standAt (wpAny_bind ?_))
  rcases step i k H1 w1 with ⟨st, fq⟩ | ⟨go, Nx, hNx, body⟩
  · refine thnF (T.done X rfl rfl rfl calm i pins s1 _ H1 (fun _ _ => False) I1 (keepFp f1) t1 st) fun r s2 ⟨er, I2⟩ => ?_
    subst er
    exact wpAny_pure (done s2 H1 I2 fq)
  · refine thnF (T.item X rfl rfl rfl calm i pins s1 _ H1 (fun _ _ => False) I1 (keepFp f1) t1 go) fun r s2 ⟨u, er, z2⟩ => ?_
    subst er
    refine wpAny_bind (thnF z2 fun _ s3 ⟨x, H3, I3, r3, y3, t3, f3⟩ => ?_)
    have I3' := I3.pinned (keepFp f3) (T.obj _ _ t3)
    have hgr := hg.run _ s3 _ H3 x u _ I3' r3 (body x H3 y3)
    rw [noE] at hgr
    refine wpAny_bind (thnF hgr fun _ s4 ⟨σ4, H4, I4, e4, q4⟩ => ?_)
    have htr := ht.run _ s4 σ4 H4 _ I4 q4
    rw [noE] at htr
    refine wpAny_bind (thnF htr fun b s5 ⟨H5, I5, q5⟩ => ?_)
    rw [idem] at e4
    have next : ∀ {s6 : Shared} {H6 : Hp} {σ6 : L2.St}, Inv X (pins ++ pinsAt fp s3.heap) σ6 H6 s6 → (L2.wipe σ vs).length = σ6.length → (∀ (j : Nat) v, (L2.wipe σ vs)[j]? = some (some v) → σ6[j]? = some (some v)) → Nx H6 →
        ∃ m, m < k ∧ ∃ i H', Inv X pins (L2.wipe σ vs) H' s6 ∧ tn i s6.heap ∧ (∀ b ∈ fp, H' b = none) ∧ W i m H' := by
      intro s6 H6 σ6 I6 el kn nx
      obtain ⟨m, hm, w6⟩ := hNx H6 nx
      have pinned : ∀ b ∈ fp, ∀ o, s3.heap.get? b = some o → s6.heap.get? b = some o ∧ H6 b = none := by
        intro b hb o z
        have q := I6.pin (b, o) (List.mem_append_right _ (List.mem_append_right _ (mem_pinsAt hb z)))
        exact ⟨q.1, q.2.1⟩
      refine ⟨m, hm, i + 1, H6, I6.unpinned.weak el kn, T.keep _ _ _ t3 fun b hb o z => (pinned b hb o z).1, fun b hb => ?_, w6⟩
      obtain ⟨o, z, _⟩ := T.obj _ _ t3 b hb
      exact (pinned b hb o z).2
    have e4' : L2.wipe σ4 vs = L2.wipe σ vs := e4
    have len4 : (L2.wipe σ vs).length = σ4.length := by rw [← e4', wipe_length]
    cases b with
    | false =>
      rw [if_neg (by decide)] at q5
      exact wpAny_pure ⟨rfl, next I5 len4 (fun j v z => wipe_know (r := []) e4' (fun _ z => nomatch z) j v z) q5⟩
    | true =>
      rw [if_pos rfl] at q5
      refine wpAny_bind (thnF (ha _ s5 σ4 H5 Nx I5 q5) fun _ s6 ⟨H6, I6, q6⟩ => wpAny_pure ⟨rfl, ?_⟩)
      exact next I6 (len4.trans (wipe_length σ4 va).symm) (fun j v z => wipe_know e4' sub j v z) q6
end

/-! ### {elt for tg in iter if .. for tg1 in iter1 if ..} -/
abbrev sc2 (elt t0 i0 : Expr) (ifs0 : List Expr) (t1 i1 : Expr) (ifs1 : List Expr) (scope : Scope) (pos : Pos) : Expr := .SetComp elt [⟨t0, i0, ifs0, 0⟩, ⟨t1, i1, ifs1, 0⟩] scope pos
section
variable {elt t0 i0 t1 i1 : Expr} {ifs0 ifs1 : List Expr} {scope : Scope} {pos : Pos}
def actIn (elt : Expr) (env : Env) (acc : Value) : Sem Unit := do
  let v ← eval elt env
  standAt elt.pos
  let _ ← call (.builtin "set.add") [acc, v]
def actOut (e i1 : Expr) (env : Env) (acc : Value) : Sem Unit := do
  let x ← eval i1 env
  standAt i1.pos
  let x ← foldedSetIterable i1 env x
  let _ ← runOwn (.compStart e 1 (← holding [x] (pyIter x)) acc env) env
theorem turn_in (it acc : Value) (env : Env) : compTurn (sc2 elt t0 i0 ifs0 t1 i1 ifs1 scope pos) 1 it acc env = (do
      standAt i1.pos
      match ← pyNext it with
      | none => pure (.done .next)
      | some v =>
        letOwnedTupleGo t1 it v
        assign t1 env v
        let mut ok := true
        for c in ifs1 do
          if ok then ok ← isTrue c env (eval c env)
        if ok then actIn elt env acc
        again (.compLoop (sc2 elt t0 i0 ifs0 t1 i1 ifs1 scope pos) 1 it acc env)) := by rfl
theorem turn_out (it acc : Value) (env : Env) : compTurn (sc2 elt t0 i0 ifs0 t1 i1 ifs1 scope pos) 0 it acc env = (do
      standAt i0.pos
      match ← pyNext it with
      | none => pure (.done .next)
      | some v =>
        letOwnedTupleGo t0 it v
        assign t0 env v
        let mut ok := true
        for c in ifs0 do
          if ok then ok ← isTrue c env (eval c env)
        if ok then actOut (sc2 elt t0 i0 ifs0 t1 i1 ifs1 scope pos) i1 env acc
        again (.compLoop (sc2 elt t0 i0 ifs0 t1 i1 ifs1 scope pos) 0 it acc env)) := by
  unfold actOut
  simp only [bind_assoc, pure_bind]
  rfl
/-- the second clause is entered -/
theorem start_in {P : Program} {w : World} {A : Around} {R : Result → Shared → Prop} {s : Shared} {env : Env} {it acc : Value}
    (h0 : codeAny (model P w) A (.compLoop (sc2 elt t0 i0 ifs0 t1 i1 ifs1 scope pos) 1 it acc env) R s)
    (h : wpAny (model P w) A (pyIter it) (fun j s' => codeAny (model P w) A (.compLoop (sc2 elt t0 i0 ifs0 t1 i1 ifs1 scope pos) 1 j acc env) R s') (notedBy (model P w) A env fun x s' => R (.error x) s') s) :
    codeAny (model P w) A (.compStart (sc2 elt t0 i0 ifs0 t1 i1 ifs1 scope pos) 1 it acc env) R s := by
  refine codeAny_of_tree ?_
  show wpAny _ _ ((compStart (sc2 elt t0 i0 ifs0 t1 i1 ifs1 scope pos) 1 it acc env).onRaise fun x => do noteFrame x env; standAt theWindowsPlace) _ _ s
  refine wpAny_notedAt ?_
  unfold compStart
  show wpAny _ _ (ask >>= _) _ _ s
  refine wpAny_bind (wpAny_askSetting (wpAny_ite ?_))
  split
  · first
      | exact wpAny_pure ⟨rfl, h0⟩
      | exact wpAny_bind (wpAny_pure (wpAny_pure ⟨rfl, h0⟩))
  · refine wpAny_bind (wpAny_rule ?_)
    first
      | exact wpAny_bind (wpAny_standAt (wpAny_bind (wpAny_mono h (fun j s' z => wpAny_pure ⟨rfl, z⟩) fun _ _ z => z)))
      | (show wpAny _ _ (standAt i1.pos >>= _) _ _ s
         exact wpAny_bind (wpAny_standAt (wpAny_bind (wpAny_mono h (fun j s' z => wpAny_pure ⟨rfl, z⟩) fun _ _ z => z))))
end
section
variable {X : Cx} {elt t0 i0 t1 i1 : Expr} {ifs0 ifs1 : List Expr} {scope : Scope} {pos : Pos} {wi wi1 : TI} {g g1 : TG} {tt tt1 : TT} {te : TE}
/-- k is put to the set at D -/
def addS (w : World) (D : Addr) (te : TE) : L2.St → Hp → (Hp → Prop) → Prop := fun σ H Nx => te σ H fun y H1 => ∃ (k : Int) (S : Int → Bool) (n : Nat), y = .int k ∧ H1 D = some (SetO w D S n) ∧ n + 1 < scanBound ∧
  Nx (upd H1 D (SetO w D (fun j => S j || decide (j = k)) (if S k = true then n else n + 1)))
theorem act_in (noE : X.xe = fun _ _ => False) (he : PE X elt te) (D : Addr) : PAct X (actIn elt X.env (.ref D)) [] (addS X.w D te) := by
  intro pins s σ H Q I h
  have h1 := he.run pins s σ H _ I h
  rw [noE] at h1
  refine wpAny_bind (thnF h1 fun v s1 ⟨y, H1, I1, r, k, S, n, ey, hD, hb, q⟩ => wpAny_bind (wpAny_standAt ?_))
  subst ey
  have h2 := mt_sadd pins s1 σ H1 (.ref D) [.int k] (.ref D) [v] (fun _ H' => Q H') I1 rfl (.cons r .nil) ⟨D, k, S, n, rfl, rfl, hD, hb, q⟩
  rw [noE] at h2
  exact wpAny_bind (thnF h2 fun _ s2 ⟨_, H2, I2, _, q2⟩ => wpAny_pure ⟨H2, I2, q2⟩)
theorem act_out (calm : X.calm = true) (noE : X.xe = fun _ _ => False) (hi : PI X t1 i1 wi1) (hs : ∀ env x, foldedSetIterable i1 env x = pure x) (hg : PG X t1 g1) (ht : PTs X ifs1 tt1) (he : PE X elt te) (D : Addr) (vs : List Nat) :
    PAct X (actOut (sc2 elt t0 i0 ifs0 t1 i1 ifs1 scope pos) i1 X.env (.ref D)) vs (fun σ H Nx => wi1 σ H fun J H1 => Wlk J g1 tt1 (addS X.w D te) vs (L2.wipe σ vs) H1 Nx) := by
  intro pins s σ H Q I h
  have h1 := hi.run pins s σ H _ I h
  rw [noE] at h1
  refine wpAny_bind (thnF h1 fun x s1 h2 => wpAny_bind (wpAny_standAt (wpAny_bind (wpAny_of_eq (hs _ x) (wpAny_bind (wpAny_holding (thnF h2 fun itv s2 h3 => ?_)))))))
  obtain ⟨it, fp, tn, J, H2, ei, I2, T, t2, f2, w⟩ := h3
  subst ei
  have loop := clause_ok (R := fun r s' => match r with
      | .ok _ => ∃ H', Inv X pins (L2.wipe σ vs) H' s' ∧ Q H'
      | .error _ => False) (s := s2) calm noE (turn_in (elt := elt) (t0 := t0) (i0 := i0) (ifs0 := ifs0) (t1 := t1) (i1 := i1) (ifs1 := ifs1) (scope := scope) (pos := pos) (.ref it) (.ref D) X.env) rfl rfl T hg ht (act_in noE he D) (fun _ z => nomatch z)
    (I2.weak (wipe_length _ _) fun j v z => (wipe_some z).1) t2 f2 w fun s' H' I' q => ⟨H', I', q⟩
  refine wpAny_bind (wpAny_runOwn ?_)
  rw [Around.mark_none]
  refine codeAny_mono (start_in loop (T.self X.A 0 _ _ _ t2 loop)) fun r s' hr => ?_
  cases r with
  | ok f =>
    first
      | exact wpAny_pure hr
      | exact wpAny_bind (wpAny_pure (wpAny_pure hr))
      | exact wpAny_bind (wpAny_pure hr)
  | error e => exact hr.elim
/-- the reading -/
def tSet2 (w : World) (wi : TI) (g : TG) (tt : TT) (wi1 : TI) (g1 : TG) (tt1 : TT) (te : TE) (vs vs1 : List Nat) : TE := fun σ H Q => wi σ H fun J H1 => ∀ D, H1 D = none →
  Wlk J g tt (fun σ2 H2 Nx => wi1 σ2 H2 fun J1 H3 => Wlk J1 g1 tt1 (addS w D te) vs1 (L2.wipe σ2 vs1) H3 Nx) vs (L2.wipe σ vs) (upd H1 D (SetO w D (fun _ => false) 0)) fun H' => Q (.ref D) H'
theorem pe_set2 {own : List (Str × Nat)} {vs1 : List Nat} (calm : X.calm = true) (nd : X.N.Nodup) (hi : PI X t0 i0 wi) (ok : BlkOk X.N X.env.scope scope own) (hv : ∀ i ∈ vs1, i ∈ own.map (·.2)) (hs : ∀ x, foldedSetIterable i0 X.env x = pure x) (hs1 : ∀ env x, foldedSetIterable i1 env x = pure x)
    (hb : ∀ (s : Shared) (H : Hp) (C : Addr) (cl : List (Str × Addr)) (fp : List Addr), PG (X.blk s H scope (compEnvC scope cl C X.env) fp) t0 g ∧ PTs (X.blk s H scope (compEnvC scope cl C X.env) fp) ifs0 tt ∧ PI (X.blk s H scope (compEnvC scope cl C X.env) fp) t1 i1 wi1 ∧
      PG (X.blk s H scope (compEnvC scope cl C X.env) fp) t1 g1 ∧ PTs (X.blk s H scope (compEnvC scope cl C X.env) fp) ifs1 tt1 ∧ PE (X.blk s H scope (compEnvC scope cl C X.env) fp) elt te) :
    PE X (sc2 elt t0 i0 ifs0 t1 i1 ifs1 scope pos) (tSet2 X.w wi g tt wi1 g1 tt1 te (own.map (·.2)) vs1) := by
  refine ⟨fun pins s σ H Q I h => ?_⟩
  rw [PpSet.eval_SetComp]
  have clo : ∀ y ∈ scope.names, y.2 = .free → ∃ c, X.env.cells.lookup y.1 = some c := by
    intro y hy z
    exact (ok.free y hy z).elim (fun k => I.ok.has _ (.inl k)) fun k => I.ok.has _ (.inr k)
  refine wpAny_comprehension_free (use := none) rfl hs (closure_ok clo) ok.kind (fun y hy z => (ok.uniq y hy).trans (congrArg some z)) (thn (hi.run pins s σ H _ I h) fun xv s1 hx => thn hx fun itv s2 z => ?_)
  obtain ⟨it, fp, tn, J, H2, ei, I2, T, t2, f2, w⟩ := z
  subst ei
  refine PpSet.newSet_ok (newEnv_comp ?_)
  have hD : H2 s2.heap.objs.size = none := I2.hok.fresh (Nat.le_refl _)
  have wl := w s2.heap.objs.size hD
  generalize eO : ({ cls := .type "set", dict := none, data := .set #[] 0 (.fresh 0 0 (!X.w.params.followText "set-order")) } : Obj) = oS
  have I3 : Inv X pins σ (upd H2 s2.heap.objs.size (SetO X.w s2.heap.objs.size (fun _ => false) 0)) { s2 with heap := s2.heap.push oS } := by
    refine I2.laid (t' := s2.toks) (fun b o z => Heap.get?_push_of_some _ z) (Nat.le_refl _) ?_
    rw [← eO]
    exact setO_new (setR_fresh X.w)
  have old : ∀ b ∈ fp, b < s2.heap.objs.size := fun b hb => by
    obtain ⟨o, z, _⟩ := T.obj _ _ t2 b hb
    exact Heap.lt_size z
  generalize eH : upd H2 s2.heap.objs.size (SetO X.w s2.heap.objs.size (fun _ => false) 0) = H3 at I3 wl
  have n3 : ∀ b ∈ fp, H3 b = none := fun b hb => by
    rw [← eH, upd_ne (Nat.ne_of_lt (old b hb))]
    exact (f2 b hb).1
  generalize eD : s2.heap.objs.size = D at wl ⊢
  generalize e3 : ({ s2 with heap := s2.heap.push oS } : Shared) = s3 at I3
  have sz3 : s3.heap = s2.heap.push oS := by rw [← e3]
  have f3 : ∀ b ∈ fp, FpOk X pins H3 b ∧ b < s3.heap.objs.size := fun b hb => by
    refine ⟨⟨n3 b hb, (f2 b hb).2⟩, ?_⟩
    rw [sz3, Heap.size_push]
    exact Nat.lt_succ_of_lt (old b hb)
  have t3 : tn 0 s3.heap := T.keep _ _ _ t2 fun b _ o z => by rw [sz3]; exact Heap.get?_push_of_some _ z
  have I4 := block_start I3 ok nd f3
  obtain ⟨b1, b2, b3, b4, b5, b6⟩ := hb s3 H3 s3.heap.objs.size (cellsFrom (s3.heap.objs.size + 1) scope.names (cloFrom X.env.cells scope.names [])) fp
  show codeAny _ _ (.compStart (sc2 elt t0 i0 ifs0 t1 i1 ifs1 scope pos) 0 (.ref it) (.ref D) (compEnvC scope (cellsFrom (s3.heap.objs.size + 1) scope.names (cloFrom X.env.cells scope.names [])) s3.heap.objs.size X.env)) (compPost _ X.A X.xe none (EP X pins σ Q) (.ref D) s3.heap.objs.size)
    { s3 with heap := pushCells (s3.heap.push { cls := .type "dict", data := .dict #[] }) scope.names }
  generalize ec : compEnvC scope (cellsFrom (s3.heap.objs.size + 1) scope.names (cloFrom X.env.cells scope.names [])) s3.heap.objs.size X.env = ce at I4 b1 b2 b3 b4 b5 b6 ⊢
  have cL : ce.locals = s3.heap.objs.size := by rw [← ec]; rfl
  generalize e4 : ({ s3 with heap := pushCells (s3.heap.push { cls := .type "dict", data := .dict #[] }) scope.names } : Shared) = s4 at I4 ⊢
  have t4 : tn 0 s4.heap := T.keep _ _ _ t3 fun b _ o z => by rw [← e4]; exact pushCells_keeps _ _ _ _ (Heap.get?_push_of_some _ z)
  have fb : ∀ b ∈ fp, FpOk (X.blk s3 H3 scope ce fp) [] H3 b := fun b hb =>
    ⟨n3 b hb, (I4.ok.exf b hb).1, I4.ok.exfs b hb, .inl hb, fun x c z => (I4.ok.exf b hb).2 x c z, fun p z => absurd (show p ∈ ([] : List (Addr × Obj)) ++ [] from z) (by simp)⟩
  have loop : codeAny (model X.prog X.w) X.A (.compLoop (sc2 elt t0 i0 ifs0 t1 i1 ifs1 scope pos) 0 (.ref it) (.ref D) ce) (compPost (model X.prog X.w) X.A X.xe none (EP X pins σ Q) (.ref D) s3.heap.objs.size) s4 := by
    refine clause_ok (X := X.blk s3 H3 scope ce fp) (s := s4) (pins := []) calm rfl (turn_out (elt := elt) (t0 := t0) (i0 := i0) (ifs0 := ifs0) (t1 := t1) (i1 := i1) (ifs1 := ifs1) (scope := scope) (pos := pos) (.ref it) (.ref D) ce) rfl rfl T b1 b2
      (act_out (X := X.blk s3 H3 scope ce fp) calm rfl b3 hs1 b4 b5 b6 D vs1) hv I4 t4 fb wl fun s5 H5 I5 q5 => ?_
    have I6 : Inv X pins σ H5 s5 := I3.call' (ch := fp) I5.os I5.base I5.hok I5.bare fun b hb => ⟨(f3 b hb).1.2.2.2.1, (f3 b hb).1.2.1, (f3 b hb).1.2.2.2.2.1, (f3 b hb).1.2.2.2.2.2⟩
    have hC : H5 s3.heap.objs.size = none := by
      have z : H5 ce.locals = none := I5.free
      rw [cL] at z
      exact z
    obtain ⟨mm, hn, _⟩ := I5.loc
    have hn' : s5.heap.Ns ce.locals mm := hn
    rw [cL] at hn'
    refine ⟨mm, hn', fun h6 sb => ?_⟩
    obtain ⟨k0, k1, k2, k3, k4, k5⟩ := I3.fpOk (H' := H5) (Nat.le_refl _) hC
    exact ⟨.ref D, H5, I6.turned (t' := s5.toks) (fun b o hb z => (sb.2 b hb).trans z) k0 k1 k3 k4 k5, rfl, q5⟩
  exact PpSet.codeAny_compStart_set loop (T.self X.A 0 _ _ _ t4 loop)
end
end MM

end

section
set_option maxRecDepth 100000
set_option maxHeartbeats 4000000
/-! Mini machine: sorted of a set comprehension of two clauses, whole numbers. -/
namespace MM
open PySem PySem.Spec PyProof.Rows L2
theorem dedup_len (l : List Int) : (dedup l).length ≤ l.length := by
  induction l with
  | nil => exact Nat.le_refl _
  | cons i r ih =>
    unfold dedup
    split
    · exact Nat.le_succ_of_le ih
    · exact Nat.succ_le_succ ih
theorem dedup_snoc (l : List Int) (k : Int) (b : Bool) (hb : b = true ↔ k ∈ l) : (dedup (l ++ [k])).length = if b = true then (dedup l).length else (dedup l).length + 1 := by
  by_cases h : k ∈ l
  · rw [if_pos (hb.mpr h)]
    refine List.Perm.length_eq ((List.perm_ext_iff_of_nodup (dedup_nodup _) (dedup_nodup _)).mpr fun x => ?_)
    rw [dedup_mem, dedup_mem, List.mem_append, List.mem_singleton]
    exact ⟨fun z => z.elim id fun e => by rw [e]; exact h, .inl⟩
  · rw [if_neg fun z => h (hb.mp z)]
    have nd : (k :: dedup l).Nodup := List.nodup_cons.mpr ⟨fun z => h ((dedup_mem k l).mp z), dedup_nodup l⟩
    rw [← List.length_cons (a := k)]
    refine List.Perm.length_eq ((List.perm_ext_iff_of_nodup (dedup_nodup _) nd).mpr fun x => ?_)
    rw [dedup_mem, List.mem_append, List.mem_singleton, List.mem_cons, dedup_mem]
    exact Or.comm
/-- the set at D' holds just the whole numbers acc -/
def HoldS (w : World) (H : Hp) (D' : Addr) (acc : List D) : Prop := ∃ (S : Int → Bool) (is : List Int), H D' = some (SetO w D' S (dedup is).length) ∧ acc = is.map .int ∧ ∀ k, S k = true ↔ k ∈ is
structure AccS (w : World) (K : PySem.W.Frag) (m1 : List Addr) (F1 : FP) (H1 : Hp) (D' : Addr) (m : List Addr) (F : FP) (H : Hp) (st : St) (acc : List D) : Prop where
  g : Gro m1 F1 H1 m F H
  rs : RSt K m F H st
  fre : Fre m F D'
  hs : HoldS w H D' acc
section
variable {w : World} {K : PySem.W.Frag} {m m' m1 m2 : List Addr} {F F' F1 F2 : FP} {H H' H1 H2 : Hp} {st st' : St} {ρ : Rho} {σ : L2.St} {D' : Addr}
theorem AccS.hold {acc : List D} (a : AccS w K m1 F1 H1 D' m F H st acc) : RSt K m (F.hold D') H st := let ⟨_, _, h, _⟩ := a.hs; a.rs.hold h a.fre
theorem AccS.step {acc : List D} (a : AccS w K m1 F1 H1 D' m F H st acc) (g : Gro m (F.hold D') H m' F' H') (rs : RSt K m' F' H' st') : AccS w K m1 F1 H1 D' m' ⟨F'.f, F1.p⟩ H' st' acc := by
  have ep : F'.p = (F.hold D').p := g.pro
  have e1 : F.p = F1.p := a.g.pro
  have hD : F'.p D' := by rw [ep]; exact .inr rfl
  obtain ⟨_, h2, h3⟩ := rs.prt D' hD
  have gg : Gro m ⟨F.f, F1.p⟩ H m' ⟨F'.f, F1.p⟩ H' := ⟨g.pre, g.fro, rfl, fun b u e i => g.keep b u e (i.imp id fun j => j.imp id fun z => .inl (by rw [e1]; exact z))⟩
  have g0 : Gro m1 F1 H1 m ⟨F.f, F1.p⟩ H := ⟨a.g.pre, a.g.fro, rfl, a.g.keep⟩
  refine ⟨g0.trans gg, rs.lessP fun b z => ?_, ⟨h2, h3, fun z => a.fre.p (by rw [e1]; exact z)⟩, ?_⟩
  · rw [ep]
    exact .inl (by rw [e1]; exact z)
  · obtain ⟨S, is, e, r⟩ := a.hs
    exact ⟨S, is, g.keep _ _ e (.inr (.inr (.inr rfl))), r⟩
theorem AccS.ne {acc : List D} (a : AccS w K m1 F1 H1 D' m F H st acc) {b : Addr} {u : HO} (e : H b = some u) (i : imm u = true ∨ F.f b ∨ F.p b) : b ≠ D' := by
  rintro rfl
  obtain ⟨S, is, h, _⟩ := a.hs
  rcases i with i | i | i
  · rw [h] at e
    cases e
    cases i
  · exact a.fre.f i
  · exact a.fre.p i
theorem AccS.grow {acc : List D} (a : AccS w K m1 F1 H1 D' m F H st acc) (u : HO) : Gro m F H m F (upd H D' u) :=
  ⟨fun _ _ z => z, fun _ z => z, rfl, fun b v e i => by rw [upd_ne (a.ne e i)]; exact e⟩
theorem AccS.app {acc : List D} {S : Int → Bool} {n : Nat} {k : Int} (a : AccS w K m1 F1 H1 D' m F H st acc) (h : H D' = some (SetO w D' S n)) (hS : ∃ is : List Int, acc = is.map .int ∧ n = (dedup is).length ∧ ∀ k, S k = true ↔ k ∈ is) :
    AccS w K m1 F1 H1 D' m F (upd H D' (SetO w D' (fun j => S j || decide (j = k)) (if S k = true then n else n + 1))) st (acc ++ [.int k]) := by
  have gg := a.grow (SetO w D' (fun j => S j || decide (j = k)) (if S k = true then n else n + 1))
  obtain ⟨is, e1, e2, e3⟩ := hS
  refine ⟨a.g.trans gg, ⟨a.rs.len, a.rs.inj, fun b z => ?_, a.rs.sep, fun b z => ?_, fun n o b e1 e2 => ?_⟩, a.fre, fun j => S j || decide (j = k), is ++ [k], ?_, by rw [e1, List.map_append]; rfl, fun j => ?_⟩
  · obtain ⟨u, e⟩ := a.rs.frf b z
    exact ⟨u, gg.keep b u e (.inr (.inl z))⟩
  · obtain ⟨⟨u, e⟩, z2, z3⟩ := a.rs.prt b z
    exact ⟨⟨u, gg.keep b u e (.inr (.inr z))⟩, z2, z3⟩
  · exact (a.rs.obj n o b e1 e2).mono gg (upd_ne fun z => a.fre.m (by rw [← z]; exact List.mem_of_getElem? e2))
  · rw [upd_same, dedup_snoc is k (S k) (e3 k), e2]
  · rw [Bool.or_eq_true, decide_eq_true_eq, e3 j, List.mem_append, List.mem_singleton]
theorem AccS.turn {acc : List D} (a : AccS w K m1 F1 H1 D' m F H st acc) (g : Gro m F H m F H') (rs : RSt K m F H' st) (hk : ∀ b, H b ≠ none → H' b = H b) : AccS w K m1 F1 H1 D' m F H' st acc := by
  obtain ⟨S, is, e, r⟩ := a.hs
  exact ⟨a.g.trans g, rs, a.fre, S, is, by rw [hk D' (by rw [e]; simp)]; exact e, r⟩
theorem AccS.fit {acc : List D} {xs : List D} {src : Option (Nat × List D)} {m0 : List Addr} {F0 : FP} {H0 : Hp} {J : L2.It} (a : AccS w K m1 F1 H1 D' m F H st acc) (wk : Walks K J xs src m0 F0 H0) (g : Gro m0 ⟨F0.f, F1.p⟩ H0 m ⟨F.f, F1.p⟩ H) (hs : stays src st = true) :
    (∀ (i : Nat) x, xs[i]? = some x → J.go i H ∧ ∀ v H2, J.yld i H v H2 → AccS w K m1 F1 H1 D' m F H2 st acc ∧ Gro m F H m F H2 ∧ RD K m F H2 x v) ∧ ∀ i : Nat, xs.length ≤ i → J.stop i H := by
  have e1 : F.p = F1.p := a.g.pro
  obtain ⟨w1, w2⟩ := wk m F H st (by rw [e1]; obtain ⟨f, p⟩ := F; cases e1; exact g) a.rs hs
  refine ⟨fun i x hx => ?_, w2⟩
  obtain ⟨h1, h2⟩ := w1 i x hx
  refine ⟨h1, fun v H2 y => ?_⟩
  obtain ⟨q1, q2, q3, q4⟩ := h2 v H2 y
  exact ⟨a.turn q1 q2 q4, q1, q3⟩
/-- a clause walked, any end of a turn -/
theorem wlk_ok {f : D → St → R (List D)} {fin : Hp → Prop} {ta : L2.St → Hp → (Hp → Prop) → Prop} {ct : Rho → St → R Bool} {g : G} {vs : List Nat} {cr : Rho → St → R (List D)} {ρ : Rho} {xs : List D} {src : Option (Nat × List D)} {J : L2.It} {acc ys tot : List D}
    (a : AccS w K m1 F1 H1 D' m F H st acc) (re : REnv K m F H ρ σ) (wk : Walks K J xs src m F H) (ef : f = fun (x : D) (st : St) => match bindG g x (wipeR ρ vs) with
      | some ρ' => bnd (ct ρ' st) fun b st => if b then cr ρ' st else some ([], st)
      | none => none)
    (ew : walkF src f xs st = some (ys, st')) (sub : ∀ i ∈ g.slots, i ∈ vs) (hB : ∃ r, acc ++ ys ++ r = tot)
    (act : ∀ {m2 F2 H2 st2 acc2 zs st3 ρ' σ' Nx}, AccS w K m1 F1 H1 D' m2 F2 H2 st2 acc2 → ∀ {m3 F3 H3 st3'}, Gro m2 (F2.hold D') H2 m3 F3 H3 → REnv K m3 F3 H3 ρ' σ' → RSt K m3 F3 H3 st3' → cr ρ' st3' = some (zs, st3) → (∃ r, acc2 ++ zs ++ r = tot) →
      (∀ m' (F' : FP) H', Gro m2 ⟨F2.f, F1.p⟩ H2 m' ⟨F'.f, F1.p⟩ H' → AccS w K m1 F1 H1 D' m' F' H' st3 (acc2 ++ zs) → Nx H') → ta σ' H3 Nx)
    (done : ∀ m' (F' : FP) H', Gro m ⟨F.f, F1.p⟩ H m' ⟨F'.f, F1.p⟩ H' → AccS w K m1 F1 H1 D' m' F' H' st' (acc ++ ys) → fin H') : Wlk J (TGt K g) (TB K ct) ta vs (L2.wipe σ vs) H fin := by
  refine ⟨fun i μ H5 => μ = xs.length - i ∧ i ≤ xs.length ∧ ∃ m5 F5 st5 ac zs, AccS w K m1 F1 H1 D' m5 F5 H5 st5 ac ∧ Gro m ⟨F.f, F1.p⟩ H m5 ⟨F5.f, F1.p⟩ H5 ∧ walkF src f (xs.drop i) st5 = some (zs, st') ∧ acc ++ ys = ac ++ zs, ⟨xs.length, by simp, Nat.zero_le _, m, F, st, acc, ys, a, Gro.refl, ew, rfl⟩, ?_⟩
  rintro i μ H5 ⟨rfl, hi, m5, F5, st5, ac, zs, a5, g5, e5, ed⟩
  by_cases hlt : i < xs.length
  · rw [drop_cons hlt] at e5
    obtain ⟨hs, us, st6, ws, e6, e7, ez⟩ := walkF_cons e5
    obtain ⟨w1, _⟩ := a5.fit wk g5 hs
    obtain ⟨go, yl⟩ := w1 i xs[i] (List.getElem?_eq_getElem hlt)
    refine .inr ⟨go, fun H' => ∃ m5 F5 st5 ac zs, AccS w K m1 F1 H1 D' m5 F5 H' st5 ac ∧ Gro m ⟨F.f, F1.p⟩ H m5 ⟨F5.f, F1.p⟩ H' ∧ walkF src f (xs.drop (i + 1)) st5 = some (zs, st') ∧ acc ++ ys = ac ++ zs, fun H' n => ⟨xs.length - (i + 1), by omega, rfl, hlt, n⟩, fun v H6 y => ?_⟩
    obtain ⟨a6, g6, r6⟩ := yl v H6 y
    rw [ef] at e6
    simp only at e6
    have e1 : F5.p = F1.p := a5.g.pro
    have g6' : Gro m5 ⟨F5.f, F1.p⟩ H5 m5 ⟨F5.f, F1.p⟩ H6 := ⟨g6.pre, g6.fro, rfl, fun b u e i => g6.keep b u e (i.imp id fun j => j.imp id fun z => by rw [e1]; exact z)⟩
    split at e6
    · rename_i ρ' eb
      have re6 : REnv K m5 (F5.hold D') H6 (wipeR ρ vs) (L2.wipe σ vs) := ((((re.reP F1.p).mono g5).mono g6').reP (F5.hold D').p).wipe vs
      refine ⟨wipeR ρ vs, m5, F5.hold D', xs[i], ρ', re6, r6.reP _, eb, fun σ2 re7 out => ⟨out vs sub, ?_⟩⟩
      obtain ⟨b, st7, e8, e6⟩ := bnd_eq e6
      refine TB.use re7 a6.hold e8 fun H8 m8 F8 g8 re8 rs8 => ?_
      have lens : ∃ r, ac ++ us ++ r = tot := by
        obtain ⟨r, hr⟩ := hB
        exact ⟨ws ++ r, by rw [← hr, ed, ez]; simp only [List.append_assoc]⟩
      cases b with
      | false =>
        rw [if_neg (by decide)] at e6 ⊢
        cases e6
        have a8 := a6.step g8 rs8
        refine ⟨m8, _, st6, ac, ws, a8, (g5.trans g6').trans ?_, e7, by rw [ed, ez]; rfl⟩
        exact ⟨g8.pre, g8.fro, rfl, fun b u e i => g8.keep b u e (i.imp id fun j => j.imp id fun z => .inl (by rw [e1]; exact z))⟩
      | true =>
        rw [if_pos rfl] at e6 ⊢
        exact act a6 g8 re8 rs8 e6 lens fun m' F' H' gg a' => ⟨m', F', st6, ac ++ us, ws, a', (g5.trans g6').trans gg, e7, by rw [ed, ez, List.append_assoc]⟩
    · cases e6
  · have hi' : i = xs.length := by omega
    subst hi'
    rw [List.drop_length] at e5
    obtain ⟨hs, ez, es⟩ := walkF_nil e5
    obtain ⟨_, w2⟩ := a5.fit wk g5 hs
    subst ez es
    rw [List.append_nil] at ed
    exact .inl ⟨w2 _ (Nat.le_refl _), done m5 F5 H5 g5 (by rw [ed]; exact a5)⟩
theorem int_at : ∀ {l r : List D} {d : D} {is : List Int}, asInts (l ++ d :: r) = some is → ∃ k, d = .int k
  | [], r, d, is, h => by
    cases d with
    | int k => exact ⟨k, rfl⟩
    | _ => simp [asInts] at h
  | x :: l, r, d, is, h => by
    cases x with
    | int i =>
      simp [asInts] at h
      obtain ⟨js, h1, _⟩ := h
      exact int_at h1
    | _ => simp [asInts] at h
/-- an element is put to the set -/
theorem add_ok {ce : Rho → St → R D} {tot : List D} {is : List Int} (hi : asInts tot = some is) (hl : tot.length ≤ 1000) {acc2 zs : List D} {m2 : List Addr} {F2 : FP} {H2 : Hp} {st2 st3 : St} {ρ' : Rho} {σ' : L2.St} {Nx : Hp → Prop} (a : AccS w K m1 F1 H1 D' m2 F2 H2 st2 acc2)
    {m3 : List Addr} {F3 : FP} {H3 : Hp} {st3' : St} (g3 : Gro m2 (F2.hold D') H2 m3 F3 H3) (re : REnv K m3 F3 H3 ρ' σ') (rs : RSt K m3 F3 H3 st3') (e : (bnd (ce ρ' st3') fun d st => some ([d], st)) = some (zs, st3)) (hp : ∃ r, acc2 ++ zs ++ r = tot)
    (k : ∀ m' (F' : FP) H', Gro m2 ⟨F2.f, F1.p⟩ H2 m' ⟨F'.f, F1.p⟩ H' → AccS w K m1 F1 H1 D' m' F' H' st3 (acc2 ++ zs) → Nx H') : addS w D' (T K ce) σ' H3 Nx := by
  obtain ⟨d, st4, e1, e⟩ := bnd_eq e
  cases e
  obtain ⟨r, hr⟩ := hp
  rw [List.append_assoc] at hr
  obtain ⟨j, ej⟩ := int_at (l := acc2) (r := r) (d := d) (by rw [← hi, ← hr]; rfl)
  subst ej
  refine T.use re rs e1 fun v H4 m4 F4 g4 re4 rs4 d4 => ?_
  cases d4
  have a4 := a.step (g3.trans g4) rs4
  obtain ⟨S, js, h1, h2, h3⟩ := a4.hs
  have hlen : (dedup js).length + 1 < scanBound := by
    have l1 := dedup_len js
    have l2 := congrArg List.length hr
    simp only [List.length_append, List.length_cons, List.length_nil] at l2
    have l3 := congrArg List.length h2
    rw [List.length_map] at l3
    unfold scanBound
    omega
  have e1 : F2.p = F1.p := a.g.pro
  refine ⟨j, S, _, rfl, h1, hlen, k m4 ⟨F4.f, F1.p⟩ _ ?_ (a4.app h1 ⟨js, h2, rfl, h3⟩)⟩
  have gg := a4.grow (SetO w D' (fun i => S i || decide (i = j)) (if S j = true then (dedup js).length else (dedup js).length + 1))
  have g34 := g3.trans g4
  exact Gro.trans (m' := m4) (F' := ⟨F4.f, F1.p⟩) ⟨g34.pre, g34.fro, rfl, fun b u e i => g34.keep b u e (i.imp id fun j => j.imp id fun z => .inl (by rw [e1]; exact z))⟩ gg
end
section
variable {c : Tb} {cl : Cl} {ps : Nat → List Str} {k : Nat} {sc : Scope} {cs : Cs} {X : Cx}
def srtSCC (cr : Rho → St → R (List D)) : Rho → St → R (List D) := fun ρ st => bnd (cr ρ st) fun xs st => if decide (xs.length ≤ 1000) then liftO st (sortSet xs) else none
theorem set_sub {cI cI2 : Rho → St → R (List D × Option (Nat × List D))} {g g2 : G} {ct ct2 : Rho → St → R Bool} {ce : Rho → St → R D} {σ : L2.St} {H : Hp} {Q : VK} {W : World} {K : PySem.W.Frag} (h : TL K (srtSCC (twoC cI g ct cI2 g2 ct2 ce)) σ H Q) :
    tSet2 W (TIt K cI) (TGt K g) (TB K ct) (TIt K cI2) (TGt K g2) (TB K ct2) (T K ce) (g.slots ++ g2.slots) g2.slots σ H fun x H1 => ∃ (a : Addr) (S : Int → Bool) (n : Nat) (is : List Int), [x] = [V.ref a] ∧ H1 a = some (SetO W a S n) ∧ n < 64 ∧ (∀ k, S k = true ↔ k ∈ is) ∧
      ∀ p : Addr, H1 p = none → (sortI (dedup is)).length = n → Q (.ref p) (upd H1 p (.lst ((sortI (dedup is)).map V.int))) := by
  obtain ⟨ρ, st, m, F, ds, st', re, rs, e, q⟩ := h
  obtain ⟨tot, st0, e0, e⟩ := bnd_eq e
  split at e
  · rename_i hl
    have hl := of_decide_eq_true hl
    obtain ⟨e1, e2⟩ := liftO_eq e
    have e2' : st' = st0 := e2
    subst e2'
    simp only [sortSet] at e1
    split at e1
    · rename_i is his
      split at e1
      · rename_i h64
        have h64 := of_decide_eq_true h64
        cases e1
        obtain ⟨⟨xs, src⟩, st1, e3, e4⟩ := bnd_eq e0
        refine ⟨ρ, st, m, F, xs, src, st1, re, rs, e3, fun J H1 m1 F1 g1 rs1 hxl wk D' hD => ?_⟩
        have a0 : AccS W K m1 F1 H1 D' m1 F1 (upd H1 D' (SetO W D' (fun _ => false) 0)) st1 [] := ⟨gro_upd hD, rs1.upd hD, rs1.fre hD, fun _ => false, [], upd_same, rfl, fun k => by simp⟩
        have wk' : Walks K J xs src m1 F1 (upd H1 D' (SetO W D' (fun _ => false) 0)) := fun m2 F2 H2 st2 gw r2 => by
          have g0 : Gro m1 ⟨F1.f, F2.p⟩ H1 m1 ⟨F1.f, F2.p⟩ (upd H1 D' (SetO W D' (fun _ => false) 0)) := gro_upd hD
          exact wk m2 F2 H2 st2 (g0.trans gw) r2
        refine wlk_ok (tot := tot) a0 ((re.mono g1).mono (gro_upd hD)) wk' rfl e4 (fun _ z => List.mem_append_left _ z) ⟨[], by rw [List.nil_append, List.append_nil]⟩ ?_ ?_
        · intro m2 F2 H2 st2 acc2 zs st3 ρ' σ' Nx a2 m3 F3 H3 st3' g3 re3 rs3 e5 hp kk
          obtain ⟨⟨ys, src2⟩, st5, e6, e7⟩ := bnd_eq e5
          refine ⟨ρ', st3', m3, F3, ys, src2, st5, re3, rs3, e6, fun J2 H4 m4 F4 g4 rs4 hyl wk2 => ?_⟩
          have a4 := a2.step (g3.trans g4) rs4
          have e9 : F4.p = F3.p := g4.pro
          have re4 : REnv K m4 ⟨F4.f, F1.p⟩ H4 ρ' σ' := (re3.mono g4).reP F1.p
          have wk4 : Walks K J2 ys src2 m4 ⟨F4.f, F1.p⟩ H4 := fun m5 F5 H5 st5 gw r5 => wk2 m5 F5 H5 st5 gw r5
          refine wlk_ok (tot := tot) a4 re4 wk4 rfl e7 (fun _ z => z) hp (fun a6 => fun g6 re6 rs6 e8 hp6 kk6 => add_ok his hl a6 g6 re6 rs6 e8 hp6 kk6) fun m' F' H' gg a' => ?_
          have e1 : F2.p = F1.p := a2.g.pro
          have g34 := g3.trans g4
          refine kk m' F' H' (Gro.trans (m' := m4) (F' := ⟨F4.f, F1.p⟩) ⟨g34.pre, g34.fro, rfl, fun b u e i => g34.keep b u e (i.imp id fun j => j.imp id fun z => .inl (by rw [e1]; exact z))⟩ gg) a'
        · intro m' F' H' gg a'
          obtain ⟨S, js, h1, h2, h3⟩ := a'.hs
          rw [List.nil_append] at h2
          have ejs : js = is := by
            have := ints_back his
            rw [h2] at this
            exact List.map_inj_right (fun x y z => by cases z; rfl) |>.mp this
          subst ejs
          refine ⟨D', S, _, js, rfl, h1, h64, h3, fun p hp hn => ?_⟩
          refine done_new a'.rs ?_ (RDs.of_ints (sortI (dedup js))) hp fun a vs H5 m5 F5 g5 => q a vs H5 m5 F5 ((g1.trans a'.g).trans g5)
          rw [List.length_map, hn]
          unfold cap
          omega
      · cases e1
    · cases e1
  · cases e
end
end MM

end

section
set_option maxRecDepth 100000
set_option maxHeartbeats 4000000
/-! Mini machine: the checker of expressions. -/
namespace MM
open PySem PySem.Spec PyProof.Rows L2

def noStars : List Expr → Bool
  | [] => true
  | e :: r => notStar e && noStars r
def b1 (sc : Scope) (x : Str) (e : Expr) (k : Expr → Bool) : Bool := match e with
  | .Call (.Name y _) [a] [] _ => decide (y = x) && glB sc x && notStar a && k a
  | _ => false
def b2 (sc : Scope) (x : Str) (e : Expr) (k : Expr → Expr → Bool) : Bool := match e with
  | .Call (.Name y _) [a, b] [] _ => decide (y = x) && glB sc x && notStar a && notStar b && k a b
  | _ => false
def m0 (n : Str) (e : Expr) (k : Expr → Bool) : Bool := match e with
  | .Call (.Attribute o y apos) [] [] cpos => decide (y = n) && notCall o && (apos.endLine == cpos.line) && k o
  | _ => false
def m1 (n : Str) (e : Expr) (k : Expr → Expr → Bool) : Bool := match e with
  | .Call (.Attribute o y apos) [a] [] cpos => decide (y = n) && notCall o && (apos.endLine == cpos.line) && notStar a && k o a
  | _ => false
def m2 (n : Str) (e : Expr) (k : Expr → Expr → Expr → Bool) : Bool := match e with
  | .Call (.Attribute o y apos) [a, b] [] cpos => decide (y = n) && notCall o && (apos.endLine == cpos.line) && notStar a && notStar b && k o a b
  | _ => false
/-- a call of a def -/
def fc (c : Tb) (sc : Scope) (f : Nat) (e : Expr) (k : List Expr → Bool) : Bool := match e with
  | .Call (.Name x _) (a :: as) [] _ => decide (c.tb[f]? = some x) && glB sc x && plainN x && notStar a && noStars as && k (a :: as)
  | _ => false
def conB (c : Tb) (sc : Scope) (d : D) (e : Expr) : Bool := match e with
  | .Constant k _ _ => match d, k with
    | .non, .none => true
    | .bl b, .bool b' => b == b'
    | .int i, .int j => decide (i = j)
    | .str x, .str y => decide (x = y)
    | _, _ => false
  | .Name x _ => match d with
    | .int i => glB sc x && plainN x && decide ((x, i) ∈ c.gc)
    | _ => false
  | _ => false
def ownOf (c : Tb) (l : List Nat) : List (Str × Nat) := l.map fun i => ((c.N[i]?).getD "", i)
def isTup : Expr → Bool
  | .Tuple .. => true
  | _ => false
def isNilE : Es → Bool
  | .nil => true
  | _ => false
def isTwo : Gs → Bool
  | .two .. => true
  | _ => false
/-- x[::-1] -/
def revB (e : Expr) (k : Expr → Bool) : Bool := match e with
  | .Subscript a (.Slice none none (some (.UnaryOp .USub (.Constant (.int i) _ _) _)) _) _ => decide (i = 1) && k a
  | _ => false
def okT : E → Expr → Bool
  | .not a, e => match e with
    | .UnaryOp .Not x _ => okT a x
    | _ => false
  | .and a b, e => match e with
    | .BoolOp .And (x :: y :: rest) pos => okT a x && (match rest with
      | [] => okT b y
      | z :: r => okT b (.BoolOp .And (y :: z :: r) pos))
    | _ => false
  | .or a b, e => match e with
    | .BoolOp .Or (x :: y :: rest) pos => okT a x && (match rest with
      | [] => okT b y
      | z :: r => okT b (.BoolOp .Or (y :: z :: r) pos))
    | _ => false
  | .cmp .., _ => true
  | .chn .., _ => true
  | _, e => plainTest e
section
variable (c : Tb)
mutual
def chkE (sc : Scope) (cs : Cs) : E → Expr → Bool
  | .var i, e => match e with
    | .Name x _ => decide (c.N[i]? = some x) && visB sc x && plainN x
    | _ => false
  | .con d, e => conB c sc d e
  | .tup es, e => match e with
    | .Tuple xs _ _ => decide (xs.length ≤ 1000) && chkEs sc cs es xs
    | _ => false
  | .bin o a b, e => match e with
    | .BinOp x op y _ => decide (op = bopOf o) && chkE sc cs a x && chkE sc cs b y
    | _ => false
  | .neg a, e => match e with
    | .UnaryOp .USub x _ => chkE sc cs a x
    | _ => false
  | .not a, e => match e with
    | .UnaryOp .Not x _ => chkE sc cs a x
    | _ => false
  | .cmp o a b, e => match e with
    | .Compare x [op] [y] _ => decide (op = copOf o) && notSet y && chkE sc cs a x && chkE sc cs b y
    | _ => false
  | .chn o p a b d, e => match e with
    | .Compare x [op, op2] [y, z] _ => decide (op = copOf o) && decide (op2 = copOf p) && notSet z && chkE sc cs a x && chkE sc cs b y && chkE sc cs d z
    | _ => false
  | .and a b, e => match e with
    | .BoolOp .And (x :: y :: rest) pos => chkE sc cs a x && (match rest with
      | [] => chkE sc cs b y
      | z :: r => chkE sc cs b (.BoolOp .And (y :: z :: r) pos))
    | _ => false
  | .or a b, e => match e with
    | .BoolOp .Or (x :: y :: rest) pos => chkE sc cs a x && (match rest with
      | [] => chkE sc cs b y
      | z :: r => chkE sc cs b (.BoolOp .Or (y :: z :: r) pos))
    | _ => false
  | .ite d a b, e => match e with
    | .IfExp t x y _ => okT d t && chkE sc cs d t && chkE sc cs a x && chkE sc cs b y
    | _ => false
  | .call f es, e => fc c sc f e fun xs => chkEs sc cs es xs
  | .len a, e => b1 sc "len" e fun x => chkE sc cs a x
  | .intf a, e => b1 sc "int" e fun x => chkE sc cs a x
  | .isi t a, e => b2 sc "isinstance" e fun x y => chkE sc cs a x && (match y with
    | .Name z _ => decide (z = tyStr t) && glB sc (tyStr t)
    | _ => false)
  | .mx a b, e => b2 sc "max" e fun x y => chkE sc cs a x && chkE sc cs b y
  | .mn a b, e => b2 sc "min" e fun x y => chkE sc cs a x && chkE sc cs b y
  | .repr a, e => b1 sc "repr" e fun x => chkE sc cs a x
  | .tupE a, e => b1 sc "tuple" e fun x => chkE sc cs a x
  | .tupL l, e => b1 sc "tuple" e fun x => chkL sc cs l x
  | .tupR a, e => b1 sc "tuple" e fun x => b1 sc "range" x fun y => chkE sc cs a y
  | .allL l, e => b1 sc "all" e fun x => chkL sc cs l x
  | .anyL l, e => b1 sc "any" e fun x => chkL sc cs l x
  | .lenSet _, _ => false
  | .minL l, e => b1 sc "min" e fun x => chkL sc cs l x
  | .idx a i, e => match e with
    | .Subscript x y _ => notSlice y && chkE sc cs a x && chkE sc cs i y
    | _ => false
  | .slice a lo hi, e => match e with
    | .Subscript x (.Slice l h none _) _ => chkE sc cs a x && chkO sc cs lo l && chkO sc cs hi h
    | _ => false
  | .rev a, e => revB e fun x => chkE sc cs a x
  | .pop a, e => m0 "pop" e fun x => chkE sc cs a x
  | .popAt a i, e => m1 "pop" e fun x y => chkE sc cs a x && chkE sc cs i y
  | .index a i, e => m1 "index" e fun x y => chkE sc cs a x && chkE sc cs i y
  | .get2 a i d, e => m2 "get" e fun x y z => chkE sc cs a x && chkE sc cs i y && chkE sc cs d z
  | .dictOf a, e => b1 sc "dict" e fun x => chkE sc cs a x
  | .frz l, e => chkL sc cs l e
  | .new l, e => chkL sc cs l e
def chkEs (sc : Scope) (cs : Cs) : Es → List Expr → Bool
  | .nil, xs => match xs with
    | [] => true
    | _ => false
  | .cons e es, xs => match xs with
    | x :: r => notStar x && chkE sc cs e x && chkEs sc cs es r
    | [] => false
def chkO (sc : Scope) (cs : Cs) : OE → Option Expr → Bool
  | .none, x => match x with
    | none => true
    | _ => false
  | .some e, x => match x with
    | some y => chkE sc cs e y
    | _ => false
def chkL (sc : Scope) (cs : Cs) : L → Expr → Bool
  | .disp es, e => match e with
    | .List xs _ => decide (xs.length ≤ 1000) && chkEs sc cs es xs
    | _ => false
  | .comp gs, e => match e with
    | .ListComp elt gens scope _ => chkGs sc cs gs elt gens scope
    | _ => false
  | .ofE a, e => b1 sc "list" e fun x => chkE sc cs a x
  | .ofR a, e => b1 sc "list" e fun x => b1 sc "range" x fun y => chkE sc cs a y
  | .add a b, e => match e with
    | .BinOp x .Add y _ => chkE sc cs a x && chkE sc cs b y
    | _ => false
  | .ite d a b, e => match e with
    | .IfExp t x y _ => okT d t && chkE sc cs d t && chkL sc cs a x && chkL sc cs b y
    | _ => false
  | .slice a lo hi, e => match e with
    | .Subscript x (.Slice l h none _) _ => chkE sc cs a x && chkO sc cs lo l && chkO sc cs hi h
    | _ => false
  | .rev a, e => revB e fun x => chkE sc cs a x
  | .call f es, e => fc c sc f e fun xs => chkEs sc cs es xs
  | .srt a, e => b1 sc "sorted" e fun x => chkE sc cs a x
  | .srtL l, e => b1 sc "sorted" e fun x => chkL sc cs l x
  | .srtSet a, e => b1 sc "sorted" e fun x => b1 sc "set" x fun y => chkE sc cs a y
  | .srtSC gs, e => isTwo gs && b1 sc "sorted" e fun x => match x with
    | .SetComp elt gens scope _ => chkGs sc cs gs elt gens scope
    | _ => false
def chkGs (sc : Scope) (cs : Cs) : Gs → Expr → List Comprehension → Scope → Bool
  | .one g it ifs e, elt, gens, scope => match gens with
    | [h] => decide (h.is_async = 0) && blkC c.N sc scope (ownOf c g.slots) && notSet h.iter && chkG c (relS scope sc) (some scope) g h.target && chkIt sc cs it h.target h.iter &&
      chkTs (relS scope sc) (some scope) ifs h.ifs && chkE (relS scope sc) (some scope) e elt
    | _ => false
  | .two g it ifs g2 it2 ifs2 e, elt, gens, scope => match gens with
    | [h, h2] => decide (h.is_async = 0) && decide (h2.is_async = 0) && blkC c.N sc scope (ownOf c (g.slots ++ g2.slots)) && notSet h.iter && notSet h2.iter && chkG c (relS scope sc) (some scope) g h.target &&
      chkG c (relS scope sc) (some scope) g2 h2.target && chkIt sc cs it h.target h.iter && chkIt (relS scope sc) (some scope) it2 h2.target h2.iter &&
      chkTs (relS scope sc) (some scope) ifs h.ifs && chkTs (relS scope sc) (some scope) ifs2 h2.ifs && chkE (relS scope sc) (some scope) e elt
    | _ => false
def chkTs (sc : Scope) (cs : Cs) : Es → List Expr → Bool
  | .nil, xs => match xs with
    | [] => true
    | _ => false
  | .cons e es, xs => match xs with
    | [x] => okT e x && chkE sc cs e x && isNilE es
    | _ => false
def chkIt (sc : Scope) (cs : Cs) : It → Expr → Expr → Bool
  | .seq a, _, e => chkE sc cs a e
  | .lis l, _, e => chkL sc cs l e
  | .rng1 a, _, e => b1 sc "range" e fun x => chkE sc cs a x
  | .rng2 a b, _, e => b2 sc "range" e fun x y => chkE sc cs a x && chkE sc cs b y
  | .enm a, tg, e => isTup tg && b1 sc "enumerate" e fun x => chkE sc cs a x
end
end

/-! ### the looks, turned round -/
theorem b1_inv {sc : Scope} {x : Str} {e : Expr} {k : Expr → Bool} (h : b1 sc x e k = true) : ∃ p a pos, e = .Call (.Name x p) [a] [] pos ∧ glB sc x = true ∧ notStar a = true ∧ k a = true := by
  unfold b1 at h
  split at h
  · simp only [Bool.and_eq_true, decide_eq_true_eq] at h
    obtain ⟨⟨⟨h1, h2⟩, h3⟩, h4⟩ := h
    subst h1
    exact ⟨_, _, _, rfl, h2, h3, h4⟩
  · cases h
theorem b2_inv {sc : Scope} {x : Str} {e : Expr} {k : Expr → Expr → Bool} (h : b2 sc x e k = true) : ∃ p a b pos, e = .Call (.Name x p) [a, b] [] pos ∧ glB sc x = true ∧ notStar a = true ∧ notStar b = true ∧ k a b = true := by
  unfold b2 at h
  split at h
  · simp only [Bool.and_eq_true, decide_eq_true_eq] at h
    obtain ⟨⟨⟨⟨h1, h2⟩, h3⟩, h5⟩, h4⟩ := h
    subst h1
    exact ⟨_, _, _, _, rfl, h2, h3, h5, h4⟩
  · cases h
theorem m0_inv {n : Str} {e : Expr} {k : Expr → Bool} (h : m0 n e k = true) : ∃ o apos cpos, e = .Call (.Attribute o n apos) [] [] cpos ∧ notCall o = true ∧ (apos.endLine == cpos.line) = true ∧ k o = true := by
  unfold m0 at h
  split at h
  · simp only [Bool.and_eq_true, decide_eq_true_eq] at h
    obtain ⟨⟨⟨h1, h2⟩, h3⟩, h4⟩ := h
    subst h1
    exact ⟨_, _, _, rfl, h2, h3, h4⟩
  · cases h
theorem m1_inv {n : Str} {e : Expr} {k : Expr → Expr → Bool} (h : m1 n e k = true) : ∃ o apos a cpos, e = .Call (.Attribute o n apos) [a] [] cpos ∧ notCall o = true ∧ (apos.endLine == cpos.line) = true ∧ notStar a = true ∧ k o a = true := by
  unfold m1 at h
  split at h
  · simp only [Bool.and_eq_true, decide_eq_true_eq] at h
    obtain ⟨⟨⟨⟨h1, h2⟩, h3⟩, h5⟩, h4⟩ := h
    subst h1
    exact ⟨_, _, _, _, rfl, h2, h3, h5, h4⟩
  · cases h
theorem m2_inv {n : Str} {e : Expr} {k : Expr → Expr → Expr → Bool} (h : m2 n e k = true) : ∃ o apos a b cpos, e = .Call (.Attribute o n apos) [a, b] [] cpos ∧ notCall o = true ∧ (apos.endLine == cpos.line) = true ∧ notStar a = true ∧ notStar b = true ∧ k o a b = true := by
  unfold m2 at h
  split at h
  · simp only [Bool.and_eq_true, decide_eq_true_eq] at h
    obtain ⟨⟨⟨⟨⟨h1, h2⟩, h3⟩, h5⟩, h6⟩, h4⟩ := h
    subst h1
    exact ⟨_, _, _, _, _, rfl, h2, h3, h5, h6, h4⟩
  · cases h
theorem stars_any : ∀ {as : List Expr}, noStars as = true → ∀ (pos : Pos) (env : Env), (backTo pos (starEach as env)).any (·.1) = false
  | [], _, _, _ => rfl
  | a :: as, h, pos, env => by
    have h' : notStar a = true ∧ noStars as = true := by simpa [noStars] using h
    have ih := stars_any h'.2 pos env
    rw [star_of h'.1]
    unfold backTo at ih ⊢
    rw [List.map_cons, List.any_cons, ih]
    rfl
theorem fc_inv {c : Tb} {sc : Scope} {f : Nat} {e : Expr} {k : List Expr → Bool} (h : fc c sc f e k = true) : ∃ x p a as pos, e = .Call (.Name x p) (a :: as) [] pos ∧ c.tb[f]? = some x ∧ glB sc x = true ∧ plainN x = true ∧ notStar a = true ∧
    (∀ env, (backTo pos (starEach as env)).any (·.1) = false) ∧ k (a :: as) = true := by
  unfold fc at h
  split at h
  · simp only [Bool.and_eq_true, decide_eq_true_eq] at h
    obtain ⟨⟨⟨⟨⟨h1, h2⟩, h3⟩, h5⟩, h6⟩, h4⟩ := h
    exact ⟨_, _, _, _, _, rfl, h1, h2, h3, h5, fun env => stars_any h6 _ env, h4⟩
  · cases h
theorem rev_inv {e : Expr} {k : Expr → Bool} (h : revB e k = true) : ∃ a kk p1 p2 p3 pos, e = .Subscript a (.Slice none none (some (.UnaryOp .USub (.Constant (.int 1) kk p1) p2)) p3) pos ∧ k a = true := by
  unfold revB at h
  split at h
  · simp only [Bool.and_eq_true, decide_eq_true_eq] at h
    obtain ⟨h1, h2⟩ := h
    subst h1
    exact ⟨_, _, _, _, _, _, rfl, h2⟩
  · cases h
theorem own_slots (c : Tb) (l : List Nat) : (ownOf c l).map (·.2) = l := by
  unfold ownOf
  rw [List.map_map]
  exact List.map_id _
end MM

end

section
set_option maxRecDepth 100000
set_option maxHeartbeats 4000000
/-! Mini machine: what the checker lets is so. -/
namespace MM
open PySem PySem.Spec PyProof.Rows L2
section
variable {X : Cx}
theorem pe_as {c c' : Rho → St → R D} {e : Expr} (h : PE X e (T X.K c)) (q : ∀ ρ st, c' ρ st = c ρ st) : PE X e (T X.K c') := by
  rw [show c' = c from funext fun ρ => funext fun st => q ρ st]
  exact h
theorem pl_as {c c' : Rho → St → R (List D)} {e : Expr} (h : PE X e (TL X.K c)) (q : ∀ ρ st, c' ρ st = c ρ st) : PE X e (TL X.K c') := by
  rw [show c' = c from funext fun ρ => funext fun st => q ρ st]
  exact h
theorem pa_as {c c' : Rho → St → R (List D)} {e : List Expr} (h : PA X e (TEs X.K c)) (q : ∀ ρ st, c' ρ st = c ρ st) : PA X e (TEs X.K c') := by
  rw [show c' = c from funext fun ρ => funext fun st => q ρ st]
  exact h
theorem pt_as {c c' : Rho → St → R D} {e : Expr} (h : PT X e (TB X.K (tstC c))) (q : ∀ ρ st, c' ρ st = c ρ st) : PT X e (TB X.K (tstC c')) := by
  rw [show c' = c from funext fun ρ => funext fun st => q ρ st]
  exact h
theorem pw_as {c c' : Rho → St → R D} {e : Expr} (h : PW X e (TB X.K (tstC c))) (q : ∀ ρ st, c' ρ st = c ρ st) : PW X e (TB X.K (tstC c')) := by
  rw [show c' = c from funext fun ρ => funext fun st => q ρ st]
  exact h
theorem pi_as {c c' : Rho → St → R (List D × Option (Nat × List D))} {g e : Expr} (h : PI X g e (TIt X.K c)) (q : ∀ ρ st, c' ρ st = c ρ st) : PI X g e (TIt X.K c') := by
  rw [show c' = c from funext fun ρ => funext fun st => q ρ st]
  exact h
theorem po_as {c c' : Rho → St → R (Option Int)} {e : Option Expr} (h : PO X e (TO_ X.K c)) (q : ∀ ρ st, c' ρ st = c ρ st) : PO X e (TO_ X.K c') := by
  rw [show c' = c from funext fun ρ => funext fun st => q ρ st]
  exact h
end
theorem evEs_len (cl : Cl) : ∀ (es : Es) (xs : List Expr) (c : Tb) (sc : Scope) (cs : Cs), chkEs c sc cs es xs = true → ∀ ρ st r, evEs cl es ρ st = some r → r.1.length = xs.length
  | .nil, [], _, _, _, _, ρ, st, r, h => by
    rw [evEs] at h
    cases h
    rfl
  | .nil, _ :: _, _, _, _, h, _, _, _, _ => by simp [chkEs] at h
  | .cons e es, [], _, _, _, h, _, _, _, _ => by simp [chkEs] at h
  | .cons e es, x :: xs, c, sc, cs, h, ρ, st, r, q => by
    rw [evEs] at q
    obtain ⟨d, s1, e1, q⟩ := bnd_eq q
    obtain ⟨ds, s2, e2, q⟩ := bnd_eq q
    cases q
    have h' : (notStar x = true ∧ chkE c sc cs e x = true) ∧ chkEs c sc cs es xs = true := by simpa [chkEs] using h
    have := evEs_len cl es xs c sc cs h'.2 ρ s1 _ e2
    simpa using this
theorem con_pe {c : Tb} {cl : Cl} {ps : Nat → List Str} {k : Nat} {sc : Scope} {cs : Cs} {X : Cx} (g : Good c cl ps k sc cs X) {d : D} {e : Expr} (h : conB c sc d e = true) : PE X e (T X.K fun _ st => some (d, st)) := by
  have fin : ∀ {v : V}, PE X e (tC v) → (∀ m F H, RD X.K m F H d v) → PE X e (T X.K fun _ st => some (d, st)) := fun {v} h r => h.imp fun σ H Q q => by
    obtain ⟨ρ, st, m, F, d', st', re, rs, e', q⟩ := q
    cases e'
    exact q v H m F Gro.refl rs (r m F H)
  unfold conB at h
  split at h
  · rename_i kk _ _
    cases d with
    | non => cases kk <;> first | exact fin pe_non (fun _ _ _ => .non) | cases h
    | bl b =>
      cases kk with
      | bool b' =>
        have : b = b' := by simpa using h
        subst this
        exact fin pe_bl (fun _ _ _ => .bl b)
      | _ => cases h
    | int i =>
      cases kk with
      | int j =>
        have : i = j := by simpa using h
        subst this
        exact fin pe_int (fun _ _ _ => .int i)
      | _ => cases h
    | str x =>
      cases kk with
      | str y =>
        have : x = y := by simpa using h
        subst this
        exact fin pe_str (fun _ _ _ => .str x)
      | _ => cases h
    | _ => cases kk <;> cases h
  · cases d with
    | int i =>
      simp only [Bool.and_eq_true, decide_eq_true_eq] at h
      obtain ⟨⟨h1, h2⟩, h3⟩ := h
      obtain ⟨t, ht⟩ := g.con _ h3
      exact fin (pe_glob (v := .int i) (gl_of g h1) ht ⟨t, rfl⟩ (plainN_of h2).1) (fun _ _ _ => .int i)
    | _ => cases h
  · cases h
section
variable {c : Tb} {cl : Cl} {ps : Nat → List Str}
/-- an expression is told by the machine; where it may be a test, as a test, too -/
structure OkE (X : Cx) (cl : Cl) (m : E) (e : Expr) : Prop where
  pe : PE X e (T X.K (evE cl m))
  pt : okT m e = true → PT X e (TB X.K (tstC (evE cl m)))
  pw : okT m e = true → ∀ op xs pos, e = .BoolOp op xs pos → PW X e (TB X.K (tstC (evE cl m)))
/-- no test but a plain one -/
theorem okE_plain {X : Cx} {m : E} {e : Expr} (h : PE X e (T X.K (evE cl m))) (q : okT m e = plainTest e) : OkE X cl m e := by
  refine ⟨h, fun z => t_plain h (by rw [← q]; exact z), fun z op xs pos ee => ?_⟩
  subst ee
  rw [q] at z
  cases z
theorem evTs_one (m : E) (ρ : Rho) (st : St) : evTs cl (.cons m .nil) ρ st = tstC (evE cl m) ρ st := by
  rw [evTs]
  unfold tstC
  cases evE cl m ρ st with
  | none => rfl
  | some r =>
    obtain ⟨d, s⟩ := r
    simp only [bnd_some]
    cases truth s d with
    | none => rfl
    | some b => cases b <;> simp [evTs, liftO]
mutual
theorem sE : ∀ (m : E) (e : Expr) {k : Nat} {sc : Scope} {cs : Cs} {X : Cx}, Good c cl ps k sc cs X → chkE c sc cs m e = true → OkE X cl m e
  | .var i, e, k, sc, cs, X, g, h => by
    refine okE_plain ?_ rfl
    cases e with
    | Name x p =>
      have h' : (c.N[i]? = some x ∧ visB sc x = true) ∧ plainN x = true := by simpa [chkE] using h
      refine (pe_var (by rw [g.slots]; exact h'.1.1) (vis_of g h'.1.2) (plainN_of h'.2).1 (plainN_of h'.2).2).imp fun σ H Q q => ?_
      obtain ⟨ρ, st, m, F, d, st', re, rs, e', q⟩ := q
      rw [evE] at e'
      split at e'
      · rename_i d' hd
        cases e'
        obtain ⟨v, h1, h2⟩ := re.get i _ hd
        exact ⟨v, h1, q v H m F Gro.refl rs h2⟩
      · cases e'
    | _ => simp [chkE] at h
  | .con d, e, k, sc, cs, X, g, h => by
    have h' : conB c sc d e = true := by simpa [chkE] using h
    exact okE_plain (pe_as (con_pe g h') fun ρ st => by first | (rw [evE]; done) | (rw [evE]; rfl)) rfl
  | .tup es, e, k, sc, cs, X, g, h => by
    refine okE_plain ?_ rfl
    cases e with
    | Tuple xs j p =>
      have h' : xs.length ≤ 1000 ∧ chkEs c sc cs es xs = true := by simpa [chkE] using h
      refine pe_as (e_tup (sEs es xs g h'.2) fun ρ st r q => ?_) fun ρ st => by first | (rw [evE]; done) | (rw [evE]; rfl)
      rw [evEs_len cl es xs c sc cs h'.2 ρ st r q]
      unfold cap
      omega
    | _ => simp [chkE] at h
  | .bin o a b, e, k, sc, cs, X, g, h => by
    refine okE_plain ?_ rfl
    cases e with
    | BinOp x op y p =>
      have h' : (op = bopOf o ∧ chkE c sc cs a x = true) ∧ chkE c sc cs b y = true := by simpa [chkE] using h
      obtain ⟨⟨h1, h2⟩, h3⟩ := h'
      subst h1
      exact pe_as (e_bin (sE a x g h2).pe (sE b y g h3).pe) fun ρ st => by first | (rw [evE]; done) | (rw [evE]; rfl)
    | _ => simp [chkE] at h
  | .neg a, e, k, sc, cs, X, g, h => by
    refine okE_plain ?_ rfl
    cases e with
    | UnaryOp u x p =>
      cases u with
      | USub =>
        have h' : chkE c sc cs a x = true := by simpa [chkE] using h
        exact pe_as (e_neg (sE a x g h').pe) fun ρ st => by first | (rw [evE]; done) | (rw [evE]; rfl)
      | _ => simp [chkE] at h
    | _ => simp [chkE] at h
  | .not a, e, k, sc, cs, X, g, h => by
    cases e with
    | UnaryOp u x p =>
      cases u with
      | Not =>
        have h' : chkE c sc cs a x = true := by simpa [chkE] using h
        have ih := sE a x g h'
        refine ⟨pe_as (e_not ih.pe) fun ρ st => by first | (rw [evE]; done) | (rw [evE]; rfl), fun z => pt_as (t_not (ih.pt (by simpa [okT] using z))) fun ρ st => by first | (rw [evE]; done) | (rw [evE]; rfl), fun z op xs pos ee => by cases ee⟩
      | _ => simp [chkE] at h
    | _ => simp [chkE] at h
  | .cmp o a b, e, k, sc, cs, X, g, h => by
    cases e with
    | Compare x ops ys p =>
      match ops, ys, h with
      | [op], [y], h =>
        have h' : ((op = copOf o ∧ notSet y = true) ∧ chkE c sc cs a x = true) ∧ chkE c sc cs b y = true := by simpa [chkE] using h
        obtain ⟨⟨⟨h1, h2⟩, h3⟩, h4⟩ := h'
        subst h1
        exact ⟨pe_as (e_cmp g (sE a x g h3).pe (sE b y g h4).pe h2) fun ρ st => by first | (rw [evE]; done) | (rw [evE]; rfl), fun z => pt_as (t_cmp g (sE a x g h3).pe (sE b y g h4).pe h2) fun ρ st => by first | (rw [evE]; done) | (rw [evE]; rfl), fun z op xs pos ee => by cases ee⟩
      | [], _, h => simp [chkE] at h
      | [_], [], h => simp [chkE] at h
      | [_], _ :: _ :: _, h => simp [chkE] at h
      | _ :: _ :: _, _, h => simp [chkE] at h
    | _ => simp [chkE] at h
  | .chn o p a b d, e, k, sc, cs, X, g, h => by
    cases e with
    | Compare x ops ys pp =>
      match ops, ys, h with
      | [op, op2], [y, z], h =>
        have h' : ((((op = copOf o ∧ op2 = copOf p) ∧ notSet z = true) ∧ chkE c sc cs a x = true) ∧ chkE c sc cs b y = true) ∧ chkE c sc cs d z = true := by simpa [chkE] using h
        obtain ⟨⟨⟨⟨⟨h1, h2⟩, h3⟩, h4⟩, h5⟩, h6⟩ := h'
        subst h1 h2
        have i1 := (sE a x g h4).pe
        have i2 := (sE b y g h5).pe
        have i3 := (sE d z g h6).pe
        exact ⟨pe_as (e_chn g i1 i2 i3 h3) fun ρ st => by first | (rw [evE]; done) | (rw [evE]; rfl), fun z => pt_as (t_chn g i1 i2 i3 h3) fun ρ st => by first | (rw [evE]; done) | (rw [evE]; rfl), fun z op xs pos ee => by cases ee⟩
      | [], _, h => simp [chkE] at h
      | [_], _, h => simp [chkE] at h
      | [_, _], [], h => simp [chkE] at h
      | [_, _], [_], h => simp [chkE] at h
      | [_, _], _ :: _ :: _ :: _, h => simp [chkE] at h
      | _ :: _ :: _ :: _, _, h => simp [chkE] at h
    | _ => simp [chkE] at h
  | .and a b, e, k, sc, cs, X, g, h => by
    cases e with
    | BoolOp op xs pos =>
      cases op with
      | And =>
        match xs, h with
        | [x, y], h =>
          have h' : chkE c sc cs a x = true ∧ chkE c sc cs b y = true := by simpa [chkE] using h
          have i1 := sE a x g h'.1
          have i2 := sE b y g h'.2
          refine ⟨pe_as (e_and i1.pe (pe_one i2.pe)) fun ρ st => by first | (rw [evE]; done) | (rw [evE]; rfl), fun z => ?_, fun z op xs pos ee => ?_⟩
          · have z' : okT a x = true ∧ okT b y = true := by simpa [okT] using z
            exact (pw_as (t_and (i1.pt z'.1) (pw_and1 (i2.pt z'.2))) fun ρ st => by first | (rw [evE]; done) | (rw [evE]; rfl)).pt
          · have z' : okT a x = true ∧ okT b y = true := by simpa [okT] using z
            exact pw_as (t_and (i1.pt z'.1) (pw_and1 (i2.pt z'.2))) fun ρ st => by first | (rw [evE]; done) | (rw [evE]; rfl)
        | x :: y :: w :: r, h =>
          have h' : chkE c sc cs a x = true ∧ chkE c sc cs b (.BoolOp .And (y :: w :: r) pos) = true := by simpa [chkE] using h
          have i1 := sE a x g h'.1
          have i2 := sE b _ g h'.2
          refine ⟨pe_as (e_and i1.pe i2.pe) fun ρ st => by first | (rw [evE]; done) | (rw [evE]; rfl), fun z => ?_, fun z op' xs' pos' ee => ?_⟩
          · have z' : okT a x = true ∧ okT b (.BoolOp .And (y :: w :: r) pos) = true := by simpa [okT] using z
            exact (pw_as (t_and (i1.pt z'.1) (i2.pw z'.2 _ _ _ rfl)) fun ρ st => by first | (rw [evE]; done) | (rw [evE]; rfl)).pt
          · have z' : okT a x = true ∧ okT b (.BoolOp .And (y :: w :: r) pos) = true := by simpa [okT] using z
            exact pw_as (t_and (i1.pt z'.1) (i2.pw z'.2 _ _ _ rfl)) fun ρ st => by first | (rw [evE]; done) | (rw [evE]; rfl)
        | [], h => simp [chkE] at h
        | [_], h => simp [chkE] at h
      | Or => simp [chkE] at h
    | _ => simp [chkE] at h
  | .or a b, e, k, sc, cs, X, g, h => by
    cases e with
    | BoolOp op xs pos =>
      cases op with
      | Or =>
        match xs, h with
        | [x, y], h =>
          have h' : chkE c sc cs a x = true ∧ chkE c sc cs b y = true := by simpa [chkE] using h
          have i1 := sE a x g h'.1
          have i2 := sE b y g h'.2
          refine ⟨pe_as (e_or i1.pe (pe_one i2.pe)) fun ρ st => by first | (rw [evE]; done) | (rw [evE]; rfl), fun z => ?_, fun z op xs pos ee => ?_⟩
          · have z' : okT a x = true ∧ okT b y = true := by simpa [okT] using z
            exact (pw_as (t_or (i1.pt z'.1) (pw_or1 (i2.pt z'.2))) fun ρ st => by first | (rw [evE]; done) | (rw [evE]; rfl)).pt
          · have z' : okT a x = true ∧ okT b y = true := by simpa [okT] using z
            exact pw_as (t_or (i1.pt z'.1) (pw_or1 (i2.pt z'.2))) fun ρ st => by first | (rw [evE]; done) | (rw [evE]; rfl)
        | x :: y :: w :: r, h =>
          have h' : chkE c sc cs a x = true ∧ chkE c sc cs b (.BoolOp .Or (y :: w :: r) pos) = true := by simpa [chkE] using h
          have i1 := sE a x g h'.1
          have i2 := sE b _ g h'.2
          refine ⟨pe_as (e_or i1.pe i2.pe) fun ρ st => by first | (rw [evE]; done) | (rw [evE]; rfl), fun z => ?_, fun z op' xs' pos' ee => ?_⟩
          · have z' : okT a x = true ∧ okT b (.BoolOp .Or (y :: w :: r) pos) = true := by simpa [okT] using z
            exact (pw_as (t_or (i1.pt z'.1) (i2.pw z'.2 _ _ _ rfl)) fun ρ st => by first | (rw [evE]; done) | (rw [evE]; rfl)).pt
          · have z' : okT a x = true ∧ okT b (.BoolOp .Or (y :: w :: r) pos) = true := by simpa [okT] using z
            exact pw_as (t_or (i1.pt z'.1) (i2.pw z'.2 _ _ _ rfl)) fun ρ st => by first | (rw [evE]; done) | (rw [evE]; rfl)
        | [], h => simp [chkE] at h
        | [_], h => simp [chkE] at h
      | And => simp [chkE] at h
    | _ => simp [chkE] at h
  | .ite d a b, e, k, sc, cs, X, g, h => by
    refine okE_plain ?_ rfl
    cases e with
    | IfExp t x y p =>
      have h' : ((okT d t = true ∧ chkE c sc cs d t = true) ∧ chkE c sc cs a x = true) ∧ chkE c sc cs b y = true := by simpa [chkE] using h
      obtain ⟨⟨⟨h1, h2⟩, h3⟩, h4⟩ := h'
      exact pe_as (e_ite ((sE d t g h2).pt h1) (sE a x g h3).pe (sE b y g h4).pe) fun ρ st => by first | (rw [evE]; done) | (rw [evE]; rfl)
    | _ => simp [chkE] at h
  | .call f es, e, k, sc, cs, X, g, h => by
    refine okE_plain ?_ rfl
    rw [chkE] at h
    obtain ⟨x, p, a, as, pos, rfl, h1, h2, h3, h4, h5, h6⟩ := fc_inv h
    exact pe_as (e_call g h1 h2 h3 (sEs es _ g h6) h4 h5) fun ρ st => by first | (rw [evE]; done) | (rw [evE]; rfl)
  | .len a, e, k, sc, cs, X, g, h => by
    refine okE_plain ?_ rfl
    rw [chkE] at h
    obtain ⟨p, x, pos, rfl, h1, h2, h3⟩ := b1_inv h
    exact pe_as (e_len g h1 (sE a x g h3).pe h2) fun ρ st => by first | (rw [evE]; done) | (rw [evE]; rfl)
  | .intf a, e, k, sc, cs, X, g, h => by
    refine okE_plain ?_ rfl
    rw [chkE] at h
    obtain ⟨p, x, pos, rfl, h1, h2, h3⟩ := b1_inv h
    exact pe_as (e_int g h1 (sE a x g h3).pe h2) fun ρ st => by first | (rw [evE]; done) | (rw [evE]; rfl)
  | .isi t a, e, k, sc, cs, X, g, h => by
    refine okE_plain ?_ rfl
    rw [chkE] at h
    obtain ⟨p, x, y, pos, rfl, h1, h2, h3, h4⟩ := b2_inv h
    simp only [Bool.and_eq_true] at h4
    obtain ⟨h5, h6⟩ := h4
    split at h6
    · simp only [Bool.and_eq_true, decide_eq_true_eq] at h6
      obtain ⟨h7, h8⟩ := h6
      subst h7
      exact pe_as (e_isi g h1 h8 (sE a x g h5).pe h2) fun ρ st => by first | (rw [evE]; done) | (rw [evE]; rfl)
    · cases h6
  | .mx a b, e, k, sc, cs, X, g, h => by
    refine okE_plain ?_ rfl
    rw [chkE] at h
    obtain ⟨p, x, y, pos, rfl, h1, h2, h3, h4⟩ := b2_inv h
    simp only [Bool.and_eq_true] at h4
    exact pe_as (e_max g h1 (sE a x g h4.1).pe (sE b y g h4.2).pe h2 h3) fun ρ st => by first | (rw [evE]; done) | (rw [evE]; rfl)
  | .mn a b, e, k, sc, cs, X, g, h => by
    refine okE_plain ?_ rfl
    rw [chkE] at h
    obtain ⟨p, x, y, pos, rfl, h1, h2, h3, h4⟩ := b2_inv h
    simp only [Bool.and_eq_true] at h4
    exact pe_as (e_min g h1 (sE a x g h4.1).pe (sE b y g h4.2).pe h2 h3) fun ρ st => by first | (rw [evE]; done) | (rw [evE]; rfl)
  | .repr a, e, k, sc, cs, X, g, h => by
    refine okE_plain ?_ rfl
    rw [chkE] at h
    obtain ⟨p, x, pos, rfl, h1, h2, h3⟩ := b1_inv h
    exact pe_as (e_repr g h1 (sE a x g h3).pe h2) fun ρ st => by first | (rw [evE]; done) | (rw [evE]; rfl)
  | .tupE a, e, k, sc, cs, X, g, h => by
    refine okE_plain ?_ rfl
    rw [chkE] at h
    obtain ⟨p, x, pos, rfl, h1, h2, h3⟩ := b1_inv h
    exact pe_as (e_tupE g h1 (sE a x g h3).pe h2) fun ρ st => by first | (rw [evE]; done) | (rw [evE]; rfl)
  | .tupL l, e, k, sc, cs, X, g, h => by
    refine okE_plain ?_ rfl
    rw [chkE] at h
    obtain ⟨p, x, pos, rfl, h1, h2, h3⟩ := b1_inv h
    exact pe_as (e_tupL g h1 (sL l x g h3) h2) fun ρ st => by first | (rw [evE]; done) | (rw [evE]; rfl)
  | .tupR a, e, k, sc, cs, X, g, h => by
    refine okE_plain ?_ rfl
    rw [chkE] at h
    obtain ⟨p, x, pos, rfl, h1, h2, h3⟩ := b1_inv h
    obtain ⟨p2, y, pos2, rfl, h4, h5, h6⟩ := b1_inv h3
    exact pe_as (e_tupR g h1 h4 (sE a y g h6).pe h5) fun ρ st => by first | (rw [evE]; done) | (rw [evE]; rfl)
  | .allL l, e, k, sc, cs, X, g, h => by
    refine okE_plain ?_ rfl
    rw [chkE] at h
    obtain ⟨p, x, pos, rfl, h1, h2, h3⟩ := b1_inv h
    exact pe_as (e_all g h1 (sL l x g h3) h2) fun ρ st => by first | (rw [evE]; done) | (rw [evE]; rfl)
  | .anyL l, e, k, sc, cs, X, g, h => by
    refine okE_plain ?_ rfl
    rw [chkE] at h
    obtain ⟨p, x, pos, rfl, h1, h2, h3⟩ := b1_inv h
    exact pe_as (e_any g h1 (sL l x g h3) h2) fun ρ st => by first | (rw [evE]; done) | (rw [evE]; rfl)
  | .lenSet a, e, k, sc, cs, X, g, h => by simp [chkE] at h
  | .minL l, e, k, sc, cs, X, g, h => by
    refine okE_plain ?_ rfl
    rw [chkE] at h
    obtain ⟨p, x, pos, rfl, h1, h2, h3⟩ := b1_inv h
    exact pe_as (e_minL g h1 (sL l x g h3) h2) fun ρ st => by first | (rw [evE]; done) | (rw [evE]; rfl)
  | .idx a i, e, k, sc, cs, X, g, h => by
    refine okE_plain ?_ rfl
    cases e with
    | Subscript x y p =>
      have h' : (notSlice y = true ∧ chkE c sc cs a x = true) ∧ chkE c sc cs i y = true := by simpa [chkE] using h
      exact pe_as (e_idx (sE a x g h'.1.2).pe (sE i y g h'.2).pe h'.1.1) fun ρ st => by first | (rw [evE]; done) | (rw [evE]; rfl)
    | _ => simp [chkE] at h
  | .slice a lo hi, e, k, sc, cs, X, g, h => by
    refine okE_plain ?_ rfl
    cases e with
    | Subscript x y p =>
      cases y with
      | Slice l u stp p2 =>
        cases stp with
        | none =>
          have h' : (chkE c sc cs a x = true ∧ chkO c sc cs lo l = true) ∧ chkO c sc cs hi u = true := by simpa [chkE] using h
          exact pe_as (e_slice (sE a x g h'.1.1).pe (sO lo l g h'.1.2) (sO hi u g h'.2)) fun ρ st => by first | (rw [evE]; done) | (rw [evE]; rfl)
        | some _ => simp [chkE] at h
      | _ => simp [chkE] at h
    | _ => simp [chkE] at h
  | .rev a, e, k, sc, cs, X, g, h => by
    refine okE_plain ?_ rfl
    rw [chkE] at h
    obtain ⟨x, kk, p1, p2, p3, pos, rfl, h1⟩ := rev_inv h
    exact pe_as (e_rev (sE a x g h1).pe) fun ρ st => by first | (rw [evE]; done) | (rw [evE]; rfl)
  | .pop a, e, k, sc, cs, X, g, h => by
    refine okE_plain ?_ rfl
    rw [chkE] at h
    obtain ⟨o, p1, p2, rfl, h1, h2, h3⟩ := m0_inv h
    exact pe_as (e_pop (sE a o g h3).pe h1 h2) fun ρ st => by first | (rw [evE]; done) | (rw [evE]; rfl)
  | .popAt a i, e, k, sc, cs, X, g, h => by
    refine okE_plain ?_ rfl
    rw [chkE] at h
    obtain ⟨o, p1, x, p2, rfl, h1, h2, h3, h4⟩ := m1_inv h
    simp only [Bool.and_eq_true] at h4
    exact pe_as (e_popAt (sE a o g h4.1).pe (sE i x g h4.2).pe h1 h3 h2) fun ρ st => by first | (rw [evE]; done) | (rw [evE]; rfl)
  | .index a i, e, k, sc, cs, X, g, h => by
    refine okE_plain ?_ rfl
    rw [chkE] at h
    obtain ⟨o, p1, x, p2, rfl, h1, h2, h3, h4⟩ := m1_inv h
    simp only [Bool.and_eq_true] at h4
    exact pe_as (e_index (sE a o g h4.1).pe (sE i x g h4.2).pe h1 h3 h2) fun ρ st => by first | (rw [evE]; done) | (rw [evE]; rfl)
  | .get2 a i d, e, k, sc, cs, X, g, h => by
    refine okE_plain ?_ rfl
    rw [chkE] at h
    obtain ⟨o, p1, x, y, p2, rfl, h1, h2, h3, h4, h5⟩ := m2_inv h
    simp only [Bool.and_eq_true] at h5
    exact pe_as (e_get2 g (sE a o g h5.1.1).pe (sE i x g h5.1.2).pe (sE d y g h5.2).pe h1 h3 h4 h2) fun ρ st => by first | (rw [evE]; done) | (rw [evE]; rfl)
  | .dictOf a, e, k, sc, cs, X, g, h => by
    refine okE_plain ?_ rfl
    rw [chkE] at h
    obtain ⟨p, x, pos, rfl, h1, h2, h3⟩ := b1_inv h
    exact pe_as (e_dictOf g h1 (sE a x g h3).pe h2) fun ρ st => by first | (rw [evE]; done) | (rw [evE]; rfl)
  | .frz l, e, k, sc, cs, X, g, h => by
    refine okE_plain ?_ rfl
    rw [chkE] at h
    exact pe_as (e_frz (sL l e g h)) fun ρ st => by first | (rw [evE]; done) | (rw [evE]; rfl)
  | .new l, e, k, sc, cs, X, g, h => by
    refine okE_plain ?_ rfl
    rw [chkE] at h
    exact pe_as (e_new (sL l e g h)) fun ρ st => by first | (rw [evE]; done) | (rw [evE]; rfl)
theorem sEs : ∀ (m : Es) (e : List Expr) {k : Nat} {sc : Scope} {cs : Cs} {X : Cx}, Good c cl ps k sc cs X → chkEs c sc cs m e = true → PA X e (TEs X.K (evEs cl m))
  | .nil, [], k, sc, cs, X, g, h => pa_as a_nil fun ρ st => by first | (rw [evEs]; done) | (rw [evEs]; rfl)
  | .nil, _ :: _, _, _, _, _, _, h => by simp [chkEs] at h
  | .cons e es, [], _, _, _, _, _, h => by simp [chkEs] at h
  | .cons e es, x :: xs, k, sc, cs, X, g, h => by
    have h' : (notStar x = true ∧ chkE c sc cs e x = true) ∧ chkEs c sc cs es xs = true := by simpa [chkEs] using h
    exact pa_as (a_cons (sE e x g h'.1.2).pe (sEs es xs g h'.2) h'.1.1) fun ρ st => by first | (rw [evEs]; done) | (rw [evEs]; rfl)
theorem sO : ∀ (m : OE) (e : Option Expr) {k : Nat} {sc : Scope} {cs : Cs} {X : Cx}, Good c cl ps k sc cs X → chkO c sc cs m e = true → PO X e (TO_ X.K (evO cl m))
  | .none, none, k, sc, cs, X, g, h => po_none.imp fun σ H Q q => by
    obtain ⟨ρ, st, m, F, d, st', re, rs, e', q⟩ := q
    rw [evO] at e'
    cases e'
    exact q _ _ _ Gro.refl rs
  | .none, some _, _, _, _, _, _, h => by simp [chkO] at h
  | .some _, none, _, _, _, _, _, h => by simp [chkO] at h
  | .some m, some e, k, sc, cs, X, g, h => by
    have h' : chkE c sc cs m e = true := by simpa [chkO] using h
    refine (po_some (sE m e g h').pe).imp fun σ H Q q => ?_
    obtain ⟨ρ, st, mm, F, d, st', re, rs, e', q⟩ := q
    rw [evO] at e'
    obtain ⟨x, st1, e1, e'⟩ := bnd_eq e'
    refine T.use re rs e1 fun v H1 m1 F1 g1 re1 rs1 d1 => ?_
    cases x with
    | int i =>
      cases e'
      cases d1
      exact ⟨i, rfl, q _ _ _ g1 rs1⟩
    | _ => cases e'
theorem sL : ∀ (m : L) (e : Expr) {k : Nat} {sc : Scope} {cs : Cs} {X : Cx}, Good c cl ps k sc cs X → chkL c sc cs m e = true → PE X e (TL X.K (evL cl m))
  | .disp es, e, k, sc, cs, X, g, h => by
    cases e with
    | List xs p =>
      have h' : xs.length ≤ 1000 ∧ chkEs c sc cs es xs = true := by simpa [chkL] using h
      refine pl_as (l_disp (sEs es xs g h'.2) fun ρ st r q => ?_) fun ρ st => by first | (rw [evL]; done) | (rw [evL]; rfl)
      rw [evEs_len cl es xs c sc cs h'.2 ρ st r q]
      unfold cap
      omega
    | _ => simp [chkL] at h
  | .comp gs, e, k, sc, cs, X, g, h => by
    cases e with
    | ListComp elt gens scope pos =>
      have h' : chkGs c sc cs gs elt gens scope = true := by simpa [chkL] using h
      exact pl_as (sGs gs elt gens scope pos g h') fun ρ st => by first | (rw [evL]; done) | (rw [evL]; rfl)
    | _ => simp [chkL] at h
  | .ofE a, e, k, sc, cs, X, g, h => by
    rw [chkL] at h
    obtain ⟨p, x, pos, rfl, h1, h2, h3⟩ := b1_inv h
    exact pl_as (l_ofE g h1 (sE a x g h3).pe h2) fun ρ st => by first | (rw [evL]; done) | (rw [evL]; rfl)
  | .ofR a, e, k, sc, cs, X, g, h => by
    rw [chkL] at h
    obtain ⟨p, x, pos, rfl, h1, h2, h3⟩ := b1_inv h
    obtain ⟨p2, y, pos2, rfl, h4, h5, h6⟩ := b1_inv h3
    exact pl_as (l_ofR g h1 h4 (sE a y g h6).pe h5) fun ρ st => by first | (rw [evL]; done) | (rw [evL]; rfl)
  | .add a b, e, k, sc, cs, X, g, h => by
    cases e with
    | BinOp x op y p =>
      cases op with
      | Add =>
        have h' : chkE c sc cs a x = true ∧ chkE c sc cs b y = true := by simpa [chkL] using h
        exact pl_as (l_add (sE a x g h'.1).pe (sE b y g h'.2).pe) fun ρ st => by first | (rw [evL]; done) | (rw [evL]; rfl)
      | _ => simp [chkL] at h
    | _ => simp [chkL] at h
  | .ite d a b, e, k, sc, cs, X, g, h => by
    cases e with
    | IfExp t x y p =>
      have h' : ((okT d t = true ∧ chkE c sc cs d t = true) ∧ chkL c sc cs a x = true) ∧ chkL c sc cs b y = true := by simpa [chkL] using h
      obtain ⟨⟨⟨h1, h2⟩, h3⟩, h4⟩ := h'
      exact pl_as (l_ite ((sE d t g h2).pt h1) (sL a x g h3) (sL b y g h4)) fun ρ st => by first | (rw [evL]; done) | (rw [evL]; rfl)
    | _ => simp [chkL] at h
  | .slice a lo hi, e, k, sc, cs, X, g, h => by
    cases e with
    | Subscript x y p =>
      cases y with
      | Slice l u stp p2 =>
        cases stp with
        | none =>
          have h' : (chkE c sc cs a x = true ∧ chkO c sc cs lo l = true) ∧ chkO c sc cs hi u = true := by simpa [chkL] using h
          exact pl_as (l_slice (sE a x g h'.1.1).pe (sO lo l g h'.1.2) (sO hi u g h'.2)) fun ρ st => by first | (rw [evL]; done) | (rw [evL]; rfl)
        | some _ => simp [chkL] at h
      | _ => simp [chkL] at h
    | _ => simp [chkL] at h
  | .rev a, e, k, sc, cs, X, g, h => by
    rw [chkL] at h
    obtain ⟨x, kk, p1, p2, p3, pos, rfl, h1⟩ := rev_inv h
    exact pl_as (l_rev (sE a x g h1).pe) fun ρ st => by first | (rw [evL]; done) | (rw [evL]; rfl)
  | .call f es, e, k, sc, cs, X, g, h => by
    rw [chkL] at h
    obtain ⟨x, p, a, as, pos, rfl, h1, h2, h3, h4, h5, h6⟩ := fc_inv h
    exact pl_as (l_call g h1 h2 h3 (sEs es _ g h6) h4 h5) fun ρ st => by first | (rw [evL]; done) | (rw [evL]; rfl)
  | .srt a, e, k, sc, cs, X, g, h => by
    rw [chkL] at h
    obtain ⟨p, x, pos, rfl, h1, h2, h3⟩ := b1_inv h
    exact pl_as (l_srt g h1 (sE a x g h3).pe h2) fun ρ st => by first | (rw [evL]; done) | (rw [evL]; rfl)
  | .srtL l, e, k, sc, cs, X, g, h => by
    rw [chkL] at h
    obtain ⟨p, x, pos, rfl, h1, h2, h3⟩ := b1_inv h
    exact pl_as (l_srtL g h1 (sL l x g h3) h2) fun ρ st => by first | (rw [evL]; done) | (rw [evL]; rfl)
  | .srtSet a, e, k, sc, cs, X, g, h => by
    rw [chkL] at h
    obtain ⟨p, x, pos, rfl, h1, h2, h3⟩ := b1_inv h
    obtain ⟨p2, y, pos2, rfl, h4, h5, h6⟩ := b1_inv h3
    exact pl_as (l_srtSet g h1 h4 (sE a y g h6).pe h5) fun ρ st => by first | (rw [evL]; done) | (rw [evL]; rfl)
  | .srtSC gs, e, k, sc, cs, X, g, h => by
    rw [chkL] at h
    simp only [Bool.and_eq_true] at h
    obtain ⟨p, x, pos, rfl, hs1, hs2, h3⟩ := b1_inv h.2
    cases x with
    | SetComp elt gens scope pos2 =>
      cases gs with
      | one _ _ _ _ => exact absurd h.1 (by simp [isTwo])
      | two gt it ifs gt2 it2 ifs2 e =>
        match gens, h3, hs2 with
        | [hh, hh2], h, hs2 =>
          obtain ⟨tg, iter, ifx, asy⟩ := hh
          obtain ⟨tg2, iter2, ifx2, asy2⟩ := hh2
          have h' : ((((((((((asy = 0 ∧ asy2 = 0) ∧ blkC c.N sc scope (ownOf c (gt.slots ++ gt2.slots)) = true) ∧ notSet iter = true) ∧ notSet iter2 = true) ∧ chkG c (relS scope sc) (some scope) gt tg = true) ∧
            chkG c (relS scope sc) (some scope) gt2 tg2 = true) ∧ chkIt c sc cs it tg iter = true) ∧ chkIt c (relS scope sc) (some scope) it2 tg2 iter2 = true) ∧
            chkTs c (relS scope sc) (some scope) ifs ifx = true) ∧ chkTs c (relS scope sc) (some scope) ifs2 ifx2 = true) ∧ chkE c (relS scope sc) (some scope) e elt = true := by simpa [chkGs] using h
          obtain ⟨⟨⟨⟨⟨⟨⟨⟨⟨⟨⟨h1, h1b⟩, h2⟩, h3⟩, h3b⟩, h4⟩, h4b⟩, h5⟩, h5b⟩, h6⟩, h6b⟩, h7⟩ := h'
          subst h1 h1b
          have ok : BlkOk X.N X.env.scope scope (ownOf c (gt.slots ++ gt2.slots)) := by rw [g.slots, g.scope]; exact blkOk_by h2
          have pset := pe_set2 (pos := pos2) (vs1 := gt2.slots) (te := T X.K (evE cl e)) (tt := TB X.K (evTs cl ifs)) (tt1 := TB X.K (evTs cl ifs2)) (g := TGt X.K gt) (g1 := TGt X.K gt2) (wi1 := TIt X.K (evIt cl it2)) g.calm g.nd (sIt it tg iter g h5) ok
            (fun i hi => by rw [own_slots]; exact List.mem_append_right _ hi) (fun x => set_of h3 _ _) (fun env x => set_of h3b _ _) (fun s H C cls fp => ⟨g_ok (g.blk s H C cls fp scope) gt tg h4, sTs ifs ifx (g.blk s H C cls fp scope) h6, sIt it2 tg2 iter2 (g.blk s H C cls fp scope) h5b,
              g_ok (g.blk s H C cls fp scope) gt2 tg2 h4b, sTs ifs2 ifx2 (g.blk s H C cls fp scope) h6b, (sE e elt (g.blk s H C cls fp scope) h7).pe⟩)
          rw [own_slots] at pset
          refine (pe_callB (cr_sortS g.calm) (gl_of g hs1) (g.free "sorted" (by simp [builtinNames])) (by decide +kernel) (pa_cons pset pa_nil rfl) (by decide) (by decide) rfl).imp fun σ H Q q => ?_
          refine tcb1 (set_sub ?_)
          have eq : evL cl (.srtSC (.two gt it ifs gt2 it2 ifs2 e)) = srtSCC (twoC (evIt cl it) gt (evTs cl ifs) (evIt cl it2) gt2 (evTs cl ifs2) (evE cl e)) := by
            funext ρ st
            rw [evL, evGs]
            rfl
          rw [eq] at q
          exact q
        | [], h, _ => simp [chkGs] at h
        | [_], h, _ => simp [chkGs] at h
        | _ :: _ :: _ :: _, h, _ => simp [chkGs] at h
    | _ => cases h3
theorem sGs : ∀ (m : Gs) (elt : Expr) (gens : List Comprehension) (scope : Scope) (pos : Pos) {k : Nat} {sc : Scope} {cs : Cs} {X : Cx}, Good c cl ps k sc cs X → chkGs c sc cs m elt gens scope = true → PE X (.ListComp elt gens scope pos) (TL X.K (capC (evGs cl m)))
  | .one gt it ifs e, elt, gens, scope, pos, k, sc, cs, X, g, h => by
    match gens, h with
    | [hh], h =>
      obtain ⟨tg, iter, ifx, asy⟩ := hh
      have h' : (((((asy = 0 ∧ blkC c.N sc scope (ownOf c gt.slots) = true) ∧ notSet iter = true) ∧ chkG c (relS scope sc) (some scope) gt tg = true) ∧ chkIt c sc cs it tg iter = true) ∧
        chkTs c (relS scope sc) (some scope) ifs ifx = true) ∧ chkE c (relS scope sc) (some scope) e elt = true := by simpa [chkGs] using h
      obtain ⟨⟨⟨⟨⟨⟨h1, h2⟩, h3⟩, h4⟩, h5⟩, h6⟩, h7⟩ := h'
      subst h1
      have ok : BlkOk X.N X.env.scope scope (ownOf c gt.slots) := by rw [g.slots, g.scope]; exact blkOk_by h2
      have p := pe_lc (pos := pos) (elt := elt) (te := T X.K (evE cl e)) (ifs := ifx) (tt := TB X.K (evTs cl ifs)) (tg := tg) (g := TGt X.K gt) g.calm g.nd (sIt it tg iter g h5) ok (fun s H C cls fp => g_ok (g.blk s H C cls fp scope) gt tg h4) (fun s H C cls fp => sTs ifs ifx (g.blk s H C cls fp scope) h6)
        (fun s H C cls fp => (sE e elt (g.blk s H C cls fp scope) h7).pe) (fun x => set_of h3 _ _)
      rw [own_slots] at p
      refine p.imp fun σ H Q q => one_ok ?_
      have eq : capC (evGs cl (.one gt it ifs e)) = capC (oneC (evIt cl it) gt (evTs cl ifs) (evE cl e)) := by
        congr 1
      rw [eq] at q
      exact q
    | [], h => simp [chkGs] at h
    | _ :: _ :: _, h => simp [chkGs] at h
  | .two gt it ifs gt2 it2 ifs2 e, elt, gens, scope, pos, k, sc, cs, X, g, h => by
    match gens, h with
    | [hh, hh2], h =>
      obtain ⟨tg, iter, ifx, asy⟩ := hh
      obtain ⟨tg2, iter2, ifx2, asy2⟩ := hh2
      have h' : ((((((((((asy = 0 ∧ asy2 = 0) ∧ blkC c.N sc scope (ownOf c (gt.slots ++ gt2.slots)) = true) ∧ notSet iter = true) ∧ notSet iter2 = true) ∧ chkG c (relS scope sc) (some scope) gt tg = true) ∧
        chkG c (relS scope sc) (some scope) gt2 tg2 = true) ∧ chkIt c sc cs it tg iter = true) ∧ chkIt c (relS scope sc) (some scope) it2 tg2 iter2 = true) ∧
        chkTs c (relS scope sc) (some scope) ifs ifx = true) ∧ chkTs c (relS scope sc) (some scope) ifs2 ifx2 = true) ∧ chkE c (relS scope sc) (some scope) e elt = true := by simpa [chkGs] using h
      obtain ⟨⟨⟨⟨⟨⟨⟨⟨⟨⟨⟨h1, h1b⟩, h2⟩, h3⟩, h3b⟩, h4⟩, h4b⟩, h5⟩, h5b⟩, h6⟩, h6b⟩, h7⟩ := h'
      subst h1 h1b
      have ok : BlkOk X.N X.env.scope scope (ownOf c (gt.slots ++ gt2.slots)) := by rw [g.slots, g.scope]; exact blkOk_by h2
      have p := pe_lc2 (pos := pos) (vs1 := gt2.slots) (elt := elt) (te := T X.K (evE cl e)) (ifs := ifx) (tt := TB X.K (evTs cl ifs)) (tg := tg) (g := TGt X.K gt) (ifs1 := ifx2) (tt1 := TB X.K (evTs cl ifs2)) (tg1 := tg2) (g1 := TGt X.K gt2) (iter1 := iter2) (wi1 := TIt X.K (evIt cl it2)) g.calm g.nd (sIt it tg iter g h5) ok (fun i hi => by rw [own_slots]; exact List.mem_append_right _ hi) (fun s H C cls fp => g_ok (g.blk s H C cls fp scope) gt tg h4)
        (fun s H C cls fp => sTs ifs ifx (g.blk s H C cls fp scope) h6) (fun s H C cls fp => sIt it2 tg2 iter2 (g.blk s H C cls fp scope) h5b) (fun s H C cls fp => g_ok (g.blk s H C cls fp scope) gt2 tg2 h4b)
        (fun s H C cls fp => sTs ifs2 ifx2 (g.blk s H C cls fp scope) h6b) (fun s H C cls fp => (sE e elt (g.blk s H C cls fp scope) h7).pe) (fun x => set_of h3 _ _) (fun env x => set_of h3b _ _)
      rw [own_slots] at p
      refine p.imp fun σ H Q q => two_ok ?_
      have eq : capC (evGs cl (.two gt it ifs gt2 it2 ifs2 e)) = capC (twoC (evIt cl it) gt (evTs cl ifs) (evIt cl it2) gt2 (evTs cl ifs2) (evE cl e)) := by
        congr 1
      rw [eq] at q
      exact q
    | [], h => simp [chkGs] at h
    | [_], h => simp [chkGs] at h
    | _ :: _ :: _ :: _, h => simp [chkGs] at h
theorem sTs : ∀ (m : Es) (e : List Expr) {k : Nat} {sc : Scope} {cs : Cs} {X : Cx}, Good c cl ps k sc cs X → chkTs c sc cs m e = true → PTs X e (TB X.K (evTs cl m))
  | .nil, [], k, sc, cs, X, g, h => ⟨fun pins s σ H Q I q => pts_nil.run pins s σ H Q I (by
      obtain ⟨ρ, st, m, F, d, st', re, rs, e', q⟩ := q
      rw [evTs] at e'
      cases e'
      exact q _ _ _ Gro.refl rs)⟩
  | .nil, _ :: _, _, _, _, _, _, h => by simp [chkTs] at h
  | .cons e es, [], _, _, _, _, _, h => by simp [chkTs] at h
  | .cons e es, [x], k, sc, cs, X, g, h => by
    have h' : (okT e x = true ∧ chkE c sc cs e x = true) ∧ isNilE es = true := by simpa [chkTs] using h
    cases es with
    | nil =>
      have p := pts_one ((sE e x g h'.1.2).pt h'.1.1)
      have eq : evTs cl (.cons e .nil) = tstC (evE cl e) := funext fun ρ => funext fun st => evTs_one e ρ st
      rw [eq]
      exact p
    | cons _ _ => simp [isNilE] at h'
  | .cons e es, _ :: _ :: _, _, _, _, _, _, h => by simp [chkTs] at h
theorem sIt : ∀ (m : It) (tg e : Expr) {k : Nat} {sc : Scope} {cs : Cs} {X : Cx}, Good c cl ps k sc cs X → chkIt c sc cs m tg e = true → PI X tg e (TIt X.K (evIt cl m))
  | .seq a, tg, e, k, sc, cs, X, g, h => by
    rw [chkIt] at h
    exact pi_as (it_seq (sE a e g h).pe) fun ρ st => by first | (rw [evIt]; done) | (rw [evIt]; rfl)
  | .lis l, tg, e, k, sc, cs, X, g, h => by
    rw [chkIt] at h
    exact pi_as (it_lis (sL l e g h)) fun ρ st => by first | (rw [evIt]; done) | (rw [evIt]; rfl)
  | .rng1 a, tg, e, k, sc, cs, X, g, h => by
    rw [chkIt] at h
    obtain ⟨p, x, pos, rfl, h1, h2, h3⟩ := b1_inv h
    exact pi_as (it_rng1 g h1 (sE a x g h3).pe h2) fun ρ st => by first | (rw [evIt]; done) | (rw [evIt]; rfl)
  | .rng2 a b, tg, e, k, sc, cs, X, g, h => by
    rw [chkIt] at h
    obtain ⟨p, x, y, pos, rfl, h1, h2, h3, h4⟩ := b2_inv h
    simp only [Bool.and_eq_true] at h4
    exact pi_as (it_rng2 g h1 (sE a x g h4.1).pe (sE b y g h4.2).pe h2 h3) fun ρ st => by first | (rw [evIt]; done) | (rw [evIt]; rfl)
  | .enm a, tg, e, k, sc, cs, X, g, h => by
    rw [chkIt] at h
    simp only [Bool.and_eq_true] at h
    obtain ⟨p, x, pos, rfl, h1, h2, h3⟩ := b1_inv h.2
    cases tg with
    | Tuple elts kk tpos => exact pi_as (it_enm g h1 (sE a x g h3).pe h2) fun ρ st => by first | (rw [evIt]; done) | (rw [evIt]; rfl)
    | _ => exact absurd h.1 (by simp [isTup])
end
end
end MM

end

section
set_option maxRecDepth 100000
set_option maxHeartbeats 4000000
/-! Mini machine: statements. -/
namespace MM
open PySem PySem.Spec PyProof.Rows L2
/-- a flow's end as wished -/
def EndOf (K : PySem.W.Frag) (D : Ends) (m : List Addr) (F : FP) (σ : L2.St) (H : Hp) : Fl → Prop
  | .next => D.nx σ H
  | .brk => D.bk σ H
  | .cont => D.ct σ H
  | .ret d => ∀ v, RD K m F H d v → D.rt v H
def TSt (K : PySem.W.Frag) (c : Rho → St → Option (Fl × Rho × St)) : TS := fun D σ H => ∃ ρ st m F f ρ' st', REnv K m F H ρ σ ∧ RSt K m F H st ∧ c ρ st = some (f, ρ', st') ∧
  ∀ σ' H' m' F', Gro m F H m' F' H' → REnv K m' F' H' ρ' σ' → RSt K m' F' H' st' → EndOf K D m' F' σ' H' f
section
variable {K : PySem.W.Frag} {m : List Addr} {F : FP} {H : Hp} {ρ ρ1 : Rho} {σ : L2.St} {st st1 : St}
theorem TSt.use {c : Rho → St → Option (Fl × Rho × St)} {f : Fl} {D : Ends} (r : REnv K m F H ρ σ) (s : RSt K m F H st) (e : c ρ st = some (f, ρ1, st1))
    (k : ∀ σ' H' m' F', Gro m F H m' F' H' → REnv K m' F' H' ρ1 σ' → RSt K m' F' H' st1 → EndOf K D m' F' σ' H' f) : TSt K c D σ H := ⟨ρ, st, m, F, f, ρ1, st1, r, s, e, k⟩
end
section
variable {X : Cx}
theorem ps_as {c c' : Rho → St → Option (Fl × Rho × St)} {e : Stmt} (h : PS X e (TSt X.K c)) (q : ∀ ρ st, c' ρ st = c ρ st) : PS X e (TSt X.K c') := by
  rw [show c' = c from funext fun ρ => funext fun st => q ρ st]
  exact h
theorem pss_as {c c' : Rho → St → Option (Fl × Rho × St)} {e : List Stmt} (h : PSs X e (TSt X.K c)) (q : ∀ ρ st, c' ρ st = c ρ st) : PSs X e (TSt X.K c') := by
  rw [show c' = c from funext fun ρ => funext fun st => q ρ st]
  exact h
/-! ### what is stored -/
def asgC (ce : Rho → St → R D) (g : G) : Rho → St → Option (Fl × Rho × St) := fun ρ st => match ce ρ st with
  | some (d, st) => match bindG g d ρ with
    | some ρ' => some (.next, ρ', st)
    | none => none
  | none => none
theorem asg_inv {ce : Rho → St → R D} {g : G} {ρ : Rho} {st : St} {r : Fl × Rho × St} (h : asgC ce g ρ st = some r) : ∃ d st1 ρ', ce ρ st = some (d, st1) ∧ bindG g d ρ = some ρ' ∧ r = (.next, ρ', st1) := by
  unfold asgC at h
  split at h
  · split at h
    · cases h
      exact ⟨_, _, _, by assumption, by assumption, rfl⟩
    · cases h
  · cases h
/-- name = value -/
theorem s_name {ce : Rho → St → R D} {te : TE} {i : Nat} {s : Stmt} (h : PS X s (tAsg te (gName i))) (it : ∀ σ H Q, T X.K ce σ H Q → te σ H Q) : PS X s (TSt X.K (asgC ce (.nm i))) := by
  refine h.imp fun D σ H q => ?_
  obtain ⟨ρ, st, m, F, f, ρ', st', re, rs, e, q⟩ := q
  obtain ⟨d, st1, ρ1, e1, e2, e3⟩ := asg_inv e
  cases e3
  refine it σ H _ (T.use re rs e1 fun v H1 m1 F1 g1 re1 rs1 d1 => ?_)
  simp only [bindG] at e2
  split at e2
  · cases e2
    exact q _ _ _ _ g1 (re1.set d1) rs1
  · cases e2
/-- target = value -/
theorem s_tgt {ce : Rho → St → R D} {g : G} {s : Stmt} (h : PS X s (tAsg (T X.K ce) (TGt X.K g))) : PS X s (TSt X.K (asgC ce g)) := by
  refine h.imp fun D σ H q => ?_
  obtain ⟨ρ, st, m, F, f, ρ', st', re, rs, e, q⟩ := q
  obtain ⟨d, st1, ρ1, e1, e2, e3⟩ := asg_inv e
  cases e3
  refine T.use re rs e1 fun v H1 m1 F1 g1 re1 rs1 d1 => ?_
  exact ⟨ρ, m1, F1, d, ρ', re1, d1, e2, fun σ' re' _ => q σ' _ _ _ g1 re' rs1⟩
theorem frz_imp {ca : Rho → St → R (List D)} {σ : L2.St} {H : Hp} {Q : VK} (h : T X.K (fun ρ st => bnd (ca ρ st) fun xs st => some (.lst xs, st)) σ H Q) : TL X.K ca σ H Q := by
  obtain ⟨ρ, st, m, F, d, st', re, rs, e, q⟩ := h
  obtain ⟨x, st1, e1, e⟩ := bnd_eq e
  cases e
  refine TL.use re rs e1 fun a vs H1 m1 F1 g1 re1 rs1 h1 h2 h3 d1 => ?_
  exact q _ _ m1 _ (g1.trans gro_freeze) (rs1.freeze h1 h3) (.lst (.inr rfl) h1 h2 (d1.mono gro_freeze))
theorem new_imp {ca : Rho → St → R (List D)} {σ : L2.St} {H : Hp} {Q : VK} (h : T X.K (fun ρ st => bnd (ca ρ st) fun xs st => some (.ref st.length, st ++ [.lst xs])) σ H Q) : TL X.K ca σ H Q := by
  obtain ⟨ρ, st, m, F, d, st', re, rs, e, q⟩ := h
  obtain ⟨x, st1, e1, e⟩ := bnd_eq e
  cases e
  refine TL.use re rs e1 fun a vs H1 m1 F1 g1 re1 rs1 h1 h2 h3 d1 => ?_
  refine q _ _ (m1 ++ [a]) F1 (g1.trans gro_push) (rs1.push h3 ⟨vs, h1, h2, d1⟩) (.ref ?_)
  rw [← rs1.len, List.getElem?_append_right (Nat.le_refl _), Nat.sub_self]
  rfl
/-- an expression dropped -/
def exC (ce : Rho → St → R D) : Rho → St → Option (Fl × Rho × St) := fun ρ st => match ce ρ st with
  | some (_, st) => some (.next, ρ, st)
  | none => none
theorem s_drop {ce : Rho → St → R D} {s : Stmt} (h : PS X s (tDrop (T X.K ce))) : PS X s (TSt X.K (exC ce)) := by
  refine h.imp fun D σ H q => ?_
  obtain ⟨ρ, st, m, F, f, ρ', st', re, rs, e, q⟩ := q
  unfold exC at e
  split at e
  · rename_i d st1 e1
    cases e
    exact T.use re rs e1 fun v H1 m1 F1 g1 re1 rs1 d1 => q _ _ _ _ g1 re1 rs1
  · cases e
def retC (ce : Rho → St → R D) : Rho → St → Option (Fl × Rho × St) := fun ρ st => match ce ρ st with
  | some (d, st) => some (.ret d, ρ, st)
  | none => none
theorem s_ret {ce : Rho → St → R D} {s : Stmt} (h : PS X s (tRet (T X.K ce))) : PS X s (TSt X.K (retC ce)) := by
  refine h.imp fun D σ H q => ?_
  obtain ⟨ρ, st, m, F, f, ρ', st', re, rs, e, q⟩ := q
  unfold retC at e
  split at e
  · rename_i d st1 e1
    cases e
    exact T.use re rs e1 fun v H1 m1 F1 g1 re1 rs1 d1 => q _ _ _ _ g1 re1 rs1 v d1
  · cases e
def iteSC (ct : Rho → St → R Bool) (ca cb : Rho → St → Option (Fl × Rho × St)) : Rho → St → Option (Fl × Rho × St) := fun ρ st => match ct ρ st with
  | some (true, st) => ca ρ st
  | some (false, st) => cb ρ st
  | none => none
theorem s_ite {ct : Rho → St → R Bool} {ca cb : Rho → St → Option (Fl × Rho × St)} {s : Stmt} (h : PS X s (tIfS (TB X.K ct) (TSt X.K ca) (TSt X.K cb))) : PS X s (TSt X.K (iteSC ct ca cb)) := by
  refine h.imp fun D σ H q => ?_
  obtain ⟨ρ, st, m, F, f, ρ', st', re, rs, e, q⟩ := q
  unfold iteSC at e
  split at e
  · rename_i st1 e1
    refine TB.use re rs e1 fun H1 m1 F1 g1 re1 rs1 => ?_
    rw [if_pos rfl]
    exact ⟨ρ, st1, m1, F1, f, ρ', st', re1, rs1, e, fun σ' H' m' F' g' => q σ' H' m' F' (g1.trans g')⟩
  · rename_i st1 e1
    refine TB.use re rs e1 fun H1 m1 F1 g1 re1 rs1 => ?_
    rw [if_neg (by decide)]
    exact ⟨ρ, st1, m1, F1, f, ρ', st', re1, rs1, e, fun σ' H' m' F' g' => q σ' H' m' F' (g1.trans g')⟩
  · cases e
/-- one behind another -/
def seqSC (ca cb : Rho → St → Option (Fl × Rho × St)) : Rho → St → Option (Fl × Rho × St) := fun ρ st => match ca ρ st with
  | some (.next, ρ', st') => cb ρ' st'
  | some (.ret d, ρ', st') => some (.ret d, ρ', st')
  | some (.brk, ρ', st') => some (.brk, ρ', st')
  | some (.cont, ρ', st') => some (.cont, ρ', st')
  | none => none
theorem s_seq {ca cb : Rho → St → Option (Fl × Rho × St)} {s : List Stmt} (h : PSs X s (tSeq (TSt X.K ca) (TSt X.K cb))) : PSs X s (TSt X.K (seqSC ca cb)) := by
  refine h.imp fun D σ H q => ?_
  obtain ⟨ρ, st, m, F, f, ρ', st', re, rs, e, q⟩ := q
  unfold seqSC at e
  split at e
  · rename_i ρ1 st1 e1
    exact ⟨ρ, st, m, F, .next, ρ1, st1, re, rs, e1, fun σ1 H1 m1 F1 g1 re1 rs1 => ⟨ρ1, st1, m1, F1, f, ρ', st', re1, rs1, e, fun σ' H' m' F' g' => q σ' H' m' F' (g1.trans g')⟩⟩
  · rename_i d ρ1 st1 e1
    cases e
    exact ⟨ρ, st, m, F, .ret d, _, _, re, rs, e1, q⟩
  · rename_i ρ1 st1 e1
    cases e
    exact ⟨ρ, st, m, F, .brk, _, _, re, rs, e1, q⟩
  · rename_i ρ1 st1 e1
    cases e
    exact ⟨ρ, st, m, F, .cont, _, _, re, rs, e1, q⟩
  · cases e
theorem s_flow {f : Fl} {s : Stmt} {t : TS} (h : PS X s t) (i : ∀ D σ H m F, EndOf X.K D m F σ H f → t D σ H) : PS X s (TSt X.K fun ρ st => some (f, ρ, st)) := by
  refine h.imp fun D σ H q => ?_
  obtain ⟨ρ, st, m, F, f, ρ', st', re, rs, e, q⟩ := q
  cases e
  exact i D σ H m F (q σ H m F Gro.refl re rs)
/-! ### loops -/
theorem s_while {ct : Rho → St → R Bool} {cb : Rho → St → Option (Fl × Rho × St)} {W : Nat} {s : Stmt} (h : PS X s (tWhile (TB X.K ct) (TSt X.K cb))) : PS X s (TSt X.K (whlF ct cb W)) := by
  refine h.imp fun D σ H q => ?_
  obtain ⟨ρ0, st0, m0, F0, f, ρ', st', re, rs, e, q⟩ := q
  refine ⟨fun n σ H' => ∃ ρ st m F, Gro m0 F0 H m F H' ∧ REnv X.K m F H' ρ σ ∧ RSt X.K m F H' st ∧ whlF ct cb n ρ st = some (f, ρ', st'), ⟨W, ρ0, st0, m0, F0, Gro.refl, re, rs, e⟩, ?_⟩
  rintro n σ1 H1 ⟨ρ, st, m, F, g1, re1, rs1, e1⟩
  cases n with
  | zero => cases e1
  | succ n =>
    simp only [whlF] at e1
    split at e1
    · rename_i st2 e2
      refine TB.use re1 rs1 e2 fun H2 m2 F2 g2 re2 rs2 => ?_
      rw [if_pos rfl]
      refine ⟨fun σ' H' => ∃ ρ st m F, Gro m0 F0 H m F H' ∧ REnv X.K m F H' ρ σ' ∧ RSt X.K m F H' st ∧ whlF ct cb n ρ st = some (f, ρ', st'), fun σ' H' z => ⟨n, Nat.lt_succ_self n, z⟩, ?_⟩
      split at e1
      · rename_i ρ3 st3 e3
        exact ⟨ρ, st2, m2, F2, .next, ρ3, st3, re2, rs2, e3, fun σ' H' m' F' g' re' rs' => ⟨ρ3, st3, m', F', (g1.trans g2).trans g', re', rs', e1⟩⟩
      · rename_i ρ3 st3 e3
        exact ⟨ρ, st2, m2, F2, .cont, ρ3, st3, re2, rs2, e3, fun σ' H' m' F' g' re' rs' => ⟨ρ3, st3, m', F', (g1.trans g2).trans g', re', rs', e1⟩⟩
      · rename_i ρ3 st3 e3
        cases e1
        exact ⟨ρ, st2, m2, F2, .brk, _, _, re2, rs2, e3, fun σ' H' m' F' g' re' rs' => q σ' H' m' F' ((g1.trans g2).trans g') re' rs'⟩
      · rename_i d ρ3 st3 e3
        cases e1
        exact ⟨ρ, st2, m2, F2, .ret d, _, _, re2, rs2, e3, fun σ' H' m' F' g' re' rs' => q σ' H' m' F' ((g1.trans g2).trans g') re' rs'⟩
      · cases e1
    · rename_i st2 e2
      cases e1
      refine TB.use re1 rs1 e2 fun H2 m2 F2 g2 re2 rs2 => ?_
      rw [if_neg (by decide)]
      exact q σ1 H2 m2 F2 (g1.trans g2) re2 rs2
    · cases e1
def forC (ci : Rho → St → R (List D × Option (Nat × List D))) (g : G) (cb : Rho → St → Option (Fl × Rho × St)) : Rho → St → Option (Fl × Rho × St) := fun ρ st => match ci ρ st with
  | some ((xs, src), st) => forF src (fun x ρ st => match bindG g x ρ with
    | some ρ' => cb ρ' st
    | none => none) xs ρ st
  | none => none
theorem drop_at {α : Type} {xs : List α} {i : Nat} {x : α} (h : xs[i]? = some x) : xs.drop i = x :: xs.drop (i + 1) := by
  obtain ⟨hl, e⟩ := List.getElem?_eq_some_iff.mp h
  rw [List.drop_eq_getElem_cons hl, e]
theorem s_for {ci : Rho → St → R (List D × Option (Nat × List D))} {gt : G} {cb : Rho → St → Option (Fl × Rho × St)} {s : Stmt} (h : PS X s (tFor (TIt X.K ci) (TGt X.K gt) (TSt X.K cb))) : PS X s (TSt X.K (forC ci gt cb)) := by
  refine h.imp fun D σ H q => ?_
  obtain ⟨ρ0, st0, m0, F0, f, ρ', st', re, rs, e, q⟩ := q
  unfold forC at e
  split at e
  · rename_i xs src st1 e1
    generalize hf : (fun (x : MM.D) (ρ : Rho) (st : St) => match bindG gt x ρ with
      | some ρ' => cb ρ' st
      | none => none) = fb at e
    refine ⟨ρ0, st0, m0, F0, xs, src, st1, re, rs, e1, fun J H1 m1 F1 g1 rs1 hxl w => ?_⟩
    refine ⟨fun i n σ H2 => n = xs.length - i ∧ i ≤ xs.length ∧ ∃ ρ st m F, Gro m1 F1 H1 m F H2 ∧ REnv X.K m F H2 ρ σ ∧ RSt X.K m F H2 st ∧ forF src fb (xs.drop i) ρ st = some (f, ρ', st'), ⟨xs.length, rfl, Nat.zero_le _, ρ0, st1, m1, F1, Gro.refl, re.mono g1, rs1, e⟩, ?_⟩
    rintro i n σ2 H2 ⟨rfl, hi, ρ, st, m, F, g2, re2, rs2, e2⟩
    have g2' : Gro m1 ⟨F1.f, F.p⟩ H1 m F H2 := by
      have : F.p = F1.p := g2.pro
      rw [this]
      exact g2
    cases hx : xs[i]? with
    | none =>
      have hl : xs.length ≤ i := List.getElem?_eq_none_iff.mp hx
      rw [List.drop_eq_nil_of_le hl] at e2
      simp only [forF] at e2
      split at e2
      · rename_i hs
        cases e2
        exact .inl ⟨(w m F H2 st' g2' rs2 hs).2 i hl, q σ2 H2 m F (g1.trans g2) re2 rs2⟩
      · cases e2
    | some x =>
      have hl := (List.getElem?_eq_some_iff.mp hx).1
      rw [drop_at hx] at e2
      simp only [forF] at e2
      split at e2
      · rename_i hs
        obtain ⟨go, yl⟩ := (w m F H2 st g2' rs2 hs).1 i x hx
        refine .inr ⟨go, fun σ' H' => ∃ ρ st m F, Gro m1 F1 H1 m F H' ∧ REnv X.K m F H' ρ σ' ∧ RSt X.K m F H' st ∧ forF src fb (xs.drop (i + 1)) ρ st = some (f, ρ', st'), fun σ' H' z => ⟨xs.length - (i + 1), by omega, rfl, hl, z⟩, fun v H3 y => ?_⟩
        obtain ⟨g3, rs3, d3, _⟩ := yl v H3 y
        have g23 := g2.trans g3
        have step : ∀ r, fb x ρ st = some r → ∃ ρ3, bindG gt x ρ = some ρ3 ∧ cb ρ3 st = some r := fun r hr => by
          rw [← hf] at hr
          simp only at hr
          split at hr
          · exact ⟨_, by assumption, hr⟩
          · cases hr
        split at e2
        · rename_i ρ3 st3 e3
          obtain ⟨ρ4, b1, b2⟩ := step _ e3
          exact ⟨ρ, m, F, x, ρ4, re2.mono g3, d3, b1, fun σ' re' _ => ⟨ρ4, st, m, F, .next, ρ3, st3, re', rs3, b2, fun σ5 H5 m5 F5 g5 re5 rs5 => ⟨ρ3, st3, m5, F5, g23.trans g5, re5, rs5, e2⟩⟩⟩
        · rename_i ρ3 st3 e3
          obtain ⟨ρ4, b1, b2⟩ := step _ e3
          exact ⟨ρ, m, F, x, ρ4, re2.mono g3, d3, b1, fun σ' re' _ => ⟨ρ4, st, m, F, .cont, ρ3, st3, re', rs3, b2, fun σ5 H5 m5 F5 g5 re5 rs5 => ⟨ρ3, st3, m5, F5, g23.trans g5, re5, rs5, e2⟩⟩⟩
        · rename_i ρ3 st3 e3
          obtain ⟨ρ4, b1, b2⟩ := step _ e3
          cases e2
          exact ⟨ρ, m, F, x, ρ4, re2.mono g3, d3, b1, fun σ' re' _ => ⟨ρ4, st, m, F, .brk, _, _, re', rs3, b2, fun σ5 H5 m5 F5 g5 re5 rs5 => q σ5 H5 m5 F5 ((g1.trans g23).trans g5) re5 rs5⟩⟩
        · rename_i d ρ3 st3 e3
          obtain ⟨ρ4, b1, b2⟩ := step _ e3
          cases e2
          exact ⟨ρ, m, F, x, ρ4, re2.mono g3, d3, b1, fun σ' re' _ => ⟨ρ4, st, m, F, .ret d, _, _, re', rs3, b2, fun σ5 H5 m5 F5 g5 re5 rs5 => q σ5 H5 m5 F5 ((g1.trans g23).trans g5) re5 rs5⟩⟩
        · cases e2
      · cases e2
  · cases e
end
end MM

end

section
set_option maxRecDepth 100000
set_option maxHeartbeats 4000000
/-! Mini machine: the checker of statements. -/
namespace MM
open PySem PySem.Spec PyProof.Rows L2
def notTup : Expr → Bool
  | .Tuple .. => false
  | _ => true
def isLoc (sc : Scope) (x : Str) : Bool := decide (sc.names.lookup x = some .local)
def isCel (sc : Scope) (x : Str) : Bool := decide (sc.names.lookup x = some .cell)
/-- a comprehension's own names -/
def ownsIt (scope : Scope) (y : Str) : Bool := scope.names.any fun (n, k) => n == y && (k == .local || k == .cell)
section
variable (c : Tb)
def compB (sc : Scope) : E → Expr → List Comprehension → Scope → Bool
  | .frz (.comp gs), elt, gens, scope => chkGs c sc none gs elt gens scope
  | .new (.comp gs), elt, gens, scope => chkGs c sc none gs elt gens scope
  | _, _, _, _ => false
/-- what is stored under a name -/
def chkV (sc : Scope) (y : Str) (py : Pos) (e : E) (v : Expr) : Bool := match v with
  | .ListComp elt gens scope p => (isLoc sc y && (py.line == p.line) && !(ownsIt scope y) && compB c sc e elt gens scope) || (isCel sc y && chkE c sc none e v)
  | v => notComp v && chkE c sc none e v
def parB (sc : Scope) (x y : Str) (px py : Pos) (v w : Expr) : Bool :=
  (isLoc sc x && isLoc sc y && (py.line == px.line) && !(x == y) && !(foldedForSure 8 v && foldedForSure 8 w) && !(constantsAlone 8 v && constantsAlone 8 w)) || !(isLoc sc x && isLoc sc y)
mutual
def chkS (sc : Scope) : S → Stmt → Bool
  | .asg g e, s => match s with
    | .Assign [.Name y py] v _ => (match g with
      | .nm i => decide (c.N[i]? = some y) && locB sc none y && chkV c sc y py e v
      | _ => false)
    | .Assign [.Tuple es kk pp] v _ => notComp v && notTup v && chkG c sc none g (.Tuple es kk pp) && chkE c sc none e v
    | _ => false
  | .par i j a b, s => match s with
    | .Assign [.Tuple [.Name x px, .Name y py] _ _] (.Tuple [v, w] _ _) _ => decide (c.N[i]? = some x) && decide (c.N[j]? = some y) && decide (i ≠ j) && locB sc none x && locB sc none y && notStar v && notStar w &&
      parB sc x y px py v w && chkE c sc none a v && chkE c sc none b w
    | _ => false
  | .setI a i e, s => match s with
    | .Assign [.Subscript o ix _] v _ => notComp v && notSlice ix && chkE c sc none a o && chkE c sc none i ix && chkE c sc none e v
    | _ => false
  | .app a e, s => match s with
    | .Expr x _ => m1 "append" x fun o y => chkE c sc none a o && chkE c sc none e y
    | _ => false
  | .ext a l, s => match s with
    | .Expr x _ => m1 "extend" x fun o y => chkE c sc none a o && chkL c sc none l y
    | _ => false
  | .extE a e, s => match s with
    | .Expr x _ => m1 "extend" x fun o y => chkE c sc none a o && chkE c sc none e y
    | _ => false
  | .ex e, s => match s with
    | .Expr x _ => notComp x && chkE c sc none e x
    | _ => false
  | .ite d a b, s => match s with
    | .If t p q _ => okT d t && chkE c sc none d t && chkSs sc a p && chkSs sc b q
    | _ => false
  | .forS g it b, s => match s with
    | .For tg iter body [] _ => notSet iter && chkIt c sc none it tg iter && chkG c sc none g tg && chkSs sc b body
    | _ => false
  | .whl d b, s => match s with
    | .While t body [] _ => okT d t && chkE c sc none d t && chkSs sc b body
    | _ => false
  | .ret e, s => match s with
    | .Return (some x) _ => chkE c sc none e x
    | _ => false
  | .retN, s => match s with
    | .Return none _ => true
    | _ => false
  | .nev, _ => true
  | .brk, s => match s with
    | .Break _ => true
    | _ => false
  | .cont, s => match s with
    | .Continue _ => true
    | _ => false
  | .pass, s => match s with
    | .Pass _ => true
    | _ => false
def chkSs (sc : Scope) : Ss → List Stmt → Bool
  | .nil, xs => match xs with
    | [] => true
    | _ => false
  | .cons s ss, xs => match xs with
    | x :: r => chkS sc s x && chkSs sc ss r
    | [] => false
end
end
/-! ### the order of stores -/
theorem star2 {v w : Expr} (hv : notStar v = true) (hw : notStar w = true) : ([v, w].any fun | .Starred .. => true | _ => false) = false := by
  have h1 : ∀ {e : Expr}, notStar e = true → (match e with | .Starred .. => true | _ => false) = false := fun {e} h => by
    cases e <;> first | rfl | exact absurd h Bool.false_ne_true
  simp only [List.any_cons, List.any_nil, Bool.or_false]
  rw [h1 hv, h1 hw]
  rfl
theorem sw_par {env : Env} {x y : Str} {px py : Pos} {kt k2 : Nat} {pt pt2 : Pos} {v w : Expr} (hb : env.blockKind = .function) (hx : env.kindOf x = some .local) (hy : env.kindOf y = some .local) (hl : (py.line == px.line) = true) (hxy : (x == y) = false)
    (hv : notStar v = true) (hw : notStar w = true) (h1 : (foldedForSure 8 v && foldedForSure 8 w) = false) (h2 : (constantsAlone 8 v && constantsAlone 8 w) = false) :
    swappedStores [.Tuple [.Name x px, .Name y py] kt pt] (.Tuple [v, w] k2 pt2) env = pure (some [x, y]) := by
  have hf : [v, w].all (foldedForSure 8) = false := by simpa using h1
  have hc : [v, w].all (constantsAlone 8) = false := by simpa using h2
  have hyx : (y == x) = false := by rw [beq_eq_false_iff_ne] at hxy ⊢; exact fun e => hxy e.symm
  have hl' : py.line = px.line := by simpa using hl
  have nm : ([Expr.Name x px, Expr.Name y py].filterMap fun
    | .Name id pos => if env.kindOf id == some .local && pos.line == px.line then some id else none
    | _ => none) = [x, y] := by
    simp [List.filterMap_cons, hx, hy, hl']
  have he : [x, y].eraseDups = [x, y] := by
    simp [List.eraseDups_cons, hyx, hxy]
  unfold swappedStores
  dsimp only
  rw [if_neg (by rw [hb]; simp)]
  split
  · rename_i z
    exact absurd z fun z => Bool.false_ne_true ((star2 hv hw).symm.trans z)
  · simp only [List.head?_cons, Option.map_some, Option.getD_some, Expr.pos]
    simp only [List.filterMap_cons, List.filterMap_nil, hx, hy, hl', beq_self_eq_true, Bool.and_self, if_true, he, hf, hc]
    rfl
theorem sw_off {env : Env} {x y : Str} {px py : Pos} {kt k2 : Nat} {pt pt2 : Pos} {v w : Expr} (h : ¬ (env.kindOf x = some .local ∧ env.kindOf y = some .local)) :
    swappedStores [.Tuple [.Name x px, .Name y py] kt pt] (.Tuple [v, w] k2 pt2) env = pure none := by
  unfold swappedStores
  dsimp only
  split
  · rfl
  · split
    · rfl
    · simp only [List.head?_cons, Option.map_some, Option.getD_some, Expr.pos]
      by_cases hx : env.kindOf x = some .local
      · have ky : (env.kindOf y == some NameKind.local) = false := beq_eq_false_iff_ne.mpr fun hy => h ⟨hx, hy⟩
        have kx : (env.kindOf x == some NameKind.local) = true := beq_iff_eq.mpr hx
        simp only [List.filterMap_cons, List.filterMap_nil, kx, ky, Bool.false_and, Bool.true_and, beq_self_eq_true, Bool.false_eq_true, if_false, if_true]
        rfl
      · have kx : (env.kindOf x == some NameKind.local) = false := beq_eq_false_iff_ne.mpr hx
        cases hc : (env.kindOf y == some NameKind.local && py.line == px.line) with
        | false =>
          simp only [List.filterMap_cons, List.filterMap_nil, kx, hc, Bool.false_and, Bool.false_eq_true, if_false]
          rfl
        | true =>
          simp only [List.filterMap_cons, List.filterMap_nil, kx, hc, Bool.false_and, Bool.false_eq_true, if_false, if_true]
          rfl
end MM

end

section
set_option maxRecDepth 100000
set_option maxHeartbeats 4000000
/-! Mini machine: what the checker of statements lets is so. -/
namespace MM
open PySem PySem.Spec PyProof.Rows L2
section
variable {c : Tb} {cl : Cl} {ps : Nat → List Str}
theorem kind_of {k : Nat} {sc : Scope} {cs : Cs} {X : Cx} (g : Good c cl ps k sc cs X) (x : Str) : X.env.kindOf x = sc.names.lookup x := by
  unfold Env.kindOf
  rw [g.scope]
theorem bk_of {k : Nat} {sc : Scope} {cs : Cs} {X : Cx} (g : Good c cl ps k sc cs X) (hk : sc.kind = .function) : X.env.blockKind = .function := by
  unfold Env.blockKind
  rw [g.scope, hk]
  rfl
theorem sub_of {o i : Expr} {pos : Pos} {env : Env} (h : notSlice i = true) (v : Value) : assign (.Subscript o i pos) env v = (do
      let ov ← holding [v] (eval o env)
      let iv ← holding [v, ov] (eval i env)
      standAt pos
      holding [v, ov, iv] (setItem ov iv v)
      release [v, ov, iv] []) := by
  cases i <;> first | rfl | cases h
/-- name = a comprehension, the value used at once -/
theorem s_setG (gs : Gs) {elt : Expr} {gens : List Comprehension} {scope : Scope} {pos spos py : Pos} {y : Str} {i : Nat} {k : Nat} {sc : Scope} {X : Cx} (g : Good c cl ps k sc none X) (hk : sc.kind = .function) (h : chkGs c sc none gs elt gens scope = true)
    (hi : c.N[i]? = some y) (hl : isLoc sc y = true) (hline : (py.line == pos.line) = true) (hown : ownsIt scope y = false) :
    ∃ te : TE, PS X (.Assign [.Name y py] (.ListComp elt gens scope pos) spos) (tAsg te (gName i)) ∧ ∀ σ H Q, TL X.K (capC (evGs cl gs)) σ H Q → te σ H Q := by
  have hyl : X.env.scope.names.lookup y = some .local := by rw [g.scope]; exact of_decide_eq_true hl
  have hsw : swapsWith (.ListComp elt gens scope pos) (some (.Name y py)) spos.line X.env = pure true := sw_true (by rw [g.scope]; exact hk) hyl hline hown
  have hN : X.N[i]? = some y := by rw [g.slots]; exact hi
  cases gs with
  | one gt it ifs e =>
    match gens, h, hsw with
    | [hh], h, hsw =>
      obtain ⟨tg, iter, ifx, asy⟩ := hh
      have h' : (((((asy = 0 ∧ blkC c.N sc scope (ownOf c gt.slots) = true) ∧ notSet iter = true) ∧ chkG c (relS scope sc) (some scope) gt tg = true) ∧ chkIt c sc none it tg iter = true) ∧
        chkTs c (relS scope sc) (some scope) ifs ifx = true) ∧ chkE c (relS scope sc) (some scope) e elt = true := by simpa [chkGs] using h
      obtain ⟨⟨⟨⟨⟨⟨h1, h2⟩, h3⟩, h4⟩, h5⟩, h6⟩, h7⟩ := h'
      subst h1
      have ok : BlkOk X.N X.env.scope scope (ownOf c gt.slots) := by rw [g.slots, g.scope]; exact blkOk_by h2
      have p := ps_setLc (pos := pos) (spos := spos) (py := py) (elt := elt) (te := T X.K (evE cl e)) (ifs := ifx) (tt := TB X.K (evTs cl ifs)) (tg := tg) (g := TGt X.K gt) g.calm g.nd hN hyl hsw (sIt it tg iter g h5) ok
        (fun s H C cls fp => g_ok (g.blk s H C cls fp scope) gt tg h4) (fun s H C cls fp => sTs ifs ifx (g.blk s H C cls fp scope) h6) (fun s H C cls fp => (sE e elt (g.blk s H C cls fp scope) h7).pe) (fun x => set_of h3 _ _)
      rw [own_slots] at p
      refine ⟨_, p, fun σ H Q q => one_ok ?_⟩
      have eq : capC (evGs cl (.one gt it ifs e)) = capC (oneC (evIt cl it) gt (evTs cl ifs) (evE cl e)) := by
        congr 1
      rw [eq] at q
      exact q
    | [], h, _ => simp [chkGs] at h
    | _ :: _ :: _, h, _ => simp [chkGs] at h
  | two gt it ifs gt2 it2 ifs2 e =>
    match gens, h, hsw with
    | [hh, hh2], h, hsw =>
      obtain ⟨tg, iter, ifx, asy⟩ := hh
      obtain ⟨tg2, iter2, ifx2, asy2⟩ := hh2
      have h' : ((((((((((asy = 0 ∧ asy2 = 0) ∧ blkC c.N sc scope (ownOf c (gt.slots ++ gt2.slots)) = true) ∧ notSet iter = true) ∧ notSet iter2 = true) ∧ chkG c (relS scope sc) (some scope) gt tg = true) ∧
        chkG c (relS scope sc) (some scope) gt2 tg2 = true) ∧ chkIt c sc none it tg iter = true) ∧ chkIt c (relS scope sc) (some scope) it2 tg2 iter2 = true) ∧
        chkTs c (relS scope sc) (some scope) ifs ifx = true) ∧ chkTs c (relS scope sc) (some scope) ifs2 ifx2 = true) ∧ chkE c (relS scope sc) (some scope) e elt = true := by simpa [chkGs] using h
      obtain ⟨⟨⟨⟨⟨⟨⟨⟨⟨⟨⟨h1, h1b⟩, h2⟩, h3⟩, h3b⟩, h4⟩, h4b⟩, h5⟩, h5b⟩, h6⟩, h6b⟩, h7⟩ := h'
      subst h1 h1b
      have ok : BlkOk X.N X.env.scope scope (ownOf c (gt.slots ++ gt2.slots)) := by rw [g.slots, g.scope]; exact blkOk_by h2
      have p := ps_setLc2 (pos := pos) (spos := spos) (py := py) (vs1 := gt2.slots) (elt := elt) (te := T X.K (evE cl e)) (ifs := ifx) (tt := TB X.K (evTs cl ifs)) (tg := tg) (g := TGt X.K gt) (ifs1 := ifx2) (tt1 := TB X.K (evTs cl ifs2)) (tg1 := tg2) (g1 := TGt X.K gt2) (iter1 := iter2)
        (wi1 := TIt X.K (evIt cl it2)) g.calm g.nd hN hyl hsw (sIt it tg iter g h5) ok (fun i hi => by rw [own_slots]; exact List.mem_append_right _ hi) (fun s H C cls fp => g_ok (g.blk s H C cls fp scope) gt tg h4)
        (fun s H C cls fp => sTs ifs ifx (g.blk s H C cls fp scope) h6) (fun s H C cls fp => sIt it2 tg2 iter2 (g.blk s H C cls fp scope) h5b) (fun s H C cls fp => g_ok (g.blk s H C cls fp scope) gt2 tg2 h4b)
        (fun s H C cls fp => sTs ifs2 ifx2 (g.blk s H C cls fp scope) h6b) (fun s H C cls fp => (sE e elt (g.blk s H C cls fp scope) h7).pe) (fun x => set_of h3 _ _) (fun env x => set_of h3b _ _)
      rw [own_slots] at p
      refine ⟨_, p, fun σ H Q q => two_ok ?_⟩
      have eq : capC (evGs cl (.two gt it ifs gt2 it2 ifs2 e)) = capC (twoC (evIt cl it) gt (evTs cl ifs) (evIt cl it2) gt2 (evTs cl ifs2) (evE cl e)) := by
        congr 1
      rw [eq] at q
      exact q
    | [], h, _ => simp [chkGs] at h
    | [_], h, _ => simp [chkGs] at h
    | _ :: _ :: _ :: _, h, _ => simp [chkGs] at h
/-- name = value -/
theorem s_nameV {sc : Scope} {k : Nat} {X : Cx} {i : Nat} {y : Str} {py spos : Pos} {e : E} {v : Expr} (g : Good c cl ps k sc none X) (hk : sc.kind = .function) (hi : c.N[i]? = some y) (hlb : locB sc none y = true) (h : chkV c sc y py e v = true) :
    PS X (.Assign [.Name y py] v spos) (TSt X.K (asgC (evE cl e) (.nm i))) := by
  have hN : X.N[i]? = some y := by rw [g.slots]; exact hi
  obtain ⟨hx, hf⟩ := loc_of g hlb
  have plain : chkE c sc none e v = true → swapsWith v (some (.Name y py)) spos.line X.env = pure false → PS X (.Assign [.Name y py] v spos) (TSt X.K (asgC (evE cl e) (.nm i))) := fun h1 h2 =>
    s_name (ps_set g.nd hN hx (sE e v g h1).pe h2 hf) fun σ H Q q => q
  unfold chkV at h
  split at h
  · rename_i elt gens scope p
    rw [Bool.or_eq_true] at h
    rcases h with h | h
    · simp only [Bool.and_eq_true, Bool.not_eq_true'] at h
      obtain ⟨⟨⟨h1, h2⟩, h3⟩, h4⟩ := h
      unfold compB at h4
      split at h4
      · obtain ⟨te, p1, p2⟩ := s_setG (spos := spos) _ g hk h4 hi h1 h2 h3
        exact s_name p1 fun σ H Q q => p2 σ H Q (frz_imp q)
      · obtain ⟨te, p1, p2⟩ := s_setG (spos := spos) _ g hk h4 hi h1 h2 h3
        exact s_name p1 fun σ H Q q => p2 σ H Q (new_imp q)
      · cases h4
    · rw [Bool.and_eq_true] at h
      refine plain h.2 ?_
      have ky : X.env.kindOf y = some .cell := by rw [kind_of g]; exact of_decide_eq_true h.1
      unfold swapsWith
      simp only [ky]
      have : (some NameKind.cell == some NameKind.local) = false := rfl
      rw [this]
      simp
  · rw [Bool.and_eq_true] at h
    exact plain h.2 (comp_of h.1 _ _ _)
def parC (ca cb : Rho → St → R D) (i j : Nat) : Rho → St → Option (Fl × Rho × St) := fun ρ st => match bnd (ca ρ st) fun x st => bnd (cb ρ st) fun y st => some ((x, y), st) with
  | some ((x, y), st) => if i < ρ.length && j < ρ.length && i != j then some (.next, (ρ.set i (some x)).set j (some y), st) else none
  | none => none
theorem par_inv {ca cb : Rho → St → R D} {i j : Nat} {ρ : Rho} {st : St} {r : Fl × Rho × St} (h : parC ca cb i j ρ st = some r) : ∃ x s1 y s2, ca ρ st = some (x, s1) ∧ cb ρ s1 = some (y, s2) ∧ i < ρ.length ∧ j < ρ.length ∧ i ≠ j ∧ r = (.next, (ρ.set i (some x)).set j (some y), s2) := by
  unfold parC at h
  split at h
  · rename_i x y s2 e
    obtain ⟨x', s1, e1, e⟩ := bnd_eq e
    obtain ⟨y', s3, e2, e⟩ := bnd_eq e
    cases e
    split at h
    · rename_i hc
      simp only [Bool.and_eq_true, decide_eq_true_eq, bne_iff_ne, ne_eq] at hc
      cases h
      exact ⟨_, _, _, _, e1, e2, hc.1.1, hc.1.2, hc.2, rfl⟩
    · cases h
  · cases h
theorem s_par {sc : Scope} {k : Nat} {X : Cx} {i j : Nat} {x y : Str} {px py pos pt pt2 : Pos} {kt k2 : Nat} {a b : E} {v w : Expr} (g : Good c cl ps k sc none X) (hk : sc.kind = .function) (hi : c.N[i]? = some x) (hj : c.N[j]? = some y) (hij : i ≠ j) (hlx : locB sc none x = true) (hly : locB sc none y = true)
    (hv : notStar v = true) (hw : notStar w = true) (hp : parB sc x y px py v w = true) (ha : chkE c sc none a v = true) (hb : chkE c sc none b w = true) :
    PS X (.Assign [.Tuple [.Name x px, .Name y py] kt pt] (.Tuple [v, w] k2 pt2) pos) (TSt X.K (parC (evE cl a) (evE cl b) i j)) := by
  have hA := a_cons (sE a v g ha).pe (a_cons (sE b w g hb).pe a_nil hw) hv
  have hNi : X.N[i]? = some x := by rw [g.slots]; exact hi
  have hNj : X.N[j]? = some y := by rw [g.slots]; exact hj
  unfold parB at hp
  rw [Bool.or_eq_true] at hp
  rcases hp with hp | hp
  · simp only [Bool.and_eq_true, Bool.not_eq_true'] at hp
    obtain ⟨⟨⟨⟨⟨h1, h2⟩, h3⟩, h4⟩, h5⟩, h6⟩ := hp
    have lx : X.env.scope.names.lookup x = some .local := by rw [g.scope]; exact of_decide_eq_true h1
    have ly : X.env.scope.names.lookup y = some .local := by rw [g.scope]; exact of_decide_eq_true h2
    refine (ps_par g.calm g.nd hNi hNj hij lx ly hA (sw_par (bk_of g hk) lx ly h3 h4 hv hw h5 h6) rfl).imp fun D σ H q => ?_
    obtain ⟨ρ, st, m, F, f, ρ', st', re, rs, e, q⟩ := q
    obtain ⟨dx, s1, dy, s2, e1, e2, e3, e4, e5, e6⟩ := par_inv e
    cases e6
    refine TEs.use re rs (show consC (evE cl a) (consC (evE cl b) nilC) ρ st = some ([dx, dy], st') by simp [consC, nilC, e1, e2]) fun vs H1 m1 F1 g1 re1 rs1 d1 => ?_
    cases d1 with
    | cons dv d1 =>
      cases d1 with
      | cons dw d1 =>
        cases d1
        exact ⟨_, _, rfl, q _ _ _ _ g1 ((re1.set dv).set dw) rs1⟩
  · have off : ¬ (X.env.kindOf x = some .local ∧ X.env.kindOf y = some .local) := by
      rw [kind_of g, kind_of g]
      rintro ⟨z1, z2⟩
      simp [isLoc, z1, z2] at hp
    have hT : PE X (.Tuple [v, w] k2 pt2) (T X.K fun ρ st => bnd (consC (evE cl a) (consC (evE cl b) nilC) ρ st) fun ds st => some (.tup ds, st)) := e_tup hA fun ρ st r z => by
      unfold consC at z
      obtain ⟨d, s1, z1, z⟩ := bnd_eq z
      obtain ⟨ds, s2, z2, z⟩ := bnd_eq z
      cases z
      obtain ⟨d2, s3, z3, z2⟩ := bnd_eq z2
      obtain ⟨ds2, s4, z4, z2⟩ := bnd_eq z2
      cases z2
      cases z4
      show 2 ≤ cap
      decide
    have hG : PG X (.Tuple [.Name x px, .Name y py] kt pt) (TGt X.K (.tp (.cons (.nm i) (.cons (.nm j) .nil)))) := g_ok g _ _ (by simp [chkG, chkGl, notStar, hi, hj, hlx, hly])
    refine (s_tgt (ps_asg (pos := pos) hT hG rfl (sw_off off) rfl)).imp fun D σ H q => ?_
    obtain ⟨ρ, st, m, F, f, ρ', st', re, rs, e, q⟩ := q
    obtain ⟨dx, s1, dy, s2, e1, e2, e3, e4, e5, e6⟩ := par_inv e
    cases e6
    refine ⟨ρ, st, m, F, .next, _, st', re, rs, ?_, q⟩
    simp [asgC, consC, nilC, e1, e2, bindG, bindGl, e3, e4]
mutual
theorem sS {W : Nat} : ∀ (m : S) (s : Stmt) {k : Nat} {sc : Scope} {X : Cx}, Good c cl ps k sc none X → sc.kind = .function → chkS c sc m s = true → PS X s (TSt X.K (evS cl W m))
  | .asg gt e, s, k, sc, X, g, hk, h => by
    unfold chkS at h
    split at h
    · rename_i y py v pos
      cases gt with
      | nm i =>
        simp only [Bool.and_eq_true, decide_eq_true_eq] at h
        exact ps_as (s_nameV g hk h.1.1 h.1.2 h.2) fun ρ st => by first | (rw [evS]; done) | (rw [evS]; rfl)
      | tp _ => cases h
    · rename_i es kk pp v pos
      simp only [Bool.and_eq_true] at h
      obtain ⟨⟨⟨h1, h2⟩, h3⟩, h4⟩ := h
      refine ps_as (s_tgt (ps_asg (sE e v g h4).pe (g_ok g gt _ h3) (compS_of h1 _ _) ?_ rfl)) fun ρ st => by first | (rw [evS]; done) | (rw [evS]; rfl)
      cases v <;> first | rfl | cases h2
    · cases h
  | .par i j a b, s, k, sc, X, g, hk, h => by
    unfold chkS at h
    split at h
    · simp only [Bool.and_eq_true, decide_eq_true_eq] at h
      obtain ⟨⟨⟨⟨⟨⟨⟨⟨⟨h1, h2⟩, h3⟩, h4⟩, h5⟩, h6⟩, h7⟩, h8⟩, h9⟩, h10⟩ := h
      exact ps_as (s_par g hk h1 h2 h3 h4 h5 h6 h7 h8 h9 h10) fun ρ st => by first | (rw [evS]; done) | (rw [evS]; rfl)
    · cases h
  | .setI a i e, s, k, sc, X, g, hk, h => by
    unfold chkS at h
    split at h
    · rename_i o ix p v pos
      simp only [Bool.and_eq_true] at h
      obtain ⟨⟨⟨⟨h1, h1b⟩, h2⟩, h3⟩, h4⟩ := h
      refine (ps_asg (sE e v g h4).pe (pg_sub (pos := p) (sE a o g h2).pe (sE i ix g h3).pe set_list (sub_of h1b)) (compS_of h1 _ _) rfl rfl).imp fun D σ H q => ?_
      obtain ⟨ρ, st, m, F, f, ρ', st', re, rs, e', q⟩ := q
      rw [evS] at e'
      split at e'
      · rename_i s2 s3 e0
        cases e'
        obtain ⟨dv, s4, e1, e0⟩ := bnd_eq e0
        obtain ⟨dx, s5, e2, e0⟩ := bnd_eq e0
        obtain ⟨dk, s6, e3, e0⟩ := bnd_eq e0
        obtain ⟨e5, e6⟩ := liftO_eq e0
        obtain ⟨s7, e7, e8⟩ := Option.map_eq_some_iff.mp e5
        have e8' : s7 = st' := e8
        subst e8'
        refine T.use re rs e1 fun v1 H1 m1 F1 g1 re1 rs1 d1 => T.use re1 rs1 e2 fun v2 H2 m2 F2 g2 re2 rs2 d2 => T.use re2 rs2 e3 fun v3 H3 m3 F3 g3 re3 rs3 d3 => ?_
        refine set_m rs3 (d2.mono g3) d3 (d1.mono (g2.trans g3)) e7 fun H' g4 rs4 => ?_
        exact q σ H' m3 F3 (((g1.trans g2).trans g3).trans g4) (re3.mono g4) rs4
      · cases e'
    · cases h
  | .app a e, s, k, sc, X, g, hk, h => by
    unfold chkS at h
    split at h
    · obtain ⟨o, p1, x, p2, rfl, h1, h2, h3, h4⟩ := m1_inv h
      simp only [Bool.and_eq_true] at h4
      refine (s_drop (ps_expr (e_app (sE a o g h4.1).pe (sE e x g h4.2).pe h1 h3 h2) (comp_of rfl _ _ _))).imp fun D σ H q => ?_
      obtain ⟨ρ, st, m, F, f, ρ', st', re, rs, e', q⟩ := q
      rw [evS] at e'
      split at e'
      · rename_i s2 s3 e0
        cases e'
        refine ⟨ρ, st, m, F, .next, _, _, re, rs, ?_, q⟩
        obtain ⟨dx, s4, e1, e0⟩ := bnd_eq e0
        split at e0
        · rename_i hL
          obtain ⟨dv, s5, e2, e0⟩ := bnd_eq e0
          obtain ⟨e5, e6⟩ := liftO_eq e0
          have e5' : appD s5 dx dv = some st' := e5
          simp [exC, appC, e1, hL, e2, e5']
        · cases e0
      · cases e'
    · cases h
  | .ext a l, s, k, sc, X, g, hk, h => by
    unfold chkS at h
    split at h
    · obtain ⟨o, p1, x, p2, rfl, h1, h2, h3, h4⟩ := m1_inv h
      simp only [Bool.and_eq_true] at h4
      refine (s_drop (ps_expr (e_ext (sE a o g h4.1).pe (sL l x g h4.2) h1 h3 h2) (comp_of rfl _ _ _))).imp fun D σ H q => ?_
      obtain ⟨ρ, st, m, F, f, ρ', st', re, rs, e', q⟩ := q
      rw [evS] at e'
      split at e'
      · rename_i s2 s3 e0
        cases e'
        refine ⟨ρ, st, m, F, .next, _, _, re, rs, ?_, q⟩
        obtain ⟨dx, s4, e1, e0⟩ := bnd_eq e0
        split at e0
        · rename_i hL
          obtain ⟨dv, s5, e2, e0⟩ := bnd_eq e0
          obtain ⟨e5, e6⟩ := liftO_eq e0
          have e5' : extD s5 dx dv = some st' := e5
          simp [exC, extC, e1, hL, e2, e5']
        · cases e0
      · cases e'
    · cases h
  | .extE a e, s, k, sc, X, g, hk, h => by
    unfold chkS at h
    split at h
    · obtain ⟨o, p1, x, p2, rfl, h1, h2, h3, h4⟩ := m1_inv h
      simp only [Bool.and_eq_true] at h4
      refine (s_drop (ps_expr (e_extE (sE a o g h4.1).pe (sE e x g h4.2).pe h1 h3 h2) (comp_of rfl _ _ _))).imp fun D σ H q => ?_
      obtain ⟨ρ, st, m, F, f, ρ', st', re, rs, e', q⟩ := q
      rw [evS] at e'
      split at e'
      · rename_i s2 s3 e0
        cases e'
        refine ⟨ρ, st, m, F, .next, _, _, re, rs, ?_, q⟩
        obtain ⟨dx, s4, e1, e0⟩ := bnd_eq e0
        split at e0
        · rename_i hL
          obtain ⟨dv, s5, e2, e0⟩ := bnd_eq e0
          split at e0
          · rename_i ys hy
            obtain ⟨e5, e6⟩ := liftO_eq e0
            have e5' : extD s5 dx ys = some st' := e5
            simp [exC, extEC, e1, hL, e2, hy, e5']
          · cases e0
        · cases e0
      · cases e'
    · cases h
  | .ex e, s, k, sc, X, g, hk, h => by
    unfold chkS at h
    split at h
    · simp only [Bool.and_eq_true] at h
      exact ps_as (s_drop (ps_expr (sE e _ g h.2).pe (comp_of h.1 _ _ _))) fun ρ st => by first | (rw [evS]; done) | (rw [evS]; rfl)
    · cases h
  | .ite d a b, s, k, sc, X, g, hk, h => by
    unfold chkS at h
    split at h
    · simp only [Bool.and_eq_true] at h
      obtain ⟨⟨⟨h1, h2⟩, h3⟩, h4⟩ := h
      exact ps_as (s_ite (ps_if ((sE d _ g h2).pt h1) (sSs (W := W) a _ g hk h3) (sSs (W := W) b _ g hk h4))) fun ρ st => by first | (rw [evS]; done) | (rw [evS]; rfl)
    · cases h
  | .forS gt it b, s, k, sc, X, g, hk, h => by
    unfold chkS at h
    split at h
    · simp only [Bool.and_eq_true] at h
      obtain ⟨⟨⟨h1, h2⟩, h3⟩, h4⟩ := h
      exact ps_as (s_for (ps_for (by rw [g.xe]; exact PassesOwn.never) g.calm (sIt it _ _ g h2) (g_ok g gt _ h3) (sSs (W := W) b _ g hk h4) (fun x => set_of h1 _ _))) fun ρ st => by first | (rw [evS]; done) | (rw [evS]; rfl)
    · cases h
  | .whl d b, s, k, sc, X, g, hk, h => by
    unfold chkS at h
    split at h
    · simp only [Bool.and_eq_true] at h
      obtain ⟨⟨h1, h2⟩, h3⟩ := h
      exact ps_as (s_while (W := W) (ps_while (by rw [g.xe]; exact PassesOwn.never) ((sE d _ g h2).pt h1) (sSs (W := W) b _ g hk h3))) fun ρ st => by first | (rw [evS]; done) | (rw [evS]; rfl)
    · cases h
  | .ret e, s, k, sc, X, g, hk, h => by
    unfold chkS at h
    split at h
    · exact ps_as (s_ret (ps_ret (sE e _ g h).pe)) fun ρ st => by first | (rw [evS]; done) | (rw [evS]; rfl)
    · cases h
  | .retN, s, k, sc, X, g, hk, h => by
    unfold chkS at h
    split at h
    · exact ps_as (s_flow (f := .ret .non) ps_retN fun D σ H m F q => q .non .non) fun ρ st => by first | (rw [evS]; done) | (rw [evS]; rfl)
    · cases h
  | .nev, s, k, sc, X, g, hk, h => ps_never.imp fun D σ H q => by
    obtain ⟨ρ, st, m, F, f, ρ', st', re, rs, e', q⟩ := q
    rw [evS] at e'
    cases e'
  | .brk, s, k, sc, X, g, hk, h => by
    unfold chkS at h
    split at h
    · exact ps_as (s_flow (f := .brk) ps_break fun D σ H m F q => q) fun ρ st => by first | (rw [evS]; done) | (rw [evS]; rfl)
    · cases h
  | .cont, s, k, sc, X, g, hk, h => by
    unfold chkS at h
    split at h
    · exact ps_as (s_flow (f := .cont) ps_continue fun D σ H m F q => q) fun ρ st => by first | (rw [evS]; done) | (rw [evS]; rfl)
    · cases h
  | .pass, s, k, sc, X, g, hk, h => by
    unfold chkS at h
    split at h
    · exact ps_as (s_flow (f := .next) ps_pass fun D σ H m F q => q) fun ρ st => by first | (rw [evS]; done) | (rw [evS]; rfl)
    · cases h
theorem sSs {W : Nat} : ∀ (m : Ss) (s : List Stmt) {k : Nat} {sc : Scope} {X : Cx}, Good c cl ps k sc none X → sc.kind = .function → chkSs c sc m s = true → PSs X s (TSt X.K (evSs cl W m))
  | .nil, [], k, sc, X, g, hk, h => pss_nil.imp fun D σ H q => by
    obtain ⟨ρ, st, m, F, f, ρ', st', re, rs, e', q⟩ := q
    rw [evSs] at e'
    cases e'
    exact q σ H m F Gro.refl re rs
  | .nil, _ :: _, _, _, _, _, _, h => by simp [chkSs] at h
  | .cons s ss, [], _, _, _, _, _, h => by simp [chkSs] at h
  | .cons s ss, x :: xs, k, sc, X, g, hk, h => by
    have h' : chkS c sc s x = true ∧ chkSs c sc ss xs = true := by simpa [chkSs] using h
    exact pss_as (s_seq (pss_cons (sS (W := W) s x g hk h'.1) (sSs (W := W) ss xs g hk h'.2))) fun ρ st => by first | (rw [evSs]; done) | (rw [evSs]; rfl)
end
end
end MM

end

section
set_option maxRecDepth 100000
set_option maxHeartbeats 4000000
/-! Mini machine: functions, the table, the end. -/
namespace MM
open PySem PySem.Spec PyProof.Rows L2

/-! ### one def -/
section
variable {P : Program} {w : World} {K : PySem.W.Frag} {mg : Str → Option Value} {base : Heap} {x qual : Str} {params : Arguments} {body : List Stmt} {scope : Scope} {dvs : List V} {kws : List (Str × V)} {f : Addr} {fd : FuncData}
theorem fn_g {N ps : List Str} {k : Nat} {sp : SpN} (D : FunD K x qual params body scope dvs kws f fd) (S : FnScope N ps scope) (len : ∀ vs H Q, sp vs H Q → vs.length = ps.length)
    (go : ∀ (cdv : Value) (A : Around) (outer : List Env) (s : Shared) (H : Hp) (vs : List V) (Q : VK), Room k (A.deeper (envOfC qual scope s.heap.objs.size f cdv)) → A.guards = some [] → sp vs H Q →
      ∃ t, PSs (cxOf CX0 P w K mg base N qual scope f cdv A outer s H NoE).nox body t ∧ t { nx := fun _ H' => Q .non H', rt := Q } (start N vs) H) : FnG P w K mg base (k + 1) f fd ps sp := by
  obtain ⟨oc, od, dV, kV, doc, pm, an, cdv, ct, osl, efd, lk, hcd, _, _⟩ := D.ex
  subst efd
  refine ⟨len, fun A outer s H args us vs Q room hg env bnds rel q => ?_⟩
  have same : ∀ b o, base.get? b = some o → s.heap.get? b = some o := fun b o z => (env.bs b o z).1
  have kin := env.mod.kin.keeps same
  have wide := env.mod.nolimit.keeps same
  have par : ∀ y ∈ ps.zip us, scope.names.lookup y.1 = some .local ∨ (scope.names.lookup y.1 = some .cell ∧ ((cellsFrom (s.heap.objs.size + 1) scope.names []).lookup y.1).isSome = true) := by
    rintro ⟨n, v⟩ hy
    exact (S.par n (List.of_mem_zip hy).1).imp id fun c => ⟨c, PySem.W.cellsFrom_some _ _ _ (.inl c)⟩
  refine codeAny_call_function room.depth (kin _ _ lk) rfl S.co S.gen rfl (PySem.W.codeRec_of kin hcd) (bnds _ _ _ _ (wpAny_newFunctionEnv_cells S.kind par fun fe he s1 ic => ?_))
  subst he
  refine ⟨wide.keeps ic.toInCall.keep, codeAny_func ?_⟩
  obtain ⟨t, ht, tq⟩ := go cdv A outer s H vs Q (room.deeper _) hg q
  have J := inv_start (CX := CX0) (f := f) (cd := cdv) (qual := qual) (E := NoE) S room.hd env (len _ _ _ q) rel ic
  refine wpAny_mono (ht.nox.run [] s1 _ H _ J tq) (fun fl s2 z => ?_) fun _ _ z => z
  have out : ∀ {σ' : L2.St} {H' : Hp} {v : V} {u : Value}, Inv (cxOf CX0 P w K mg base N qual scope f cdv A outer s H NoE) [] σ' H' s2 → RelV v u → Q v H' → CE outer P w H s Q u s2 := fun {σ' H' v u} I r q =>
    ⟨v, H', I.os, I.bare, I.base, I.hok, r, q⟩
  match fl, z with
  | .ret u, ⟨v, σ', H', I, r, q⟩ => exact out I r q
  | .next, ⟨σ', H', I, q⟩ => exact out (v := .non) (u := .none) I rfl q
  | .brk, ⟨_, _, _, z⟩ => exact z.elim
  | .cont, ⟨_, _, _, z⟩ => exact z.elim
end

/-! ### the table -/
def fsB (N ps : List Str) (sc : Scope) : Bool :=
  decide (sc.kind = .function) && !sc.isCoroutine && !sc.isGenerator && decide N.Nodup && decide (N.take ps.length = ps) && (ps.all fun x => decide (sc.names.lookup x = some .local) || decide (sc.names.lookup x = some .cell)) && (sc.names.all fun y => decide (y.2 ≠ .free))
theorem fs_of {N ps : List Str} {sc : Scope} (h : fsB N ps sc = true) : FnScope N ps sc := by
  unfold fsB at h
  simp only [Bool.and_eq_true, decide_eq_true_eq, Bool.not_eq_true', List.all_eq_true, Bool.or_eq_true] at h
  obtain ⟨⟨⟨⟨⟨⟨h1, h2⟩, h3⟩, h4⟩, h5⟩, h6⟩, h7⟩ := h
  exact ⟨h1, h2, h3, h4, h5, h6, h7⟩
def chkEnt (tb : List Str) (gc : List (Str × Int)) (e : Ent) : Bool :=
  fsB e.N e.ps e.scope && decide (e.N.length = e.fn.ns) && decide (e.ps.length = e.fn.np) && decide (e.fn.np ≤ e.fn.ns) && chkSs ⟨tb, gc, e.N⟩ e.scope e.fn.body e.body
theorem renv_start {K : PySem.W.Frag} {m : List Addr} {F : FP} {H : Hp} {ds : List D} {vs : List V} (r : RDs K m F H ds vs) (n : Nat) : REnv K m F H (ds.map some ++ List.replicate n none) (vs.map some ++ List.replicate n none) := by
  have hl := r.length
  refine ⟨by simp [hl], fun i d e => ?_⟩
  by_cases hi : i < ds.length
  · rw [List.getElem?_append_left (by simpa using hi), List.getElem?_map] at e
    obtain ⟨d', h1, h2⟩ := Option.map_eq_some_iff.mp e
    cases h2
    obtain ⟨v, hv, rv⟩ := r.get h1
    exact ⟨v, by rw [List.getElem?_append_left (by rw [List.length_map, ← hl]; exact hi), List.getElem?_map, hv]; rfl, rv⟩
  · rw [List.getElem?_append_right (by simpa using Nat.le_of_not_lt hi)] at e
    have := List.mem_of_getElem? e
    rw [List.mem_replicate] at this
    cases this.2
/-- what is known of the text's names -/
structure Names (K : PySem.W.Frag) (mg : Str → Option Value) (es : List Ent) (gc : List (Str × Int)) : Prop where
  free : ∀ x ∈ builtinNames, mg x = none
  con : ∀ p ∈ gc, ∃ t, mg p.1 = some (.int p.2 t)
  fn : ∀ (i : Nat) e, es[i]? = some e → ∃ a fd, mg e.x = some (.ref a) ∧ FunD K e.x e.x e.params e.body e.scope [] [] a fd ∧ Binds K fd e.ps []
theorem tab_ok {P : Program} {w : World} {K : PySem.W.Frag} {mg : Str → Option Value} {base : Heap} {es : List Ent} {gc : List (Str × Int)} {W : Nat} (n : Names K mg es gc) (chk : (es.all (chkEnt (es.map (·.x)) gc)) = true) :
    ∀ (k i : Nat) (e : Ent) (a : Addr) (fd : FuncData), es[i]? = some e → FunD K e.x e.x e.params e.body e.scope [] [] a fd → FnG P w K mg base k a fd e.ps (SpF K (callR (es.map (·.fn)) W k) i)
  | 0, i, e, a, fd, he, D => by
    refine ⟨fun vs H Q q => ?_, fun A outer s H args us vs Q _ _ _ _ _ q => ?_⟩
    · obtain ⟨m, F, st, ds, d, st', rs, rd, z, _⟩ := q
      cases z
    · obtain ⟨m, F, st, ds, d, st', rs, rd, z, _⟩ := q
      cases z
  | k + 1, i, e, a, fd, he, D => by
    have hc : chkEnt (es.map (·.x)) gc e = true := List.all_eq_true.mp chk e (List.mem_of_getElem? he)
    unfold chkEnt at hc
    simp only [Bool.and_eq_true, decide_eq_true_eq] at hc
    obtain ⟨⟨⟨⟨h1, h2⟩, h3⟩, h4⟩, h5⟩ := hc
    have S := fs_of h1
    have hfn : (es.map (·.fn))[i]? = some e.fn := by rw [List.getElem?_map, he]; rfl
    have len : ∀ vs H Q, SpF K (callR (es.map (·.fn)) W (k + 1)) i vs H Q → vs.length = e.ps.length := by
      intro vs H Q q
      obtain ⟨m, F, st, ds, d, st', rs, rd, z, _⟩ := q
      simp only [callR, hfn, runF] at z
      split at z
      · rename_i hl
        rw [← rd.length, hl, h3]
      · cases z
    refine fn_g D S len fun cdv A outer s H vs Q room hg q => ?_
    have hlv := len vs H Q q
    obtain ⟨m, F, st, ds, d, st', rs, rd, z, q⟩ := q
    simp only [callR, hfn, runF] at z
    split at z
    · rename_i hl
      have good : Good ⟨es.map (·.x), gc, e.N⟩ (callR (es.map (·.fn)) W k) (fun f => ((es[f]?).map (·.ps)).getD []) k e.scope none (cxOf CX0 P w K mg base e.N e.x e.scope a cdv A outer s H NoE).nox := by
        refine ⟨rfl, S.nd, rfl, rfl, room, hg, rfl, fun x _ => rfl, n.free, n.con, fun f x hf => ?_⟩
        have hf' : (es.map (·.x))[f]? = some x := hf
        rw [List.getElem?_map] at hf'
        obtain ⟨e2, g1, g2⟩ := Option.map_eq_some_iff.mp hf'
        subst g2
        obtain ⟨a2, fd2, m2, D2, b2⟩ := n.fn f e2 g1
        have ep : ((es[f]?).map (·.ps)).getD [] = e2.ps := by rw [g1]; rfl
        exact ⟨a2, fd2, m2, D2.kp, by rw [ep]; exact b2, by rw [ep]; exact tab_ok n chk k f e2 a2 fd2 g1 D2⟩
      have body := sSs (W := W) e.fn.body e.body good S.kind h5
      refine ⟨_, body, ?_⟩
      have hst : L2.start e.N vs = vs.map some ++ List.replicate (e.fn.ns - e.fn.np) none := by
        unfold L2.start
        rw [h2, hlv, h3]
      rw [hst]
      split at z
      · rename_i d' ρ' s2 hz
        cases z
        exact ⟨_, st, m, F, .ret d, ρ', st', renv_start rd _, rs, hz, fun σ' H' m' F' g _ rs' v rv => q v H' m' F' g rs' rv⟩
      · rename_i ρ' s2 hz
        cases z
        exact ⟨_, st, m, F, .next, ρ', st', renv_start rd _, rs, hz, fun σ' H' m' F' g _ rs' => q .non H' m' F' g rs' .non⟩
      · cases z
    · cases z

/-! ### the law's call -/
theorem law_g {P : Program} {w : World} {K : PySem.W.Frag} {mg mb : Str → Option Value} {k : Nat} {fa a : Addr} {fd : FuncData} {x : Str} {cl : Cl} {i : Nat} {s : Shared} {vs : List Value} {ns : List Int}
    (kin : K.In s.heap) (hmg : s.heap.Ns mainGlobals mg) (hmb : s.heap.Ns builtinsNs mb) (hb : ∀ x : Str, x ≠ "__name__" → mb x = bootBuiltins x) (wide : s.heap.NoLimit) (hgens : s.gens = #[])
    (ha : s.heap.get? a = some { cls := .type "list", data := .seq vs.toArray }) (hi : IntsAre vs ns) (hl : ns.length ≤ sizeLine) (room : Room k callerA)
    (G : ∀ base : Heap, FnG P w K mg base k fa fd [x] (SpF K cl i)) (bnd : ∀ (s : Shared) (u : Value), BindsTo s fd ⟨[u], []⟩ [(x, u)]) (law : ∃ st', cl i [.scr ns] [] = some (.bl true, st')) :
    codeAny (model P w) callerA (.call (.ref fa) ⟨[.ref a], []⟩) (fun r s' => r = .ok (.ret (.bool true)) ∧ OldK s.heap s'.heap ∧ s'.os = s.os ∧ AllBare s'.gens) s := by
  have rv := vals_ints hi
  have hcap : ns.length ≤ cap := by rw [cap_line]; exact hl
  suffices main : ∀ H : Hp, RD K [] ⟨fun _ => False, fun _ => False⟩ H (.scr ns) (.ref a) → HOk P w H s.heap → (∀ b u, H b = some u → b = a ∧ K.lookup a = none ∧ ∃ o xs, u = .frz o (.lst xs)) →
      codeAny (model P w) callerA (.call (.ref fa) ⟨[.ref a], []⟩) (fun r s' => r = .ok (.ret (.bool true)) ∧ OldK s.heap s'.heap ∧ s'.os = s.os ∧ AllBare s'.gens) s by
    cases hk : K.lookup a with
    | none =>
      generalize ho : ({ cls := .type "list", data := .seq vs.toArray } : Obj) = o at ha
      refine main (upd (fun _ => none) a (.frz o (.lst (ns.map V.int)))) (.scrF upd_same hcap) (fun b u z => ?_) fun b u z => ?_
      · by_cases e : b = a
        · subst e
          rw [upd_same] at z
          cases z
          exact ⟨ha, by rw [List.length_map]; exact hl, vs, 0, rv, by rw [ha, ← ho]⟩
        · rw [upd_ne e] at z
          cases z
      · by_cases e : b = a
        · subst e
          rw [upd_same] at z
          cases z
          exact ⟨rfl, hk, _, _, rfl⟩
        · rw [upd_ne e] at z
          cases z
    | some o =>
      have z := kin a o hk
      rw [ha] at z
      cases z
      exact main (fun _ => none) (.scrK (fun H' => .inr ⟨_, vs.toArray, _, hk, rfl, rfl, rfl, by rw [List.size_toArray, hi.length]; exact hl, by simpa using rv⟩) hcap) (fun b u z => nomatch z) fun b u z => nomatch z
  intro H rs hok only
  have hid : ∀ {b : Addr} {o : Obj}, s.heap.get? b = some o → H b = none → (hidT s.heap H).get? b = some o := fun z n => hidT_get z n
  have dct : ∀ {b : Addr} {o : Obj} {es : Array DictEntry} {ep : Nat}, s.heap.get? b = some o → o.data = .dict es ep → H b = none := by
    intro b o es ep z d
    cases q : H b with
    | none => rfl
    | some u =>
      obtain ⟨e, _⟩ := only b u q
      subst e
      rw [ha] at z
      cases z
      exact absurd d (fun z => nomatch z)
  have nss : ∀ {b : Addr} {m : Str → Option Value}, s.heap.Ns b m → (hidT s.heap H).Ns b m := by
    rintro b m ⟨o, es, ep, z, d, r⟩
    exact ⟨o, es, ep, hid z (dct z d), d, r⟩
  have kin' : K.In (hidT s.heap H) := by
    intro b o z
    refine hid (kin b o z) ?_
    cases q : H b with
    | none => rfl
    | some u =>
      obtain ⟨e, hk, _⟩ := only b u q
      subst e
      rw [hk] at z
      cases z
  have lim' : (hidT s.heap H).NoLimit := by
    obtain ⟨mc, h1, h2⟩ := wide
    exact ⟨mc, nss h1, h2⟩
  have env : Env0 P w K mg (hidT s.heap H) callerA [] s H :=
    ⟨rfl, ⟨kin', nss hmg, ⟨mb, nss hmb, hb⟩, lim'⟩, fun b o z => of_hidT z, Nat.le_of_eq (hidT_size _ _), trivial, fun b z => absurd z List.not_mem_nil, hok, .of_eq hgens⟩
  obtain ⟨st', e⟩ := law
  have sp : SpF K cl i [.ref a] H (fun v _ => v = .bl true) := ⟨[], ⟨fun _ => False, fun _ => False⟩, [], [.scr ns], .bl true, st',
    ⟨rfl, .nil, fun _ z => z.elim, fun _ _ z => by simp at z, fun _ z => z.elim, fun _ _ _ z => by simp at z⟩, .cons rs .nil, e, fun v H' m' F' _ _ r => by cases r; rfl⟩
  refine codeAny_mono ((G _).run callerA [] s H ⟨[.ref a], []⟩ [.ref a] [.ref a] _ room rfl env (bnd s (.ref a)) (.cons rfl .nil) sp) fun r s2 z => ?_
  match r, z with
  | .error _, z => exact z.elim
  | .ok .next, z => exact z.elim
  | .ok .brk, z => exact z.elim
  | .ok .cont, z => exact z.elim
  | .ok (.ret u), ⟨v, H', os, bare, un, hok', ru, ev⟩ =>
    have ev' : v = .bl true := ev
    subst ev'
    have eu : u = Value.bool true := ru
    subst eu
    refine ⟨rfl, OldK.of_keep fun b o z => ?_, os, bare⟩
    cases q : H b with
    | none => exact un.keep b o z q List.not_mem_nil (by simp)
    | some hu =>
      obtain ⟨_, _, o1, xs, e1⟩ := only b hu q
      subst e1
      have k1 := hok b _ q
      have k2 := hok' b _ (un.frzs b o1 _ q)
      rw [k1.1] at z
      cases z
      exact k2.1
end MM

end

section
set_option maxRecDepth 100000
set_option maxHeartbeats 4000000
/-! Mini machine: from the head's facts to the end. -/
namespace MM
open PySem PySem.Spec PyProof.Rows L2
def EachE (p : Ent → Prop) : List Ent → Prop
  | [] => True
  | e :: r => p e ∧ EachE p r
theorem EachE.at {p : Ent → Prop} : ∀ {l : List Ent} {i : Nat} {e : Ent}, EachE p l → l[i]? = some e → p e
  | [], _, _, _, h => by simp at h
  | _ :: _, 0, _, a, h => by
    simp at h
    subst h
    exact a.1
  | _ :: _, i + 1, _, a, h => EachE.at (i := i) a.2 (by simpa using h)
/-- a def's arguments are bound in order -/
def BindE (e : Ent) : Prop := ∀ (kV doc pm : Value) (an : Option Addr) (cdv ct : Value) (us : List Value), us.length = e.ps.length → bindArgs (PySem.W.fnOf e.x e.x e.params e.body e.scope .none kV doc pm an cdv ct) ⟨us, []⟩ = pure (e.ps.zip us)
section
variable {K : PySem.W.Frag} {h : Heap} {mg : Str → Option Value} {es : List Ent} {gc : List (Str × Int)}
theorem fact_in (c : He.SaysD (faOf es gc) (es.map Ent.d) K) {f : He.Fa} (m : f ∈ faOf es gc) : f.ok K = true := by
  obtain ⟨i, hi⟩ := List.mem_iff_getElem?.mp m
  exact c.fact i hi
theorem def_at (c : He.SaysD (faOf es gc) (es.map Ent.d) K) (X : K.In h) (G : h.Ns mainGlobals mg) {i : Nat} {e : Ent} (he : es[i]? = some e) :
    ∃ a fd, mg e.x = some (.ref a) ∧ FunD K e.x e.x e.params e.body e.scope [] [] a fd := by
  obtain ⟨fd, D⟩ := c.def_ i (d := e.d) (by rw [List.getElem?_map, he]; rfl)
  refine ⟨_, fd, He.glo_ok X G (fact_in c (f := .glo e.x) ?_), D⟩
  exact List.mem_append_left _ (List.mem_map.mpr ⟨e, List.mem_of_getElem? he, rfl⟩)
theorem names_of (c : He.SaysD (faOf es gc) (es.map Ent.d) K) (X : K.In h) (G : h.Ns mainGlobals mg) (b : EachE BindE es) : Names K mg es gc := by
  refine ⟨fun x hx => He.free_ok X G (fact_in c (f := .free x) ?_), fun p hp => He.int_ok X G (fact_in c (f := .int p.1 p.2) ?_), fun i e he => ?_⟩
  · exact List.mem_append_right _ (List.mem_append_left _ (List.mem_map.mpr ⟨x, hx, rfl⟩))
  · exact List.mem_append_right _ (List.mem_append_right _ (List.mem_map.mpr ⟨p, hp, rfl⟩))
  · obtain ⟨a, fd, h1, D⟩ := def_at c X G he
    exact ⟨a, fd, h1, D, D.bindsN fun kV doc pm an cdv ct us hl => EachE.at b he kV doc pm an cdv ct us hl⟩
end
theorem walk_g {l : PySem.W.OpenLaw} {q : Program} {loose : List Str} {XP : (Str → Option Value) → Heap → Prop} {YP : World → Heap → Prop} {d : DefRec} {es : List Ent} {gc : List (Str × Int)} {W k i : Nat} {e : Ent} {x : Str}
    (hn : l.most = some 63) (hdf : d.params.defaults = []) (room : Room k callerA) (hY : ∀ w h, YP w h → ∃ K : PySem.W.Frag, K.In h ∧ He.SaysD (faOf es gc) (es.map Ent.d) K) (b : EachE BindE es) (chk : (es.all (chkEnt (es.map (·.x)) gc)) = true)
    (he : es[i]? = some e) (hx : d.name = e.x) (hps : e.ps = [x]) (law : ∀ ns : List Int, ns.length ≤ 63 → ∃ st', callR (es.map (·.fn)) W k i [.scr ns] [] = some (.bl true, st')) :
    PySem.W.WalkO q loose XP YP l.row.toRowW d [] (fun f vs => PySem.call f vs) := by
  refine Att.attach_call hn hdf fun w s₀ s mg mb fa o pm cd doc a vs ns G Y ho hd hcd hmg hobj hints hlen hg => ?_
  obtain ⟨K, KX, c⟩ := hY _ _ Y
  have n := names_of c KX G.T.g b
  obtain ⟨a', fd, h1, D⟩ := def_at c KX G.T.g he
  rw [hx, h1] at hmg
  cases hmg
  refine law_g (x := x) (fd := fd) (cl := callR (es.map (·.fn)) W k) (i := i) KX G.T.g G.T.b G.T.builtins G.T.nolimit hg hobj hints (Nat.le_trans hlen (by decide)) room (fun base => ?_) (fun s u => ?_) (law ns hlen)
  · have := tab_ok (P := l.prog) (w := w) (base := base) (W := W) n chk k i e fa fd he D
    rw [hps] at this
    exact this
  · have := FunD.bindsA (ps := e.ps) D (fun kV doc pm an cdv ct us hl => EachE.at b he kV doc pm an cdv ct us hl) s [u] (by rw [hps]; rfl)
    rw [hps] at this
    exact this
end MM

end

section
set_option maxRecDepth 100000
set_option maxHeartbeats 0
namespace K56
open PySem PySem.Spec PyProof.Rows L2 MM
theorem chk : (es.all (chkEnt (es.map (·.x)) gc)) = true := by kernel_rfl
theorem bd_0 : BindE (en "is_whole_number" 11 ["thing"] ["thing"] m_is_whole_number) := fun _ _ _ _ _ _ us hl => match us, hl with | [_], _ => rfl
theorem bd_1 : BindE (en "is_between" 12 ["thing", "least", "most"] ["thing", "least", "most"] m_is_between) := fun _ _ _ _ _ _ us hl => match us, hl with | [_, _, _], _ => rfl
theorem bd_2 : BindE (en "is_below" 13 ["thing", "bound"] ["thing", "bound"] m_is_below) := fun _ _ _ _ _ _ us hl => match us, hl with | [_, _], _ => rfl
theorem bd_3 : BindE (en "is_rising" 14 ["thing", "bound", "one", "at"] ["thing", "bound"] m_is_rising) := fun _ _ _ _ _ _ us hl => match us, hl with | [_, _], _ => rfl
theorem bd_4 : BindE (en "is_scheme" 15 ["thing"] ["thing"] m_is_scheme) := fun _ _ _ _ _ _ us hl => match us, hl with | [_], _ => rfl
theorem bd_5 : BindE (en "has_size" 16 ["thing"] ["thing"] m_has_size) := fun _ _ _ _ _ _ us hl => match us, hl with | [_], _ => rfl
theorem bd_6 : BindE (en "first_wrong" 17 ["thing", "index", "scheme"] ["thing"] m_first_wrong) := fun _ _ _ _ _ _ us hl => match us, hl with | [_], _ => rfl
theorem bd_7 : BindE (en "made_book" 18 ["thing", "index"] ["thing"] m_made_book) := fun _ _ _ _ _ _ us hl => match us, hl with | [_], _ => rfl
theorem bd_8 : BindE (en "is_book" 19 ["thing"] ["thing"] m_is_book) := fun _ _ _ _ _ _ us hl => match us, hl with | [_], _ => rfl
theorem bd_9 : BindE (en "columns_of" 20 ["book", "sources", "source", "column"] ["book", "sources"] m_columns_of) := fun _ _ _ _ _ _ us hl => match us, hl with | [_, _], _ => rfl
theorem bd_10 : BindE (en "shared_of" 21 ["book", "i", "j", "column"] ["book", "i", "j"] m_shared_of) := fun _ _ _ _ _ _ us hl => match us, hl with | [_, _, _], _ => rfl
theorem bd_11 : BindE (en "are_neighbours" 22 ["book", "i", "j"] ["book", "i", "j"] m_are_neighbours) := fun _ _ _ _ _ _ us hl => match us, hl with | [_, _, _], _ => rfl
theorem bd_12 : BindE (en "piece_with" 24 ["book", "group", "source", "met", "waiting", "here", "later", "other"] ["book", "group", "source"] m_piece_with) := fun _ _ _ _ _ _ us hl => match us, hl with | [_, _, _], _ => rfl
theorem bd_13 : BindE (en "pieces_of" 25 ["book", "group", "found", "source", "piece"] ["book", "group"] m_pieces_of) := fun _ _ _ _ _ _ us hl => match us, hl with | [_, _], _ => rfl
theorem bd_14 : BindE (en "hangs_of" 26 ["book", "group"] ["book", "group"] m_hangs_of) := fun _ _ _ _ _ _ us hl => match us, hl with | [_, _], _ => rfl
theorem bd_15 : BindE (en "every_source" 27 ["book"] ["book"] m_every_source) := fun _ _ _ _ _ _ us hl => match us, hl with | [_], _ => rfl
theorem bd_16 : BindE (en "want_joined" 29 ["book"] ["book"] m_want_joined) := fun _ _ _ _ _ _ us hl => match us, hl with | [_], _ => rfl
theorem bd_17 : BindE (en "want_group_joined" 30 ["book", "group", "found"] ["book", "group"] m_want_group_joined) := fun _ _ _ _ _ _ us hl => match us, hl with | [_, _], _ => rfl
theorem bd_18 : BindE (en "made_joined" 31 ["thing", "book"] ["thing"] m_made_joined) := fun _ _ _ _ _ _ us hl => match us, hl with | [_], _ => rfl
theorem bd_19 : BindE (en "across_of" 32 ["book", "left", "right", "i", "j"] ["book", "left", "right"] m_across_of) := fun _ _ _ _ _ _ us hl => match us, hl with | [_, _, _], _ => rfl
theorem bd_20 : BindE (en "meet_of" 33 ["book", "left", "right", "others", "column"] ["book", "left", "right"] m_meet_of) := fun _ _ _ _ _ _ us hl => match us, hl with | [_, _, _], _ => rfl
theorem bd_21 : BindE (en "is_good" 34 ["book", "left", "right", "pairs", "both", "i", "j"] ["book", "left", "right"] m_is_good) := fun _ _ _ _ _ _ us hl => match us, hl with | [_, _, _], _ => rfl
theorem bd_22 : BindE (en "is_leaf" 37 ["plan"] ["plan"] m_is_leaf) := fun _ _ _ _ _ _ us hl => match us, hl with | [_], _ => rfl
theorem bd_23 : BindE (en "has_form" 38 ["thing", "many", "deep", "side"] ["thing", "many", "deep"] m_has_form) := fun _ _ _ _ _ _ us hl => match us, hl with | [_, _, _], _ => rfl
theorem bd_24 : BindE (en "row_of" 39 ["plan"] ["plan"] m_row_of) := fun _ _ _ _ _ _ us hl => match us, hl with | [_], _ => rfl
theorem bd_25 : BindE (en "first_twice" 40 ["row", "at", "source"] ["row"] m_first_twice) := fun _ _ _ _ _ _ us hl => match us, hl with | [_], _ => rfl
theorem bd_26 : BindE (en "first_lacking" 41 ["row", "many", "source"] ["row", "many"] m_first_lacking) := fun _ _ _ _ _ _ us hl => match us, hl with | [_, _], _ => rfl
theorem bd_27 : BindE (en "want_parts" 42 ["many", "thing", "twice"] ["many", "thing"] m_want_parts) := fun _ _ _ _ _ _ us hl => match us, hl with | [_, _], _ => rfl
theorem bd_28 : BindE (en "want_part" 43 ["book", "thing"] ["book", "thing"] m_want_part) := fun _ _ _ _ _ _ us hl => match us, hl with | [_, _], _ => rfl
theorem bd_29 : BindE (en "want_plan" 44 ["book", "thing", "lacking"] ["book", "thing"] m_want_plan) := fun _ _ _ _ _ _ us hl => match us, hl with | [_, _], _ => rfl
theorem bd_30 : BindE (en "is_part_of" 45 ["many", "thing"] ["many", "thing"] m_is_part_of) := fun _ _ _ _ _ _ us hl => match us, hl with | [_, _], _ => rfl
theorem bd_31 : BindE (en "is_plan_of" 46 ["book", "thing"] ["book", "thing"] m_is_plan_of) := fun _ _ _ _ _ _ us hl => match us, hl with | [_, _], _ => rfl
theorem bd_32 : BindE (en "leaves_of" 47 ["plan"] ["plan"] m_leaves_of) := fun _ _ _ _ _ _ us hl => match us, hl with | [_], _ => rfl
theorem bd_33 : BindE (en "forks_of" 48 ["plan", "left", "right"] ["plan"] m_forks_of) := fun _ _ _ _ _ _ us hl => match us, hl with | [_], _ => rfl
theorem bd_34 : BindE (en "thirds_of" 50 ["book", "found", "p", "q", "common", "r", "scheme", "had", "column"] ["book"] m_thirds_of) := fun _ _ _ _ _ _ us hl => match us, hl with | [_], _ => rfl
theorem bd_35 : BindE (en "is_shown" 51 ["third", "parts", "p", "q", "r", "part"] ["third", "parts"] m_is_shown) := fun _ _ _ _ _ _ us hl => match us, hl with | [_, _], _ => rfl
theorem bd_36 : BindE (en "thirds" 52 ["book"] ["book"] m_thirds) := fun _ _ _ _ _ _ us hl => match us, hl with | [_], _ => rfl
theorem bd_37 : BindE (en "shows" 53 ["book", "plan", "parts", "left", "right", "third"] ["book", "plan"] m_shows) := fun _ _ _ _ _ _ us hl => match us, hl with | [_, _], _ => rfl
theorem bd_38 : BindE (en "all_good" 55 ["book", "plan", "left", "right"] ["book", "plan"] m_all_good) := fun _ _ _ _ _ _ us hl => match us, hl with | [_, _], _ => rfl
theorem bd_39 : BindE (en "plan_right" 56 ["book", "plan"] ["book", "plan"] m_plan_right) := fun _ _ _ _ _ _ us hl => match us, hl with | [_, _], _ => rfl
theorem bd_40 : BindE (en "is_whole_or_none" 58 ["book", "source", "struck", "had", "column"] ["book", "source", "struck"] m_is_whole_or_none) := fun _ _ _ _ _ _ us hl => match us, hl with | [_, _, _], _ => rfl
theorem bd_41 : BindE (en "are_left_joined" 59 ["book", "i", "j", "struck", "column"] ["book", "i", "j", "struck"] m_are_left_joined) := fun _ _ _ _ _ _ us hl => match us, hl with | [_, _, _, _], _ => rfl
theorem bd_42 : BindE (en "pieces_without" 60 ["book", "group", "struck", "found", "left", "piece", "at", "near", "source"] ["book", "group", "struck"] m_pieces_without) := fun _ _ _ _ _ _ us hl => match us, hl with | [_, _, _], _ => rfl
theorem bd_43 : BindE (en "least_pair" 62 ["book", "group", "pairs", "i", "j"] ["book", "group"] m_least_pair) := fun _ _ _ _ _ _ us hl => match us, hl with | [_, _], _ => rfl
theorem bd_44 : BindE (en "first_outside" 63 ["columns", "others", "column"] ["columns", "others"] m_first_outside) := fun _ _ _ _ _ _ us hl => match us, hl with | [_, _], _ => rfl
theorem bd_45 : BindE (en "ring_of_three" 64 ["book", "s", "t", "r", "both", "xs"] ["book", "s", "t", "r"] m_ring_of_three) := fun _ _ _ _ _ _ us hl => match us, hl with | [_, _, _, _], _ => rfl
theorem bd_46 : BindE (en "way_outside" 65 ["book", "group", "s", "t", "struck", "ways", "waiting", "later", "here", "other", "column"] ["book", "group", "s", "t", "struck"] m_way_outside) := fun _ _ _ _ _ _ us hl => match us, hl with | [_, _, _, _, _], _ => rfl
theorem bd_47 : BindE (en "ring_of_way" 66 ["book", "group", "s", "t", "both", "way", "links", "one", "two"] ["book", "group", "s", "t"] m_ring_of_way) := fun _ _ _ _ _ _ us hl => match us, hl with | [_, _, _, _], _ => rfl
theorem bd_48 : BindE (en "found_in" 67 ["book", "group", "s", "t", "both", "partly", "source", "pieces", "rest", "piece", "sides", "rings", "side"] ["book", "group"] m_found_in) := fun _ _ _ _ _ _ us hl => match us, hl with | [_, _], _ => rfl
theorem bd_49 : BindE (en "plan_within" 68 ["book", "group", "word", "told"] ["book", "group"] m_plan_within) := fun _ _ _ _ _ _ us hl => match us, hl with | [_, _], _ => rfl
theorem bd_50 : BindE (en "any_plan" 70 ["book"] ["book"] m_any_plan) := fun _ _ _ _ _ _ us hl => match us, hl with | [_], _ => rfl
theorem bd_51 : BindE (en "_law_pool" 72 ["_law_script", "_law_k", "_law_cell", "_law_big", "_law_mixed_here"] ["_law_script", "_law_k"] m_law_pool) := fun _ _ _ _ _ _ us hl => match us, hl with | [_, _], _ => rfl
theorem bd_52 : BindE (en "_law_take" 73 ["_law_jar", "_law_top", "_law_drawn"] ["_law_jar", "_law_top"] m_law_take) := fun _ _ _ _ _ _ us hl => match us, hl with | [_, _], _ => rfl
theorem bd_53 : BindE (en "_law_one" 74 ["_law_jar", "_law_things"] ["_law_jar", "_law_things"] m_law_one) := fun _ _ _ _ _ _ us hl => match us, hl with | [_, _], _ => rfl
theorem bd_54 : BindE (en "_law_mixed" 75 ["_law_jar", "_law_things", "_law_left_over", "_law_found", "_law_place"] ["_law_jar", "_law_things"] m_law_mixed) := fun _ _ _ _ _ _ us hl => match us, hl with | [_, _], _ => rfl
theorem bd_55 : BindE (en "_law_rising" 76 ["_law_lists", "_law_found", "_law_one_here", "_law_thing"] ["_law_lists"] m_law_rising) := fun _ _ _ _ _ _ us hl => match us, hl with | [_], _ => rfl
theorem bd_56 : BindE (en "_law_group_columns" 77 ["_law_book", "_law_lot", "_law_i"] ["_law_book", "_law_lot"] m_law_group_columns) := fun _ _ _ _ _ _ us hl => match us, hl with | [_, _], _ => rfl
theorem bd_57 : BindE (en "_law_common_columns" 78 ["_law_book", "_law_i", "_law_j", "_law_c"] ["_law_book", "_law_i", "_law_j"] m_law_common_columns) := fun _ _ _ _ _ _ us hl => match us, hl with | [_, _, _], _ => rfl
theorem bd_58 : BindE (en "_law_are_near" 79 ["_law_book", "_law_i", "_law_j"] ["_law_book", "_law_i", "_law_j"] m_law_are_near) := fun _ _ _ _ _ _ us hl => match us, hl with | [_, _, _], _ => rfl
theorem bd_59 : BindE (en "_law_all_sources" 80 ["_law_book", "_law_i"] ["_law_book"] m_law_all_sources) := fun _ _ _ _ _ _ us hl => match us, hl with | [_], _ => rfl
theorem bd_60 : BindE (en "_law_scheme" 81 ["_law_jar", "_law_wide", "_law_most", "_law_lot", "_law_c"] ["_law_jar", "_law_wide", "_law_most"] m_law_scheme) := fun _ _ _ _ _ _ us hl => match us, hl with | [_, _, _], _ => rfl
theorem bd_61 : BindE (en "_law_hung_book" 82 ["_law_jar", "_law_most", "_law_wide", "_law_found", "_law_i", "_law_link"] ["_law_jar", "_law_most", "_law_wide"] m_law_hung_book) := fun _ _ _ _ _ _ us hl => match us, hl with | [_, _, _], _ => rfl
theorem bd_62 : BindE (en "_law_fellow_columns" 83 ["_law_book", "_law_i", "_law_j", "_law_c"] ["_law_book", "_law_i"] m_law_fellow_columns) := fun _ _ _ _ _ _ us hl => match us, hl with | [_, _], _ => rfl
theorem bd_63 : BindE (en "_law_same_columns" 84 ["_law_jar", "_law_book", "_law_rows", "_law_drawn", "_law_lot", "_law_row"] ["_law_jar", "_law_book"] m_law_same_columns) := fun _ _ _ _ _ _ us hl => match us, hl with | [_, _], _ => rfl
theorem bd_64 : BindE (en "_law_called" 85 ["_law_book", "_law_pairs", "_law_calls", "_law_c", "_law_scheme_here"] ["_law_book", "_law_pairs"] m_law_called) := fun _ _ _ _ _ _ us hl => match us, hl with | [_, _], _ => rfl
theorem bd_65 : BindE (en "_law_glued" 86 ["_law_jar", "_law_size", "_law_begin", "_law_wide", "_law_c", "_law_low", "_law_one_here", "_law_later", "_law_two", "_law_end", "_law_first", "_law_second", "_law_k"] ["_law_jar", "_law_size", "_law_begin"] m_law_glued) := fun _ _ _ _ _ _ us hl => match us, hl with | [_, _, _], _ => rfl
theorem bd_66 : BindE (en "_law_ringless_book" 87 ["_law_jar", "_law_most", "_law_schemes", "_law_end", "_law_ids", "_law_c", "_law_found", "_law_scheme_here"] ["_law_jar", "_law_most"] m_law_ringless_book) := fun _ _ _ _ _ _ us hl => match us, hl with | [_, _], _ => rfl
theorem bd_67 : BindE (en "_law_ring_book" 88 ["_law_jar", "_law_most", "_law_size", "_law_ids", "_law_c", "_law_found", "_law_i", "_law_row"] ["_law_jar", "_law_most"] m_law_ring_book) := fun _ _ _ _ _ _ us hl => match us, hl with | [_, _], _ => rfl
theorem bd_68 : BindE (en "_law_some_book" 89 ["_law_jar", "_law_most", "_law_drawn"] ["_law_jar", "_law_most"] m_law_some_book) := fun _ _ _ _ _ _ us hl => match us, hl with | [_, _], _ => rfl
theorem bd_69 : BindE (en "_law_tree_leaves" 90 ["_law_tree"] ["_law_tree"] m_law_tree_leaves) := fun _ _ _ _ _ _ us hl => match us, hl with | [_], _ => rfl
theorem bd_70 : BindE (en "_law_tree_forks" 91 ["_law_tree", "_law_own"] ["_law_tree"] m_law_tree_forks) := fun _ _ _ _ _ _ us hl => match us, hl with | [_], _ => rfl
theorem bd_71 : BindE (en "_law_drawn_tree" 92 ["_law_jar", "_law_group", "_law_trees", "_law_one_here", "_law_two"] ["_law_jar", "_law_group"] m_law_drawn_tree) := fun _ _ _ _ _ _ us hl => match us, hl with | [_, _], _ => rfl
theorem bd_72 : BindE (en "_law_all_sides" 93 ["_law_group", "_law_found", "_law_one_here", "_law_lot", "_law_sides"] ["_law_group"] m_law_all_sides) := fun _ _ _ _ _ _ us hl => match us, hl with | [_], _ => rfl
theorem bd_73 : BindE (en "_law_all_trees" 94 ["_law_group", "_law_found", "_law_one_here", "_law_two", "_law_tree", "_law_other"] ["_law_group"] m_law_all_trees) := fun _ _ _ _ _ _ us hl => match us, hl with | [_], _ => rfl
theorem bd_74 : BindE (en "_law_fork_across" 95 ["_law_book", "_law_one_here", "_law_two", "_law_found", "_law_i", "_law_j"] ["_law_book", "_law_one_here", "_law_two"] m_law_fork_across) := fun _ _ _ _ _ _ us hl => match us, hl with | [_, _, _], _ => rfl
theorem bd_75 : BindE (en "_law_all_across" 96 ["_law_book", "_law_tree", "_law_fork"] ["_law_book", "_law_tree"] m_law_all_across) := fun _ _ _ _ _ _ us hl => match us, hl with | [_, _], _ => rfl
theorem bd_76 : BindE (en "_law_fork_meet" 97 ["_law_book", "_law_one_here", "_law_two", "_law_others", "_law_c"] ["_law_book", "_law_one_here", "_law_two"] m_law_fork_meet) := fun _ _ _ _ _ _ us hl => match us, hl with | [_, _, _], _ => rfl
theorem bd_77 : BindE (en "_law_fork_is_good" 98 ["_law_book", "_law_one_here", "_law_two", "_law_pairs", "_law_z", "_law_pair"] ["_law_book", "_law_one_here", "_law_two"] m_law_fork_is_good) := fun _ _ _ _ _ _ us hl => match us, hl with | [_, _, _], _ => rfl
theorem bd_78 : BindE (en "_law_tree_is_right" 99 ["_law_book", "_law_tree", "_law_fork"] ["_law_book", "_law_tree"] m_law_tree_is_right) := fun _ _ _ _ _ _ us hl => match us, hl with | [_, _], _ => rfl
theorem bd_79 : BindE (en "_law_thirds_of" 100 ["_law_book", "_law_found", "_law_p", "_law_q", "_law_z", "_law_r", "_law_has", "_law_c"] ["_law_book"] m_law_thirds_of) := fun _ _ _ _ _ _ us hl => match us, hl with | [_], _ => rfl
theorem bd_80 : BindE (en "_law_least_part" 101 ["_law_tree", "_law_group", "_law_side", "_law_one_here"] ["_law_tree", "_law_group"] m_law_least_part) := fun _ _ _ _ _ _ us hl => match us, hl with | [_, _], _ => rfl
theorem bd_81 : BindE (en "_law_tree_shows" 102 ["_law_book", "_law_tree", "_law_one_here"] ["_law_book", "_law_tree"] m_law_tree_shows) := fun _ _ _ _ _ _ us hl => match us, hl with | [_, _], _ => rfl
theorem bd_82 : BindE (en "_law_joined_tree" 103 ["_law_jar", "_law_book", "_law_group", "_law_trees", "_law_one_here", "_law_lot", "_law_some", "_law_k", "_law_other"] ["_law_jar", "_law_book", "_law_group"] m_law_joined_tree) := fun _ _ _ _ _ _ us hl => match us, hl with | [_, _, _], _ => rfl
theorem bd_83 : BindE (en "_law_tree_told_right" 104 ["_law_book", "_law_tree", "_law_is_ringless", "_law_by_forks", "_law_by_thirds"] ["_law_book", "_law_tree", "_law_is_ringless"] m_law_tree_told_right) := fun _ _ _ _ _ _ us hl => match us, hl with | [_, _, _], _ => rfl
theorem bd_84 : BindE (en "law" 105 ["_law_script", "_law_jar", "_law_book", "_law_group", "_law_own", "_law_trees", "_law_turn", "_law_tree", "_law_other"] ["_law_script"] m_law) := fun _ _ _ _ _ _ us hl => match us, hl with | [_], _ => rfl
theorem bds : EachE BindE es := ⟨bd_0, bd_1, bd_2, bd_3, bd_4, bd_5, bd_6, bd_7, bd_8, bd_9, bd_10, bd_11, bd_12, bd_13, bd_14, bd_15, bd_16, bd_17, bd_18, bd_19, bd_20, bd_21, bd_22, bd_23, bd_24, bd_25, bd_26, bd_27, bd_28, bd_29, bd_30, bd_31, bd_32, bd_33, bd_34, bd_35, bd_36, bd_37, bd_38, bd_39, bd_40, bd_41, bd_42, bd_43, bd_44, bd_45, bd_46, bd_47, bd_48, bd_49, bd_50, bd_51, bd_52, bd_53, bd_54, bd_55, bd_56, bd_57, bd_58, bd_59, bd_60, bd_61, bd_62, bd_63, bd_64, bd_65, bd_66, bd_67, bd_68, bd_69, bd_70, bd_71, bd_72, bd_73, bd_74, bd_75, bd_76, bd_77, bd_78, bd_79, bd_80, bd_81, bd_82, bd_83, bd_84, trivial⟩
end K56

end

set_option maxRecDepth 100000
set_option maxHeartbeats 0
open PySem PySem.W PySem.Calls PyProof.Rows
theorem PySem.Challenge.cw_behindboth_k56_thirds_beside_good_forks_holds : PySem.Challenge.rw_behindboth_k56_thirds_beside_good_forks.Holds :=
  K56.hd fun q loose XP d hd hn =>
  MM.walk_g (l := PySem.Challenge.rw_behindboth_k56_thirds_beside_good_forks) (es := K56.es) (gc := K56.gc) (W := K56.fuel) (k := K56.deep) (i := 84) (x := "_law_script") rfl hd ⟨rfl, by decide, by decide⟩
    (fun _ _ y => y) K56.bds K56.chk rfl hn rfl (fun ns h => K56.plain ns h)
