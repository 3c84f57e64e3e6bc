import PyProof.Rows.All
import HandS.ForMost
import HandS.TupAny
import HandS.TupLe
import HandS.Deep
import HandS.IsInst
import HandS.Zip
import HandS.Exc
import HandS.CallSlots
import HandS.Style
import HandS.Walk
import KE.KeyNested
import HandS.Lambda
import KE.KDictKeyed
import HandS.RaiseMore
import PyProof.Rows.StrTemp
import HandS.Dict
import HandS.DictTup
import HandS.Conv
import HandS.NoneIn
import HandS.TupLen
import KE.KDictPairs
import HandS.TupMul
import KE.SortData
import PyProof.P3Eq
import HandS.TupSets
import HandS.SetFor
import HandS.Set
import HandS.SetKeys
import PyProof.Transfer
import KE.KDictDisplayH
import KE.KRevSl
import KE.KItemsList
import HandS.ListItems
import HandS.StrMore
import KE.GoesNew
import KE.KDictZip
import HandS.WordsExc
import HandS.TryOnly
import HandS.ExcInit
import HandS.ExcField
import HandS.HeadHook1
import HandS.Defaults
import HandS.HeadWalk
import KE.KExcIs
import HandS.ExcIs
import KE.SortKeyHeap
import HandS.HeadHook4
import HandS.HeadEnd
import KE.KStateDown
import Lean
import HandS.ForExc
import HandS.Head0
import HandS.Head1
import HandS.Head2
import HandS.HeadHook2
import HandS.HeadHook3
import PySem.Challenge.RW_dealtables_k21_whole_what_breaks
set_option Elab.async false
set_option linter.all false
set_option maxRecDepth 100000
set_option maxHeartbeats 0
set_option autoImplicit false
/-! A small language of data and its evaluator, in plain Lean: what the defs of the program compute. -/
namespace Dt

/-- the code points of a written text -/
def tx (s : String) : List Nat := s.toList.map Char.toNat
/-- the most that a list, a tuple, a text may hold -/
def SZ : Nat := 16777216

/-- data -/
inductive D where
  | non
  | bl (b : Bool)
  | int (i : Int)
  | str (s : List Nat)
  | tup (xs : List D)
  | lst (xs : List D)
  | dic (t : Bool) (ks vs : List D)
  | scr (xs : List D)
  | itr (xs : List D)
  deriving Inhabited

/-- an exception: its class, what it was made with -/
structure Ex where
  cls : String
  arg : D

inductive Res (α : Type) where
  | ok (a : α)
  | exc (e : Ex)
  | stuck

namespace Res
def bind {α β : Type} (x : Res α) (f : α → Res β) : Res β := match x with
  | .ok a => f a
  | .exc e => .exc e
  | .stuck => .stuck
end Res
instance : Monad Res where
  pure := Res.ok
  bind := Res.bind
@[simp] theorem ok_bind {α β : Type} (a : α) (f : α → Res β) : (Res.ok a >>= f) = f a := rfl
@[simp] theorem exc_bind {α β : Type} (e : Ex) (f : α → Res β) : (Res.exc e >>= f) = Res.exc e := rfl
@[simp] theorem stuck_bind {α β : Type} (f : α → Res β) : ((Res.stuck : Res α) >>= f) = Res.stuck := rfl
@[simp] theorem pure_ok {α : Type} (a : α) : (pure a : Res α) = Res.ok a := rfl
theorem bind_ok {α β : Type} {x : Res α} {f : α → Res β} {b : β} (h : (x >>= f) = .ok b) : ∃ a, x = .ok a ∧ f a = .ok b := by
  cases x with
  | ok a => exact ⟨a, rfl, h⟩
  | exc e => exact nomatch h
  | stuck => exact nomatch h

/-- c must hold -/
def must {α : Type} (c : Bool) (r : Res α) : Res α := match c with
  | true => r
  | false => .stuck
@[simp] theorem must_true {α : Type} (r : Res α) : must true r = r := rfl
@[simp] theorem must_false {α : Type} (r : Res α) : must false r = .stuck := rfl
theorem must_of {α : Type} {c : Bool} {r : Res α} (h : c = true) : must c r = r := by subst h; rfl

/-! ### what data are -/
mutual
def D.dep : D → Nat
  | .tup xs => D.deps xs + 1
  | .lst xs => D.deps xs + 1
  | _ => 0
def D.deps : List D → Nat
  | [] => 0
  | x :: xs => max (D.dep x) (D.deps xs)
end
mutual
/-- no list, no dict within -/
def D.frozen : D → Bool
  | .tup xs => D.frozens xs
  | .lst _ => false
  | .dic _ _ _ => false
  | .scr _ => false
  | .itr xs => D.frozens xs
  | _ => true
def D.frozens : List D → Bool
  | [] => true
  | x :: xs => D.frozen x && D.frozens xs
end
mutual
/-- no dict within -/
def D.plain : D → Bool
  | .tup xs => D.plains xs
  | .lst xs => D.plains xs
  | .dic _ _ _ => false
  | .scr _ => false
  | .itr _ => false
  | _ => true
def D.plains : List D → Bool
  | [] => true
  | x :: xs => D.plain x && D.plains xs
end
mutual
/-- == -/
def eqD : D → D → Bool
  | .non, .non => true
  | .bl a, .bl b => a == b
  | .bl a, .int j => (if a then 1 else 0) == j
  | .int i, .bl b => i == (if b then 1 else 0)
  | .int i, .int j => decide (i = j)
  | .str x, .str y => decide (x = y)
  | .tup xs, .tup ys => eqDs xs ys
  | .lst xs, .lst ys => eqDs xs ys
  | _, _ => false
def eqDs : List D → List D → Bool
  | [], [] => true
  | x :: xs, y :: ys => eqD x y && eqDs xs ys
  | _, _ => false
end
mutual
/-- <, of alike things -/
def ltD : D → D → Bool
  | .bl a, .bl b => !a && b
  | .int i, .int j => decide (i < j)
  | .str x, .str y => decide (x < y)
  | .tup xs, .tup ys => ltDs xs ys
  | _, _ => false
def ltDs : List D → List D → Bool
  | [], [] => false
  | [], _ :: _ => true
  | _ :: _, [] => false
  | x :: xs, y :: ys => if eqD x y then ltDs xs ys else ltD x y
end
mutual
/-- alike: what sorted may compare -/
def likeD : D → D → Bool
  | .non, .non => true
  | .bl _, .bl _ => true
  | .int _, .int _ => true
  | .str _, .str _ => true
  | .tup xs, .tup ys => likeDs xs ys
  | _, _ => false
def likeDs : List D → List D → Bool
  | x :: xs, y :: ys => likeD x y && likeDs xs ys
  | _, _ => true
end
def notTup : D → Bool
  | .tup _ => false
  | .non => false
  | .lst _ => false
  | _ => true
def someTup : D → Bool
  | .tup (_ :: _) => true
  | _ => false
/-- may be compared, up to their first difference -/
def wlikeDs : List D → List D → Bool
  | x :: xs, y :: ys => likeD x y && (!eqD x y || wlikeDs xs ys)
  | _, _ => true
def wlike : D → D → Bool
  | .tup xs, .tup ys => wlikeDs xs ys
  | x, y => likeD x y
def leD (x y : D) : Bool := !ltD y x
def sortOk (xs : List D) : Bool := D.plains xs && decide (D.deps xs ≤ 100) && (xs.all fun x => xs.all fun y => wlike x y) && (xs.all someTup || xs.all notTup)
/-- two things that == may compare here -/
def eqOk (x y : D) : Bool := x.plain && y.plain && (decide (x.dep ≤ 100) || decide (y.dep ≤ 100))

/-! ### dicts -/
mutual
/-- what may be a key's part -/
def D.keyB : D → Bool
  | .non => true
  | .bl _ => true
  | .int _ => true
  | .str _ => true
  | .tup xs => D.keyBs xs
  | _ => false
def D.keyBs : List D → Bool
  | [] => true
  | x :: xs => D.keyB x && D.keyBs xs
end
/-- a key of a dict: tuples, or texts and whole numbers -/
def keyOk : Bool → D → Bool
  | true, .tup xs => D.keyBs xs && decide (D.deps xs ≤ 7)
  | false, .str _ => true
  | false, .int _ => true
  | _, _ => false
/-- what a dict may be asked for with get: None, too -/
def keyOkN : Bool → D → Bool
  | true, .non => true
  | t, d => keyOk t d
def findD (k : D) : List D → List D → Option D
  | a :: ks, v :: vs => if eqD a k then some v else findD k ks vs
  | _, _ => none
def setD (k v : D) : List D → List D → List D
  | a :: ks, w :: vs => (if eqD a k then v else w) :: setD k v ks vs
  | _, vs => vs
/-- d[k] = v -/
def putD (k v : D) (d : List D × List D) : List D × List D := if (findD k d.1 d.2).isSome then (d.1, setD k v d.1 d.2) else (d.1 ++ [k], d.2 ++ [v])
def pairsD : List D → Option (List (D × D))
  | [] => some []
  | .tup [k, v] :: r => match pairsD r with
    | some t => some ((k, v) :: t)
    | none => none
  | _ :: _ => none
def mergeD (ps : List (D × D)) : List D × List D := ps.foldl (fun d p => putD p.1 p.2 d) ([], [])
def litD (ks : List String) (vs : List Int) : List (D × D) := (ks.zip vs).map fun p => (.str (tx p.1), .int p.2)
/-- each once -/
def onceD : List D → List D
  | [] => []
  | x :: xs => x :: (onceD xs).filter fun y => !eqD x y
/-- texts and whole numbers -/
def flatK : D → Bool
  | .str _ => true
  | .int _ => true
  | _ => false

/-! ### operations -/
inductive Bop where
  | add | sub | mul | fdiv | mod
  deriving DecidableEq
inductive Cop where
  | eq | ne | lt | le | gt | ge | inn | nin | iss | isns
  deriving DecidableEq
def smallI (i : Int) : Bool := decide (-18446744073709551616 < i) && decide (i < 18446744073709551616)
def mulT (s : List Nat) (k : Int) : List Nat := if k = 0 then [] else if k = 1 then s else (List.replicate k.toNat s).flatten
def bopD : Bop → D → D → Res D
  | .add, .int i, .int j => .ok (.int (i + j))
  | .add, .str x, .str y => must (decide (x.length + y.length ≤ SZ)) (.ok (.str (x ++ y)))
  | .add, .lst x, .lst y => must (decide (x.length + y.length ≤ SZ)) (.ok (.lst (x ++ y)))
  | .add, .tup x, .tup y => must (decide (x.length + y.length ≤ SZ)) (.ok (.tup (x ++ y)))
  | .sub, .int i, .int j => .ok (.int (i - j))
  | .mul, .int i, .int j => must (smallI i || smallI j) (.ok (.int (i * j)))
  | .mul, .str s, .int k => must ((decide (k = 0) || decide (k = 1)) || (decide (2 ≤ k) && decide (k ≤ 1000) && decide (s.length ≤ 1000))) (.ok (.str (mulT s k)))
  | .mul, .tup xs, .int k => must (!xs.isEmpty && decide (2 ≤ k) && decide (k ≤ 1000) && decide (xs.length ≤ 1000)) (.ok (.tup (List.replicate k.toNat xs).flatten))
  | .mul, .lst xs, .int k => must (decide (0 ≤ k) && decide (k ≤ 1000) && decide (xs.length ≤ 1000)) (.ok (.lst (List.replicate k.toNat xs).flatten))
  | .fdiv, .int i, .int j => must (decide (0 < j) && decide (j < 1073741824)) (.ok (.int (i / j)))
  | .mod, .int i, .int j => must (decide (0 < j)) (.ok (.int (i % j)))
  | _, _, _ => .stuck
/-- x in y -/
def inD (x y : D) : Res Bool := match y with
  | .tup ys => must (x.plain && D.plains ys && decide (x.dep ≤ 100)) (.ok (ys.any fun y => eqD y x))
  | .lst ys => must (x.plain && D.plains ys && decide (x.dep ≤ 100)) (.ok (ys.any fun y => eqD y x))
  | .str s => match x with
    | .str [c] => .ok (decide (c ∈ s))
    | _ => .stuck
  | .dic t ks vs => must (keyOk t x) (.ok (findD x ks vs).isSome)
  | _ => .stuck
def copD : Cop → D → D → Res D
  | .eq, x, y => must (eqOk x y) (.ok (.bl (eqD x y)))
  | .ne, x, y => must (eqOk x y) (.ok (.bl (!eqD x y)))
  | .lt, .int i, .int j => .ok (.bl (decide (i < j)))
  | .le, .int i, .int j => .ok (.bl (decide (i ≤ j)))
  | .gt, .int i, .int j => .ok (.bl (decide (j < i)))
  | .ge, .int i, .int j => .ok (.bl (decide (j ≤ i)))
  | .lt, .str i, .str j => .ok (.bl (decide (i < j)))
  | .le, .str i, .str j => .ok (.bl (!decide (j < i)))
  | .inn, x, y => do
    let b ← inD x y
    .ok (.bl b)
  | .nin, x, y => do
    let b ← inD x y
    .ok (.bl !b)
  | .iss, .bl a, .bl b => .ok (.bl (a == b))
  | .iss, .non, .bl _ => .ok (.bl false)
  | .isns, .bl a, .bl b => .ok (.bl !(a == b))
  | .isns, .non, .bl _ => .ok (.bl true)
  | _, _, _ => .stuck
/-- where an index points -/
def atIx (n : Nat) (i : Int) : Option Nat := if 0 ≤ i then (if i < n then some i.toNat else none) else if 0 ≤ i + n then some (i + n).toNat else none
def nth {α : Type} (xs : List α) (i : Int) : Option α := match atIx xs.length i with
  | some k => xs[k]?
  | none => none
def optR {α : Type} : Option α → Res α
  | some a => .ok a
  | none => .stuck
/-- o[i] -/
def ixD : D → D → Res D
  | .tup xs, .int i => optR (nth xs i)
  | .lst xs, .int i => optR (nth xs i)
  | .scr xs, .int i => optR (nth xs i)
  | .str xs, .int i => do
    let c ← optR (nth xs i)
    .ok (.str [c])
  | .dic t ks vs, k => must (keyOk t k) (optR (findD k ks vs))
  | _, _ => .stuck
/-- a slice's end -/
def cutIx (n : Nat) (d : Nat) : Option Int → Nat
  | none => d
  | some i => if i < 0 then (i + n).toNat else min i.toNat n
def cut {α : Type} (xs : List α) (lo hi : Option Int) : List α := (xs.take (cutIx xs.length xs.length hi)).drop (cutIx xs.length 0 lo)
def slD : D → Option Int → Option Int → Res D
  | .tup xs, lo, hi => .ok (.tup (cut xs lo hi))
  | .lst xs, lo, hi => .ok (.lst (cut xs lo hi))
  | .str xs, lo, hi => .ok (.str (cut xs lo hi))
  | _, _, _ => .stuck
/-- what a for walks -/
def itD : D → Res (List D)
  | .tup xs => .ok xs
  | .lst xs => .ok xs
  | .str xs => .ok (xs.map fun c => .str [c])
  | .itr xs => .ok xs
  | .dic true ks _ => .ok ks
  | _ => .stuck
def isSeq : D → Bool
  | .tup _ => true
  | .lst _ => true
  | _ => false
def rangeD (lo hi : Int) : List D := (List.range (hi - lo).toNat).map fun k => .int (lo + (k : Nat))
def enumD (n : Nat) : List D → List D
  | [] => []
  | x :: xs => .tup [.int n, x] :: enumD (n + 1) xs
def zipD : List D → List D → List D
  | x :: xs, y :: ys => .tup [x, y] :: zipD xs ys
  | _, _ => []
def joinT (sep : List Nat) : List (List Nat) → List Nat
  | [] => []
  | [x] => x
  | x :: y :: r => x ++ sep ++ joinT sep (y :: r)
def joinW (sep : List Nat) (xs : List (List Nat)) : Nat := (xs.map List.length).sum + xs.length * sep.length
def strsD : List D → Option (List (List Nat))
  | [] => some []
  | .str s :: r => match strsD r with
    | some t => some (s :: t)
    | none => none
  | _ :: _ => none
/-- the figures of a number -/
def figs (i : Int) : List Nat := tx (toString i)

/-- built-ins of one argument -/
inductive B1 where
  | len | tuple | list | int | str | all | any | isstr | isint | isbool | istuple | min | max | sorted | sum | dictT | dictS | lset | sset | rev | sitems | ord | ptup
  deriving DecidableEq
def boolsD : List D → Option (List Bool)
  | [] => some []
  | .bl b :: r => match boolsD r with
    | some t => some (b :: t)
    | none => none
  | _ :: _ => none
def intsD : List D → Option (List Int)
  | [] => some []
  | .int b :: r => match intsD r with
    | some t => some (b :: t)
    | none => none
  | _ :: _ => none
def minI : Int → List Int → Int
  | m, [] => m
  | m, x :: xs => minI (if x < m then x else m) xs
def maxI : Int → List Int → Int
  | m, [] => m
  | m, x :: xs => maxI (if m < x then x else m) xs
def b1D : B1 → D → Res D
  | .len, .tup xs => .ok (.int xs.length)
  | .len, .lst xs => .ok (.int xs.length)
  | .len, .str xs => .ok (.int xs.length)
  | .len, .scr xs => .ok (.int xs.length)
  | .tuple, .tup xs => .ok (.tup xs)
  | .tuple, .lst xs => .ok (.tup xs)
  | .list, .tup xs => .ok (.lst xs)
  | .list, .lst xs => .ok (.lst xs)
  | .int, .bl b => .ok (.int (if b then 1 else 0))
  | .int, .int i => .ok (.int i)
  | .str, .int i => must (decide (i.natAbs.log2 < 1920) && decide ((figs i).length ≤ SZ)) (.ok (.str (figs i)))
  | .str, .str s => .ok (.str s)
  | .all, .lst xs => do
    let bs ← optR (boolsD xs)
    .ok (.bl (bs.all id))
  | .any, .lst xs => do
    let bs ← optR (boolsD xs)
    .ok (.bl (bs.any id))
  | .min, .lst xs => do
    let ns ← optR (intsD xs)
    match ns with
    | n :: r => .ok (.int (minI n r))
    | [] => .stuck
  | .max, .lst xs => do
    let ns ← optR (intsD xs)
    match ns with
    | n :: r => .ok (.int (maxI n r))
    | [] => .stuck
  | .sorted, .lst xs => must (sortOk xs) (.ok (.lst (xs.mergeSort leD)))
  | .sorted, .dic true ks _ => must (sortOk ks) (.ok (.lst (ks.mergeSort leD)))
  | .len, .dic _ ks _ => .ok (.int ks.length)
  | .sum, .lst xs => do
    let ns ← optR (intsD xs)
    .ok (.int ns.sum)
  | .dictT, .lst xs => do
    let ps ← optR (pairsD xs)
    must (ps.all fun p => keyOk true p.1) (.ok (.dic true (mergeD ps).1 (mergeD ps).2))
  | .dictS, .lst xs => do
    let ps ← optR (pairsD xs)
    must (ps.all fun p => keyOk false p.1) (.ok (.dic false (mergeD ps).1 (mergeD ps).2))
  | .dictS, .itr xs => do
    let ps ← optR (pairsD xs)
    must (ps.all fun p => keyOk false p.1) (.ok (.dic false (mergeD ps).1 (mergeD ps).2))
  | .ptup, .lst xs => .ok (.itr xs)
  | .lset, .lst xs => must (xs.all flatK && decide (xs.length ≤ 1000)) (.ok (.int (onceD xs).length))
  | .lset, .tup xs => must (xs.all flatK && decide (xs.length ≤ 1000)) (.ok (.int (onceD xs).length))
  | .sset, .lst xs => must (xs.all flatK && sortOk xs && decide (xs.length ≤ 1000)) (.ok (.lst ((onceD xs).mergeSort leD)))
  | .ord, .str [c] => .ok (.int (c : Nat))
  | .rev, .tup xs => must (!xs.isEmpty) (.ok (.tup xs.reverse))
  | .sitems, .dic false ks vs => must (sortOk (List.zipWith (fun k v => D.tup [k, v]) ks vs)) (.ok (.lst ((List.zipWith (fun k v => D.tup [k, v]) ks vs).mergeSort leD)))
  | .isstr, .dic _ _ _ => .stuck
  | .isint, .dic _ _ _ => .stuck
  | .isbool, .dic _ _ _ => .stuck
  | .istuple, .dic _ _ _ => .stuck
  | .isstr, .itr _ => .stuck
  | .isint, .itr _ => .stuck
  | .isbool, .itr _ => .stuck
  | .istuple, .itr _ => .stuck
  | .isstr, d => .ok (.bl (match d with | .str _ => true | _ => false))
  | .isint, d => .ok (.bl (match d with | .int _ => true | .bl _ => true | _ => false))
  | .isbool, d => .ok (.bl (match d with | .bl _ => true | _ => false))
  | .istuple, d => .ok (.bl (match d with | .tup _ => true | _ => false))
  | _, _ => .stuck
/-- methods and built-ins of two things -/
inductive B2 where
  | join | index | count | zfill
  deriving DecidableEq
def b2R : B2 → D → Bool
  | .join, .str _ => true
  | .index, .lst _ => true
  | .count, .lst _ => true
  | .zfill, .str _ => true
  | _, _ => false
def indexOf (x : D) : Nat → List D → Option Nat
  | _, [] => none
  | k, y :: ys => if eqD y x then some k else indexOf x (k + 1) ys
def b2D : B2 → D → D → Res D
  | .join, .str sep, .tup ds => do
    let xs ← optR (strsD ds)
    must (decide (joinW sep xs ≤ SZ)) (.ok (.str (joinT sep xs)))
  | .join, .str sep, .lst ds => do
    let xs ← optR (strsD ds)
    must (decide (joinW sep xs ≤ SZ)) (.ok (.str (joinT sep xs)))
  | .index, .lst xs, x => must (x.plain && D.plains xs && decide (x.dep ≤ 60) && decide (D.deps xs ≤ 60)) do
    let k ← optR (indexOf x 0 xs)
    .ok (.int k)
  | .zfill, .str s, .int i => must ((s.all fun c => decide (48 ≤ c) && decide (c ≤ 57)) && decide (s.length ≤ 1000) && decide (0 ≤ i) && decide (i ≤ 1000)) (.ok (.str (List.replicate (i.toNat - s.length) 48 ++ s)))
  | .count, .lst xs, x => must (x.plain && D.plains xs && decide (x.dep ≤ 60) && decide (D.deps xs ≤ 60)) (.ok (.int ((xs.countP fun y => eqD y x : Nat) : Int)))
  | _, _, _ => .stuck

/-- sorted by keys, stably -/
def byKeyL {α : Type} (xs : List α) (ks : List D) : List α := ((xs.zip ks).mergeSort fun a b => leD a.2 b.2).map Prod.fst
/-- a list's, a tuple's items -/
def seqD : D → Res (List D)
  | .tup xs => .ok xs
  | .lst xs => .ok xs
  | _ => .stuck
def keyedD (xs : List D) : Res (List D) → Res D
  | .ok ks => must (sortOk ks && decide (xs.length ≤ SZ)) (.ok (.lst (byKeyL xs ks)))
  | _ => .stuck
/-! ### the language -/
inductive MT where
  | nm (i : Nat)
  | tp (is : List Nat)
/-- expressions; nil, cons: argument lists -/
inductive ME where
  | var (i : Nat)
  | int (i : Int)
  | str (s : String)
  | bl (b : Bool)
  | non
  | con (c : String)
  | nil
  | cons (a r : ME)
  | tup (es : ME)
  | lst (es : ME)
  | op (o : Bop) (a b : ME)
  | neg (a : ME)
  | not (a : ME)
  | and1 (a : ME)
  | and (a b : ME)
  | or1 (a : ME)
  | or (a b : ME)
  | cmp (o : Cop) (a b : ME)
  | isn (a : ME)
  | notn (a : ME)
  | chain (o1 o2 : Cop) (a b c : ME)
  | ix (a i : ME)
  | sl (a lo hi : ME)
  | comp (t : MT) (it e : ME)
  | compIf (t : MT) (it c e : ME)
  | rng1 (a : ME)
  | rng2 (a b : ME)
  | enum (a : ME)
  | zip (a b : ME)
  | b1 (f : B1) (a : ME)
  | b2 (f : B2) (a b : ME)
  | call (f : String) (es : ME)
  | dnew (t : Bool)
  | dlit (ks : List String) (vs : List Int)
  | dsp1 (k v : ME)
  | get2 (a k x : ME)
  | told (a : ME)
  | skey (a e : ME)
  | fcall (f : String) (es : ME)
  | itup (es : ME)
  | lzip (a b : ME)

abbrev EnvD := List (Option D)
def EnvD.get (ρ : EnvD) (i : Nat) : Res D := match ρ[i]? with
  | some (some d) => .ok d
  | _ => .stuck
def MT.slots : MT → List Nat
  | .nm i => [i]
  | .tp is => is
def wipeE (ρ : EnvD) : List Nat → EnvD
  | [] => ρ
  | v :: vs => (wipeE ρ vs).set v none
def setAll : List Nat → List D → EnvD → Res EnvD
  | [], [], ρ => .ok ρ
  | i :: is, d :: ds, ρ => setAll is ds (ρ.set i (some d))
  | _, _, _ => .stuck
def bindT : MT → D → EnvD → Res EnvD
  | .nm i, d, ρ => .ok (ρ.set i (some d))
  | .tp is, .tup ds, ρ => setAll is ds ρ
  | .tp is, .lst ds, ρ => setAll is ds ρ
  | _, _, _ => .stuck
/-- for each, one thing -/
def mapR (f : D → Res D) : List D → Res (List D)
  | [] => .ok []
  | x :: xs => match f x with
    | .ok y => match mapR f xs with
      | .ok ys => .ok (y :: ys)
      | _ => .stuck
    | _ => .stuck
def filR (c f : D → Res D) : List D → Res (List D)
  | [] => .ok []
  | x :: xs => match c x with
    | .ok (.bl true) => match f x with
      | .ok y => match filR c f xs with
        | .ok ys => .ok (y :: ys)
        | _ => .stuck
      | _ => .stuck
    | .ok (.bl false) => filR c f xs
    | _ => .stuck

/-- the refusals, by their numbers -/
def excs : List String := ["NoText", "NoRow", "Twice", "BadCheck", "NoRef", "Held", "NoMark", "BadLog", "Clash"]
def exNo (c : String) : Nat := excs.idxOf c
/-- what `except c` catches -/
def catB (c x : String) : Bool := decide (c = "DealError") || decide (c = x)
/-- a refusal's at -/
def exAt : D → Option Int
  | .int i => some i
  | .str _ => some 0
  | _ => none
section
variable (Γ : String → List D → Res D) (G : String → Option D)
def isNonD : D → Bool
  | .non => true
  | _ => false
def notD : D → Res D
  | .bl b => .ok (.bl !b)
  | _ => .stuck
def negD : D → Res D
  | .int i => .ok (.int (-i))
  | _ => .stuck
def loD : D → Res (Option Int)
  | .int i => .ok (some i)
  | _ => .stuck
def loOf : ME → Res D → Res (Option Int)
  | .nil, _ => .ok none
  | _, r => r >>= loD
def blD : D → Res Bool
  | .bl b => .ok b
  | _ => .stuck
def lstD : D → Res (List D)
  | .lst xs => .ok xs
  | _ => .stuck
def dicD : D → Res (Bool × List D × List D)
  | .dic t ks vs => .ok (t, ks, vs)
  | _ => .stuck
/-- a thing that may be one's own -/
def ownD : D → Res D
  | .lst xs => .ok (.lst xs)
  | .dic t ks vs => .ok (.dic t ks vs)
  | _ => .stuck
/-- d[k] = v, of a list or a dict -/
def storeD : D → D → D → Res D
  | .dic t ks vs, k, v => must (keyOk t k && decide (ks.length < SZ)) (.ok (.dic t (putD k v (ks, vs)).1 (putD k v (ks, vs)).2))
  | .lst xs, .int i, v => match atIx xs.length i with
    | some j => .ok (.lst (xs.set j v))
    | none => .stuck
  | _, _, _ => .stuck
def intD : D → Res Int
  | .int b => .ok b
  | _ => .stuck
mutual
def ev : ME → EnvD → Res D
  | .var i, ρ => ρ.get i
  | .int i, _ => .ok (.int i)
  | .str s, _ => .ok (.str (tx s))
  | .bl b, _ => .ok (.bl b)
  | .non, _ => .ok .non
  | .con c, _ => optR (G c)
  | .nil, _ => .stuck
  | .cons _ _, _ => .stuck
  | .tup es, ρ => do
    let ds ← evs es ρ
    .ok (.tup ds)
  | .lst es, ρ => do
    let ds ← evs es ρ
    .ok (.lst ds)
  | .op o a b, ρ => do
    let x ← ev a ρ
    let y ← ev b ρ
    bopD o x y
  | .neg a, ρ => do
    let x ← ev a ρ
    negD x
  | .not a, ρ => do
    let x ← ev a ρ
    notD x
  | .and1 a, ρ => do
    let x ← ev a ρ
    let b ← blD x
    .ok (.bl b)
  | .and a b, ρ => do
    let x ← ev a ρ
    let k ← blD x
    match k with
    | true => ev b ρ
    | false => .ok (.bl false)
  | .or1 a, ρ => do
    let x ← ev a ρ
    let b ← blD x
    .ok (.bl b)
  | .or a b, ρ => do
    let x ← ev a ρ
    let k ← blD x
    match k with
    | true => .ok (.bl true)
    | false => ev b ρ
  | .cmp o a b, ρ => do
    let x ← ev a ρ
    let y ← ev b ρ
    copD o x y
  | .isn a, ρ => do
    let x ← ev a ρ
    .ok (.bl (isNonD x))
  | .notn a, ρ => do
    let x ← ev a ρ
    .ok (.bl !(isNonD x))
  | .chain o1 o2 a b c, ρ => do
    let x ← ev a ρ
    let y ← ev b ρ
    let r ← copD o1 x y
    let k ← blD r
    match k with
    | true => do
      let z ← ev c ρ
      copD o2 y z
    | false => .ok (.bl false)
  | .ix a i, ρ => do
    let x ← ev a ρ
    let k ← ev i ρ
    ixD x k
  | .sl a lo hi, ρ => do
    let x ← ev a ρ
    let l ← loOf lo (ev lo ρ)
    let h ← loOf hi (ev hi ρ)
    slD x l h
  | .comp t it e, ρ => do
    let d ← ev it ρ
    let xs ← itD d
    let ys ← mapR (fun x => bindT t x (wipeE ρ t.slots) >>= fun ρ1 => ev e ρ1) xs
    .ok (.lst ys)
  | .compIf t it c e, ρ => do
    let d ← ev it ρ
    let xs ← itD d
    let ys ← filR (fun x => bindT t x (wipeE ρ t.slots) >>= fun ρ1 => ev c ρ1) (fun x => bindT t x (wipeE ρ t.slots) >>= fun ρ1 => ev e ρ1) xs
    .ok (.lst ys)
  | .rng1 a, ρ => do
    let x ← ev a ρ
    let n ← intD x
    must (decide (-1000000000 ≤ n) && decide (n ≤ SZ)) (.ok (.itr (rangeD 0 n)))
  | .rng2 a b, ρ => do
    let x ← ev a ρ
    let lo ← intD x
    let y ← ev b ρ
    let n ← intD y
    must (decide (-1000000000 ≤ lo) && decide (lo ≤ 1000000000) && decide (-1000000000 ≤ n) && decide (n ≤ 1000000000) && decide ((n - lo).toNat ≤ SZ)) (.ok (.itr (rangeD lo n)))
  | .enum a, ρ => do
    let x ← ev a ρ
    must (isSeq x) do
      let xs ← itD x
      .ok (.itr (enumD 0 xs))
  | .zip a b, ρ => do
    let x ← ev a ρ
    let y ← ev b ρ
    must (isSeq x && isSeq y) do
      let xs ← itD x
      let ys ← itD y
      .ok (.itr (zipD xs ys))
  | .b1 f a, ρ => do
    let x ← ev a ρ
    b1D f x
  | .b2 f a b, ρ => do
    let x ← ev a ρ
    must (b2R f x) do
      let y ← ev b ρ
      b2D f x y
  | .call f es, ρ => do
    let ds ← evs es ρ
    Γ f ds
  | .dnew t, _ => .ok (.dic t [] [])
  | .dlit ks vs, _ => .ok (.dic false (mergeD (litD ks vs)).1 (mergeD (litD ks vs)).2)
  | .dsp1 k v, ρ => do
    let x ← ev k ρ
    let y ← ev v ρ
    must (keyOk true x) (.ok (.dic true [x] [y]))
  | .get2 a k x, ρ => do
    let d ← ev a ρ
    let p ← dicD d
    let y ← ev k ρ
    let z ← ev x ρ
    must (keyOkN p.1 y) (.ok ((findD y p.2.1 p.2.2).getD z))
  | .told a, ρ => match ev a ρ with
    | .ok d => .ok (.tup [.str (tx "told"), d])
    | .exc x => match exAt x.arg with
      | some i => .ok (.tup [.str (tx "refused"), .int (exNo x.cls), .int i])
      | none => .stuck
    | .stuck => .stuck
  | .skey a e, ρ => do
    let x ← ev a ρ
    let xs ← seqD x
    keyedD xs (mapR (fun d => ev e (ρ ++ [some d])) xs)
  | .fcall f es, ρ => do
    let ds ← evs es ρ
    let d ← Γ f ds
    let xs ← lstD d
    .ok (.lst xs)
  | .itup es, ρ => do
    let ds ← evs es ρ
    .ok (.itr ds)
  | .lzip a b, ρ => do
    let x ← ev a ρ
    let y ← ev b ρ
    must (isSeq x && isSeq y) do
      let xs ← itD x
      let ys ← itD y
      must (decide (xs.length ≤ 100000)) (.ok (.lst (zipD xs ys)))
/-- argument lists -/
def evs : ME → EnvD → Res (List D)
  | .nil, _ => .ok []
  | .cons a r, ρ => do
    let x ← ev a ρ
    let xs ← evs r ρ
    .ok (x :: xs)
  | _, _ => .stuck
end
end

/-! ### statements -/
inductive MS where
  | nil
  | cons (s r : MS)
  | skip
  | asg (t : MT) (h : List Nat) (e : ME)
  | asgN (t : MT) (e : ME)
  | asgF (i : Nat) (h : List Nat) (e : ME)
  | app (i : Nat) (h : List Nat) (e : ME)
  | ext (i : Nat) (h : List Nat) (e : ME)
  | ife (c : ME) (a b : MS)
  | fr (t : MT) (h : List Nat) (it : ME) (b : MS)
  | whl (c : ME) (b : MS)
  | ret (e : ME)
  | asgD (i : Nat) (h : List Nat) (e : ME)
  | put (i : Nat) (k v : ME)
  | pop (i : Nat)
  | popA (t : MT) (i : Nat)
  | rais (c : String) (e : ME)
  | tr (c : String) (b h : MS)
inductive Fl where
  | nx (ρ : EnvD)
  | rt (d : D)
def frD (b : D → EnvD → Res Fl) : List D → EnvD → Res Fl
  | [], ρ => .ok (.nx ρ)
  | x :: xs, ρ => match b x ρ with
    | .ok (.nx ρ') => frD b xs ρ'
    | r => r
def WF : Nat := 10000
def whD (c : EnvD → Res D) (b : EnvD → Res Fl) : Nat → EnvD → Res Fl
  | 0, _ => .stuck
  | n + 1, ρ => match c ρ with
    | .ok (.bl true) => match b ρ with
      | .ok (.nx ρ') => whD c b n ρ'
      | r => r
    | .ok (.bl false) => .ok (.nx ρ)
    | .exc e => .exc e
    | _ => .stuck
section
variable (Γ : String → List D → Res D) (G : String → Option D)
def evS : MS → EnvD → Res Fl
  | .nil, ρ => .ok (.nx ρ)
  | .skip, ρ => .ok (.nx ρ)
  | .cons s r, ρ => match evS s ρ with
    | .ok (.nx ρ') => evS r ρ'
    | q => q
  | .asg t h e, ρ => do
    let d ← ev Γ G e (wipeE ρ h)
    let ρ' ← bindT t d ρ
    .ok (.nx ρ')
  | .asgN t e, ρ => do
    let d ← ev Γ G e ρ
    must d.frozen do
      let ρ' ← bindT t d ρ
      .ok (.nx ρ')
  | .asgF i h e, ρ => do
    let d ← ev Γ G e (wipeE ρ h)
    let xs ← lstD d
    must (decide (i < ρ.length)) (.ok (.nx (ρ.set i (some (.lst xs)))))
  | .app i h e, ρ => match ρ[i]? with
    | some (some (.lst xs)) => do
      let d ← ev Γ G e (wipeE ρ h)
      must (decide (xs.length < SZ)) (.ok (.nx (ρ.set i (some (.lst (xs ++ [d]))))))
    | _ => .stuck
  | .ext i h e, ρ => match ρ[i]? with
    | some (some (.lst xs)) => do
      let d ← ev Γ G e (wipeE ρ h)
      let ys ← lstD d
      must (decide (xs.length + ys.length ≤ SZ)) (.ok (.nx (ρ.set i (some (.lst (xs ++ ys))))))
    | _ => .stuck
  | .ife c a b, ρ => do
    let x ← ev Γ G c ρ
    let k ← blD x
    match k with
    | true => evS a ρ
    | false => evS b ρ
  | .fr t h it b, ρ => do
    let d ← ev Γ G it (wipeE ρ h)
    let xs ← itD d
    frD (fun x ρ => bindT t x ρ >>= fun ρ1 => evS b ρ1) xs ρ
  | .whl c b, ρ => whD (fun ρ => ev Γ G c ρ) (fun ρ => evS b ρ) WF ρ
  | .ret e, ρ => do
    let d ← ev Γ G e ρ
    .ok (.rt d)
  | .asgD i h e, ρ => do
    let d ← ev Γ G e (wipeE ρ h)
    let d ← ownD d
    must (decide (i < ρ.length)) (.ok (.nx (ρ.set i (some d))))
  | .put i k v, ρ => match ρ[i]? with
    | some (some o) => do
      let x ← ev Γ G v ρ
      must x.frozen do
        let y ← ev Γ G k ρ
        must y.frozen do
          let o' ← storeD o y x
          .ok (.nx (ρ.set i (some o')))
    | _ => .stuck
  | .pop i, ρ => match ρ[i]? with
    | some (some (.lst xs)) => must (!xs.isEmpty) (.ok (.nx (ρ.set i (some (.lst xs.dropLast)))))
    | _ => .stuck
  | .popA t i, ρ => match ρ[i]? with
    | some (some (.lst xs)) => match xs.getLast? with
      | some d => do
        let ρ' ← bindT t d (ρ.set i (some (.lst xs.dropLast)))
        .ok (.nx ρ')
      | none => .stuck
    | _ => .stuck
  | .rais c e, ρ => do
    let d ← ev Γ G e ρ
    match d with
    | .int i => .exc ⟨c, .int i⟩
    | _ => .stuck
  | .tr c b h, ρ => match evS b ρ with
    | .exc x => match catB c x.cls with
      | true => evS h ρ
      | false => .exc x
    | r => r
end
/-- a def: how many parameters, how many names, its body -/
structure Fn where
  np : Nat
  nn : Nat
  body : MS
def finish : Res Fl → Res D
  | .ok (.rt d) => .ok d
  | .ok (.nx _) => .ok .non
  | .exc e => .exc e
  | .stuck => .stuck
def run (T : String → Option Fn) (G : String → Option D) : Nat → String → List D → Res D
  | 0, _, _ => .stuck
  | n + 1, f, ds => match T f with
    | some F => must (ds.length == F.np) (finish (evS (run T G n) G F.body (ds.map some ++ List.replicate (F.nn - F.np) none)))
    | none => .stuck
end Dt
namespace Snd
open PySem PySem.Spec PyProof.Rows L2 Dt

/-! ### data at values -/
def tS (s : List Nat) : Str := ⟨s.toArray⟩
theorem tS_inj {a b : List Nat} (h : tS a = tS b) : a = b := by
  have e : a.toArray = b.toArray := congrArg Str.cps h
  simpa using congrArg Array.toList e
theorem tS_len (a : List Nat) : (tS a).length = a.length := by simp [tS, Str.length]
theorem tS_list (a : List Nat) : (tS a).cps.toList = a := by simp [tS]
theorem tS_of (x : Str) : tS x.cps.toList = x := by
  obtain ⟨c⟩ := x
  simp [tS]
theorem tS_app (a b : List Nat) : tS a ++ tS b = tS (a ++ b) := by
  show Str.append _ _ = _
  simp [tS, Str.append]
theorem tS_tx (s : String) : tS (tx s) = Str.ofString s := by
  rw [Str.ofString_eq_toList]; rfl
def okT (s : List Nat) : Prop := s.length ≤ SZ ∧ PyData.strOk (tS s) = true
theorem SZ_eq : SZ = sizeLine := by rw [sizeLine_eq]; rfl
theorem strOk_iff {a : List Nat} : PyData.strOk (tS a) = true ↔ ∀ c ∈ a, c < 1114112 := by
  unfold PyData.strOk tS
  rw [← Array.all_toList]
  simp [List.all_eq_true]
theorem okT.app {a b : List Nat} (ha : okT a) (hb : okT b) (h : a.length + b.length ≤ SZ) : okT (a ++ b) := by
  refine ⟨by simpa using h, strOk_iff.mpr fun c hc => ?_⟩
  rcases List.mem_append.mp hc with q | q
  · exact strOk_iff.mp ha.2 c q
  · exact strOk_iff.mp hb.2 c q
theorem okT.sub {a b : List Nat} (ha : okT a) (s : ∀ c ∈ b, c ∈ a) (h : b.length ≤ a.length) : okT b :=
  ⟨Nat.le_trans h ha.1, strOk_iff.mpr fun c hc => strOk_iff.mp ha.2 c (s c hc)⟩

/-- the program and the world that a run stands in -/
class PrW where
  P : Program
  w : World
  T : List (Addr × Str)
  /-- the classes that are caught somewhere -/
  R : List String
variable [PrW]
abbrev TabsW (H : Hp) : Prop := LamX.Tabs PrW.T H
/-- all but the tables stays -/
def Sm (H H' : Hp) : Prop := ∀ b o, H b = some o → (∀ ps, o ≠ .tbl ps) → H' b = some o
/-- all but the tables stays; the tables tell what they told -/
structure Same (H H' : Hp) : Prop where
  sm : Sm H H'
  tabs : TabsW H → TabsW H'
/-- nothing but a table may stand there -/
def Nu (H : Hp) (p : Addr) : Prop := ∀ o, H p = some o → ∃ ps, o = .tbl ps
theorem Nu.of {H : Hp} {p : Addr} (h : H p = none) : Nu H p := fun o e => by rw [h] at e; cases e
theorem Nu.no {H : Hp} {p : Addr} {o : HO} (h : Nu H p) (e : H p = some o) (n : ∀ ps, o ≠ .tbl ps) : False := let ⟨ps, q⟩ := h o e; n ps q
theorem Sm.refl (H : Hp) : Sm H H := fun _ _ h _ => h
theorem Sm.trans {H H1 H2 : Hp} (a : Sm H H1) (b : Sm H1 H2) : Sm H H2 := fun c o h n => b c o (a c o h n) n
theorem Sm.of {H H1 : Hp} (a : L2.Same H H1) : Sm H H1 := fun c o h _ => a c o h
theorem Same.of {H H1 : Hp} (a : L2.Same H H1) : Same H H1 := ⟨Sm.of a, fun t => LamX.Tabs.ext t a⟩
instance {H H1 : Hp} : Coe (L2.Same H H1) (Sm H H1) := ⟨Sm.of⟩
instance {H H1 : Hp} : Coe (L2.Same H H1) (Same H H1) := ⟨Same.of⟩
instance {H H1 : Hp} : Coe (Same H H1) (Sm H H1) := ⟨Same.sm⟩
theorem Same.refl (H : Hp) : Same H H := .of (L2.Same.refl H)
theorem Same.trans {H H1 H2 : Hp} (a : Same H H1) (b : Same H1 H2) : Same H H2 := ⟨a.sm.trans b.sm, fun t => b.tabs (a.tabs t)⟩
theorem Sm.freeN {H H' : Hp} (e : Sm H H') {l : Addr} (h : Nu H' l) : Nu H l := fun o q => by
  cases o with
  | tbl ps => exact ⟨ps, rfl⟩
  | _ => exact (h.no (e _ _ q fun _ z => nomatch z) fun _ z => nomatch z).elim
theorem Same.free {H H' : Hp} (e : Same H H') {l : Addr} (h : H' l = Option.none) : Nu H l := e.sm.freeN (.of h)
theorem Sm.lst {H H' : Hp} (e : Sm H H') {a : Addr} {xs : List V} (h : H a = some (.lst xs)) : H' a = some (.lst xs) := e _ _ h fun _ z => nomatch z
theorem Sm.tup {H H' : Hp} (e : Sm H H') {a : Addr} {xs : List V} (h : H a = some (.tup xs)) : H' a = some (.tup xs) := e _ _ h fun _ z => nomatch z
theorem Sm.frz {H H' : Hp} (e : Sm H H') {a : Addr} {o : Obj} {u : HO} (h : H a = some (.frz o u)) : H' a = some (.frz o u) := e _ _ h fun _ z => nomatch z
theorem Sm.ext {H H' : Hp} (e : Sm H H') {a : Addr} {f : Heap → Prop} (h : H a = some (.ext f)) : H' a = some (.ext f) := e _ _ h fun _ z => nomatch z
theorem Sm.dK {H H' : Hp} (e : Sm H H') {a : Addr} {xs : List (Key × V)} (h : H a = some (.dK xs)) : H' a = some (.dK xs) := e _ _ h fun _ z => nomatch z
theorem Same.lst {H H' : Hp} (e : Same H H') {a : Addr} {xs : List V} (h : H a = some (.lst xs)) : H' a = some (.lst xs) := e.sm.lst h
theorem Sm.seq {K : PySem.W.Frag} {H H' : Hp} {a : Addr} {xs : List V} (e : Sm H H') (h : SqL K H a xs) : SqL K H' a xs := by
  rcases h with (h | ⟨o, h⟩) | h
  · exact .inl (.inl (e.lst h))
  · exact .inl (.inr ⟨o, e.frz h⟩)
  · exact .inr h
/-- what an exact dict with such keys, told by its object alone -/
def dicF (a : Addr) (o : Obj) (xs : List (NestedKey × Addr × Value)) : Heap → Prop := fun h =>
  ∃ es ep, h.get? a = some o ∧ o.ExactDict ∧ o.data = .dict es ep ∧ es.toList = xs.map (entryOfKey (nestedKind PrW.P PrW.w)) ∧ (xs.map (·.1)).Nodup
mutual
/-- data as keys -/
def nk : D → Option NestedKey
  | .non => some .none
  | .bl b => some (.num (if b then 1 else 0))
  | .int i => some (.num i)
  | .str s => some (.text (tS s))
  | .tup xs => match nks xs with
    | some ks => some (.tup ks)
    | none => none
  | _ => none
def nks : List D → Option (List NestedKey)
  | [] => some []
  | x :: xs => match nk x, nks xs with
    | some k, some ks => some (k :: ks)
    | _, _ => none
end
def okTb (s : List Nat) : Bool := decide (s.length ≤ SZ) && s.all fun c => decide (c < 1114112)
theorem okTb_iff {s : List Nat} : okTb s = true ↔ okT s := by
  unfold okTb okT
  rw [strOk_iff, Bool.and_eq_true, decide_eq_true_eq, List.all_eq_true]
  simp only [decide_eq_true_eq]
def textK : D → Option Key
  | .str s => if okTb s = true then some (.inr (tS s)) else none
  | .int i => some (.inl i)
  | _ => none
mutual
inductive Rep (K : PySem.W.Frag) (H : Hp) : V → D → Prop
  | non : Rep K H .non .non
  | bl (b : Bool) : Rep K H (.bl b) (.bl b)
  | int (i : Int) : Rep K H (.int i) (.int i)
  | str (s : List Nat) : okT s → Rep K H (.str (tS s)) (.str s)
  | tup {a : Addr} {vs : List V} {ds : List D} : SqT K H a vs → vs.length ≤ SZ → Reps K H vs ds → Rep K H (.ref a) (.tup ds)
  | lst {a : Addr} {vs : List V} {ds : List D} : H a = some (.lst vs) → vs.length ≤ SZ → Reps K H vs ds → Rep K H (.ref a) (.lst ds)
  | dicT {a : Addr} {o : Obj} {xs : List (NestedKey × Addr × Value)} {vs : List V} {ks ds : List D} : H a = some (.ext (dicF a o xs)) → (a == sysModules) = false → xs.length ≤ SZ → ks.map nk = xs.map (fun x => some x.1) → D.deps ks ≤ 8 → Vals vs (xs.map (·.2.2)) →
      Reps K H (xs.map fun x => V.ref x.2.1) ks → Reps K H vs ds → Rep K H (.ref a) (.dic true ks ds)
  | dicS {a : Addr} {kvs : List (Key × V)} {ks ds : List D} : H a = some (.dK kvs) → kvs.length ≤ SZ → ks.map textK = kvs.map (fun x => some x.1) → Reps K H (kvs.map (·.2)) ds → Rep K H (.ref a) (.dic false ks ds)
  | scr {a : Addr} {vs : List V} {ds : List D} : SqL K H a vs → vs.length ≤ SZ → Reps K H vs ds → Rep K H (.ref a) (.scr ds)
  /-- a tuple whose very object is known: it has no dict of its own -/
  | ptp {a : Addr} {o : Obj} {vs : List V} {ds : List D} : H a = some (.frz o (.tup vs)) → o.dict = none → vs.length ≤ SZ → Reps K H vs ds → Rep K H (.ref a) (.itr ds)
inductive Reps (K : PySem.W.Frag) (H : Hp) : List V → List D → Prop
  | nil : Reps K H [] []
  | cons {v : V} {vs : List V} {d : D} {ds : List D} : Rep K H v d → Reps K H vs ds → Reps K H (v :: vs) (d :: ds)
end

theorem SqL.up {K : PySem.W.Frag} {H H' : Hp} {a : Addr} {xs : List V} (e : Sm H H') (h : SqL K H a xs) : SqL K H' a xs := e.seq h
theorem SqT.up {K : PySem.W.Frag} {H H' : Hp} {a : Addr} {xs : List V} (e : Sm H H') (h : SqT K H a xs) : SqT K H' a xs := by
  rcases h with h | h
  · rcases h with h | ⟨o, h⟩
    · exact .inl (.inl (e.tup h))
    · exact .inl (.inr ⟨o, e.frz h⟩)
  · exact .inr h
mutual
theorem Rep.up {K : PySem.W.Frag} {H H' : Hp} (e : Sm H H') : ∀ (d : D) (v : V), Rep K H v d → Rep K H' v d
  | .non, _, h => by cases h; exact .non
  | .bl _, _, h => by cases h; exact .bl _
  | .int _, _, h => by cases h; exact .int _
  | .str _, _, h => by cases h with | str _ q => exact .str _ q
  | .tup ds, _, h => by cases h with | tup s z r => exact .tup (SqT.up e s) z (Reps.up e ds _ r)
  | .lst ds, _, h => by cases h with | lst s z r => exact .lst (e.lst s) z (Reps.up e ds _ r)
  | .scr ds, _, h => by cases h with | scr s z r => exact .scr (SqL.up e s) z (Reps.up e ds _ r)
  | .dic t ks ds, _, h => by
    cases h with
    | dicT h1 h2 h3 h4 h5 h6 h7 h8 => exact .dicT (e.ext h1) h2 h3 h4 h5 h6 (Reps.up e ks _ h7) (Reps.up e ds _ h8)
    | dicS h1 h2 h3 h4 => exact .dicS (e.dK h1) h2 h3 (Reps.up e ds _ h4)
  | .itr ds, _, h => by cases h with | ptp s d z r => exact .ptp (e.frz s) d z (Reps.up e ds _ r)
theorem Reps.up {K : PySem.W.Frag} {H H' : Hp} (e : Sm H H') : ∀ (ds : List D) (vs : List V), Reps K H vs ds → Reps K H' vs ds
  | [], _, h => by cases h; exact .nil
  | d :: ds, _, h => by cases h with | cons a b => exact .cons (Rep.up e d _ a) (Reps.up e ds _ b)
end
theorem Reps.length {K : PySem.W.Frag} {H : Hp} : ∀ {vs : List V} {ds : List D}, Reps K H vs ds → vs.length = ds.length
  | _, _, .nil => rfl
  | _, _, .cons _ t => by simp [Reps.length t]
theorem Reps.app {K : PySem.W.Frag} {H : Hp} : ∀ {vs ws : List V} {ds es : List D}, Reps K H vs ds → Reps K H ws es → Reps K H (vs ++ ws) (ds ++ es)
  | _, _, _, _, .nil, h => h
  | _, _, _, _, .cons a t, h => .cons a (Reps.app t h)
theorem Reps.get {K : PySem.W.Frag} {H : Hp} : ∀ {vs : List V} {ds : List D} {i : Nat} {d : D}, Reps K H vs ds → ds[i]? = some d → ∃ v, vs[i]? = some v ∧ Rep K H v d
  | _, _, _, _, .nil, e => by simp at e
  | _, _, 0, _, .cons a _, e => by simp at e; subst e; exact ⟨_, rfl, a⟩
  | _, _, i + 1, d, .cons _ t, e => by
    obtain ⟨v, h1, h2⟩ := Reps.get (i := i) (d := d) t (by simpa using e)
    exact ⟨v, by simpa using h1, h2⟩
theorem Reps.take {K : PySem.W.Frag} {H : Hp} : ∀ {vs : List V} {ds : List D} (n : Nat), Reps K H vs ds → Reps K H (vs.take n) (ds.take n)
  | _, _, 0, _ => by simpa using .nil
  | _, _, _ + 1, .nil => .nil
  | _, _, n + 1, .cons a t => .cons a (Reps.take n t)
theorem Reps.drop {K : PySem.W.Frag} {H : Hp} : ∀ {vs : List V} {ds : List D} (n : Nat), Reps K H vs ds → Reps K H (vs.drop n) (ds.drop n)
  | _, _, 0, h => h
  | _, _, _ + 1, .nil => .nil
  | _, _, n + 1, .cons _ t => Reps.drop n t

/-! ### hidden addresses -/
def hid (A : List Addr) (H : Hp) : Hp := fun a => if a ∈ A then none else H a
theorem hid_nil (H : Hp) : hid [] H = H := by funext a; simp [hid]
theorem hid_in {A : List Addr} {H : Hp} {a : Addr} (h : a ∈ A) : hid A H a = none := if_pos h
theorem hid_out {A : List Addr} {H : Hp} {a : Addr} (h : a ∉ A) : hid A H a = H a := if_neg h
theorem hid_same (A : List Addr) (H : Hp) : L2.Same (hid A H) H := fun a o e => by
  by_cases h : a ∈ A
  · rw [hid_in h] at e; cases e
  · rwa [hid_out h] at e
theorem hid_sm (A : List Addr) (H : Hp) : Sm (hid A H) H := .of (hid_same A H)
theorem hid_upS {A : List Addr} {H H' : Hp} (e : Sm H H') : Sm (hid A H) (hid A H') := fun a o h n => by
  by_cases q : a ∈ A
  · rw [hid_in q] at h; cases h
  · rw [hid_out q] at h ⊢; exact e _ _ h n
theorem hid_up {A : List Addr} {H H' : Hp} (e : Same H H') : Sm (hid A H) (hid A H') := hid_upS e.sm
theorem hid_less {A B : List Addr} {H : Hp} (s : ∀ a, a ∈ A → a ∈ B) : Sm (hid B H) (hid A H) := fun a o h _ => by
  by_cases q : a ∈ B
  · rw [hid_in q] at h; cases h
  · rw [hid_out q] at h
    rw [hid_out fun z => q (s a z)]; exact h
theorem same_upd {H : Hp} {p : Addr} {o : HO} (h : H p = none) : Same H (upd H p o) := .of fun b x e => by
  rw [upd_ne (ne_of_none e h)]; exact e
/-- what stood is not at a new address -/
theorem hid_new {A : List Addr} {H : Hp} {p : Addr} (h : Nu H p) : Sm (hid A H) (hid (p :: A) H) := fun a o e nt => by
  by_cases q : a ∈ A
  · rw [hid_in q] at e; cases e
  · rw [hid_out q] at e
    have n : a ≠ p := fun z => h.no (by rw [← z]; exact e) nt
    rw [hid_out (by simp [n, q])]; exact e
theorem hid_upd {A : List Addr} {H : Hp} {p : Addr} {o : HO} (h : p ∈ A) : hid A (upd H p o) = hid A H := by
  funext a
  by_cases q : a ∈ A
  · rw [hid_in q, hid_in q]
  · rw [hid_out q, hid_out q, upd_ne (show a ≠ p from fun z => q (by rw [z]; exact h))]
/-- the hidden ones stand -/
def Live (A : List Addr) (H : Hp) : Prop := ∀ a ∈ A, ∃ o, H a = some o ∧ ∀ ps, o ≠ .tbl ps
theorem Live.up {A : List Addr} {H H' : Hp} (l : Live A H) (e : Same H H') : Live A H' := fun a h => let ⟨o, h1, h2⟩ := l a h; ⟨o, e.sm _ _ h1 h2, h2⟩
theorem Live.newN {A : List Addr} {H : Hp} (l : Live A H) {p : Addr} (h : Nu H p) : p ∉ A := fun z => let ⟨_, h1, h2⟩ := l p z; h.no h1 h2
theorem Live.new {A : List Addr} {H : Hp} (l : Live A H) {p : Addr} (h : H p = none) : p ∉ A := l.newN (.of h)

/-! ### the environment -/
structure RE (K : PySem.W.Frag) (A : List Addr) (H : Hp) (σ : L2.St) (ρ : EnvD) : Prop where
  live : Live A H
  tabs : TabsW H
  len : ρ.length = σ.length
  vals : ∀ (i : Nat) (d : D), ρ[i]? = some (some d) → ∃ v, σ[i]? = some (some v) ∧ Rep K (hid A H) v d
theorem RE.up {K : PySem.W.Frag} {A : List Addr} {H H' : Hp} {σ : L2.St} {ρ : EnvD} (r : RE K A H σ ρ) (e : Same H H') : RE K A H' σ ρ :=
  ⟨r.live.up e, e.tabs r.tabs, r.len, fun i d h => let ⟨v, h1, h2⟩ := r.vals i d h; ⟨v, h1, Rep.up (hid_up e) d v h2⟩⟩
theorem RE.set {K : PySem.W.Frag} {A : List Addr} {H : Hp} {σ : L2.St} {ρ : EnvD} (r : RE K A H σ ρ) {i : Nat} {v : V} {d : D} (h : Rep K (hid A H) v d) : RE K A H (σ.set i (some v)) (ρ.set i (some d)) := by
  refine ⟨r.live, r.tabs, by simp [r.len], fun j e q => ?_⟩
  by_cases hj : i = j
  · subst hj
    by_cases hl : i < ρ.length
    · rw [List.getElem?_set_self hl] at q
      cases q
      exact ⟨v, by rw [List.getElem?_set_self (by rw [← r.len]; exact hl)], h⟩
    · rw [List.getElem?_eq_none (by simpa using hl)] at q; cases q
  · rw [List.getElem?_set_ne hj] at q
    obtain ⟨w, h1, h2⟩ := r.vals j e q
    exact ⟨w, by rw [List.getElem?_set_ne hj]; exact h1, h2⟩
theorem wipeE_length (ρ : EnvD) : ∀ vs : List Nat, (wipeE ρ vs).length = ρ.length
  | [] => rfl
  | v :: vs => by unfold wipeE; rw [List.length_set, wipeE_length ρ vs]
theorem wipeE_some {ρ : EnvD} {i : Nat} {x : D} : ∀ {vs : List Nat}, (wipeE ρ vs)[i]? = some (some x) → ρ[i]? = some (some x) ∧ i ∉ vs
  | [], h => ⟨h, by simp⟩
  | v :: vs, h => by
    unfold wipeE at h
    by_cases hi : v = i
    · subst hi
      by_cases hv : v < (wipeE ρ vs).length
      · rw [List.getElem?_set_self hv] at h; cases h
      · rw [List.getElem?_eq_none (by simpa using hv)] at h; cases h
    · rw [List.getElem?_set_ne hi] at h
      obtain ⟨h1, h2⟩ := wipeE_some h
      exact ⟨h1, by simp only [List.mem_cons, not_or]; exact ⟨fun e => hi e.symm, h2⟩⟩
theorem wipe_get {σ : L2.St} {i : Nat} : ∀ {vs : List Nat}, i ∉ vs → (wipe σ vs)[i]? = σ[i]?
  | [], _ => rfl
  | v :: vs, h => by
    simp only [List.mem_cons, not_or] at h
    unfold wipe
    rw [List.getElem?_set_ne (Ne.symm h.1), wipe_get h.2]
theorem RE.wipe {K : PySem.W.Frag} {A : List Addr} {H : Hp} {σ : L2.St} {ρ : EnvD} (r : RE K A H σ ρ) (vs : List Nat) : RE K A H (L2.wipe σ vs) (wipeE ρ vs) := by
  refine ⟨r.live, r.tabs, by rw [wipeE_length, wipe_length, r.len], fun i d h => ?_⟩
  obtain ⟨h1, h2⟩ := wipeE_some h
  obtain ⟨v, q1, q2⟩ := r.vals i d h1
  exact ⟨v, by rw [wipe_get h2]; exact q1, q2⟩
/-- fewer slots are spoken of -/
theorem RE.forget {K : PySem.W.Frag} {A : List Addr} {H : Hp} {σ : L2.St} {ρ : EnvD} (r : RE K A H σ ρ) (vs : List Nat) : RE K A H σ (wipeE ρ vs) :=
  ⟨r.live, r.tabs, by rw [wipeE_length, r.len], fun i d h => r.vals i d (wipeE_some h).1⟩
end Snd
namespace Snd
open PySem PySem.Spec PyProof.Rows L2 Dt
variable [PrW]

/-! ### outcomes -/
abbrev RXT := Hp → Ex → Value → Option Addr → Prop
section
variable (RX : RXT) (W : WX)
def Out {α β : Type} (rel : Hp → β → α → Prop) (r : Res α) (σ : L2.St) (H : Hp) (Q : β → Hp → Prop) : Prop := match r with
  | .ok a => ∀ b H', Same H H' → rel H' b a → Q b H'
  | .exc e => ∀ cls dx H', Same H H' → RX H' e cls dx → W cls dx σ H'
  | .stuck => False
end
section
variable {RX : RXT} {W : WX} {α β γ δ : Type} {rel : Hp → β → α → Prop} {rel' : Hp → δ → γ → Prop} {σ : L2.St} {H H1 : Hp}
theorem Out.up {r : Res α} {Q : β → Hp → Prop} (h : Out RX W rel r σ H Q) (e : Same H H1) : Out RX W rel r σ H1 Q := by
  cases r with
  | ok a => exact fun b H' e' q => h b H' (e.trans e') q
  | exc x => exact fun c d H' e' q => h c d H' (e.trans e') q
  | stuck => exact h
theorem Out.bind {r : Res α} {f : α → Res γ} {Q : β → Hp → Prop} {Q' : δ → Hp → Prop} (h : Out RX W rel' (r >>= f) σ H Q')
    (k : ∀ a b H1, r = .ok a → Same H H1 → rel H1 b a → Out RX W rel' (f a) σ H1 Q' → Q b H1) : Out RX W rel r σ H Q := by
  cases r with
  | ok a => exact fun b H1 e q => k a b H1 rfl e q (Out.up h e)
  | exc x => exact h
  | stuck => exact h
theorem Out.ok {a : α} {Q : β → Hp → Prop} (h : Out RX W rel (.ok a) σ H Q) {b : β} {H' : Hp} (e : Same H H') (r : rel H' b a) : Q b H' := h b H' e r
theorem Out.must {c : Bool} {r : Res α} {Q : β → Hp → Prop} (h : Out RX W rel (must c r) σ H Q) : c = true ∧ Out RX W rel r σ H Q := by
  cases c with
  | true => exact ⟨rfl, h⟩
  | false => exact h.elim
theorem Out.imp {r : Res α} {Q Q' : β → Hp → Prop} (h : Out RX W rel r σ H Q) (k : ∀ b H', Same H H' → Q b H' → Q' b H') : Out RX W rel r σ H Q' := by
  cases r with
  | ok a => exact fun b H' e q => k b H' e (h b H' e q)
  | exc x => exact h
  | stuck => exact h
end

/-! ### readings -/
section
variable (K : PySem.W.Frag) (RX : RXT) (W : WX)
abbrev relE (A : List Addr) : Hp → V → D → Prop := fun H v d => Rep K (hid A H) v d
abbrev relA (A : List Addr) : Hp → List V → List D → Prop := fun H v d => Reps K (hid A H) v d
abbrev relT : Hp → Bool → Bool → Prop := fun _ b d => b = d
def tE (g : EnvD → Res D) : TE := fun σ H Q => ∃ A ρ, RE K A H σ ρ ∧ Out RX W (relE K A) (g ρ) σ H Q
def tA (g : EnvD → Res (List D)) : TA := fun σ H Q => ∃ A ρ, RE K A H σ ρ ∧ Out RX W (relA K A) (g ρ) σ H Q
def tT (g : EnvD → Res Bool) : TT := fun σ H Q => ∃ A ρ, RE K A H σ ρ ∧ Out RX W relT (g ρ) σ H Q
/-- a new list: its address is new, its items stand without it -/
abbrev relF (K : PySem.W.Frag) (A : List Addr) (H : Hp) : Hp → V → List D → Prop := fun H' v ds => ∃ p vs, v = .ref p ∧ Nu H p ∧ H' p = some (.lst vs) ∧ vs.length ≤ SZ ∧ Reps K (hid (p :: A) H') vs ds
def tF (g : EnvD → Res (List D)) : TE := fun σ H Q => ∃ A ρ, RE K A H σ ρ ∧ Out RX W (relF K A H) (g ρ) σ H Q
end
section
variable {X : Cx} {e : Expr} {es : List Expr}
theorem PEimp {t t' : TE} (h : PE X e t) (k : ∀ σ H Q, t' σ H Q → t σ H Q) : PE X e t' := ⟨fun pins s σ H Q I q => h.run pins s σ H Q I (k σ H Q q)⟩
theorem PSimp {X : Cx} {st : Stmt} {t t' : TS} (h : PS X st t) (k : ∀ D σ H, t' D σ H → t D σ H) : PS X st t' := ⟨fun pins s σ H D I q => h.run pins s σ H D I (k D σ H q)⟩
theorem PSsimp {X : Cx} {st : List Stmt} {t t' : TS} (h : PSs X st t) (k : ∀ D σ H, t' D σ H → t D σ H) : PSs X st t' := ⟨fun pins s σ H D I q => h.run pins s σ H D I (k D σ H q)⟩
theorem PTimp {t t' : TT} (h : PT X e t) (k : ∀ σ H Q, t' σ H Q → t σ H Q) : PT X e t' := ⟨fun pins s σ H Q I q => h.run pins s σ H Q I (k σ H Q q)⟩
theorem PWimp {t t' : TT} (h : PW X e t) (k : ∀ σ H Q, t' σ H Q → t σ H Q) : PW X e t' := ⟨fun wh pins s σ H Q I q => h.run wh pins s σ H Q I (k σ H Q q)⟩
theorem PAimp {t t' : TA} (h : PA X es t) (k : ∀ σ H Q, t' σ H Q → t σ H Q) : PA X es t' := ⟨fun pos pins s σ H Q I q => h.run pos pins s σ H Q I (k σ H Q q)⟩
end

/-! ### names and constants -/
section
variable {X : Cx} {RX : RXT} {W : WX} {K : PySem.W.Frag}
theorem de_var {i : Nat} {x : Str} {pos : Pos} (hN : X.N[i]? = some x) (hv : Vis X.env.scope x) (hd : (x == ("__debug__" : Str)) = false) (hcd : (x == ("__classdict__" : Str)) = false) :
    PE X (.Name x pos) (tE K RX W fun ρ => ρ.get i) := by
  refine PEimp (pe_var (i := i) hN hv hd hcd) fun σ H Q ⟨A, ρ, r, h⟩ => ?_
  show ∃ v, σ[i]? = some (some v) ∧ Q v H
  have h : Out RX W (relE K A) (ρ.get i) σ H Q := h
  unfold EnvD.get at h
  split at h
  · rename_i d q
    obtain ⟨v, h1, h2⟩ := r.vals i d q
    exact ⟨v, h1, h.ok (Same.refl H) h2⟩
  · exact h.elim
theorem de_int {i : Int} {j pos} : PE X (.Constant (.int i) j pos) (tE K RX W fun _ => .ok (.int i)) :=
  PEimp pe_int fun _ H _ ⟨_, _, _, h⟩ => h.ok (Same.refl H) (.int i)
theorem de_bl {b : Bool} {j pos} : PE X (.Constant (.bool b) j pos) (tE K RX W fun _ => .ok (.bl b)) :=
  PEimp pe_bl fun _ H _ ⟨_, _, _, h⟩ => h.ok (Same.refl H) (.bl b)
theorem de_non {j pos} : PE X (.Constant .none j pos) (tE K RX W fun _ => .ok .non) :=
  PEimp pe_non fun _ H _ ⟨_, _, _, h⟩ => h.ok (Same.refl H) .non
theorem okT_tx {s : String} (h : (tx s).length ≤ SZ) : okT (tx s) := ⟨h, strOk_iff.mpr fun c hc => by
  obtain ⟨k, _, rfl⟩ := List.mem_map.mp hc
  have := k.valid
  show k.val.toNat < 1114112
  simp only [UInt32.isValidChar, Nat.isValidChar] at this
  omega⟩
theorem de_str {s : String} {j pos} (h : (tx s).length ≤ SZ) : PE X (.Constant (.str (Str.ofString s)) j pos) (tE K RX W fun _ => .ok (.str (tx s))) := by
  refine PEimp pe_str fun _ H Q ⟨_, _, _, q⟩ => ?_
  have := q.ok (Same.refl H) (Rep.str (K := K) (tx s) (okT_tx h))
  rw [tS_tx] at this
  exact this
theorem de_con {x : Str} {v : V} {u : Value} {pos : Pos} {d : D} (hg : Gl X x) (hm : X.mg x = some u) (r : RelV v u) (hr : ∀ H, Rep K H v d) (hd : (x == ("__debug__" : Str)) = false) : PE X (.Name x pos) (tE K RX W fun _ => .ok d) :=
  PEimp (pe_glob hg hm r hd) fun _ H _ ⟨_, _, _, h⟩ => h.ok (Same.refl H) (hr _)

/-! ### argument lists, displays -/
theorem da_nil : PA X [] (tA K RX W fun _ => .ok []) := PAimp pa_nil fun _ H _ ⟨_, _, _, h⟩ => h.ok (Same.refl H) .nil
theorem da_cons {e : Expr} {es : List Expr} {ga : EnvD → Res D} {gs : EnvD → Res (List D)} (ha : PE X e (tE K RX W ga)) (hs : PA X es (tA K RX W gs)) (hst : starEach (e :: es) X.env = (false, eval e X.env) :: starEach es X.env) :
    PA X (e :: es) (tA K RX W fun ρ => do
      let x ← ga ρ
      let xs ← gs ρ
      .ok (x :: xs)) := by
  refine PAimp (pa_cons ha hs hst) fun σ H Q ⟨A, ρ, r, h⟩ => ?_
  refine ⟨A, ρ, r, h.bind fun d v H1 _ e1 q1 h1 => ?_⟩
  refine ⟨A, ρ, r.up e1, h1.bind fun ds vs H2 _ e2 q2 h2 => ?_⟩
  exact h2.ok (Same.refl _) (.cons (Rep.up (hid_up e2) d v q1) q2)
theorem de_tup {es : List Expr} {k pos} {gs : EnvD → Res (List D)} (hs : PA X es (tA K RX W gs)) (hl : ∀ ρ ds, gs ρ = .ok ds → ds.length ≤ SZ) :
    PE X (.Tuple es k pos) (tE K RX W fun ρ => do
      let ds ← gs ρ
      .ok (.tup ds)) := by
  refine PEimp (pe_tup hs) fun σ H Q ⟨A, ρ, r, h⟩ => ?_
  refine ⟨A, ρ, r, h.bind fun ds vs H1 eq e1 q1 h1 => ?_⟩
  have hz : vs.length ≤ SZ := by rw [q1.length]; exact hl _ _ eq
  refine ⟨SZ_eq ▸ hz, fun p hp => ?_⟩
  have e2 : Same H1 (upd H1 p (.tup vs)) := same_upd hp
  refine h1.ok e2 (.tup (.inl (.inl ?_)) hz (Reps.up (hid_up e2) ds vs q1))
  rw [hid_out ((r.live.up e1).new hp), upd_same]
theorem df_lst {es : List Expr} {pos} {gs : EnvD → Res (List D)} (hs : PA X es (tA K RX W gs)) (hl : ∀ ρ ds, gs ρ = .ok ds → ds.length ≤ SZ) :
    PE X (.List es pos) (tF K RX W gs) := by
  refine PEimp (pe_lst hs) fun σ H Q ⟨A, ρ, r, h⟩ => ?_
  refine ⟨A, ρ, r, ?_⟩
  generalize hg : gs ρ = w at h
  cases w with
  | exc x => exact h
  | stuck => exact h
  | ok ds =>
    intro vs H1 e1 q1
    have hz : vs.length ≤ SZ := by rw [q1.length]; exact hl _ _ hg
    refine ⟨SZ_eq ▸ hz, fun p hp => ?_⟩
    have e2 : Same H1 (upd H1 p (.lst vs)) := same_upd hp
    refine h _ _ (e1.trans e2) ⟨p, vs, rfl, e1.free hp, upd_same, hz, ?_⟩
    exact Reps.up ((hid_new (.of hp)).trans (hid_up e2)) ds vs q1
/-- a new list is a list -/
theorem de_of_df {e : Expr} {g : EnvD → Res (List D)} (h : PE X e (tF K RX W g)) : PE X e (tE K RX W fun ρ => do
    let ds ← g ρ
    .ok (.lst ds)) := by
  refine PEimp h fun σ H Q ⟨A, ρ, r, q⟩ => ⟨A, ρ, r, ?_⟩
  dsimp only at q
  generalize g ρ = w at q
  cases w with
  | exc x => exact q
  | stuck => exact q
  | ok ds =>
    rintro v H' e1 ⟨p, vs, rfl, h1, h2, hz, h3⟩
    refine q _ _ e1 (.lst ?_ hz (Reps.up (hid_less fun a ha => List.mem_cons_of_mem _ ha) ds vs h3))
    rw [hid_out (r.live.newN h1)]
    exact h2

/-! ### operators -/
/-- an operator's rule serves what the evaluator says -/
def OpD (K : PySem.W.Frag) (RX : RXT) (W : WX) (f : D → D → Res D) (r : R2) : Prop :=
  ∀ (A : List Addr) (σ : L2.St) (H : Hp) (x y : V) (a b : D) (Q : VK), Live A H → Rep K (hid A H) x a → Rep K (hid A H) y b → Out RX W (relE K A) (f a b) σ H Q → r x y H Q
theorem tOp_of {f : D → D → Res D} {r : R2} {ga gb : EnvD → Res D} (k : OpD K RX W f r) (σ : L2.St) (H : Hp) (Q : VK)
    (h : tE K RX W (fun ρ => do
      let x ← ga ρ
      let y ← gb ρ
      f x y) σ H Q) : tOp r (tE K RX W ga) (tE K RX W gb) σ H Q := by
  obtain ⟨A, ρ, r, h⟩ := h
  refine ⟨A, ρ, r, h.bind fun d v H1 _ e1 q1 h1 => ?_⟩
  refine ⟨A, ρ, r.up e1, h1.bind fun d2 v2 H2 _ e2 q2 h2 => ?_⟩
  exact k A σ H2 v v2 d d2 Q ((r.live.up e1).up e2) (Rep.up (hid_up e2) d v q1) q2 h2
theorem de_op {a b : Expr} {op : Operator} {pos} {ga gb : EnvD → Res D} {f : D → D → Res D} {r : R2} (ho : OpR X (binaryOp op) r) (k : OpD K RX W f r) (ha : PE X a (tE K RX W ga)) (hb : PE X b (tE K RX W gb)) :
    PE X (.BinOp a op b pos) (tE K RX W fun ρ => do
      let x ← ga ρ
      let y ← gb ρ
      f x y) := PEimp (pe_op ho ha hb) (tOp_of k)
theorem de_cmp {a b : Expr} {op : CmpOp} {pos} {ga gb : EnvD → Res D} {f : D → D → Res D} {r : R2} (ho : OpR X (compareOp op) r) (k : OpD K RX W f r) (ha : PE X a (tE K RX W ga)) (hb : PE X b (tE K RX W gb)) (hm : behindInMarks op b = false) :
    PE X (.Compare a [op] [b] pos) (tE K RX W fun ρ => do
      let x ← ga ρ
      let y ← gb ρ
      f x y) := PEimp (pe_cmpR ho ha hb hm) (tOp_of k)
end
end Snd
namespace Snd
open PySem PySem.Spec PyProof.Rows L2 Dt
/-! ### None looked for in a dict whose keys are tuples -/
section
variable {prog : Program} {w : World} {A : Around} {E : Value → Shared → Prop} {s : Shared}
theorem nested_ref_ne {h : Heap} {k : NestedKey} {b : Addr} (x : NestedIs h k (.ref b)) : NestedKey.beq k .none = false := by
  cases x
  simp [NestedKey.beq]
theorem dictFind_non {d : Addr} {o : Obj} {es : Array DictEntry} {ep : Nat} {h0 : Int} {xs : List (NestedKey × Addr × Value)} {Q : Option Nat → Shared → Prop} (hu : A.units + 8 < cLine)
    (ho : s.heap.get? d = some o) (hd : o.data = .dict es ep) (he : es.toList = xs.map (entryOfKey (nestedKind prog w))) (his : ∀ x ∈ xs, (nestedKind prog w).is s.heap x.1 x.2.1) (hq : Q none s) :
    wpAny (model prog w) A (dictFind d .none h0) Q E s := by
  have hmem : ∀ e ∈ es, ∃ x ∈ xs, e = entryOfKey (nestedKind prog w) x := by
    intro e hin
    have : e ∈ xs.map (entryOfKey (nestedKind prog w)) := he ▸ Array.mem_toList_iff.mpr hin
    obtain ⟨x, hx, rfl⟩ := List.mem_map.mp this
    exact ⟨x, hx, rfl⟩
  have eqN : ∀ e ∈ es, ∀ {Q : Bool → Shared → Prop}, Q false s → wpAny (model prog w) A (eqBool e.key .none) Q E s := by
    intro e hin Q hq
    obtain ⟨x, hx, rfl⟩ := hmem e hin
    have hb := his x hx
    refine eqAt_key x.1 .none A s _ _ hb.1 .none ?_ _ _ _ _ ?_
    · have : min x.1.depth NestedKey.none.depth ≤ 8 := Nat.le_trans (Nat.min_le_left _ _) hb.2
      omega
    · rw [nested_ref_ne hb.1]
      exact hq
  have hst : ∀ v ∈ (placesWithHash es.size (fun i => es[i]?.map (·.hash)) h0).filterMap (fun i => es[i]?.map (·.key)), ∃ k' b, v = .ref b ∧ (nestedKind prog w).is s.heap k' b := by
    intro v hv
    obtain ⟨i, _, hi⟩ := List.mem_filterMap.mp hv
    cases hei : es[i]? with
    | none => rw [hei] at hi; cases hi
    | some e =>
      rw [hei] at hi
      obtain rfl : e.key = v := by simpa using hi
      obtain ⟨x, hx, rfl⟩ := hmem e (Array.mem_of_getElem? hei)
      exact ⟨x.1, x.2.1, rfl, his x hx⟩
  unfold dictFind
  try with_reducible refine wpAny_holding ?_
  refine wpAny_bind (wpAny_dictEntries ho hd ?_)
  dsimp only
  by_cases hall : ((Value.none :: (placesWithHash es.size (fun i => es[i]?.map (·.hash)) h0).filterMap (fun i => es[i]?.map (·.key))).all carriedByValue) = true
  · rw [if_pos hall]
    unfold dictWalkPlain
    refine wpAny_bind ?_
    refine wpAny_forIn_list _ (fun rest r s' => s' = s ∧ r = (none, ())) _ ?_ ?_ _ _ ⟨rfl, rfl⟩
    · rintro x rest r s' ⟨rfl, rfl⟩
      dsimp only
      cases hx : es[x]? with
      | none => exact wpAny_pure ⟨rfl, rfl⟩
      | some e =>
        dsimp only
        by_cases hh : (e.hash == h0) = true
        · rw [if_pos hh]
          refine wpAny_bind (wpAny_dictEpoch ho hd (wpAny_bind (eqN e (Array.mem_of_getElem? hx) (wpAny_bind (wpAny_dictEpoch ho hd ?_)))))
          show wpAny _ _ (if (ep != ep) = true then _ else _) _ E _
          rw [if_neg (by simp)]
          simp only [Bool.false_eq_true, if_false]
          refine wpAny_bind (wpAny_rule ?_)
          exact wpAny_pure ⟨rfl, rfl⟩
        · rw [if_neg hh]
          exact wpAny_pure ⟨rfl, rfl⟩
    · rintro r s' ⟨rfl, rfl⟩
      exact wpAny_pure hq
  · rw [if_neg hall]
    have quiet0 : ∀ {Q : Bool → Shared → Prop}, Q true s → wpAny (model prog w) A (eqIsQuiet 8 .none) Q E s := fun h => QuietAt.byValue (n := 8) rfl A E _ h
    have tells : ∀ {Q : Bool → Shared → Prop}, Q false s → wpAny (model prog w) A (tableMayTell .none ((placesWithHash es.size (fun i => es[i]?.map (·.hash)) h0).filterMap (fun i => es[i]?.map (·.key)))) Q E s := by
      intro Q h
      generalize (placesWithHash es.size (fun i => es[i]?.map (·.hash)) h0).filterMap (fun i => es[i]?.map (·.key)) = stored at hst
      unfold tableMayTell
      by_cases hse : stored.isEmpty = true
      · rw [if_pos hse]
        exact wpAny_pure h
      · rw [if_neg hse]
        refine wpAny_bind (quiet0 ?_)
        simp only [Bool.not_true, Bool.false_eq_true, if_false]
        refine wpAny_bind ?_
        refine wpAny_forIn_list _ (fun rest r s' => s' = s ∧ r = (none, ()) ∧ ∀ v ∈ rest, ∃ k' b, v = .ref b ∧ (nestedKind prog w).is s.heap k' b) _ ?_ ?_ _ _ ⟨rfl, rfl, hst⟩
        · rintro x rest r s' ⟨rfl, rfl, hr⟩
          obtain ⟨k', b, rfl, hb⟩ := hr x List.mem_cons_self
          refine wpAny_bind ((nestedKind prog w).quiet hb ?_)
          simp only [Bool.not_true, Bool.false_eq_true, if_false]
          exact wpAny_pure ⟨rfl, rfl, fun v hv => hr v (List.mem_cons_of_mem _ hv)⟩
        · rintro r s' ⟨rfl, rfl, _⟩
          exact wpAny_pure h
    by_cases hone : (((placesWithHash es.size (fun i => es[i]?.map (·.hash)) h0).filterMap (fun i => es[i]?.map (·.key))) == [Value.none]) = true <;>
    (first | rw [if_pos hone] | rw [if_neg hone]) <;> (first | refine wpAny_bind (wpAny_pure ?_) | refine wpAny_bind (tells ?_)) <;> (
      rw [if_neg (by simp)]
      refine wpAny_bind ?_
      refine wpAny_forIn_list _ (fun rest r s' => s' = s ∧ r = (none, none)) _ ?_ ?_ _ _ ⟨rfl, rfl⟩
      · rintro x rest r s' ⟨rfl, rfl⟩
        dsimp only
        cases hx : es[x]? with
        | none => exact wpAny_pure ⟨rfl, rfl⟩
        | some e =>
          dsimp only
          by_cases hh : (e.hash == h0) = true
          · rw [if_pos hh]
            refine wpAny_bind (wpAny_dictEpoch ho hd (wpAny_bind (eqN e (Array.mem_of_getElem? hx) (wpAny_bind (wpAny_dictEpoch ho hd ?_)))))
            show wpAny _ _ (if (ep != ep) = true then _ else _) _ E _
            rw [if_neg (by simp)]
            simp only [Bool.false_eq_true, if_false]
            refine wpAny_bind (wpAny_rule ?_)
            first | rw [if_neg (by simp)] | skip
            first | exact wpAny_pure ⟨rfl, rfl⟩ | exact wpAny_bind (wpAny_pure (wpAny_pure ⟨rfl, rfl⟩))
          · rw [if_neg hh]
            exact wpAny_pure ⟨rfl, rfl⟩
      · rintro r s' ⟨rfl, rfl⟩
        exact wpAny_pure hq)
theorem dictGet_non {d : Addr} {xs : List (NestedKey × Addr × Value)} {Q : Option Value → Shared → Prop} (hu : A.units + 8 < cLine) (hm : s.heap.DictOfH (nestedKind prog w) d xs) (h : ∀ t, Q none { s with toks := t }) :
    wpAny (model prog w) A (dictGet d .none) Q E s := by
  obtain ⟨o, es, ep, ho, _, hd, he, his, hn⟩ := hm
  unfold dictGet
  try with_reducible refine wpAny_holding ?_
  refine wpAny_bind (pyHash_key .none .none A s _ .none (by simp [NestedKey.depth]; omega) (wpAny_bind (dictFind_non (s := { s with toks := s.toks + NestedKey.none.draws }) hu ho hd he his ?_)))
  exact wpAny_pure (h _)
theorem meets_get_non (d : Addr) (hd : (d == sysModules) = false) (dflt : Value) :
    MeetsIn prog w (Builtin.«dict.get» ⟨[.ref d, .none, dflt], []⟩) (fun A R s => A.in1.units + 8 < cLine ∧ ∃ xs, s.heap.DictOfH (nestedKind prog w) d xs ∧ ∀ t, R (.ok (.ret dflt)) { s with toks := t }) :=
  .of_wp fun A R s ⟨hu, xs, hm, h⟩ => by
    show wpAny _ _ (dictGet d .none >>= _) _ _ s
    refine wpAny_bind (dictGet_non hu hm fun t => ?_)
    show wpAny _ _ (Builtin.Dict.missed d .none >>= _) _ _ _
    exact wpAny_bind (wpAny_missed_other hd (wpAny_pure ⟨dflt, rfl, h t⟩))
end
end Snd
namespace Snd
open PySem PySem.Spec PyProof.Rows L2 Dt
variable [PrW]
/-! ### the state of a body: the lists and dicts it writes are its own -/
/-- the object at a is d's, its parts stand in Hh -/
inductive Own (K : PySem.W.Frag) (H Hh : Hp) (a : Addr) : D → Prop
  | lst {vs : List V} {ds : List D} : H a = some (.lst vs) → vs.length ≤ SZ → Reps K Hh vs ds → Own K H Hh a (.lst ds)
  | dicT {o : Obj} {xs : List (NestedKey × Addr × Value)} {vs : List V} {ks ds : List D} : H a = some (.ext (dicF a o xs)) → (a == sysModules) = false → xs.length ≤ SZ → ks.map nk = xs.map (fun x => some x.1) → D.deps ks ≤ 8 → Vals vs (xs.map (·.2.2)) →
      Reps K Hh (xs.map fun x => V.ref x.2.1) ks → Reps K Hh vs ds → Own K H Hh a (.dic true ks ds)
  | dicS {kvs : List (Key × V)} {ks ds : List D} : H a = some (.dK kvs) → kvs.length ≤ SZ → ks.map textK = kvs.map (fun x => some x.1) → Reps K Hh (kvs.map (·.2)) ds → Own K H Hh a (.dic false ks ds)
theorem Own.up {K : PySem.W.Frag} {H H' Hh Hh' : Hp} {a : Addr} {d : D} (o : Own K H Hh a d) (e : Sm H H') (e' : Sm Hh Hh') : Own K H' Hh' a d := by
  cases o with
  | lst h1 h2 h3 => exact .lst (e.lst h1) h2 (Reps.up e' _ _ h3)
  | dicT h1 h2 h3 h4 h5 h6 h7 h8 => exact .dicT (e.ext h1) h2 h3 h4 h5 h6 (Reps.up e' _ _ h7) (Reps.up e' _ _ h8)
  | dicS h1 h2 h3 h4 => exact .dicS (e.dK h1) h2 h3 (Reps.up e' _ _ h4)
/-- another object is written -/
theorem Own.other {K : PySem.W.Frag} {H Hh : Hp} {a b : Addr} {d : D} {o : HO} (w : Own K H Hh a d) (h : a ≠ b) : Own K (upd H b o) Hh a d := by
  cases w with
  | lst h1 h2 h3 => exact .lst (by rw [upd_ne h]; exact h1) h2 h3
  | dicT h1 h2 h3 h4 h5 h6 h7 h8 => exact .dicT (by rw [upd_ne h]; exact h1) h2 h3 h4 h5 h6 h7 h8
  | dicS h1 h2 h3 h4 => exact .dicS (by rw [upd_ne h]; exact h1) h2 h3 h4
theorem Own.rep {K : PySem.W.Frag} {H Hh Hs : Hp} {a : Addr} {d : D} (o : Own K H Hh a d) (e : Hs a = H a) (e' : Sm Hh Hs) : Rep K Hs (.ref a) d := by
  cases o with
  | lst h1 h2 h3 => exact .lst (by rw [e]; exact h1) h2 (Reps.up e' _ _ h3)
  | dicT h1 h2 h3 h4 h5 h6 h7 h8 => exact .dicT (by rw [e]; exact h1) h2 h3 h4 h5 h6 (Reps.up e' _ _ h7) (Reps.up e' _ _ h8)
  | dicS h1 h2 h3 h4 => exact .dicS (by rw [e]; exact h1) h2 h3 (Reps.up e' _ _ h4)
theorem Own.live {K : PySem.W.Frag} {H Hh : Hp} {a : Addr} {d : D} (o : Own K H Hh a d) : ∃ u, H a = some u ∧ (∀ xs, u ≠ .tup xs) ∧ ∀ o xs, u ≠ .frz o (.tup xs) := by
  cases o with
  | lst h1 => exact ⟨_, h1, fun _ z => (by cases z), fun _ _ z => (by cases z)⟩
  | dicT h1 => exact ⟨_, h1, fun _ z => (by cases z), fun _ _ z => (by cases z)⟩
  | dicS h1 => exact ⟨_, h1, fun _ z => (by cases z), fun _ _ z => (by cases z)⟩
/-! ### tables of code objects are not written by one's own writes -/
structure NC (u : HO) (a : Addr) : Prop where
  tbl : ∀ ps, u ≠ .tbl ps
  code : ∀ q, u ≠ LamX.CodeO a q
theorem heap_at (n : Nat) (o : Obj) (hf : o.isFreed = false) : ∃ h : Heap, h.get? n = some o := by
  have : ∃ h : Heap, h.objs.size = n := by
    induction n with
    | zero => exact ⟨{}, rfl⟩
    | succ n ih =>
      obtain ⟨h, e⟩ := ih
      exact ⟨h.push o, by rw [Heap.size_push, e]⟩
  obtain ⟨h, e⟩ := this
  exact ⟨h.push o, by rw [← e]; exact Heap.get?_push_size _ hf⟩
theorem nc_dicF {a : Addr} {o : Obj} {xs : List (NestedKey × Addr × Value)} : NC (.ext (dicF a o xs)) a := by
  refine ⟨fun _ z => (by cases z), fun q z => ?_⟩
  have z' : dicF a o xs = fun h => ∃ (oc : Obj) (vs : Array Value) (t : Tok), h.get? a = some oc ∧ oc.data = .fields vs ∧ vs[1]? = some (.str q t) := by
    unfold LamX.CodeO at z
    exact HO.ext.inj z
  obtain ⟨h, e⟩ := heap_at a { cls := .none, data := .fields #[.none, .str q default] } rfl
  have y : dicF a o xs h := by
    rw [z']
    exact ⟨_, _, _, e, rfl, rfl⟩
  obtain ⟨es, ep, h1, _, h2, _⟩ := y
  rw [e] at h1
  cases h1
  cases h2
theorem nc_lst {a : Addr} {xs : List V} : NC (.lst xs) a := ⟨fun _ z => (by cases z), fun q z => (by unfold LamX.CodeO at z; cases z)⟩
theorem nc_dK {a : Addr} {xs : List (Key × V)} : NC (.dK xs) a := ⟨fun _ z => (by cases z), fun q z => (by unfold LamX.CodeO at z; cases z)⟩
theorem Own.nc {K : PySem.W.Frag} {H Hh : Hp} {a : Addr} {d : D} (o : Own K H Hh a d) : ∃ u, H a = some u ∧ NC u a := by
  cases o with
  | lst h1 => exact ⟨_, h1, nc_lst⟩
  | dicT h1 => exact ⟨_, h1, nc_dicF⟩
  | dicS h1 => exact ⟨_, h1, nc_dK⟩
theorem tabs_upd {H : Hp} {a : Addr} {u o : HO} (t : TabsW H) (h : H a = some u) (n : NC u a) : TabsW (upd H a o) := fun p hp => by
  obtain ⟨ps, h1, h2, h3⟩ := t p hp
  have ne : p.1 ≠ a := fun z => by rw [z, h] at h1; exact n.tbl ps (Option.some.inj h1)
  refine ⟨ps, by rw [upd_ne ne]; exact h1, h2, fun pos cv hc => ?_⟩
  obtain ⟨c, e1, e2⟩ := h3 pos cv hc
  have nc : c ≠ a := fun z => by rw [z, h] at e2; exact n.code _ (Option.some.inj e2)
  exact ⟨c, e1, by rw [upd_ne nc]; exact e2⟩
theorem Same.write {H H1 : Hp} {p : Addr} {u o : HO} (e : Same H H1) (hn : Nu H p) (hu : H1 p = some u) (n : NC u p) : Same H (upd H1 p o) := by
  refine ⟨fun b x q nt => ?_, fun t => tabs_upd (e.tabs t) hu n⟩
  have ne : b ≠ p := fun z => hn.no (by rw [← z]; exact q) nt
  rw [upd_ne ne]
  exact e.sm _ _ q nt
/-! ### keys -/
mutual
theorem nk_of : ∀ d : D, d.keyB = true → ∃ k, nk d = some k ∧ k.depth = d.dep
  | .non, _ => ⟨_, rfl, by simp [NestedKey.depth, D.dep]⟩
  | .bl _, _ => ⟨_, rfl, by simp [NestedKey.depth, D.dep]⟩
  | .int _, _ => ⟨_, rfl, by simp [NestedKey.depth, D.dep]⟩
  | .str _, _ => ⟨_, rfl, by simp [NestedKey.depth, D.dep]⟩
  | .tup xs, h => by
    obtain ⟨ks, h1, h2⟩ := nks_of xs (by simpa [D.keyB] using h)
    exact ⟨.tup ks, by simp [nk, h1], by simp [NestedKey.depth, D.dep, h2]⟩
  | .lst _, h => by simp [D.keyB] at h
  | .dic _ _ _, h => by simp [D.keyB] at h
  | .scr _, h => by simp [D.keyB] at h
  | .itr _, h => by simp [D.keyB] at h
theorem nks_of : ∀ ds : List D, D.keyBs ds = true → ∃ ks, nks ds = some ks ∧ NestedKey.depthAll ks = D.deps ds
  | [], _ => ⟨[], by simp [nks], by simp [NestedKey.depthAll, D.deps]⟩
  | d :: ds, h => by
    simp only [D.keyBs, Bool.and_eq_true] at h
    obtain ⟨k, h1, h2⟩ := nk_of d h.1
    obtain ⟨ks, h3, h4⟩ := nks_of ds h.2
    exact ⟨k :: ks, by simp [nks, h1, h3], by simp [NestedKey.depthAll, D.deps, h2, h4]⟩
end
theorem nks_cons {d : D} {ds : List D} {ks : List NestedKey} (h : nks (d :: ds) = some ks) : ∃ k r, nk d = some k ∧ nks ds = some r ∧ ks = k :: r := by
  unfold nks at h
  cases h1 : nk d with
  | none => simp [h1] at h
  | some k =>
    cases h2 : nks ds with
    | none => simp [h1, h2] at h
    | some r => simp [h1, h2] at h; exact ⟨k, r, rfl, rfl, h.symm⟩
theorem nk_tup {xs : List D} {k : NestedKey} (h : nk (.tup xs) = some k) : ∃ ks, nks xs = some ks ∧ k = .tup ks := by
  unfold nk at h
  cases h1 : nks xs with
  | none => simp [h1] at h
  | some ks => simp [h1] at h; exact ⟨ks, rfl, h.symm⟩
mutual
theorem nk_eq : ∀ (a b : D) (x y : NestedKey), nk a = some x → nk b = some y → eqD a b = NestedKey.beq x y
  | .non, b, x, y, h1, h2 => by
    cases h1
    cases b <;> first | (cases h2; done) | (cases h2; simp [eqD, NestedKey.beq]; done) | (obtain ⟨ks, _, rfl⟩ := nk_tup h2; simp [eqD, NestedKey.beq])
  | .bl c, b, x, y, h1, h2 => by
    cases h1
    cases b <;> first | (cases h2; done) | (cases h2; cases c <;> simp [eqD, NestedKey.beq] <;> rfl; done) | (cases h2; simp [eqD, NestedKey.beq]; done) | (obtain ⟨ks, _, rfl⟩ := nk_tup h2; simp [eqD, NestedKey.beq]; done) | (rename_i d; cases h2; cases c <;> cases d <;> rfl) | (cases h2; simp only [eqD, NestedKey.beq]; rw [Bool.beq_eq_decide_eq])
  | .int c, b, x, y, h1, h2 => by
    cases h1
    cases b <;> first | (cases h2; done) | (cases h2; simp [eqD, NestedKey.beq]; done) | (obtain ⟨ks, _, rfl⟩ := nk_tup h2; simp [eqD, NestedKey.beq]; done) | (cases h2; simp only [eqD, NestedKey.beq]; rw [Bool.beq_eq_decide_eq])
  | .str c, b, x, y, h1, h2 => by
    cases h1
    cases b with
    | str d =>
      cases h2
      simp only [eqD, NestedKey.beq]
      by_cases q : c = d
      · subst q; simp
      · rw [decide_eq_false q, decide_eq_false fun z => q (tS_inj z)]
    | tup xs => obtain ⟨ks, _, rfl⟩ := nk_tup h2; simp [eqD, NestedKey.beq]
    | lst _ => cases h2
    | dic _ _ _ => cases h2
    | scr _ => cases h2
    | itr _ => cases h2
    | _ => cases h2; simp [eqD, NestedKey.beq]
  | .tup xs, b, x, y, h1, h2 => by
    obtain ⟨ks, e1, rfl⟩ := nk_tup h1
    cases b with
    | tup ys =>
      obtain ⟨ls, e2, rfl⟩ := nk_tup h2
      simp only [eqD, NestedKey.beq]
      exact nks_eq xs ys ks ls e1 e2
    | lst _ => cases h2
    | dic _ _ _ => cases h2
    | scr _ => cases h2
    | itr _ => cases h2
    | _ => cases h2; simp [eqD, NestedKey.beq]
  | .lst _, _, _, _, h1, _ => by cases h1
  | .dic _ _ _, _, _, _, h1, _ => by cases h1
  | .scr _, _, _, _, h1, _ => by cases h1
  | .itr _, _, _, _, h1, _ => by cases h1
theorem nks_eq : ∀ (a b : List D) (x y : List NestedKey), nks a = some x → nks b = some y → eqDs a b = NestedKey.beqAll x y
  | [], [], x, y, h1, h2 => by simp [nks] at h1 h2; subst h1 h2; simp [eqDs, NestedKey.beqAll]
  | [], b :: bs, x, y, h1, h2 => by
    obtain ⟨k, r, _, _, rfl⟩ := nks_cons h2
    simp [nks] at h1; subst h1; simp [eqDs, NestedKey.beqAll]
  | a :: as, [], x, y, h1, h2 => by
    obtain ⟨k, r, _, _, rfl⟩ := nks_cons h1
    simp [nks] at h2; subst h2; simp [eqDs, NestedKey.beqAll]
  | a :: as, b :: bs, x, y, h1, h2 => by
    obtain ⟨k, r, e1, e2, rfl⟩ := nks_cons h1
    obtain ⟨k2, r2, e3, e4, rfl⟩ := nks_cons h2
    simp only [eqDs, NestedKey.beqAll, nk_eq a b k k2 e1 e3, nks_eq as bs r r2 e2 e4]
end
theorem nk_dec {a b : D} {x y : NestedKey} (h1 : nk a = some x) (h2 : nk b = some y) : eqD a b = decide (x = y) := by
  rw [NestedKey.decide_eq]
  exact nk_eq a b x y h1 h2
theorem textK_str {s : List Nat} {k : Key} (h : textK (.str s) = some k) : okT s ∧ k = .inr (tS s) := by
  have h : (if okTb s = true then some (Sum.inr (tS s)) else none) = some k := h
  by_cases g : okTb s = true
  · rw [if_pos g] at h
    exact ⟨okTb_iff.mp g, (Option.some.inj h).symm⟩
  · rw [if_neg g] at h
    cases h
theorem textK_dec {a b : D} {x y : Key} (h1 : textK a = some x) (h2 : textK b = some y) : eqD a b = decide (x = y) := by
  cases a <;> first | (cases h1; done) | skip
  all_goals (cases b <;> first | (cases h2; done) | skip)
  · cases h1; cases h2; simp [eqD]
  · obtain ⟨_, rfl⟩ := textK_str h2
    cases h1; simp [eqD]
  · obtain ⟨_, rfl⟩ := textK_str h1
    cases h2; simp [eqD]
  · rename_i s t
    obtain ⟨_, rfl⟩ := textK_str h1
    obtain ⟨_, rfl⟩ := textK_str h2
    simp only [eqD]
    by_cases q : s = t
    · subst q; simp
    · rw [decide_eq_false q, decide_eq_false fun z => q (tS_inj (Sum.inr.inj z))]
theorem keyOk_t {q : D} (h : keyOk true q = true) : ∃ k, nk q = some k ∧ k.depth ≤ 8 ∧ q.dep ≤ 8 ∧ ∃ xs, q = .tup xs := by
  cases q with
  | tup xs =>
    simp only [keyOk, Bool.and_eq_true, decide_eq_true_eq] at h
    obtain ⟨k, h1, h2⟩ := nk_of (.tup xs) (by simpa [D.keyB] using h.1)
    have : (D.tup xs).dep = D.deps xs + 1 := by simp [D.dep]
    exact ⟨k, h1, by omega, by omega, xs, rfl⟩
  | _ => simp [keyOk] at h
theorem keyOk_f {K : PySem.W.Frag} {H : Hp} {v : V} {q : D} (r : Rep K H v q) (h : keyOk false q = true) : ∃ k, textK q = some k := by
  cases r <;> first | (simp [keyOk] at h; done) | exact ⟨_, rfl⟩ | skip
  rename_i s hs
  exact ⟨_, if_pos (okTb_iff.mpr hs)⟩
theorem textK_rep {K : PySem.W.Frag} {H : Hp} {v : V} {q : D} {k : Key} (r : Rep K H v q) (h : textK q = some k) : v = kV k := by
  cases r <;> first | (cases h; done) | (cases h; rfl) | skip
  obtain ⟨_, rfl⟩ := textK_str h
  rfl
section
variable {X : Cx} {pins : List (Addr × Obj)} {σ : L2.St} {H : Hp} {s : Shared}
mutual
theorem Rep.nest (I : Inv X pins σ H s) : ∀ (d : D) (v : V) (u : Value) (k : NestedKey), Rep X.K H v d → nk d = some k → RelV v u → NestedIs s.heap k u
  | .non, v, u, k, h, e, r => by cases h; cases e; cases (show u = Value.none from r); exact .none
  | .bl b, v, u, k, h, e, r => by cases h; cases e; cases (show u = Value.bool b from r); exact .bool rfl
  | .int i, v, u, k, h, e, r => by
    cases h; cases e
    obtain ⟨t, rfl⟩ := r
    exact .int _ _
  | .str x, v, u, k, h, e, r => by
    cases h; cases e
    obtain ⟨t, rfl⟩ := r
    exact .text _ _
  | .tup ds, v, u, k, h, e, r => by
    cases h with
    | @tup a vs _ hs hz hr =>
      cases (show u = Value.ref a from r)
      obtain ⟨ks, e1, rfl⟩ := nk_tup e
      obtain ⟨its, rv, ⟨o, h1, h2, n, h3⟩, _⟩ := I.tuple hs
      exact .tup h1 h2 h3 (by simpa using Reps.nest I ds vs its ks hr e1 rv)
  | .lst _, _, _, _, _, e, _ => by cases e
  | .dic _ _ _, _, _, _, _, e, _ => by cases e
  | .scr _, _, _, _, _, e, _ => by cases e
  | .itr _, _, _, _, _, e, _ => by cases e
theorem Reps.nest (I : Inv X pins σ H s) : ∀ (ds : List D) (vs : List V) (us : List Value) (ks : List NestedKey), Reps X.K H vs ds → nks ds = some ks → Vals vs us → NestedAll s.heap ks us
  | [], vs, us, ks, h, e, r => by
    cases h; simp [nks] at e; subst e; cases r; exact .nil
  | d :: ds, vs, us, ks, h, e, r => by
    cases h with
    | cons a b =>
      obtain ⟨k, rr, e1, e2, rfl⟩ := nks_cons e
      cases r with
      | cons r1 r2 => exact .cons (Rep.nest I d _ _ k a e1 r1) (Reps.nest I ds _ _ rr b e2 r2)
end
end
/-! ### a dict's parts -/
section
variable {K : PySem.W.Frag} {H : Hp}
theorem find_T {q : D} {k : NestedKey} (hq : nk q = some k) : ∀ {xs : List (NestedKey × Addr × Value)} {ks ds : List D} {vs : List V}, ks.map nk = xs.map (fun x => some x.1) → Vals vs (xs.map (·.2.2)) → Reps K H vs ds →
    (∀ d, findD q ks ds = some d → ∃ p v, atKey xs k = some p ∧ RelV v p.2 ∧ Rep K H v d) ∧ (findD q ks ds = none → atKey xs k = none)
  | [], ks, ds, vs, h1, h2, h3 => by
    cases ks with
    | nil => exact ⟨fun d h => by simp [findD] at h, fun _ => rfl⟩
    | cons _ _ => simp at h1
  | x :: xs, ks, ds, vs, h1, h2, h3 => by
    cases ks with
    | nil => simp at h1
    | cons a ks =>
      simp only [List.map_cons, List.cons.injEq] at h1
      rw [List.map_cons] at h2
      cases h2 with
      | @cons v u vs us r t =>
        cases h3 with
        | cons r3 t3 =>
          have e := nk_dec h1.1 hq
          by_cases c : x.1 = k
          · rw [decide_eq_true c] at e
            refine ⟨fun d h => ?_, fun h => ?_⟩
            · simp only [findD, e, if_true] at h
              cases h
              exact ⟨x.2, _, by simp [atKey, List.find?_cons, c], r, r3⟩
            · simp [findD, e] at h
          · rw [decide_eq_false c] at e
            have ih := find_T hq h1.2 t t3
            have ea : atKey (x :: xs) k = atKey xs k := by simp [atKey, List.find?_cons, c]
            rw [ea]
            simpa [findD, e] using ih
theorem find_K {q : D} {k : Key} (hq : textK q = some k) : ∀ {kvs : List (Key × V)} {ks ds : List D}, ks.map textK = kvs.map (fun x => some x.1) → Reps K H (kvs.map (·.2)) ds →
    (∀ d, findD q ks ds = some d → ∃ v, valV kvs k = some v ∧ Rep K H v d) ∧ (findD q ks ds = none → valV kvs k = none)
  | [], ks, ds, h1, h3 => by
    cases ks with
    | nil => exact ⟨fun d h => by simp [findD] at h, fun _ => rfl⟩
    | cons _ _ => simp at h1
  | x :: xs, ks, ds, h1, h3 => by
    cases ks with
    | nil => simp at h1
    | cons a ks =>
      simp only [List.map_cons, List.cons.injEq] at h1
      rw [List.map_cons] at h3
      cases h3 with
      | cons r3 t3 =>
        have e := textK_dec h1.1 hq
        by_cases c : x.1 = k
        · rw [decide_eq_true c] at e
          refine ⟨fun d h => ?_, fun h => ?_⟩
          · simp only [findD, e, if_true] at h
            cases h
            exact ⟨x.2, valV_pos c, r3⟩
          · simp [findD, e] at h
        · rw [decide_eq_false c] at e
          have ih := find_K hq h1.2 t3
          rw [valV_neg c]
          simpa [findD, e] using ih
theorem reps_len {vs : List V} {ds : List D} (h : Reps K H vs ds) : vs.length = ds.length := h.length
/-- in their places -/
theorem set_T {q e : D} {k : NestedKey} {v : V} {u : Value} (hq : nk q = some k) (rv : RelV v u) (re : Rep K H v e) : ∀ {xs : List (NestedKey × Addr × Value)} {ks ds : List D} {vs : List V}, ks.map nk = xs.map (fun x => some x.1) → Vals vs (xs.map (·.2.2)) → Reps K H vs ds →
    ∃ vs', Vals vs' ((xs.map (putAt k u)).map (·.2.2)) ∧ Reps K H vs' (setD q e ks ds)
  | [], ks, ds, vs, h1, h2, h3 => by
    cases h2
    cases h3
    exact ⟨[], .nil, by cases ks <;> simp [setD] <;> exact .nil⟩
  | x :: xs, ks, ds, vs, h1, h2, h3 => by
    cases ks with
    | nil => simp at h1
    | cons a ks =>
      simp only [List.map_cons, List.cons.injEq] at h1
      rw [List.map_cons] at h2
      cases h2 with
      | @cons v0 u0 vs us r t =>
        cases h3 with
        | cons r3 t3 =>
          have ee := nk_dec h1.1 hq
          obtain ⟨vs', g1, g2⟩ := set_T hq rv re h1.2 t t3
          by_cases c : x.1 = k
          · rw [decide_eq_true c] at ee
            refine ⟨v :: vs', ?_, ?_⟩
            · simp only [List.map_cons]
              refine .cons ?_ g1
              simpa [putAt, c] using rv
            · simp only [setD, ee, if_true]
              exact .cons re g2
          · rw [decide_eq_false c] at ee
            refine ⟨v0 :: vs', ?_, ?_⟩
            · simp only [List.map_cons]
              refine .cons ?_ g1
              simpa [putAt, c] using r
            · simp only [setD, ee]
              exact .cons r3 g2
theorem set_K {q e : D} {k : Key} {v : V} (hq : textK q = some k) (re : Rep K H v e) : ∀ {kvs : List (Key × V)} {ks ds : List D}, ks.map textK = kvs.map (fun x => some x.1) → Reps K H (kvs.map (·.2)) ds →
    Reps K H ((kvs.map fun kv => if kv.1 = k then (kv.1, v) else kv).map (·.2)) (setD q e ks ds)
  | [], ks, ds, h1, h3 => by
    cases h3
    cases ks <;> simp [setD] <;> exact .nil
  | x :: xs, ks, ds, h1, h3 => by
    cases ks with
    | nil => simp at h1
    | cons a ks =>
      simp only [List.map_cons, List.cons.injEq] at h1
      rw [List.map_cons] at h3
      cases h3 with
      | cons r3 t3 =>
        have ee := textK_dec h1.1 hq
        have ih := set_K hq re h1.2 t3
        by_cases c : x.1 = k
        · rw [decide_eq_true c] at ee
          simp only [List.map_cons, if_pos c, setD, ee, if_true]
          exact .cons re ih
        · rw [decide_eq_false c] at ee
          simp only [List.map_cons, if_neg c, setD, ee]
          exact .cons r3 ih
theorem deps_app : ∀ (a b : List D), D.deps (a ++ b) = max (D.deps a) (D.deps b)
  | [], b => by simp [D.deps]
  | x :: a, b => by simp only [List.cons_append, D.deps, deps_app a b]; omega
/-- d[k] = v, of a dict with tuple keys -/
theorem put_T {q e : D} {k : NestedKey} {v : V} {u : Value} {b : Addr} (hq : nk q = some k) (rv : RelV v u) (re : Rep K H v e) (rq : Rep K H (.ref b) q) (hd : q.dep ≤ 8) {xs : List (NestedKey × Addr × Value)} {ks ds : List D} {vs : List V} (h1 : ks.map nk = xs.map (fun x => some x.1)) (h2 : Vals vs (xs.map (·.2.2))) (h3 : Reps K H vs ds)
    (h4 : Reps K H (xs.map fun x => V.ref x.2.1) ks) (h5 : D.deps ks ≤ 8) :
    (putD q e (ks, ds)).1.map nk = (storedH xs k b u).map (fun x => some x.1) ∧ D.deps (putD q e (ks, ds)).1 ≤ 8 ∧ Reps K H ((storedH xs k b u).map fun x => V.ref x.2.1) (putD q e (ks, ds)).1 ∧
    ∃ vs', Vals vs' ((storedH xs k b u).map (·.2.2)) ∧ Reps K H vs' (putD q e (ks, ds)).2 := by
  obtain ⟨f1, f2⟩ := find_T hq h1 h2 h3
  unfold putD
  dsimp only
  cases hf : findD q ks ds with
  | some d =>
    obtain ⟨p, v0, g1, _, _⟩ := f1 d hf
    rw [if_pos (show (some d).isSome = true from rfl)]
    rw [storedH_old g1]
    obtain ⟨vs', k1, k2⟩ := set_T hq rv re h1 h2 h3
    refine ⟨?_, h5, ?_, vs', k1, k2⟩
    · rw [List.map_map]
      refine h1.trans (List.map_congr_left fun x hx => ?_)
      show some x.1 = some (putAt k u x).1
      unfold putAt
      split <;> rfl
    · rw [List.map_map]
      have e : (xs.map ((fun x => V.ref x.2.1) ∘ putAt k u)) = xs.map fun x => V.ref x.2.1 := List.map_congr_left fun x hx => by
        show V.ref (putAt k u x).2.1 = _
        unfold putAt
        split <;> rfl
      rw [e]
      exact h4
  | none =>
    rw [if_neg (by simp)]
    rw [storedH_new (f2 hf)]
    refine ⟨by simp [h1, hq], by rw [deps_app]; simp [D.deps]; omega, ?_, vs ++ [v], ?_, ?_⟩
    · rw [List.map_append]
      exact h4.app (.cons rq .nil)
    · rw [List.map_append]
      exact Vals.append h2 (.cons rv .nil)
    · exact h3.app (.cons re .nil)
theorem put_K {q e : D} {k : Key} {v : V} (hq : textK q = some k) (re : Rep K H v e) {kvs : List (Key × V)} {ks ds : List D} (h1 : ks.map textK = kvs.map (fun x => some x.1)) (h3 : Reps K H (kvs.map (·.2)) ds) :
    (putD q e (ks, ds)).1.map textK = (putK kvs k v).map (fun x => some x.1) ∧ Reps K H ((putK kvs k v).map (·.2)) (putD q e (ks, ds)).2 := by
  obtain ⟨f1, f2⟩ := find_K hq h1 h3
  unfold putD putK
  dsimp only
  rw [valV_any]
  cases hf : findD q ks ds with
  | some d =>
    obtain ⟨v0, g1, _⟩ := f1 d hf
    rw [if_pos (show (some d).isSome = true from rfl), g1, if_pos (show (some v0).isSome = true from rfl)]
    refine ⟨?_, set_K hq re h1 h3⟩
    rw [List.map_map]
    refine h1.trans (List.map_congr_left fun x hx => ?_)
    show some x.1 = some (if x.1 = k then (x.1, v) else x).1
    split <;> rfl
  | none =>
    rw [if_neg (by simp), f2 hf, if_neg (by simp)]
    refine ⟨by simp [h1, hq], ?_⟩
    rw [List.map_append]
    exact h3.app (.cons re .nil)
end

mutual
theorem nk_depth : ∀ (d : D) (k : NestedKey), nk d = some k → k.depth = d.dep
  | .non, k, h => by cases h; simp [NestedKey.depth, D.dep]
  | .bl _, k, h => by cases h; simp [NestedKey.depth, D.dep]
  | .int _, k, h => by cases h; simp [NestedKey.depth, D.dep]
  | .str _, k, h => by cases h; simp [NestedKey.depth, D.dep]
  | .tup xs, k, h => by
    obtain ⟨ks, h1, rfl⟩ := nk_tup h
    simp [NestedKey.depth, D.dep, nks_depth xs ks h1]
  | .lst _, _, h => by cases h
  | .dic _ _ _, _, h => by cases h
  | .scr _, _, h => by cases h
  | .itr _, _, h => by cases h
theorem nks_depth : ∀ (ds : List D) (ks : List NestedKey), nks ds = some ks → NestedKey.depthAll ks = D.deps ds
  | [], ks, h => by simp [nks] at h; subst h; simp [NestedKey.depthAll, D.deps]
  | d :: ds, ks, h => by
    obtain ⟨k, r, h1, h2, rfl⟩ := nks_cons h
    simp [NestedKey.depthAll, D.deps, nk_depth d k h1, nks_depth ds r h2]
end
/-! ### the rules of a dict -/
/-- X stands in this program -/
structure PrX (X : Cx) : Prop where
  p : PrW.P = X.prog
  w : PrW.w = X.w
section
variable {X : Cx} {pins : List (Addr × Obj)} {σ : L2.St} {H Hh : Hp} {s : Shared} {a : Addr}
theorem keys_at_T (I : Inv X pins σ H s) (sm : Sm Hh H) : ∀ {xs : List (NestedKey × Addr × Value)} {ks : List D}, ks.map nk = xs.map (fun x => some x.1) → D.deps ks ≤ 8 → Reps X.K Hh (xs.map fun x => V.ref x.2.1) ks → ∀ x ∈ xs, NestedIs s.heap x.1 (.ref x.2.1) ∧ x.1.depth ≤ 8
  | [], _, _, _, _ => fun x hx => nomatch hx
  | y :: xs, ks, h1, h2, h3 => by
    cases ks with
    | nil => simp at h1
    | cons k ks =>
      simp only [List.map_cons, List.cons.injEq] at h1
      rw [List.map_cons] at h3
      simp only [D.deps] at h2
      cases h3 with
      | cons r t =>
        intro x hx
        rcases List.mem_cons.mp hx with rfl | hx
        · refine ⟨Rep.nest I k _ _ _ (Rep.up sm _ _ r) h1.1 rfl, ?_⟩
          rw [nk_depth k _ h1.1]
          omega
        · exact keys_at_T I sm h1.2 (by omega) t x hx
theorem dictH_of (px : PrX X) (I : Inv X pins σ H s) (sm : Sm Hh H) {o : Obj} {xs : List (NestedKey × Addr × Value)} {ks : List D} (h0 : H a = some (.ext (dicF a o xs))) (h1 : ks.map nk = xs.map (fun x => some x.1)) (h2 : D.deps ks ≤ 8) (h3 : Reps X.K Hh (xs.map fun x => V.ref x.2.1) ks) :
    s.heap.DictOfH (nestedKind X.prog X.w) a xs := by
  obtain ⟨⟨es, ep, g1, g2, g3, g4, g5⟩, _⟩ := I.hok a _ h0
  refine ⟨o, es, ep, g1, g2, g3, ?_, keys_at_T I sm h1 h2 h3, g5⟩
  rw [← px.p, ← px.w]
  exact g4
theorem ext_of (px : PrX X) {h' : Heap} {xs : List (NestedKey × Addr × Value)} (d : h'.DictOfH (nestedKind X.prog X.w) a xs) : ∃ o, ∀ H', ObjOk X.prog X.w H' h' a (.ext (dicF a o xs)) := by
  obtain ⟨o, es, ep, g1, g2, g3, g4, _, g5⟩ := d
  rw [← px.p, ← px.w] at g4
  exact ⟨o, fun _ => ⟨⟨es, ep, g1, g2, g3, g4, g5⟩, ⟨o, g1⟩, fun h1 h2 ⟨es, ep, g1, r⟩ k => ⟨es, ep, k _ g1, r⟩⟩⟩
/-- it is a dict, with no attributes -/
theorem own_dict (px : PrX X) (I : Inv X pins σ H s) (sm : Sm Hh H) {t : Bool} {ks ds : List D} (ow : Own X.K H Hh a (.dic t ks ds)) : s.TypeIs (.ref a) "dict" ∧ (∀ b, Value.ref a = .ref b → ∃ ob, s.heap.get? b = some ob ∧ ob.dict = none) ∧ (a == sysModules) = false := by
  cases ow with
  | dicT h1 h2 h3 h4 h5 h6 h7 h8 =>
    have dd := dictH_of px I sm h1 h4 h5 h7
    refine ⟨dd.typeIs, fun b q => ?_, h2⟩
    cases q
    obtain ⟨ob, _, _, e1, e2, _⟩ := dd
    exact ⟨ob, e1, e2.2.1⟩
  | @dicS kvs _ _ h1 h2 h3 h4 => exact isD_at I (.inl ⟨kvs, .inl h1⟩)
/-- the key y -/
theorem key_T (I : Inv X pins σ H s) (sm : Sm Hh H) {y : V} {u : Value} {q : D} (ry : RelV y u) (rq : Rep X.K Hh y q) (ok : keyOk true q = true) : ∃ b k, y = .ref b ∧ u = .ref b ∧ nk q = some k ∧ (nestedKind X.prog X.w).is s.heap k b ∧ q.dep ≤ 8 := by
  obtain ⟨k, h1, h2, h3, xs, rfl⟩ := keyOk_t ok
  have n := Rep.nest I _ _ _ k (Rep.up sm _ _ rq) h1 ry
  cases rq with
  | @tup b vs _ _ _ _ =>
    cases (show u = Value.ref b from ry)
    exact ⟨b, k, rfl, rfl, h1, ⟨n, h2⟩, h3⟩
variable {A : Around} {E : Value → Shared → Prop} {y : V} {u : Value} {q : D} {t : Bool} {ks ds : List D}
/-- d[y] -/
theorem d_getD {d : D} {Q : Value → Shared → Prop} (px : PrX X) (hu : A.units + 10 < cLine) (I : Inv X pins σ H s) (sm : Sm Hh H) (ow : Own X.K H Hh a (.dic t ks ds)) (ry : RelV y u) (rq : Rep X.K Hh y q) (ok : keyOk t q = true) (hf : findD q ks ds = some d)
    (h : ∀ v w' s', Inv X pins σ H s' → RelV v w' → Rep X.K Hh v d → Q w' s') : wpAny (model X.prog X.w) A (getItem (.ref a) u) Q E s := by
  cases ow with
  | dicT h1 h2 h3 h4 h5 h6 h7 h8 =>
    obtain ⟨b, k, rfl, rfl, e1, e2, _⟩ := key_T I sm ry rq ok
    obtain ⟨p, v, g1, g2, g3⟩ := (find_T e1 h4 h6 h8).1 d hf
    exact wpAny_getItem_heap (knd := nestedKind X.prog X.w) (show A.units + 1 + 8 < cLine by omega) e2 (dictH_of px I sm h1 h4 h5 h7) g1 (h v _ _ (I.tok _) g2 g3)
  | @dicS kvs _ _ h1 h2 h3 h4 =>
    obtain ⟨k, e⟩ := keyOk_f rq ok
    obtain rfl := textK_rep rq e
    obtain ⟨v, g1, g2⟩ := (find_K e h3 h4).1 d hf
    have g : DGet H a (kV k) (some v) := by rw [← g1]; exact DGet.k h1
    exact d_getItem (by omega) I g ry fun w' s' I' r' => h v w' s' I' r' g2
theorem d_inD {Q : Value → Shared → Prop} (px : PrX X) (hu : A.units + 10 < cLine) (I : Inv X pins σ H s) (sm : Sm Hh H) (ow : Own X.K H Hh a (.dic t ks ds)) (ry : RelV y u) (rq : Rep X.K Hh y q) (ok : keyOk t q = true)
    (h : ∀ s', Inv X pins σ H s' → Q (.bool (findD q ks ds).isSome) s') : wpAny (model X.prog X.w) A (compareOp .In u (.ref a)) Q E s := by
  cases ow with
  | @dicT _ xs vs _ _ h1 h2 h3 h4 h5 h6 h7 h8 =>
    obtain ⟨b, k, rfl, rfl, e1, e2, _⟩ := key_T I sm ry rq ok
    obtain ⟨g1, g2⟩ := find_T e1 h4 h6 h8
    refine wpAny_in_heap (knd := nestedKind X.prog X.w) (show A.units + 1 + 8 < cLine by omega) e2 h2 (dictH_of px I sm h1 h4 h5 h7) ?_
    have e : (atKey xs k).isSome = (findD q ks ds).isSome := by
      cases hf : findD q ks ds with
      | some d => obtain ⟨p, v, g, _⟩ := g1 d hf; rw [g]; rfl
      | none => rw [g2 hf]; rfl
    rw [e]
    exact h _ (I.tok _)
  | @dicS kvs _ _ h1 h2 h3 h4 =>
    obtain ⟨k, e⟩ := keyOk_f rq ok
    obtain rfl := textK_rep rq e
    obtain ⟨g1, g2⟩ := find_K e h3 h4
    refine d_in (by omega) I (DGet.k h1) ry fun s' I' => ?_
    have e : (valV kvs k).isSome = (findD q ks ds).isSome := by
      cases hf : findD q ks ds with
      | some d => obtain ⟨v, g, _⟩ := g1 d hf; rw [g]; rfl
      | none => rw [g2 hf]; rfl
    rw [e]
    exact h _ I'
theorem d_notInD {Q : Value → Shared → Prop} (px : PrX X) (hu : A.units + 10 < cLine) (I : Inv X pins σ H s) (sm : Sm Hh H) (ow : Own X.K H Hh a (.dic t ks ds)) (ry : RelV y u) (rq : Rep X.K Hh y q) (ok : keyOk t q = true)
    (h : ∀ s', Inv X pins σ H s' → Q (.bool (!(findD q ks ds).isSome)) s') : wpAny (model X.prog X.w) A (compareOp .NotIn u (.ref a)) Q E s := by
  cases ow with
  | @dicT _ xs vs _ _ h1 h2 h3 h4 h5 h6 h7 h8 =>
    obtain ⟨b, k, rfl, rfl, e1, e2, _⟩ := key_T I sm ry rq ok
    obtain ⟨g1, g2⟩ := find_T e1 h4 h6 h8
    refine wpAny_notIn_heap (knd := nestedKind X.prog X.w) (show A.units + 1 + 8 < cLine by omega) e2 h2 (dictH_of px I sm h1 h4 h5 h7) ?_
    have e : (atKey xs k).isSome = (findD q ks ds).isSome := by
      cases hf : findD q ks ds with
      | some d => obtain ⟨p, v, g, _⟩ := g1 d hf; rw [g]; rfl
      | none => rw [g2 hf]; rfl
    rw [e]
    exact h _ (I.tok _)
  | @dicS kvs _ _ h1 h2 h3 h4 =>
    obtain ⟨k, e⟩ := keyOk_f rq ok
    obtain rfl := textK_rep rq e
    obtain ⟨g1, g2⟩ := find_K e h3 h4
    refine d_notIn (by omega) I (DGet.k h1) ry fun s' I' => ?_
    have e : (valV kvs k).isSome = (findD q ks ds).isSome := by
      cases hf : findD q ks ds with
      | some d => obtain ⟨v, g, _⟩ := g1 d hf; rw [g]; rfl
      | none => rw [g2 hf]; rfl
    rw [e]
    exact h _ I'
theorem keyOkN_t {q : D} (h : keyOkN true q = true) : q = .non ∨ keyOk true q = true := by
  cases q <;> first | exact .inl rfl | exact .inr h
/-- keys that are told by places are not None -/
theorem find_non {K : PySem.W.Frag} {Hh : Hp} : ∀ {xs : List (NestedKey × Addr × Value)} {ks ds : List D}, Reps K Hh (xs.map fun x => V.ref x.2.1) ks → findD .non ks ds = none
  | [], _, _, h => by
    cases h
    simp [findD]
  | x :: xs, _, ds, h => by
    rw [List.map_cons] at h
    cases h with
    | cons r t =>
      rename_i d ks
      cases ds with
      | nil => simp [findD]
      | cons e ds =>
        have ne : eqD d .non = false := by cases r <;> simp [eqD]
        simp only [findD, ne, Bool.false_eq_true, if_false]
        exact find_non t
/-- d.get(y, z) -/
theorem d_get2D {z : V} {r : Value} {e : D} {Q : Value → Shared → Prop} (px : PrX X) (hu : A.units + 10 < cLine) (I : Inv X pins σ H s) (sm : Sm Hh H) (ow : Own X.K H Hh a (.dic t ks ds)) (ry : RelV y u) (rq : Rep X.K Hh y q) (ok : keyOkN t q = true) (rz : RelV z r) (re : Rep X.K Hh z e)
    (h : ∀ v w' s', Inv X pins σ H s' → RelV v w' → Rep X.K Hh v ((findD q ks ds).getD e) → Q w' s') : wpAny (model X.prog X.w) A (call (.builtin "dict.get") [.ref a, u, r]) Q E s := by
  cases ow with
  | dicT h1 h2 h3 h4 h5 h6 h7 h8 =>
    rcases keyOkN_t ok with rfl | ok
    · cases rq
      cases (show u = .none from ry)
      have dd := dictH_of px I sm h1 h4 h5 h7
      refine call_meetsIn PySem.F.slot_dict_get dd.typeIs PySem.F.entry_dict_get (PySem.F.args_dict_get_3 _ _ _) (meets_get_non a h2 r) ⟨show A.units + 1 + 8 < cLine by omega, _, dd, fun t => ?_⟩
      refine h z _ _ (I.kept (t' := t) fun _ _ x => x) rz ?_
      rw [find_non h7]
      exact re
    obtain ⟨b, k, rfl, rfl, e1, e2, _⟩ := key_T I sm ry rq ok
    obtain ⟨g1, g2⟩ := find_T e1 h4 h6 h8
    have dd := dictH_of px I sm h1 h4 h5 h7
    refine call_meetsIn PySem.F.slot_dict_get dd.typeIs PySem.F.entry_dict_get (PySem.F.args_dict_get_3 _ _ _) (meetsH_dict_get_default (nestedKind X.prog X.w) a b h2 r) ⟨show A.units + 1 + 8 < cLine by omega, k, _, e2, dd, ?_⟩
    cases hf : findD q ks ds with
    | some d =>
      obtain ⟨p, v, g, g3, g4⟩ := g1 d hf
      rw [g]
      exact h v _ _ (I.tok _) g3 (by rw [hf]; exact g4)
    | none =>
      rw [g2 hf]
      exact h z _ _ (I.tok _) rz (by rw [hf]; exact re)
  | @dicS kvs _ _ h1 h2 h3 h4 =>
    replace ok : keyOk false q = true := ok
    obtain ⟨k, e0⟩ := keyOk_f rq ok
    obtain rfl := textK_rep rq e0
    obtain ⟨g1, g2⟩ := find_K e0 h3 h4
    refine d_get2 (by omega) I (DGet.k h1) ry rz fun w' s' I' r' => ?_
    cases hf : findD q ks ds with
    | some d =>
      obtain ⟨v, g, g4⟩ := g1 d hf
      rw [g] at r'
      exact h v w' s' I' r' (by rw [hf]; exact g4)
    | none =>
      rw [g2 hf] at r'
      exact h z w' s' I' r' (by rw [hf]; exact re)
/-- d[y] = z -/
theorem d_setD {z : V} {r : Value} {e : D} {Q : Unit → Shared → Prop} (px : PrX X) (hu : A.units + 10 < cLine) (I : Inv X pins σ H s) (sm : Sm Hh H) (ow : Own X.K H Hh a (.dic t ks ds)) (ry : RelV y u) (rq : Rep X.K Hh y q) (ok : keyOk t q = true) (rz : RelV z r) (re : Rep X.K Hh z e) (hz : ks.length < SZ)
    (h : ∀ ob s', Inv X pins σ (upd H a ob) s' → Own X.K (upd H a ob) Hh a (.dic t (putD q e (ks, ds)).1 (putD q e (ks, ds)).2) → Q () s') : wpAny (model X.prog X.w) A (setItem (.ref a) u r) Q E s := by
  cases ow with
  | @dicT _ xs vs _ _ h1 h2 h3 h4 h5 h6 h7 h8 =>
    obtain ⟨b, k, rfl, rfl, e1, e2, e3⟩ := key_T I sm ry rq ok
    have hl : xs.length = ks.length := by
      have := congrArg List.length h4
      simpa using this.symm
    obtain ⟨g1, g2, g3, vs', g4, g5⟩ := put_T (b := b) e1 rz re rq e3 h4 h6 h8 h7 h5
    refine wpAny_setItem_heap (knd := nestedKind X.prog X.w) (hsz := by rw [← SZ_eq]; exact h3) (show A.units + 1 + 8 < cLine by omega) e2 (dictH_of px I sm h1 h4 h5 h7) fun h' dd' hs => ?_
    have he : ∃ q, h'.get? a = some q := let ⟨q, _, _, hq, _⟩ := dd'; ⟨q, hq⟩
    obtain ⟨o', eo⟩ := ext_of px dd'
    refine h (.ext (dicF a o' (storedH xs k b r))) _ (d_write I (by rw [h1]; exact True.intro) hs he (eo _)) (.dicT upd_same h2 ?_ g1 g2 g4 g3 g5)
    have := storedH_length xs k b r
    omega
  | @dicS kvs _ _ h1 h2 h3 h4 =>
    obtain ⟨k, e0⟩ := keyOk_f rq ok
    obtain rfl := textK_rep rq e0
    have hl : kvs.length = ks.length := by
      have := congrArg List.length h3
      simpa using this.symm
    obtain ⟨g1, g2⟩ := put_K e0 re h3 h4
    refine d_setItem (by omega) I (DPut.k (v := z) h1 (by rw [← SZ_eq]; omega)) ry rz fun s' I' => h _ s' I' (.dicS upd_same ?_ g1 g2)
    have := length_putK kvs k z
    omega
/-- {} -/
theorem own_empty (px : PrX X) (I : Inv X pins σ H s) (t : Bool) : ∃ ob, (∀ (t' : Nat), Inv X pins σ (upd H s.heap.objs.size ob) { s with heap := s.heap.push { cls := .type "dict", data := .dict #[] }, toks := t' }) ∧ ∀ Hh, Own X.K (upd H s.heap.objs.size ob) Hh s.heap.objs.size (.dic t [] []) := by
  have hm : (s.heap.objs.size == sysModules) = false := beq_eq_false_iff_ne.mpr (Ne.symm (Nat.ne_of_lt I.big))
  cases t with
  | true =>
    refine ⟨.ext (dicF s.heap.objs.size { cls := .type "dict", data := .dict #[] } []), fun t' => I.laid (fun _ _ q => Heap.get?_push_of_some _ q) (Nat.le_refl _) ?_, fun Hh => .dicT (vs := []) upd_same hm (Nat.zero_le _) rfl (by simp [D.deps]) .nil .nil .nil⟩
    exact ⟨⟨#[], 0, Heap.get?_push_size _ rfl, ⟨rfl, rfl, rfl⟩, rfl, rfl, List.nodup_nil⟩, ⟨_, Heap.get?_push_size _ rfl⟩, fun h1 h2 ⟨es, ep, g1, r⟩ k => ⟨es, ep, k _ g1, r⟩⟩
  | false =>
    exact ⟨.dK [], fun t' => I.laid (fun _ _ q => Heap.get?_push_of_some _ q) (Nat.le_refl _) (dk_empty s.heap I.big), fun Hh => .dicS upd_same (Nat.zero_le _) rfl .nil⟩
end
end Snd
namespace Snd
open PySem PySem.Spec PyProof.Rows L2 Dt
variable [PrW]

/-! ### data as the library's data -/
mutual
def py : D → PyData
  | .non => .none
  | .bl b => .bool b
  | .int i => .int i
  | .str s => .str (tS s)
  | .tup xs => .tuple (pys xs)
  | .lst xs => .list (pys xs)
  | .dic _ _ _ => .dict []
  | .scr xs => .list (pys xs)
  | .itr xs => .list (pys xs)
def pys : List D → List PyData
  | [] => []
  | x :: xs => py x :: pys xs
end
theorem pys_map : ∀ xs : List D, pys xs = xs.map py
  | [] => rfl
  | x :: xs => by simp [pys, pys_map xs]
mutual
theorem py_dep : ∀ d : D, d.plain = true → (py d).depth = d.dep
  | .non, _ => by simp [py, PyData.depth, D.dep]
  | .bl _, _ => by simp [py, PyData.depth, D.dep]
  | .int _, _ => by simp [py, PyData.depth, D.dep]
  | .str _, _ => by simp [py, PyData.depth, D.dep]
  | .tup xs, h => by
    have := pys_dep xs (by simpa [D.plain] using h)
    simp only [py, PyData.depth, D.dep, this] <;> omega
  | .lst xs, h => by
    have := pys_dep xs (by simpa [D.plain] using h)
    simp only [py, PyData.depth, D.dep, this] <;> omega
  | .dic _ _ _, h => by simp [D.plain] at h
  | .scr _, h => by simp [D.plain] at h
  | .itr _, h => by simp [D.plain] at h
theorem pys_dep : ∀ ds : List D, D.plains ds = true → PyData.depthAll (pys ds) = D.deps ds
  | [], _ => by simp [pys, PyData.depthAll, D.deps]
  | x :: xs, h => by
    simp only [D.plains, Bool.and_eq_true] at h
    simp only [pys, PyData.depthAll, D.deps, py_dep x h.1, pys_dep xs h.2]
end
mutual
theorem py_eqv : ∀ a b : D, a.plain = true → b.plain = true → PyData.eqv (py a) (py b) = eqD a b
  | .tup xs, b, ha, hb => by
    cases b with
    | tup ys =>
      simp only [py, PyData.eqv, eqD]
      exact pys_eqv xs ys (by simpa [D.plain] using ha) (by simpa [D.plain] using hb)
    | dic _ _ _ => simp [D.plain] at hb
    | scr _ => simp [D.plain] at hb
    | itr _ => simp [D.plain] at hb
    | _ => simp [py, PyData.eqv, eqD]
  | .lst xs, b, ha, hb => by
    cases b with
    | lst ys =>
      simp only [py, PyData.eqv, eqD]
      exact pys_eqv xs ys (by simpa [D.plain] using ha) (by simpa [D.plain] using hb)
    | dic _ _ _ => simp [D.plain] at hb
    | scr _ => simp [D.plain] at hb
    | itr _ => simp [D.plain] at hb
    | _ => simp [py, PyData.eqv, eqD]
  | .non, b, _, hb => by
    cases b with
    | dic _ _ _ => simp [D.plain] at hb
    | scr _ => simp [D.plain] at hb
    | itr _ => simp [D.plain] at hb
    | _ => simp [py, PyData.eqv, eqD]
  | .bl _, b, _, hb => by
    cases b with
    | dic _ _ _ => simp [D.plain] at hb
    | scr _ => simp [D.plain] at hb
    | itr _ => simp [D.plain] at hb
    | _ => simp [py, PyData.eqv, eqD]
  | .int i, b, _, hb => by
    cases b with
    | dic _ _ _ => simp [D.plain] at hb
    | scr _ => simp [D.plain] at hb
    | itr _ => simp [D.plain] at hb
    | int j => simp only [py, PyData.eqv, eqD]; rw [Bool.beq_eq_decide_eq]
    | _ => simp [py, PyData.eqv, eqD]
  | .str s, b, _, hb => by
    cases b with
    | dic _ _ _ => simp [D.plain] at hb
    | scr _ => simp [D.plain] at hb
    | itr _ => simp [D.plain] at hb
    | str t =>
      simp only [py, PyData.eqv, eqD]
      by_cases h : s = t
      · subst h; simp
      · rw [decide_eq_false h, beq_eq_false_iff_ne]
        exact fun q => h (tS_inj q)
    | _ => simp [py, PyData.eqv, eqD]
  | .dic _ _ _, _, h, _ => by simp [D.plain] at h
  | .scr _, _, h, _ => by simp [D.plain] at h
  | .itr _, _, h, _ => by simp [D.plain] at h
theorem pys_eqv : ∀ a b : List D, D.plains a = true → D.plains b = true → PyData.eqvAll (pys a) (pys b) = eqDs a b
  | [], [], _, _ => by simp [pys, PyData.eqvAll, eqDs]
  | [], _ :: _, _, _ => by simp [pys, PyData.eqvAll, eqDs]
  | _ :: _, [], _, _ => by simp [pys, PyData.eqvAll, eqDs]
  | x :: xs, y :: ys, ha, hb => by
    simp only [D.plains, Bool.and_eq_true] at ha hb
    simp only [pys, PyData.eqvAll, eqDs, py_eqv x y ha.1 hb.1, pys_eqv xs ys ha.2 hb.2]
end
section
variable {K : PySem.W.Frag} {H : Hp}
mutual
theorem Rep.dp : ∀ (d : D) (v : V), Rep K H v d → d.plain = true → Dp K H v (py d) ∧ (py d).canLay0 = true
  | .non, _, h, _ => by cases h; exact ⟨.non, by simp [py, PyData.canLay0]⟩
  | .bl _, _, h, _ => by cases h; exact ⟨.bl _, by simp [py, PyData.canLay0]⟩
  | .int _, _, h, _ => by cases h; exact ⟨.int _, by simp [py, PyData.canLay0]⟩
  | .str _, _, h, _ => by
    cases h with | str _ q => exact ⟨.str _, by simpa [py, PyData.canLay0] using q.2⟩
  | .tup ds, _, h, p => by
    cases h with
    | tup s z r =>
      obtain ⟨h1, h2⟩ := Reps.dp ds _ r (by simpa [D.plain] using p)
      exact ⟨.tup s h1, by simpa [py, PyData.canLay0] using h2⟩
  | .lst ds, _, h, p => by
    cases h with
    | lst s z r =>
      obtain ⟨h1, h2⟩ := Reps.dp ds _ r (by simpa [D.plain] using p)
      exact ⟨.lst (SqL.of s) h1, by simpa [py, PyData.canLay0] using h2⟩
  | .dic _ _ _, _, _, p => by simp [D.plain] at p
  | .scr _, _, _, p => by simp [D.plain] at p
  | .itr _, _, _, p => by simp [D.plain] at p
theorem Reps.dp : ∀ (ds : List D) (vs : List V), Reps K H vs ds → D.plains ds = true → DpAll K H vs (pys ds) ∧ PyData.canLayAll0 (pys ds) = true
  | [], _, h, _ => by cases h; exact ⟨.nil, by simp [pys, PyData.canLayAll0]⟩
  | d :: ds, _, h, p => by
    simp only [D.plains, Bool.and_eq_true] at p
    cases h with
    | cons a b =>
      obtain ⟨h1, h2⟩ := Rep.dp d _ a p.1
      obtain ⟨h3, h4⟩ := Reps.dp ds _ b p.2
      exact ⟨.cons h1 h3, by simp [pys, PyData.canLayAll0, h2, h4]⟩
end
end

/-! ### == and in, by values -/
section
variable {X : Cx} {RX : RXT} {W : WX} {K : PySem.W.Frag}
def rEqR (K : PySem.W.Frag) (neg : Bool) : R2 := fun x y H Q => ∃ a b, Rep K H x a ∧ Rep K H y b ∧ eqOk a b = true ∧ Q (.bl (neg != eqD a b)) H
theorem eqOk_of {a b : D} (h : eqOk a b = true) : a.plain = true ∧ b.plain = true ∧ min a.dep b.dep ≤ 100 := by
  simp only [eqOk, Bool.and_eq_true, Bool.or_eq_true, decide_eq_true_eq] at h
  exact ⟨h.1.1, h.1.2, by omega⟩
theorem op_eqR (hu : X.A.units + 120 < cLine) : OpR X (compareOp .Eq) (rEqR X.K false) := by
  intro pins s σ H x y v u Q I rx ry h
  obtain ⟨a, b, ha, hb, ok, q⟩ := h
  obtain ⟨pa, pb, hd⟩ := eqOk_of ok
  obtain ⟨da, la⟩ := Rep.dp a x ha pa
  obtain ⟨db, lb⟩ := Rep.dp b y hb pb
  obtain ⟨as, r1⟩ := Dp.reads I _ x v da rx
  obtain ⟨bs, r2⟩ := Dp.reads I _ y u db ry
  refine SeqAt.compareEq_reads r1 r2 la lb (by rw [py_dep a pa, py_dep b pb]; omega) ⟨.bl _, H, I, ?_, q⟩
  rw [py_eqv a b pa pb]
  cases eqD a b <;> rfl
theorem op_neR (hu : X.A.units + 120 < cLine) : OpR X (compareOp .NotEq) (rEqR X.K true) := by
  intro pins s σ H x y v u Q I rx ry h
  obtain ⟨a, b, ha, hb, ok, q⟩ := h
  obtain ⟨pa, pb, hd⟩ := eqOk_of ok
  obtain ⟨da, la⟩ := Rep.dp a x ha pa
  obtain ⟨db, lb⟩ := Rep.dp b y hb pb
  obtain ⟨as, r1⟩ := Dp.reads I _ x v da rx
  obtain ⟨bs, r2⟩ := Dp.reads I _ y u db ry
  refine SeqAt.compareNe_reads r1 r2 la lb (by rw [py_dep a pa, py_dep b pb]; omega) ⟨.bl _, H, I, ?_, q⟩
  rw [py_eqv a b pa pb]
  cases eqD a b <;> rfl
theorem any_py (a : D) (pa : a.plain = true) : ∀ ys : List D, D.plains ys = true → ((pys ys).any fun y => PyData.eqv y (py a)) = ys.any fun y => eqD y a
  | [], _ => by simp [pys]
  | y :: ys, h => by
    simp only [D.plains, Bool.and_eq_true] at h
    simp only [pys, List.any_cons, any_py a pa ys h.2, py_eqv y a h.1 pa]
def rInR (K : PySem.W.Frag) (neg : Bool) : R2 := fun x y H Q => ∃ a ys, Rep K H x a ∧ (Rep K H y (.lst ys) ∨ Rep K H y (.tup ys)) ∧ a.plain = true ∧ D.plains ys = true ∧ a.dep ≤ 100 ∧ Q (.bl (neg != ys.any fun z => eqD z a)) H
theorem op_inR (hu : X.A.units + 120 < cLine) : OpR X (compareOp .In) (rInR X.K false) := by
  intro pins s σ H x y v u Q I rx ry h
  obtain ⟨a, ys, ha, hb, pa, pb, hd, q⟩ := h
  obtain ⟨da, la⟩ := Rep.dp a x ha pa
  obtain ⟨as, r1⟩ := Dp.reads I _ x v da rx
  have hq : EP X pins σ Q (.bool ((pys ys).any fun y => PyData.eqv y (py a))) s := by
    refine ⟨.bl _, H, I, ?_, q⟩
    rw [any_py a pa ys pb]
    cases (ys.any fun z => eqD z a) <;> rfl
  rcases hb with hb | hb
  · obtain ⟨db, lb⟩ := Rep.dp (.lst ys) y hb (by simpa [D.plain] using pb)
    obtain ⟨bs, r2⟩ := Dp.reads I _ y u db ry
    simp only [py, PyData.canLay0] at r2 lb
    refine SeqAt.in_list_reads r2 r1 lb la ?_ hq
    have := py_dep a pa
    omega
  · obtain ⟨db, lb⟩ := Rep.dp (.tup ys) y hb (by simpa [D.plain] using pb)
    obtain ⟨bs, r2⟩ := Dp.reads I _ y u db ry
    simp only [py, PyData.canLay0] at r2 lb
    refine SeqAt.in_tuple_reads r2 r1 lb la ?_ hq
    have := py_dep a pa
    omega
theorem op_ninR (hu : X.A.units + 120 < cLine) : OpR X (compareOp .NotIn) (rInR X.K true) := by
  intro pins s σ H x y v u Q I rx ry h
  obtain ⟨a, ys, ha, hb, pa, pb, hd, q⟩ := h
  obtain ⟨da, la⟩ := Rep.dp a x ha pa
  obtain ⟨as, r1⟩ := Dp.reads I _ x v da rx
  have hq : EP X pins σ Q (.bool (!(pys ys).any fun y => PyData.eqv y (py a))) s := by
    refine ⟨.bl _, H, I, ?_, q⟩
    rw [any_py a pa ys pb]
    cases (ys.any fun z => eqD z a) <;> rfl
  rcases hb with hb | hb
  · obtain ⟨db, lb⟩ := Rep.dp (.lst ys) y hb (by simpa [D.plain] using pb)
    obtain ⟨bs, r2⟩ := Dp.reads I _ y u db ry
    simp only [py, PyData.canLay0] at r2 lb
    refine SeqAt.notIn_list_reads r2 r1 lb la ?_ hq
    have := py_dep a pa
    omega
  · obtain ⟨db, lb⟩ := Rep.dp (.tup ys) y hb (by simpa [D.plain] using pb)
    obtain ⟨bs, r2⟩ := Dp.reads I _ y u db ry
    simp only [py, PyData.canLay0] at r2 lb
    refine SeqAt.notIn_tuple_reads r2 r1 lb la ?_ hq
    have := py_dep a pa
    omega

/-! ### the operators' rules, for any data -/
def rAddR (K : PySem.W.Frag) : R2 := fun x y H Q =>
  (∃ i j, x = .int i ∧ y = .int j ∧ Q (.int (i + j)) H) ∨ (∃ i j, x = .str i ∧ y = .str j ∧ i.length + j.length ≤ sizeLine ∧ Q (.str (i ++ j)) H) ∨ rCat x y H Q ∨ rCatA K x y H Q
theorem op_addR : OpR X (binaryOp .Add) (rAddR X.K) := op_add.or (op_add_str.or (op_cat.or op_catA))
theorem hidH {A : List Addr} {H : Hp} {v : V} {d : D} (h : Rep K (hid A H) v d) : Rep K H v d := Rep.up (hid_same A H) d v h
theorem hidSq {A : List Addr} {H : Hp} {a : Addr} {xs : List V} (h : SqT K (hid A H) a xs) : SqT K H a xs := SqT.up (hid_same A H) h
theorem od_add : OpD K RX W (bopD .add) (rAddR K) := by
  intro A σ H x y a b Q live hx hy h
  cases hx with
  | int i =>
    cases hy with
    | int j => exact .inl ⟨i, j, rfl, rfl, h.ok (Same.refl H) (.int _)⟩
    | _ => exact h.elim
  | str s hs =>
    cases hy with
    | str t ht =>
      obtain ⟨c, h⟩ := Out.must h
      have c := of_decide_eq_true c
      refine .inr (.inl ⟨_, _, rfl, rfl, by rw [tS_len, tS_len, ← SZ_eq]; exact c, ?_⟩)
      rw [tS_app]
      exact h.ok (Same.refl H) (.str _ (hs.app ht c))
    | _ => exact h.elim
  | @lst p vs xs hp hz hr =>
    cases hy with
    | @lst q ws ys hq hz' hr' =>
      obtain ⟨c, h⟩ := Out.must h
      have c := of_decide_eq_true c
      have c' : vs.length + ws.length ≤ SZ := by rw [hr.length, hr'.length]; exact c
      refine .inr (.inr (.inl ⟨p, q, vs, ws, rfl, rfl, hid_same A H _ _ hp, hid_same A H _ _ hq, by rw [← SZ_eq]; exact c', fun l hl => ?_⟩))
      have e : Same H (upd H l (.lst (vs ++ ws))) := same_upd hl
      refine h.ok e (.lst ?_ (by simpa using c') (Reps.up (hid_up e) _ _ (hr.app hr')))
      rw [hid_out (live.new hl), upd_same]
    | _ => exact h.elim
  | @tup p vs xs hp hz hr =>
    cases hy with
    | @tup q ws ys hq hz' hr' =>
      obtain ⟨c, h⟩ := Out.must h
      have c := of_decide_eq_true c
      have c' : vs.length + ws.length ≤ SZ := by rw [hr.length, hr'.length]; exact c
      refine .inr (.inr (.inr ⟨p, q, vs, ws, rfl, rfl, hidSq hp, hidSq hq, by rw [← SZ_eq]; exact c', fun e0 => ?_, fun _ e0 => ?_, fun _ _ l hl => ?_⟩))
      · subst e0
        cases hr
        exact h.ok (Same.refl H) (.tup hq hz' hr')
      · subst e0
        cases hr'
        refine h.ok (Same.refl H) ?_
        rw [List.append_nil]
        exact .tup hp hz hr
      · have e : Same H (upd H l (.tup (vs ++ ws))) := same_upd hl
        refine h.ok e (.tup (.inl (.inl ?_)) (by simpa using c') (Reps.up (hid_up e) _ _ (hr.app hr')))
        rw [hid_out (live.new hl), upd_same]
    | _ => exact h.elim
  | _ => cases hy <;> exact h.elim
theorem od_sub : OpD K RX W (bopD .sub) (rI0 fun i j => .int (i - j)) := by
  intro A σ H x y a b Q live hx hy h
  cases hx with
  | int i =>
    cases hy with
    | int j => exact ⟨i, j, rfl, rfl, h.ok (Same.refl H) (.int _)⟩
    | _ => exact h.elim
  | _ => cases hy <;> exact h.elim
theorem smallI_of {i : Int} (h : smallI i = true) : -(2 ^ 64) < i ∧ i < 2 ^ 64 := by
  simp only [smallI, Bool.and_eq_true, decide_eq_true_eq] at h
  exact h
def rMulS : R2 := fun x y H Q => ∃ s k, x = .str (tS s) ∧ y = .int k ∧ ((k = 0 ∨ k = 1) ∨ (2 ≤ k ∧ k ≤ 1000 ∧ s.length ≤ 1000)) ∧ s.length ≤ SZ ∧ Q (.str (tS (mulT s k))) H
theorem fold_rep (s : List Nat) : ∀ (n : Nat) (a : Array Nat), (List.replicate n s.toArray).foldl (· ++ ·) a = a ++ ((List.replicate n s).flatten).toArray
  | 0, a => by simp
  | n + 1, a => by
    rw [List.replicate_succ, List.foldl_cons, fold_rep s n, List.replicate_succ, List.flatten_cons]
    apply Array.ext'
    simp
theorem mul_tS {s : List Nat} {k : Int} (h : (k = 0 ∨ k = 1) ∨ (2 ≤ k ∧ k ≤ 1000 ∧ s.length ≤ 1000)) : PySem.Txt.mul (tS s) k = tS (mulT s k) := by
  rcases h with (rfl | rfl) | ⟨h1, h2, h3⟩
  · rfl
  · rfl
  · have e0 : ¬ k < 1 := by omega
    have e1 : (k == 1) = false := by simp; omega
    have e2 : ¬ k = 0 := by omega
    have e3 : ¬ k = 1 := by omega
    unfold PySem.Txt.mul mulT
    rw [if_neg e0, if_neg e2, if_neg e3, e1, Bool.false_or, tS_len]
    cases s with
    | nil =>
      have z : (List.replicate k.toNat ([] : List Nat)).flatten = [] := by simp
      rw [z]
      rfl
    | cons c s =>
      rw [if_neg (by simp)]
      have := fold_rep (c :: s) k.toNat #[]
      show Str.mk _ = Str.mk _
      congr 1
      refine this.trans ?_
      simp
theorem op_mulS : OpR X (binaryOp .Mult) rMulS := by
  intro pins s σ H x y v u Q I rx ry h
  obtain ⟨z, k, rfl, rfl, hk, hz, q⟩ := h
  obtain ⟨t, rfl⟩ := rx
  obtain ⟨t', rfl⟩ := ry
  refine PySem.SB.mul ?_ fun t2 k2 => ?_
  · rcases hk with (rfl | rfl) | ⟨h1, h2, h3⟩
    · exact ⟨by decide, fun h => absurd (by decide) h, fun h => absurd (by decide) h⟩
    · exact ⟨by decide, fun _ h => absurd h (by simp), fun _ h => absurd h (by simp)⟩
    · have a1 : z.length * k.toNat ≤ 1000 * 1000 := Nat.mul_le_mul h3 (by omega)
      refine ⟨by simp; omega, fun _ _ => ?_, fun _ _ => ?_⟩
      · rw [tS_len]
        have : (1000 : Int) ≤ (2 ^ 63 - 1) / k := (Int.le_ediv_iff_mul_le (by omega)).mpr (by omega)
        omega
      · rw [tS_len]
        unfold PySem.Builtin.Str.tooLong
        have hz0 : PySem.sizeLine = 16777216 := rfl
        simp
        omega
  · refine ⟨_, H, I.tok _, ?_, q⟩
    exact ⟨t2, by rw [mul_tS hk]⟩
theorem Reps.rep {H : Hp} {vs : List V} {ds : List D} (r : Reps K H vs ds) : ∀ n : Nat, Reps K H (List.replicate n vs).flatten (List.replicate n ds).flatten
  | 0 => .nil
  | n + 1 => by
    rw [List.replicate_succ, List.replicate_succ, List.flatten_cons, List.flatten_cons]
    exact r.app (Reps.rep r n)
theorem rep_len {α : Type} (xs : List α) (h : xs.length ≤ 1000) {n : Nat} (g : n ≤ 1000) : (List.replicate n xs).flatten.length ≤ SZ := by
  rw [PyProof.Rows.lm_len_rep_flat]
  have a1 : n * xs.length ≤ 1000 * 1000 := Nat.mul_le_mul g h
  have hz0 : SZ = 16777216 := rfl
  omega
theorem od_mul : OpD K RX W (bopD .mul) (fun x y H Q => (rI CMul (fun i j => .int (i * j)) x y H Q ∨ rMulS x y H Q) ∨ (rRepT K x y H Q ∨ rRep x y H Q)) := by
  intro A σ H x y a b Q live hx hy h
  cases hx with
  | int i =>
    cases hy with
    | int j =>
      obtain ⟨c, h⟩ := Out.must h
      simp only [Bool.or_eq_true] at c
      exact .inl (.inl ⟨i, j, rfl, rfl, c.imp smallI_of smallI_of, h.ok (Same.refl H) (.int _)⟩)
    | _ => exact h.elim
  | str s hs =>
    cases hy with
    | int k =>
      obtain ⟨c, h⟩ := Out.must h
      simp only [Bool.or_eq_true, Bool.and_eq_true, decide_eq_true_eq, and_assoc] at c
      refine .inl (.inr ⟨s, k, rfl, rfl, c, hs.1, h.ok (Same.refl H) (.str _ ?_)⟩)
      unfold mulT
      split
      · exact ⟨by simp, strOk_iff.mpr fun c hc => nomatch hc⟩
      · split
        · exact hs
        · rename_i n0 n1
          have c : 2 ≤ k ∧ k ≤ 1000 ∧ s.length ≤ 1000 := by
            rcases c with (c | c) | c
            · exact absurd c n0
            · exact absurd c n1
            · exact c
          refine ⟨rep_len s c.2.2 (by omega), strOk_iff.mpr fun z hz => ?_⟩
          obtain ⟨l, hl, hz⟩ := List.mem_flatten.mp hz
          rw [List.mem_replicate] at hl
          rw [hl.2] at hz
          exact strOk_iff.mp hs.2 z hz
    | _ => exact h.elim
  | @tup p vs ds hp hz hr =>
    cases hy with
    | int k =>
      obtain ⟨c, h⟩ := Out.must h
      simp only [Bool.and_eq_true, decide_eq_true_eq, Bool.not_eq_true'] at c
      obtain ⟨⟨⟨c1, c2⟩, c3⟩, c4⟩ := c
      have hl : vs.length ≤ 1000 := by rw [hr.length]; exact c4
      refine .inr (.inl ⟨p, k, vs, rfl, rfl, hidSq hp, fun e => ?_, c2, c3, hl, fun z hz' => ?_⟩)
      · have := hr.length
        rw [e] at this
        cases ds with
        | nil => cases c1
        | cons _ _ => cases this
      · have e : Same H (upd H z (.tup (List.replicate k.toNat vs).flatten)) := same_upd hz'
        refine h.ok e (.tup (vs := (List.replicate k.toNat vs).flatten) (.inl (.inl ?_)) (rep_len vs hl (by omega)) (Reps.up (hid_up e) _ _ (hr.rep _)))
        rw [hid_out (live.new hz'), upd_same]
    | _ => exact h.elim
  | @lst p vs ds hp hz hr =>
    cases hy with
    | int k =>
      obtain ⟨c, h⟩ := Out.must h
      simp only [Bool.and_eq_true, decide_eq_true_eq] at c
      obtain ⟨⟨c2, c3⟩, c4⟩ := c
      have hl : vs.length ≤ 1000 := by rw [hr.length]; exact c4
      refine .inr (.inr ⟨p, k, vs, rfl, rfl, hid_same A H _ _ hp, by omega, by omega, by rw [Nat.mul_comm, ← PyProof.Rows.lm_len_rep_flat, ← SZ_eq]; exact rep_len vs hl (by omega), fun z hz' => ?_⟩)
      have e : Same H (upd H z (.lst (List.replicate k.toNat vs).flatten)) := same_upd hz'
      refine h.ok e (.lst (vs := (List.replicate k.toNat vs).flatten) ?_ (rep_len vs hl (by omega)) (Reps.up (hid_up e) _ _ (hr.rep _)))
      rw [hid_out (live.new hz'), upd_same]
    | _ => exact h.elim
  | _ => cases hy <;> exact h.elim
theorem od_fdiv : OpD K RX W (bopD .fdiv) (rI CDiv fun i j => .int (i / j)) := by
  intro A σ H x y a b Q live hx hy h
  cases hx with
  | int i =>
    cases hy with
    | int j =>
      obtain ⟨c, h⟩ := Out.must h
      simp only [Bool.and_eq_true, decide_eq_true_eq] at c
      exact ⟨i, j, rfl, rfl, c, h.ok (Same.refl H) (.int _)⟩
    | _ => exact h.elim
  | _ => cases hy <;> exact h.elim
theorem od_mod : OpD K RX W (bopD .mod) (rI (fun _ j => 0 < j) fun i j => .int (i % j)) := by
  intro A σ H x y a b Q live hx hy h
  cases hx with
  | int i =>
    cases hy with
    | int j =>
      obtain ⟨c, h⟩ := Out.must h
      simp only [decide_eq_true_eq] at c
      exact ⟨i, j, rfl, rfl, c, h.ok (Same.refl H) (.int _)⟩
    | _ => exact h.elim
  | _ => cases hy <;> exact h.elim
theorem od_eq : OpD K RX W (copD .eq) (rEqR K false) := by
  intro A σ H x y a b Q live hx hy h
  obtain ⟨c, h⟩ := Out.must (show Out RX W (relE K A) (must (eqOk a b) (.ok (.bl (eqD a b)))) σ H Q by cases a <;> exact h)
  refine ⟨a, b, hidH hx, hidH hy, c, ?_⟩
  have := h.ok (Same.refl H) (.bl (eqD a b))
  cases q : eqD a b <;> rw [q] at this <;> exact this
theorem od_ne : OpD K RX W (copD .ne) (rEqR K true) := by
  intro A σ H x y a b Q live hx hy h
  obtain ⟨c, h⟩ := Out.must (show Out RX W (relE K A) (must (eqOk a b) (.ok (.bl (!eqD a b)))) σ H Q by cases a <;> exact h)
  refine ⟨a, b, hidH hx, hidH hy, c, ?_⟩
  have := h.ok (Same.refl H) (.bl (!eqD a b))
  cases q : eqD a b <;> rw [q] at this <;> exact this
def rLtR : R2 := fun x y H Q => rI0 (fun i j => .bl (decide (i < j))) x y H Q ∨ ∃ i j, x = .str i ∧ y = .str j ∧ Q (.bl (decide (i.cps.toList < j.cps.toList))) H
theorem op_ltR : OpR X (compareOp .Lt) rLtR := op_lt.or op_lt_str
theorem od_lt : OpD K RX W (copD .lt) rLtR := by
  intro A σ H x y a b Q live hx hy h
  cases hx with
  | int i =>
    cases hy with
    | int j => exact .inl ⟨i, j, rfl, rfl, h.ok (Same.refl H) (.bl _)⟩
    | _ => exact h.elim
  | str s hs =>
    cases hy with
    | str t ht =>
      refine .inr ⟨_, _, rfl, rfl, ?_⟩
      rw [tS_list, tS_list]
      exact h.ok (Same.refl H) (.bl _)
    | _ => exact h.elim
  | _ => cases hy <;> exact h.elim
def rLeR : R2 := fun x y H Q => rI0 (fun i j => .bl (decide (i ≤ j))) x y H Q ∨ ∃ i j, x = .str i ∧ y = .str j ∧ Q (.bl (!decide (j.cps.toList < i.cps.toList))) H
theorem op_leR : OpR X (compareOp .LtE) rLeR := op_le.or op_le_str
theorem od_le : OpD K RX W (copD .le) rLeR := by
  intro A σ H x y a b Q live hx hy h
  cases hx with
  | int i =>
    cases hy with
    | int j => exact .inl ⟨i, j, rfl, rfl, h.ok (Same.refl H) (.bl _)⟩
    | _ => exact h.elim
  | str s hs =>
    cases hy with
    | str t ht =>
      refine .inr ⟨_, _, rfl, rfl, ?_⟩
      rw [tS_list, tS_list]
      exact h.ok (Same.refl H) (.bl _)
    | _ => exact h.elim
  | _ => cases hy <;> exact h.elim
theorem od_gt : OpD K RX W (copD .gt) (rI0 fun i j => .bl (decide (j < i))) := by
  intro A σ H x y a b Q live hx hy h
  cases hx with
  | int i =>
    cases hy with
    | int j => exact ⟨i, j, rfl, rfl, h.ok (Same.refl H) (.bl _)⟩
    | _ => exact h.elim
  | _ => cases hy <;> exact h.elim
theorem od_ge : OpD K RX W (copD .ge) (rI0 fun i j => .bl (decide (j ≤ i))) := by
  intro A σ H x y a b Q live hx hy h
  cases hx with
  | int i =>
    cases hy with
    | int j => exact ⟨i, j, rfl, rfl, h.ok (Same.refl H) (.bl _)⟩
    | _ => exact h.elim
  | _ => cases hy <;> exact h.elim
/-- x in d -/
def rInDic (K : PySem.W.Frag) (neg : Bool) : R2 := fun x y H Q => ∃ (Hh : Hp) (a : Addr) (t : Bool) (ks ds : List D) (q : D), Sm Hh H ∧ y = .ref a ∧ Own K H Hh a (.dic t ks ds) ∧ Rep K Hh x q ∧ keyOk t q = true ∧ Q (.bl (neg != (findD q ks ds).isSome)) H
theorem op_inDic (px : PrX X) (hu : X.A.units + 120 < cLine) : OpR X (compareOp .In) (rInDic X.K false) := by
  intro pins s σ H x y v u Q I rx ry ⟨Hh, a, t, ks, ds, q, sm, e, ow, rq, ok, h⟩
  subst e
  cases (show u = Value.ref a from ry)
  refine d_inD px (by omega) I sm ow rx rq ok fun s' I' => ⟨.bl (findD q ks ds).isSome, H, I', rfl, ?_⟩
  cases c : (findD q ks ds).isSome <;> rw [c] at h <;> exact h
theorem op_ninDic (px : PrX X) (hu : X.A.units + 120 < cLine) : OpR X (compareOp .NotIn) (rInDic X.K true) := by
  intro pins s σ H x y v u Q I rx ry ⟨Hh, a, t, ks, ds, q, sm, e, ow, rq, ok, h⟩
  subst e
  cases (show u = Value.ref a from ry)
  refine d_notInD px (by omega) I sm ow rx rq ok fun s' I' => ⟨.bl (!(findD q ks ds).isSome), H, I', rfl, ?_⟩
  cases c : (findD q ks ds).isSome <;> rw [c] at h <;> exact h
theorem own_of {A : List Addr} {H : Hp} {v : V} {t : Bool} {ks ds : List D} (r : Rep K (hid A H) v (.dic t ks ds)) : ∃ a, v = .ref a ∧ Own K H (hid A H) a (.dic t ks ds) := by
  cases r with
  | dicT h1 h2 h3 h4 h5 h6 h7 h8 => exact ⟨_, rfl, .dicT (hid_same A H _ _ h1) h2 h3 h4 h5 h6 h7 h8⟩
  | dicS h1 h2 h3 h4 => exact ⟨_, rfl, .dicS (hid_same A H _ _ h1) h2 h3 h4⟩
def rInnR (K : PySem.W.Frag) (neg : Bool) : R2 := fun x y H Q => rInDic K neg x y H Q ∨ rInR K neg x y H Q ∨ ∃ (c : Nat) (z : Str), x = .str ⟨#[c]⟩ ∧ y = .str z ∧ Q (.bl (neg != decide (c ∈ z.cps.toList))) H
theorem op_innR (px : PrX X) (hu : X.A.units + 120 < cLine) : OpR X (compareOp .In) (rInnR X.K false) := by
  refine (op_inDic px hu).or ((op_inR hu).or ?_)
  intro pins s σ H x y v u Q I rx ry h
  obtain ⟨c, z, e1, e2, q⟩ := h
  refine op_in_sign pins s σ H x y v u Q I rx ry ⟨c, z, e1, e2, ?_⟩
  cases k : decide (c ∈ z.cps.toList) <;> rw [k] at q <;> exact q
theorem op_nnnR (px : PrX X) (hu : X.A.units + 120 < cLine) : OpR X (compareOp .NotIn) (rInnR X.K true) := by
  refine (op_ninDic px hu).or ((op_ninR hu).or ?_)
  intro pins s σ H x y v u Q I rx ry h
  obtain ⟨c, z, e1, e2, q⟩ := h
  refine op_notIn_sign pins s σ H x y v u Q I rx ry ⟨c, z, e1, e2, ?_⟩
  cases k : decide (c ∈ z.cps.toList) <;> rw [k] at q <;> exact q
theorem inD_out {x y : D} {b : Bool} (h : inD x y = .ok b) : (∃ ys, (y = .lst ys ∨ y = .tup ys) ∧ x.plain = true ∧ D.plains ys = true ∧ x.dep ≤ 100 ∧ b = ys.any fun z => eqD z x) ∨ (∃ c s, x = .str [c] ∧ y = .str s ∧ b = decide (c ∈ s)) ∨ ∃ t ks vs, y = .dic t ks vs ∧ keyOk t x = true ∧ b = (findD x ks vs).isSome := by
  unfold inD at h
  cases y with
  | tup ys =>
    dsimp only at h
    cases hc : (x.plain && D.plains ys && decide (x.dep ≤ 100)) with
    | false => rw [hc] at h; cases h
    | true =>
      rw [hc] at h
      simp only [Bool.and_eq_true, decide_eq_true_eq] at hc
      cases h
      exact .inl ⟨ys, .inr rfl, hc.1.1, hc.1.2, hc.2, rfl⟩
  | lst ys =>
    dsimp only at h
    cases hc : (x.plain && D.plains ys && decide (x.dep ≤ 100)) with
    | false => rw [hc] at h; cases h
    | true =>
      rw [hc] at h
      simp only [Bool.and_eq_true, decide_eq_true_eq] at hc
      cases h
      exact .inl ⟨ys, .inl rfl, hc.1.1, hc.1.2, hc.2, rfl⟩
  | str s =>
    dsimp only at h
    split at h
    · cases h; exact .inr (.inl ⟨_, s, rfl, rfl, rfl⟩)
    · cases h
  | dic t ks vs =>
    dsimp only at h
    cases hc : keyOk t x with
    | false => rw [hc] at h; cases h
    | true => rw [hc] at h; cases h; exact .inr (.inr ⟨t, ks, vs, rfl, hc, rfl⟩)
  | _ => cases h
theorem inD_notExc {x y : D} {e : Ex} (h : inD x y = .exc e) : False := by
  unfold inD at h
  cases y with
  | tup ys =>
    dsimp only at h
    cases hc : (x.plain && D.plains ys && decide (x.dep ≤ 100)) <;> rw [hc] at h <;> cases h
  | lst ys =>
    dsimp only at h
    cases hc : (x.plain && D.plains ys && decide (x.dep ≤ 100)) <;> rw [hc] at h <;> cases h
  | str s =>
    dsimp only at h
    split at h <;> cases h
  | dic t ks vs =>
    dsimp only at h
    cases hc : keyOk t x <;> rw [hc] at h <;> cases h
  | _ => cases h
theorem od_in (neg : Bool) : OpD K RX W (fun x y => do
    let b ← inD x y
    .ok (.bl (neg != b))) (rInnR K neg) := by
  intro A σ H x y a b Q live hx hy h
  dsimp only at h
  generalize hw : inD a b = w at h
  cases w with
  | stuck => exact h.elim
  | exc e => exact (inD_notExc hw).elim
  | ok k =>
    have q : Q (.bl (neg != k)) H := h.ok (Same.refl H) (.bl _)
    rcases inD_out hw with ⟨ys, hy', p1, p2, p3, rfl⟩ | ⟨c, s, rfl, rfl, rfl⟩ | ⟨t, ks, vs, rfl, ok, rfl⟩
    rotate_left 2
    · obtain ⟨p, rfl, ow⟩ := own_of hy
      exact .inl ⟨hid A H, p, t, ks, vs, a, hid_same A H, rfl, ow, hx, ok, q⟩
    · refine .inr (.inl ⟨a, ys, hidH hx, ?_, p1, p2, p3, q⟩)
      rcases hy' with rfl | rfl
      · exact .inl (hidH hy)
      · exact .inr (hidH hy)
    · cases hx
      cases hy
      refine .inr (.inr ⟨c, _, rfl, rfl, ?_⟩)
      rw [tS_list]
      exact q
end
end Snd
namespace Snd
open PySem PySem.Spec PyProof.Rows L2 Dt
variable [PrW]
section
variable {X : Cx} {RX : RXT} {W : WX} {K : PySem.W.Frag}

/-! ### subscripts, slices -/
theorem nth_atI {α : Type} (xs : List α) (i : Int) : nth xs i = atI xs i := by
  unfold Dt.nth atI atIx ixN
  by_cases h : 0 ≤ i
  · rw [if_pos h, if_pos h]
    by_cases h2 : i < xs.length
    · rw [if_pos h2]; rfl
    · rw [if_neg h2]; rfl
  · rw [if_neg h, if_neg h]
    by_cases h2 : 0 ≤ i + (xs.length : Int)
    · rw [if_pos h2, if_pos (by omega)]; rfl
    · rw [if_neg h2, if_neg (by omega)]; rfl
theorem nth_some {α : Type} {xs : List α} {i : Int} {x : α} (h : nth xs i = some x) : ∃ k, atIx xs.length i = some k ∧ xs[k]? = some x := by
  unfold Dt.nth at h
  split at h
  · exact ⟨_, by assumption, h⟩
  · cases h
theorem nth_reps {H : Hp} {vs : List V} {ds : List D} {i : Int} {d : D} (r : Reps K H vs ds) (h : nth ds i = some d) : ∃ v, nth vs i = some v ∧ Rep K H v d := by
  obtain ⟨k, h1, h2⟩ := nth_some h
  obtain ⟨v, h3, h4⟩ := r.get h2
  exact ⟨v, by unfold Dt.nth; rw [r.length, h1]; exact h3, h4⟩
theorem optR_out {α : Type} {β γ : Type} {rel : Hp → β → γ → Prop} {o : Option α} {f : α → Res γ} {σ : L2.St} {H : Hp} {Q : β → Hp → Prop} (h : Out RX W rel (optR o >>= f) σ H Q) : ∃ a, o = some a ∧ Out RX W rel (f a) σ H Q := by
  cases o with
  | none => exact h.elim
  | some a => exact ⟨a, rfl, h⟩
theorem optR_out0 {β γ : Type} {rel : Hp → β → γ → Prop} {o : Option γ} {σ : L2.St} {H : Hp} {Q : β → Hp → Prop} (h : Out RX W rel (optR o) σ H Q) : ∃ a, o = some a ∧ Out RX W rel (.ok a) σ H Q := by
  cases o with
  | none => exact h.elim
  | some a => exact ⟨a, rfl, h⟩
/-- d[y] -/
def rIxDic (K : PySem.W.Frag) : R2 := fun x y H Q => ∃ (Hh : Hp) (a : Addr) (t : Bool) (ks ds : List D) (q d : D), Sm Hh H ∧ x = .ref a ∧ Own K H Hh a (.dic t ks ds) ∧ Rep K Hh y q ∧ keyOk t q = true ∧ findD q ks ds = some d ∧ ∀ v, Rep K Hh v d → Q v H
theorem ix_dic (px : PrX X) (hu : X.A.units + 120 < cLine) : IxR X (rIxDic X.K) := by
  intro value slice pins s σ H x y v u Q I rx ry ⟨Hh, a, t, ks, ds, q, d, sm, e, ow, rq, ok, hf, h⟩ hs
  subst e
  cases (show v = Value.ref a from rx)
  exact tail_any (own_dict px I sm ow).1 PySem.F.slot_dict_getitem.lookup (d_getD px (by omega) I sm ow ry rq ok hf fun z w' s' I' r' rd => ⟨z, H, I', r', h z rd⟩) hs
def rIxR (K : PySem.W.Frag) : R2 := fun x y H Q => rIx K x y H Q ∨ rIxDic K x y H Q
theorem od_ixDic {A : List Addr} {σ : L2.St} {H : Hp} {x y : V} {t : Bool} {ks vs : List D} {b : D} {Q : VK} (hx : Rep K (hid A H) x (.dic t ks vs)) (hy : Rep K (hid A H) y b) (h : Out RX W (relE K A) (ixD (.dic t ks vs) b) σ H Q) : rIxR K x y H Q := by
  have e : ixD (.dic t ks vs) b = must (keyOk t b) (optR (findD b ks vs)) := by cases b <;> rfl
  rw [e] at h
  obtain ⟨ok, h⟩ := Out.must h
  obtain ⟨d, h1, h⟩ := optR_out0 h
  obtain ⟨p, rfl, ow⟩ := own_of hx
  exact .inr ⟨hid A H, p, t, ks, vs, b, d, hid_same A H, rfl, ow, hy, ok, h1, fun v rv => h.ok (Same.refl H) rv⟩
theorem od_ix : OpD K RX W ixD (rIxR K) := by
  intro A σ H x y a b Q live hx hy h
  cases hx with
  | @tup p vs ds hp hz hr =>
    cases hy with
    | int i =>
      obtain ⟨d, h1, h⟩ := optR_out0 h
      obtain ⟨v, h2, h3⟩ := nth_reps hr h1
      exact .inl (.inr (.inl ⟨p, vs, i, v, rfl, rfl, hidSq hp, by rw [← nth_atI]; exact h2, h.ok (Same.refl H) h3⟩))
    | _ => exact h.elim
  | @lst p vs ds hp hz hr =>
    cases hy with
    | int i =>
      obtain ⟨d, h1, h⟩ := optR_out0 h
      obtain ⟨v, h2, h3⟩ := nth_reps hr h1
      exact .inl (.inl ⟨p, vs, i, v, rfl, rfl, SqL.of (hid_same A H _ _ hp), by rw [← nth_atI]; exact h2, h.ok (Same.refl H) h3⟩)
    | _ => exact h.elim
  | @scr p vs ds hp hz hr =>
    cases hy with
    | int i =>
      obtain ⟨d, h1, h⟩ := optR_out0 h
      obtain ⟨v, h2, h3⟩ := nth_reps hr h1
      exact .inl (.inl ⟨p, vs, i, v, rfl, rfl, SqL.up (hid_same A H) hp, by rw [← nth_atI]; exact h2, h.ok (Same.refl H) h3⟩)
    | _ => exact h.elim
  | str s hs =>
    cases hy with
    | int i =>
      obtain ⟨c, h1, h⟩ := optR_out h
      refine .inl (.inr (.inr ⟨tS s, i, c, rfl, rfl, by rw [tS_len, ← SZ_eq]; exact hs.1, by rw [tS_list, ← nth_atI]; exact h1, ?_⟩))
      obtain ⟨k, _, h3⟩ := nth_some h1
      have hm : c ∈ s := List.mem_of_getElem? h3
      exact h.ok (Same.refl H) (.str [c] ⟨by show 1 ≤ SZ; decide, strOk_iff.mpr fun z hz => by
        have : z = c := by simpa using hz
        rw [this]; exact strOk_iff.mp hs.2 c hm⟩)
    | _ => exact h.elim
  | dicT h1 h2 h3 h4 h5 h6 h7 h8 => exact od_ixDic (.dicT h1 h2 h3 h4 h5 h6 h7 h8) hy h
  | dicS h1 h2 h3 h4 => exact od_ixDic (.dicS h1 h2 h3 h4) hy h
  | _ => cases hy <;> exact h.elim
theorem de_ix {a b : Expr} {pos} {ga gb : EnvD → Res D} (px : PrX X) (hu : X.A.units + 120 < cLine) (ha : PE X a (tE X.K RX W ga)) (hb : PE X b (tE X.K RX W gb)) (hs : PlainIx b) :
    PE X (.Subscript a b pos) (tE X.K RX W fun ρ => do
      let x ← ga ρ
      let y ← gb ρ
      ixD x y) := PEimp (pe_ix (ix_seq.or (ix_dic px hu)) ha hb hs) (tOp_of od_ix)

abbrev relO : Hp → Option Int → Option Int → Prop := fun _ b a => b = a
def tOo (K : PySem.W.Frag) (RX : RXT) (W : WX) (g : EnvD → Res (Option Int)) : TO := fun σ H Q => ∃ A ρ, RE K A H σ ρ ∧ Out RX W relO (g ρ) σ H Q
theorem POimp {o : Option Expr} {t t' : TO} (h : PO X o t) (k : ∀ σ H Q, t' σ H Q → t σ H Q) : PO X o t' := ⟨fun pins s σ H Q I q => h.run pins s σ H Q I (k σ H Q q)⟩
theorem do_none : PO X none (tOo K RX W fun _ => .ok none) := POimp po_none fun σ H Q ⟨_, _, _, h⟩ => h.ok (Same.refl H) rfl
theorem do_some {e : Expr} {g : EnvD → Res D} (h : PE X e (tE K RX W g)) : PO X (some e) (tOo K RX W fun ρ => do
    let x ← g ρ
    loD x) := by
  refine POimp (po_some h) fun σ H Q ⟨A, ρ, r, q⟩ => ⟨A, ρ, r, q.bind fun d v H1 _ e1 q1 h1 => ?_⟩
  cases q1 with
  | int i => exact ⟨i, rfl, h1.ok (Same.refl _) rfl⟩
  | _ => exact h1.elim
def rSlR (K : PySem.W.Frag) : V → Option Int → Option Int → Hp → VK → Prop := fun x lo hi H Q => rSlL K x lo hi H Q ∨ rSlA K x lo hi H Q ∨ rSlS x lo hi H Q
theorem sl_R : SlR X (rSlR X.K) := sl_list.or (sl_tupA.or sl_str)
theorem cutIx_s (n d : Nat) (o : Option Int) : cutIx n d o = HT.sIx n d o := by
  cases o <;> rfl
theorem cut_V (xs : List V) (lo hi : Option Int) : cut xs lo hi = cutV xs lo hi := by
  unfold cut cutV
  rw [cutIx_s, cutIx_s, List.drop_take]
theorem cut_reps {H : Hp} {vs : List V} {ds : List D} (r : Reps K H vs ds) (lo hi : Option Int) : Reps K H (cut vs lo hi) (cut ds lo hi) := by
  unfold cut
  rw [r.length]
  exact (r.take _).drop _
theorem cut_len {α : Type} (xs : List α) (lo hi : Option Int) : (cut xs lo hi).length ≤ xs.length := by
  unfold cut
  rw [List.length_drop, List.length_take]
  omega
theorem cut_mem {α : Type} {xs : List α} {lo hi : Option Int} {x : α} (h : x ∈ cut xs lo hi) : x ∈ xs := List.mem_of_mem_take (List.mem_of_mem_drop h)
theorem de_sl {a : Expr} {lo hi : Option Expr} {p2 pos} {ga : EnvD → Res D} {gl gh : EnvD → Res (Option Int)} (ha : PE X a (tE X.K RX W ga)) (hl : PO X lo (tOo X.K RX W gl)) (hh : PO X hi (tOo X.K RX W gh)) :
    PE X (.Subscript a (.Slice lo hi none p2) pos) (tE X.K RX W fun ρ => do
      let x ← ga ρ
      let l ← gl ρ
      let h ← gh ρ
      slD x l h) := by
  refine PEimp (pe_slice sl_R ha hl hh) fun σ H Q ⟨A, ρ, r, q⟩ => ⟨A, ρ, r, q.bind fun d v H1 _ e1 q1 h1 => ?_⟩
  refine ⟨A, ρ, r.up e1, h1.bind fun l _ H2 _ e2 ql h2 => ?_⟩
  refine ⟨A, ρ, (r.up e1).up e2, h2.bind fun u _ H3 _ e3 qu h3 => ?_⟩
  cases ql
  cases qu
  have live := ((r.live.up e1).up e2).up e3
  have q3 := Rep.up ((hid_up e2).trans (hid_up e3)) d v q1
  cases q3 with
  | @tup p vs ds hp hz hr =>
    refine .inr (.inl ⟨p, vs, rfl, hidSq hp, fun hw => ?_, fun _ z hz' => ?_⟩)
    · refine h3.ok (Same.refl _) ?_
      have e : cut ds l u = ds := by
        unfold cut
        rw [cutIx_s, cutIx_s, ← hr.length, hw.1, hw.2, List.drop_zero, hr.length, List.take_length]
      rw [e]
      exact .tup hp hz hr
    · have e : Same H3 (upd H3 z (.tup (cutV vs l u))) := same_upd hz'
      refine h3.ok e (.tup (vs := cut vs l u) (.inl (.inl ?_)) (Nat.le_trans (cut_len _ _ _) hz) (Reps.up (hid_up e) _ _ (cut_reps hr _ _)))
      rw [hid_out (live.new hz'), upd_same, cut_V]
  | @lst p vs ds hp hz hr =>
    refine .inl ⟨p, vs, rfl, SqL.of (hid_same A H3 _ _ hp), fun z hz' => ?_⟩
    have e : Same H3 (upd H3 z (.lst (cutV vs l u))) := same_upd hz'
    refine h3.ok e (.lst (vs := cut vs l u) ?_ (Nat.le_trans (cut_len _ _ _) hz) (Reps.up (hid_up e) _ _ (cut_reps hr _ _)))
    rw [hid_out (live.new hz'), upd_same, cut_V]
  | str s hs =>
    refine .inr (.inr ⟨_, rfl, by rw [tS_len, ← SZ_eq]; exact hs.1, ?_⟩)
    have e : cutS (tS s) l u = tS (cut s l u) := by
      unfold cutS tS cut
      simp only [cutIx_s, Str.length, List.size_toArray]
      rw [List.drop_take]
    rw [e]
    exact h3.ok (Same.refl _) (.str _ (hs.sub (fun c hc => cut_mem hc) (cut_len _ _ _)))
  | _ => exact h3.elim

/-! ### tests, and, or, not, is None -/
theorem dt_val {e : Expr} {g : EnvD → Res D} (h : PE X e (tE K RX W g)) (he : ∀ whole, isTrue e X.env whole = (do let v ← whole; standAt e.pos; holding [v] (truthy v))) : PT X e (tT K RX W fun ρ => do
    let x ← g ρ
    blD x) := by
  refine PTimp (pt_val h he) fun σ H Q ⟨A, ρ, r, q⟩ => ⟨A, ρ, r, q.bind fun d v H1 _ e1 q1 h1 => ?_⟩
  cases q1 with
  | bl b => exact ⟨b, rfl, h1.ok (Same.refl _) rfl⟩
  | _ => exact h1.elim
theorem dt_cmp {a b : Expr} {op : CmpOp} {pos} {ga gb : EnvD → Res D} {f : D → D → Res D} {r : R2} (ho : OpR X (compareOp op) r) (k : OpD K RX W f r) (ha : PE X a (tE K RX W ga)) (hb : PE X b (tE K RX W gb)) (hm : behindInMarks op b = false) :
    PT X (.Compare a [op] [b] pos) (tT K RX W fun ρ => do
      let x ← (do
        let x ← ga ρ
        let y ← gb ρ
        f x y)
      blD x) := by
  refine PTimp (pt_cmpR ho ha hb hm) fun σ H Q ⟨A, ρ, r, q⟩ => ?_
  show tOp _ _ _ σ H _
  refine tOp_of k σ H _ ⟨A, ρ, r, q.bind fun d v H1 _ e1 q1 h1 => ?_⟩
  cases q1 with
  | bl b => exact ⟨b, rfl, h1.ok (Same.refl _) rfl⟩
  | _ => exact h1.elim
theorem res_assoc {α β γ : Type} (x : Res α) (f : α → Res β) (g : β → Res γ) : ((x >>= f) >>= g) = (x >>= fun a => f a >>= g) := by
  cases x <;> rfl
theorem blD_bl (b : Bool) : blD (.bl b) = .ok b := rfl
/-- the chain of and -/
theorem dw_and1 {a : Expr} {pos} {g : EnvD → Res Bool} (h : PT X a (tT K RX W g)) : PW X (.BoolOp .And [a] pos) (tT K RX W g) := pw_and1 h
theorem dw_or1 {a : Expr} {pos} {g : EnvD → Res Bool} (h : PT X a (tT K RX W g)) : PW X (.BoolOp .Or [a] pos) (tT K RX W g) := pw_or1 h
theorem dw_and {a b : Expr} {rest : List Expr} {pos} {ga gb : EnvD → Res Bool} (ha : PT X a (tT K RX W ga)) (hb : PW X (.BoolOp .And (b :: rest) pos) (tT K RX W gb)) :
    PW X (.BoolOp .And (a :: b :: rest) pos) (tT K RX W fun ρ => do
      let k ← ga ρ
      match k with
      | true => gb ρ
      | false => .ok false) := by
  refine PWimp (pw_and ha hb) fun σ H Q ⟨A, ρ, r, q⟩ => ⟨A, ρ, r, q.bind fun d v H1 _ e1 q1 h1 => ?_⟩
  cases q1
  cases d with
  | true => exact ⟨A, ρ, r.up e1, h1⟩
  | false => exact h1.ok (Same.refl _) rfl
theorem dw_or {a b : Expr} {rest : List Expr} {pos} {ga gb : EnvD → Res Bool} (ha : PT X a (tT K RX W ga)) (hb : PW X (.BoolOp .Or (b :: rest) pos) (tT K RX W gb)) :
    PW X (.BoolOp .Or (a :: b :: rest) pos) (tT K RX W fun ρ => do
      let k ← ga ρ
      match k with
      | true => .ok true
      | false => gb ρ) := by
  refine PWimp (pw_or ha hb) fun σ H Q ⟨A, ρ, r, q⟩ => ⟨A, ρ, r, q.bind fun d v H1 _ e1 q1 h1 => ?_⟩
  cases q1
  cases d with
  | true => exact h1.ok (Same.refl _) rfl
  | false => exact ⟨A, ρ, r.up e1, h1⟩
theorem dt_not {a : Expr} {pos} {g : EnvD → Res Bool} (h : PT X a (tT K RX W g)) : PT X (.UnaryOp .Not a pos) (tT K RX W fun ρ => do
    let k ← g ρ
    .ok (!k)) := by
  refine PTimp (pt_not h) fun σ H Q ⟨A, ρ, r, q⟩ => ⟨A, ρ, r, q.bind fun d v H1 _ e1 q1 h1 => ?_⟩
  cases q1
  exact h1.ok (Same.refl _) rfl
/-- as values -/
theorem de_one {a : Expr} {op : PySem.BoolOp} {pos} {g : EnvD → Res D} (h : PE X a (tE K RX W g)) : PE X (.BoolOp op [a] pos) (tE K RX W fun ρ => do
    let x ← g ρ
    let b ← blD x
    .ok (.bl b)) := by
  refine PEimp (pe_one h) fun σ H Q ⟨A, ρ, r, q⟩ => ⟨A, ρ, r, q.bind fun d v H1 _ e1 q1 h1 => ?_⟩
  cases q1 with
  | bl b => exact h1.ok (Same.refl _) (.bl b)
  | _ => exact h1.elim
theorem de_and {a b : Expr} {rest : List Expr} {pos} {ga gb : EnvD → Res D} (ha : PE X a (tE K RX W ga)) (hb : PE X (.BoolOp .And (b :: rest) pos) (tE K RX W gb)) :
    PE X (.BoolOp .And (a :: b :: rest) pos) (tE K RX W fun ρ => do
      let x ← ga ρ
      let k ← blD x
      match k with
      | true => gb ρ
      | false => .ok (.bl false)) := by
  refine PEimp (pe_and ha hb) fun σ H Q ⟨A, ρ, r, q⟩ => ⟨A, ρ, r, q.bind fun d v H1 _ e1 q1 h1 => ?_⟩
  cases q1 with
  | bl b =>
    refine ⟨b, rfl, ?_⟩
    cases b with
    | true => exact ⟨A, ρ, r.up e1, h1⟩
    | false => exact h1.ok (Same.refl _) (.bl false)
  | _ => exact h1.elim
theorem de_or {a b : Expr} {rest : List Expr} {pos} {ga gb : EnvD → Res D} (ha : PE X a (tE K RX W ga)) (hb : PE X (.BoolOp .Or (b :: rest) pos) (tE K RX W gb)) :
    PE X (.BoolOp .Or (a :: b :: rest) pos) (tE K RX W fun ρ => do
      let x ← ga ρ
      let k ← blD x
      match k with
      | true => .ok (.bl true)
      | false => gb ρ) := by
  refine PEimp (pe_or ha hb) fun σ H Q ⟨A, ρ, r, q⟩ => ⟨A, ρ, r, q.bind fun d v H1 _ e1 q1 h1 => ?_⟩
  cases q1 with
  | bl b =>
    refine ⟨b, rfl, ?_⟩
    cases b with
    | true => exact h1.ok (Same.refl _) (.bl true)
    | false => exact ⟨A, ρ, r.up e1, h1⟩
  | _ => exact h1.elim
theorem de_not {a : Expr} {pos} {g : EnvD → Res D} (h : PE X a (tE K RX W g)) : PE X (.UnaryOp .Not a pos) (tE K RX W fun ρ => do
    let x ← g ρ
    notD x) := by
  refine PEimp (pe_not h) fun σ H Q ⟨A, ρ, r, q⟩ => ⟨A, ρ, r, q.bind fun d v H1 _ e1 q1 h1 => ?_⟩
  cases q1 with
  | bl b => exact ⟨b, rfl, h1.ok (Same.refl _) (.bl _)⟩
  | _ => exact h1.elim
theorem de_neg {a : Expr} {pos} {g : EnvD → Res D} (h : PE X a (tE K RX W g)) : PE X (.UnaryOp .USub a pos) (tE K RX W fun ρ => do
    let x ← g ρ
    negD x) := by
  refine PEimp (pe_un un_neg h) fun σ H Q ⟨A, ρ, r, q⟩ => ⟨A, ρ, r, q.bind fun d v H1 _ e1 q1 h1 => ?_⟩
  cases q1 with
  | int i => exact ⟨i, rfl, h1.ok (Same.refl _) (.int _)⟩
  | _ => exact h1.elim
theorem rep_non {A : List Addr} {H : Hp} {v : V} {d : D} (h : Rep K (hid A H) v d) : decide (v = .non) = isNonD d := by
  cases h <;> simp [isNonD]
theorem de_isn {a : Expr} {j pos pos'} {g : EnvD → Res D} (h : PE X a (tE K RX W g)) : PE X (.Compare a [.Is] [.Constant .none j pos'] pos) (tE K RX W fun ρ => do
    let x ← g ρ
    .ok (.bl (isNonD x))) := by
  refine PEimp (pe_cmp (pc_isN h) rfl) fun σ H Q ⟨A, ρ, r, q⟩ => ⟨A, ρ, r, q.bind fun d v H1 _ e1 q1 h1 => ?_⟩
  show Q (.bl (decide (v = .non))) H1
  rw [rep_non q1]
  exact h1.ok (Same.refl _) (.bl _)
theorem de_notn {a : Expr} {j pos pos'} {g : EnvD → Res D} (h : PE X a (tE K RX W g)) : PE X (.Compare a [.IsNot] [.Constant .none j pos'] pos) (tE K RX W fun ρ => do
    let x ← g ρ
    .ok (.bl !(isNonD x))) := by
  refine PEimp (pe_cmp (pc_notN h) rfl) fun σ H Q ⟨A, ρ, r, q⟩ => ⟨A, ρ, r, q.bind fun d v H1 _ e1 q1 h1 => ?_⟩
  show Q (.bl (!decide (v = .non))) H1
  rw [rep_non q1]
  exact h1.ok (Same.refl _) (.bl _)
/-- a test from a value that may be looked at as a comparison's -/
theorem dt_isn {a : Expr} {j pos pos'} {g : EnvD → Res D} (h : PE X a (tE K RX W g)) : PT X (.Compare a [.Is] [.Constant .none j pos'] pos) (tT K RX W fun ρ => do
    let x ← (do
      let x ← g ρ
      .ok (.bl (isNonD x)))
    blD x) := by
  refine PTimp (pt_cmp (pc_isN h) rfl) fun σ H Q ⟨A, ρ, r, q⟩ => ⟨A, ρ, r, ?_⟩
  dsimp only at q
  rw [res_assoc] at q
  refine q.bind fun d v H1 _ e1 q1 h1 => ?_
  refine ⟨_, rfl, ?_⟩
  rw [rep_non q1]
  exact h1.ok (Same.refl _) rfl
theorem dt_notn {a : Expr} {j pos pos'} {g : EnvD → Res D} (h : PE X a (tE K RX W g)) : PT X (.Compare a [.IsNot] [.Constant .none j pos'] pos) (tT K RX W fun ρ => do
    let x ← (do
      let x ← g ρ
      .ok (.bl !(isNonD x)))
    blD x) := by
  refine PTimp (pt_cmp (pc_notN h) rfl) fun σ H Q ⟨A, ρ, r, q⟩ => ⟨A, ρ, r, ?_⟩
  dsimp only at q
  rw [res_assoc] at q
  refine q.bind fun d v H1 _ e1 q1 h1 => ?_
  refine ⟨_, rfl, ?_⟩
  rw [rep_non q1]
  exact h1.ok (Same.refl _) rfl
/-! ### two comparisons in a row -/
theorem tChain_of {f f' : D → D → Res D} {r r' : R2} {ga gb gc : EnvD → Res D} (k : OpD K RX W f r) (k' : OpD K RX W f' r') (σ : L2.St) (H : Hp) (Q : VK)
    (h : tE K RX W (fun ρ => do
      let x ← ga ρ
      let y ← gb ρ
      let c ← f x y
      let b ← blD c
      match b with
      | true => do
        let z ← gc ρ
        f' y z
      | false => .ok (.bl false)) σ H Q) : tChain r r' (tE K RX W ga) (tE K RX W gb) (tE K RX W gc) σ H Q := by
  obtain ⟨A, ρ, r0, h⟩ := h
  refine ⟨A, ρ, r0, h.bind fun d v H1 _ e1 q1 h1 => ?_⟩
  refine ⟨A, ρ, r0.up e1, h1.bind fun d2 v2 H2 _ e2 q2 h2 => ?_⟩
  have live := (r0.live.up e1).up e2
  refine k A σ H2 v v2 d d2 _ live (Rep.up (hid_up e2) d v q1) q2 (h2.bind fun c z H3 _ e3 q3 h3 => ?_)
  cases q3 with
  | bl b =>
    refine ⟨b, rfl, ?_⟩
    cases b with
    | false => exact h3.ok (Same.refl _) (.bl false)
    | true =>
      refine ⟨A, ρ, ((r0.up e1).up e2).up e3, Out.bind h3 fun d4 v4 H4 _ e4 q4 h4 => ?_⟩
      exact k' A σ H4 v2 v4 d2 d4 Q ((live.up e3).up e4) (Rep.up ((hid_up e3).trans (hid_up e4)) d2 v2 q2) q4 h4
  | _ => exact h3.elim
theorem de_chain {a b c : Expr} {op op' : CmpOp} {pos} {f f' : D → D → Res D} {r r' : R2} {ga gb gc : EnvD → Res D} (ho : OpR X (compareOp op) r) (ho' : OpR X (compareOp op') r') (k : OpD K RX W f r) (k' : OpD K RX W f' r')
    (ha : PE X a (tE K RX W ga)) (hb : PE X b (tE K RX W gb)) (hc : PE X c (tE K RX W gc)) (hm : lastMarks [op, op'] [b, c] = false) : PE X (.Compare a [op, op'] [b, c] pos) (tE K RX W fun ρ => do
      let x ← ga ρ
      let y ← gb ρ
      let c ← f x y
      let b ← blD c
      match b with
      | true => do
        let z ← gc ρ
        f' y z
      | false => .ok (.bl false)) := PEimp (pe_chain ho ho' ha hb hc hm) (tChain_of k k')
theorem dt_chain {a b c : Expr} {op op' : CmpOp} {pos} {f f' : D → D → Res D} {r r' : R2} {ga gb gc : EnvD → Res D} (ho : OpR X (compareOp op) r) (ho' : OpR X (compareOp op') r') (k : OpD K RX W f r) (k' : OpD K RX W f' r')
    (ha : PE X a (tE K RX W ga)) (hb : PE X b (tE K RX W gb)) (hc : PE X c (tE K RX W gc)) (hm : lastMarks [op, op'] [b, c] = false) : PT X (.Compare a [op, op'] [b, c] pos) (tT K RX W fun ρ => do
      let x ← (do
        let x ← ga ρ
        let y ← gb ρ
        let c ← f x y
        let b ← blD c
        match b with
        | true => do
          let z ← gc ρ
          f' y z
        | false => .ok (.bl false))
      blD x) := by
  refine PTimp (pt_chain ho ho' ha hb hc hm) fun σ H Q ⟨A, ρ, r, q⟩ => ?_
  refine tChain_of k k' σ H _ ⟨A, ρ, r, q.bind fun d v H1 _ e1 q1 h1 => ?_⟩
  cases q1 with
  | bl b => exact ⟨b, rfl, h1.ok (Same.refl _) rfl⟩
  | _ => exact h1.elim
end
end Snd
namespace Snd
open PySem PySem.Spec PyProof.Rows L2 Dt
variable [PrW]
section
variable {X : Cx} {RX : RXT} {W : WX} {K : PySem.W.Frag}

/-! ### built-ins of one argument -/
abbrev RC := List V → Hp → VK → Prop
theorem CallR.or {f : Value} {r r' : RC} (h : CallR X f r) (h' : CallR X f r') : CallR X f (fun xs H Q => r xs H Q ∨ r' xs H Q) := by
  intro pins s σ H xs us Q I rv q
  rcases q with q | q
  · exact h pins s σ H xs us Q I rv q
  · exact h' pins s σ H xs us Q I rv q
def CalD (K : PySem.W.Frag) (RX : RXT) (W : WX) (f : D → Res D) (r : RC) : Prop :=
  ∀ (A : List Addr) (σ : L2.St) (H : Hp) (x : V) (a : D) (Q : VK), Live A H → Rep K (hid A H) x a → Out RX W (relE K A) (f a) σ H Q → r [x] H Q
theorem tCB_of {f : D → Res D} {r : RC} {g : EnvD → Res D} (k : CalD K RX W f r) (σ : L2.St) (H : Hp) (Q : VK)
    (h : tE K RX W (fun ρ => do
      let x ← g ρ
      f x) σ H Q) : tCB r (tCons (tE K RX W g) tNil) σ H Q := by
  obtain ⟨A, ρ, r, h⟩ := h
  refine ⟨A, ρ, r, h.bind fun d v H1 _ e1 q1 h1 => ?_⟩
  exact k A σ H1 v d Q (r.live.up e1) q1 h1
theorem de_callB {x : Str} {id : String} {a : Expr} {p pos} {f : D → Res D} {r : RC} {g : EnvD → Res D} (hc : CallR X (.builtin id) r) (k : CalD K RX W f r) (hg : Gl X x) (hm : X.mg x = none) (hv : bootBuiltins x = some (.builtin id)) (ha : PE X a (tE K RX W g))
    (hn : x ≠ "__name__") (hdb : (x == ("__debug__" : Str)) = false) (hs : starEach [a] X.env = (false, eval a X.env) :: starEach [] X.env) : PE X (.Call (.Name x p) [a] [] pos) (tE K RX W fun ρ => do
      let x ← g ρ
      f x) := PEimp (pe_callB hc hg hm hv (pa_cons ha pa_nil hs) hn hdb hs rfl) (tCB_of k)
theorem de_callTy {x : Str} {T : String} {a : Expr} {p pos} {f : D → Res D} {r : RC} {g : EnvD → Res D} (hc : CallR X (.type T) r) (k : CalD K RX W f r) (hg : Gl X x) (hm : X.mg x = none) (hv : bootBuiltins x = some (.type T)) (ha : PE X a (tE K RX W g))
    (hn : x ≠ "__name__") (hdb : (x == ("__debug__" : Str)) = false) (hs : starEach [a] X.env = (false, eval a X.env) :: starEach [] X.env) : PE X (.Call (.Name x p) [a] [] pos) (tE K RX W fun ρ => do
      let x ← g ρ
      f x) := PEimp (pe_callTy hc hg hm hv (pa_cons ha pa_nil hs) hn hdb hs rfl) (tCB_of k)
/-- len -/
def rLenR (K : PySem.W.Frag) : RC := fun xs H Q => (∃ p ys, xs = [.ref p] ∧ (SqL K H p ys ∨ SqT K H p ys) ∧ Q (.int ys.length) H) ∨ ∃ z : Str, xs = [.str z] ∧ z.length ≤ sizeLine ∧ Q (.int z.length) H
def rLenDic (K : PySem.W.Frag) : RC := fun xs H Q => ∃ (Hh : Hp) (a : Addr) (t : Bool) (ks ds : List D), Sm Hh H ∧ xs = [.ref a] ∧ Own K H Hh a (.dic t ks ds) ∧ Q (.int ((ks.length : Nat) : Int)) H
theorem call_lenDic (px : PrX X) : CallR X (.builtin "len") (rLenDic X.K) := by
  intro pins s σ H xs us Q I r ⟨Hh, a, t, ks, ds, sm, e, ow, q⟩
  subst e
  obtain ⟨u, rfl, rx⟩ := vals1 r
  obtain rfl : u = .ref a := rx
  cases ow with
  | @dicT _ zs vs _ _ h1 h2 h3 h4 h5 h6 h7 h8 =>
    have hl : zs.length = ks.length := by
      have := congrArg List.length h4
      simpa using this.symm
    have hz : SZ = 16777216 := rfl
    refine call_len_dictH h2 (dictH_of px I sm h1 h4 h5 h7) (by omega) ?_
    rw [hl]
    exact ⟨.int ((ks.length : Nat) : Int), H, I.tok _, ⟨_, rfl⟩, q⟩
  | @dicS kvs _ _ h1 h2 h3 h4 =>
    have hl : kvs.length = ks.length := by
      have := congrArg List.length h3
      simpa using this.symm
    refine d_len I (.inl h1) fun t s' I' => ?_
    rw [hl]
    exact ⟨.int ((ks.length : Nat) : Int), H, I', ⟨_, rfl⟩, q⟩
theorem call_lenR : CallR X (.builtin "len") (rLenR X.K) := by
  refine call_len_seq.or ?_
  intro pins s σ H xs us Q I rv ⟨z, e, hz, q⟩
  exact call_len pins s σ H xs us Q I rv ⟨.str z, z.length, e, ⟨hz, rfl⟩, q⟩
theorem cd_len : CalD K RX W (b1D .len) (fun xs H Q => rLenR K xs H Q ∨ rLenDic K xs H Q) := by
  intro A σ H x a Q live hx h
  cases hx with
  | @tup p vs ds hp hz hr => exact .inl (.inl ⟨p, vs, rfl, .inr (hidSq hp), by rw [hr.length]; exact h.ok (Same.refl H) (.int _)⟩)
  | @lst p vs ds hp hz hr => exact .inl (.inl ⟨p, vs, rfl, .inl (SqL.of (hid_same A H _ _ hp)), by rw [hr.length]; exact h.ok (Same.refl H) (.int _)⟩)
  | @scr p vs ds hp hz hr => exact .inl (.inl ⟨p, vs, rfl, .inl (SqL.up (hid_same A H) hp), by rw [hr.length]; exact h.ok (Same.refl H) (.int _)⟩)
  | str s hs => exact .inl (.inr ⟨_, rfl, by rw [tS_len, ← SZ_eq]; exact hs.1, by rw [tS_len]; exact h.ok (Same.refl H) (.int _)⟩)
  | dicT h1 h2 h3 h4 h5 h6 h7 h8 =>
    obtain ⟨p, e, ow⟩ := own_of (.dicT h1 h2 h3 h4 h5 h6 h7 h8)
    exact .inr ⟨_, p, _, _, _, hid_same A H, by rw [e], ow, h.ok (Same.refl H) (.int _)⟩
  | dicS h1 h2 h3 h4 =>
    obtain ⟨p, e, ow⟩ := own_of (.dicS h1 h2 h3 h4)
    exact .inr ⟨_, p, _, _, _, hid_same A H, by rw [e], ow, h.ok (Same.refl H) (.int _)⟩
  | _ => exact h.elim
/-- tuple -/
def rTupR (K : PySem.W.Frag) : RC := fun xs H Q => ∃ p ys, xs = [.ref p] ∧ ((SqL K H p ys ∧ ∀ l, H l = none → Q (.ref l) (upd H l (.tup ys))) ∨ (SqT K H p ys ∧ Q (.ref p) H))
theorem cd_tuple : CalD K RX W (b1D .tuple) (rTupR K) := by
  intro A σ H x a Q live hx h
  cases hx with
  | @tup p vs ds hp hz hr => exact ⟨p, vs, rfl, .inr ⟨hidSq hp, h.ok (Same.refl H) (.tup hp hz hr)⟩⟩
  | @lst p vs ds hp hz hr =>
    refine ⟨p, vs, rfl, .inl ⟨SqL.of (hid_same A H _ _ hp), fun l hl => ?_⟩⟩
    have e : Same H (upd H l (.tup vs)) := same_upd hl
    refine h.ok e (.tup (.inl (.inl ?_)) hz (Reps.up (hid_up e) _ _ hr))
    rw [hid_out (live.new hl), upd_same]
  | _ => exact h.elim
/-- int -/
def rIntR : RC := fun xs H Q => (∃ i, xs = [.int i] ∧ Q (.int i) H) ∨ ∃ k, xs = [.bl k] ∧ Q (.int (if k then 1 else 0)) H
theorem cd_int : CalD K RX W (b1D .int) rIntR := by
  intro A σ H x a Q live hx h
  cases hx with
  | int i => exact .inl ⟨i, rfl, h.ok (Same.refl H) (.int _)⟩
  | bl b => exact .inr ⟨b, rfl, h.ok (Same.refl H) (.int _)⟩
  | _ => exact h.elim
/-- str -/
def rStrR : RC := fun xs H Q => (∃ i : Int, xs = [.int i] ∧ i.natAbs.log2 < 1920 ∧ Q (.str (toString i)) H) ∨ ∃ a, xs = [.str a] ∧ Q (.str a) H
theorem call_strR : CallR X (.type "str") rStrR := call_str_int.or SkE.call_str_str
theorem cd_str : CalD K RX W (b1D .str) rStrR := by
  intro A σ H x a Q live hx h
  cases hx with
  | int i =>
    obtain ⟨c, h⟩ := Out.must h
    simp only [Bool.and_eq_true, decide_eq_true_eq] at c
    refine .inl ⟨i, rfl, c.1, ?_⟩
    have := h.ok (Same.refl H) (Rep.str (K := K) (figs i) (okT_tx c.2))
    unfold figs at this
    rw [tS_tx] at this
    exact this
  | str s hs => exact .inr ⟨_, rfl, h.ok (Same.refl H) (.str _ hs)⟩
  | _ => exact h.elim
/-- all, any -/
theorem bools_of {H : Hp} : ∀ {vs : List V} {ds : List D} {bs : List Bool}, Reps K H vs ds → boolsD ds = some bs → vs = bs.map V.bl
  | _, [], bs, .nil, e => by cases e; rfl
  | _, d :: ds, bs, .cons a t, e => by
    cases d with
    | bl b =>
      unfold boolsD at e
      cases h : boolsD ds with
      | none => rw [h] at e; cases e
      | some c =>
        rw [h] at e
        cases e
        cases a
        rw [bools_of t h]
        rfl
    | _ => cases e
theorem cd_all : CalD K RX W (b1D .all) (rAll K) := by
  intro A σ H x a Q live hx h
  cases hx with
  | @lst p vs ds hp hz hr =>
    obtain ⟨bs, h1, h⟩ := optR_out h
    have e := bools_of hr h1
    subst e
    exact ⟨p, bs, rfl, SqL.of (hid_same A H _ _ hp), h.ok (Same.refl H) (.bl _)⟩
  | _ => exact h.elim
theorem cd_any : CalD K RX W (b1D .any) (rAny K) := by
  intro A σ H x a Q live hx h
  cases hx with
  | @lst p vs ds hp hz hr =>
    obtain ⟨bs, h1, h⟩ := optR_out h
    have e := bools_of hr h1
    subst e
    exact ⟨p, bs, rfl, SqL.of (hid_same A H _ _ hp), h.ok (Same.refl H) (.bl _)⟩
  | _ => exact h.elim
/-- min, max -/
theorem ints_of {H : Hp} : ∀ {vs : List V} {ds : List D} {bs : List Int}, Reps K H vs ds → intsD ds = some bs → vs = bs.map V.int
  | _, [], bs, .nil, e => by cases e; rfl
  | _, d :: ds, bs, .cons a t, e => by
    cases d with
    | int b =>
      unfold intsD at e
      cases h : intsD ds with
      | none => rw [h] at e; cases e
      | some c =>
        rw [h] at e
        cases e
        cases a
        rw [ints_of t h]
        rfl
    | _ => cases e
theorem minI_of : ∀ (xs : List Int) (m k : Int), (k = m ∨ k ∈ xs) → (∀ y, y = m ∨ y ∈ xs → k ≤ y) → minI m xs = k
  | [], m, k, h, _ => by
    rcases h with h | h
    · exact h.symm
    · cases h
  | x :: xs, m, k, h, hk => by
    show minI (if x < m then x else m) xs = k
    have h1 := hk m (.inl rfl)
    have h2 := hk x (.inr List.mem_cons_self)
    by_cases c : x < m
    · rw [if_pos c]
      refine minI_of xs x k ?_ fun y hy => ?_
      · rcases h with h | h
        · omega
        · rcases List.mem_cons.mp h with h | h
          · exact .inl h
          · exact .inr h
      · rcases hy with rfl | hy
        · exact h2
        · exact hk y (.inr (List.mem_cons_of_mem _ hy))
    · rw [if_neg c]
      refine minI_of xs m k ?_ fun y hy => ?_
      · rcases h with h | h
        · exact .inl h
        · rcases List.mem_cons.mp h with h | h
          · exact .inl (by omega)
          · exact .inr h
      · rcases hy with rfl | hy
        · exact h1
        · exact hk y (.inr (List.mem_cons_of_mem _ hy))
theorem maxI_of : ∀ (xs : List Int) (m k : Int), (k = m ∨ k ∈ xs) → (∀ y, y = m ∨ y ∈ xs → y ≤ k) → maxI m xs = k
  | [], m, k, h, _ => by
    rcases h with h | h
    · exact h.symm
    · cases h
  | x :: xs, m, k, h, hk => by
    show maxI (if m < x then x else m) xs = k
    have h1 := hk m (.inl rfl)
    have h2 := hk x (.inr List.mem_cons_self)
    by_cases c : m < x
    · rw [if_pos c]
      refine maxI_of xs x k ?_ fun y hy => ?_
      · rcases h with h | h
        · omega
        · rcases List.mem_cons.mp h with h | h
          · exact .inl h
          · exact .inr h
      · rcases hy with rfl | hy
        · exact h2
        · exact hk y (.inr (List.mem_cons_of_mem _ hy))
    · rw [if_neg c]
      refine maxI_of xs m k ?_ fun y hy => ?_
      · rcases h with h | h
        · exact .inl h
        · rcases List.mem_cons.mp h with h | h
          · exact .inl (by omega)
          · exact .inr h
      · rcases hy with rfl | hy
        · exact h1
        · exact hk y (.inr (List.mem_cons_of_mem _ hy))
theorem cd_min : CalD K RX W (b1D .min) (rMin K) := by
  intro A σ H x a Q live hx h
  cases hx with
  | @lst p vs ds hp hz hr =>
    obtain ⟨bs, h1, h⟩ := optR_out h
    have e := ints_of hr h1
    subst e
    cases bs with
    | nil => exact h.elim
    | cons n r =>
      refine ⟨p, n :: r, rfl, SqL.of (hid_same A H _ _ hp), Nat.succ_pos _, fun m hm hl => ?_⟩
      have e := minI_of r n m (List.mem_cons.mp hm) fun y hy => hl y (List.mem_cons.mpr hy)
      have := h.ok (Same.refl H) (.int _)
      rw [e] at this
      exact this
  | _ => exact h.elim
theorem cd_max : CalD K RX W (b1D .max) (rMax K) := by
  intro A σ H x a Q live hx h
  cases hx with
  | @lst p vs ds hp hz hr =>
    obtain ⟨bs, h1, h⟩ := optR_out h
    have e := ints_of hr h1
    subst e
    cases bs with
    | nil => exact h.elim
    | cons n r =>
      refine ⟨p, n :: r, rfl, SqL.of (hid_same A H _ _ hp), Nat.succ_pos _, fun m hm hl => ?_⟩
      have e := maxI_of r n m (List.mem_cons.mp hm) fun y hy => hl y (List.mem_cons.mpr hy)
      have := h.ok (Same.refl H) (.int _)
      rw [e] at this
      exact this
  | _ => exact h.elim
/-- list: a new one -/
def rLstR (K : PySem.W.Frag) : RC := fun xs H Q => ∃ p ys, xs = [.ref p] ∧ (SqL K H p ys ∨ SqT K H p ys) ∧ ∀ l, H l = none → Q (.ref l) (upd H l (.lst ys))
def seqD : D → Res (List D)
  | .tup xs => .ok xs
  | .lst xs => .ok xs
  | _ => .stuck
theorem df_list {x : Str} {a : Expr} {p pos} {g : EnvD → Res D} (hg : Gl X x) (hm : X.mg x = none) (hv : bootBuiltins x = some (.type "list")) (ha : PE X a (tE X.K RX W g))
    (hn : x ≠ "__name__") (hdb : (x == ("__debug__" : Str)) = false) (hs : starEach [a] X.env = (false, eval a X.env) :: starEach [] X.env) : PE X (.Call (.Name x p) [a] [] pos) (tF X.K RX W fun ρ => do
      let x ← g ρ
      seqD x) := by
  refine PEimp (pe_callTy (r := rLstR X.K) call_list_of hg hm hv (pa_cons ha pa_nil hs) hn hdb hs rfl) fun σ H Q ⟨A, ρ, r, h⟩ => ?_
  refine ⟨A, ρ, r, ?_⟩
  dsimp only at h
  generalize g ρ = w at h
  cases w with
  | exc e => exact h
  | stuck => exact h
  | ok d =>
    intro v H1 e1 q1
    show rLstR X.K [v] H1 Q
    have fin : ∀ (vs : List V) (ds : List D) (l : Addr), vs.length ≤ SZ → Reps X.K (hid A H1) vs ds → H1 l = none → seqD d = .ok ds → Q (.ref l) (upd H1 l (.lst vs)) := by
      intro vs ds l hz hr hl ed
      have e2 : Same H1 (upd H1 l (.lst vs)) := same_upd hl
      have h' : Out RX W (relF X.K A H) (seqD d) σ H Q := h
      rw [ed] at h'
      exact h' _ _ (e1.trans e2) ⟨l, vs, rfl, e1.free hl, upd_same, hz, Reps.up ((hid_new (.of hl)).trans (hid_up e2)) ds vs hr⟩
    cases q1 with
    | @tup p vs ds hp hz hr => exact ⟨p, vs, rfl, .inr (hidSq hp), fun l hl => fin vs ds l hz hr hl rfl⟩
    | @lst p vs ds hp hz hr => exact ⟨p, vs, rfl, .inl (SqL.of (hid_same A H1 _ _ hp)), fun l hl => fin vs ds l hz hr hl rfl⟩
    | _ => exact h.elim
/-! ### isinstance -/
def tyN : D → String
  | .non => "NoneType"
  | .bl _ => "bool"
  | .int _ => "int"
  | .str _ => "str"
  | .tup _ => "tuple"
  | .lst _ => "list"
  | .scr _ => "list"
  | .itr _ => "list"
  | .dic _ _ _ => "dict"
def notDic : D → Bool
  | .dic _ _ _ => false
  | .itr _ => false
  | _ => true
theorem ty_of {H : Hp} {v : V} {d : D} (h : Rep K H v d) (nd : notDic d = true) : TyX K H v (.type (tyN d)) := by
  cases h with
  | dicT _ _ _ _ _ _ _ _ => cases nd
  | dicS _ _ _ _ => cases nd
  | ptp _ _ _ _ => cases nd
  | non => exact .base .non
  | bl b => exact .base (.bl b)
  | int i => exact .base (.int i)
  | str s _ => exact .base (.str _)
  | tup hp _ _ =>
    rcases hp with (h | ⟨o, h⟩) | ⟨o, its, n, h, c, _⟩
    · exact .base (.tup h)
    · exact .fTuple h
    · exact .kTuple h c
  | lst hp _ _ => exact .base (.lst hp)
  | scr hp _ _ =>
    rcases hp with (h | ⟨o, h⟩) | ⟨o, its, n, h, c, _⟩
    · exact .base (.lst h)
    · exact .base (.frz h)
    · exact .kList h c
def isF : B1 → Option String
  | .isstr => some "str"
  | .isint => some "int"
  | .isbool => some "bool"
  | .istuple => some "tuple"
  | _ => none
theorem isF_kit {f : B1} {T : String} (h : isF f = some T) (d : D) (nd : notDic d = true) : ∃ b, kitB (tyN d) T = some b ∧ b1D f d = .ok (.bl b) := by
  cases f <;> cases h <;> cases d <;> first | (cases nd; done) | exact ⟨_, rfl, rfl⟩
theorem de_isi {f : B1} {T : String} {x y : Str} {a : Expr} {p p2 pos} {g : EnvD → Res D} (hf : isF f = some T) (hg : Gl X x) (hm : X.mg x = none) (hv : bootBuiltins x = some (.builtin "isinstance")) (ha : PE X a (tE X.K RX W g))
    (hn : x ≠ "__name__") (hdb : (x == ("__debug__" : Str)) = false) (hg2 : Gl X y) (hm2 : X.mg y = none) (hv2 : bootBuiltins y = some (.type T)) (hn2 : y ≠ "__name__") (hdb2 : (y == ("__debug__" : Str)) = false)
    (hs : starEach [a, .Name y p2] X.env = (false, eval a X.env) :: starEach [.Name y p2] X.env) (hpl : (backTo pos (starEach [.Name y p2] X.env)).any (·.1) = false) :
    PE X (.Call (.Name x p) [a, .Name y p2] [] pos) (tE X.K RX W fun ρ => do
      let x ← g ρ
      b1D f x) := by
  refine PEimp (pe_callB call_isi hg hm hv (pa_cons ha (pa_cons (pe_bltn (v := .ty T) hg2 hm2 hv2 rfl hn2 hdb2) pa_nil rfl) hs) hn hdb hs hpl) fun σ H Q ⟨A, ρ, r, h⟩ => ?_
  refine ⟨A, ρ, r, h.bind fun d v H1 _ e1 q1 h1 => ?_⟩
  cases hnd : notDic d with
  | false =>
    cases d <;> first | (cases hnd; done) | skip
    all_goals (cases f <;> first | (cases hf; done) | exact h1.elim)
  | true =>
  obtain ⟨b, k1, k2⟩ := isF_kit hf d hnd
  rw [k2] at h1
  exact ⟨v, .ty T, .type (tyN d), .type T, b, rfl, .ty T, ty_of (hidH q1) hnd, kit_ty k1, h1.ok (Same.refl _) (.bl b)⟩
/-! ### join -/
theorem joinT_S (sep : List Nat) : ∀ xs : List (List Nat), Str.join (tS sep) (xs.map tS) = tS (joinT sep xs)
  | [] => rfl
  | [x] => rfl
  | x :: y :: r => by
    show tS x ++ tS sep ++ Str.join (tS sep) ((y :: r).map tS) = _
    rw [joinT_S sep (y :: r), tS_app, tS_app]
    rfl
theorem strs_of {H : Hp} : ∀ {vs : List V} {ds : List D} {xs : List (List Nat)}, Reps K H vs ds → strsD ds = some xs → vs = (xs.map tS).map V.str ∧ ∀ x ∈ xs, okT x
  | _, [], bs, .nil, e => by cases e; exact ⟨rfl, fun _ h => nomatch h⟩
  | _, d :: ds, bs, .cons a t, e => by
    cases d with
    | str s =>
      unfold strsD at e
      cases h : strsD ds with
      | none => rw [h] at e; cases e
      | some c =>
        rw [h] at e
        cases e
        cases a with
        | str _ hs =>
          obtain ⟨h1, h2⟩ := strs_of t h
          exact ⟨by rw [h1]; rfl, fun x hx => by
            rcases List.mem_cons.mp hx with rfl | hx
            · exact hs
            · exact h2 x hx⟩
    | _ => cases e
theorem joinT_mem {sep : List Nat} {c : Nat} : ∀ {xs : List (List Nat)}, c ∈ joinT sep xs → c ∈ sep ∨ ∃ x ∈ xs, c ∈ x
  | [], h => nomatch h
  | [x], h => .inr ⟨x, by simp, h⟩
  | x :: y :: r, h => by
    have h : c ∈ x ++ sep ++ joinT sep (y :: r) := h
    rcases List.mem_append.mp h with h | h
    · rcases List.mem_append.mp h with h | h
      · exact .inr ⟨x, by simp, h⟩
      · exact .inl h
    · rcases joinT_mem h with h | ⟨z, hz, h⟩
      · exact .inl h
      · exact .inr ⟨z, List.mem_cons_of_mem _ hz, h⟩
theorem joinT_len (sep : List Nat) : ∀ xs : List (List Nat), (joinT sep xs).length ≤ joinW sep xs
  | [] => by simp [joinT]
  | [x] => by simp [joinT, joinW]
  | x :: y :: r => by
    have := joinT_len sep (y :: r)
    have e : (joinT sep (x :: y :: r)).length = x.length + sep.length + (joinT sep (y :: r)).length := by simp [joinT]; omega
    have e2 : joinW sep (x :: y :: r) = x.length + sep.length + joinW sep (y :: r) := by
      unfold joinW
      simp only [List.map_cons, List.sum_cons, List.length_cons, Nat.add_mul]
      omega
    omega
theorem de_join {o a : Expr} {apos pos} {go ga : EnvD → Res D} (ho : PE X o (tE X.K RX W go)) (ha : PE X a (tE X.K RX W ga)) (hs : starEach [a] X.env = [(false, eval a X.env)]) (hb : attributeBase o "join" X.env (eval o X.env) = eval o X.env) (hl : (apos.endLine == pos.line) = true) :
    PE X (.Call (.Attribute o "join" apos) [a] [] pos) (tE X.K RX W fun ρ => do
      let x ← go ρ
      must (b2R .join x) do
        let y ← ga ρ
        b2D .join x y) := by
  refine PEimp (pe_join ho ha hs hb hl) fun σ H Q ⟨A, ρ, r, h⟩ => ?_
  refine ⟨A, ρ, r, h.bind fun d v H1 _ e1 q1 h1 => ?_⟩
  cases q1 with
  | str sep hsep =>
    obtain ⟨_, h1⟩ := Out.must h1
    refine ⟨⟨_, rfl⟩, A, ρ, r.up e1, h1.bind fun d2 v2 H2 _ e2 q2 h2 => ?_⟩
    have fin : ∀ (p : Addr) (vs : List V) (ds : List D), Reps X.K (hid A H2) vs ds → (SqL X.K H2 p vs ∨ SqT X.K H2 p vs) → Out RX W (relE X.K A) (do
        let xs ← optR (strsD ds)
        must (decide (joinW sep xs ≤ SZ)) (.ok (.str (joinT sep xs)))) σ H2 Q →
        ∃ a q, ∃ ys : List Str, V.str (tS sep) = .str a ∧ [V.ref p] = [.ref q] ∧ (SqL X.K H2 q (ys.map V.str) ∨ SqT X.K H2 q (ys.map V.str)) ∧ (ys.map (·.length)).sum + ys.length * a.length ≤ 16777216 ∧ Q (.str (Txt.join a ys)) H2 := by
      intro p vs ds hr hp h3
      obtain ⟨xs, h4, h3⟩ := optR_out h3
      obtain ⟨c, h3⟩ := Out.must h3
      have c := of_decide_eq_true c
      obtain ⟨e3, okx⟩ := strs_of hr h4
      subst e3
      refine ⟨tS sep, p, xs.map tS, rfl, rfl, hp, ?_, ?_⟩
      · have e5 : ((xs.map tS).map (·.length)).sum + (xs.map tS).length * (tS sep).length = joinW sep xs := by
          unfold joinW
          rw [tS_len, List.length_map, List.map_map]
          congr 2
        rw [e5]
        exact c
      · rw [TL.join_eq, joinT_S]
        refine h3.ok (Same.refl _) (.str _ ⟨Nat.le_trans (joinT_len sep xs) c, strOk_iff.mpr fun z hz => ?_⟩)
        rcases joinT_mem hz with h | ⟨x, hx, h⟩
        · exact strOk_iff.mp hsep.2 z h
        · exact strOk_iff.mp (okx x hx).2 z h
    cases q2 with
    | @tup p vs ds hp hz hr => exact fin p vs ds hr (.inr (hidSq hp)) h2
    | @lst p vs ds hp hz hr => exact fin p vs ds hr (.inl (SqL.of (hid_same A H2 _ _ hp))) h2
    | _ => exact h2.elim
  | _ => exact nomatch (Out.must h1).1
/-! ### index -/
theorem indexOf_spec (x : D) : ∀ (ys : List D) (k j : Nat), indexOf x k ys = some j → ∃ i y, j = k + i ∧ ys[i]? = some y ∧ eqD y x = true ∧ ∀ m z, m < i → ys[m]? = some z → eqD z x = false
  | [], _, _, h => nomatch h
  | y :: ys, k, j, h => by
    unfold indexOf at h
    split at h
    · rename_i hy
      cases h
      exact ⟨0, y, rfl, rfl, hy, fun m z hm => absurd hm (Nat.not_lt_zero m)⟩
    · rename_i hy
      obtain ⟨i, y', h1, h2, h3, h4⟩ := indexOf_spec x ys (k + 1) j h
      refine ⟨i + 1, y', by omega, by simpa using h2, h3, fun m z hm hz => ?_⟩
      cases m with
      | zero =>
        have e : y = z := by simpa using hz
        rw [← e]
        simpa using hy
      | succ m => exact h4 m z (by omega) (by simpa using hz)
theorem pys_get {ds : List D} {i : Nat} {d : D} (h : ds[i]? = some d) : (pys ds)[i]? = some (py d) := by
  rw [pys_map, List.getElem?_map, h]
  rfl
theorem pys_get' {ds : List D} {i : Nat} {z : PyData} (h : (pys ds)[i]? = some z) : ∃ d, ds[i]? = some d ∧ z = py d := by
  rw [pys_map, List.getElem?_map] at h
  obtain ⟨d, h1, h2⟩ := Option.map_eq_some_iff.mp h
  exact ⟨d, h1, h2.symm⟩
theorem plains_mem : ∀ {ds : List D} {i : Nat} {d : D}, D.plains ds = true → ds[i]? = some d → d.plain = true
  | [], _, _, _, h => by simp at h
  | x :: xs, 0, d, hp, h => by
    simp only [D.plains, Bool.and_eq_true] at hp
    have e : x = d := by simpa using h
    rw [← e]; exact hp.1
  | x :: xs, i + 1, d, hp, h => by
    simp only [D.plains, Bool.and_eq_true] at hp
    exact plains_mem hp.2 (by simpa using h)
theorem de_index {o a : Expr} {apos pos} {go ga : EnvD → Res D} (hu : X.A.units + 120 < cLine) (ho : PE X o (tE X.K RX W go)) (ha : PE X a (tE X.K RX W ga)) (hs : starEach [a] X.env = (false, eval a X.env) :: starEach [] X.env)
    (hb : attributeBase o "index" X.env (eval o X.env) = eval o X.env) (hl : (apos.endLine == pos.line) = true) (hf : ((backTo pos (starEach [a] X.env)).all (fun x => !x.1) && (backToKw pos (keywordEach [] X.env)).all (fun x => x.1.isSome)
      && decide (([a] : List Expr).length + ([] : List Keyword).length + (if ([] : List Keyword).isEmpty then 0 else 1) < 30)) = true) :
    PE X (.Call (.Attribute o "index" apos) [a] [] pos) (tE X.K RX W fun ρ => do
      let x ← go ρ
      must (b2R .index x) do
        let y ← ga ρ
        b2D .index x y) := by
  refine PEimp (pe_bm F.plainAttrs_list F.slot_list_index F.type_list_index (mt_indexD (by omega)) ho (pa_cons ha pa_nil hs) hb hf hl hs rfl) fun σ H Q ⟨A, ρ, r, h⟩ => ?_
  refine ⟨A, ρ, r, h.bind fun d v H1 _ e1 q1 h1 => ?_⟩
  obtain ⟨c, h1⟩ := Out.must h1
  cases q1 with
  | @lst p vs ds hp hz hr =>
    refine ⟨.inl ⟨rfl, _, SqL.of (hid_same A H1 _ _ hp)⟩, A, ρ, r.up e1, h1.bind fun d2 v2 H2 _ e2 q2 h2 => ?_⟩
    obtain ⟨c2, h2⟩ := Out.must h2
    simp only [Bool.and_eq_true, decide_eq_true_eq] at c2
    obtain ⟨⟨⟨p1, p2⟩, p3⟩, p4⟩ := c2
    obtain ⟨k, hk, h2⟩ := optR_out h2
    obtain ⟨i, y, h3, h4, h5, h6⟩ := indexOf_spec d2 ds 0 k hk
    have h3 : k = i := by omega
    subst h3
    have rl : Rep X.K H2 (.ref p) (.lst ds) := hidH (A := A) (Rep.up (hid_up e2) _ _ (.lst hp hz hr))
    have pl : (D.lst ds).plain = true := by simpa [D.plain] using p2
    obtain ⟨dl, ll⟩ := Rep.dp _ _ rl pl
    obtain ⟨d2p, l2⟩ := Rep.dp _ _ (hidH q2) p1
    have s1 : SeqAt.shaped (py (.lst ds)) = true := by
      unfold SeqAt.shaped
      rw [ll, py_dep _ pl, Bool.true_and]
      refine decide_eq_true ?_
      have : (D.lst ds).dep = D.deps ds + 1 := by simp [D.dep]
      omega
    have s2 : SeqAt.shaped (py d2) = true := by
      unfold SeqAt.shaped
      rw [l2, py_dep _ p1, Bool.true_and]
      exact decide_eq_true (by omega)
    simp only [py] at dl s1
    refine ⟨p, v2, py d2, pys ds, k, py y, rfl, rfl, dl, d2p, s1, s2, pys_get h4, ?_, fun m z hm hz => ?_, h2.ok (Same.refl _) (.int _)⟩
    · rw [py_eqv y d2 (plains_mem p2 h4) p1]
      exact h5
    · obtain ⟨z', h7, rfl⟩ := pys_get' hz
      rw [py_eqv z' d2 (plains_mem p2 h7) p1]
      exact h6 m z' hm h7
  | _ => exact nomatch c
end
end Snd
/-! sorting of data that are alike up to their first difference -/
namespace SortW
open PySem PySem.W PySem.Calls PyProof.Rows SeqAt
def wAll : List PyData → List PyData → Bool
  | x :: xs, y :: ys => alike x y && (!PyData.eqv x y || wAll xs ys)
  | _, _ => true
def wAlike : PyData → PyData → Bool
  | .tuple xs, .tuple ys => wAll xs ys
  | x, y => alike x y
theorem wAll_cons {x y : PyData} {xs ys : List PyData} (h : wAll (x :: xs) (y :: ys) = true) : alike x y = true ∧ (PyData.eqv x y = true → wAll xs ys = true) := by
  rw [wAll, Bool.and_eq_true, Bool.or_eq_true] at h
  refine ⟨h.1, fun e => ?_⟩
  rcases h.2 with q | q
  · rw [e] at q; cases q
  · exact q
theorem wAlike_tup {xs ys : List PyData} (h : wAlike (.tuple xs) (.tuple ys) = true) : wAll xs ys = true := by simpa [wAlike] using h
theorem wAlike_other {x y : PyData} (h : wAlike x y = true) (n : ∀ xs, x ≠ .tuple xs) : alike x y = true := by
  cases x with
  | tuple xs => exact absurd rfl (n xs)
  | _ => simpa [wAlike] using h
theorem wAlike_ty {x y : PyData} (h : wAlike x y = true) : dataType x = dataType y := by
  cases x with
  | tuple xs =>
    cases y with
    | tuple ys => rfl
    | _ => simp [wAlike, alike] at h
  | _ => exact dataType_alike (wAlike_other h fun _ z => by cases z)
theorem dataKind_someW {h : Heap} {ds : List PyData} (hc : ∀ d ∈ ds, d.canLay0 = true) {v : Value} {d : PyData} {as : List Addr} (hd : d ∈ ds) (r : Reads h v d as) : (dataKind h ds).keyOf v = some (keyToks d) := by
  have q : ∃ d, d ∈ ds ∧ ∃ as, Reads h v d as := ⟨d, hd, as, r⟩
  have e : (dataKind h ds).keyOf v = some (keyToks q.choose) := by
    show (open Classical in if q : ∃ d, d ∈ ds ∧ ∃ as, Reads h v d as then some (keyToks q.choose) else none) = _
    rw [dif_pos q]
  obtain ⟨h1, as', h2⟩ := q.choose_spec
  rw [e, Reads.unique _ _ _ _ _ (hc _ h1) h2 r]
section
variable {prog : Program} {w : World} {A : Around} {E : Value → Shared → Prop} {s : Shared}
theorem katLex_w {b fin : Bool} {Q : Bool → Shared → Prop} : ∀ (xs ys : List PyData) (i : Nat) (vs ws : List Value) (as bs : List Addr), ReadsAll s.heap vs xs as → ReadsAll s.heap ws ys bs → wAll xs ys = true →
    A.units + min (PyData.depthAll xs) (PyData.depthAll ys) < cLine → (b = true → i = 0 → ∀ x r t, xs = x :: r → x ≠ .tuple t) → fin = decide (xs.length < ys.length) → Q (PyProof.Rows.lexLt itemOrd (keyToksAll xs) (keyToksAll ys)) s → KatLex prog w A b fin Q (vs.zip ws) i s
  | [], [], i, _, _, _, _, ra, rb, _, _, _, hf, hq => by
    cases ra
    cases rb
    have e : fin = false := by rw [hf]; rfl
    subst e
    rw [lex_irrefl] at hq
    exact kat_nil hq
  | [], y :: ys, i, _, _, _, _, ra, rb, _, _, _, hf, hq => by
    cases ra
    have e : fin = true := by rw [hf]; exact decide_eq_true (Nat.succ_pos _)
    subst e
    rw [toks_all_cons] at hq
    simp only [keyToksAll] at hq
    rw [lex_diff (O := itemOrd) (by simp)] at hq
    rw [List.zip_nil_left]
    exact kat_nil (by simpa [itemLt] using hq)
  | x :: xs, [], i, _, _, _, _, ra, rb, _, _, _, hf, hq => by
    cases rb
    have e : fin = false := by rw [hf]; exact decide_eq_false (Nat.not_lt_zero _)
    subst e
    rw [toks_all_cons] at hq
    simp only [keyToksAll] at hq
    rw [lex_diff (O := itemOrd) (by simp)] at hq
    rw [List.zip_nil_right]
    exact kat_nil (by simpa [itemLt] using hq)
  | x :: xs, y :: ys, i, _, _, _, _, ra, rb, h, hu, hb, hf, hq => by
    obtain ⟨h1, h2⟩ := wAll_cons h
    have hf' : fin = decide (xs.length < ys.length) := by
      rw [hf]
      simp only [List.length_cons, Nat.add_lt_add_iff_right]
    cases ra with
    | cons r rs =>
      cases rb with
      | cons r' rs' =>
        rw [List.zip_cons_cons]
        refine kat_cons (eqAt_alike x y A s _ _ _ _ r r' h1 (SeqAt.room_head hu) prog w _ _ ?_)
        cases hx : PyData.eqv x y with
        | true =>
          rw [dataLt_all_yes h1 hx] at hq
          exact kat_yes (katLex_w xs ys (i + 1) _ _ _ _ rs rs' (h2 hx) (SeqAt.room_tail hu) (fun _ hi => absurd hi (Nat.succ_ne_zero i)) hf' hq)
        | false =>
          rw [dataLt_all_no h1 hx] at hq
          refine kat_no (oneLt_alike (fun hbi t => ?_) r r' h1 (ne_none_of h1 hx) (SeqAt.room_head hu) hq)
          rw [Bool.and_eq_true] at hbi
          exact hb hbi.1 (by simpa using hbi.2) x xs t rfl
def AllW (ds : List PyData) : Prop := ∀ d, d ∈ ds → ∀ d', d' ∈ ds → wAlike d d' = true
theorem sortsAt {vs : List Value} {ds : List PyData} (e : EachIs (fun v d => ∃ as, Reads s.heap v d as) vs ds) (hc : ∀ d ∈ ds, d.canLay0 = true) (hal : AllW ds) (hk : Sortable ds) (hu : ∀ d, d ∈ ds → A.units + d.depth < cLine) : SortsAt prog w A s (dataKind s.heap ds) vs := by
  have room : ∀ {d d' : PyData}, d ∈ ds → A.units + min d.depth d'.depth < cLine := fun {d d'} hd => Nat.lt_of_le_of_lt (Nat.add_le_add_left (Nat.min_le_left _ _) _) (hu d hd)
  refine ⟨fun v hv => ?_, ?_⟩
  · obtain ⟨d, hd, as, r⟩ := e.left v hv
    exact ⟨_, dataKind_someW hc hd r⟩
  · rcases hk with ht | hn
    · cases ds with
      | nil =>
        cases e
        exact ⟨general', fun E x y a b Q ha _ _ => (by
          obtain ⟨d, _, hd, _⟩ := dataKind_inv ha
          exact absurd hd (by simp)), fun h2 => absurd h2 (by simp)⟩
      | cons d₀ ds₀ =>
        obtain ⟨x₀, r₀, e₀⟩ := ht d₀ (List.mem_cons_self ..)
        have hfirst : ∀ x r, PyData.tuple (x :: r) ∈ d₀ :: ds₀ → alike x x₀ = true := by
          intro x r hm
          have q := hal _ hm d₀ (List.mem_cons_self ..)
          rw [e₀] at q
          exact (wAll_cons (wAlike_tup q)).1
        refine ⟨tuples' (dataType x₀ != Value.type "tuple"), ?_, fun h2 E Q hq => ?_⟩
        · intro E x y a b Q ha hb hq
          obtain ⟨d, as, hd, ra, rfl⟩ := dataKind_inv ha
          obtain ⟨d', as', hd', rb, rfl⟩ := dataKind_inv hb
          have hdd := hal d hd d' hd'
          have hroom := room (d' := d') hd
          obtain ⟨x1, r1, rfl⟩ := ht d hd
          obtain ⟨x2, r2, rfl⟩ := ht d' hd'
          have hq' : Q (dataLt (.tuple (x1 :: r1)) (.tuple (x2 :: r2))) s := hq
          rw [dataLt_tuple] at hq'
          cases ra with
          | @tuple l o xs n _ _ h1 h2 h3 h4 =>
            cases rb with
            | @tuple l' o' xs' n' _ _ k1 k2 k3 k4 =>
              have n1 : xs.size = (x1 :: r1).length := by simpa using SeqAt.ReadsAll.length _ _ _ h4
              have n2 : xs'.size = (x2 :: r2).length := by simpa using SeqAt.ReadsAll.length _ _ _ k4
              refine kat_lt h1 h3 k1 k3 (katLex_w (x1 :: r1) (x2 :: r2) 0 _ _ _ _ h4 k4 (wAlike_tup hdd) (by have q := SeqAt.room_in hroom; omega) (fun hb _ x r t ex => ?_) (by rw [n1, n2]) hq')
              obtain ⟨rfl, rfl⟩ := List.cons.inj ex
              have q := dataType_alike (hfirst _ _ hd)
              rw [← q] at hb
              exact dataType_tuple hb t
        · obtain ⟨fs, t1, t2, t3⟩ := each_katTups e ht
          refine kat_kind (T := dataType x₀) t1 (by omega) (fun f hf => ?_) (beq_self_eq_true _) hq
          obtain ⟨x, r, as, m1, m2⟩ := t3 f hf
          rw [← dataType_alike (hfirst x r m1)]
          exact looks_reads m2
    · refine ⟨oneType', ?_, fun h2 E Q hq => ?_⟩
      · intro E x y a b Q ha hb hq
        obtain ⟨d, as, hd, ra, rfl⟩ := dataKind_inv ha
        obtain ⟨d', as', hd', rb, rfl⟩ := dataKind_inv hb
        rw [keyLt'_oneType]
        exact oneLt_alike (fun _ => (hn d hd).2) ra rb (wAlike_other (hal d hd d' hd') (hn d hd).2) (hn d hd).1 (room hd) hq
      · cases ds with
        | nil =>
          cases e
          exact absurd h2 (by simp)
        | cons d₀ ds₀ =>
          refine kas_kind (T := dataType d₀) h2 (fun v hv => ?_) (dataType_other (hn d₀ (List.mem_cons_self ..)).2) (beq_self_eq_true _) hq
          obtain ⟨d, hd, as, r⟩ := e.left v hv
          rw [← wAlike_ty (hal d hd d₀ (List.mem_cons_self ..))]
          exact looks_reads r
end
section
variable {β : Type}
theorem each_keysW {h : Heap} {ds : List PyData} (hc : ∀ d ∈ ds, d.canLay0 = true) {vs : List Value} (e : EachIs (fun v d => ∃ as, Reads h v d as) vs ds) : EachIs (fun v d => (dataKind h ds).keyOf v = some (keyToks d)) vs ds :=
  (each_mem e).mono fun _ _ ⟨⟨_, r⟩, hd⟩ => dataKind_someW hc hd r
theorem sortVals_dataW {h' : Heap} {R : Value → β → Prop} {enc : β → PyData} {vs : List Value} {bs : List β} (rev : Bool) (e : EachIs R vs bs) (er : EachIs (fun v b => ∃ as, Reads h' v (enc b) as) vs bs) (hc : ∀ d ∈ bs.map enc, d.canLay0 = true) :
    EachIs R (sortVals (dataKind h' (bs.map enc)) rev vs vs) (bs.mergeSort (dataLe rev enc)) :=
  sortVals_each (κ := dataKind h' (bs.map enc)) (fun b => keyToks (enc b)) e (each_of_map enc (each_keysW hc (each_map (R := fun v d => ∃ as, Reads h' v d as) enc er)))
variable {prog : Program} {w : World} {A : Around} {E : Value → Shared → Prop} {s : Shared} {vs : List Value} {bs : List β} {enc : β → PyData} {R : Value → β → Prop}
theorem sorted_dataW {l : Addr} {Q : Value → Shared → Prop} (hl : s.heap.IsList l vs.toArray) (e : EachIs R vs bs) (er : EachIs (fun v b => ∃ as, Reads s.heap v (enc b) as) vs bs) (hc : ∀ d ∈ bs.map enc, d.canLay0 = true) (hal : AllW (bs.map enc)) (hk : Sortable (bs.map enc)) (hL : bs.length ≤ sizeLine)
    (hu : ∀ b, b ∈ bs → A.units + 2 + (enc b).depth < cLine) (h : ∀ out, out.length = bs.length → EachIs R out (bs.mergeSort (dataLe false enc)) → Q (.ref (s.heap.objs.size + 1)) { s with heap := sortedAll s.heap vs (List.toArray out) }) :
    wpAny (model prog w) A (call (.builtin "sorted") [.ref l]) Q E s := by
  have er' : EachIs (fun v b => ∃ as, Reads (sortingHeap (copyHeap s.heap vs) (s.heap.objs.size + 1) vs) v (enc b) as) vs bs := er.mono fun _ _ ⟨as, r⟩ => ⟨as, PyProof.Rows.Reads.keeps (fun _ _ => sorting_copy_old) r⟩
  exact sorted_vals hl (sortsAt (s := { s with heap := sortingHeap (copyHeap s.heap vs) (s.heap.objs.size + 1) vs }) (each_map (R := fun v d => ∃ as, Reads (sortingHeap (copyHeap s.heap vs) (s.heap.objs.size + 1) vs) v d as) enc er') hc hal hk (bound_map hu)) (by rw [e.length]; exact hL)
    (h _ (by rw [sortVals_length false rfl]; exact e.length) (sortVals_dataW false e er' hc))
theorem list_sort_dataW {a : Addr} {n : Nat} {Q : Value → Shared → Prop} (ho : s.heap.get? a = some (seqObj "list" vs.toArray n)) (e : EachIs R vs bs) (er : EachIs (fun v b => ∃ as, Reads s.heap v (enc b) as ∧ a ∉ as) vs bs) (hs : ∀ d ∈ bs.map enc, alike d d = true) (hc : ∀ d ∈ bs.map enc, d.canLay0 = true) (hal : AllW (bs.map enc)) (hk : Sortable (bs.map enc)) (hL : bs.length ≤ sizeLine)
    (hu : ∀ b, b ∈ bs → A.units + 1 + (enc b).depth < cLine) (h : ∀ out, out.length = bs.length → EachIs R out (bs.mergeSort (dataLe false enc)) → Q .none { s with heap := sortedHeap s.heap a vs (List.toArray out) }) :
    wpAny (model prog w) A (call (.builtin "list.sort") [.ref a]) Q E s := by
  have er' : EachIs (fun v b => ∃ as, Reads (sortingHeap s.heap a vs) v (enc b) as) vs bs :=
    (each_mem er).mono fun v b ⟨⟨as, r, hn⟩, hb⟩ => ⟨as, Reads.keepBut (h' := sortingHeap s.heap a vs) (fun _ _ hb q => sortingHeap_old hb q) (fun o q => by rw [ho] at q; rw [← Option.some.inj q]) _ _ _ (hs _ (List.mem_map.mpr ⟨b, hb, rfl⟩)) r hn⟩
  refine wpAny_call_entry slot_list_sort ⟨_, ho, rfl⟩ entry_list_sort (list_sort_vals (κ := dataKind (sortingHeap s.heap a vs) (bs.map enc)) ho (sortsAt (s := { s with heap := sortingHeap s.heap a vs }) (each_map (R := fun v d => ∃ as, Reads (sortingHeap s.heap a vs) v d as) enc er') hc hal hk (bound_map hu)) (by rw [e.length]; exact hL) ⟨.none, rfl, ?_⟩) (args_list_sort _)
  exact h _ (by rw [sortVals_length false rfl]; exact e.length) (sortVals_dataW false e er' hc)
end
end SortW
namespace Snd
open PySem PySem.Spec PyProof.Rows L2 Dt
variable [PrW]
/-! ### sorted -/
mutual
theorem like_py : ∀ a b : D, likeD a b = true → PySem.W.alike (py a) (py b) = true
  | .non, b, h => by cases b <;> first | (cases h; done) | simp [py, PySem.W.alike]
  | .bl _, b, h => by cases b <;> first | (cases h; done) | simp [py, PySem.W.alike]
  | .int _, b, h => by cases b <;> first | (cases h; done) | simp [py, PySem.W.alike]
  | .str _, b, h => by cases b <;> first | (cases h; done) | simp [py, PySem.W.alike]
  | .tup xs, b, h => by
    cases b with
    | tup ys =>
      simp only [py, PySem.W.alike]
      exact likes_py xs ys (by simpa [likeD] using h)
    | _ => simp [likeD] at h
  | .lst _, b, h => by cases b <;> simp [likeD] at h
  | .dic _ _ _, b, h => by cases b <;> simp [likeD] at h
  | .scr _, b, h => by cases b <;> simp [likeD] at h
  | .itr _, b, h => by cases b <;> simp [likeD] at h
theorem likes_py : ∀ a b : List D, likeDs a b = true → PySem.W.alikeAll (pys a) (pys b) = true
  | [], b, _ => by simp [pys, PySem.W.alikeAll]
  | x :: xs, [], _ => by simp [pys, PySem.W.alikeAll]
  | x :: xs, y :: ys, h => by
    simp only [likeDs, Bool.and_eq_true] at h
    simp only [pys, PySem.W.alikeAll, like_py x y h.1, likes_py xs ys h.2]
    rfl
end
mutual
theorem lt_py : ∀ a b : D, likeD a b = true → a.plain = true → b.plain = true → PySem.W.dataLt (py a) (py b) = ltD a b
  | .non, b, h, _, _ => by
    cases b <;> first | (cases h; done) | skip
    exact PyProof.Rows.lex_irrefl _
  | .bl x, b, h, _, _ => by
    cases b with
    | bl y =>
      simp only [py, PySem.W.dataLt_bool, ltD]
      cases x <;> cases y <;> rfl
    | _ => simp [likeD] at h
  | .int x, b, h, _, _ => by
    cases b with
    | int y => simp only [py, PySem.W.dataLt_int, ltD]
    | _ => simp [likeD] at h
  | .str x, b, h, _, _ => by
    cases b with
    | str y =>
      simp only [py, PySem.W.dataLt_str, ltD, tS]
    | _ => simp [likeD] at h
  | .tup xs, b, h, p, q => by
    cases b with
    | tup ys =>
      simp only [py, PySem.W.dataLt_tuple, ltD]
      exact lts_py xs ys (by simpa [likeD] using h) (by simpa [D.plain] using p) (by simpa [D.plain] using q)
    | _ => simp [likeD] at h
  | .lst _, b, h, _, _ => by cases b <;> simp [likeD] at h
  | .dic _ _ _, b, h, _, _ => by cases b <;> simp [likeD] at h
  | .scr _, b, h, _, _ => by cases b <;> simp [likeD] at h
  | .itr _, b, h, _, _ => by cases b <;> simp [likeD] at h
theorem lts_py : ∀ a b : List D, likeDs a b = true → D.plains a = true → D.plains b = true → PyProof.Rows.lexLt PyProof.Rows.itemOrd (PySem.W.keyToksAll (pys a)) (PySem.W.keyToksAll (pys b)) = ltDs a b
  | [], [], _, _, _ => PyProof.Rows.lex_irrefl _
  | [], y :: ys, _, _, _ => by
    simp only [pys]
    rw [PySem.W.toks_all_cons]
    simp only [PySem.W.keyToksAll]
    rw [PyProof.Rows.lex_diff (O := PyProof.Rows.itemOrd) (by simp)]
    rfl
  | x :: xs, [], _, _, _ => by
    simp only [pys]
    rw [PySem.W.toks_all_cons]
    simp only [PySem.W.keyToksAll]
    rw [PyProof.Rows.lex_diff (O := PyProof.Rows.itemOrd) (by simp)]
    rfl
  | x :: xs, y :: ys, h, p, q => by
    simp only [likeDs, Bool.and_eq_true] at h
    simp only [D.plains, Bool.and_eq_true] at p q
    have := PySem.W.dataLt_cons (like_py x y h.1) (pys xs) (pys ys)
    simp only [pys]
    rw [this, py_eqv x y p.1 q.1, lts_py xs ys h.2 p.2 q.2, lt_py x y h.1 p.1 q.1]
    rfl
end

theorem wlikes_py : ∀ a b : List D, wlikeDs a b = true → D.plains a = true → D.plains b = true → SortW.wAll (pys a) (pys b) = true ∧ PyProof.Rows.lexLt PyProof.Rows.itemOrd (PySem.W.keyToksAll (pys a)) (PySem.W.keyToksAll (pys b)) = ltDs a b
  | [], [], _, _, _ => ⟨by simp [pys, SortW.wAll], PyProof.Rows.lex_irrefl _⟩
  | [], y :: ys, _, p, q => ⟨by simp [pys, SortW.wAll], by
      exact lts_py [] (y :: ys) (by simp [likeDs]) p q⟩
  | x :: xs, [], _, p, q => ⟨by simp [pys, SortW.wAll], by
      exact lts_py (x :: xs) [] (by simp [likeDs]) p q⟩
  | x :: xs, y :: ys, h, p, q => by
    simp only [wlikeDs, Bool.and_eq_true, Bool.or_eq_true] at h
    simp only [D.plains, Bool.and_eq_true] at p q
    have e := py_eqv x y p.1 q.1
    have dl := PySem.W.dataLt_cons (like_py x y h.1) (pys xs) (pys ys)
    simp only [pys]
    rw [dl, e, lt_py x y h.1 p.1 q.1]
    simp only [SortW.wAll, like_py x y h.1, Bool.true_and, e]
    cases hx : eqD x y with
    | true =>
      rw [hx] at h
      obtain ⟨g1, g2⟩ := wlikes_py xs ys (by simpa using h.2) p.2 q.2
      exact ⟨by simpa using g1, by simpa [ltDs, hx] using g2⟩
    | false => exact ⟨rfl, by simp [ltDs, hx]⟩
theorem wlike_py {a b : D} (h : wlike a b = true) (p : a.plain = true) (q : b.plain = true) : SortW.wAlike (py a) (py b) = true ∧ PySem.W.dataLt (py a) (py b) = ltD a b := by
  have other : (∀ xs, a ≠ .tup xs) → likeD a b = true → SortW.wAlike (py a) (py b) = true ∧ PySem.W.dataLt (py a) (py b) = ltD a b := fun n h => by
    refine ⟨?_, lt_py a b h p q⟩
    have := like_py a b h
    cases a <;> first | exact absurd rfl (n _) | (simp only [py, SortW.wAlike] at this ⊢; exact this)
  cases a with
  | tup xs =>
    cases b with
    | tup ys =>
      obtain ⟨g1, g2⟩ := wlikes_py xs ys h (by simpa [D.plain] using p) (by simpa [D.plain] using q)
      refine ⟨by simpa [py, SortW.wAlike] using g1, ?_⟩
      simp only [py, PySem.W.dataLt_tuple, ltD]
      exact g2
    | _ => simp [wlike, likeD] at h
  | _ => exact other (fun _ z => by cases z) h
theorem like_self : ∀ a : D, a.plain = true → PySem.W.alike (py a) (py a) = true := by
  have key : (∀ a : D, a.plain = true → PySem.W.alike (py a) (py a) = true) ∧ True := by
    refine ⟨?_, True.intro⟩
    intro a
    induction a using D.rec (motive_2 := fun ds => D.plains ds = true → PySem.W.alikeAll (pys ds) (pys ds) = true) with
    | tup xs ih => intro h; simp only [py, PySem.W.alike]; exact ih (by simpa [D.plain] using h)
    | lst xs ih => intro h; simp only [py, PySem.W.alike]; exact ih (by simpa [D.plain] using h)
    | nil => simp [pys, PySem.W.alikeAll]
    | cons x xs ih1 ih2 =>
      rename_i h
      simp only [D.plains, Bool.and_eq_true] at h
      simp only [pys, PySem.W.alikeAll, ih1 h.1, ih2 h.2]
      rfl
    | dic _ _ _ _ _ => intro h; simp [D.plain] at h
    | scr _ _ => intro h; simp [D.plain] at h
    | itr _ _ => intro h; simp [D.plain] at h
    | _ => intro _; simp [py, PySem.W.alike]
  exact key.1
theorem vals_zip {vs : List V} : ∀ {us : List Value} {ds : List D}, Vals vs us → vs.length = ds.length → PySem.W.EachIs (fun u (b : V × D) => RelV b.1 u) us (vs.zip ds) := by
  induction vs with
  | nil =>
    intro us ds r h
    cases r
    cases ds with
    | nil => exact .nil
    | cons _ _ => cases h
  | cons v vs ih =>
    intro us ds r h
    cases r with
    | cons a t =>
      cases ds with
      | nil => cases h
      | cons d ds => exact .cons a (ih t (by simpa using h))
def rSortedD (K : PySem.W.Frag) : RC := fun vs H Q => ∃ a xs ds, vs = [.ref a] ∧ SqL K H a xs ∧ Reps K H xs ds ∧ sortOk ds = true ∧ xs.length ≤ SZ ∧ ∀ p, H p = none → Q (.ref p) (upd H p (.lst (((xs.zip ds).mergeSort fun a b => leD a.2 b.2).map Prod.fst)))
theorem sortOk_of {ds : List D} (h : sortOk ds = true) : D.plains ds = true ∧ D.deps ds ≤ 100 ∧ (∀ x ∈ ds, ∀ y ∈ ds, wlike x y = true) ∧ ((∀ x ∈ ds, someTup x = true) ∨ ∀ x ∈ ds, notTup x = true) := by
  simp only [sortOk, Bool.and_eq_true, Bool.or_eq_true, decide_eq_true_eq, List.all_eq_true] at h
  exact ⟨h.1.1.1, h.1.1.2, h.1.2, h.2⟩
theorem plains_in : ∀ {ds : List D}, D.plains ds = true → ∀ d ∈ ds, d.plain = true
  | d :: ds, h, x, hx => by
    simp only [D.plains, Bool.and_eq_true] at h
    rcases List.mem_cons.mp hx with rfl | hx
    · exact h.1
    · exact plains_in h.2 x hx
theorem deps_mem : ∀ {ds : List D} {n : Nat}, D.deps ds ≤ n → ∀ d ∈ ds, d.dep ≤ n
  | d :: ds, n, h, x, hx => by
    simp only [D.deps] at h
    rcases List.mem_cons.mp hx with rfl | hx
    · omega
    · exact deps_mem (by omega) x hx
theorem zip_snd_mem {vs : List V} {ds : List D} {b : V × D} (h : b ∈ vs.zip ds) : b.2 ∈ ds := (List.of_mem_zip h).2
theorem sortable_py {ds : List D} (h : (∀ x ∈ ds, someTup x = true) ∨ ∀ x ∈ ds, notTup x = true) {l : List (V × D)} (hl : ∀ b ∈ l, b.2 ∈ ds) : PySem.W.Sortable (l.map fun b => py b.2) := by
  rcases h with h | h
  · refine .inl fun d hd => ?_
    obtain ⟨b, hb, rfl⟩ := List.mem_map.mp hd
    have := h _ (hl b hb)
    cases hq : b.2 with
    | tup xs =>
      rw [hq] at this
      cases xs with
      | nil => cases this
      | cons x r => exact ⟨py x, pys r, by simp [py, pys]⟩
    | _ => rw [hq] at this; cases this
  · refine .inr fun d hd => ?_
    obtain ⟨b, hb, rfl⟩ := List.mem_map.mp hd
    have := h _ (hl b hb)
    cases hq : b.2 <;> rw [hq] at this <;> first | (cases this; done) | (constructor <;> simp [py])
theorem each_reads {X : Cx} {pins : List (Addr × Obj)} {σ : L2.St} {H : Hp} {s : Shared} (I : Inv X pins σ H s) {xs : List V} : ∀ {us : List Value} {ds : List D}, Vals xs us → Reps X.K H xs ds → D.plains ds = true → PySem.W.EachIs (fun v (b : V × D) => ∃ as, Reads s.heap v (py b.2) as) us (xs.zip ds) := by
  induction xs with
  | nil =>
    intro us ds r hr _
    cases r
    cases hr
    exact .nil
  | cons x xs ih =>
    intro us ds r hr p
    cases r with
    | cons a t =>
      cases hr with
      | cons b c =>
        simp only [D.plains, Bool.and_eq_true] at p
        exact .cons (Dp.reads I _ _ _ (Rep.dp _ _ b p.1).1 a) (ih t c p.2)
theorem vals_of_each {l : List (V × D)} : ∀ {out : List Value}, PySem.W.EachIs (fun u (b : V × D) => RelV b.1 u) out l → Vals (l.map Prod.fst) out := by
  induction l with
  | nil =>
    intro out e
    cases e
    exact .nil
  | cons b l ih =>
    intro out e
    cases e with
    | cons a t => exact .cons a (ih t)
theorem lay_of {K : PySem.W.Frag} {H : Hp} : ∀ {ds : List D} {vs : List V}, Reps K H vs ds → D.plains ds = true → ∀ d ∈ ds, (py d).canLay0 = true
  | d :: ds, _, .cons a t, h, x, hx => by
    simp only [D.plains, Bool.and_eq_true] at h
    rcases List.mem_cons.mp hx with rfl | hx
    · exact (Rep.dp _ _ a h.1).2
    · exact lay_of t h.2 x hx
theorem cr_sortedD {X : Cx} (hu : X.A.units + 120 < cLine) : CallR X (.builtin "sorted") (rSortedD X.K) := by
  intro pins s σ H vs us Q I r h
  obtain ⟨a, xs, ds, rfl, hs, hr, ok, hz, q⟩ := h
  obtain ⟨its, rv, hl, _⟩ := I.list hs
  rw [Vals.ref1 r]
  obtain ⟨p1, p2, p3, p4⟩ := sortOk_of ok
  have hlen := hr.length
  have hm : ∀ b ∈ xs.zip ds, b.2 ∈ ds := fun b hb => zip_snd_mem hb
  have el : (xs.zip ds).length = xs.length := by rw [List.length_zip]; omega
  refine SortW.sorted_dataW (R := fun u (b : V × D) => RelV b.1 u) (bs := xs.zip ds) (enc := fun b => py b.2) hl.isList (vals_zip rv hlen) (each_reads I rv hr p1) ?_ ?_ (sortable_py p4 hm) ?_ ?_ fun out ho eo => ?_
  · intro d hd
    obtain ⟨b, hb, rfl⟩ := List.mem_map.mp hd
    exact lay_of hr p1 _ (hm b hb)
  · intro d hd d' hd'
    obtain ⟨b, hb, rfl⟩ := List.mem_map.mp hd
    obtain ⟨c, hc, rfl⟩ := List.mem_map.mp hd'
    exact (wlike_py (p3 _ (hm b hb) _ (hm c hc)) (plains_in p1 _ (hm b hb)) (plains_in p1 _ (hm c hc))).1
  · rw [el, ← SZ_eq]
    exact hz
  · intro b hb
    rw [py_dep _ (plains_in p1 _ (hm b hb))]
    have := deps_mem p2 _ (hm b hb)
    omega
  · obtain ⟨ep, he'⟩ := PyProof.Rows.sortedAll_at s.heap its (List.toArray out)
    have em : (xs.zip ds).mergeSort (PySem.W.dataLe false fun b => py b.2) = (xs.zip ds).mergeSort fun a b => leD a.2 b.2 := by
      have := List.map_mergeSort (r := PySem.W.dataLe false fun (b : V × D) => py b.2) (s := fun (a b : V × D) => leD a.2 b.2) (f := id) (l := xs.zip ds) fun a ha b hb => by
        show (!PySem.W.dataLt (py b.2) (py a.2)) = !ltD b.2 a.2
        rw [(wlike_py (p3 _ (hm b hb) _ (hm a ha)) (plains_in p1 _ (hm b hb)) (plains_in p1 _ (hm a ha))).2]
      simpa using this
    rw [em] at eo
    have hv := vals_of_each eo
    have hl2 : (((xs.zip ds).mergeSort fun a b => leD a.2 b.2).map Prod.fst).length ≤ sizeLine := by
      rw [List.length_map, List.length_mergeSort, el, ← SZ_eq]
      exact hz
    exact ⟨.ref _, upd H (s.heap.objs.size + 1) (.lst (((xs.zip ds).mergeSort fun a b => leD a.2 b.2).map Prod.fst)), I.laid (t' := s.toks) (fun _ _ => PyProof.Rows.sortedAll_old) (Nat.le_succ _) ⟨hl2, out, ep, hv, by simpa using he'⟩, rfl, q _ (I.hok.fresh (Nat.le_succ _))⟩
theorem reps_pairs {K : PySem.W.Frag} {H : Hp} : ∀ {l : List (V × D)}, (∀ b ∈ l, Rep K H b.1 b.2) → Reps K H (l.map Prod.fst) (l.map Prod.snd)
  | [], _ => .nil
  | b :: l, h => .cons (h b List.mem_cons_self) (reps_pairs fun c hc => h c (List.mem_cons_of_mem _ hc))
theorem zip_rep {K : PySem.W.Frag} {H : Hp} {vs : List V} : ∀ {ds : List D}, Reps K H vs ds → ∀ b ∈ vs.zip ds, Rep K H b.1 b.2 := by
  induction vs with
  | nil =>
    intro ds h b hb
    cases h
    cases hb
  | cons v vs ih =>
    intro ds h b hb
    cases h with
    | cons a t =>
      rcases List.mem_cons.mp hb with rfl | hb
      · exact a
      · exact ih t b hb
theorem zip_snd_eq {vs : List V} : ∀ {ds : List D}, vs.length = ds.length → (vs.zip ds).map Prod.snd = ds := by
  induction vs with
  | nil =>
    intro ds h
    cases ds with
    | nil => rfl
    | cons _ _ => cases h
  | cons v vs ih =>
    intro ds h
    cases ds with
    | nil => cases h
    | cons d ds => simp [ih (by simpa using h)]
theorem sort_reps {K : PySem.W.Frag} {H : Hp} {vs : List V} {ds : List D} (h : Reps K H vs ds) : Reps K H (((vs.zip ds).mergeSort fun a b => leD a.2 b.2).map Prod.fst) (ds.mergeSort leD) := by
  have e : ds.mergeSort leD = ((vs.zip ds).mergeSort fun a b => leD a.2 b.2).map Prod.snd := by
    rw [List.map_mergeSort (s := leD) (f := Prod.snd) fun a _ b _ => rfl, zip_snd_eq h.length]
  rw [e]
  exact reps_pairs fun b hb => zip_rep h b ((List.mergeSort_perm _ _).mem_iff.mp hb)
theorem cd_sortedL {K : PySem.W.Frag} {RX : RXT} {W : WX} {A : List Addr} {σ : L2.St} {H : Hp} {x : V} {ds : List D} {Q : VK} (live : Live A H) (hx : Rep K (hid A H) x (.lst ds)) (h : Out RX W (relE K A) (b1D .sorted (.lst ds)) σ H Q) : rSortedD K [x] H Q := by
  cases hx with
  | @lst p vs ds hp hz hr =>
    obtain ⟨c, h⟩ := Out.must h
    refine ⟨p, vs, ds, rfl, SqL.of (hid_same A H _ _ hp), Reps.up (hid_same A H) _ _ hr, c, hz, fun l hl => ?_⟩
    have e : Same H (upd H l (.lst (((vs.zip ds).mergeSort fun a b => leD a.2 b.2).map Prod.fst))) := same_upd hl
    refine h.ok e (.lst (vs := ((vs.zip ds).mergeSort fun a b => leD a.2 b.2).map Prod.fst) ?_ ?_ (Reps.up (hid_up e) _ _ (sort_reps hr)))
    · rw [hid_out (live.new hl), upd_same]
    · rw [List.length_map, List.length_mergeSort, List.length_zip]
      have := hr.length
      omega
end Snd
namespace Snd
open PySem PySem.Spec PyProof.Rows L2 Dt
variable [PrW]
/-! ### sets of texts and numbers: made of a list or tuple, counted, sorted -/
section
variable {P : Program} {w : World} {A : Around} {E : Value → Shared → Prop} {K : Type} [DecidableEq K]
/-- the table a set's object holds: the keys l (the newest first), each once; it rises and can be walked -/
structure Tbl (w : World) (kd : KeyKind P w K) (t : SetTable) (es : Array (Int × Value)) (l : List K) : Prop where
  el : ElemsOf kd es.toList
  nd : l.Nodup
  mem : ∀ k, k ∈ l ↔ ∃ e ∈ es.toList, kd.is k e.2 = true
  sz : es.size = l.length
  fit : t.fits es.size = true
  ris : Ris t.place.toList
  led : w.params.followText "set-order" = true ∨ t.led = true
def SetG (kd : KeyKind P w K) (h : Heap) (a : Addr) (l : List K) : Prop :=
  ∃ o es ep t, h.get? a = some o ∧ o.ExactSet ∧ o.data = .set es ep t ∧ Tbl w kd t es l
theorem SetG.at {kd : KeyKind P w K} {h h' : Heap} {a : Addr} {l : List K} (R : SetG kd h a l) (k : ∀ o, h.get? a = some o → h'.get? a = some o) : SetG kd h' a l := by
  obtain ⟨o, es, ep, t, ho, r⟩ := R
  exact ⟨o, es, ep, t, k o ho, r⟩
theorem Tbl.perm {kd : KeyKind P w K} {t t' : SetTable} {es es' : Array (Int × Value)} {l : List K} (T : Tbl w kd t es l) (p : es'.toList.Perm es.toList) (f : t'.fits es'.size = true) (r : Ris t'.place.toList)
    (e : t'.led = t.led) : Tbl w kd t' es' l where
  el := T.el.perm p
  nd := T.nd
  mem k := (T.mem k).trans ⟨fun ⟨x, hx, q⟩ => ⟨x, p.mem_iff.mpr hx, q⟩, fun ⟨x, hx, q⟩ => ⟨x, p.mem_iff.mp hx, q⟩⟩
  sz := by have := p.length_eq; simp only [Array.length_toList] at this; rw [this]; exact T.sz
  fit := f
  ris := r
  led := T.led.imp id fun z => e.trans z
theorem Tbl.more {kd : KeyKind P w K} {t t' : SetTable} {es es' : Array (Int × Value)} {l : List K} {k : K} {x : Value} (T : Tbl w kd t es l) (hk : kd.is k x = true) (hx : x.scannable = true) (n : k ∉ l)
    (p : es'.toList.Perm (es.toList ++ [(kd.hash k, x)])) (f : t'.fits es'.size = true) (r : Ris t'.place.toList) (e : t'.led = t.led) : Tbl w kd t' es' (k :: l) where
  el := (T.el.push hk hx).perm p
  nd := List.nodup_cons.mpr ⟨n, T.nd⟩
  mem j := by
    rw [List.mem_cons]
    constructor
    · rintro (rfl | z)
      · exact ⟨(kd.hash j, x), p.mem_iff.mpr (by simp), hk⟩
      · obtain ⟨y, hy, q⟩ := (T.mem j).1 z
        exact ⟨y, p.mem_iff.mpr (by simp [hy]), q⟩
    · rintro ⟨y, hy, q⟩
      have hy := p.mem_iff.mp hy
      rw [List.mem_append, List.mem_singleton] at hy
      rcases hy with hy | rfl
      · exact .inr ((T.mem j).2 ⟨y, hy, q⟩)
      · exact .inl (kd.inj x j k q hk)
  sz := by have := p.length_eq; simp only [Array.length_toList, List.length_append, List.length_singleton] at this; rw [this, T.sz]; rfl
  fit := f
  ris := r
  led := T.led.imp id fun z => e.trans z
/-- what a road of the model may do to the set at a: it holds l behind -/
theorem put_tbl {kd : KeyKind P w K} {s : Shared} {a : Addr} {l : List K} {o : Obj} {es e1 : Array (Int × Value)} {ep : Nat} {t t1 : SetTable} {rl : Bool → Sem Unit}
    (hrl : ∀ b (s1 : Shared) (Z : Unit → Shared → Prop), Z () s1 → wpAny (model P w) A (rl b) Z E s1)
    (ho : s.heap.get? a = some o) (ex : o.ExactSet) (hd : o.data = .set es ep t) (T : Tbl w kd t1 e1 l) (small : e1.size < scanBound) {was : Bool} {Z : Option Bool → Shared → Prop}
    (q : ∀ h', Heap.SameBut a s.heap h' → SetG kd h' a l → Z (some true) { s with heap := h' }) :
    wpAny (model P w) A (storeSet a e1 t1 >>= fun _ => if (!was && t1.tooFull) = true then
      rl (relayAll t1 e1 (SetTable.grown e1.size)).2.2 >>= fun _ => storeSet a (relayAll t1 e1 (SetTable.grown e1.size)).1 (relayAll t1 e1 (SetTable.grown e1.size)).2.1 >>= fun _ => pure (some true)
      else pure (some true)) Z E s := by
  have g1 := store_at (es' := e1) (t' := t1) ho hd
  have b1 := Heap.SameBut.update s.heap a (Obj.putSet e1 t1)
  refine wpAny_bind (wpAny_storeSet_of ho hd ?_ (fits_of_scanBound small))
  by_cases c : (!was && t1.tooFull) = true
  · rw [if_pos c]
    have T2 := T.perm (relayAll_perm t1 e1 (SetTable.grown e1.size)) (relayAll_fits t1 e1 _) (relayAll_ris t1 e1 _) (relayAll_led t1 e1 _)
    have z2 : (relayAll t1 e1 (SetTable.grown e1.size)).1.size < scanBound := by rw [T2.sz, ← T.sz]; exact small
    refine wpAny_bind (hrl _ _ _ (wpAny_bind (wpAny_storeSet_of g1 rfl ?_ (fits_of_scanBound z2))))
    exact wpAny_pure (q _ (b1.trans (Heap.SameBut.update _ a _)) ⟨_, _, _, _, store_at g1 rfl, ex, rfl, T2⟩)
  · rw [if_neg c]
    exact wpAny_pure (q _ b1 ⟨_, _, _, _, g1, ex, rfl, T⟩)
theorem gives_way {m : Model} {s1 : Shared} {b : Bool} {Z : Unit → Shared → Prop} (q : Z () s1) : wpAny m A (match b with | true => rule "set.scan.the-table-gave-way" | false => pure ()) Z E s1 := by
  cases b
  · exact wpAny_pure q
  · exact wpAny_rule q
theorem add_tbl {kd : KeyKind P w K} {s : Shared} {a : Addr} {l : List K} {k : K} {x : Value} {Z : Bool → Shared → Prop} (hk : kd.is k x = true) (hx : x.scannable = true) (R : SetG kd s.heap a l)
    (small : l.length + 1 < scanBound) (qold : k ∈ l → Z false s) (qnew : k ∉ l → ∀ h', Heap.SameBut a s.heap h' → SetG kd h' a (k :: l) → Z true { s with heap := h' }) :
    wpAny (model P w) A (setAddHashed a x (kd.hash k)) Z E s := by
  obtain ⟨o, es, ep, t, ho, ex, hd, T⟩ := R
  have sm : es.size < scanBound := by have := T.sz; omega
  unfold setAddHashed setAddHashedIn
  refine wpAny_holding (wpAny_bind (wpAny_setState_of ho hd T.fit ?_)); dsimp only
  rw [byScan_of hx sm T.el]; simp only [↓reduceIte]
  unfold setAddByScan
  refine wpAny_bind (wpAny_bind (wpAny_rule (wpAny_bind (wpAny_setScan_of hk ho hd T.fit T.el ?_))))
  cases hf : List.findIdx? (fun e => kd.is k e.2) es.toList with
  | some j =>
    obtain ⟨hj, pj, _⟩ := List.findIdx?_eq_some_iff_getElem.mp hf
    exact wpAny_pure (wpAny_pure (qold ((T.mem k).2 ⟨_, List.getElem_mem hj, pj⟩)))
  | none =>
    have n : k ∉ l := fun z => by
      obtain ⟨e, he, q⟩ := (T.mem k).1 z
      have := List.findIdx?_eq_none_iff.mp hf e he
      rw [q] at this; cases this
    have p := layNew_perm t es (kd.hash k) x
    rw [Array.toList_push] at p
    have T1 := T.more hk hx n p (layNew_fits t es (kd.hash k) x) (layNew_ris t es (kd.hash k) x T.ris) (layNew_led t es (kd.hash k) x)
    dsimp only
    generalize layNew t es (kd.hash k) x = N at T1 ⊢
    obtain ⟨e1, t1, was, gave⟩ := N
    dsimp only at T1 ⊢
    have sm1 : e1.size < scanBound := by rw [T1.sz]; exact small
    refine wpAny_bind (gives_way ?_)
    split
    · rename_i hp
      refine wpAny_bind ?_
      rw [hashByValue_scannable 8 hx]
      refine wpAny_pure ?_
      refine put_tbl (l := k :: l) (fun b s1 Y q => gives_way q) ho ex hd ?_ sm1 fun h' sb r => wpAny_pure (qnew n h' sb r)
      split
      · exact T1
      · exact ⟨T1.el, T1.nd, T1.mem, T1.sz, SetTable.fits_plain_off T1.fit, T1.ris, T1.led⟩
    · refine wpAny_bind (wpAny_pure ?_); simp only [↓reduceIte]
      exact put_tbl (fun b s1 Y q => gives_way q) ho ex hd T1 sm1 fun h' sb r => wpAny_pure (qnew n h' sb r)

/-- the object set() lays -/
def bare (w : World) : Obj := { cls := .type "set", dict := none, data := .set #[] 0 (.fresh 0 0 (!w.params.followText "set-order")) }
theorem bare_tbl {kd : KeyKind P w K} {h : Heap} {a : Addr} (e : h.get? a = some (bare w)) : SetG kd h a [] := by
  refine ⟨_, #[], 0, _, e, ⟨rfl, rfl, rfl⟩, rfl, ⟨fun e he => by simp at he, List.nodup_nil, fun k => by simp, rfl, rfl, List.Pairwise.nil, ?_⟩⟩
  cases c : w.params.followText "set-order"
  · exact .inr rfl
  · exact .inl rfl
/-- the loop of an update, by what its adds keep -/
theorem upd_loop {I a : Addr} {fp wr : List Addr} {G : Array GenState → Array GenState → Prop} {n : Nat} {Pv : Nat → Value → Prop} {St : Nat → Shared → Prop} {Z : Result → Shared → Prop} {B : Nat → Heap → Prop}
    (W : WalksS P w A.in1 I fp wr G n Pv St) (na : a ∉ fp) (Bk : ∀ i h h', B i h → (∀ b o, b ∉ wr → h.get? b = some o → h'.get? b = some o) → B i h')
    (adds : ∀ i v (s : Shared) (Y : Shared → Prop) (F : Value → Shared → Prop), i < n → Pv i v → B i s.heap → (∀ h' tk, s.toks ≤ tk → Heap.SameBut a s.heap h' → B (i + 1) h' → Y { s with heap := h', toks := tk }) →
      wpAny (model P w) A.in1 (setAdd a v) (fun _ => Y) F s) :
    ∀ k i (s : Shared), n - i = k → i ≤ n → St i s → B i s.heap → (∀ s', Moved (a :: wr) G s s' → B n s'.heap → Z (.ok (.ret .none)) s') →
      codeAny (model P w) A (.builtin "set.update.loop" ⟨[.ref a, .ref I], []⟩) Z s := by
  have sub : ∀ b ∈ wr, b ∈ a :: wr := fun _ h => .tail _ h
  intro k
  induction k with
  | zero =>
    intro i s hk hi st b q
    obtain rfl : i = n := by omega
    refine codeAny_builtin F.entry_set_update_loop ?_; rw [Around.under_plainId F.plain_set_update_loop _]
    show wpAny _ A.in1 (pyNext (.ref I) >>= _) _ _ s
    refine wpAny_bind (W.done s _ _ st fun s' m => ?_)
    exact wpAny_pure (q s' (m.mono sub) (Bk _ _ _ b fun b o nb e => m.heap b o nb e))
  | succ k ih =>
    intro i s hk hi st b q
    have lt : i < n := by omega
    refine codeAny_builtin F.entry_set_update_loop ?_; rw [Around.under_plainId F.plain_set_update_loop _]
    show wpAny _ A.in1 (pyNext (.ref I) >>= _) _ _ s
    refine wpAny_bind (W.item i s _ _ lt st fun v s' pv st' m => ?_)
    show wpAny _ A.in1 (holding [v] (setAdd a v) >>= _) _ _ s'
    refine wpAny_bind (wpAny_holding (adds i v s' _ _ lt pv (Bk _ _ _ b fun b o nb e => m.heap b o nb e) fun h' tk ht sb b' => ?_))
    refine wpAny_pure ⟨plainId_quiet F.plain_set_update_loop _, ih (i + 1) _ (by omega) lt (W.frame _ s' _ _ st' ht fun b hb o e => ?_) b' fun s'' m' b'' => q s'' (Moved.trans W.gtrans ((m.mono sub).then_heap ht fun b o nb e => ?_) m') b''⟩
    · rw [sb.2 b fun z => na (z ▸ hb)]; exact e
    · rw [sb.2 b fun z => nb (z ▸ .head _)]; exact e

/-- set(xs) of a list or tuple, by what its adds keep -/
theorem call_setG {T : String} {l : Addr} {items : Array Value} {dd : Option Addr} {nl : Nat} {sl : Array (Option Value)} {s : Shared} {Q : Value → Shared → Prop} {B : Nat → Heap → Prop} (hT : T = "list" ∨ T = "tuple") (hh : A.handled = none)
    (ho : s.heap.get? l = some { cls := .type T, dict := dd, data := .seq items nl, slots := sl })
    (B0 : ∀ h', h'.get? s.heap.objs.size = some (bare w) → (∀ b o, s.heap.get? b = some o → h'.get? b = some o) → B 0 h')
    (Bk : ∀ i h h', B i h → (∀ b o, (b ≤ s.heap.objs.size) → h.get? b = some o → h'.get? b = some o) → B i h')
    (adds : ∀ i v (s1 : Shared) (Y : Shared → Prop) (F : Value → Shared → Prop), items[i]? = some v → B i s1.heap →
      (∀ h' tk, s1.toks ≤ tk → Heap.SameBut s.heap.objs.size s1.heap h' → B (i + 1) h' → Y { s1 with heap := h', toks := tk }) → wpAny (model P w) A.in1.in1.in1 (setAdd s.heap.objs.size v) (fun _ => Y) F s1)
    (q : ∀ h' tk, B items.size h' → (∀ b o, s.heap.get? b = some o → h'.get? b = some o) → Q (.ref s.heap.objs.size) { s with heap := h', toks := tk }) :
    wpAny (model P w) A (call (.type "set") [.ref l]) Q E s := by
  obtain ⟨c, tl, mro⟩ := F.called_set.mro
  have made := F.called_set.made
  have sub := F.called_set.sub
  have no1 : isSubtype (.type T) (.type "set") = pure false := by rcases hT with rfl | rfl; exact F.sub_list_set; exact F.sub_tuple_set
  have no2 : isSubtype (.type T) (.type "frozenset") = pure false := by rcases hT with rfl | rfl; exact F.sub_list_frozenset; exact F.sub_tuple_frozenset
  have no3 : (Value.type T == Value.type "dict") = false := by rcases hT with rfl | rfl <;> decide
  refine wpAny_call (codeAny_of_tree ?_); show wpAny _ _ (callAny (.type "set") _) _ _ _
  refine wpAny_pure ⟨Code.quiet_builtin _ (by decide +kernel), codeAny_builtin F.entry_type_call ?_⟩; rw [Around.under_plain (weight_type_call_type "set" [.ref l] []) rfl]
  have t1 := F.called_set.notType
  have t2 := F.called_set.canCreate
  have t3 := F.typeCall_set_1 (.ref l)
  repeat (any_goals (first | assumption | wp_step))
  have hl : l < s.heap.objs.size := Heap.lt_size ho
  refine codeAny_mono (code_set_led1 (.ref l) (E := E) (Q₁ := fun v s1 => v = .ref s.heap.objs.size ∧ s1 = { s with heap := s.heap.push (bare w) }) ⟨rfl, rfl⟩) fun r s1 hr => ?_
  cases r with
  | error e => exact hr
  | ok fl =>
    cases fl with
    | ret v =>
      obtain ⟨rfl, rfl⟩ := hr
      have gS : (s.heap.push (bare w)).get? s.heap.objs.size = some (bare w) := Heap.get?_push_size _ rfl
      have isS : Shared.TypeIs { s with heap := s.heap.push (bare w) } (.ref s.heap.objs.size) "set" := ⟨_, gS, rfl⟩
      have i1 := F.called_set.init.lookup
      have i2 := F.called_set.init.bind (.ref s.heap.objs.size)
      repeat (any_goals (first | assumption | wp_step))
      refine codeAny_mono (codeAny_call_builtin (R := wants (fun v s2 => v = .none ∧ ∃ h' tk, s2 = { s with heap := h', toks := tk } ∧ B items.size h' ∧ ∀ b o, s.heap.get? b = some o → h'.get? b = some o) E)
        F.called_set.init.plain F.entry_set_init (check_set_init_1 isS ?_)) fun r2 s2 hr2 => ?_
      · have gl : (s.heap.push (bare w)).get? l = some { cls := .type T, dict := dd, data := .seq items nl, slots := sl } := Heap.get?_push_of_some _ ho
        unfold Builtin.«set.__init__» noKeywords Builtin.Frozenset.updateFrom
        generalize hPI : pyIter = PI
        have z1 : (s.heap.push (bare w)).objs.size = s.heap.objs.size + 1 := Heap.size_push ..
        have n1 : l ≠ (s.heap.push (bare w)).objs.size := by rw [z1]; exact Nat.ne_of_lt (Nat.lt_succ_of_lt hl)
        have n2 : s.heap.objs.size ∉ [(s.heap.push (bare w)).objs.size, l] := fun h => by
          rw [z1] at h
          rcases List.mem_cons.mp h with e | e
          · exact absurd e (Nat.ne_of_lt (Nat.lt_succ_self _))
          · exact absurd (List.mem_singleton.mp e) (Nat.ne_of_gt hl)
        have n3 : ∀ b, b ≤ s.heap.objs.size → b ∉ [(s.heap.push (bare w)).objs.size] := fun b hb => by rw [z1]; simp only [List.mem_cons, List.not_mem_nil, or_false]; omega
        have n4 : ∀ b, b < s.heap.objs.size → b ∉ [s.heap.objs.size, (s.heap.push (bare w)).objs.size] := fun b hb => by rw [z1]; simp only [List.mem_cons, List.not_mem_nil, or_false]; omega
        rcases hT with rfl | rfl
        · wp_walk
          subst hPI
          refine wpAny_pyIter_list ⟨_, gl, rfl, nl, rfl⟩ (wpAny_bind (wpAny_runValue ?_))
          refine upd_loop (B := B) (n := items.size) ((Walks.list (by simp [hh]) _ l n1 items).toS) n2
            (fun i h h' b k => Bk i h h' b fun b o hb => k b o (n3 b hb)) (fun i v s1 Y F _ => adds i v s1 Y F) items.size 0 _ (by omega) (Nat.zero_le _)
            ?_ ?_ fun s' m b => ?_
          · exact ⟨⟨_, Heap.get?_push_size _ rfl, rfl, rfl⟩, ⟨_, Heap.get?_push_of_some _ gl, rfl, nl, rfl⟩⟩
          · exact B0 _ (Heap.get?_push_of_some _ gS) fun b o e => Heap.get?_push_of_some _ (Heap.get?_push_of_some _ e)
          obtain ⟨h', gs, dr, tk, os⟩ := s'
          obtain rfl : gs = s.gens := m.gens
          obtain rfl : dr = s.drawn := m.drawn
          obtain rfl : os = s.os := m.os
          refine wpAny_pure (wpAny_pure ⟨rfl, h', tk, rfl, b, fun b o e => m.heap b o (n4 b (Heap.lt_size e)) (Heap.get?_push_of_some _ (Heap.get?_push_of_some _ e))⟩)
        · wp_walk
          subst hPI
          refine wpAny_pyIter_tuple ⟨_, gl, rfl, nl, rfl⟩ (wpAny_bind (wpAny_runValue ?_))
          refine upd_loop (B := B) (n := items.size) ((Walks.tuple (by simp [hh]) _ l n1 items).toS) n2
            (fun i h h' b k => Bk i h h' b fun b o hb => k b o (n3 b hb)) (fun i v s1 Y F _ => adds i v s1 Y F) items.size 0 _ (by omega) (Nat.zero_le _)
            ?_ ?_ fun s' m b => ?_
          · exact ⟨⟨_, Heap.get?_push_size _ rfl, rfl, rfl⟩, ⟨_, Heap.get?_push_of_some _ gl, rfl, nl, rfl⟩⟩
          · exact B0 _ (Heap.get?_push_of_some _ gS) fun b o e => Heap.get?_push_of_some _ (Heap.get?_push_of_some _ e)
          obtain ⟨h', gs, dr, tk, os⟩ := s'
          obtain rfl : gs = s.gens := m.gens
          obtain rfl : dr = s.drawn := m.drawn
          obtain rfl : os = s.os := m.os
          refine wpAny_pure (wpAny_pure ⟨rfl, h', tk, rfl, b, fun b o e => m.heap b o (n4 b (Heap.lt_size e)) (Heap.get?_push_of_some _ (Heap.get?_push_of_some _ e))⟩)
      · cases r2 with
        | error e => exact hr2
        | ok fl2 =>
          cases fl2 with
          | ret v =>
            obtain ⟨rfl, h', tk, rfl, b, k⟩ := hr2
            repeat (any_goals (first | assumption | wp_step))
            exact q _ _ b k
          | _ => exact hr2.elim
    | _ => exact hr.elim
end
end Snd
namespace Snd
open PySem PySem.Spec PyProof.Rows L2 Dt
variable [PrW]
section
variable {P : Program} {w : World} {A : Around} {E : Value → Shared → Prop} {K : Type} [DecidableEq K]
/-- set(xs), its members scannable keys -/
theorem call_setK {kd : KeyKind P w K} {T : String} {l : Addr} {items : Array Value} {dd : Option Addr} {nl : Nat} {sl : Array (Option Value)} {s : Shared} {Q : Value → Shared → Prop} (ks : List K) (hT : T = "list" ∨ T = "tuple") (hh : A.handled = none)
    (ho : s.heap.get? l = some { cls := .type T, dict := dd, data := .seq items nl, slots := sl }) (hk : ∀ (i : Nat) v, items[i]? = some v → ∃ k, ks[i]? = some k ∧ kd.is k v = true ∧ v.scannable = true)
    (small : items.size + 1 < scanBound) (len : ks.length = items.size)
    (q : ∀ h' tk m, SetG kd h' s.heap.objs.size m → (∀ k, k ∈ m ↔ k ∈ ks) → m.length ≤ items.size → (∀ b o, s.heap.get? b = some o → h'.get? b = some o) → Q (.ref s.heap.objs.size) { s with heap := h', toks := tk }) :
    wpAny (model P w) A (call (.type "set") [.ref l]) Q E s := by
  refine call_setG (B := fun i h => ∃ m, SetG kd h s.heap.objs.size m ∧ m.length ≤ i ∧ ∀ k, k ∈ m ↔ k ∈ ks.take i) hT hh ho (fun h' e _ => ⟨[], bare_tbl e, Nat.le_refl _, by simp⟩)
    (fun i h h' ⟨m, R, z, e⟩ k => ⟨m, R.at fun o g => k _ o (Nat.le_refl _) g, z, e⟩) (fun i v s1 Y F hv ⟨m, R, z, e⟩ y => ?_) fun h' tk ⟨m, R, z, e⟩ k => q h' tk m R (fun x => by rw [e x, List.take_of_length_le (by omega)]) z k
  obtain ⟨k, gk, ik, sk⟩ := hk i v hv
  have hi : i < items.size := (Array.getElem?_eq_some_iff.mp hv).1
  unfold setAdd
  refine wpAny_holding (wpAny_bind (kd.pyHash ik ?_))
  have tk1 : ∀ x, x ∈ ks.take (i + 1) ↔ x ∈ ks.take i ∨ x = k := fun x => by rw [List.take_add_one, gk]; simp
  refine add_tbl (s := { s1 with toks := s1.toks + 1 }) ik sk R (by omega) (fun old => ?_) fun new h' sb R' => ?_
  · exact y s1.heap _ (Nat.le_succ _) (Heap.SameBut.refl _ _) ⟨m, R, by omega, fun x => by rw [tk1, e x]; exact ⟨.inl, fun c => c.elim id fun c => by subst c; exact (e x).1 old⟩⟩
  · exact y h' _ (Nat.le_succ _) sb ⟨k :: m, R', by simp; omega, fun x => by rw [tk1, List.mem_cons, e x]; exact Or.comm⟩
end
end Snd
namespace Snd
open PySem PySem.Spec PyProof.Rows L2 Dt
variable [PrW]
/-- len(set(xs)), xs a list or tuple of texts and numbers -/
def tLenK (K : PySem.W.Frag) (ta : TE) : TE := fun σ H Q => ta σ H fun x H1 => ∃ l, ∃ ks : List Key, x = .ref l ∧ (SqL K H1 l (ks.map kV) ∨ SqT K H1 l (ks.map kV)) ∧ ks.length + 1 < scanBound ∧
  ∀ m : List Key, m.Nodup → (∀ k, k ∈ m ↔ k ∈ ks) → Q (.int m.length) H1
theorem keys_at : ∀ {ks : List Key} {us : List Value}, Vals (ks.map kV) us → ∀ (i : Nat) v, us[i]? = some v → ∃ k, ks[i]? = some k ∧ RelV (kV k) v
  | [], _, .nil => fun i v h => by simp at h
  | k :: ks, _, .cons r t => fun i v h => by
    cases i with
    | zero => exact ⟨k, rfl, by simp at h; subst h; exact r⟩
    | succ i => exact keys_at t i v (by simpa using h)
theorem pe_lenSetK {X : Cx} {a : Expr} {ta : TE} {p p2 q pos : Pos} (hc : X.calm = true) (hg : Gl X "len") (hm : X.mg "len" = none) (hg2 : Gl X "set") (hm2 : X.mg "set" = none) (ha : PE X a ta)
    (na : starEach [a] X.env = (false, eval a X.env) :: starEach [] X.env) : PE X (.Call (.Name "len" p) [.Call (.Name "set" p2) [a] [] q] [] pos) (tLenK X.K ta) := by
  refine ⟨fun pins s σ H Q I h => Call_ (ld_blt I hg hm boot_len (PyProof.Rows.callWith_builtin1 (PyProof.Rows.args_cons ?_ rfl) rfl rfl))⟩
  refine Call_ (ld_blt I hg2 hm2 boot_set (PyProof.Rows.callWith_type1 (PyProof.Rows.args_cons (thn (ha.run pins s σ H _ I h) fun v s1 ⟨x, H1, I1, r1, q1⟩ => PyProof.Rows.args_nil ?_) na) na rfl))
  obtain ⟨l, ks, rfl, hq, sm, q1⟩ := q1
  cases r1
  have fin : ∀ (T : String), T = "list" ∨ T = "tuple" → ∀ (its : List Value) dd nl sl, s1.heap.get? l = some { cls := .type T, dict := dd, data := .seq its.toArray nl, slots := sl } → Vals (ks.map kV) its →
      wpAny (model X.prog X.w) X.A (call (.type "set") [.ref l]) (fun v s₂ => wpAny (model X.prog X.w) X.A (spliced (backTo pos (starEach [] X.env))) (fun vs s₃ => wpAny (model X.prog X.w) X.A (call (.builtin "len") (v :: vs)) (EP X pins σ Q) X.xe s₃) X.xe s₂) X.xe s1 := fun T hT its dd nl sl ho r => by
    have el : ks.length = its.toArray.size := by rw [List.size_toArray, ← r.length, List.length_map]
    refine call_setK (kd := mixKind X.prog X.w) ks hT (I1.ok.hd hc) ho (fun i v hv => ?_) (by rw [← el]; exact sm) el fun h' tk m R e z k => PyProof.Rows.args_nil ?_
    · obtain ⟨k, g, rr⟩ := keys_at r i v (by simpa using hv)
      exact ⟨k, g, kV_is rr, key_scan rr⟩
    · obtain ⟨o, es, ep, t, ho', ex, hd, T⟩ := R
      have I2 : Inv X pins σ H1 { s1 with heap := h', toks := tk } := I1.kept k
      refine call_len_set ho' ex hd T.fit (by rw [T.sz]; unfold scanBound at sm; omega) ⟨.int m.length, H1, I2.tok _, ⟨_, by rw [T.sz]⟩, q1 m T.nd e⟩
  rcases hq with hq | hq
  · obtain ⟨its, r, pl, hz⟩ := I1.list hq
    obtain ⟨⟨c, d, dt, sl⟩, g, rfl, nl, rfl⟩ := pl.isList
    exact fin "list" (.inl rfl) its d nl sl g r
  · obtain ⟨its, r, pl, hz⟩ := I1.tuple hq
    obtain ⟨⟨c, d, dt, sl⟩, g, rfl, nl, rfl⟩ := pl
    exact fin "tuple" (.inr rfl) its d nl sl g r
end Snd
namespace Snd
open PySem PySem.Spec PyProof.Rows L2 Dt
variable [PrW]

/-! ### sorted of what is collected first -/
theorem each_reads_new {X : Cx} {pins : List (Addr × Obj)} {σ : L2.St} {H : Hp} {s : Shared} (I : Inv X pins σ H s) (ob : Obj) {xs : List V} : ∀ {us : List Value} {ds : List D}, Vals xs us → Reps X.K H xs ds → D.plains ds = true →
    PySem.W.EachIs (fun v (b : V × D) => ∃ as, Reads (s.heap.push ob) v (py b.2) as ∧ s.heap.objs.size ∉ as) us (xs.zip ds) := by
  induction xs with
  | nil =>
    intro us ds r hr _
    cases r
    cases hr
    exact .nil
  | cons x xs ih =>
    intro us ds r hr p
    cases r with
    | cons a t =>
      cases hr with
      | cons b c =>
        simp only [D.plains, Bool.and_eq_true] at p
        obtain ⟨as, ra⟩ := Dp.reads I _ _ _ (Rep.dp _ _ b p.1).1 a
        refine .cons ⟨as, PyProof.Rows.Reads.keeps (fun _ _ e => Heap.get?_push_of_some _ e) ra, fun hm => ?_⟩ (ih t c p.2)
        obtain ⟨o, ho⟩ := PyProof.On.reads_mem_get ra _ hm
        exact absurd (Heap.lt_size ho) (Nat.lt_irrefl _)
abbrev srt (xs : List V) (ds : List D) : List V := ((xs.zip ds).mergeSort fun a b => leD a.2 b.2).map Prod.fst
theorem srt_len {xs : List V} {ds : List D} (h : xs.length = ds.length) : (srt xs ds).length = xs.length := by
  rw [List.length_map, List.length_mergeSort, List.length_zip]
  omega
theorem list_sortD {X : Cx} {A : Around} {E : Value → Shared → Prop} {Z : Value → Shared → Prop} (hu : A.units + 110 < cLine) {pins : List (Addr × Obj)} {σ : L2.St} {H : Hp} {s : Shared} (I : Inv X pins σ H s) {xs : List V} {ds : List D} {us : List Value}
    (rv : Vals xs us) (hr : Reps X.K H xs ds) (ok : sortOk ds = true) (hz : xs.length ≤ SZ)
    (q : ∀ s', Inv X pins σ (upd H s.heap.objs.size (.lst (srt xs ds))) s' → H s.heap.objs.size = none → Z .none s') :
    wpAny (model X.prog X.w) A (call (.builtin "list.sort") [.ref s.heap.objs.size]) Z E { s with heap := s.heap.push (seqObj "list" us.toArray 0) } := by
  obtain ⟨p1, p2, p3, p4⟩ := sortOk_of ok
  have hlen := hr.length
  have hm : ∀ b ∈ xs.zip ds, b.2 ∈ ds := fun b hb => zip_snd_mem hb
  have el : (xs.zip ds).length = xs.length := by rw [List.length_zip]; omega
  have hoL : (s.heap.push (seqObj "list" us.toArray 0)).get? s.heap.objs.size = some (seqObj "list" us.toArray 0) := Heap.get?_push_size _ rfl
  refine SortW.list_sort_dataW (s := { s with heap := s.heap.push (seqObj "list" us.toArray 0) }) (R := fun u (b : V × D) => RelV b.1 u) (bs := xs.zip ds) (enc := fun b => py b.2) hoL (vals_zip rv hlen) (each_reads_new I _ rv hr p1) ?_ ?_ ?_ (sortable_py p4 hm) ?_ ?_ fun out ho eo => ?_
  · intro d hd
    obtain ⟨b, hb, rfl⟩ := List.mem_map.mp hd
    exact like_self _ (plains_in p1 _ (hm b hb))
  · intro d hd
    obtain ⟨b, hb, rfl⟩ := List.mem_map.mp hd
    exact lay_of hr p1 _ (hm b hb)
  · intro d hd d' hd'
    obtain ⟨b, hb, rfl⟩ := List.mem_map.mp hd
    obtain ⟨c, hc, rfl⟩ := List.mem_map.mp hd'
    exact (wlike_py (p3 _ (hm b hb) _ (hm c hc)) (plains_in p1 _ (hm b hb)) (plains_in p1 _ (hm c hc))).1
  · rw [el, ← SZ_eq]
    exact hz
  · intro b hb
    rw [py_dep _ (plains_in p1 _ (hm b hb))]
    have := deps_mem p2 _ (hm b hb)
    omega
  · have em : (xs.zip ds).mergeSort (PySem.W.dataLe false fun b => py b.2) = (xs.zip ds).mergeSort fun a b => leD a.2 b.2 := by
      have := List.map_mergeSort (r := PySem.W.dataLe false fun (b : V × D) => py b.2) (s := fun (a b : V × D) => leD a.2 b.2) (f := id) (l := xs.zip ds) fun a ha b hb => by
        show (!PySem.W.dataLt (py b.2) (py a.2)) = !ltD b.2 a.2
        rw [(wlike_py (p3 _ (hm b hb) _ (hm a ha)) (plains_in p1 _ (hm b hb)) (plains_in p1 _ (hm a ha))).2]
      simpa using this
    rw [em] at eo
    have hv := vals_of_each eo
    have hl2 : (((xs.zip ds).mergeSort fun a b => leD a.2 b.2).map Prod.fst).length = xs.length := by
      rw [List.length_map, List.length_mergeSort, el]
    obtain ⟨ep, he'⟩ := PyProof.Rows.sortedHeap_at (vs := us) (out := List.toArray out) hoL
    refine q _ (I.laid (t' := s.toks) (fun b u e => ?_) (Nat.le_refl _) (show ObjOk X.prog X.w _ _ _ (.lst _) from ⟨by rw [hl2, ← SZ_eq]; exact hz, out, ep, hv, he'⟩)) (I.hok.fresh (Nat.le_refl _))
    have hb : b < s.heap.objs.size := Heap.lt_size e
    rw [PyProof.Rows.sortedHeap_old (Nat.ne_of_lt hb) (by rw [size_push']; exact Nat.lt_succ_of_lt hb)]
    exact Heap.get?_push_of_some _ e
/-- sorted(d): the keys -/
def rSortDic (K : PySem.W.Frag) : RC := fun xs H Q => ∃ (Hh : Hp) (a : Addr) (ks ds : List D), Sm Hh H ∧ xs = [.ref a] ∧ Own K H Hh a (.dic true ks ds) ∧ sortOk ks = true ∧ ∀ p ys, H p = none → Reps K Hh ys (ks.mergeSort leD) → ys.length ≤ SZ → Q (.ref p) (upd H p (.lst ys))
theorem Reps.back {K : PySem.W.Frag} {H Hh : Hp} {xs ys : List V} {ds es : List D} (h : Reps K Hh xs ds) : True := True.intro
theorem vals_refs2 : ∀ (bs : List (NestedKey × Addr × Value)), Vals (bs.map fun x => V.ref x.2.1) (bs.map fun x => Value.ref x.2.1)
  | [] => .nil
  | _ :: r => .cons rfl (vals_refs2 r)
theorem cr_sortDic {X : Cx} (px : PrX X) (hc : X.calm = true) (hu : X.A.units + 120 < cLine) : CallR X (.builtin "sorted") (rSortDic X.K) := by
  intro pins s σ H xs us Q I r ⟨Hh, a, ks, ds, sm, e, ow, ok, q⟩
  subst e
  obtain ⟨u, rfl, rx⟩ := vals1 r
  obtain rfl : u = .ref a := rx
  cases ow with
  | @dicT _ zs vs _ _ h1 h2 h3 h4 h5 h6 h7 h8 =>
    have dd := dictH_of px I sm h1 h4 h5 h7
    obtain ⟨o, es, ep, g1, g2, g3, g4, g5, g6⟩ := id dd
    have l1 : es.size = zs.length := size_of_entries g4
    refine Calls.call_function_entry PyProof.Rows.kind_sorted PyProof.Rows.plain_sorted PyProof.Rows.entry_sorted (PyProof.Rows.args_sorted1 _) ?_
    unfold Builtin.«sorted»
    refine wpAny_bind (m := checkCount "sorted" 1 1 _) (wpAny_pure ?_)
    refine wpAny_bind (PySem.W.kdu_collect (A := X.A.in1) (kdl_raw h2 g2 g3) (I.ok.hd hc) g1 (by rw [l1, ← SZ_eq]; exact h3) fun h' tk acc hk hacc => ?_)
    have ea : acc.toList = zs.map fun x => Value.ref x.2.1 := by
      have hl : acc.toList.length = zs.length := by rw [Array.length_toList, hacc.1, l1]
      apply List.ext_getElem?
      intro j
      rw [List.getElem?_map]
      cases hj : acc.toList[j]? with
      | none =>
        have h9 := List.getElem?_eq_none_iff.mp hj
        rw [List.getElem?_eq_none (by omega)]
        rfl
      | some v =>
        obtain ⟨en, e1, e2⟩ := hacc.2 j v (by rw [← Array.getElem?_toList]; exact hj)
        have := entry_at g4 j
        rw [e1] at this
        cases hz : zs[j]? with
        | none => rw [hz] at this; cases this
        | some z =>
          rw [hz] at this
          have this := Option.some.inj this
          rw [e2, this]
          rfl
    have I1 : Inv X pins σ H { s with heap := h', toks := tk } := I.kept hk
    have hl2 : acc.toList.length = zs.length := by rw [ea, List.length_map]
    refine wpAny_bind (wpAny_newList ?_ (by rw [hl2, ← SZ_eq]; exact h3))
    show wpAny _ _ _ _ _ { s with heap := h'.push (seqObj "list" acc.toList.toArray 0), toks := tk }
    refine wpAny_bind (wpAny_holding (list_sortD (A := X.A.in1) (show X.A.units + 1 + 110 < cLine by omega) I1 (xs := zs.map fun x => V.ref x.2.1) (by rw [ea]; exact vals_refs2 zs) (Reps.up sm _ _ h7) ok (by simpa using h3) fun s' I2 hn => ?_))
    have hl3 : (srt (zs.map fun x => V.ref x.2.1) ks).length ≤ SZ := by
      rw [srt_len h7.length, List.length_map]
      exact h3
    exact wpAny_pure ⟨_, rfl, .ref _, _, I2, rfl, q _ _ hn (sort_reps h7) hl3⟩
theorem cd_sorted {K : PySem.W.Frag} {RX : RXT} {W : WX} : CalD K RX W (b1D .sorted) (fun xs H Q => rSortedD K xs H Q ∨ rSortDic K xs H Q) := by
  intro A σ H x a Q live hx h
  have dic : ∀ {t : Bool} {ks ds : List D}, Rep K (hid A H) x (.dic t ks ds) → Out RX W (relE K A) (b1D .sorted (.dic t ks ds)) σ H Q → rSortDic K [x] H Q := by
    intro t ks ds hx h
    cases t with
    | false => exact h.elim
    | true =>
      obtain ⟨ok, h⟩ := Out.must h
      obtain ⟨p, rfl, ow⟩ := own_of hx
      refine ⟨hid A H, p, ks, ds, hid_same A H, rfl, ow, ok, fun l ys hl hr hz => ?_⟩
      have e : Same H (upd H l (.lst ys)) := same_upd hl
      exact h.ok e (.lst (by rw [hid_out (live.new hl), upd_same]) hz (Reps.up (hid_up e) _ _ hr))
  cases hx with
  | lst h1 h2 h3 => exact .inl (cd_sortedL live (.lst h1 h2 h3) h)
  | dicT h1 h2 h3 h4 h5 h6 h7 h8 => exact .inr (dic (.dicT h1 h2 h3 h4 h5 h6 h7 h8) h)
  | dicS h1 h2 h3 h4 => exact .inr (dic (.dicS h1 h2 h3 h4) h)
  | _ => exact h.elim
end Snd
namespace Snd
open PySem PySem.Spec PyProof.Rows L2 Dt
variable [PrW]
section
variable {X : Cx} {RX : RXT} {W : WX} {K : PySem.W.Frag}
/-! ### sum -/
theorem cd_sum : CalD K RX W (b1D .sum) (rSum K) := by
  intro A σ H x a Q live hx h
  cases hx with
  | @lst p vs ds hp hz hr =>
    obtain ⟨bs, h1, h⟩ := optR_out h
    have e := ints_of hr h1
    subst e
    exact ⟨p, bs, rfl, SqL.of (hid_same A H _ _ hp), h.ok (Same.refl H) (.int _)⟩
  | _ => exact h.elim
/-! ### count -/
theorem countP_py (a : D) (pa : a.plain = true) : ∀ ys : List D, D.plains ys = true → ((pys ys).countP fun y => PyData.eqv y (py a)) = ys.countP fun y => eqD y a
  | [], _ => by simp [pys]
  | y :: ys, h => by
    simp only [D.plains, Bool.and_eq_true] at h
    simp only [pys, List.countP_cons, countP_py a pa ys h.2, py_eqv y a h.1 pa]
def rCountD (K : PySem.W.Frag) : V → List V → Hp → VK → Prop := fun x xs H Q => ∃ (a : Addr) (y : V) (d : PyData) (ds : List PyData), x = V.ref a ∧ xs = [y] ∧ Dp K H (V.ref a) (.list ds) ∧ Dp K H y d ∧
  SeqAt.shaped (.list ds) = true ∧ SeqAt.shaped d = true ∧ Q (.int ((ds.countP fun z => PyData.eqv z d : Nat) : Int)) H
theorem mt_countD (hu : X.A.units + 65 < cLine) : MtR X "list.count" (rCountD X.K) := by
  intro pins s σ H x xs v us Q I rx rxs h
  obtain ⟨a, y, d, ds, rfl, rfl, hl, hy, sl, sd, q⟩ := h
  cases rx
  cases rxs with
  | cons ry rt =>
    rename_i uy ut
    cases rt
    obtain ⟨bs, r1⟩ := Dp.reads I d y uy hy ry
    have hxs : PyData.canLayAll0 ds = true := SeqAt.canLay_of_shaped sl
    have hroom : X.A.units + 1 + min (PyData.depthAll ds) d.depth < cLine := room_in_shaped sd hu
    cases hl with
    | lst hs ha =>
      obtain ⟨its, rv, ⟨⟨cls, dd, data, sls⟩, n, ho, hc, hdn, hdt⟩, hlen⟩ := I.list hs
      simp only at hc hdt
      subst hc hdt
      obtain ⟨as, h4⟩ := Dp.readsAll I ds _ its ha rv
      have hmap : its.map (SeqAt.readOf s.heap) = ds := SeqAt.readsAll_map ds its as hxs h4
      refine call_meets PySem.F.slot_list_count ⟨_, ho, rfl⟩ PySem.F.entry_list_count (PySem.F.args_list_count_2 _ _)
        (SeqAt.list_countAt a its.toArray n dd sls uy (fun u => PyData.eqv (SeqAt.readOf s.heap u) d)) ⟨ho, SeqAt.items_eqAt (vs := its.toArray) (show ReadsAll s.heap its.toArray.toList ds as from h4) r1 hxs (SeqAt.canLay_of_shaped sd) hroom, ?_⟩
      have e : its.toArray.countP (fun u => PyData.eqv (SeqAt.readOf s.heap u) d) = ds.countP fun z => PyData.eqv z d := by
        rw [← hmap, List.countP_map]
        simp [Function.comp_def]
      refine ⟨.int ((ds.countP fun z => PyData.eqv z d : Nat) : Int), H, I.tok _, ⟨s.toks, ?_⟩, q⟩
      first
        | (rw [← e]; done)
        | (rw [← e]; simp)
theorem de_count {o a : Expr} {apos pos} {go ga : EnvD → Res D} (hu : X.A.units + 120 < cLine) (ho : PE X o (tE X.K RX W go)) (ha : PE X a (tE X.K RX W ga)) (hs : starEach [a] X.env = (false, eval a X.env) :: starEach [] X.env)
    (hb : attributeBase o "count" X.env (eval o X.env) = eval o X.env) (hl : (apos.endLine == pos.line) = true) (hf : ((backTo pos (starEach [a] X.env)).all (fun x => !x.1) && (backToKw pos (keywordEach [] X.env)).all (fun x => x.1.isSome)
      && decide (([a] : List Expr).length + ([] : List Keyword).length + (if ([] : List Keyword).isEmpty then 0 else 1) < 30)) = true) :
    PE X (.Call (.Attribute o "count" apos) [a] [] pos) (tE X.K RX W fun ρ => do
      let x ← go ρ
      must (b2R .count x) do
        let y ← ga ρ
        b2D .count x y) := by
  refine PEimp (pe_bm F.plainAttrs_list PySem.F.slot_list_count PySem.F.type_list_count (mt_countD (by omega)) ho (pa_cons ha pa_nil hs) hb hf hl hs rfl) fun σ H Q ⟨A, ρ, r, h⟩ => ?_
  refine ⟨A, ρ, r, h.bind fun d v H1 _ e1 q1 h1 => ?_⟩
  obtain ⟨c, h1⟩ := Out.must h1
  cases q1 with
  | @lst p vs ds hp hz hr =>
    refine ⟨.inl ⟨rfl, _, SqL.of (hid_same A H1 _ _ hp)⟩, A, ρ, r.up e1, h1.bind fun d2 v2 H2 _ e2 q2 h2 => ?_⟩
    obtain ⟨c2, h2⟩ := Out.must h2
    simp only [Bool.and_eq_true, decide_eq_true_eq] at c2
    obtain ⟨⟨⟨p1, p2⟩, p3⟩, p4⟩ := c2
    have rl : Rep X.K H2 (.ref p) (.lst ds) := hidH (A := A) (Rep.up (hid_up e2) _ _ (.lst hp hz hr))
    have pl : (D.lst ds).plain = true := by simpa [D.plain] using p2
    obtain ⟨dl, ll⟩ := Rep.dp _ _ rl pl
    obtain ⟨d2p, l2⟩ := Rep.dp _ _ (hidH q2) p1
    have s1 : SeqAt.shaped (py (.lst ds)) = true := by
      unfold SeqAt.shaped
      rw [ll, py_dep _ pl, Bool.true_and]
      refine decide_eq_true ?_
      have : (D.lst ds).dep = D.deps ds + 1 := by simp [D.dep]
      omega
    have s2 : SeqAt.shaped (py d2) = true := by
      unfold SeqAt.shaped
      rw [l2, py_dep _ p1, Bool.true_and]
      exact decide_eq_true (by omega)
    simp only [py] at dl s1
    refine ⟨p, v2, py d2, pys ds, rfl, rfl, dl, d2p, s1, s2, ?_⟩
    rw [countP_py d2 p1 ds p2]
    exact h2.ok (Same.refl _) (.int _)
  | _ => exact nomatch c
end
/-! ### dict(xs) of a list of pairs -/
theorem pairsD_cons {d : D} {ds : List D} {ps : List (D × D)} (h : pairsD (d :: ds) = some ps) : ∃ k v r, d = .tup [k, v] ∧ pairsD ds = some r ∧ ps = (k, v) :: r := by
  unfold pairsD at h
  split at h
  · simp_all
  · rename_i k v r e
    cases e
    cases h2 : pairsD ds with
    | none => simp [h2] at h
    | some t => simp [h2] at h; exact ⟨k, v, t, rfl, rfl, h.symm⟩
  · cases h
section
variable {K : PySem.W.Frag} {H : Hp}
/-- a pair list, by its addresses -/
inductive PL (K : PySem.W.Frag) (H : Hp) : List V → List (D × D) → Prop
  | nil : PL K H [] []
  | cons {a : Addr} {x y : V} {k v : D} {vs : List V} {ps : List (D × D)} : SqT K H a [x, y] → Rep K H x k → Rep K H y v → PL K H vs ps → PL K H (.ref a :: vs) ((k, v) :: ps)
theorem pl_of : ∀ {ds : List D} {vs : List V} {ps : List (D × D)}, Reps K H vs ds → pairsD ds = some ps → PL K H vs ps
  | [], _, ps, .nil, e => by simp [pairsD] at e; subst e; exact .nil
  | d :: ds, _, ps, .cons a t, e => by
    obtain ⟨k, v, r, rfl, e2, rfl⟩ := pairsD_cons e
    cases a with
    | tup hs hz hr =>
      cases hr with
      | cons r1 t1 =>
        cases t1 with
        | cons r2 t2 =>
          cases t2
          exact .cons hs r1 r2 (pl_of t e2)
end
section
variable {X : Cx} {pins : List (Addr × Obj)} {σ : L2.St} {H Hh : Hp} {s : Shared}
/-- what dict() reads of such a list: its pairs of values, and (tuple keys) their keys -/
theorem pl_T (I : Inv X pins σ H s) (sm : Sm Hh H) : ∀ {vs : List V} {ps : List (D × D)} {its : List Value}, PL X.K Hh vs ps → Vals vs its → (∀ p ∈ ps, keyOk true p.1 = true) →
    ∃ (Ts : List Addr) (ws : List (Value × Value)) (xs : List (NestedKey × Addr × Value)), its = Ts.map Value.ref ∧ Ts.length = ws.length ∧ xs.length = ws.length ∧ (∀ (j : Nat) k v, ws[j]? = some (k, v) → ∃ T, Ts[j]? = some T ∧ PairAt s.heap T k v) ∧
      (∀ (i : Nat) k v, ws[i]? = some (k, v) → ∃ n b, xs[i]? = some (n, b, v) ∧ k = .ref b) ∧ (∀ x ∈ xs, NestedIs s.heap x.1 (.ref x.2.1) ∧ x.1.depth ≤ 8) ∧
      ∀ (acc : List (NestedKey × Addr × Value)) (ks ds : List D) (vv : List V), ks.map nk = acc.map (fun x => some x.1) → Vals vv (acc.map (·.2.2)) → Reps X.K Hh vv ds → Reps X.K Hh (acc.map fun x => V.ref x.2.1) ks → D.deps ks ≤ 8 →
        let d := ps.foldl (fun d p => putD p.1 p.2 d) (ks, ds)
        d.1.map nk = (storedAllH acc xs).map (fun x => some x.1) ∧ D.deps d.1 ≤ 8 ∧ Reps X.K Hh ((storedAllH acc xs).map fun x => V.ref x.2.1) d.1 ∧ ∃ vv', Vals vv' ((storedAllH acc xs).map (·.2.2)) ∧ Reps X.K Hh vv' d.2
  | _, _, its, .nil, r, _ => by
    cases r
    refine ⟨[], [], [], rfl, rfl, rfl, by simp, by simp, by simp, fun acc ks ds vv h1 h2 h3 h4 h5 => ?_⟩
    exact ⟨h1, h5, h4, vv, h2, h3⟩
  | _, _, its, .cons (a := a) (k := k) (v := v) hs r1 r2 t, r, ok => by
    cases r with
    | cons ra rt =>
      cases ra
      obtain ⟨Ts, ws, xs, e1, e2, e3, e4, e5, e6, e7⟩ := pl_T I sm t rt fun p hp => ok p (List.mem_cons_of_mem _ hp)
      obtain ⟨its2, rv, ht, _⟩ := I.tuple (SqT.up sm hs)
      obtain ⟨u, w, ei, ru, rw'⟩ := vals2 rv
      subst ei
      have ok1 := ok _ List.mem_cons_self
      obtain ⟨b, n, rfl, rfl, hn, hk, hd⟩ := key_T (X := X) I sm ru r1 ok1
      refine ⟨a :: Ts, (.ref b, w) :: ws, (n, b, w) :: xs, by rw [e1]; rfl, by simp [e2], by simp [e3], fun j k' v' e => ?_, fun j k' v' e => ?_, fun x hx => ?_, fun acc ks ds vv h1 h2 h3 h4 h5 => ?_⟩
      · cases j with
        | zero =>
          cases e
          exact ⟨a, rfl, .inl ht⟩
        | succ j =>
          obtain ⟨T, g1, g2⟩ := e4 j k' v' (by simpa using e)
          exact ⟨T, by simpa using g1, g2⟩
      · cases j with
        | zero =>
          cases e
          exact ⟨n, b, rfl, rfl⟩
        | succ j =>
          obtain ⟨n', b', g1, g2⟩ := e5 j k' v' (by simpa using e)
          exact ⟨n', b', by simpa using g1, g2⟩
      · rcases List.mem_cons.mp hx with rfl | hx
        · exact hk
        · exact e6 x hx
      · obtain ⟨g1, g2, g3, vv', g4, g5⟩ := put_T (u := w) (b := b) hn rw' r2 r1 hd h1 h2 h3 h4 h5
        exact e7 (storedH acc n b w) (putD k v (ks, ds)).1 (putD k v (ks, ds)).2 vv' g1 g4 g5 g3 g2
theorem call_dictT (px : PrX X) (hc : X.calm = true) (hu : X.A.units + 120 < cLine) : CallR X (.type "dict") (fun xs H Q => ∃ (Hh : Hp) (a : Addr) (vs : List V) (ps : List (D × D)), Sm Hh H ∧ xs = [.ref a] ∧ SqL X.K H a vs ∧ vs.length ≤ SZ ∧ PL X.K Hh vs ps ∧ (∀ p ∈ ps, keyOk true p.1 = true) ∧
    ∀ p ob, H p = none → Own X.K (upd H p ob) Hh p (.dic true (mergeD ps).1 (mergeD ps).2) → Q (.ref p) (upd H p ob)) := by
  intro pins s σ H xs us Q I r ⟨Hh, a, vs, ps, sm, e, hs, hz, pl, ok, q⟩
  subst e
  obtain ⟨u, rfl, rx⟩ := vals1 r
  obtain rfl : u = .ref a := rx
  obtain ⟨its, rv, hl, _⟩ := I.list hs
  obtain ⟨Ts, ws, zs, e1, e2, e3, e4, e5, e6, e7⟩ := pl_T I sm pl rv ok
  have hn : ws.length ≤ sizeLine := by
    have := rv.length
    rw [e1, List.length_map] at this
    rw [← SZ_eq]
    omega
  have okL : PlainSeq "list" s.heap a its.toArray ∧ PairItems s.heap its.toArray (fun j => Ts.getD j 0) ws := by
    obtain ⟨o, n, g, c, d, dt⟩ := hl
    refine ⟨⟨o, n, g, c, d, dt⟩, ?_, fun j k v hj => ?_⟩
    · rw [e1]; simp [e2]
    · obtain ⟨T, g1, g2⟩ := e4 j k v hj
      have : Ts.getD j 0 = T := by simp [List.getD, g1]
      show its.toArray[j]? = some (Value.ref (Ts.getD j 0)) ∧ PairAt s.heap (Ts.getD j 0) k v
      rw [this]
      exact ⟨by rw [e1]; simp [g1], g2⟩
  refine PySem.call_dict_pairsH (knd := nestedKind X.prog X.w) (ps := zs) (PairArg.list a its.toArray (fun j => Ts.getD j 0) ws) (I.ok.hd hc) (show X.A.units + 2 + 8 < cLine by omega) okL ⟨e3, fun i k v hr => ?_⟩ (fun h' hk x hx => ?_) hn fun h' tk dd hk => ?_
  · obtain ⟨n, b, g1, g2⟩ := e5 i k v hr
    exact ⟨n, b, g1, g2⟩
  · obtain ⟨g1, g2⟩ := e6 x hx
    exact ⟨NestedIs.at (fun b o ws' m hb _ => hk b o (Nat.ne_of_lt (Heap.lt_size hb)) (by simp) hb) _ _ g1, g2⟩
  · have hm : (s.heap.objs.size == sysModules) = false := beq_eq_false_iff_ne.mpr (Ne.symm (Nat.ne_of_lt I.big))
    obtain ⟨g1, g2, g3, vv', g4, g5⟩ := e7 [] [] [] [] rfl .nil .nil .nil (by simp [D.deps])
    have hz2 : (storedAllH [] zs).length ≤ SZ := by
      have := storedAllH_length zs ([] : List (NestedKey × Addr × Value))
      rw [List.length_nil, e3] at this
      rw [SZ_eq]
      omega
    obtain ⟨o', eo⟩ := ext_of px dd
    exact ⟨.ref _, upd H s.heap.objs.size (.ext (dicF s.heap.objs.size o' (storedAllH [] zs))), I.laid (t' := tk) (fun b o hb => hk b o (by simp) hb) (Nat.le_refl _) (eo _), rfl, q _ _ (I.hok.fresh (Nat.le_refl _)) (.dicT upd_same hm hz2 g1 g2 g4 g3 g5)⟩
theorem pl_K : ∀ {vs : List V} {ps : List (D × D)}, PL X.K Hh vs ps → Sm Hh H → (∀ p ∈ ps, keyOk false p.1 = true) →
    ∃ (bs : List Addr) (kvs : List (Key × V)), vs = bs.map V.ref ∧ kvs.length = vs.length ∧ Paired (fun p kv => SqT X.K H p [kV kv.1, kv.2]) bs kvs ∧
      ∀ (acc : List (Key × V)) (ks ds : List D), ks.map textK = acc.map (fun x => some x.1) → Reps X.K Hh (acc.map (·.2)) ds →
        let d := ps.foldl (fun d p => putD p.1 p.2 d) (ks, ds)
        d.1.map textK = (mergeK acc kvs).map (fun x => some x.1) ∧ Reps X.K Hh ((mergeK acc kvs).map (·.2)) d.2
  | _, _, .nil, sm, _ => ⟨[], [], rfl, rfl, .nil, fun acc ks ds h1 h2 => ⟨h1, h2⟩⟩
  | _, _, .cons (a := a) (y := y) (k := k) (v := v) hs r1 r2 t, sm, ok => by
    obtain ⟨bs, kvs, e1, e0, e2, e3⟩ := pl_K t sm fun p hp => ok p (List.mem_cons_of_mem _ hp)
    obtain ⟨n, hn⟩ := keyOk_f r1 (ok _ List.mem_cons_self)
    obtain rfl := textK_rep r1 hn
    refine ⟨a :: bs, (n, y) :: kvs, by rw [e1]; rfl, by simp [e0], .cons (SqT.up sm hs) e2, fun acc ks ds h1 h2 => ?_⟩
    obtain ⟨g1, g2⟩ := put_K hn r2 h1 h2
    exact e3 (putK acc n y) (putD k v (ks, ds)).1 (putD k v (ks, ds)).2 g1 g2
end
end Snd
namespace Snd
open PySem PySem.Spec PyProof.Rows L2 Dt
variable [PrW]
/-! ### lists without the second ones -/
def once {α : Type} [DecidableEq α] : List α → List α
  | [] => []
  | x :: xs => x :: (once xs).filter fun y => decide (x ≠ y)
theorem mem_once {α : Type} [DecidableEq α] {a : α} : ∀ {xs : List α}, a ∈ once xs ↔ a ∈ xs
  | [] => Iff.rfl
  | x :: xs => by
    simp only [once, List.mem_cons, List.mem_filter, mem_once (xs := xs), decide_eq_true_eq]
    by_cases h : x = a
    · subst h; simp
    · simp [h, Ne.symm h]
theorem nodup_once {α : Type} [DecidableEq α] : ∀ xs : List α, (once xs).Nodup
  | [] => List.nodup_nil
  | x :: xs => by
    simp only [once, List.nodup_cons, List.mem_filter]
    exact ⟨by simp, (nodup_once xs).filter _⟩
theorem once_map {α : Type} [DecidableEq α] (f : α → D) (hf : ∀ a b, eqD (f a) (f b) = decide (a = b)) : ∀ xs : List α, onceD (xs.map f) = (once xs).map f
  | [] => rfl
  | x :: xs => by
    simp only [List.map_cons, onceD, once, once_map f hf xs, List.filter_map]
    congr 2
    refine List.filter_congr fun y _ => ?_
    simp [hf]
theorem perm_of_sub {α : Type} [DecidableEq α] : ∀ {l k : List α}, l.Nodup → (∀ a ∈ l, a ∈ k) → k.length ≤ l.length → l.Perm k
  | [], k, _, _, h => by
    have : k = [] := List.length_eq_zero_iff.mp (by simpa using h)
    rw [this]
  | x :: l, k, nd, s, h => by
    rw [List.nodup_cons] at nd
    have hx := s x List.mem_cons_self
    have p := List.perm_cons_erase hx
    refine List.Perm.trans (.cons x (perm_of_sub nd.2 (fun a ha => ?_) ?_)) p.symm
    · have : a ≠ x := fun z => nd.1 (z ▸ ha)
      exact (List.mem_erase_of_ne this).mpr (s a (List.mem_cons_of_mem _ ha))
    · rw [List.length_erase_of_mem hx]
      simp only [List.length_cons] at h
      omega
def dK : Key → D
  | .inl i => .int i
  | .inr s => .str s.cps.toList
theorem dK_text {d : D} {k : Key} (h : textK d = some k) : d = dK k := by
  cases d <;> first | (cases h; done) | (cases h; simp [dK, tS]; done) | skip
  obtain ⟨_, rfl⟩ := textK_str h
  simp [dK, tS]
theorem flat_keys {K : PySem.W.Frag} {H : Hp} : ∀ {ds : List D} {vs : List V}, Reps K H vs ds → ds.all flatK = true → ∃ ks : List Key, vs = ks.map kV ∧ ds = ks.map dK ∧ ∀ k ∈ ks, Rep K H (kV k) (dK k)
  | [], _, .nil, _ => ⟨[], rfl, rfl, fun _ h => nomatch h⟩
  | d :: ds, _, .cons a t, h => by
    simp only [List.all_cons, Bool.and_eq_true] at h
    obtain ⟨ks, e1, e2, e3⟩ := flat_keys t h.2
    cases d with
    | int i =>
      have a' := a
      cases a
      exact ⟨.inl i :: ks, by rw [e1]; rfl, by rw [e2]; rfl, fun k hk => by
        rcases List.mem_cons.mp hk with rfl | hk
        · exact a'
        · exact e3 k hk⟩
    | str s =>
      have a' := a
      cases a
      exact ⟨.inr (tS s) :: ks, by rw [e1]; rfl, by rw [e2]; simp [dK, tS], fun k hk => by
        rcases List.mem_cons.mp hk with rfl | hk
        · have : dK (.inr (tS s)) = .str s := by simp [dK, tS]
          rw [this]; exact a'
        · exact e3 k hk⟩
    | _ => simp [flatK] at h
theorem dK_eq (a b : Key) : eqD (dK a) (dK b) = decide (a = b) := by
  cases a with
  | inl i => cases b <;> simp [dK, eqD]
  | inr s =>
    cases b with
    | inl j => simp [dK, eqD]
    | inr t =>
      simp only [dK, eqD]
      by_cases h : s = t
      · subst h; simp
      · rw [decide_eq_false (fun z => h (by rw [← tS_of s, ← tS_of t, z])), decide_eq_false fun z => h (Sum.inr.inj z)]
/-! ### the order of texts and whole numbers -/
theorem le_int (a b : Int) : leD (.int a) (.int b) = decide (a ≤ b) := by
  simp only [leD, ltD]
  by_cases h : a ≤ b
  · rw [decide_eq_true h, decide_eq_false (by omega)]; rfl
  · rw [decide_eq_false h, decide_eq_true (by omega)]; rfl
theorem le_str (a b : List Nat) : leD (.str a) (.str b) = decide (a ≤ b) := by
  simp only [leD, ltD]
  by_cases h : a ≤ b
  · rw [decide_eq_true h, decide_eq_false (List.not_lt.mpr h)]; rfl
  · rw [decide_eq_false h, decide_eq_true (List.not_le.mp h)]; rfl
theorem sort_int (is : List Int) : (is.map D.int).mergeSort leD = (is.mergeSort fun a b => decide (a ≤ b)).map D.int :=
  (List.map_mergeSort (s := leD) (f := D.int) fun a _ b _ => (le_int a b).symm).symm
theorem sort_str (ss : List (List Nat)) : (ss.map D.str).mergeSort leD = (ss.mergeSort fun a b => decide (a ≤ b)).map D.str :=
  (List.map_mergeSort (s := leD) (f := D.str) fun a _ b _ => (le_str a b).symm).symm
theorem sort_perm_int {a b : List Int} (h : a.Perm b) : (a.mergeSort fun a b => decide (a ≤ b)) = b.mergeSort fun a b => decide (a ≤ b) := by
  have tr : ∀ x y z : Int, decide (x ≤ y) = true → decide (y ≤ z) = true → decide (x ≤ z) = true := fun x y z h1 h2 => decide_eq_true (Int.le_trans (of_decide_eq_true h1) (of_decide_eq_true h2))
  have to : ∀ x y : Int, (decide (x ≤ y) || decide (y ≤ x)) = true := fun x y => by simp; omega
  refine List.Perm.eq_of_pairwise (fun x y _ _ h1 h2 => ?_) (List.pairwise_mergeSort tr to a) (List.pairwise_mergeSort tr to b) ((List.mergeSort_perm a _).trans (h.trans (List.mergeSort_perm b _).symm))
  have h1 := of_decide_eq_true h1
  have h2 := of_decide_eq_true h2
  omega
theorem sort_perm_str {a b : List (List Nat)} (h : a.Perm b) : (a.mergeSort fun a b => decide (a ≤ b)) = b.mergeSort fun a b => decide (a ≤ b) := by
  have tr : ∀ x y z : List Nat, decide (x ≤ y) = true → decide (y ≤ z) = true → decide (x ≤ z) = true := fun x y z h1 h2 => decide_eq_true (List.le_trans (of_decide_eq_true h1) (of_decide_eq_true h2))
  have to : ∀ x y : List Nat, (decide (x ≤ y) || decide (y ≤ x)) = true := fun x y => by
    rcases List.le_total x y with h | h
    · simp [h]
    · simp [h]
  exact List.Perm.eq_of_pairwise (fun x y _ _ h1 h2 => List.le_antisymm (of_decide_eq_true h1) (of_decide_eq_true h2)) (List.pairwise_mergeSort tr to a) (List.pairwise_mergeSort tr to b) ((List.mergeSort_perm a _).trans (h.trans (List.mergeSort_perm b _).symm))
theorem flat_kind {ds : List D} (h : ds.all flatK = true) (ok : sortOk ds = true) : (∃ is : List Int, ds = is.map D.int) ∨ ∃ ss : List (List Nat), ds = ss.map D.str := by
  obtain ⟨_, _, lk, _⟩ := sortOk_of ok
  cases ds with
  | nil => exact .inl ⟨[], rfl⟩
  | cons d ds =>
    have all : ∀ x ∈ d :: ds, flatK x = true := List.all_eq_true.mp h
    have h0 := all d List.mem_cons_self
    have l0 : ∀ x ∈ d :: ds, likeD d x = true := fun x hx => by
      have := lk d List.mem_cons_self x hx
      cases d <;> first | (simp [flatK] at h0; done) | exact this
    cases d with
    | int i =>
      left
      have key : ∀ l : List D, (∀ x ∈ l, likeD (.int i) x = true) → ∃ is : List Int, l = is.map D.int := by
        intro l
        induction l with
        | nil => exact fun _ => ⟨[], rfl⟩
        | cons x l ih =>
          intro q
          obtain ⟨is, e⟩ := ih fun y hy => q y (List.mem_cons_of_mem _ hy)
          have := q x List.mem_cons_self
          cases x <;> first | (simp [likeD] at this; done) | exact ⟨_ :: is, by rw [e]; rfl⟩
      exact key _ l0
    | str i =>
      right
      have key : ∀ l : List D, (∀ x ∈ l, likeD (.str i) x = true) → ∃ is : List (List Nat), l = is.map D.str := by
        intro l
        induction l with
        | nil => exact fun _ => ⟨[], rfl⟩
        | cons x l ih =>
          intro q
          obtain ⟨is, e⟩ := ih fun y hy => q y (List.mem_cons_of_mem _ hy)
          have := q x List.mem_cons_self
          cases x <;> first | (simp [likeD] at this; done) | exact ⟨_ :: is, by rw [e]; rfl⟩
      exact key _ l0
    | _ => simp [flatK] at h0
/-- a set's members sorted: one order alone -/
theorem sset_eq {ds : List D} {ks ms : List Key} (hf : ds.all flatK = true) (ok : sortOk ds = true) (e : ds = ks.map dK) (nd : ms.Nodup) (hm : ∀ k, k ∈ ms ↔ k ∈ ks) : (ms.map dK).mergeSort leD = (onceD ds).mergeSort leD := by
  have p : ms.Perm (once ks) := (List.perm_ext_iff_of_nodup nd (nodup_once ks)).mpr fun a => by rw [hm, mem_once]
  have e2 : onceD ds = (once ks).map dK := by rw [e]; exact once_map dK dK_eq ks
  rw [e2]
  have pm : (ms.map dK).Perm ((once ks).map dK) := p.map dK
  have hk : ∀ k ∈ once ks, dK k ∈ ds := fun k hk => by rw [e]; exact List.mem_map_of_mem (mem_once.mp hk)
  rcases flat_kind hf ok with ⟨is, e3⟩ | ⟨ss, e3⟩
  · have one : ∀ l : List Key, (∀ k ∈ l, dK k ∈ ds) → ∃ js : List Int, l.map dK = js.map D.int := by
      intro l
      induction l with
      | nil => exact fun _ => ⟨[], rfl⟩
      | cons k l ih =>
        intro q
        obtain ⟨js, e⟩ := ih fun y hy => q y (List.mem_cons_of_mem _ hy)
        have := q k List.mem_cons_self
        rw [e3] at this
        obtain ⟨j, _, ej⟩ := List.mem_map.mp this
        exact ⟨j :: js, by rw [List.map_cons, List.map_cons, e, ej]⟩
    obtain ⟨as, ea⟩ := one ms fun k h => hk k (p.mem_iff.mp h)
    obtain ⟨bs, eb⟩ := one (once ks) hk
    rw [ea, eb] at pm
    rw [ea, eb, sort_int, sort_int, sort_perm_int]
    have := pm.map fun d : D => match d with | .int i => i | _ => 0
    simpa [List.map_map, Function.comp_def] using this
  · have one : ∀ l : List Key, (∀ k ∈ l, dK k ∈ ds) → ∃ js : List (List Nat), l.map dK = js.map D.str := by
      intro l
      induction l with
      | nil => exact fun _ => ⟨[], rfl⟩
      | cons k l ih =>
        intro q
        obtain ⟨js, e⟩ := ih fun y hy => q y (List.mem_cons_of_mem _ hy)
        have := q k List.mem_cons_self
        rw [e3] at this
        obtain ⟨j, _, ej⟩ := List.mem_map.mp this
        exact ⟨j :: js, by rw [List.map_cons, List.map_cons, e, ej]⟩
    obtain ⟨as, ea⟩ := one ms fun k h => hk k (p.mem_iff.mp h)
    obtain ⟨bs, eb⟩ := one (once ks) hk
    rw [ea, eb] at pm
    rw [ea, eb, sort_str, sort_str, sort_perm_str]
    have := pm.map fun d : D => match d with | .str i => i | _ => []
    simpa [List.map_map, Function.comp_def] using this

section
variable {X : Cx} {RX : RXT} {W : WX}
theorem lset_eq {ks ms : List Key} {ds : List D} (e : ds = ks.map dK) (nd : ms.Nodup) (hm : ∀ k, k ∈ ms ↔ k ∈ ks) : ms.length = (onceD ds).length := by
  have p : ms.Perm (once ks) := (List.perm_ext_iff_of_nodup nd (nodup_once ks)).mpr fun a => by rw [hm, mem_once]
  rw [e, once_map dK dK_eq ks, List.length_map, p.length_eq]
theorem de_lset {a : Expr} {p p2 q pos : Pos} {g : EnvD → Res D} (hc : X.calm = true) (hg : Gl X "len") (hm : X.mg "len" = none) (hg2 : Gl X "set") (hm2 : X.mg "set" = none) (ha : PE X a (tE X.K RX W g))
    (na : starEach [a] X.env = (false, eval a X.env) :: starEach [] X.env) : PE X (.Call (.Name "len" p) [.Call (.Name "set" p2) [a] [] q] [] pos) (tE X.K RX W fun ρ => do
      let x ← g ρ
      b1D .lset x) := by
  refine PEimp (pe_lenSetK hc hg hm hg2 hm2 ha na) fun σ H Q ⟨A, ρ, r, h⟩ => ?_
  refine ⟨A, ρ, r, h.bind fun d v H1 _ e1 q1 h1 => ?_⟩
  have hb : scanBound = 4096 := rfl
  cases q1 with
  | @lst p vs ds hp hz hr =>
    obtain ⟨c, h1⟩ := Out.must h1
    simp only [Bool.and_eq_true, decide_eq_true_eq] at c
    obtain ⟨ks, e1, e2, _⟩ := flat_keys hr c.1
    subst e1
    refine ⟨p, ks, rfl, .inl (SqL.of (hid_same A H1 _ _ hp)), ?_, fun m nd hm => ?_⟩
    · have := c.2
      rw [e2, List.length_map] at this
      omega
    · rw [lset_eq e2 nd hm]
      exact h1.ok (Same.refl _) (.int _)
  | @tup p vs ds hp hz hr =>
    obtain ⟨c, h1⟩ := Out.must h1
    simp only [Bool.and_eq_true, decide_eq_true_eq] at c
    obtain ⟨ks, e1, e2, _⟩ := flat_keys hr c.1
    subst e1
    refine ⟨p, ks, rfl, .inr (hidSq hp), ?_, fun m nd hm => ?_⟩
    · have := c.2
      rw [e2, List.length_map] at this
      omega
    · rw [lset_eq e2 nd hm]
      exact h1.ok (Same.refl _) (.int _)
  | _ => exact h1.elim
/-- the members of a set as values, in the order of its walk -/
theorem set_vals {P : Program} {w : World} {t : SetTable} {es : Array (Int × Value)} {m : List Key} {us : List Value} (T : Tbl w (mixKind P w) t es m) (pm : us.Perm (es.toList.map (·.2))) : ∃ ks : List Key, Vals (ks.map kV) us ∧ m.Perm ks := by
  have all : ∀ u ∈ us, ∃ k, (mixKind P w).is k u = true := fun u hu => by
    obtain ⟨e, he, q⟩ := List.mem_map.mp (pm.mem_iff.mp hu)
    obtain ⟨⟨k, hk, _⟩, _⟩ := T.el e he
    exact ⟨k, by rw [← q]; exact hk⟩
  have mk : ∀ l : List Value, (∀ u ∈ l, ∃ k, (mixKind P w).is k u = true) → ∃ ks : List Key, Vals (ks.map kV) l ∧ ∀ u ∈ l, ∀ k, (mixKind P w).is k u = true → k ∈ ks := by
    intro l
    induction l with
    | nil => exact fun _ => ⟨[], .nil, fun _ h => nomatch h⟩
    | cons u l ih =>
      intro q
      obtain ⟨ks, h1, h2⟩ := ih fun y hy => q y (List.mem_cons_of_mem _ hy)
      obtain ⟨k, hk⟩ := q u List.mem_cons_self
      refine ⟨k :: ks, .cons (keyIs_rel hk) h1, fun y hy j hj => ?_⟩
      rcases List.mem_cons.mp hy with rfl | hy
      · have := (mixKind P w).inj y j k hj hk
        rw [this]; exact List.mem_cons_self
      · exact List.mem_cons_of_mem _ (h2 y hy j hj)
  obtain ⟨ks, h1, h2⟩ := mk us all
  refine ⟨ks, h1, perm_of_sub T.nd (fun k hk => ?_) ?_⟩
  · obtain ⟨e, he, hi⟩ := (T.mem k).mp hk
    exact h2 e.2 (pm.mem_iff.mpr (List.mem_map_of_mem he)) k hi
  · have := h1.length
    rw [List.length_map] at this
    rw [this, pm.length_eq, List.length_map, Array.length_toList, T.sz]
    exact Nat.le_refl _
theorem reps_keys {K : PySem.W.Frag} {H : Hp} : ∀ {ks : List Key}, (∀ k ∈ ks, Rep K H (kV k) (dK k)) → Reps K H (ks.map kV) (ks.map dK)
  | [], _ => .nil
  | k :: ks, h => .cons (h k List.mem_cons_self) (reps_keys fun j hj => h j (List.mem_cons_of_mem _ hj))
theorem sortOk_sub {ds es : List D} (h : sortOk ds = true) (s : ∀ d ∈ es, d ∈ ds) : sortOk es = true := by
  obtain ⟨h1, h2, h3, h4⟩ := sortOk_of h
  have p : ∀ (l : List D), (∀ d ∈ l, d ∈ ds) → D.plains l = true ∧ D.deps l ≤ 100 := by
    intro l
    induction l with
    | nil => exact fun _ => ⟨rfl, by simp [D.deps]⟩
    | cons x l ih =>
      intro q
      obtain ⟨g1, g2⟩ := ih fun y hy => q y (List.mem_cons_of_mem _ hy)
      have hx := q x List.mem_cons_self
      refine ⟨by simp [D.plains, plains_in h1 x hx, g1], ?_⟩
      have := deps_mem h2 x hx
      simp only [D.deps]
      omega
  obtain ⟨g1, g2⟩ := p es s
  unfold sortOk
  rw [g1, decide_eq_true g2]
  have g3 : (es.all fun x => es.all fun y => wlike x y) = true := List.all_eq_true.mpr fun x hx => List.all_eq_true.mpr fun y hy => h3 x (s x hx) y (s y hy)
  rw [g3]
  rcases h4 with h4 | h4
  · have : es.all someTup = true := List.all_eq_true.mpr fun x hx => h4 x (s x hx)
    rw [this]; rfl
  · have : es.all notTup = true := List.all_eq_true.mpr fun x hx => h4 x (s x hx)
    rw [this]; simp
theorem de_sset {a : Expr} {p p2 q pos : Pos} {g : EnvD → Res D} (hc : X.calm = true) (hu : X.A.units + 120 < cLine) (hg : Gl X "sorted") (hm : X.mg "sorted" = none) (hg2 : Gl X "set") (hm2 : X.mg "set" = none) (ha : PE X a (tE X.K RX W g))
    (na : starEach [a] X.env = (false, eval a X.env) :: starEach [] X.env) : PE X (.Call (.Name "sorted" p) [.Call (.Name "set" p2) [a] [] q] [] pos) (tE X.K RX W fun ρ => do
      let x ← g ρ
      b1D .sset x) := by
  refine ⟨fun pins s σ H Q I ⟨A, ρ, r, h⟩ => Call_ (ld_blt I hg hm (show bootBuiltins (Str.ofString "sorted") = some (.builtin "sorted") by decide +kernel) (PyProof.Rows.callWith_builtin1 (PyProof.Rows.args_cons ?_ rfl) rfl rfl))⟩
  refine Call_ (ld_blt I hg2 hm2 boot_set (PyProof.Rows.callWith_type1 (PyProof.Rows.args_cons (thn (ha.run pins s σ H (fun v H1 => ∃ d, Same H H1 ∧ Rep X.K (hid A H1) v d ∧ Out RX W (relE X.K A) (b1D .sset d) σ H1 Q) I ⟨A, ρ, r, h.bind fun d v H1 _ e1 q1 h1 => ⟨d, e1, q1, h1⟩⟩) fun v s1 ⟨x, H1, I1, r1, d, e1, q1, h1⟩ => PyProof.Rows.args_nil ?_) na) na rfl))
  have live := r.live.up e1
  cases q1 with
  | @lst l vs ds hp hz hr =>
    cases r1
    obtain ⟨c, h1⟩ := Out.must h1
    simp only [Bool.and_eq_true, decide_eq_true_eq] at c
    obtain ⟨⟨c1, c2⟩, c3⟩ := c
    obtain ⟨ks, e3, e2, rk⟩ := flat_keys hr c1
    subst e3
    have hb : scanBound = 4096 := rfl
    have hlk : ks.length ≤ 1000 := by rw [e2, List.length_map] at c3; exact c3
    obtain ⟨its, rv, pl, _⟩ := I1.list (SqL.of (hid_same A H1 _ _ hp))
    obtain ⟨⟨cc, dd, dt, sl⟩, gg, rfl, nl, rfl⟩ := pl.isList
    have el : ks.length = its.toArray.size := by rw [List.size_toArray, ← rv.length, List.length_map]
    refine call_setK (kd := mixKind X.prog X.w) ks (.inl rfl) (I1.ok.hd hc) gg (fun i v hv => ?_) (by rw [← el]; omega) el fun h' tk m R em z k => PyProof.Rows.args_nil ?_
    · obtain ⟨k, g, rr⟩ := keys_at rv i v (by simpa using hv)
      exact ⟨k, g, kV_is rr, key_scan rr⟩
    · obtain ⟨o, es, ep, t, ho', ex, hd, T⟩ := R
      have I2 : Inv X pins σ H1 { s1 with heap := h', toks := tk } := I1.kept k
      have hes : es.size ≤ 1000 := by rw [T.sz]; omega
      refine Calls.call_function_entry PyProof.Rows.kind_sorted PyProof.Rows.plain_sorted PyProof.Rows.entry_sorted (PyProof.Rows.args_sorted1 _) ?_
      unfold Builtin.«sorted»
      refine wpAny_bind (m := checkCount "sorted" 1 1 _) (wpAny_pure ?_)
      refine wpAny_bind (collect_set (A := X.A.in1) (I1.ok.hd hc) ⟨o, ho', ex.1, hd⟩ T.fit (by omega) T.ris T.led fun s3 us k1 hz3 g1 o1 pm => ?_)
      obtain ⟨js, rj, pj⟩ := set_vals T pm
      have J0 : Inv X pins σ H1 { s1 with heap := s3.heap, gens := s3.gens, drawn := s3.drawn, toks := s3.toks } :=
        I2.call (s := { s1 with heap := h', toks := tk }) (ch := []) (Un.kept k1) (I2.hok.kept k1) (by rw [g1]; exact I2.bare) (fun _ z => nomatch z)
      have es3 : s3 = { s1 with heap := s3.heap, gens := s3.gens, drawn := s3.drawn, toks := s3.toks } := by
        cases s3
        cases s1
        cases o1
        rfl
      have J : Inv X pins σ H1 s3 := by rw [es3]; exact J0
      have hjl : js.length ≤ 1000 := by rw [← pj.length_eq, ← T.sz]; exact hes
      have hul : us.length = js.length := by
        have := rj.length
        rw [List.length_map] at this
        exact this.symm
      have hz0 : SZ = 16777216 := rfl
      have hmem : ∀ k, k ∈ js ↔ k ∈ ks := fun k => by rw [← pj.mem_iff]; exact em k
      have rjs : Reps X.K (hid A H1) (js.map kV) (js.map dK) := reps_keys fun k hk => rk k ((hmem k).mp hk)
      have okj : sortOk (js.map dK) = true := sortOk_sub c2 fun d hd => by
        obtain ⟨k, hk, rfl⟩ := List.mem_map.mp hd
        rw [e2]
        exact List.mem_map_of_mem ((hmem k).mp hk)
      refine wpAny_bind (wpAny_newList ?_ (by rw [hul, ← SZ_eq]; omega))
      show wpAny _ _ _ _ _ { s3 with heap := s3.heap.push (seqObj "list" us.toArray 0) }
      refine wpAny_bind (wpAny_holding (list_sortD (A := X.A.in1) (show X.A.units + 1 + 110 < cLine by omega) J rj (Reps.up (hid_same A H1) _ _ rjs) okj (by rw [List.length_map]; omega) fun s' I4 hn => ?_))
      have hl3 : (srt (js.map kV) (js.map dK)).length ≤ SZ := by
        rw [srt_len rjs.length, List.length_map]
        omega
      refine wpAny_pure ⟨_, rfl, .ref _, _, I4, rfl, ?_⟩
      have e9 : Same H1 (upd H1 s3.heap.objs.size (.lst (srt (js.map kV) (js.map dK)))) := same_upd hn
      rw [← sset_eq c1 c2 e2 (pj.nodup_iff.mp T.nd) hmem] at h1
      exact h1.ok e9 (.lst (by rw [hid_out (live.new hn), upd_same]) hl3 (Reps.up (hid_up e9) _ _ (sort_reps rjs)))
  | _ => exact h1.elim
end
end Snd
namespace Snd
open PySem PySem.Spec PyProof.Rows L2 Dt
variable [PrW]
/-- a new thing of one's own: its address is new, its parts stand without it -/
abbrev relOw (K : PySem.W.Frag) (A : List Addr) (H : Hp) : Hp → V → D → Prop := fun H' v d => ∃ p, v = .ref p ∧ Nu H p ∧ Own K H' (hid (p :: A) H') p d
def tO (K : PySem.W.Frag) (RX : RXT) (W : WX) (g : EnvD → Res D) : TE := fun σ H Q => ∃ A ρ, RE K A H σ ρ ∧ Out RX W (relOw K A H) (g ρ) σ H Q
section
variable {X : Cx} {RX : RXT} {W : WX} {K : PySem.W.Frag}
theorem de_of_do {e : Expr} {g : EnvD → Res D} (h : PE X e (tO X.K RX W g)) : PE X e (tE X.K RX W g) := by
  refine PEimp h fun σ H Q ⟨A, ρ, r, q⟩ => ⟨A, ρ, r, ?_⟩
  generalize g ρ = w at q
  cases w with
  | exc x => exact q
  | stuck => exact q
  | ok d =>
    rintro v H' e1 ⟨p, rfl, h1, ow⟩
    refine q _ _ e1 (ow.rep (hid_out (r.live.newN h1)) (hid_less fun a ha => List.mem_cons_of_mem _ ha))
/-! ### displays -/
theorem do_dnew (px : PrX X) {t : Bool} {pos} : PE X (.Dict [] [] pos) (tO X.K RX W fun _ => .ok (.dic t [] [])) := by
  refine ⟨fun pins s σ H Q I ⟨A, ρ, r, h⟩ => wpAny_Dict_empty ?_⟩
  obtain ⟨ob, J, ow⟩ := own_empty px I t
  have hn := I.hok.fresh (Nat.le_refl s.heap.objs.size)
  exact ⟨.ref s.heap.objs.size, _, J s.toks, rfl, h _ _ (same_upd hn) ⟨_, rfl, .of hn, ow _⟩⟩
theorem do_dsp1 (px : PrX X) (hu : X.A.units + 120 < cLine) {k v : Expr} {pos} {gk gv : EnvD → Res D} (hk : PE X k (tE X.K RX W gk)) (hv : PE X v (tE X.K RX W gv)) : PE X (.Dict [some k] [v] pos) (tO X.K RX W fun ρ => do
    let x ← gk ρ
    let y ← gv ρ
    must (keyOk true x) (.ok (D.dic true [x] [y]))) := by
  refine ⟨fun pins s σ H Q I ⟨A, ρ, r, h⟩ => ?_⟩
  have hn := I.hok.fresh (Nat.le_refl s.heap.objs.size)
  obtain ⟨ob, J, ow⟩ := own_empty px I true
  have e0 : Same H (upd H s.heap.objs.size ob) := same_upd hn
  have hob : ∃ o0, ob = .ext (dicF s.heap.objs.size o0 []) := by
    have := ow (upd H s.heap.objs.size ob)
    cases this with
    | @dicT o0 xs vs _ _ h1 h2 h3 h4 h5 h6 h7 h8 =>
      rw [upd_same] at h1
      have : xs = [] := by
        cases xs with
        | nil => rfl
        | cons _ _ => simp at h4
      subst this
      exact ⟨o0, Option.some.inj h1⟩
  obtain ⟨o0, rfl⟩ := hob
  have hsh : (evalEachOpt [some k] X.env).zip ((evalEach [v] X.env).map fun v => do let x ← v; standAt pos; pure x) = (pairTrees [some k] [v] X.env pos).map fun p => (some p.1, p.2) := zip_pairTrees [some k] [v] X.env pos rfl rfl
  rw [arm_eval_Dict, hsh, dictDisplay_pairs (pairTrees [some k] [v] X.env pos) (by intro z; have := congrArg List.length z; rw [pairTrees_length [some k] [v] X.env pos rfl rfl] at this; cases this) (by rw [pairTrees_length [some k] [v] X.env pos rfl rfl]; exact Nat.le_of_ble_eq_true rfl)]
  refine wpAny_bind (wpAny_standAt (wpAny_bind (wpAny_subDictH (knd := nestedKind X.prog X.w) (Q := fun d s' => wpAny (model X.prog X.w) X.A (pure (Value.ref d)) (EP X pins σ Q) X.xe s') (show X.A.units + 8 < cLine by omega) (by rw [pairTrees_length [some k] [v] X.env pos rfl rfl]; exact Nat.le_of_ble_eq_true rfl) ?_)))
  have hA : hid (s.heap.objs.size :: A) (upd H s.heap.objs.size (.ext (dicF s.heap.objs.size o0 []))) = hid (s.heap.objs.size :: A) H := hid_upd List.mem_cons_self
  have r0 : RE X.K (s.heap.objs.size :: A) (upd H s.heap.objs.size (.ext (dicF s.heap.objs.size o0 []))) σ ρ := by
    refine ⟨fun a ha => ?_, e0.tabs r.tabs, r.len, fun i d q => ?_⟩
    · rcases List.mem_cons.mp ha with rfl | ha
      · exact ⟨_, upd_same, fun _ z => nomatch z⟩
      · exact (r.live.up e0) a ha
    · obtain ⟨w, h1, h2⟩ := r.vals i d q
      exact ⟨w, h1, Rep.up ((hid_new (.of hn)).trans (hid_up e0)) _ _ h2⟩
  have h0 : Out RX W (relOw X.K A H) (gk ρ >>= fun x => gv ρ >>= fun y => must (keyOk true x) (.ok (D.dic true [x] [y]))) σ (upd H s.heap.objs.size (.ext (dicF s.heap.objs.size o0 []))) Q := Out.up h e0
  refine pairTrees_cons_walk (thn (hk.run pins _ σ _ (fun x H1 => ∃ d, gk ρ = .ok d ∧ Same (upd H s.heap.objs.size (.ext (dicF s.heap.objs.size o0 []))) H1 ∧ Rep X.K (hid (s.heap.objs.size :: A) H1) x d ∧ Out RX W (relOw X.K A H) (gv ρ >>= fun y => must (keyOk true d) (.ok (D.dic true [d] [y]))) σ H1 Q) (J s.toks) ⟨_, ρ, r0, h0.bind fun d x H1 eg e1 q1 h1 => ⟨d, eg, e1, q1, h1⟩⟩) fun u s1 ⟨x, H1, I1, rx, d, eg1, e1, q1, h1⟩ => ?_)
  refine thn (hv.run pins s1 σ _ (fun y H2 => ∃ d2, gv ρ = .ok d2 ∧ Same H1 H2 ∧ Rep X.K (hid (s.heap.objs.size :: A) H2) y d2 ∧ Out RX W (relOw X.K A H) (must (keyOk true d) (.ok (D.dic true [d] [d2]))) σ H2 Q) I1 ⟨_, ρ, r0.up e1, h1.bind fun d2 y H2 eg e2 q2 h2 => ⟨d2, eg, e2, q2, h2⟩⟩) fun w s2 ⟨y, H2, I2, ry, d2, eg2, e2, q2, h2⟩ => pairTrees_nil_walk ?_
  obtain ⟨ok, h2⟩ := Out.must h2
  have q1' := Rep.up (hid_up (A := s.heap.objs.size :: A) e2) _ _ q1
  obtain ⟨b, n, rfl, rfl, hnk, his, hd⟩ := key_T (X := X) I2 (hid_same (s.heap.objs.size :: A) H2) rx q1' ok
  have hp : H2 s.heap.objs.size = some (.ext (dicF s.heap.objs.size o0 [])) := e2.sm.ext (e1.sm.ext upd_same)
  have dd := dictH_of px I2 (Hh := H2) (Sm.refl _) (xs := []) (ks := []) hp rfl (by simp [D.deps]) .nil
  refine ⟨[(n, b, w)], ⟨rfl, rfl, his, trivial⟩, dd, fun h' tk dd' hs => wpAny_pure ?_⟩
  have he : ∃ q, h'.get? s.heap.objs.size = some q := let ⟨q, _, _, hq, _⟩ := dd'; ⟨q, hq⟩
  have eS : storedAllH ([] : List (NestedKey × Addr × Value)) [(n, b, w)] = [(n, b, w)] := by simp [storedAllH, storedH, atKey]
  rw [eS] at dd'
  obtain ⟨o1, eo1⟩ := ext_of px dd'
  have J2 := d_write (t' := tk) I2 (ob := .ext (dicF s.heap.objs.size o1 [(n, b, w)])) (by rw [hp]; exact True.intro) hs he (eo1 _)
  have hm : (s.heap.objs.size == sysModules) = false := beq_eq_false_iff_ne.mpr (Ne.symm (Nat.ne_of_lt I.big))
  have hA2 : hid (s.heap.objs.size :: A) (upd H2 s.heap.objs.size (.ext (dicF s.heap.objs.size o1 [(n, b, w)]))) = hid (s.heap.objs.size :: A) H2 := hid_upd List.mem_cons_self
  have hz0 : (1 : Nat) ≤ SZ := by decide
  have hdd : D.deps [d] ≤ 8 := by simp only [D.deps]; omega
  have ow2 : Own X.K (upd H2 s.heap.objs.size (.ext (dicF s.heap.objs.size o1 [(n, b, w)]))) (hid (s.heap.objs.size :: A) (upd H2 s.heap.objs.size (.ext (dicF s.heap.objs.size o1 [(n, b, w)])))) s.heap.objs.size (.dic true [d] [d2]) := by
    rw [hA2]
    exact .dicT (vs := [y]) upd_same hm hz0 (by simp [hnk]) hdd (.cons ry .nil) (.cons q1' .nil) (.cons q2 .nil)
  have h3 : ∀ v H', Same H H' → relOw X.K A H H' v (.dic true [d] [d2]) → Q v H' := fun v H' eH rr => by
    have h : Out RX W (relOw X.K A H) (gk ρ >>= fun x => gv ρ >>= fun y => must (keyOk true x) (.ok (D.dic true [x] [y]))) σ H Q := h
    rw [eg1, ok_bind, eg2, ok_bind, ok] at h
    exact h v H' eH rr
  exact ⟨.ref s.heap.objs.size, _, J2, rfl, h3 _ _ (((e0.trans e1).trans e2).write (.of hn) hp nc_dicF) ⟨_, rfl, .of hn, ow2⟩⟩

/-! ### {texts: numbers} -/
theorem fold_K {H : Hp} : ∀ {ps : List (D × D)} {kvs : List (Key × V)} (acc : List (Key × V)) (ks ds : List D), ps.map (fun p => textK p.1) = kvs.map (fun x => some x.1) → Reps K H (kvs.map (·.2)) (ps.map (·.2)) → ks.map textK = acc.map (fun x => some x.1) → Reps K H (acc.map (·.2)) ds →
    (ps.foldl (fun d p => putD p.1 p.2 d) (ks, ds)).1.map textK = (mergeK acc kvs).map (fun x => some x.1) ∧ Reps K H ((mergeK acc kvs).map (·.2)) (ps.foldl (fun d p => putD p.1 p.2 d) (ks, ds)).2
  | [], kvs, acc, ks, ds, h1, h2, h3, h4 => by
    cases kvs with
    | nil => exact ⟨h3, h4⟩
    | cons _ _ => simp at h1
  | p :: ps, kvs, acc, ks, ds, h1, h2, h3, h4 => by
    cases kvs with
    | nil => simp at h1
    | cons x kvs =>
      simp only [List.map_cons, List.cons.injEq] at h1
      simp only [List.map_cons] at h2
      cases h2 with
      | cons a t =>
        obtain ⟨g1, g2⟩ := put_K h1.1 a h3 h4
        exact fold_K (putK acc x.1 x.2) (putD p.1 p.2 (ks, ds)).1 (putD p.1 p.2 (ks, ds)).2 h1.2 t g1 g2
def litT : List String → List Int → List (TE × TE)
  | k :: ks, v :: vs => ((fun _ H Q => Q (.str (Str.ofString k)) H), (fun _ H Q => Q (.int v) H)) :: litT ks vs
  | _, _ => []
/-- the keys and values of such a display -/
def litX : List String → List Int → List (Option Expr) → List Expr → Bool
  | [], [], [], [] => true
  | k :: ks, v :: vs, some (.Constant (.str s) _ _) :: es, .Constant (.int i) _ _ :: fs => decide (s = Str.ofString k) && decide (i = v) && decide ((tx k).length ≤ SZ) && litX ks vs es fs
  | _, _, _, _ => false
theorem litX_pps {pos : Pos} : ∀ {ks : List String} {vs : List Int} {es : List (Option Expr)} {fs : List Expr}, litX ks vs es fs = true → PPs X pos es fs (litT ks vs)
  | [], [], [], [], _ => pps_nil
  | k :: ks, v :: vs, some (.Constant (.str s) _ _) :: es, .Constant (.int i) _ _ :: fs, h => by
    simp only [litX, Bool.and_eq_true, decide_eq_true_eq] at h
    obtain ⟨⟨⟨rfl, rfl⟩, _⟩, h4⟩ := h
    exact pps_cons pe_str pe_int (litX_pps h4)
theorem litX_all : ∀ {ks : List String} {vs : List Int} {es : List (Option Expr)} {fs : List Expr}, litX ks vs es fs = true → es.all (·.isSome) = true ∧ es.length = fs.length ∧ es.length = ks.length ∧ vs.length = ks.length ∧ ∀ k ∈ ks, (tx k).length ≤ SZ
  | [], [], [], [], _ => ⟨rfl, rfl, rfl, rfl, fun _ h => nomatch h⟩
  | k :: ks, v :: vs, some (.Constant (.str s) _ _) :: es, .Constant (.int i) _ _ :: fs, h => by
    simp only [litX, Bool.and_eq_true, decide_eq_true_eq] at h
    obtain ⟨⟨⟨rfl, rfl⟩, h3⟩, h4⟩ := h
    obtain ⟨g1, g2, g3, g4, g5⟩ := litX_all h4
    exact ⟨by simpa using g1, by simp [g2], by simp [g3], by simp [g4], fun j hj => by
      rcases List.mem_cons.mp hj with rfl | hj
      · exact h3
      · exact g5 j hj⟩
theorem lit_pairs {σ : L2.St} {H : Hp} {Q : List (V × V) → Hp → Prop} : ∀ {ks : List String} {vs : List Int}, vs.length = ks.length → Q ((ks.zip vs).map fun p => (.str (Str.ofString p.1), .int p.2)) H → tPairs (litT ks vs) σ H Q
  | [], [], _, q => q
  | [], _ :: _, h, _ => by simp at h
  | _ :: _, [], h, _ => by simp at h
  | k :: ks, v :: vs, h, q => lit_pairs (ks := ks) (vs := vs) (by simpa using h) q
theorem de_dlit {ks : List String} {vs : List Int} {es : List (Option Expr)} {fs : List Expr} {pos : Pos} (h : litX ks vs es fs = true) (h0 : ks ≠ []) (h15 : ks.length ≤ 15) : PE X (.Dict es fs pos) (tE X.K RX W fun _ => .ok (.dic false (mergeD (litD ks vs)).1 (mergeD (litD ks vs)).2)) := by
  obtain ⟨g1, g2, g3, g4, g5⟩ := litX_all h
  refine PEimp (pe_disp (litX_pps h) g1 g2 (fun z => h0 (by rw [z] at g3; exact List.length_eq_zero_iff.mp g3.symm)) (by omega)) fun σ H Q ⟨A, ρ, r, q⟩ => ?_
  intro p hp
  refine lit_pairs g4 ⟨upd_same, (ks.zip vs).map (fun p => (Sum.inr (Str.ofString p.1), .int p.2)), by simp [List.map_map, Function.comp_def, kV], by simp; omega, ?_⟩
  rw [upd_upd]
  have e : Same H (upd H p (.dK (mergeK [] ((ks.zip vs).map fun p => (Sum.inr (Str.ofString p.1), V.int p.2))))) := same_upd hp
  have rr : ∀ (l : List (String × Int)), Reps X.K (hid A (upd H p (.dK (mergeK [] ((ks.zip vs).map fun p => (Sum.inr (Str.ofString p.1), V.int p.2)))))) ((l.map fun p => ((Sum.inr (Str.ofString p.1) : Key), V.int p.2)).map (·.2)) ((l.map fun p => (D.str (tx p.1), D.int p.2)).map (·.2)) := by
    intro l
    induction l with
    | nil => exact .nil
    | cons x l ih => exact .cons (.int _) ih
  obtain ⟨k1, k2⟩ := fold_K (K := X.K) (ps := litD ks vs) (kvs := (ks.zip vs).map fun p => (Sum.inr (Str.ofString p.1), V.int p.2)) [] [] [] (by
    simp only [litD, List.map_map]
    refine List.map_congr_left fun p hp => ?_
    have h1 : p.1 ∈ ks := (List.of_mem_zip hp).1
    show textK (.str (tx p.1)) = _
    rw [show textK (.str (tx p.1)) = some (.inr (tS (tx p.1))) from if_pos (okTb_iff.mpr (okT_tx (g5 _ h1))), tS_tx]
    rfl) (rr _) rfl .nil
  refine q.ok e (.dicS (by rw [hid_out (r.live.new hp), upd_same]) ?_ k1 k2)
  have := length_mergeK ((ks.zip vs).map fun p => ((Sum.inr (Str.ofString p.1) : Key), V.int p.2)) []
  have hz : SZ = 16777216 := rfl
  simp at this
  omega
/-! ### d.get(k, x) -/
theorem de_get2 (px : PrX X) (hu : X.A.units + 120 < cLine) {o e f : Expr} {apos cpos : Pos} {go ge gf : EnvD → Res D} (ho : PE X o (tE X.K RX W go)) (he : PE X e (tE X.K RX W ge)) (hf : PE X f (tE X.K RX W gf)) (m : M2 X o "get" apos e f cpos) :
    PE X (.Call (.Attribute o "get" apos) [e, f] [] cpos) (tE X.K RX W fun ρ => do
      let d ← go ρ
      let p ← dicD d
      let y ← ge ρ
      let z ← gf ρ
      must (keyOkN p.1 y) (.ok ((findD y p.2.1 p.2.2).getD z))) := by
  refine ⟨fun pins s σ H Q I ⟨A, ρ, r, h⟩ => ?_⟩
  refine wpAny_Call_method m.base m.few m.line PySem.F.plainAttrs_dict PySem.F.slot_dict_get PySem.F.type_dict_get (thn (ho.run pins s σ H (fun x H1 => ∃ d, Same H H1 ∧ Rep X.K (hid A H1) x d ∧ Out RX W (relE X.K A) (dicD d >>= fun p => ge ρ >>= fun y => gf ρ >>= fun z => must (keyOkN p.1 y) (.ok ((findD y p.2.1 p.2.2).getD z))) σ H1 Q) I ⟨A, ρ, r, h.bind fun d x H1 _ e1 q1 h1 => ⟨d, e1, q1, h1⟩⟩) fun u s1 ⟨x, H1, I1, rx, d, e1, q1, h1⟩ => ?_)
  cases d <;> first | exact h1.elim | skip
  rename_i t ks ds
  obtain ⟨a, rfl, ow⟩ := own_of q1
  cases (show u = Value.ref a from rx)
  obtain ⟨t1, t2, _⟩ := own_dict px I1 (hid_same A H1) ow
  refine ⟨t1, t2, ?_⟩
  have h1 : Out RX W (relE X.K A) (ge ρ >>= fun y => gf ρ >>= fun z => must (keyOkN t y) (.ok ((findD y ks ds).getD z))) σ H1 Q := h1
  rw [m.trees]
  refine Calls.callWith_builtin rfl (Calls.evalArgs_plain (Calls.spliced_cons (thn (he.run pins s1 σ H1 (fun y H2 => ∃ d2, Same H1 H2 ∧ Rep X.K (hid A H2) y d2 ∧ Out RX W (relE X.K A) (gf ρ >>= fun z => must (keyOkN t d2) (.ok ((findD d2 ks ds).getD z))) σ H2 Q) I1 ⟨A, ρ, r.up e1, h1.bind fun d y H2 _ e2 q2 h2 => ⟨d, e2, q2, h2⟩⟩) fun iv s2 ⟨y, H2, I2, ry, d2, e2, q2, h2⟩ =>
    Calls.spliced_cons (thn (hf.run pins s2 σ H2 (fun z H3 => ∃ d3, Same H2 H3 ∧ Rep X.K (hid A H3) z d3 ∧ Out RX W (relE X.K A) (must (keyOkN t d2) (.ok ((findD d2 ks ds).getD d3))) σ H3 Q) I2 ⟨A, ρ, (r.up e1).up e2, h2.bind fun d z H3 _ e3 q3 h3 => ⟨d, e3, q3, h3⟩⟩) fun fv s3 ⟨z, H3, I3, rz, d3, e3, q3, h3⟩ => Calls.spliced_nil ?_))))
  obtain ⟨ok, h3⟩ := Out.must h3
  have ow3 := ow.up (e2.trans e3).sm (hid_up (A := A) (e2.trans e3))
  exact d_get2D px (by omega) I3 (hid_same A H3) ow3 ry (Rep.up (hid_up e3) _ _ q2) ok rz q3 fun v w' s4 I4 rw' rv => ⟨v, H3, I4, rw', h3.ok (Same.refl _) rv⟩
/-! ### dict(xs) -/
/-- the pairs that tuples of two hold -/
theorem pairs_w {pins : List (Addr × Obj)} {σ : L2.St} {H : Hp} {s : Shared} (I : Inv X pins σ H s) : ∀ {ps : List Addr} {kvs : List (Key × V)}, Paired (fun p kv => SqT X.K H p [kV kv.1, kv.2]) ps kvs →
    ∃ (ws : List (Value × Value)) (prs : List (Key × Value)), KV kvs prs ∧ prs.length = ps.length ∧ ws.length = ps.length ∧ ∀ (j : Nat) k v, ws[j]? = some (k, v) → (∃ T, ps[j]? = some T ∧ PairAt s.heap T k v) ∧ ∃ n, prs[j]? = some (n, v) ∧ keyIs n k = true
  | _, _, .nil => ⟨[], [], .nil, rfl, rfl, fun j k v e => nomatch e⟩
  | _, _, .cons (a := p) (b := kv) h t => by
    obtain ⟨ws, prs, r, l1, l2, hp⟩ := pairs_w I t
    obtain ⟨its, rv, ht, _⟩ := I.tuple h
    obtain ⟨u, y, ei, ru, ry⟩ := vals2 rv
    subst ei
    refine ⟨(u, y) :: ws, (kv.1, y) :: prs, .cons ⟨rfl, ry⟩ r, by simp [l1], by simp [l2], fun j k v e => ?_⟩
    cases j with
    | zero =>
      cases e
      exact ⟨⟨p, rfl, .inl ht⟩, kv.1, rfl, kV_is (P := X.prog) (w := X.w) ru⟩
    | succ j => exact hp j k v e
/-- dict(xs) of a tuple of pairs: the tuple's object has no dict of its own -/
theorem call_dictPt (hc : X.calm = true) : CallR X (.type "dict") (fun xs H Q => ∃ (a : Addr) (o : Obj) (ps : List Addr) (kvs : List (Key × V)), xs = [.ref a] ∧ H a = some (.frz o (.tup (ps.map V.ref))) ∧ o.dict = none ∧ ps.length ≤ SZ ∧ Paired (fun p kv => SqT X.K H p [kV kv.1, kv.2]) ps kvs ∧
    ∀ p, H p = none → Q (.ref p) (upd H p (.dK (mergeK [] kvs)))) := by
  intro pins s σ H xs us Q I r ⟨a, o, ps, kvs, e, hf, hd, hz, hp, q⟩
  subst e
  obtain ⟨u, rfl, rx⟩ := vals1 r
  obtain rfl : u = .ref a := rx
  obtain ⟨ho, hz2, its, rv, hob⟩ := I.hok a _ hf
  have ei := refs_at rv
  subst ei
  obtain ⟨o', ho', hcl, n, hdt⟩ := hob
  rw [ho] at ho'
  cases ho'
  obtain ⟨ws, prs, rel, l1, l2, hw⟩ := pairs_w I hp
  have okL : PlainSeq "tuple" s.heap a (ps.map Value.ref).toArray ∧ PairItems s.heap (ps.map Value.ref).toArray (fun j => ps.getD j 0) ws := by
    refine ⟨⟨o, n, ho, hcl, hd, hdt⟩, by simp [l2], fun j k v hj => ?_⟩
    obtain ⟨⟨T, g1, g2⟩, _⟩ := hw j k v hj
    have : ps.getD j 0 = T := by simp [List.getD, g1]
    show (ps.map Value.ref).toArray[j]? = some (Value.ref (ps.getD j 0)) ∧ PairAt s.heap (ps.getD j 0) k v
    rw [this]
    exact ⟨by simp [g1], g2⟩
  refine PySem.call_dict_pairs (knd := mixKind X.prog X.w) (kvs := prs) (PairArg.tuple a (ps.map Value.ref).toArray (fun j => ps.getD j 0) ws) (I.ok.hd hc) okL ⟨by rw [l1, l2], fun i k v hr => ?_⟩ (by rw [l2, ← SZ_eq]; exact hz) fun h' tk hd' hk => ?_
  · obtain ⟨_, n, g1, g2⟩ := hw i k v hr
    exact ⟨n, g1, g2⟩
  · have hm : (s.heap.objs.size == sysModules) = false := beq_eq_false_iff_ne.mpr (Nat.ne_of_gt I.big)
    have hlen : (mergeK [] kvs).length ≤ sizeLine := by
      refine Nat.le_trans (length_mergeK kvs []) ?_
      rw [List.length_nil, Nat.zero_add, rel.length, l1, ← SZ_eq]
      exact hz
    exact ⟨.ref s.heap.objs.size, upd H s.heap.objs.size (.dK (mergeK [] kvs)), I.laid (t' := tk) (fun b o hb => hk b o (by simp) hb) (Nat.le_refl _) (show ObjOk X.prog X.w _ _ _ (.dK (mergeK [] kvs)) from ⟨hlen, hm, merged [] prs, KV.merge rel .nil, hd'⟩), rfl, q _ (I.hok.fresh (Nat.le_refl _))⟩
/-- a tuple made of a list: its very object is known -/
theorem call_ptup : CallR X (.type "tuple") (fun xs H Q => ∃ p ys, xs = [.ref p] ∧ SqL X.K H p ys ∧ ys.length ≤ SZ ∧ ∀ l o, H l = none → o.dict = none → Q (.ref l) (upd H l (.frz o (.tup ys)))) := by
  intro pins s σ H xs us Q I r ⟨p, ys, e, hq, hz, q⟩
  subst e
  obtain ⟨u, rfl, rx⟩ := vals1 r
  cases rx
  obtain ⟨its, rv, pl, hz2⟩ := I.list hq
  have hlen := rv.length
  refine call_tuple_list pl.isList (fun h' kp => ?_) (by rw [List.size_toArray, ← hlen]; exact hz2)
  have I1 : Inv X pins σ H { s with heap := h' } := I.kept (t' := s.toks) kp
  have new : (h'.push { cls := .type "tuple", data := .seq its.toArray }).get? h'.objs.size = some { cls := .type "tuple", data := .seq its.toArray } := Heap.get?_push_size _ rfl
  exact ⟨.ref h'.objs.size, _, I1.laid (o := .frz { cls := .type "tuple", data := .seq its.toArray } (.tup ys)) (t' := s.toks) (fun b o e => Heap.get?_push_of_some _ e) (Nat.le_refl _) ⟨new, hz2, its, rv, IsTup.new _ _⟩, rfl, q _ _ (I1.hok.fresh (Nat.le_refl _)) rfl⟩
theorem do_dictL (px : PrX X) (hc : X.calm = true) (hu : X.A.units + 120 < cLine) {t : Bool} {f : B1} {x : Str} {a : Expr} {p pos} {g : EnvD → Res D} (hf : f = cond t .dictT .dictS) (hg : Gl X x) (hm : X.mg x = none) (hv : bootBuiltins x = some (.type "dict")) (ha : PE X a (tE X.K RX W g))
    (hn : x ≠ "__name__") (hdb : (x == ("__debug__" : Str)) = false) (hs : starEach [a] X.env = (false, eval a X.env) :: starEach [] X.env) : PE X (.Call (.Name x p) [a] [] pos) (tO X.K RX W fun ρ => do
      let x ← g ρ
      b1D f x) := by
  have fin : ∀ {A : List Addr} {H H1 : Hp} {pl : List (D × D)} {Q : VK} {σ : L2.St}, Same H H1 → Out RX W (relOw X.K A H) (.ok (.dic t (mergeD pl).1 (mergeD pl).2)) σ H1 Q → ∀ (q : Addr) (ob : HO), H1 q = none → Own X.K (upd H1 q ob) (hid A H1) q (.dic t (mergeD pl).1 (mergeD pl).2) → Q (.ref q) (upd H1 q ob) := by
    intro A H H1 pl Q σ e1 h q ob hq ow
    exact h _ _ (same_upd hq) ⟨q, rfl, e1.free hq, ow.up (Sm.refl _) ((hid_new (.of hq)).trans (hid_up (same_upd hq)))⟩
  cases t with
  | true =>
    have hf : f = .dictT := hf
    subst hf
    refine PEimp (pe_callTy (call_dictT px hc hu) hg hm hv (pa_cons ha pa_nil hs) hn hdb hs rfl) fun σ H Q ⟨A, ρ, r, h⟩ => ⟨A, ρ, r, h.bind fun d v H1 _ e1 q1 h1 => ?_⟩
    cases q1 with
    | @lst q vs ds hp hz hr =>
      obtain ⟨ps, h2, h1⟩ := optR_out h1
      obtain ⟨ok, h1⟩ := Out.must h1
      exact ⟨hid A H1, q, vs, ps, hid_same A H1, rfl, SqL.of (hid_same A H1 _ _ hp), hz, pl_of hr h2, fun p hp => List.all_eq_true.mp ok p hp, fun p ob hn ow => fin e1 h1 p ob hn ow⟩
    | _ => exact h1.elim
  | false =>
    have hf : f = .dictS := hf
    subst hf
    refine PEimp (pe_callTy (CallR.or (call_dictP hc) (call_dictPt hc)) hg hm hv (pa_cons ha pa_nil hs) hn hdb hs rfl) fun σ H Q ⟨A, ρ, r, h⟩ => ⟨A, ρ, r, h.bind fun d v H1 _ e1 q1 h1 => ?_⟩
    cases q1 with
    | @lst q vs ds hp hz hr =>
      obtain ⟨ps, h2, h1⟩ := optR_out h1
      obtain ⟨ok, h1⟩ := Out.must h1
      obtain ⟨bs, kvs, g1, g0, g2, g3⟩ := pl_K (pl_of hr h2) (hid_sm A H1) fun p hp => List.all_eq_true.mp ok p hp
      obtain ⟨k1, k2⟩ := g3 [] [] [] rfl .nil
      refine .inl ⟨q, bs, kvs, rfl, by rw [← g1]; exact SqL.of (hid_same A H1 _ _ hp), g2, fun p hn => fin e1 h1 p _ hn (.dicS upd_same ?_ k1 k2)⟩
      have := length_mergeK kvs []
      rw [List.length_nil, g0] at this
      omega
    | @ptp q o vs ds hp hd hz hr =>
      obtain ⟨ps, h2, h1⟩ := optR_out h1
      obtain ⟨ok, h1⟩ := Out.must h1
      obtain ⟨bs, kvs, g1, g0, g2, g3⟩ := pl_K (pl_of hr h2) (hid_sm A H1) fun p hp => List.all_eq_true.mp ok p hp
      obtain ⟨k1, k2⟩ := g3 [] [] [] rfl .nil
      have hbl : bs.length = vs.length := by rw [g1, List.length_map]
      refine .inr ⟨q, o, bs, kvs, rfl, by rw [← g1]; exact hid_same A H1 _ _ hp, hd, by omega, g2, fun p hn => fin e1 h1 p _ hn (.dicS upd_same ?_ k1 k2)⟩
      have := length_mergeK kvs []
      rw [List.length_nil, g0] at this
      omega
    | _ => exact h1.elim
end
end Snd
/-! t[::-1] of a tuple -/
namespace RevT
open PySem PySem.Calls PyProof.Rows PySem.Spec HT
section
variable {prog : Program} {w : World} {A : Around} {E : Value → Shared → Prop} {s : Shared}
theorem places_rev (n : Nat) : Builtin.Slice.slicePlaces ((n : Int) - 1) (-1) (-1) = n := by
  unfold Builtin.Slice.slicePlaces
  have h1 : ¬ ((-1 : Int) > 0) := by omega
  simp only [h1, if_false]
  by_cases h : n = 0
  · subst h
    rfl
  · have h2 : ((n : Int) - 1) > -1 := by omega
    simp only [h2, if_true]
    have : (n : Int) - 1 - -1 - 1 = (n : Int) - 1 := by omega
    rw [this, show (- -1 : Int) = 1 from rfl, Int.ediv_one]
    omega
theorem applied_rev {sl : Addr} {vs : Value} {n : Nat} {Q : Int × Int × Nat → Shared → Prop} (hs : s.heap.IsSliceOf sl .none .none vs) (ps : IsPart vs (some (-1)))
    (h : Q ((n : Int) - 1, -1, n) s) : wpAny (model prog w) A (Builtin.Slice.sliceApplied (.ref sl) (pure (n : Int))) Q E s := by
  obtain ⟨os, hos, hcs, hds⟩ := id hs
  unfold Builtin.Slice.sliceApplied Builtin.Slice.sliceFields
  refine wpAny_bind (wpAny_bind (wpAny_field hos hds (x := .none) rfl (wpAny_bind (wpAny_field hos hds (x := .none) rfl (wpAny_bind (wpAny_field hos hds (x := vs) rfl (wpAny_pure ?_)))))))
  refine wpAny_bind (slicePart_ ps ?_)
  show wpAny _ _ (if ((-1 : Int) == 0) = true then _ else _) _ _ s
  rw [if_neg (by decide)]
  refine wpAny_bind (slicePart_none (wpAny_bind (slicePart_none (wpAny_bind (wpAny_pure ?_)))))
  show wpAny _ _ (match Builtin.Slice.sliceAdjust none none (-1) (n : Int) with | (lo, hi) => pure (lo, (-1 : Int), Builtin.Slice.slicePlaces lo hi (-1))) _ _ s
  have e : Builtin.Slice.sliceAdjust none none (-1) (n : Int) = ((n : Int) - 1, -1) := rfl
  rw [e]
  show wpAny _ _ (pure ((n : Int) - 1, (-1 : Int), Builtin.Slice.slicePlaces ((n : Int) - 1) (-1) (-1))) _ _ s
  rw [places_rev]
  exact wpAny_pure h
theorem pick_rev (xs : Array Value) : ((List.range xs.size).filterMap fun (m : Nat) => xs[(((xs.size : Int) - 1) + (m : Int) * -1).toNat]?).toArray = xs.toList.reverse.toArray := by
  congr 1
  apply List.ext_getElem?
  intro i
  have key : ∀ (l : List Nat), (∀ m ∈ l, m < xs.size) → l.filterMap (fun (m : Nat) => xs[(((xs.size : Int) - 1) + (m : Int) * -1).toNat]?) = l.map fun m => xs.toList.reverse[m]?.getD .none := by
    intro l
    induction l with
    | nil => intro _; rfl
    | cons m l ih =>
      intro h
      have hm := h m List.mem_cons_self
      have e1 : (((xs.size : Int) - 1) + (m : Int) * -1).toNat = xs.size - 1 - m := by omega
      have hlt : xs.size - 1 - m < xs.size := by omega
      have e2 : xs[xs.size - 1 - m]? = some xs[xs.size - 1 - m] := Array.getElem?_eq_getElem hlt
      rw [List.filterMap_cons, e1, e2, List.map_cons, ih fun y hy => h y (List.mem_cons_of_mem _ hy)]
      congr 1
      rw [List.getElem?_reverse (by rw [Array.length_toList]; exact hm), Array.length_toList, Array.getElem?_toList, e2]
      rfl
  rw [key _ fun m hm => List.mem_range.mp hm, List.getElem?_map]
  by_cases h : i < xs.size
  · rw [List.getElem?_range h]
    have h2 : i < xs.toList.reverse.length := by rw [List.length_reverse, Array.length_toList]; exact h
    show some (xs.toList.reverse[i]?.getD Value.none) = _
    rw [List.getElem?_eq_getElem h2]
    rfl
  · rw [List.getElem?_eq_none (by rw [List.length_range]; omega), List.getElem?_eq_none (by rw [List.length_reverse, Array.length_toList]; omega)]
    rfl
theorem getItem_tuple_rev {t sl : Addr} {items : Array Value} {vs : Value} {Q : Value → Shared → Prop} (ht : IsTup s.heap t items) (hs : s.heap.IsSliceOf sl .none .none vs) (ps : IsPart vs (some (-1)))
    (h : Q (.ref s.heap.objs.size) { s with heap := s.heap.push { cls := .type "tuple", data := .seq items.toList.reverse.toArray } })
    (hsz : items.size ≤ sizeLine) : wpAny (model prog w) A (getItem (.ref t) (.ref sl)) Q E s := by
  have htake : sizeOk (.seq items.toList.reverse.toArray) := by
    show items.toList.reverse.toArray.size ≤ sizeLine
    rw [List.size_toArray, List.length_reverse, Array.length_toList]
    exact hsz
  obtain ⟨os, hos, hcs, hds⟩ := id hs
  have hTs : s.TypeIs (.ref sl) "slice" := ⟨os, hos, hcs⟩
  unfold getItem
  try with_reducible refine wpAny_holding ?_
  first | refine wpAny_bind (wpAny_pure ?_) | skip
  refine wpAny_bind (wpAny_sequenceKey ht.typeIs (by decide) ?_)
  refine wpAny_bind (wpAny_callSpecial?_slot (name := Str.ofString "__getitem__") ht.typeIs PyProof.Rows.slot_tuple_getitem
    (wpAny_call_entry PyProof.Rows.slot_tuple_getitem ht.typeIs entry_tuple_getitem ?_ (args_tuple_getitem _ _)))
  show wpAny _ _ (Builtin.Tuple.tupleItemsOf (.ref t) >>= _) _ _ s
  refine wpAny_bind (tupleItemsOf_ ht ?_)
  refine wpAny_bind (wpAny_typeOf hTs ?_)
  rw [if_pos (by decide)]
  refine wpAny_bind (applied_rev hs ps ?_)
  have hno : ¬ ((((items.size : Int) - 1) == 0 && (-1 : Int) == 1 && items.size == items.size) = true) := by
    intro q
    rw [Bool.and_eq_true, Bool.and_eq_true] at q
    exact absurd q.1.2 (by decide)
  show wpAny _ _ (if (((items.size : Int) - 1) == 0 && (-1 : Int) == 1 && items.size == items.size) = true then _ else _) _ _ s
  rw [if_neg hno, pick_rev]
  first
    | exact wpAny_bind (m := Builtin.Tuple.tupleExact _) (wpAny_newObj_type (wpAny_pure ⟨_, rfl, wpAny_pure h⟩) htake)
    | exact wpAny_bind (m := Builtin.Tuple.tupleExact _) (wpAny_newObj_type (wpAny_bind (wpAny_pure (wpAny_pure ⟨_, rfl, wpAny_pure h⟩))) htake)
    | exact wpAny_bind (wpAny_bind (m := Builtin.Tuple.tupleExact _) (wpAny_newObj_type (wpAny_pure (wpAny_pure ⟨_, rfl, wpAny_pure h⟩)) htake))
    | exact wpAny_bind (wpAny_bind (m := Builtin.Tuple.tupleExact _) (wpAny_newObj_type (wpAny_pure ⟨_, rfl, wpAny_pure h⟩) htake))
end
end RevT
namespace Snd
open PySem PySem.Spec PyProof.Rows L2 Dt
variable [PrW]
section
variable {X : Cx} {RX : RXT} {W : WX} {K : PySem.W.Frag}
def tRevT (K : PySem.W.Frag) (te : TE) : TE := fun σ H Q => te σ H fun x H1 => ∃ a xs, x = .ref a ∧ SqT K H1 a xs ∧ ∀ p, H1 p = none → Q (.ref p) (upd H1 p (.tup xs.reverse))
theorem pe_revT {e : Expr} {te : TE} {k : Nat} {p1 p2 p3 pos : Pos} (he : PE X e te) : PE X (.Subscript e (.Slice none none (some (.UnaryOp .USub (.Constant (.int 1) k p1) p2)) p3) pos) (tRevT X.K te) := by
  refine ⟨fun pins s σ H Q I h => ?_⟩
  refine Subscript_ (thn (he.run pins s σ H _ I h) fun v s1 ⟨x, H1, I1, r1, q1⟩ => ?_)
  obtain ⟨a, xs, ex, hx, q⟩ := q1
  subst ex
  cases r1
  have hst : PO X (some (.UnaryOp .USub (.Constant (.int 1) k p1) p2)) (tPart (tUn (rU fun i => .int (-i)) (tC (.int 1)))) := po_some (pe_un un_neg pe_int)
  refine wpAny_Slice (thn (po_none.run pins s1 σ H1 (fun o H2 => o = none ∧ H2 = H1) I1 ⟨rfl, rfl⟩) fun vl s2 ⟨l, H2, I2, pl, el, e2⟩ => ?_)
  subst el e2
  refine thn (po_none.run pins s2 σ H2 (fun o H3 => o = none ∧ H3 = H2) I2 ⟨rfl, rfl⟩) fun vu s3 ⟨u, H3, I3, pu, eu, e3⟩ => ?_
  subst eu e3
  refine thn (hst.run pins s3 σ H3 (fun o H4 => o = some (-1) ∧ H4 = H3) I3 ⟨1, rfl, -1, rfl, rfl, rfl⟩) fun vs s4 ⟨o, H4, I4, ps, eo, e4⟩ => ?_
  subst eo e4
  have I5 : Inv X pins σ H4 { s4 with heap := s4.heap.push { cls := .type "slice", data := .fields #[vl, vu, vs] } } := I4.kept (t' := s4.toks) fun b ob q => Heap.get?_push_of_some _ q
  obtain ⟨its, r, ht, hz⟩ := I5.tuple hx
  have hlen := r.length
  have evl : vl = .none := by cases pl; rfl
  have evu : vu = .none := by cases pu; rfl
  subst evl evu
  show wpAny (model X.prog X.w) X.A (subscriptTail e (.Slice none none (some (.UnaryOp .USub (.Constant (.int 1) k p1) p2)) p3) (.ref a) (.ref s4.heap.objs.size)) (EP X pins σ Q) X.xe { s4 with heap := s4.heap.push { cls := .type "slice", data := .fields #[.none, .none, vs] } }
  refine tail_any (ops := [.ref a, .ref s4.heap.objs.size]) ht.typeIs (PyProof.Rows.slot_tuple_getitem.lookup) ?_ (by with_unfolding_all rfl)
  refine RevT.getItem_tuple_rev ht (Heap.IsSliceOf.new _ .none .none vs) ps ?_ (by rw [List.size_toArray]; omega)
  refine ⟨.ref _, _, I5.laid (t' := s4.toks) (o := .tup xs.reverse) (fun b ob q => Heap.get?_push_of_some _ q) (Nat.le_refl _) ?_, rfl, q _ (I5.hok.fresh (Nat.le_refl _))⟩
  exact ⟨by rw [List.length_reverse]; exact hz, _, r.reverse, IsTup.new _ _⟩
theorem Reps.reverse {H : Hp} : ∀ {vs : List V} {ds : List D}, Reps K H vs ds → Reps K H vs.reverse ds.reverse
  | _, _, .nil => .nil
  | _, _, .cons a t => by
    rw [List.reverse_cons, List.reverse_cons]
    exact (Reps.reverse t).app (.cons a .nil)
theorem de_rev {a : Expr} {k : Nat} {p1 p2 p3 pos : Pos} {g : EnvD → Res D} (ha : PE X a (tE X.K RX W g)) : PE X (.Subscript a (.Slice none none (some (.UnaryOp .USub (.Constant (.int 1) k p1) p2)) p3) pos) (tE X.K RX W fun ρ => do
      let x ← g ρ
      b1D .rev x) := by
  refine PEimp (pe_revT ha) fun σ H Q ⟨A, ρ, r, q⟩ => ⟨A, ρ, r, q.bind fun d v H1 _ e1 q1 h1 => ?_⟩
  have live := r.live.up e1
  cases q1 with
  | @tup p vs ds hp hz hr =>
    obtain ⟨_, h1⟩ := Out.must h1
    refine ⟨p, vs, rfl, hidSq hp, fun z hz' => ?_⟩
    have e : Same H1 (upd H1 z (.tup vs.reverse)) := same_upd hz'
    refine h1.ok e (.tup (vs := vs.reverse) (.inl (.inl ?_)) (by rw [List.length_reverse]; exact hz) (Reps.up (hid_up e) _ _ hr.reverse))
    rw [hid_out (live.new hz'), upd_same]
  | _ => exact h1.elim
/-! ### sorted(d.items()) -/
theorem items_laid2 {pins : List (Addr × Obj)} {σ : L2.St} {H : Hp} {s : Shared} {h' : Heap} {tk : Nat} {kvs : List (Key × V)} {vs : List (Key × Value)} {as : List Addr} (I : Inv X pins σ H s) (kv : KV kvs vs)
    (hk : ∀ b o, s.heap.get? b = some o → h'.get? b = some o) (hl : as.length = vs.length) (hG : PySem.W.KdxG (mixKind X.prog X.w) vs s.heap.objs.size h' as) :
    ∃ H' : Hp, Same H H' ∧ (∀ t ∈ as, H t = none) ∧ Paired (fun (t : Addr) (q : Key × V) => H' t = some (.tup [kV q.1, q.2])) as kvs ∧ Inv X pins σ H' { s with heap := h', toks := tk } := by
  have lk : kvs.length = vs.length := Paired.length kv
  have nd : as.Nodup := List.Pairwise.imp (fun {a b} (h : a < b) => Nat.ne_of_lt h) hG.rise
  have new : ∀ t ∈ as, H t = none := fun t ht => I.hok.fresh (Nat.le_of_lt (hG.above t ht))
  have atP := LiI.putT_at as kvs H (by omega) nd
  have off : ∀ b, b ∉ as → LiI.putT H as kvs b = H b := fun b h1 => LiI.putT_off as kvs _ h1
  have low : ∀ b o, s.heap.get? b = some o → b ∉ as := fun b o e z => absurd (Heap.lt_size e) (Nat.not_lt.mpr (Nat.le_of_lt (hG.above b z)))
  have kp : ∀ b u, H b = some u → (LiI.putT H as kvs) b = some u := fun b u e => by
    rw [off b (fun z => by rw [new b z] at e; cases e)]
    exact e
  refine ⟨LiI.putT H as kvs, .of kp, new, atP, ?_⟩
  refine I.call' (ch := []) rfl ⟨fun b o q _ _ _ => hk b o q, fun b o q _ _ _ => ⟨o.slots, hk b o q⟩, fun b o q n _ => ?_, fun b o q _ => ⟨o, hk b o q⟩, fun b xs q => kp b _ q, fun b o u q => kp b _ q, fun b ps q => ⟨#[], by rw [kp b _ q]; simp⟩⟩ (fun b u q => ?_) I.bare fun b z => by simp at z
  · rw [off b (low b o q)]
    exact n
  · by_cases hb : b ∈ as
    · obtain ⟨j, pk, e1, e2, e3⟩ := LiI.paired_ix atP hb
      rw [e3] at q
      cases q
      obtain ⟨key, k, x, f1, f2, f3⟩ := hG.pairs j b e1
      obtain ⟨qv, g1, g2, g3⟩ := LiI.paired_get kv e2
      rw [f1] at g1
      cases g1
      have rk : RelV (kV pk.1) key := by
        rw [g2]
        exact relV_key (show keyIs k key = true from f2)
      exact ⟨by show 2 ≤ sizeLine; decide, [key, x], .cons rk (.cons g3 .nil), ⟨_, f3, rfl, _, rfl⟩⟩
    · rw [off b hb] at q
      exact (I.hok b u q).stay (fun d v _ y => hk d v y) (fun d y => kp d _ y) fun d xs y => kp d _ y
theorem key_rep {H : Hp} {d : D} {k : Key} (h : textK d = some k) : Rep K H (kV k) d := by
  cases d <;> first | (cases h; done) | (cases h; exact .int _) | skip
  obtain ⟨h1, rfl⟩ := textK_str h
  exact .str _ h1
theorem pair_reps {H : Hp} : ∀ {as : List Addr} {kvs : List (Key × V)} {ks ds : List D}, Paired (fun (t : Addr) (q : Key × V) => H t = some (.tup [kV q.1, q.2])) as kvs → ks.map textK = kvs.map (fun x => some x.1) → Reps K H (kvs.map (·.2)) ds →
    Reps K H (as.map V.ref) (List.zipWith (fun k v => D.tup [k, v]) ks ds)
  | _, _, [], ds, .nil, _, r => by
    cases r
    exact .nil
  | _, _, _ :: _, ds, .nil, h, _ => by cases h
  | _, _, [], ds, .cons _ _, h, _ => by cases h
  | a :: as, q :: kvs, k :: ks, ds, .cons a1 t, h, r => by
    simp only [List.map_cons, List.cons.injEq] at h
    cases r with
    | cons r1 rt =>
      have hz0 : 2 ≤ SZ := by decide
      exact .cons (.tup (.inl (.inl a1)) hz0 (.cons (key_rep h.1) (.cons r1 .nil))) (pair_reps t h.2 rt)
theorem paired_hid {A : List Addr} {H : Hp} {as : List Addr} {kvs : List (Key × V)} (p : Paired (fun (t : Addr) (q : Key × V) => H t = some (.tup [kV q.1, q.2])) as kvs) (n : ∀ t ∈ as, t ∉ A) : Paired (fun (t : Addr) (q : Key × V) => hid A H t = some (.tup [kV q.1, q.2])) as kvs := by
  induction p with
  | nil => exact .nil
  | cons a _ ih => exact .cons (by rw [hid_out (n _ List.mem_cons_self)]; exact a) (ih fun t ht => n t (List.mem_cons_of_mem _ ht))
theorem de_sitems {a : Expr} {p apos cpos pos : Pos} {g : EnvD → Res D} (hc : X.calm = true) (hu : X.A.units + 120 < cLine) (hg : Gl X "sorted") (hm : X.mg "sorted" = none) (ha : PE X a (tE X.K RX W g))
    (hbase : attributeBase a "items" X.env (eval a X.env) = eval a X.env) (hline : (apos.endLine == cpos.line) = true) : PE X (.Call (.Name "sorted" p) [.Call (.Attribute a "items" apos) [] [] cpos] [] pos) (tE X.K RX W fun ρ => do
      let x ← g ρ
      b1D .sitems x) := by
  refine ⟨fun pins s σ H Q I ⟨A, ρ, r, h⟩ => Call_ (ld_blt I hg hm (show bootBuiltins (Str.ofString "sorted") = some (.builtin "sorted") by decide +kernel) (PyProof.Rows.callWith_builtin1 (PyProof.Rows.args_cons ?_ rfl) rfl rfl))⟩
  refine wpAny_Call_method (T := "dict") (id := "dict.items") hbase rfl hline PySem.F.plainAttrs_dict PySem.F.slot_dict_items PySem.F.type_dict_items (thn (ha.run pins s σ H (fun v H1 => ∃ d, Same H H1 ∧ Rep X.K (hid A H1) v d ∧ Out RX W (relE X.K A) (b1D .sitems d) σ H1 Q) I ⟨A, ρ, r, h.bind fun d v H1 _ e1 q1 h1 => ⟨d, e1, q1, h1⟩⟩) fun u s1 ⟨x, H1, I1, rx, d, e1, q1, h1⟩ => ?_)
  cases q1 with
  | @dicS pa kvs ks ds g1 g2 g3 g4 =>
    obtain rfl : u = Value.ref pa := rx
    obtain ⟨ok, h1⟩ := Out.must h1
    have hd : H1 pa = some (.dK kvs) := hid_same A H1 _ _ g1
    obtain ⟨hz, hs0, vs, kv, hdo⟩ := I1.hok pa _ hd
    obtain ⟨ep, hat⟩ := hdo.dictAt
    have lk : kvs.length = vs.length := Paired.length kv
    have I2 : Inv X pins σ H1 { s1 with heap := s1.heap.push { cls := .type "dict_items", data := .fields #[.ref pa] } } := I1.kept (t' := s1.toks) fun b ob q => Heap.get?_push_of_some _ q
    refine ⟨hdo.typeIs, hdo.mapOf.noDict, ?_⟩
    show wpAny _ _ (callWith cpos (.builtin "dict.items") [.ref pa] [] []) _ X.xe s1
    refine method_meetsIn PySem.F.slot_dict_items PySem.F.entry_dict_items rfl (PySem.evalArgs_none ⟨rfl, hdo.typeIs, PySem.F.args_dict_items_1 _, _, meets_dict_items (mixKind X.prog X.w) pa hs0, ⟨vs, hdo⟩, ?_⟩)
    refine PyProof.Rows.args_nil ?_
    refine Calls.call_function_entry PyProof.Rows.kind_sorted PyProof.Rows.plain_sorted PyProof.Rows.entry_sorted (PyProof.Rows.args_sorted1 _) ?_
    unfold Builtin.«sorted»
    refine wpAny_bind (m := checkCount "sorted" 1 1 _) (wpAny_pure ?_)
    refine wpAny_bind (PySem.W.kdx_collect (A := X.A.in1) (knd := mixKind X.prog X.w) (kvs := vs) (ep := ep) (I1.ok.hd hc) ⟨_, Heap.get?_push_size _ rfl, rfl, rfl⟩ (hat.push _) (by omega) fun h' tk as hk hl hG => ?_)
    obtain ⟨H', k1, k3, k6, J⟩ := items_laid2 (tk := tk) I2 kv hk hl hG
    have live := (r.live.up e1).up k1
    have hlen : as.length = kvs.length := by omega
    have pr : Reps X.K (hid A H') (as.map V.ref) (List.zipWith (fun k v => D.tup [k, v]) ks ds) := pair_reps (paired_hid k6 fun t ht => (r.live.up e1).new (k3 t ht)) g3 (Reps.up (hid_up k1) _ _ g4)
    refine wpAny_bind (wpAny_newList ?_ (by rw [List.length_map, hlen]; omega))
    refine wpAny_bind (wpAny_holding (list_sortD (A := X.A.in1) (show X.A.units + 1 + 110 < cLine by omega) J (xs := as.map V.ref) (LiI.vals_refs as) (Reps.up (hid_same A H') _ _ pr) ok (by rw [List.length_map, hlen]; exact g2) fun s' I4 hn => ?_))
    have hl3 : (srt (as.map V.ref) (List.zipWith (fun k v => D.tup [k, v]) ks ds)).length ≤ SZ := by
      rw [srt_len pr.length, List.length_map, hlen]
      exact g2
    refine wpAny_pure ⟨_, rfl, .ref _, _, I4, rfl, ?_⟩
    have e9 : Same H' (upd H' h'.objs.size (.lst (srt (as.map V.ref) (List.zipWith (fun k v => D.tup [k, v]) ks ds)))) := same_upd hn
    exact h1.ok (k1.trans e9) (.lst (by rw [hid_out (live.new hn), upd_same]) hl3 (Reps.up (hid_up e9) _ _ (sort_reps pr)))
  | dicT _ _ _ _ _ _ _ _ => exact h1.elim
  | _ => exact h1.elim
/-! ### ord, zfill -/
theorem cd_ord : CalD K RX W (b1D .ord) (fun xs H Q => ∃ x : Str, xs = [.str x] ∧ x.length = 1 ∧ Q (.int (x.cps.getD 0 0 : Nat)) H) := by
  intro A σ H x a Q live hx h
  cases hx with
  | str s hs =>
    match s, hs, h with
    | [c], hs, h => exact ⟨tS [c], rfl, rfl, h.ok (Same.refl H) (.int _)⟩
    | [], _, h => exact h.elim
    | _ :: _ :: _, _, h => exact h.elim
  | _ => exact h.elim
theorem zf_eq {s : List Nat} {i : Int} (h : (s.all fun c => decide (48 ≤ c) && decide (c ≤ 57)) = true) (h0 : 0 ≤ i) : Txt.zfill (tS s) i = tS (List.replicate (i.toNat - s.length) 48 ++ s) := by
  unfold Txt.zfill
  have hl : (tS s).length = s.length := tS_len s
  by_cases g : i ≤ (tS s).length
  · rw [if_pos g]
    have : i.toNat - s.length = 0 := by rw [hl] at g; omega
    rw [this]
    rfl
  · rw [if_neg g, hl]
    unfold zfilled
    have hd : ∀ c, (tS s).cps[0]? = some c → 48 ≤ c ∧ c ≤ 57 := fun c hc => by
      have : c ∈ s := by
        have h2 : s[0]? = some c := by simpa [tS] using hc
        exact List.mem_of_getElem? h2
      have := List.all_eq_true.mp h c this
      simpa using this
    have pd : Builtin.Str.padded (tS s) (i.toNat - s.length) 0 48 = tS (List.replicate (i.toNat - s.length) 48 ++ s) := by
      simp [Builtin.Str.padded, tS]
    split
    · rename_i e
      have := hd _ e
      omega
    · rename_i e
      have := hd _ e
      omega
    · exact pd
theorem de_zfill {o a : Expr} {apos pos} {go ga : EnvD → Res D} (ho : PE X o (tE X.K RX W go)) (ha : PE X a (tE X.K RX W ga)) (hs : starEach [a] X.env = (false, eval a X.env) :: starEach [] X.env)
    (hb : attributeBase o "zfill" X.env (eval o X.env) = eval o X.env) (hl : (apos.endLine == pos.line) = true) (hf : ((backTo pos (starEach [a] X.env)).all (fun x => !x.1) && (backToKw pos (keywordEach [] X.env)).all (fun x => x.1.isSome)
      && decide (([a] : List Expr).length + ([] : List Keyword).length + (if ([] : List Keyword).isEmpty then 0 else 1) < 30)) = true) :
    PE X (.Call (.Attribute o "zfill" apos) [a] [] pos) (tE X.K RX W fun ρ => do
      let x ← go ρ
      must (b2R .zfill x) do
        let y ← ga ρ
        b2D .zfill x y) := by
  refine PEimp (pe_bm F.plainAttrs_str PySem.F.slot_str_zfill PySem.F.type_str_zfill mt_zfill ho (pa_cons ha pa_nil hs) hb hf hl hs rfl) fun σ H Q ⟨A, ρ, r, h⟩ => ?_
  refine ⟨A, ρ, r, h.bind fun d v H1 _ e1 q1 h1 => ?_⟩
  obtain ⟨c, h1⟩ := Out.must h1
  cases q1 with
  | str s hs =>
    refine ⟨rfl, A, ρ, r.up e1, h1.bind fun d2 v2 H2 _ e2 q2 h2 => ?_⟩
    cases q2 with
    | int i =>
      obtain ⟨c2, h2⟩ := Out.must h2
      simp only [Bool.and_eq_true, decide_eq_true_eq] at c2
      obtain ⟨⟨⟨c3, c4⟩, c5⟩, c6⟩ := c2
      have c3 : (s.all fun c => decide (48 ≤ c) && decide (c ≤ 57)) = true := c3
      refine ⟨tS s, i, rfl, rfl, ?_, ?_⟩
      · have f1 : ¬ (i < -(2 ^ 63 : Int)) := by omega
        have f2 : ¬ (i ≥ 2 ^ 63) := by omega
        unfold PadOk fitsSsize Builtin.Str.tooLong
        simp [f1, f2]
        have : sizeLine = 16777216 := sizeLine_eq
        omega
      · rw [zf_eq c3 c5]
        refine h2.ok (Same.refl _) (.str _ ⟨?_, strOk_iff.mpr fun c hc => ?_⟩)
        · rw [List.length_append, List.length_replicate]
          have hz : SZ = 16777216 := rfl
          omega
        · rcases List.mem_append.mp hc with hc | hc
          · rw [List.eq_of_mem_replicate hc]
            decide
          · have := List.all_eq_true.mp c3 c hc
            simp at this
            omega
    | _ => exact h2.elim
  | _ => exact nomatch c
end
end Snd
namespace SndE
open PySem PySem.Spec PyProof.Rows
open AutoSeq1 (wpAny_loadPart')
/-- enumerate of one thing, whatever begins -/
theorem enumNew1 {v : Value} {o : Obj} {G : Heap → Prop} (B : Begins v o G) :
    Meets (Builtin.«enumerate.__new__» ⟨[.type "enumerate", v], []⟩) (fun _ R s => G s.heap ∧
      R (.ok (.ret (.ref (s.heap.push o).objs.size)))
        { s with heap := (s.heap.push o).push { cls := .type "enumerate", data := .fields #[.none, .bool false, .ref s.heap.objs.size, rawInt 0, .none, .none] } }) :=
  .of_wp fun prog w A R s h => by
    obtain ⟨hp, gn, dr, tk, os⟩ := s
    obtain ⟨hG, h⟩ := h
    have hsub := sub_enumerate
    have beg : ∀ {A' : Around} {E : Value → Shared → Prop} {Q : Value → Shared → Prop}, Q (.ref hp.objs.size) ⟨hp.push o, gn, dr, tk, os⟩ → wpAny (model prog w) A' (pyIter v) Q E ⟨hp, gn, dr, tk, os⟩ :=
      fun q => B.iter prog w _ _ ⟨hp, gn, dr, tk, os⟩ _ hG q
    wp_walk using beg
    refine wpAny_stack_any fun st => wpAny_pure ?_
    split
    · rename_i c _ _ _ _ _
      cases (c == Value.type "enumerate")
      · (wp_walk using beg); exact ⟨_, rfl, h⟩
      · (wp_walk using beg); exact ⟨_, rfl, h⟩
    · (wp_walk using beg); exact ⟨_, rfl, h⟩
theorem enumCall {prog : Program} {w : World} {A : Around} {E : Value → Shared → Prop} {s : Shared} {v : Value} {o : Obj} {G : Heap → Prop} {Q : Value → Shared → Prop} (B : Begins v o G) (hG : G s.heap)
    (h : ∀ h', IsEnum h' (s.heap.objs.size + 1) s.heap.objs.size 0 .none → h'.get? s.heap.objs.size = some o → (∀ b o, s.heap.get? b = some o → h'.get? b = some o) → Q (.ref (s.heap.objs.size + 1)) { s with heap := h' }) :
    wpAny (model prog w) A (call (.type "enumerate") [v]) Q E s := by
  refine callType_new F.called_enumerate (by decide) (F.typeCall_enumerate_1 _) (F.newCall_enumerate_1 _) (fun obj => F.args_object_init_2 obj _) F.entry_enumerate_new (enumNew1 B) ⟨hG, ?_⟩
  have hz : (s.heap.push o).objs.size = s.heap.objs.size + 1 := Heap.size_push ..
  show _ ∧ _
  rw [hz]
  have he : ((s.heap.push o).push { cls := .type "enumerate", data := .fields #[.none, .bool false, .ref s.heap.objs.size, rawInt 0, .none, .none] }).get? (s.heap.objs.size + 1) = some { cls := .type "enumerate", data := .fields #[.none, .bool false, .ref s.heap.objs.size, rawInt 0, .none, .none] } := by
    rw [← hz]
    exact Heap.get?_push_size _ rfl
  exact ⟨⟨_, he, rfl⟩, h _ he (Heap.get?_push_of_some _ (Heap.get?_push_size _ B.free)) fun b ob x => Heap.get?_push_of_some _ (Heap.get?_push_of_some _ x)⟩
end SndE

namespace Snd
open PySem PySem.Spec PyProof.Rows L2 Dt
variable [PrW]

/-! ### what is walked -/
/-- what stays through a walk: a thing as it is told, or what is true of one object -/
inductive Src where
  | rep (v : V) (d : D)
  | fix (a : Addr) (φ : Heap → Prop)
def Src.ok (K : PySem.W.Frag) (H : Hp) : Src → Prop
  | .rep v d => Rep K H v d
  | .fix a φ => H a = some (.ext φ)
theorem Src.up {K : PySem.W.Frag} {H H' : Hp} (e : Sm H H') : ∀ {p : Src}, p.ok K H → p.ok K H'
  | .rep _ _, h => Rep.up e _ _ h
  | .fix _ _, h => e.ext h
structure ItOk (K : PySem.W.Frag) (J : It) (srcs : List Src) (xs : List D) : Prop where
  goes : ∀ (A : List Addr) (H : Hp) (i : Nat), Live A H → (∀ p ∈ srcs, p.ok K (hid A H)) → i < xs.length → J.go i H
  stops : ∀ (A : List Addr) (H : Hp), Live A H → (∀ p ∈ srcs, p.ok K (hid A H)) → J.stop xs.length H
  yields : ∀ (A : List Addr) (H : Hp) (i : Nat) (v : V) (H' : Hp), Live A H → (∀ p ∈ srcs, p.ok K (hid A H)) → i < xs.length → J.yld i H v H' → ∃ d, xs[i]? = some d ∧ Same H H' ∧ Rep K (hid A H') v d
abbrev relI (K : PySem.W.Frag) (A : List Addr) : Hp → It → List D → Prop := fun H J xs => xs.length ≤ SZ ∧ ∃ srcs : List Src, (∀ p ∈ srcs, p.ok K (hid A H)) ∧ ItOk K J srcs xs
def tI (K : PySem.W.Frag) (RX : RXT) (W : WX) (g : EnvD → Res (List D)) : TI := fun σ H R => ∃ A ρ, RE K A H σ ρ ∧ Out RX W (relI K A) (g ρ) σ H R
section
variable {X : Cx} {RX : RXT} {W : WX} {K : PySem.W.Frag} {tg : Expr}
theorem PIimp {e : Expr} {t t' : TI} (h : PI X tg e t) (k : ∀ σ H Q, t' σ H Q → t σ H Q) : PI X tg e t' := ⟨fun pins s σ H Q I q => h.run pins s σ H Q I (k σ H Q q)⟩

/-! ### a list, a tuple, a text as it stands -/
theorem repL {H : Hp} {a : Addr} {vs : List V} {ds : List D} {A : List Addr} (h : Rep K (hid A H) (.ref a) (.lst ds)) : ∃ vs, hid A H a = some (.lst vs) ∧ vs.length ≤ SZ ∧ Reps K (hid A H) vs ds := by
  cases h with | lst h1 h2 h3 => exact ⟨_, h1, h2, h3⟩
theorem itOk_list {a : Addr} {ds : List D} : ItOk K (Itl K a) [.rep (.ref a) (.lst ds)] ds where
  goes := fun A H i live hs hi => by
    have h : Rep K (hid A H) (.ref a) (.lst ds) := hs _ List.mem_cons_self
    cases h with
    | @lst _ vs _ h1 h2 h3 =>
      have hl : i < vs.length := by rw [h3.length]; exact hi
      exact ⟨vs, vs[i], SqL.of (hid_same A H _ _ h1), by simp [hl]⟩
  stops := fun A H live hs => by
    have h : Rep K (hid A H) (.ref a) (.lst ds) := hs _ List.mem_cons_self
    cases h with
    | @lst _ vs _ h1 h2 h3 => exact ⟨vs, SqL.of (hid_same A H _ _ h1), by rw [h3.length]; exact Nat.le_refl _⟩
  yields := fun A H i v H' live hs hi y => by
    have h : Rep K (hid A H) (.ref a) (.lst ds) := hs _ List.mem_cons_self
    cases h with
    | @lst _ vs _ h1 h2 h3 =>
      obtain ⟨e, y⟩ := y
      subst e
      have hd : ds[i]? = some ds[i] := by simp [hi]
      obtain ⟨w, q1, q2⟩ := h3.get hd
      have e := y vs (SqL.of (hid_same A H' _ _ h1))
      rw [q1] at e
      cases e
      exact ⟨_, hd, Same.refl _, q2⟩
theorem itOk_tup {a : Addr} {ds : List D} : ItOk K (Itt K a) [.rep (.ref a) (.tup ds)] ds where
  goes := fun A H i live hs hi => by
    have h : Rep K (hid A H) (.ref a) (.tup ds) := hs _ List.mem_cons_self
    cases h with
    | @tup _ vs _ h1 h2 h3 =>
      have hl : i < vs.length := by rw [h3.length]; exact hi
      exact ⟨vs, vs[i], hidSq h1, by simp [hl]⟩
  stops := fun A H live hs => by
    have h : Rep K (hid A H) (.ref a) (.tup ds) := hs _ List.mem_cons_self
    cases h with
    | @tup _ vs _ h1 h2 h3 => exact ⟨vs, hidSq h1, by rw [h3.length]; exact Nat.le_refl _⟩
  yields := fun A H i v H' live hs hi y => by
    have h : Rep K (hid A H) (.ref a) (.tup ds) := hs _ List.mem_cons_self
    cases h with
    | @tup _ vs _ h1 h2 h3 =>
      obtain ⟨e, y⟩ := y
      subst e
      have hd : ds[i]? = some ds[i] := by simp [hi]
      obtain ⟨w, q1, q2⟩ := h3.get hd
      have e := y vs (hidSq h1)
      rw [q1] at e
      cases e
      exact ⟨_, hd, Same.refl _, q2⟩
theorem itOk_str {s : List Nat} (hs : okT s) : ItOk K (Its (tS s)) [] (s.map fun c => D.str [c]) where
  goes := fun A H i live _ hi => by
    rw [List.length_map] at hi
    show i < (tS s).cps.size
    simpa [tS] using hi
  stops := fun A H live _ => by
    show (tS s).cps.size ≤ _
    simp [tS]
  yields := fun A H i v H' live _ hi y => by
    rw [List.length_map] at hi
    obtain ⟨e, c, h1, h2⟩ := y
    subst e h2
    have h1 : s[i]? = some c := by simpa [tS] using h1
    refine ⟨.str [c], by rw [List.getElem?_map, h1]; rfl, Same.refl _, ?_⟩
    exact .str [c] ⟨by show 1 ≤ SZ; decide, strOk_iff.mpr fun z hz => by
      have : z = c := by simpa using hz
      rw [this]; exact strOk_iff.mp hs.2 c (List.mem_of_getElem? h1)⟩
/-- the keys of the dict at a, in their order -/
def ItkN (a : Addr) (o : Obj) (xs : List (NestedKey × Addr × Value)) : It :=
  ⟨fun i H => H a = some (.ext (dicF a o xs)) ∧ i < xs.length, fun i H x H' => H' = H ∧ ∃ e, xs[i]? = some e ∧ x = .ref e.2.1, fun i H => H a = some (.ext (dicF a o xs)) ∧ xs.length ≤ i⟩
theorem dicF_at {P : Program} {w : World} {H : Hp} {h : Heap} {a : Addr} {o : Obj} {xs : List (NestedKey × Addr × Value)} (k : ObjOk P w H h a (.ext (dicF a o xs))) :
    h.get? a = some o ∧ o.ExactDict ∧ ∃ es ep, o.data = .dict es ep ∧ es.size = xs.length ∧ ∀ (i : Nat) (e : NestedKey × Addr × Value), xs[i]? = some e → ∃ en : DictEntry, es[i]? = some en ∧ en.key = .ref e.2.1 := by
  obtain ⟨⟨es, ep, g1, g2, g3, g4, g5⟩, _⟩ := k
  refine ⟨g1, g2, es, ep, g3, size_of_entries g4, fun i e he => ?_⟩
  have := entry_at g4 i
  rw [he] at this
  exact ⟨_, this, rfl⟩
theorem turn_keysN {P : Program} {w : World} {K : PySem.W.Frag} {tg : Expr} {a it : Addr} {o : Obj} {xs : List (NestedKey × Addr × Value)} {es : Array DictEntry} {ep : Nat} (hod : o.data = .dict es ep) : Turn P w K tg (ItkN a o xs) [it] it (fun i h => h.IsKeyIter it a i xs.length ep) where
  mem := by simp
  obj := fun i h st b hb => by
    have e : b = it := by simpa using hb
    subst e
    obtain ⟨oi, e, c, dd⟩ := st
    exact ⟨oi, e, fun v z => by rw [dd] at z; cases z⟩
  keep := fun i h h' st k => st.at fun oi e => k it (by simp) oi e
  item := by
    intro X hP hw hK hc i pins s σ H E I hf st hg
    subst hP hw hK
    obtain ⟨hd, hi⟩ := hg
    obtain ⟨f0, f1, f2, f3, f4, f5⟩ := hf it (by simp)
    obtain ⟨hgd, hx, es', ep', hdt, hsz, ent⟩ := dicF_at (I.hok a _ hd)
    obtain ⟨rfl, rfl⟩ := dict_ep hod hdt
    obtain ⟨e, he⟩ : ∃ p, xs[i]? = some p := ⟨xs[i], List.getElem?_eq_getElem hi⟩
    obtain ⟨en, hen, hkey⟩ := ent i e he
    refine next_key_item st hgd hdt hsz hen fun h' st' sb => ?_
    have I1 : Inv X pins σ H { s with heap := h' } := I.turned (t' := s.toks) (fun b ob hb e => (sb.2 b hb).trans e) f0 f1 f3 f4 f5
    obtain ⟨oi, e', c, dd⟩ := id st'
    exact ⟨en.key, rfl, go_of (s := { s with heap := h' }) e' c dd (by decide) ⟨.ref e.2.1, H, I1, hkey, ⟨rfl, e, he, rfl⟩, st', fun b hb => (hf b hb).1⟩⟩
  done := by
    intro X hP hw hK hc i pins s σ H E I hf st hg
    subst hP hw hK
    obtain ⟨hd, hi⟩ := hg
    obtain ⟨f0, f1, f2, f3, f4, f5⟩ := hf it (by simp)
    obtain ⟨hgd, hx, es', ep', hdt, hsz, ent⟩ := dicF_at (I.hok a _ hd)
    obtain ⟨rfl, rfl⟩ := dict_ep hod hdt
    exact next_key_end (I.ok.hd hc) st hgd hdt hsz hi fun h' eb => ⟨rfl, I.turned (t' := s.toks) (fun b ob hb e => eb b ob hb e) f0 f1 f3 f4 f5⟩
  self := fun A i s Q E st h => by
    refine wpAny_pyIter_slot st.typeIs F.slot_dict_keyiterator_iter (wpAny_call_entry F.slot_dict_keyiterator_iter st.typeIs F.entry_dict_keyiterator_iter ?_ (F.args_dict_keyiterator_iter_1 _))
    show wpAny _ _ (ret (.ref it)) _ _ s
    exact wpAny_pure ⟨_, rfl, "dict_keyiterator", _, st.typeIs, F.slot_dict_keyiterator_next.lookup, h⟩
theorem reps_zip {α : Type} {K : PySem.W.Frag} {H : Hp} {f : α → V} : ∀ {xs : List α} {ks : List D}, Reps K H (xs.map f) ks → ∀ p ∈ xs.zip ks, Rep K H (f p.1) p.2
  | [], _, _, p, hp => by simp at hp
  | x :: xs, _, h, p, hp => by
    rw [List.map_cons] at h
    cases h with
    | cons r t =>
      rw [List.zip_cons_cons] at hp
      rcases List.mem_cons.mp hp with rfl | hp
      · exact r
      · exact reps_zip t p hp
abbrev srcN (a : Addr) (o : Obj) (xs : List (NestedKey × Addr × Value)) (ks : List D) : List Src := .fix a (dicF a o xs) :: (xs.zip ks).map fun p => .rep (.ref p.1.2.1) p.2
theorem itOk_dic {a : Addr} {o : Obj} {xs : List (NestedKey × Addr × Value)} {ks : List D} (hl : xs.length = ks.length) : ItOk K (ItkN a o xs) (srcN a o xs ks) ks where
  goes := fun A H i live hs hi => by
    have h : hid A H a = some (.ext (dicF a o xs)) := hs _ List.mem_cons_self
    exact ⟨hid_same A H _ _ h, by omega⟩
  stops := fun A H live hs => by
    have h : hid A H a = some (.ext (dicF a o xs)) := hs _ List.mem_cons_self
    exact ⟨hid_same A H _ _ h, by omega⟩
  yields := fun A H i v H' live hs hi y => by
    obtain ⟨rfl, e, he, rfl⟩ := y
    have hd : ks[i]? = some ks[i] := by simp [hi]
    have hm : (e, ks[i]) ∈ xs.zip ks := List.mem_of_getElem? (List.getElem?_zip_eq_some.mpr ⟨he, hd⟩)
    exact ⟨_, hd, Same.refl _, hs _ (List.mem_cons_of_mem _ (List.mem_map.mpr ⟨_, hm, rfl⟩))⟩
theorem di_val {e : Expr} {g : EnvD → Res D} (h : PE X e (tE X.K RX W g)) : PI X tg e (tI X.K RX W fun ρ => do
    let x ← g ρ
    itD x) := by
  refine ⟨fun pins s σ H R I ⟨A, ρ, r, q⟩ => ?_⟩
  have q : Out RX W (relI X.K A) (g ρ >>= itD) σ H R := q
  refine thn (h.run pins s σ H (fun v H1 => ∃ d, Rep X.K (hid A H1) v d ∧ Out RX W (relI X.K A) (itD d) σ H1 R) I ⟨A, ρ, r, q.bind fun d v H1 _ e1 q1 h1 => ⟨d, q1, h1⟩⟩) fun u s1 ⟨v, H1, I1, r1, d, q1, h1⟩ => ?_
  cases q1 with
  | @tup a vs ds hp hz hr =>
    cases r1
    obtain ⟨its, rv, p, _⟩ := I1.tuple (hidSq hp)
    refine wpAny_pyIter_tuple (show s1.heap.IsTuple a its.toArray from p) ?_
    refine pi_one (tk := s1.toks) I1 _ (turn_tuple a _) ⟨_, Heap.get?_push_size _ rfl, rfl, rfl⟩ ?_
    exact h1.ok (Same.refl _) ⟨by rw [← hr.length]; exact hz, _, fun p hp' => by
      have e : p = .rep (.ref a) (.tup ds) := by simpa using hp'
      rw [e]; exact .tup hp hz hr, itOk_tup⟩
  | @ptp a o vs ds hf hd hz hr =>
    cases r1
    have hp : SqT X.K (hid A H1) a vs := .inl (.inr ⟨o, hf⟩)
    obtain ⟨its, rv, p, _⟩ := I1.tuple (hidSq hp)
    refine wpAny_pyIter_tuple (show s1.heap.IsTuple a its.toArray from p) ?_
    refine pi_one (tk := s1.toks) I1 _ (turn_tuple a _) ⟨_, Heap.get?_push_size _ rfl, rfl, rfl⟩ ?_
    exact h1.ok (Same.refl _) ⟨by rw [← hr.length]; exact hz, _, fun p hp' => by
      have e : p = .rep (.ref a) (.tup ds) := by simpa using hp'
      rw [e]; exact .tup hp hz hr, itOk_tup⟩
  | @lst a vs ds hp hz hr =>
    cases r1
    obtain ⟨its, rv, p, _⟩ := I1.list (SqL.of (hid_same A H1 _ _ hp))
    refine wpAny_pyIter_list p.isList ?_
    refine pi_one (tk := s1.toks) I1 _ (turn_list a _) ⟨_, Heap.get?_push_size _ rfl, rfl, rfl⟩ ?_
    exact h1.ok (Same.refl _) ⟨by rw [← hr.length]; exact hz, _, fun p hp' => by
      have e : p = .rep (.ref a) (.lst ds) := by simpa using hp'
      rw [e]; exact .lst hp hz hr, itOk_list⟩
  | @dicT a o xs vs ks ds hp hm hz hk hdp hv hkr hr =>
    cases r1
    have hp1 := hid_same A H1 _ _ hp
    obtain ⟨hgd, hx, es, ep, hdt, hsz, ent⟩ := dicF_at (I1.hok a _ hp1)
    have hl : xs.length = ks.length := by
      have := congrArg List.length hk
      simpa using this.symm
    refine iter_keys hm hgd hx hdt (pi_one (tk := s1.toks) I1 _ (turn_keysN hdt) ⟨_, Heap.get?_push_size _ rfl, rfl, by rw [hsz] <;> rfl⟩ ?_)
    exact h1.ok (Same.refl _) ⟨by rw [← hl]; exact hz, _, fun p hp' => by
      rcases List.mem_cons.mp hp' with rfl | hp'
      · exact hp
      · obtain ⟨q, hq, rfl⟩ := List.mem_map.mp hp'
        exact reps_zip (f := fun x : NestedKey × Addr × Value => V.ref x.2.1) hkr q hq, itOk_dic hl⟩
  | str x hs =>
    obtain ⟨t, rfl⟩ := r1
    have fin : R (Its (tS x)) H1 := h1.ok (Same.refl _) ⟨by rw [List.length_map]; exact hs.1, [], fun p hp' => (nomatch hp'), itOk_str hs⟩
    cases ha : (tS x).cps.all (· < 128)
    · exact wpAny_pyIter_wide ha (pi_one (tk := s1.toks) I1 _ (turn_str _ (tS x) t "str_iterator" (.inr rfl)) ⟨_, Heap.get?_push_size _ rfl, rfl, rfl⟩ fin)
    · exact wpAny_pyIter_ascii ha (pi_one (tk := s1.toks) I1 _ (turn_str _ (tS x) t "str_ascii_iterator" (.inl rfl)) ⟨_, Heap.get?_push_size _ rfl, rfl, rfl⟩ fin)
  | _ => exact h1.elim

/-! ### ranges -/
theorem itOk_range {lo hi : Int} : ItOk K (Itr lo (hi - lo).toNat) [] (rangeD lo hi) where
  goes := fun A H i live _ hi' => by
    show i < (hi - lo).toNat
    simpa [rangeD] using hi'
  stops := fun A H live _ => by
    show _ ≤ _
    simp [rangeD]
  yields := fun A H i v H' live _ hi' y => by
    obtain ⟨e, h2⟩ := y
    subst e h2
    have h3 : i < (hi - lo).toNat := by simpa [rangeD] using hi'
    exact ⟨.int (lo + (i : Nat)), by simp [rangeD, h3], Same.refl _, .int _⟩
theorem rangeD_len (lo hi : Int) : (rangeD lo hi).length = (hi - lo).toNat := by simp [rangeD]
theorem di_rng1 {a : Expr} {p pos} {g : EnvD → Res D} (hg : Gl X "range") (hm : X.mg "range" = none) (ha : PE X a (tE X.K RX W g)) (hs : starEach [a] X.env = [(false, eval a X.env)]) :
    PI X tg (.Call (.Name "range" p) [a] [] pos) (tI X.K RX W fun ρ => do
      let x ← g ρ
      let n ← intD x
      must (decide (-1000000000 ≤ n) && decide (n ≤ SZ)) (.ok (rangeD 0 n))) := by
  refine PIimp (pi_range1 hg hm (pa_cons ha pa_nil (by rw [hs]; rfl)) hs) fun σ H R ⟨A, ρ, r, h⟩ => ?_
  refine ⟨A, ρ, r, h.bind fun d v H1 _ e1 q1 h1 => ?_⟩
  cases q1 with
  | int n =>
    obtain ⟨c, h1⟩ := Out.must (show Out RX W (relI X.K A) (must (decide (-1000000000 ≤ n) && decide (n ≤ SZ)) (.ok (rangeD 0 n))) σ H1 R from h1)
    simp only [Bool.and_eq_true, decide_eq_true_eq] at c
    have hz : (SZ : Int) = 16777216 := rfl
    refine ⟨n, rfl, by omega, by omega, ?_⟩
    have := h1.ok (Same.refl _) (b := Itr 0 (n - 0).toNat) ⟨by rw [rangeD_len]; omega, [], fun p hp' => (nomatch hp'), itOk_range⟩
    rwa [show n - 0 = n by omega] at this
  | _ => exact h1.elim
theorem di_rng2 {a b : Expr} {p pos} {ga gb : EnvD → Res D} (hg : Gl X "range") (hm : X.mg "range" = none) (ha : PE X a (tE X.K RX W ga)) (hb : PE X b (tE X.K RX W gb)) (hs : starEach [a, b] X.env = [(false, eval a X.env), (false, eval b X.env)]) (hs2 : starEach [b] X.env = [(false, eval b X.env)]) :
    PI X tg (.Call (.Name "range" p) [a, b] [] pos) (tI X.K RX W fun ρ => do
      let x ← ga ρ
      let lo ← intD x
      let y ← gb ρ
      let n ← intD y
      must (decide (-1000000000 ≤ lo) && decide (lo ≤ 1000000000) && decide (-1000000000 ≤ n) && decide (n ≤ 1000000000) && decide ((n - lo).toNat ≤ SZ)) (.ok (rangeD lo n))) := by
  refine PIimp (pi_range2 hg hm (pa_cons ha (pa_cons hb pa_nil (by rw [hs2]; rfl)) (by rw [hs, hs2])) hs hs2) fun σ H R ⟨A, ρ, r, h⟩ => ?_
  refine ⟨A, ρ, r, h.bind fun d v H1 _ e1 q1 h1 => ?_⟩
  cases q1 with
  | int lo =>
    have h1 : Out RX W (relI X.K A) (gb ρ >>= fun y => intD y >>= fun n => must (decide (-1000000000 ≤ lo) && decide (lo ≤ 1000000000) && decide (-1000000000 ≤ n) && decide (n ≤ 1000000000) && decide ((n - lo).toNat ≤ SZ)) (.ok (rangeD lo n))) σ H1 R := h1
    refine ⟨A, ρ, r.up e1, h1.bind fun d2 v2 H2 _ e2 q2 h2 => ?_⟩
    cases q2 with
    | int n =>
      obtain ⟨c, h2⟩ := Out.must (show Out RX W (relI X.K A) (must (decide (-1000000000 ≤ lo) && decide (lo ≤ 1000000000) && decide (-1000000000 ≤ n) && decide (n ≤ 1000000000) && decide ((n - lo).toNat ≤ SZ)) (.ok (rangeD lo n))) σ H2 R from h2)
      simp only [Bool.and_eq_true, decide_eq_true_eq] at c
      exact ⟨lo, n, rfl, ⟨by omega, by omega, by omega, by omega⟩, h2.ok (Same.refl _) ⟨by rw [rangeD_len]; omega, [], fun p hp' => (nomatch hp'), itOk_range⟩⟩
    | _ => exact h2.elim
  | _ => 
    refine ⟨A, ρ, r.up e1, ?_⟩
    exact h1.elim
end

/-! ### enumerate and zip over lists and tuples, in any mix -/
def SqX (k : Bool) (K : PySem.W.Frag) (H : Hp) (a : Addr) (xs : List V) : Prop := match k with
  | true => SqL K H a xs
  | false => SqT K H a xs
def IsItX (k : Bool) (h : Heap) (it a : Addr) (i : Nat) : Prop := match k with
  | true => h.IsListIter it a i
  | false => h.IsTupleIter it a i
def IsX (k : Bool) (h : Heap) (a : Addr) (items : Array Value) : Prop := match k with
  | true => h.IsList a items
  | false => h.IsTuple a items
def objX (k : Bool) (a : Addr) : Obj := match k with
  | true => { cls := .type "list_iterator", data := .fields #[.ref a, .int 0 0] }
  | false => { cls := .type "tuple_iterator", data := .fields #[.ref a, .int 0 0] }
theorem IsItX.there {k : Bool} {h : Heap} {it a : Addr} {i : Nat} (x : IsItX k h it a i) : ∃ o, h.get? it = some o ∧ ∀ v, o.data ≠ .cell v := by
  cases k
  · obtain ⟨o, e, _, d⟩ := (show h.IsTupleIter it a i from x); exact ⟨o, e, fun v q => by rw [d] at q; cases q⟩
  · obtain ⟨o, e, _, d⟩ := (show h.IsListIter it a i from x); exact ⟨o, e, fun v q => by rw [d] at q; cases q⟩
theorem IsItX.at' {k : Bool} {h h' : Heap} {it a : Addr} {i : Nat} (x : IsItX k h it a i) (e : ∀ o, h.get? it = some o → h'.get? it = some o) : IsItX k h' it a i := by
  cases k
  · exact (show h.IsTupleIter it a i from x).at e
  · exact (show h.IsListIter it a i from x).at e
theorem drawsX {prog : Program} {w : World} {A : Around} (hh : A.handled = none) (k : Bool) (it a : Addr) (hne : a ≠ it) (items : Array Value) :
    Draws prog w A it [it, a] items.size (fun i v => items[i]? = some v) (fun i h => IsItX k h it a i ∧ IsX k h a items) := by
  cases k
  · exact Draws.tuple hh it a hne items
  · exact Draws.list hh it a hne items
theorem beginsX (k : Bool) (a : Addr) (items : Array Value) : Begins (.ref a) (objX k a) fun h => IsX k h a items := by
  cases k
  · exact begins_tuple a items
  · exact begins_list a items
theorem itX_new {k : Bool} {h : Heap} {it a : Addr} (e : h.get? it = some (objX k a)) : IsItX k h it a 0 := by
  cases k
  · exact ⟨_, e, rfl, rfl⟩
  · exact ⟨_, e, rfl, rfl⟩
section
variable {X : Cx} {pins : List (Addr × Obj)} {σ : L2.St} {H : Hp} {s : Shared}
theorem sqX_items {k : Bool} {a : Addr} {xs : List V} (I : Inv X pins σ H s) (h : SqX k X.K H a xs) : ∃ its : List Value, Vals xs its ∧ IsX k s.heap a its.toArray ∧ a < s.heap.objs.size := by
  cases k
  · obtain ⟨its, r, p, _⟩ := I.tuple (show SqT X.K H a xs from h)
    obtain ⟨o, e, _⟩ := id p
    exact ⟨its, r, p, Heap.lt_size e⟩
  · obtain ⟨its, r, p, _⟩ := I.list (show SqL X.K H a xs from h)
    exact ⟨its, r, p.isList, p.lt⟩
theorem sqX_inj {k : Bool} {a : Addr} {xs ys : List V} (I : Inv X pins σ H s) (h : SqX k X.K H a xs) (h' : SqX k X.K H a ys) : xs = ys := by
  cases k
  · exact I.tuple_inj h h'
  · exact I.list_inj h h'
/-- a thing that stands in H is no iterator of ours -/
theorem sqX_ne {k : Bool} {a b : Addr} {xs : List V} (I : Inv X pins σ H s) (h : SqX k X.K H a xs) (hb : H b = none) (hs : ∀ o, s.heap.get? b = some o → o.cls ≠ .type "list" ∧ o.cls ≠ .type "tuple") : a ≠ b := by
  intro e
  subst e
  obtain ⟨its, _, p, _⟩ := sqX_items I h
  cases k
  · obtain ⟨o, ho, hc, _⟩ := (show s.heap.IsTuple a its.toArray from p)
    exact (hs o ho).2 hc
  · obtain ⟨o, ho, hc, _⟩ := (show s.heap.IsList a its.toArray from p)
    exact (hs o ho).1 hc
end
theorem IsItX.notSeq {k : Bool} {h : Heap} {it a : Addr} {i : Nat} (x : IsItX k h it a i) : ∀ o, h.get? it = some o → o.cls ≠ .type "list" ∧ o.cls ≠ .type "tuple" := by
  intro o e
  cases k
  · obtain ⟨o', e', c, _⟩ := (show h.IsTupleIter it a i from x)
    rw [e] at e'; cases e'; rw [c]; exact ⟨by decide, by decide⟩
  · obtain ⟨o', e', c, _⟩ := (show h.IsListIter it a i from x)
    rw [e] at e'; cases e'; rw [c]; exact ⟨by decide, by decide⟩
/-- the source at a, each item in a new pair behind its number -/
def IteX (k : Bool) (K : PySem.W.Frag) (a : Addr) : It :=
  ⟨fun i H => ∃ (xs : List V) (x : V), SqX k K H a xs ∧ xs[i]? = some x,
    fun i H v H' => ∃ T x, v = .ref T ∧ H T = none ∧ H' = upd H T (.tup [.int (i : Nat), x]) ∧ ∀ xs, SqX k K H a xs → xs[i]? = some x,
    fun i H => ∃ xs : List V, SqX k K H a xs ∧ xs.length = i⟩
theorem turn_enumX {P : Program} {w : World} {K : PySem.W.Frag} {elts : List Expr} {kk : Nat} {tpos : Pos} (k : Bool) (a e it : Addr) :
    Turn P w K (.Tuple elts kk tpos) (IteX k K a) [e, it] e (fun i h => (∃ old, IsEnum h e it ((i : Nat) : Int) old) ∧ IsItX k h it a i ∧ e ≠ it) where
  mem := by simp
  obj := fun i h st b hb => by
    obtain ⟨⟨old, he⟩, hi, _⟩ := st
    have e' : b = e ∨ b = it := by simpa using hb
    rcases e' with z | z
    · rw [z]; exact ⟨_, he, fun v q => nomatch q⟩
    · rw [z]; exact hi.there
  keep := fun i h h' st kp => let ⟨⟨old, he⟩, hi, hne⟩ := st; ⟨⟨old, kp e (by simp) _ he⟩, hi.at' fun o q => kp it (by simp) o q, hne⟩
  item := by
    intro X hP hw hK hc i pins s σ H E I hf st hg
    subst hP hw hK
    obtain ⟨⟨old, he⟩, hit, hne⟩ := st
    obtain ⟨xs, x, hq, hx⟩ := hg
    obtain ⟨its, rv, p, hlt⟩ := sqX_items I hq
    obtain ⟨u, hu, ru⟩ := rv.get hx
    have hil : i < its.toArray.size := by
      have := (List.getElem?_eq_some_iff.mp hu).1
      simpa using this
    have ha : a ≠ it := sqX_ne I hq (hf it (by simp)).1 hit.notSeq
    have hae : a ≠ e := sqX_ne I hq (hf e (by simp)).1 fun o q => by
      rw [he] at q; cases q; exact ⟨(by decide : Value.type "enumerate" ≠ .type "list"), (by decide : Value.type "enumerate" ≠ .type "tuple")⟩
    have hh : X.A.in1.handled = none := I.ok.hd hc
    have G := GoesN.enumFrom (prog := X.prog) (w := X.w) (A := X.A) (elts := elts) (x1 := kk) (pos := tpos) 0 (drawsX hh k it a ha its.toArray) e hne (by simp [hne, Ne.symm hae]) (by simp)
    refine wpAny_mono (G.goes i s (fun v s2 => ∃ x H', Inv X pins σ H' s2 ∧ RelV x v ∧ (IteX k X.K a).yld i H x H' ∧ ((∃ old, IsEnum s2.heap e it ((i + 1 : Nat) : Int) old) ∧ IsItX k s2.heap it a (i + 1) ∧ e ≠ it) ∧ ∀ b ∈ [e, it], H' b = none) E hil
      ⟨⟨old, by rw [Int.zero_add]; exact he⟩, hit, p⟩ fun v h' tk hY hSt hk htk => ?_) (fun r s1 h => h) fun _ _ z => z
    obtain ⟨T, t, y, rfl, hT, hy, hTup⟩ := hY
    have e0 : its.toArray[i]? = some u := by simpa using hu
    rw [e0] at hy
    cases hy
    have new : ObjOk X.prog X.w (upd H T (.tup [.int (i : Nat), x])) h' T (.tup [.int (i : Nat), x]) :=
      ⟨by show 2 ≤ sizeLine; decide, [.int (0 + (i : Int)) t, u], .cons ⟨t, by rw [Int.zero_add]⟩ (.cons ru .nil), hTup⟩
    have I1 : Inv X pins σ (upd H T (.tup [.int (i : Nat), x])) { s with heap := h', toks := tk } := I.turnedNew (ch := [e, it]) hk hf hT new
    refine ⟨.ref T, _, I1, rfl, ⟨T, x, rfl, I.hok.fresh hT, rfl, fun ys hy => by rw [sqX_inj I hy hq]; exact hx⟩, ⟨?_, hSt.2.1, hne⟩, fun b hb => ?_⟩
    · obtain ⟨old', h1⟩ := hSt.1
      exact ⟨old', by rw [Int.zero_add] at h1; exact h1⟩
    · have hb' : b < s.heap.objs.size := by
        have e' : b = e ∨ b = it := by simpa using hb
        rcases e' with z | z
        · rw [z]; exact Heap.lt_size he
        · rw [z]; obtain ⟨o, q, _⟩ := hit.there; exact Heap.lt_size q
      rw [upd_ne (Nat.ne_of_lt (Nat.lt_of_lt_of_le hb' hT))]
      exact (hf b hb).1
  done := by
    intro X hP hw hK hc i pins s σ H E I hf st hg
    subst hP hw hK
    obtain ⟨⟨old, he⟩, hit, hne⟩ := st
    obtain ⟨xs, hq, hx⟩ := hg
    obtain ⟨its, rv, p, hlt⟩ := sqX_items I hq
    have ha : a ≠ it := sqX_ne I hq (hf it (by simp)).1 hit.notSeq
    have hae : a ≠ e := sqX_ne I hq (hf e (by simp)).1 fun o q => by
      rw [he] at q; cases q; exact ⟨(by decide : Value.type "enumerate" ≠ .type "list"), (by decide : Value.type "enumerate" ≠ .type "tuple")⟩
    have hh : X.A.in1.handled = none := I.ok.hd hc
    have hl := rv.length
    have hn : its.toArray.size = i := by rw [List.size_toArray]; omega
    have G := GoesN.enumFrom (prog := X.prog) (w := X.w) (A := X.A) (elts := elts) (x1 := kk) (pos := tpos) 0 (drawsX hh k it a ha its.toArray) e hne (by simp [hne, Ne.symm hae]) (by simp)
    refine G.stops s (fun s1 => Inv X pins σ H s1) E ?_ fun h' tk hk _ => I.turnedL hk hf
    rw [hn]
    exact ⟨⟨old, by rw [Int.zero_add]; exact he⟩, hit, p⟩
  self := fun A i s Q E st h => let ⟨⟨_, he⟩, _⟩ := st; wpAny_pyIter_enum he h
theorem sqX_of {k : Bool} {K : PySem.W.Frag} {A : List Addr} {H : Hp} {a : Addr} {ds : List D} (h : Rep K (hid A H) (.ref a) (cond k (.lst ds) (.tup ds))) : ∃ vs, SqX k K H a vs ∧ vs.length ≤ SZ ∧ Reps K (hid A H) vs ds := by
  cases k
  · cases h with | tup h1 h2 h3 => exact ⟨_, hidSq h1, h2, h3⟩
  · cases h with | lst h1 h2 h3 => exact ⟨_, SqL.of (hid_same A H _ _ h1), h2, h3⟩
theorem enumD_get : ∀ (ds : List D) (n i : Nat), (enumD n ds)[i]? = (ds[i]?).map fun d => D.tup [.int ((n + i : Nat) : Int), d]
  | [], _, _ => by simp [enumD]
  | d :: ds, n, 0 => by simp [enumD]
  | d :: ds, n, i + 1 => by
    simp only [enumD, List.getElem?_cons_succ]
    rw [enumD_get ds (n + 1) i, show n + 1 + i = n + (i + 1) by omega]
theorem enumD_len : ∀ (ds : List D) (n : Nat), (enumD n ds).length = ds.length
  | [], _ => rfl
  | d :: ds, n => by simp [enumD, enumD_len ds]
/-- a new pair -/
theorem rep_pair {K : PySem.W.Frag} {A : List Addr} {H : Hp} {T : Addr} {x y : V} {a b : D} (live : Live A H) (hT : H T = none) (hx : Rep K (hid A H) x a) (hy : Rep K (hid A H) y b) :
    Same H (upd H T (.tup [x, y])) ∧ Rep K (hid A (upd H T (.tup [x, y]))) (.ref T) (.tup [a, b]) := by
  have e : Same H (upd H T (.tup [x, y])) := same_upd hT
  refine ⟨e, .tup (.inl (.inl ?_)) (by show 2 ≤ SZ; decide) (.cons (Rep.up (hid_up e) _ _ hx) (.cons (Rep.up (hid_up e) _ _ hy) .nil))⟩
  rw [hid_out (live.new hT), upd_same]
theorem itOk_enumX {K : PySem.W.Frag} {k : Bool} {a : Addr} {ds : List D} : ItOk K (IteX k K a) [.rep (.ref a) (cond k (.lst ds) (.tup ds))] (enumD 0 ds) where
  goes := fun A H i live hs hi => by
    obtain ⟨vs, h1, h2, h3⟩ := sqX_of (hs _ List.mem_cons_self)
    rw [enumD_len] at hi
    have hl : i < vs.length := by rw [h3.length]; exact hi
    exact ⟨vs, vs[i], h1, by simp [hl]⟩
  stops := fun A H live hs => by
    obtain ⟨vs, h1, h2, h3⟩ := sqX_of (hs _ List.mem_cons_self)
    exact ⟨vs, h1, by rw [h3.length, enumD_len]⟩
  yields := fun A H i v H' live hs hi y => by
    obtain ⟨vs, h1, h2, h3⟩ := sqX_of (hs _ List.mem_cons_self)
    rw [enumD_len] at hi
    obtain ⟨T, x, rfl, hT, rfl, hx⟩ := y
    have hd : ds[i]? = some ds[i] := by simp [hi]
    obtain ⟨w, q1, q2⟩ := h3.get hd
    have e := hx vs h1
    rw [q1] at e
    cases e
    obtain ⟨e1, e2⟩ := rep_pair (K := K) live hT (.int (i : Nat)) q2
    exact ⟨_, by rw [enumD_get, hd, Nat.zero_add]; rfl, e1, e2⟩
section
variable {X : Cx} {RX : RXT} {W : WX}
theorem di_enum {a : Expr} {p pos tpos : Pos} {elts : List Expr} {kk : Nat} {g : EnvD → Res D} (hg : Gl X "enumerate") (hm : X.mg "enumerate" = none) (ha : PE X a (tE X.K RX W g)) (hs : starEach [a] X.env = [(false, eval a X.env)]) :
    PI X (.Tuple elts kk tpos) (.Call (.Name "enumerate" p) [a] [] pos) (tI X.K RX W fun ρ => do
      let x ← g ρ
      must (isSeq x) do
        let xs ← itD x
        .ok (enumD 0 xs)) := by
  refine ⟨fun pins s σ H R I ⟨A, ρ, r, q⟩ => ?_⟩
  have q : Out RX W (relI X.K A) (g ρ >>= fun x => must (isSeq x) (itD x >>= fun xs => .ok (enumD 0 xs))) σ H R := q
  have pa : PA X [a] (tCons (tE X.K RX W g) tNil) := pa_cons ha pa_nil (by rw [hs]; rfl)
  refine Call_ (ld_blt I hg hm boot_enumerate (PyProof.Rows.callWith_type1 (thn (pa.run pos pins s σ H (fun vs H1 => ∃ v d, vs = [v] ∧ Rep X.K (hid A H1) v d ∧ Out RX W (relI X.K A) (must (isSeq d) (itD d >>= fun xs => .ok (enumD 0 xs))) σ H1 R) I
    ⟨A, ρ, r, q.bind fun d v H1 _ e1 q1 h1 => ⟨v, d, rfl, q1, h1⟩⟩) fun us s1 ⟨vs, H1, I1, r1, v, d, ev, q1, h1⟩ => ?_) hs rfl))
  subst ev
  obtain ⟨c, h1⟩ := Out.must h1
  have fin : ∀ (k : Bool) (a : Addr) (ds : List D), v = .ref a → d = cond k (.lst ds) (.tup ds) → wpAny (model X.prog X.w) X.A (call (.type "enumerate") us) (fun v s1 => wpAny (model X.prog X.w) X.A (pyIter v) (PIE X pins σ (.Tuple elts kk tpos) R) X.xe s1) X.xe s1 := by
    intro k a ds ev ed
    subst ev ed
    obtain ⟨vs, hq, hz, hr⟩ := sqX_of q1
    obtain ⟨its, rv, p, hlt⟩ := sqX_items I1 hq
    cases r1 with
    | cons r rr =>
      cases rr
      cases r
      refine SndE.enumCall (beginsX k a its.toArray) p fun h' he hit hk => wpAny_pyIter_enum he ?_
      have I2 : Inv X pins σ H1 { s1 with heap := h' } := I1.kept (t' := s1.toks) hk
      refine ⟨s1.heap.objs.size + 1, [s1.heap.objs.size + 1, s1.heap.objs.size], _, _, H1, rfl, I2, turn_enumX k a (s1.heap.objs.size + 1) s1.heap.objs.size, ⟨⟨.none, he⟩, itX_new hit, Nat.succ_ne_self _⟩, fun b hb => ?_, ?_⟩
      · have e' : b = s1.heap.objs.size + 1 ∨ b = s1.heap.objs.size := by simpa using hb
        have hle : s1.heap.objs.size ≤ b := by
          rcases e' with z | z
          · rw [z]; exact Nat.le_add_right _ _
          · rw [z]; exact Nat.le_refl _
        exact I1.fpOk hle (I1.hok.fresh hle)
      · have h1 : Out RX W (relI X.K A) (.ok (enumD 0 ds)) σ H1 R := by cases k <;> exact h1
        refine h1.ok (Same.refl _) ⟨by rw [enumD_len, ← hr.length]; exact hz, _, fun p hp' => ?_, itOk_enumX (k := k)⟩
        have e : p = .rep (.ref a) (cond k (.lst ds) (.tup ds)) := by simpa using hp'
        rw [e]; exact q1
  cases q1 with
  | @tup a vs ds hp hz hr => exact fin false a ds rfl rfl
  | @lst a vs ds hp hz hr => exact fin true a ds rfl rfl
  | _ => cases c
end
end Snd
namespace Snd
open PySem PySem.Spec PyProof.Rows L2 Dt
variable [PrW]

/-- the pair that zip keeps is no thing of ours: it stands at no place of H (a tuple of the written part stands nowhere in H too, but its object is K's) -/
theorem sqX_TO {X : Cx} {pins : List (Addr × Obj)} {σ : L2.St} {H : Hp} {s : Shared} {k : Bool} {a TO : Addr} {xs : List V} (I : Inv X pins σ H s) (h : SqX k X.K H a xs) (hn : H TO = none) (hf : TO ∈ X.ex ∨ X.s_0.heap.objs.size ≤ TO) : a ≠ TO := by
  intro e
  subst e
  have bad : ∀ o, X.K.lookup a = some o → False := fun o ho => by
    have e1 := I.ok.mod.kin a o ho
    have e2 := (I.ok.bs a o e1).1
    rcases hf with z | z
    · exact I.ok.noex a o e1 z
    · exact absurd (Heap.lt_size e2) (Nat.not_lt_of_le z)
  cases k
  · rcases (show SqT X.K H a xs from h) with (q | ⟨o, q⟩) | ⟨o, its, n, q, _⟩
    · rw [hn] at q; cases q
    · rw [hn] at q; cases q
    · exact bad o q
  · rcases (show SqL X.K H a xs from h) with (q | ⟨o, q⟩) | ⟨o, its, n, q, _⟩
    · rw [hn] at q; cases q
    · rw [hn] at q; cases q
    · exact bad o q
/-- the sources at a and b, their items in new pairs -/
def ItzX (k k2 : Bool) (K : PySem.W.Frag) (a b : Addr) : It :=
  ⟨fun i H => ∃ (xs ys : List V) (x y : V), SqX k K H a xs ∧ SqX k2 K H b ys ∧ xs[i]? = some x ∧ ys[i]? = some y,
    fun i H v H' => ∃ T x y, v = .ref T ∧ H T = none ∧ H' = upd H T (.tup [x, y]) ∧ (∀ xs, SqX k K H a xs → xs[i]? = some x) ∧ ∀ ys, SqX k2 K H b ys → ys[i]? = some y,
    fun i H => ∃ xs ys : List V, SqX k K H a xs ∧ SqX k2 K H b ys ∧ min xs.length ys.length = i⟩
/-- the cells of such a zip, and where they lie -/
structure ZX (z TI TO i1 i2 : Addr) : Prop where
  h1 : TI ≠ z
  h2 : TO ≠ z
  h3 : TI ≠ TO
  h4 : TI ≠ i1
  h5 : TI ≠ i2
  h6 : z ≠ i1
  h7 : TO ≠ i1
  h8 : z ≠ i2
  h9 : TO ≠ i2
  h10 : i1 ≠ i2
theorem ZX.sep {z TI TO i1 i2 a b : Addr} (x : ZX z TI TO i1 i2) (hz : a ≠ z) (hT : a ≠ TO) (h1 : a ≠ i2) (hz' : b ≠ z) (hT' : b ≠ TO) (h2 : b ≠ i1) : ZipSep2 z TI TO i1 i2 [i1, a] [i2, b] :=
  { TIz := x.h1, TOz := x.h2, TITO := x.h3, TIi1 := x.h4, mem1 := by simp, zf1 := by simp [x.h6, Ne.symm hz], Tf1 := by simp [x.h7, Ne.symm hT], TIi2 := x.h5, mem2 := by simp,
    zf2 := by simp [x.h8, Ne.symm hz'], Tf2 := by simp [x.h9, Ne.symm hT'], sep1_2 := by simp [x.h10, Ne.symm h2], sep2_1 := by simp [Ne.symm x.h10, Ne.symm h1] }
theorem turn_zipX {P : Program} {w : World} {K : PySem.W.Frag} {elts : List Expr} {kk : Nat} {tpos : Pos} (k k2 : Bool) (a b z TI TO i1 i2 : Addr) (D : ZX z TI TO i1 i2) :
    Turn P w K (.Tuple elts kk tpos) (ItzX k k2 K a b) [z, TI, TO, i1, i2] z (fun i h => IsZip h z TI TO .none ∧ IsTupOf2 h TI (.ref i1) (.ref i2) ∧ (∃ x y, IsTupOf2 h TO x y) ∧ IsItX k h i1 a i ∧ IsItX k2 h i2 b i) where
  mem := by simp
  obj := fun i h st c hc => by
    obtain ⟨hz, hTI, ⟨x, y, hTO⟩, h1, h2⟩ := st
    have e' : c = z ∨ c = TI ∨ c = TO ∨ c = i1 ∨ c = i2 := by simpa using hc
    rcases e' with q | q | q | q | q
    · rw [q]; exact ⟨_, hz, fun v q => nomatch q⟩
    · rw [q]; exact ⟨_, hTI, fun v q => nomatch q⟩
    · rw [q]; exact ⟨_, hTO, fun v q => nomatch q⟩
    · rw [q]; exact h1.there
    · rw [q]; exact h2.there
  keep := fun i h h' st kp => by
    obtain ⟨hz, hTI, ⟨x, y, hTO⟩, h1, h2⟩ := st
    exact ⟨kp z (by simp) _ hz, kp TI (by simp) _ hTI, ⟨x, y, kp TO (by simp) _ hTO⟩, h1.at' fun o q => kp i1 (by simp) o q, h2.at' fun o q => kp i2 (by simp) o q⟩
  item := by
    intro X hP hw hK hc i pins s σ H E I hf st hg
    subst hP hw hK
    obtain ⟨hz, hTI, ⟨x0, y0, hTO⟩, h1, h2⟩ := st
    obtain ⟨xs, ys, x, y, hqx, hqy, hx, hy⟩ := hg
    obtain ⟨its, rv, p, _⟩ := sqX_items I hqx
    obtain ⟨its2, rv2, p2, _⟩ := sqX_items I hqy
    obtain ⟨u, hu, ru⟩ := rv.get hx
    obtain ⟨u2, hu2, ru2⟩ := rv2.get hy
    have hil : i < min its.toArray.size its2.toArray.size := by
      have q1 := (List.getElem?_eq_some_iff.mp hu).1
      have q2 := (List.getElem?_eq_some_iff.mp hu2).1
      simp only [List.size_toArray]
      omega
    have zc : ∀ o, s.heap.get? z = some o → o.cls ≠ .type "list" ∧ o.cls ≠ .type "tuple" := fun o q => by
      rw [hz] at q; cases q; exact ⟨(by decide : Value.type "zip" ≠ .type "list"), (by decide : Value.type "zip" ≠ .type "tuple")⟩
    have az : a ≠ z := sqX_ne I hqx (hf z (by simp)).1 zc
    have bz : b ≠ z := sqX_ne I hqy (hf z (by simp)).1 zc
    have aT : a ≠ TO := sqX_TO I hqx (hf TO (by simp)).1 (hf TO (by simp)).2.2.2.1
    have bT : b ≠ TO := sqX_TO I hqy (hf TO (by simp)).1 (hf TO (by simp)).2.2.2.1
    have a1 : a ≠ i1 := sqX_ne I hqx (hf i1 (by simp)).1 h1.notSeq
    have a2 : a ≠ i2 := sqX_ne I hqx (hf i2 (by simp)).1 h2.notSeq
    have b1 : b ≠ i1 := sqX_ne I hqy (hf i1 (by simp)).1 h1.notSeq
    have b2 : b ≠ i2 := sqX_ne I hqy (hf i2 (by simp)).1 h2.notSeq
    have hh : X.A.in1.handled = none := I.ok.hd hc
    have G := GoesN.zip2 (prog := X.prog) (w := X.w) (A := X.A) (elts := elts) (x1 := kk) (pos := tpos) (D.sep az aT a2 bz bT b1) (drawsX hh k i1 a a1 its.toArray) (drawsX hh k2 i2 b b2 its2.toArray)
    refine wpAny_mono (G.goes i s (fun v s2 => ∃ x H', Inv X pins σ H' s2 ∧ RelV x v ∧ (ItzX k k2 X.K a b).yld i H x H' ∧ (IsZip s2.heap z TI TO .none ∧ IsTupOf2 s2.heap TI (.ref i1) (.ref i2) ∧ (∃ x y, IsTupOf2 s2.heap TO x y) ∧ IsItX k s2.heap i1 a (i + 1) ∧ IsItX k2 s2.heap i2 b (i + 1)) ∧ ∀ b ∈ [z, TI, TO, i1, i2], H' b = none) E hil
      ⟨hz, hTI, ⟨_, _, hTO⟩, ⟨h1, p⟩, ⟨h2, p2⟩⟩ fun v h' tk hY hSt hk htk => ?_) (fun r s1 h => h) fun _ _ z => z
    obtain ⟨T, c, c2, rfl, hT, hcx, hcy, hTup⟩ := hY
    have e0 : its.toArray[i]? = some u := by simpa using hu
    have e1 : its2.toArray[i]? = some u2 := by simpa using hu2
    rw [e0] at hcx
    rw [e1] at hcy
    cases hcx
    cases hcy
    have new : ObjOk X.prog X.w (upd H T (.tup [x, y])) h' T (.tup [x, y]) :=
      ⟨by show 2 ≤ sizeLine; decide, [u, u2], .cons ru (.cons ru2 .nil), hTup⟩
    have I1 : Inv X pins σ (upd H T (.tup [x, y])) { s with heap := h', toks := tk } := I.turnedNew (ch := [z, TI, TO, i1, i2]) (fun c o hc' q => hk c o (fun q' => hc' (by
      have : c = z ∨ c = TO ∨ c = i1 ∨ c = i2 := by simpa using q'
      rcases this with q | q | q | q <;> simp [q])) q) hf hT new
    refine ⟨.ref T, _, I1, rfl, ⟨T, x, y, rfl, I.hok.fresh hT, rfl, fun l hl => by rw [sqX_inj I hl hqx]; exact hx, fun l hl => by rw [sqX_inj I hl hqy]; exact hy⟩, ⟨hSt.1, hSt.2.1, hSt.2.2.1, hSt.2.2.2.1.1, hSt.2.2.2.2.1⟩, fun c hcm => ?_⟩
    have hlt : c < s.heap.objs.size := by
      have e' : c = z ∨ c = TI ∨ c = TO ∨ c = i1 ∨ c = i2 := by simpa using hcm
      rcases e' with q | q | q | q | q
      · rw [q]; exact Heap.lt_size hz
      · rw [q]; exact Heap.lt_size hTI
      · rw [q]; exact Heap.lt_size hTO
      · rw [q]; obtain ⟨_, e1, _⟩ := h1.there; exact Heap.lt_size e1
      · rw [q]; obtain ⟨_, e2, _⟩ := h2.there; exact Heap.lt_size e2
    rw [upd_ne (Nat.ne_of_lt (Nat.lt_of_lt_of_le hlt hT))]
    exact (hf c hcm).1
  done := by
    intro X hP hw hK hc i pins s σ H E I hf st hg
    subst hP hw hK
    obtain ⟨hz, hTI, ⟨x0, y0, hTO⟩, h1, h2⟩ := st
    obtain ⟨xs, ys, hqx, hqy, hend⟩ := hg
    obtain ⟨its, rv, p, _⟩ := sqX_items I hqx
    obtain ⟨its2, rv2, p2, _⟩ := sqX_items I hqy
    have zc : ∀ o, s.heap.get? z = some o → o.cls ≠ .type "list" ∧ o.cls ≠ .type "tuple" := fun o q => by
      rw [hz] at q; cases q; exact ⟨(by decide : Value.type "zip" ≠ .type "list"), (by decide : Value.type "zip" ≠ .type "tuple")⟩
    have az : a ≠ z := sqX_ne I hqx (hf z (by simp)).1 zc
    have bz : b ≠ z := sqX_ne I hqy (hf z (by simp)).1 zc
    have aT : a ≠ TO := sqX_TO I hqx (hf TO (by simp)).1 (hf TO (by simp)).2.2.2.1
    have bT : b ≠ TO := sqX_TO I hqy (hf TO (by simp)).1 (hf TO (by simp)).2.2.2.1
    have a1 : a ≠ i1 := sqX_ne I hqx (hf i1 (by simp)).1 h1.notSeq
    have a2 : a ≠ i2 := sqX_ne I hqx (hf i2 (by simp)).1 h2.notSeq
    have b1 : b ≠ i1 := sqX_ne I hqy (hf i1 (by simp)).1 h1.notSeq
    have b2 : b ≠ i2 := sqX_ne I hqy (hf i2 (by simp)).1 h2.notSeq
    have hh : X.A.in1.handled = none := I.ok.hd hc
    have l1 := rv.length
    have l2 := rv2.length
    have hn : min its.toArray.size its2.toArray.size = i := by simp only [List.size_toArray]; omega
    have G := GoesN.zip2 (prog := X.prog) (w := X.w) (A := X.A) (elts := elts) (x1 := kk) (pos := tpos) (D.sep az aT a2 bz bT b1) (drawsX hh k i1 a a1 its.toArray) (drawsX hh k2 i2 b b2 its2.toArray)
    refine G.stops s (fun s1 => Inv X pins σ H s1) E ?_ fun h' tk hk _ => I.turnedL (ch := [z, TI, TO, i1, i2]) (fun c o hc' q => hk c o (fun q' => hc' (by
      have : c = z ∨ c = TO ∨ c = i1 ∨ c = i2 := by simpa using q'
      rcases this with q | q | q | q <;> simp [q])) q) hf
    rw [hn]
    exact ⟨hz, hTI, ⟨_, _, hTO⟩, ⟨h1, p⟩, ⟨h2, p2⟩⟩
  self := fun A i s Q E st h => wpAny_pyIter_zip st.1 h
theorem zipD_get : ∀ (xs ys : List D) (i : Nat) (x y : D), xs[i]? = some x → ys[i]? = some y → (zipD xs ys)[i]? = some (.tup [x, y])
  | [], _, _, _, _, h, _ => by simp at h
  | _ :: _, [], _, _, _, _, h => by simp at h
  | a :: xs, b :: ys, 0, x, y, h, h2 => by
    have e1 : a = x := by simpa using h
    have e2 : b = y := by simpa using h2
    rw [← e1, ← e2]; rfl
  | a :: xs, b :: ys, i + 1, x, y, h, h2 => by
    simp only [zipD, List.getElem?_cons_succ]
    exact zipD_get xs ys i x y (by simpa using h) (by simpa using h2)
theorem zipD_len : ∀ (xs ys : List D), (zipD xs ys).length = min xs.length ys.length
  | [], ys => by simp [zipD]
  | _ :: _, [] => by simp [zipD]
  | a :: xs, b :: ys => by
    simp only [zipD, List.length_cons, zipD_len xs ys]
    omega
theorem itOk_zipX {K : PySem.W.Frag} {k k2 : Bool} {a b : Addr} {ds es : List D} : ItOk K (ItzX k k2 K a b) [.rep (.ref a) (cond k (.lst ds) (.tup ds)), .rep (.ref b) (cond k2 (.lst es) (.tup es))] (zipD ds es) where
  goes := fun A H i live hs hi => by
    obtain ⟨vs, h1, h2, h3⟩ := sqX_of (hs _ List.mem_cons_self)
    obtain ⟨ws, g1, g2, g3⟩ := sqX_of (hs _ (List.mem_cons_of_mem _ List.mem_cons_self))
    rw [zipD_len] at hi
    have hl : i < vs.length := by rw [h3.length]; omega
    have hl2 : i < ws.length := by rw [g3.length]; omega
    exact ⟨vs, ws, vs[i], ws[i], h1, g1, by simp [hl], by simp [hl2]⟩
  stops := fun A H live hs => by
    obtain ⟨vs, h1, h2, h3⟩ := sqX_of (hs _ List.mem_cons_self)
    obtain ⟨ws, g1, g2, g3⟩ := sqX_of (hs _ (List.mem_cons_of_mem _ List.mem_cons_self))
    exact ⟨vs, ws, h1, g1, by rw [h3.length, g3.length, zipD_len]⟩
  yields := fun A H i v H' live hs hi y => by
    obtain ⟨vs, h1, h2, h3⟩ := sqX_of (hs _ List.mem_cons_self)
    obtain ⟨ws, g1, g2, g3⟩ := sqX_of (hs _ (List.mem_cons_of_mem _ List.mem_cons_self))
    rw [zipD_len] at hi
    obtain ⟨T, x, y, rfl, hT, rfl, hx, hy⟩ := y
    have hd : ds[i]? = some ds[i] := by simp only [List.getElem?_eq_getElem (show i < ds.length by omega)]
    have he : es[i]? = some es[i] := by simp only [List.getElem?_eq_getElem (show i < es.length by omega)]
    obtain ⟨w, q1, q2⟩ := h3.get hd
    obtain ⟨w2, r1, r2⟩ := g3.get he
    have e := hx vs h1
    rw [q1] at e
    cases e
    have e := hy ws g1
    rw [r1] at e
    cases e
    obtain ⟨e1, e2⟩ := rep_pair (K := K) live hT q2 r2
    exact ⟨_, zipD_get ds es i _ _ hd he, e1, e2⟩
section
variable {X : Cx} {RX : RXT} {W : WX}
theorem di_zip {a b : Expr} {p pos tpos : Pos} {elts : List Expr} {kk : Nat} {ga gb : EnvD → Res D} (hg : Gl X "zip") (hm : X.mg "zip" = none) (ha : PE X a (tE X.K RX W ga)) (hb : PE X b (tE X.K RX W gb))
    (hs : starEach [a, b] X.env = (false, eval a X.env) :: starEach [b] X.env) (hs2 : starEach [b] X.env = [(false, eval b X.env)]) :
    PI X (.Tuple elts kk tpos) (.Call (.Name "zip" p) [a, b] [] pos) (tI X.K RX W fun ρ => do
      let x ← ga ρ
      let y ← gb ρ
      must (isSeq x && isSeq y) do
        let xs ← itD x
        let ys ← itD y
        .ok (zipD xs ys)) := by
  refine ⟨fun pins s σ H R I ⟨A, ρ, r, q⟩ => ?_⟩
  have q : Out RX W (relI X.K A) (ga ρ >>= fun x => gb ρ >>= fun y => must (isSeq x && isSeq y) (itD x >>= fun xs => itD y >>= fun ys => .ok (zipD xs ys))) σ H R := q
  have pa : PA X [a, b] (tCons (tE X.K RX W ga) (tCons (tE X.K RX W gb) tNil)) := pa_cons ha (pa_cons hb pa_nil (by rw [hs2]; rfl)) hs
  have hpl : (backTo pos (starEach [b] X.env)).any (·.1) = false := by rw [hs2]; rfl
  refine Call_ (ld_blt I hg hm PyProof.Rows.boot_zip (PyProof.Rows.callWith_type1 (thn (pa.run pos pins s σ H (fun vs H1 => ∃ v d v2 d2, vs = [v, v2] ∧ Rep X.K (hid A H1) v d ∧ Rep X.K (hid A H1) v2 d2 ∧ Out RX W (relI X.K A) (must (isSeq d && isSeq d2) (itD d >>= fun xs => itD d2 >>= fun ys => .ok (zipD xs ys))) σ H1 R) I
    ⟨A, ρ, r, q.bind fun d v H1 _ e1 q1 h1 => ⟨A, ρ, r.up e1, h1.bind fun d2 v2 H2 _ e2 q2 h2 => ⟨v, d, v2, d2, rfl, Rep.up (hid_up e2) _ _ q1, q2, h2⟩⟩⟩) fun us s1 ⟨vs, H1, I1, r1, v, d, v2, d2, ev, q1, q2, h1⟩ => ?_) hs hpl))
  subst ev
  obtain ⟨c, h1⟩ := Out.must h1
  have fin : ∀ (k k2 : Bool) (a b : Addr) (ds es : List D), v = .ref a → v2 = .ref b → d = cond k (.lst ds) (.tup ds) → d2 = cond k2 (.lst es) (.tup es) → wpAny (model X.prog X.w) X.A (call (.type "zip") us) (fun v s1 => wpAny (model X.prog X.w) X.A (pyIter v) (PIE X pins σ (.Tuple elts kk tpos) R) X.xe s1) X.xe s1 := by
    intro k k2 a b ds es ev ev2 ed ed2
    subst ev ev2 ed ed2
    obtain ⟨vs, hq, hz, hr⟩ := sqX_of q1
    obtain ⟨ws, hq2, hz2, hr2⟩ := sqX_of q2
    obtain ⟨its, rv, p, hlt⟩ := sqX_items I1 hq
    obtain ⟨its2, rv2, p2, hlt2⟩ := sqX_items I1 hq2
    cases r1 with
    | cons r rr =>
      cases rr with
      | cons r' rr =>
        cases rr
        cases r
        cases r'
        have fresh5 : ∀ c, c ∈ [s1.heap.objs.size + 4, s1.heap.objs.size + 2, s1.heap.objs.size + 3, s1.heap.objs.size, s1.heap.objs.size + 1] → FpOk X pins H1 c := fun c hcm => by
          have hle : s1.heap.objs.size ≤ c := by
            simp only [List.mem_cons, List.not_mem_nil, or_false] at hcm
            rcases hcm with z | z | z | z | z <;> rw [z]
            · exact Nat.le_add_right _ _
            · exact Nat.le_add_right _ _
            · exact Nat.le_add_right _ _
            · exact Nat.le_refl _
            · exact Nat.le_add_right _ _
          exact I1.fpOk hle (I1.hok.fresh hle)
        refine zip_begins2 (beginsX k a its.toArray) (beginsX k2 b its2.toArray) p p2 fun h' hz' hTI hTO h1' h2' hsz hk => wpAny_pyIter_zip hz' ?_
        have I2 : Inv X pins σ H1 { s1 with heap := h' } := I1.kept (t' := s1.toks) hk
        have off : ∀ {n m : Nat}, n ≠ m → s1.heap.objs.size + n ≠ s1.heap.objs.size + m := fun h e => h (Nat.add_left_cancel e)
        refine ⟨s1.heap.objs.size + 4, [s1.heap.objs.size + 4, s1.heap.objs.size + 2, s1.heap.objs.size + 3, s1.heap.objs.size, s1.heap.objs.size + 1], _, _, H1, rfl, I2,
          turn_zipX k k2 a b (s1.heap.objs.size + 4) (s1.heap.objs.size + 2) (s1.heap.objs.size + 3) s1.heap.objs.size (s1.heap.objs.size + 1) ⟨off (by decide), off (by decide), off (by decide), off (m := 0) (by decide), off (by decide), off (m := 0) (by decide), off (m := 0) (by decide), off (by decide), off (by decide), off (n := 0) (by decide)⟩,
          ⟨hz', hTI, ⟨_, _, hTO⟩, itX_new h1', itX_new h2'⟩, fresh5, ?_⟩
        have h1 : Out RX W (relI X.K A) (.ok (zipD ds es)) σ H1 R := by cases k <;> cases k2 <;> exact h1
        refine h1.ok (Same.refl _) ⟨by rw [zipD_len, ← hr.length]; omega, _, fun p hp' => ?_, itOk_zipX (k := k) (k2 := k2)⟩
        have e : p = .rep (.ref a) (cond k (.lst ds) (.tup ds)) ∨ p = .rep (.ref b) (cond k2 (.lst es) (.tup es)) := by simpa using hp'
        rcases e with e | e
        · rw [e]; exact q1
        · rw [e]; exact q2
  cases q1 with
  | @tup a vs ds hp hz hr =>
    cases q2 with
    | @tup b ws es hp2 hz2 hr2 => exact fin false false a b ds es rfl rfl rfl rfl
    | @lst b ws es hp2 hz2 hr2 => exact fin false true a b ds es rfl rfl rfl rfl
    | _ => cases c
  | @lst a vs ds hp hz hr =>
    cases q2 with
    | @tup b ws es hp2 hz2 hr2 => exact fin true false a b ds es rfl rfl rfl rfl
    | @lst b ws es hp2 hz2 hr2 => exact fin true true a b ds es rfl rfl rfl rfl
    | _ => cases c
  | _ => cases c
end
end Snd
namespace Snd
open PySem PySem.Spec PyProof.Rows L2 Dt PySem.W
/-! ### list(zip(a, b)) -/
section
variable {prog : Program} {w : World} {A : Around} {E : Value → Shared → Prop} {s : Shared} {z TI TO i1 i2 : Addr} {fp1 fp2 : List Addr} {n1 n2 i : Nat} {P1 P2 : Nat → Value → Prop} {St1 St2 : Nat → Heap → Prop} {a1 a2 : Value} {T : Addr} {f : Bool} {oT : Obj}
theorem zipH_next_item {Q : Value → Shared → Prop} (S : ZipSep2 z TI TO i1 i2 fp1 fp2) (D1 : Draws prog w A i1 fp1 n1 P1 St1) (D2 : Draws prog w A i2 fp2 n2 P2 St2)
    (hz : IsZipHeld s.heap z TI TO T f) (hT : s.heap.get? T = some oT) (hTI : IsTupOf2 s.heap TI (.ref i1) (.ref i2)) (st1 : St1 i s.heap) (st2 : St2 i s.heap) (hlt1 : i < n1) (hlt2 : i < n2)
    (hQ : ∀ x1 x2 h' tk, P1 i x1 → P2 i x2 → IsZipHeld h' z TI TO T true → St1 (i + 1) h' → St2 (i + 1) h' → IsTupOf2 h' s.heap.objs.size x1 x2 → h'.objs.size = s.heap.objs.size + 1 →
      (∀ c o, c ≠ z → c ≠ i1 → c ≠ i2 → s.heap.get? c = some o → h'.get? c = some o) → Q (.ref s.heap.objs.size) { s with heap := h', toks := tk }) :
    wpAny (model prog w) A (Builtin.«zip.__next__» ⟨[.ref z], []⟩) (fun fin s' => ∃ v, fin = .done (.ret v) ∧ Q v s') E s := by
  obtain ⟨hp, g, d, tk0, os⟩ := s
  show wpAny _ _ (field (.ref z) 2 >>= _) _ _ _
  refine wpAny_bind (wpAny_field hz rfl (x := .bool false) rfl ?_)
  show wpAny _ _ (field (.ref z) 3 >>= _) _ _ _
  refine wpAny_bind (wpAny_field hz rfl (x := .ref TI) rfl ?_)
  refine wpAny_bind (wpAny_seqItems hTI rfl ?_)
  show wpAny _ _ (Builtin.SmallTypes.ownedTupleIsFree (.ref z) >>= _) _ _ _
  refine wpAny_bind (wpAny_tupleHeld_zip hz hT fun g0 hz0 hs0 => ?_)
  replace hs0 : Heap.SameBut z hp g0 := hs0
  simp only [Bool.false_eq_true, if_false]
  refine wpAny_bind ?_
  rw [← Array.forIn_toList]
  simp only [List.forIn_cons, List.forIn_nil]
  refine wpAny_bind (wpAny_bind (wpAny_holding ?_))
  show wpAny _ _ (Builtin.SmallTypes.nextOf (.ref i1) >>= _) _ _ ⟨g0, g, d, tk0, os⟩
  refine wpAny_bind (D1.item i _ _ _ hlt1 (D1.over st1 hs0 S.zf1) fun x1 p1 tk1 hx1 sn1 hp1 => wpAny_pure ?_)
  replace hp1 : Heap.SameBut i1 g0 p1 := hp1
  refine wpAny_pure ?_
  refine wpAny_bind (wpAny_bind (wpAny_holding ?_))
  show wpAny _ _ (Builtin.SmallTypes.nextOf (.ref i2) >>= _) _ _ ⟨p1, g, d, tk1, os⟩
  refine wpAny_bind (D2.item i _ _ _ hlt2 (D2.over (D2.over st2 hs0 S.zf2) hp1 S.sep1_2) fun x2 p2 tk2 hx2 sn2 hp2 => wpAny_pure ?_)
  replace hp2 : Heap.SameBut i2 p1 p2 := hp2
  refine wpAny_pure (wpAny_pure ?_)
  show wpAny _ _ (newTuple [x1, x2] >>= _) _ _ _
  refine wpAny_bind (wpAny_newTuple ?_)
  have hsz : p2.objs.size = hp.objs.size := by rw [hp2.1, hp1.1, hs0.1]
  have hz2 : IsZipHeld p2 z TI TO T true := hp2.extBut _ _ S.zi2 (hp1.extBut _ _ S.zi1 hz0)
  have hk : ∀ c o, c ≠ z → c ≠ i1 → c ≠ i2 → hp.get? c = some o → p2.get? c = some o := fun c o c1 c2 c3 e => hp2.extBut _ _ c3 (hp1.extBut _ _ c2 (hs0.extBut _ _ c1 e))
  have j1 : St1 (i + 1) p2 := D1.over sn1 hp2 S.sep2_1
  refine wpAny_pure ⟨_, rfl, ?_⟩
  show Q (.ref p2.objs.size) _
  have hp' : IsTupOf2 (p2.push { cls := .type "tuple", data := .seq #[x1, x2] }) p2.objs.size x1 x2 := Heap.get?_push_size _ rfl
  have hz4 : (p2.push { cls := .type "tuple", data := .seq #[x1, x2] }).objs.size = p2.objs.size + 1 := Heap.size_push ..
  rw [hsz] at hp' hz4 ⊢
  exact hQ x1 x2 _ tk2 hx1 hx2 (Heap.get?_push_of_some _ hz2) (D1.frame _ _ _ j1 fun b _ o e => Heap.get?_push_of_some _ e) (D2.frame _ _ _ sn2 fun b _ o e => Heap.get?_push_of_some _ e) hp' hz4 fun c o c1 c2 c3 e => Heap.get?_push_of_some _ (hk c o c1 c2 c3 e)
theorem zipH_next_end {Q : PySem.Fin → Shared → Prop} (S : ZipSep2 z TI TO i1 i2 fp1 fp2) (D1 : Draws prog w A i1 fp1 n1 P1 St1) (D2 : Draws prog w A i2 fp2 n2 P2 St2)
    (hz : IsZipHeld s.heap z TI TO T f) (hT : s.heap.get? T = some oT) (hTI : IsTupOf2 s.heap TI (.ref i1) (.ref i2)) (st1 : St1 i s.heap) (st2 : St2 i s.heap) (hle1 : i ≤ n1) (hle2 : i ≤ n2) (hend : i = n1 ∨ i = n2)
    (hE : ∀ h' e tk, (∀ c o, c ≠ z → c ≠ i1 → c ≠ i2 → s.heap.get? c = some o → h'.get? c = some o) → (∃ o, h'.get? e = some o ∧ o.cls = .type "StopIteration") → E (.ref e) { s with heap := h', toks := tk }) :
    wpAny (model prog w) A (Builtin.«zip.__next__» ⟨[.ref z], []⟩) Q E s := by
  obtain ⟨hp, g, d, tk0, os⟩ := s
  show wpAny _ _ (field (.ref z) 2 >>= _) _ _ _
  refine wpAny_bind (wpAny_field hz rfl (x := .bool false) rfl ?_)
  show wpAny _ _ (field (.ref z) 3 >>= _) _ _ _
  refine wpAny_bind (wpAny_field hz rfl (x := .ref TI) rfl ?_)
  refine wpAny_bind (wpAny_seqItems hTI rfl ?_)
  show wpAny _ _ (Builtin.SmallTypes.ownedTupleIsFree (.ref z) >>= _) _ _ _
  refine wpAny_bind (wpAny_tupleHeld_zip hz hT fun g0 hz0 hs0 => ?_)
  replace hs0 : Heap.SameBut z hp g0 := hs0
  simp only [Bool.false_eq_true, if_false]
  refine wpAny_bind ?_
  rw [← Array.forIn_toList]
  simp only [List.forIn_cons, List.forIn_nil]
  refine wpAny_bind (wpAny_bind (wpAny_holding ?_))
  show wpAny _ _ (Builtin.SmallTypes.nextOf (.ref i1) >>= _) _ _ ⟨g0, g, d, tk0, os⟩
  by_cases c1 : i = n1
  · subst c1
    refine wpAny_bind (D1.done _ _ _ (D1.over st1 hs0 S.zf1) fun h₂ e hs₂ he => ?_)
    exact hE h₂ e _ (fun c o q1 q2 _ x => hs₂ _ _ q2 (hs0.extBut _ _ q1 x)) he
  · have c2 : i = n2 := hend.resolve_left c1
    subst c2
    refine wpAny_bind (D1.item i _ _ _ (by omega) (D1.over st1 hs0 S.zf1) fun x1 p1 tk1 hx1 sn1 hp1 => wpAny_pure ?_)
    replace hp1 : Heap.SameBut i1 g0 p1 := hp1
    refine wpAny_pure ?_
    refine wpAny_bind (wpAny_bind (wpAny_holding ?_))
    show wpAny _ _ (Builtin.SmallTypes.nextOf (.ref i2) >>= _) _ _ ⟨p1, g, d, tk1, os⟩
    refine wpAny_bind (D2.done _ _ _ (D2.over (D2.over st2 hs0 S.zf2) hp1 S.sep1_2) fun h₃ e hs₃ he => ?_)
    exact hE h₃ e _ (fun c o q1 q2 q3 x => hs₃ _ _ q3 (hp1.extBut _ _ q2 (hs0.extBut _ _ q1 x))) he
theorem pyNext_zipH_item {Q : Option Value → Shared → Prop} (S : ZipSep2 z TI TO i1 i2 fp1 fp2) (D1 : Draws prog w A.in1 i1 fp1 n1 P1 St1) (D2 : Draws prog w A.in1 i2 fp2 n2 P2 St2)
    (hz : IsZipHeld s.heap z TI TO T f) (hT : s.heap.get? T = some oT) (hTI : IsTupOf2 s.heap TI (.ref i1) (.ref i2)) (st1 : St1 i s.heap) (st2 : St2 i s.heap) (hlt1 : i < n1) (hlt2 : i < n2)
    (hQ : ∀ x1 x2 h' tk, P1 i x1 → P2 i x2 → IsZipHeld h' z TI TO T true → St1 (i + 1) h' → St2 (i + 1) h' → IsTupOf2 h' s.heap.objs.size x1 x2 → h'.objs.size = s.heap.objs.size + 1 →
      (∀ c o, c ≠ z → c ≠ i1 → c ≠ i2 → s.heap.get? c = some o → h'.get? c = some o) → Q (some (.ref s.heap.objs.size)) { s with heap := h', toks := tk }) :
    wpAny (model prog w) A (pyNext (.ref z)) Q E s := by
  have hTy : s.TypeIs (.ref z) "zip" := ⟨_, hz, rfl⟩
  unfold pyNext
  exact wpAny_bind (wpAny_attempt (wpAny_callSpecial?_slot (name := Str.ofString "__next__") hTy F.slot_zip_next
    (wpAny_call_entry F.slot_zip_next hTy F.entry_zip_next
      (zipH_next_item S D1 D2 hz hT hTI st1 st2 hlt1 hlt2 fun x1 x2 h' tk a0 a1 a2 a3 a4 a5 a6 a7 => wpAny_pure (hQ x1 x2 h' tk a0 a1 a2 a3 a4 a5 a6 a7)) (F.args_zip_next_1 _))))
theorem pyNext_zipH_end {Q : Option Value → Shared → Prop} (S : ZipSep2 z TI TO i1 i2 fp1 fp2) (D1 : Draws prog w A.in1 i1 fp1 n1 P1 St1) (D2 : Draws prog w A.in1 i2 fp2 n2 P2 St2)
    (hz : IsZipHeld s.heap z TI TO T f) (hT : s.heap.get? T = some oT) (hTI : IsTupOf2 s.heap TI (.ref i1) (.ref i2)) (st1 : St1 i s.heap) (st2 : St2 i s.heap) (hle1 : i ≤ n1) (hle2 : i ≤ n2) (hend : i = n1 ∨ i = n2)
    (hQ : ∀ h' tk, (∀ c o, c ≠ z → c ≠ i1 → c ≠ i2 → s.heap.get? c = some o → h'.get? c = some o) → Q none { s with heap := h', toks := tk }) : wpAny (model prog w) A (pyNext (.ref z)) Q E s := by
  have hTy : s.TypeIs (.ref z) "zip" := ⟨_, hz, rfl⟩
  unfold pyNext
  refine wpAny_bind (wpAny_attempt (wpAny_callSpecial?_slot (name := Str.ofString "__next__") hTy F.slot_zip_next
    (wpAny_call_entry F.slot_zip_next hTy F.entry_zip_next (zipH_next_end S D1 D2 hz hT hTI st1 st2 hle1 hle2 hend fun h' e tk hk he => ?_) (F.args_zip_next_1 _))))
  obtain ⟨o, ho, hc⟩ := he
  refine wpAny_bind (wpAny_isInstance (T := "StopIteration") (b := true) ⟨o, ho, hc⟩ isSubtype_stop ?_)
  exact wpAny_pure (hQ _ _ hk)
end
/-- the zip's state in such a loop: S is the list that grows -/
def LzSt (z TI TO i1 i2 S : Addr) (St1 St2 : Nat → Heap → Prop) (i : Nat) (h : Heap) : Prop :=
  IsTupOf2 h TI (.ref i1) (.ref i2) ∧ St1 i h ∧ St2 i h ∧ ((IsZip h z TI TO .none ∧ ∃ a b, IsTupOf2 h TO a b) ∨ ∃ T f oT, IsZipHeld h z TI TO T f ∧ h.get? T = some oT ∧ T ≠ z ∧ T ≠ i1 ∧ T ≠ i2 ∧ T ≠ S)
section
variable {prog : Program} {w : World} {A : Around} {s : Shared} {z TI TO i1 i2 S : Addr} {fp1 fp2 : List Addr} {n1 n2 : Nat} {P1 P2 : Nat → Value → Prop} {St1 St2 : Nat → Heap → Prop}
theorem LzSt.keep {i : Nat} {h h' : Heap} (x : LzSt z TI TO i1 i2 S St1 St2 i h) (D1 : Draws prog w A.in1 i1 fp1 n1 P1 St1) (D2 : Draws prog w A.in1 i2 fp2 n2 P2 St2) (hk : ∀ b o, b ≠ S → h.get? b = some o → h'.get? b = some o)
    (nz : z ≠ S) (nTI : TI ≠ S) (nTO : TO ≠ S) (n1' : S ∉ fp1) (n2' : S ∉ fp2) : LzSt z TI TO i1 i2 S St1 St2 i h' := by
  obtain ⟨hTI, h1, h2, hz⟩ := x
  refine ⟨hk _ _ nTI hTI, D1.frame _ _ _ h1 fun b hb o e => hk b o (fun q => n1' (q ▸ hb)) e, D2.frame _ _ _ h2 fun b hb o e => hk b o (fun q => n2' (q ▸ hb)) e, ?_⟩
  rcases hz with ⟨hz, a, b, hTO⟩ | ⟨T, f, oT, hz, hT, r1, r2, r3, r4⟩
  · exact .inl ⟨hk _ _ nz hz, a, b, hk _ _ nTO hTO⟩
  · exact .inr ⟨T, f, oT, hk _ _ nz hz, hk _ _ r4 hT, r1, r2, r3, r4⟩
theorem lz_item {i : Nat} {Q : Option Value → Shared → Prop} {E : Value → Shared → Prop} (Z : ZipSep2 z TI TO i1 i2 fp1 fp2) (D1 : Draws prog w A.in1 i1 fp1 n1 P1 St1) (D2 : Draws prog w A.in1 i2 fp2 n2 P2 St2) (hst : LzSt z TI TO i1 i2 S St1 St2 i s.heap)
    (hS : S < s.heap.objs.size) (hlt1 : i < n1) (hlt2 : i < n2)
    (hQ : ∀ x1 x2 h' tk, P1 i x1 → P2 i x2 → LzSt z TI TO i1 i2 S St1 St2 (i + 1) h' → IsTupOf2 h' s.heap.objs.size x1 x2 →
      (∀ c o, c ≠ z → c ≠ TO → c ≠ i1 → c ≠ i2 → s.heap.get? c = some o → h'.get? c = some o) → Q (some (.ref s.heap.objs.size)) { s with heap := h', toks := tk }) :
    wpAny (model prog w) A (pyNext (.ref z)) Q E s := by
  obtain ⟨hTI, h1, h2, hz⟩ := hst
  have lt : ∀ {c o}, s.heap.get? c = some o → s.heap.objs.size ≠ c := fun e => Nat.ne_of_gt (Heap.lt_size e)
  have l1 : s.heap.objs.size ≠ i1 := by obtain ⟨_, e⟩ := D1.live _ _ h1; exact lt e
  have l2 : s.heap.objs.size ≠ i2 := by obtain ⟨_, e⟩ := D2.live _ _ h2; exact lt e
  rcases hz with ⟨hz, a, b, hTO⟩ | ⟨T, f, oT, hz, hT, r1, r2, r3, r4⟩
  · refine wpAny_pyNext_zipD2_item Z D1 D2 hz hTI hTO h1 h2 hlt1 hlt2 fun x1 x2 h' tk y1 y2 b1 b2 d1 d2 b5 b6 hk => ?_
    exact hQ x1 x2 h' tk y1 y2 ⟨hk _ _ Z.TIz Z.TITO Z.TIi1 Z.TIi2 hTI, d1, d2, .inr ⟨s.heap.objs.size, false, _, b1, b5, lt hz, l1, l2, Nat.ne_of_gt hS⟩⟩ b5 hk
  · refine pyNext_zipH_item Z D1 D2 hz hT hTI h1 h2 hlt1 hlt2 fun x1 x2 h' tk y1 y2 b1 d1 d2 b5 b6 hk => ?_
    exact hQ x1 x2 h' tk y1 y2 ⟨hk _ _ Z.TIz Z.TIi1 Z.TIi2 hTI, d1, d2, .inr ⟨T, true, oT, b1, hk _ _ r1 r2 r3 hT, r1, r2, r3, r4⟩⟩ b5 fun c o c1 _ c2 c3 e => hk c o c1 c2 c3 e
theorem lz_done {i : Nat} {Q : Option Value → Shared → Prop} {E : Value → Shared → Prop} (Z : ZipSep2 z TI TO i1 i2 fp1 fp2) (D1 : Draws prog w A.in1 i1 fp1 n1 P1 St1) (D2 : Draws prog w A.in1 i2 fp2 n2 P2 St2) (hst : LzSt z TI TO i1 i2 S St1 St2 i s.heap)
    (hle1 : i ≤ n1) (hle2 : i ≤ n2) (hend : i = n1 ∨ i = n2)
    (hQ : ∀ h' tk, (∀ c o, c ≠ z → c ≠ TO → c ≠ i1 → c ≠ i2 → s.heap.get? c = some o → h'.get? c = some o) → Q none { s with heap := h', toks := tk }) :
    wpAny (model prog w) A (pyNext (.ref z)) Q E s := by
  obtain ⟨hTI, h1, h2, hz⟩ := hst
  rcases hz with ⟨hz, a, b, hTO⟩ | ⟨T, f, oT, hz, hT, r1, r2, r3, r4⟩
  · exact wpAny_pyNext_zipD2_end Z D1 D2 hz hTI hTO h1 h2 hle1 hle2 hend hQ
  · exact pyNext_zipH_end Z D1 D2 hz hT hTI h1 h2 hle1 hle2 hend fun h' tk hk => hQ h' tk fun c o c1 _ c2 c3 e => hk c o c1 c2 c3 e
/-- the pairs so far -/
structure LzG (P1 P2 : Nat → Value → Prop) (lo : Addr) (h : Heap) (as : List Addr) : Prop where
  rise : as.Pairwise (· < ·)
  above : ∀ a ∈ as, lo < a
  pairs : ∀ (j : Nat) (a : Addr), as[j]? = some a → ∃ x y, P1 j x ∧ P2 j y ∧ IsTupOf2 h a x y
theorem LzG.keep {lo : Addr} {h h' : Heap} {as : List Addr} (g : LzG P1 P2 lo h as) (hk : ∀ b o, lo < b → h.get? b = some o → h'.get? b = some o) : LzG P1 P2 lo h' as :=
  ⟨g.rise, g.above, fun j a hj => let ⟨x, y, p1, p2, e⟩ := g.pairs j a hj; ⟨x, y, p1, p2, hk a _ (g.above a (List.mem_of_getElem? hj)) e⟩⟩
theorem LzG.there {lo : Addr} {h : Heap} {as : List Addr} (g : LzG P1 P2 lo h as) {a : Addr} (ha : a ∈ as) : a < h.objs.size := by
  obtain ⟨j, hj⟩ := List.mem_iff_getElem?.mp ha
  obtain ⟨_, _, _, _, e⟩ := g.pairs j a hj
  exact Heap.lt_size e
theorem lz_loop {R : Result → Shared → Prop} (Z : ZipSep2 z TI TO i1 i2 fp1 fp2) (D1 : Draws prog w A.in1.in1 i1 fp1 n1 P1 St1) (D2 : Draws prog w A.in1.in1 i2 fp2 n2 P2 St2)
    (nz : z < S) (nTI : TI < S) (nTO : TO < S) (ni1 : i1 < S) (ni2 : i2 < S) (n1' : S ∉ fp1) (n2' : S ∉ fp2) (hn : min n1 n2 ≤ sizeLine) (res : Value) {h₁ : Heap}
    (hR : ∀ h' tk acc c as, (∀ b o, b ≠ S → b ≠ z → b ≠ TO → b ≠ i1 → b ≠ i2 → h₁.get? b = some o → h'.get? b = some o) → h'.get? S = some { cls := .type "list", dict := none, data := .seq acc c, slots := #[] } → as.length = min n1 n2 → LzG P1 P2 S h' as →
      acc.toList = as.map Value.ref → R (.ok (.ret res)) { s with heap := h', toks := tk }) :
    ∀ (k i : Nat) (h : Heap) (tk c : Nat) (acc : Array Value) (as : List Addr), min n1 n2 - i = k → i ≤ min n1 n2 → LzSt z TI TO i1 i2 S St1 St2 i h → (∀ b o, b ≠ S → b ≠ z → b ≠ TO → b ≠ i1 → b ≠ i2 → h₁.get? b = some o → h.get? b = some o) →
      h.get? S = some { cls := .type "list", dict := none, data := .seq acc c, slots := #[] } → acc.toList = as.map Value.ref → as.length = i → LzG P1 P2 S h as →
      codeAny (model prog w) A (.builtin "list.extend.loop" ⟨[.ref S, .ref z, res], []⟩) R { s with heap := h, toks := tk } := by
  intro k
  induction k with
  | zero =>
    intro i h tk c acc as hk hi hst hkeep hS hacc hal hG
    have hin : i = min n1 n2 := by omega
    refine codeAny_builtin PySem.F.entry_extend_loop ?_
    rw [Around.under_plainId PySem.F.plain_extend_loop _]
    show wpAny _ A.in1 (pyNext (.ref z) >>= _) _ _ _
    refine wpAny_bind (lz_done (s := { s with heap := h, toks := tk }) (A := A.in1) Z D1 D2 hst (by omega) (by omega) (by omega) fun h' tk' he => ?_)
    exact wpAny_pure (hR h' tk' acc c as (fun b o a1 a2 a3 a4 a5 e => he b o a2 a3 a4 a5 (hkeep b o a1 a2 a3 a4 a5 e)) (he S _ (Nat.ne_of_gt nz) (Nat.ne_of_gt nTO) (Nat.ne_of_gt ni1) (Nat.ne_of_gt ni2) hS) (by omega)
      (hG.keep fun b o hb e => he b o (Nat.ne_of_gt (Nat.lt_trans nz hb)) (Nat.ne_of_gt (Nat.lt_trans nTO hb)) (Nat.ne_of_gt (Nat.lt_trans ni1 hb)) (Nat.ne_of_gt (Nat.lt_trans ni2 hb)) e) hacc)
  | succ k ih =>
    intro i h tk c acc as hk hi hst hkeep hS hacc hal hG
    have hlt : i < min n1 n2 := by omega
    have hsz : acc.size = i := by rw [← Array.length_toList, hacc, List.length_map, hal]
    refine codeAny_builtin PySem.F.entry_extend_loop ?_
    rw [Around.under_plainId PySem.F.plain_extend_loop _]
    show wpAny _ A.in1 (pyNext (.ref z) >>= _) _ _ _
    refine wpAny_bind (lz_item (s := { s with heap := h, toks := tk }) (A := A.in1) Z D1 D2 hst (Heap.lt_size hS) (by omega) (by omega) fun x1 x2 h' tk' y1 y2 hst' ht hkp => ?_)
    dsimp only at ht hkp ⊢
    have hS' := hkp S _ (Nat.ne_of_gt nz) (Nat.ne_of_gt nTO) (Nat.ne_of_gt ni1) (Nat.ne_of_gt ni2) hS
    have up : ∀ b o, b ≠ S → h'.get? b = some o → (h'.update S (Obj.mapSeq (·.push (Value.ref h.objs.size)))).get? b = some o := fun b o hb e => (Heap.get?_update_other _ _ (Ne.symm hb)).trans e
    have hSl : S < h.objs.size := Heap.lt_size hS
    show wpAny _ A.in1 (updateSeq S (·.push (Value.ref h.objs.size)) >>= _) _ _ _
    refine wpAny_bind ?_
    refine wpAny_updateSeq hS' rfl (wpAny_pure ⟨plainId_quiet PySem.F.plain_extend_loop _, ih (i + 1) _ tk' _ (acc.push (Value.ref h.objs.size)) (as ++ [h.objs.size]) (by omega) hlt (hst'.keep D1 D2 up (Nat.ne_of_lt nz) (Nat.ne_of_lt nTI) (Nat.ne_of_lt nTO) n1' n2')
      (fun b o a1 a2 a3 a4 a5 e => up b o a1 (hkp b o a2 a3 a4 a5 (hkeep b o a1 a2 a3 a4 a5 e))) (Heap.get?_update_self _ hS' rfl) (by rw [Array.toList_push, hacc, List.map_append]; rfl) (by rw [List.length_append, hal]; rfl) ⟨?_, ?_, ?_⟩⟩) (by rw [hsz]; omega) (by show (acc.push (Value.ref h.objs.size)).size ≤ sizeLine + 1; rw [Array.size_push, hsz]; omega)
    · refine List.pairwise_append.mpr ⟨hG.rise, List.pairwise_singleton _ _, fun a ha b hb => ?_⟩
      rw [List.mem_singleton.mp hb]
      exact hG.there ha
    · intro a ha
      rcases List.mem_append.mp ha with ha | ha
      · exact hG.above a ha
      · rw [List.mem_singleton.mp ha]; exact hSl
    · intro j b hj
      rcases Nat.lt_trichotomy j as.length with h1 | h1 | h1
      · rw [List.getElem?_append_left h1] at hj
        obtain ⟨x, y, e1, e2, e3⟩ := hG.pairs j b hj
        have hb := hG.above b (List.mem_of_getElem? hj)
        exact ⟨x, y, e1, e2, up b _ (Nat.ne_of_gt hb) (hkp b _ (Nat.ne_of_gt (Nat.lt_trans nz hb)) (Nat.ne_of_gt (Nat.lt_trans nTO hb)) (Nat.ne_of_gt (Nat.lt_trans ni1 hb)) (Nat.ne_of_gt (Nat.lt_trans ni2 hb)) e3)⟩
      · subst h1
        have hb : h.objs.size = b := by simpa using hj
        subst hb
        exact ⟨x1, x2, by rw [hal]; exact y1, by rw [hal]; exact y2, up _ _ (Nat.ne_of_gt hSl) ht⟩
      · have hnone : (as ++ [h.objs.size])[j]? = none := List.getElem?_eq_none (by rw [List.length_append, List.length_singleton]; omega)
        rw [hnone] at hj; cases hj
end
theorem lz_len : typeLookup (.type "zip") "__len__" = pure none := am_miss_of_fast (by decide +kernel)
theorem lz_lh : typeLookup (.type "zip") "__length_hint__" = pure none := am_miss_of_fast (by decide +kernel)
section
variable {prog : Program} {w : World} {A : Around} {E : Value → Shared → Prop} {s : Shared} {z TI TO i1 i2 : Addr} {fp1 fp2 : List Addr} {n1 n2 : Nat} {P1 P2 : Nat → Value → Prop} {St1 St2 : Nat → Heap → Prop}
theorem lz_hint {r : Addr} (hT : s.TypeIs (.ref r) "zip") {Q : Bool → Shared → Prop} (h : Q true s) : wpAny (model prog w) A (Builtin.List.listLengthHint (.ref r)) Q E s := by
  unfold Builtin.List.listLengthHint
  refine wpAny_bind (wpAny_specialOf hT lz_len ?_)
  show wpAny _ _ (specialOf (.ref r) "__length_hint__" >>= _) _ _ _
  refine wpAny_bind (wpAny_specialOf hT lz_lh ?_)
  exact wpAny_pure h
/-- how things lie ahead of the loop -/
structure LzIn (h : Heap) (z TI TO i1 i2 S : Addr) (fp1 fp2 : List Addr) (St1 St2 : Nat → Heap → Prop) : Prop where
  zip : IsZip h z TI TO .none
  hTI : IsTupOf2 h TI (.ref i1) (.ref i2)
  hTO : ∃ a b, IsTupOf2 h TO a b
  st1 : St1 0 h
  st2 : St2 0 h
theorem lz_extend {R : Result → Shared → Prop} (Z : ZipSep2 z TI TO i1 i2 fp1 fp2) (D1 : Draws prog w A.in1.in1 i1 fp1 n1 P1 St1) (D2 : Draws prog w A.in1.in1 i2 fp2 n2 P2 St2) (S : Addr)
    (nz : z < S) (nTI : TI < S) (nTO : TO < S) (ni1 : i1 < S) (ni2 : i2 < S) (n1' : S ∉ fp1) (n2' : S ∉ fp2) (hn : min n1 n2 ≤ sizeLine) (res : Value) (c₀ : Nat)
    (hz : IsZip s.heap z TI TO .none) (hTI : IsTupOf2 s.heap TI (.ref i1) (.ref i2)) (hTO : ∃ a b, IsTupOf2 s.heap TO a b) (st1 : St1 0 s.heap) (st2 : St2 0 s.heap) (hS : s.heap.get? S = some { cls := .type "list", data := .seq #[] c₀ })
    (hR : ∀ h' tk acc c as, (∀ b o, b ≠ S → b ≠ z → b ≠ TO → b ≠ i1 → b ≠ i2 → s.heap.get? b = some o → h'.get? b = some o) → h'.get? S = some { cls := .type "list", dict := none, data := .seq acc c, slots := #[] } → as.length = min n1 n2 → LzG P1 P2 S h' as →
      acc.toList = as.map Value.ref → R (.ok (.ret res)) { s with heap := h', toks := tk }) :
    wpAny (model prog w) A.in1 (Builtin.List.listExtendWith (.ref S) (.ref z) res)
      (fun fin s' => match fin with | .done f => R (.ok f) s' | .again c' => c'.quiet = true ∧ codeAny (model prog w) A c' R s') (fun e s' => R (.error e) s') s := by
  have hSz : S ≠ z := Nat.ne_of_gt nz
  have key : ∀ (h : Heap) (c₁ tk : Nat), (∀ b o, b ≠ S → s.heap.get? b = some o → h.get? b = some o) →
      h.get? S = some { cls := .type "list", data := .seq #[] c₁ } → codeAny (model prog w) A (.builtin "list.extend.loop" ⟨[.ref S, .ref z, res], []⟩) R { s with heap := h, toks := tk } := by
    intro h c₁ tk hk hS₁
    have x : LzSt z TI TO i1 i2 S St1 St2 0 s.heap := ⟨hTI, st1, st2, .inl ⟨hz, hTO⟩⟩
    exact lz_loop (s := s) (h₁ := s.heap) Z D1 D2 nz nTI nTO ni1 ni2 n1' n2' hn res hR
      (min n1 n2) 0 h tk c₁ #[] [] (Nat.sub_zero _) (Nat.zero_le _) (x.keep (A := A.in1) D1 D2 hk (Nat.ne_of_lt nz) (Nat.ne_of_lt nTI) (Nat.ne_of_lt nTO) n1' n2') (fun b o a1 _ _ _ _ e => hk b o a1 e) hS₁ rfl rfl
      ⟨List.Pairwise.nil, (fun _ ha => nomatch ha), (fun j a hj => by simp at hj)⟩
  have hTy : s.TypeIs (.ref z) "zip" := ⟨_, hz, rfl⟩
  unfold Builtin.List.listExtendWith
  refine wpAny_bind (wpAny_typeOf (T := "zip") hTy ?_)
  have h1 : Builtin.List.listSameRef (.ref S) (.ref z) = false := by simp [Builtin.List.listSameRef, hSz]
  have h2 : (Value.type "zip" == Value.type "list") = false := by decide
  have h3 : (Value.type "zip" == Value.type "tuple") = false := by decide
  simp only [h1, h2, h3, Bool.or_false, Bool.false_eq_true, if_false]
  refine wpAny_bind (wpAny_pyIter_zip hz ?_)
  refine wpAny_bind (wpAny_holding (lz_hint hTy ?_))
  refine wpAny_ite_split (fun _ => ?_) (fun hab => absurd (by simp) hab)
  refine wpAny_bind (wpAny_rule ?_)
  refine wpAny_bind ?_
  show wpAny _ _ (updateSeq S (·.push .none) >>= fun _ => updateSeq S (·.pop)) _ _ _
  refine wpAny_bind (wpAny_updateSeq hS rfl ?_)
  have hS₂ := Heap.get?_update_self (Obj.mapSeq (·.push Value.none)) hS rfl
  refine wpAny_updateSeq (hz := by seq_fits) hS₂ rfl ?_
  have hS₃ := Heap.get?_update_self (Obj.mapSeq (·.pop)) hS₂ rfl
  refine wpAny_pure ⟨plainId_quiet PySem.F.plain_extend_loop _, key _ _ _ (fun b o hb e => ?_) hS₃⟩
  exact (Heap.get?_update_other _ _ (Ne.symm hb)).trans ((Heap.get?_update_other _ _ (Ne.symm hb)).trans e)
theorem lz_call {Q : Value → Shared → Prop} (Z : ZipSep2 z TI TO i1 i2 fp1 fp2) (D1 : Draws prog w A.in1.in1.in1 i1 fp1 n1 P1 St1) (D2 : Draws prog w A.in1.in1.in1 i2 fp2 n2 P2 St2) (hn : min n1 n2 ≤ sizeLine)
    (ni1 : i1 < s.heap.objs.size) (ni2 : i2 < s.heap.objs.size) (n1' : ∀ b ∈ fp1, b < s.heap.objs.size) (n2' : ∀ b ∈ fp2, b < s.heap.objs.size)
    (hz : IsZip s.heap z TI TO .none) (hTI : IsTupOf2 s.heap TI (.ref i1) (.ref i2)) (hTO : ∃ a b, IsTupOf2 s.heap TO a b) (st1 : St1 0 s.heap) (st2 : St2 0 s.heap)
    (hQ : ∀ h' tk acc c as, (∀ b o, b ≠ z → b ≠ TO → b ≠ i1 → b ≠ i2 → s.heap.get? b = some o → h'.get? b = some o) → h'.get? s.heap.objs.size = some { cls := .type "list", dict := none, data := .seq acc c, slots := #[] } → as.length = min n1 n2 → LzG P1 P2 s.heap.objs.size h' as →
      acc.toList = as.map Value.ref → Q (.ref s.heap.objs.size) { s with heap := h', toks := tk }) :
    wpAny (model prog w) A (call (.type "list") [.ref z]) Q E s := by
  refine callType_codes (Q₁ := fun obj s₁ => obj = .ref s.heap.objs.size ∧ s₁ = { s with heap := s.heap.push { cls := .type "list", data := .seq #[] } }) PySem.F.called_list (PySem.F.typeCall_list_1 _) PySem.F.entry_list_init
    (code_list_new _ ⟨rfl, rfl⟩) fun obj s₁ h₁ => ?_
  obtain ⟨rfl, rfl⟩ := h₁
  have hS : (s.heap.push { cls := .type "list", data := .seq #[] }).get? s.heap.objs.size = some { cls := .type "list", data := .seq #[] } := Heap.get?_push_size _ rfl
  refine ⟨⟨_, hS, rfl⟩, PySem.F.args_list_init_2 _ _, ?_⟩
  show wpAny _ _ (do let old ← Builtin.List.listItems (.ref s.heap.objs.size); Builtin.List.listUpdate (.ref s.heap.objs.size) (fun _ => #[]); letGo old.toList.reverse; Builtin.List.listExtendWith (.ref s.heap.objs.size) (.ref z) .none) _ _ _
  refine wpAny_bind ?_
  unfold Builtin.List.listItems
  refine wpAny_bind (wpAny_seqItems hS rfl (wpAny_pure ?_))
  show wpAny _ _ (updateSeq s.heap.objs.size (fun _ => #[]) >>= fun _ => letGo (#[] : Array Value).toList.reverse >>= fun _ => Builtin.List.listExtendWith (.ref s.heap.objs.size) (.ref z) .none) _ _ _
  refine wpAny_bind (wpAny_updateSeq hS rfl ?_)
  have hS₂ := Heap.get?_update_self (Obj.mapSeq (fun _ => (#[] : Array Value))) hS rfl
  have oth : ∀ b o, s.heap.get? b = some o → ((s.heap.push { cls := .type "list", data := .seq #[] }).update s.heap.objs.size (Obj.mapSeq (fun _ => (#[] : Array Value)))).get? b = some o :=
    fun b o e => (Heap.get?_update_other _ _ (Nat.ne_of_gt (Heap.lt_size e))).trans (Heap.get?_push_of_some _ e)
  refine wpAny_bind (wpAny_letGo ?_)
  obtain ⟨x, y, hTO⟩ := hTO
  refine lz_extend Z (A := A.in1) D1 D2 s.heap.objs.size (Heap.lt_size hz) (Heap.lt_size hTI) (Heap.lt_size hTO) ni1 ni2 (fun q => Nat.lt_irrefl _ (n1' _ q)) (fun q => Nat.lt_irrefl _ (n2' _ q)) hn .none _ (oth _ _ hz) (oth _ _ hTI) ⟨x, y, oth _ _ hTO⟩
    (D1.frame _ _ _ st1 fun b _ o e => oth b o e) (D2.frame _ _ _ st2 fun b _ o e => oth b o e) hS₂ fun h' tk acc c as hk hS' hl hG hacc => ?_
  exact ⟨rfl, hQ h' tk acc c as (fun b o a1 a2 a3 a4 e => hk b o (Nat.ne_of_lt (Heap.lt_size e)) a1 a2 a3 a4 (oth b o e)) hS' hl hG hacc⟩
end
end Snd
namespace Snd
open PySem PySem.Spec PyProof.Rows L2 Dt
variable [PrW]
/-- the pairs tracked at their addresses -/
def putZ : Hp → List Addr → List (V × V) → Hp
  | H, a :: as, p :: ps => putZ (upd H a (.tup [p.1, p.2])) as ps
  | H, _, _ => H
theorem putZ_off {b : Addr} : ∀ (as : List Addr) (ps : List (V × V)) (H : Hp), b ∉ as → putZ H as ps b = H b
  | [], _, _, _ => rfl
  | _ :: _, [], _, _ => rfl
  | a :: as, p :: ps, H, h => by
    show putZ (upd H a (.tup [p.1, p.2])) as ps b = H b
    rw [putZ_off as ps _ (fun z => h (List.mem_cons_of_mem _ z)), upd_ne (fun z => h (by rw [z]; exact List.mem_cons_self))]
theorem putZ_at : ∀ (as : List Addr) (ps : List (V × V)) (H : Hp), as.Nodup → ∀ (j : Nat) (t : Addr) (p : V × V), as[j]? = some t → ps[j]? = some p → putZ H as ps t = some (.tup [p.1, p.2])
  | a :: as, p :: ps, H, hn, 0, t, q, h1, h2 => by
    cases h1
    cases h2
    have hn' := List.nodup_cons.mp hn
    show putZ (upd H a (.tup [p.1, p.2])) as ps a = some (.tup [p.1, p.2])
    rw [putZ_off as ps _ hn'.1, upd_same]
  | a :: as, p :: ps, H, hn, j + 1, t, q, h1, h2 => putZ_at as ps (upd H a (.tup [p.1, p.2])) (List.nodup_cons.mp hn).2 j t q (by simpa using h1) (by simpa using h2)
  | [], _, _, _, j, t, q, h1, _ => by simp at h1
  | _ :: _, [], _, _, j, t, q, _, h2 => by simp at h2
theorem valsR : ∀ as : List Addr, Vals (as.map V.ref) (as.map Value.ref)
  | [] => .nil
  | _ :: as => .cons rfl (valsR as)
theorem vals_ix : ∀ {vs : List V} {us : List Value}, Vals vs us → ∀ {j : Nat} {u : Value}, us[j]? = some u → ∃ v, vs[j]? = some v ∧ RelV v u
  | _, _, .nil, j, u, h => by simp at h
  | _, _, .cons r t, 0, u, h => by
    cases h
    exact ⟨_, rfl, r⟩
  | _, _, .cons r t, j + 1, u, h => by
    obtain ⟨v, e, q⟩ := vals_ix t (j := j) (u := u) (by simpa using h)
    exact ⟨v, by simpa using e, q⟩
theorem zl_laid {X : Cx} {pins : List (Addr × Obj)} {σ : L2.St} {H : Hp} {s : Shared} {h' : Heap} {tk : Nat} {S : Addr} {acc : Array Value} {c : Nat} {as : List Addr} {vs ws : List V} {its its2 : List Value} (I : Inv X pins σ H s) (rv : Vals vs its) (rv2 : Vals ws its2)
    (hz : as.length ≤ sizeLine) (hSge : s.heap.objs.size ≤ S) (hk : ∀ b o, s.heap.get? b = some o → h'.get? b = some o) (hS : h'.get? S = some { cls := .type "list", dict := none, data := .seq acc c, slots := #[] }) (hl : as.length = min its.length its2.length)
    (hG : LzG (fun (i : Nat) x => its.toArray[i]? = some x) (fun (i : Nat) y => its2.toArray[i]? = some y) S h' as) (hacc : acc.toList = as.map Value.ref) :
    ∃ H' : Hp, L2.Same H H' ∧ H S = none ∧ H' S = some (.lst (as.map V.ref)) ∧ (∀ (j : Nat) t, as[j]? = some t → H t = none ∧ t ≠ S ∧ ∃ x y, vs[j]? = some x ∧ ws[j]? = some y ∧ H' t = some (.tup [x, y])) ∧ Inv X pins σ H' { s with heap := h', toks := tk } := by
  have hSn : S ∉ as := fun z => Nat.lt_irrefl _ (hG.above _ z)
  have nd : as.Nodup := List.Pairwise.imp (fun {a b} (h : a < b) => Nat.ne_of_lt h) hG.rise
  have new : ∀ t ∈ as, H t = none := fun t ht => I.hok.fresh (Nat.le_trans hSge (Nat.le_of_lt (hG.above t ht)))
  have newS : H S = none := I.hok.fresh hSge
  have lv : vs.length = its.length := rv.length
  have lw : ws.length = its2.length := rv2.length
  have zat : ∀ (j : Nat) t, as[j]? = some t → ∃ x y, vs[j]? = some x ∧ ws[j]? = some y ∧ (vs.zip ws)[j]? = some (x, y) := fun j t hj => by
    have hjl : j < as.length := (List.getElem?_eq_some_iff.mp hj).1
    have h1 : j < vs.length := by omega
    have h2 : j < ws.length := by omega
    exact ⟨vs[j], ws[j], List.getElem?_eq_getElem h1, List.getElem?_eq_getElem h2, List.getElem?_zip_eq_some.mpr ⟨List.getElem?_eq_getElem h1, List.getElem?_eq_getElem h2⟩⟩
  have off : ∀ b, b ∉ as → b ≠ S → putZ (upd H S (.lst (as.map V.ref))) as (vs.zip ws) b = H b := fun b h1 h2 => by rw [putZ_off as _ _ h1, upd_ne h2]
  have low : ∀ b o, s.heap.get? b = some o → b ∉ as ∧ b ≠ S := fun b o e => ⟨fun z => absurd (Nat.lt_of_lt_of_le (Heap.lt_size e) hSge) (Nat.not_lt.mpr (Nat.le_of_lt (hG.above b z))), Nat.ne_of_lt (Nat.lt_of_lt_of_le (Heap.lt_size e) hSge)⟩
  have kp : ∀ b u, H b = some u → (putZ (upd H S (.lst (as.map V.ref))) as (vs.zip ws)) b = some u := fun b u e => by
    rw [off b (fun z => by rw [new b z] at e; cases e) (fun z => by rw [z, newS] at e; cases e)]
    exact e
  have eS : putZ (upd H S (.lst (as.map V.ref))) as (vs.zip ws) S = some (.lst (as.map V.ref)) := by rw [putZ_off as _ _ hSn, upd_same]
  have atP : ∀ (j : Nat) t, as[j]? = some t → ∃ x y, vs[j]? = some x ∧ ws[j]? = some y ∧ putZ (upd H S (.lst (as.map V.ref))) as (vs.zip ws) t = some (.tup [x, y]) := fun j t hj => by
    obtain ⟨x, y, e1, e2, e3⟩ := zat j t hj
    exact ⟨x, y, e1, e2, putZ_at as _ _ nd j t (x, y) hj e3⟩
  refine ⟨putZ (upd H S (.lst (as.map V.ref))) as (vs.zip ws), kp, newS, eS, fun j t hj => ⟨new t (List.mem_of_getElem? hj), fun z => hSn (z ▸ List.mem_of_getElem? hj), atP j t hj⟩, ?_⟩
  refine I.call' (ch := []) rfl ⟨fun b o q _ _ _ => hk b o q, fun b o q _ _ _ => ⟨o.slots, hk b o q⟩, fun b o q n _ => ?_, fun b o q _ => ⟨o, hk b o q⟩, fun b xs q => kp b _ q, fun b o u q => kp b _ q, fun b ps q => ⟨#[], by rw [kp b _ q]; simp⟩⟩ (fun b u q => ?_) I.bare fun b z => by simp at z
  · obtain ⟨z1, z2⟩ := low b o q
    rw [off b z1 z2]
    exact n
  · by_cases hb : b ∈ as
    · obtain ⟨j, e1⟩ := List.mem_iff_getElem?.mp hb
      obtain ⟨x, y, e2, e3, e4⟩ := atP j b e1
      rw [e4] at q
      cases q
      obtain ⟨u, u2, f1, f2, f3⟩ := hG.pairs j b e1
      have f1 : its[j]? = some u := by simpa using f1
      have f2 : its2[j]? = some u2 := by simpa using f2
      obtain ⟨x', g1, g2⟩ := vals_ix rv f1
      obtain ⟨y', g3, g4⟩ := vals_ix rv2 f2
      rw [e2] at g1
      cases g1
      rw [e3] at g3
      cases g3
      exact ⟨by show 2 ≤ sizeLine; decide, [u, u2], .cons g2 (.cons g4 .nil), ⟨_, f3, rfl, _, rfl⟩⟩
    · by_cases hb2 : b = S
      · rw [hb2] at q ⊢
        rw [eS] at q
        cases q
        refine ⟨by rw [List.length_map]; omega, acc.toList, c, by rw [hacc]; exact valsR as, ?_⟩
        rw [Array.toArray_toList]
        exact hS
      · rw [off b hb hb2] at q
        exact (I.hok b u q).stay (fun d v _ y => hk d v y) (fun d y => kp d _ y) fun d xs y => kp d _ y
theorem zip_reps {K : PySem.W.Frag} {A : List Addr} {H' : Hp} : ∀ {as : List Addr} {vs ws : List V} {ds es : List D}, as.length = min vs.length ws.length → Reps K (hid A H') vs ds → Reps K (hid A H') ws es →
    (∀ (j : Nat) t, as[j]? = some t → ∃ x y, vs[j]? = some x ∧ ws[j]? = some y ∧ hid A H' t = some (.tup [x, y])) → Reps K (hid A H') (as.map V.ref) (zipD ds es)
  | [], vs, ws, ds, es, hl, r1, r2, _ => by
    have : zipD ds es = [] := by
      cases r1 with
      | nil => rfl
      | cons _ _ => cases r2 with
        | nil => rfl
        | cons _ _ => rw [List.length_cons, List.length_cons, List.length_nil] at hl; omega
    rw [this]
    exact .nil
  | a :: as, vs, ws, ds, es, hl, r1, r2, h => by
    cases r1 with
    | nil => simp at hl
    | @cons v vs d ds q1 t1 => cases r2 with
      | nil => simp at hl
      | @cons v2 ws d2 es q2 t2 =>
        obtain ⟨x, y, e1, e2, e3⟩ := h 0 a rfl
        cases e1
        cases e2
        refine .cons (.tup (.inl (.inl e3)) (by show 2 ≤ SZ; decide) (.cons q1 (.cons q2 .nil))) (zip_reps (by simp only [List.length_cons] at hl; omega) t1 t2 fun j t hj => ?_)
        obtain ⟨x, y, e1, e2, e3⟩ := h (j + 1) t (by simpa using hj)
        exact ⟨x, y, by simpa using e1, by simpa using e2, e3⟩
section
variable {X : Cx} {RX : RXT} {W : WX}
theorem de_lzip {a b : Expr} {p p2 q2 pos : Pos} {ga gb : EnvD → Res D} (hc : X.calm = true) (hg0 : Gl X "list") (hm0 : X.mg "list" = none) (hg : Gl X "zip") (hm : X.mg "zip" = none) (ha : PE X a (tE X.K RX W ga)) (hb : PE X b (tE X.K RX W gb))
    (hs : starEach [a, b] X.env = (false, eval a X.env) :: starEach [b] X.env) (hs2 : starEach [b] X.env = [(false, eval b X.env)]) :
    PE X (.Call (.Name "list" p) [.Call (.Name "zip" p2) [a, b] [] q2] [] pos) (tE X.K RX W fun ρ => do
      let x ← ga ρ
      let y ← gb ρ
      must (isSeq x && isSeq y) do
        let xs ← itD x
        let ys ← itD y
        must (decide (xs.length ≤ 100000)) (.ok (.lst (zipD xs ys)))) := by
  refine ⟨fun pins s σ H Q I ⟨A, ρ, r, q⟩ => ?_⟩
  have q : Out RX W (relE X.K A) (ga ρ >>= fun x => gb ρ >>= fun y => must (isSeq x && isSeq y) (itD x >>= fun xs => itD y >>= fun ys => must (decide (xs.length ≤ 100000)) (.ok (.lst (zipD xs ys))))) σ H Q := q
  have pa : PA X [a, b] (tCons (tE X.K RX W ga) (tCons (tE X.K RX W gb) tNil)) := pa_cons ha (pa_cons hb pa_nil (by rw [hs2]; rfl)) hs
  have hpl : (backTo q2 (starEach [b] X.env)).any (·.1) = false := by rw [hs2]; rfl
  refine Call_ (ld_blt I hg0 hm0 (show bootBuiltins (Str.ofString "list") = some (.type "list") by decide +kernel) (PyProof.Rows.callWith_type1 (PyProof.Rows.args_cons ?_ rfl) rfl rfl))
  refine Call_ (ld_blt I hg hm PyProof.Rows.boot_zip (PyProof.Rows.callWith_type1 (thn (pa.run q2 pins s σ H (fun vs H1 => ∃ v d v2 d2, vs = [v, v2] ∧ Live A H1 ∧ Rep X.K (hid A H1) v d ∧ Rep X.K (hid A H1) v2 d2 ∧ Out RX W (relE X.K A) (must (isSeq d && isSeq d2) (itD d >>= fun xs => itD d2 >>= fun ys => must (decide (xs.length ≤ 100000)) (.ok (.lst (zipD xs ys))))) σ H1 Q) I
    ⟨A, ρ, r, q.bind fun d v H1 _ e1 q1 h1 => ⟨A, ρ, r.up e1, h1.bind fun d2 v2 H2 _ e2 q2 h2 => ⟨v, d, v2, d2, rfl, (r.up e1).live.up e2, Rep.up (hid_up e2) _ _ q1, q2, h2⟩⟩⟩) fun us s1 ⟨vs, H1, I1, r1, v, d, v2, d2, ev, live, q1, q2, h1⟩ => ?_) hs hpl))
  subst ev
  obtain ⟨cc, h1⟩ := Out.must h1
  have fin : ∀ (k k2 : Bool) (a b : Addr) (ds es : List D), v = .ref a → v2 = .ref b → d = cond k (.lst ds) (.tup ds) → d2 = cond k2 (.lst es) (.tup es) →
      wpAny (model X.prog X.w) X.A (call (.type "zip") us) (fun v s₂ => wpAny (model X.prog X.w) X.A (spliced (backTo pos (starEach [] X.env))) (fun vs s₃ => wpAny (model X.prog X.w) X.A (call (.type "list") (v :: vs)) (EP X pins σ Q) X.xe s₃) X.xe s₂) X.xe s1 := by
    intro k k2 a b ds es ev ev2 ed ed2
    subst ev ev2 ed ed2
    have h1 : Out RX W (relE X.K A) (must (decide (ds.length ≤ 100000)) (.ok (.lst (zipD ds es)))) σ H1 Q := by cases k <;> cases k2 <;> exact h1
    obtain ⟨hlen, h1⟩ := Out.must h1
    have hlen := of_decide_eq_true hlen
    obtain ⟨vs, hq, hz, hr⟩ := sqX_of q1
    obtain ⟨ws, hq2, hz2, hr2⟩ := sqX_of q2
    obtain ⟨its, rv, p, hlt⟩ := sqX_items I1 hq
    obtain ⟨its2, rv2, p2, hlt2⟩ := sqX_items I1 hq2
    have lv := rv.length
    have lw := rv2.length
    have hh : X.A.handled = none := I1.ok.hd hc
    cases r1 with
    | cons r rr =>
      cases rr with
      | cons r' rr =>
        cases rr
        cases r
        cases r'
        refine zip_begins2 (beginsX k a its.toArray) (beginsX k2 b its2.toArray) p p2 fun h' hz' hTI hTO h1' h2' hsz hk => PyProof.Rows.args_nil ?_
        have off : ∀ {n m : Nat}, n ≠ m → s1.heap.objs.size + n ≠ s1.heap.objs.size + m := fun h e => h (Nat.add_left_cancel e)
        have zx : ZX (s1.heap.objs.size + 4) (s1.heap.objs.size + 2) (s1.heap.objs.size + 3) s1.heap.objs.size (s1.heap.objs.size + 1) := ⟨off (by decide), off (by decide), off (by decide), off (m := 0) (by decide), off (by decide), off (m := 0) (by decide), off (m := 0) (by decide), off (by decide), off (by decide), off (n := 0) (by decide)⟩
        have far : ∀ {c : Addr} (n : Nat), c < s1.heap.objs.size → c ≠ s1.heap.objs.size + n := fun n hc e => by rw [e] at hc; exact absurd hc (Nat.not_lt.mpr (Nat.le_add_right _ _))
        have Z := zx.sep (a := a) (b := b) (far 4 hlt) (far 3 hlt) (far 1 hlt) (far 4 hlt2) (far 3 hlt2) (far 0 hlt2)
        have D1 := drawsX (prog := X.prog) (w := X.w) (A := X.A.in1.in1.in1) hh k s1.heap.objs.size a (far 0 hlt) its.toArray
        have D2 := drawsX (prog := X.prog) (w := X.w) (A := X.A.in1.in1.in1) hh k2 (s1.heap.objs.size + 1) b (far 1 hlt2) its2.toArray
        have px : IsX k h' a its.toArray := by
          cases k
          · exact (show s1.heap.IsTuple a its.toArray from p).at fun o e => hk a o e
          · exact (show s1.heap.IsList a its.toArray from p).at fun o e => hk a o e
        have px2 : IsX k2 h' b its2.toArray := by
          cases k2
          · exact (show s1.heap.IsTuple b its2.toArray from p2).at fun o e => hk b o e
          · exact (show s1.heap.IsList b its2.toArray from p2).at fun o e => hk b o e
        have lt' : ∀ {c : Addr} {o}, s1.heap.get? c = some o → c < h'.objs.size := fun e => Heap.lt_size (hk _ _ e)
        have bnd : ∀ n, n ≤ 4 → s1.heap.objs.size + n < h'.objs.size := fun n hn => by rw [hsz]; exact Nat.add_lt_add_left (by omega) _
        have hmin : min its.toArray.size its2.toArray.size ≤ sizeLine := by
          rw [← SZ_eq]
          rw [List.size_toArray, List.size_toArray, ← lv]
          exact Nat.le_trans (Nat.min_le_left _ _) hz
        have hle : s1.heap.objs.size ≤ h'.objs.size := Nat.le_of_lt (bnd 0 (by decide))
        refine lz_call (s := { s1 with heap := h' }) (A := X.A) Z D1 D2 hmin (bnd 0 (by decide)) (bnd 1 (by decide)) (fun c hc' => ?_) (fun c hc' => ?_) hz' hTI ⟨_, _, hTO⟩ ⟨itX_new h1', px⟩ ⟨itX_new h2', px2⟩ fun h'' tk acc c as hk'' hS hl hG hacc => ?_
        · have e : c = s1.heap.objs.size ∨ c = a := by simpa using hc'
          rcases e with e | e
          · rw [e]; exact bnd 0 (by decide)
          · rw [e]; exact Nat.lt_of_lt_of_le hlt hle
        · have e : c = s1.heap.objs.size + 1 ∨ c = b := by simpa using hc'
          rcases e with e | e
          · rw [e]; exact bnd 1 (by decide)
          · rw [e]; exact Nat.lt_of_lt_of_le hlt2 hle
        · have hkk : ∀ c o, s1.heap.get? c = some o → h''.get? c = some o := fun c o e => by
            have l := Heap.lt_size e
            exact hk'' c o (far 4 l) (far 3 l) (far 0 l) (far 1 l) (hk c o e)
          have hl : as.length = min its.length its2.length := by simpa using hl
          obtain ⟨H', e1, n1, eS, eT, J⟩ := zl_laid (tk := tk) (vs := vs) (ws := ws) I1 rv rv2 (by rw [hl]; simpa using hmin) hle hkk hS hl hG hacc
          refine ⟨.ref _, H', J, rfl, ?_⟩
          have sm : Same H1 H' := .of e1
          have hl2 : as.length = min vs.length ws.length := by rw [hl, lv, lw]
          refine h1.ok sm (.lst (vs := as.map V.ref) (by rw [hid_out (live.new n1)]; exact eS) (by rw [List.length_map, hl2]; exact Nat.le_trans (Nat.min_le_left _ _) hz) (zip_reps hl2 (Reps.up (hid_up sm) _ _ hr) (Reps.up (hid_up sm) _ _ hr2) fun j t hj => ?_))
          obtain ⟨n2, n3, x, y, g1, g2, g3⟩ := eT j t hj
          exact ⟨x, y, g1, g2, by rw [hid_out (live.new n2)]; exact g3⟩
  cases q1 with
  | @tup a vs ds hp hz hr =>
    cases q2 with
    | @tup b ws es hp2 hz2 hr2 => exact fin false false a b ds es rfl rfl rfl rfl
    | @lst b ws es hp2 hz2 hr2 => exact fin false true a b ds es rfl rfl rfl rfl
    | _ => cases cc
  | @lst a vs ds hp hz hr =>
    cases q2 with
    | @tup b ws es hp2 hz2 hr2 => exact fin true false a b ds es rfl rfl rfl rfl
    | @lst b ws es hp2 hz2 hr2 => exact fin true true a b ds es rfl rfl rfl rfl
    | _ => cases cc
  | _ => cases cc
end
end Snd
namespace Snd
open PySem PySem.Spec PyProof.Rows L2 Dt
variable [PrW]

/-! ### targets -/
def setAllV : List Nat → List V → L2.St → L2.St
  | i :: is, v :: vs, σ => setAllV is vs (σ.set i (some v))
  | _, _, σ => σ
def gT (K : PySem.W.Frag) : MT → TG
  | .nm i => gName i
  | .tp is => fun v σ H Q => ∃ a xs, v = .ref a ∧ (SqT K H a xs ∨ SqL K H a xs) ∧ xs.length = is.length ∧ Q (setAllV is xs σ) H
def gNames : List Nat → TGs
  | [] => gNil
  | i :: is => gCons (gName i) (gNames is)
theorem gNames_of : ∀ (is : List Nat) (xs : List V) (σ : L2.St) (H : Hp) (Q : L2.St → Hp → Prop), xs.length = is.length → Q (setAllV is xs σ) H → gNames is xs σ H Q
  | [], [], σ, H, Q, _, q => ⟨rfl, q⟩
  | i :: is, [], σ, H, Q, h, q => by simp at h
  | [], x :: xs, σ, H, Q, h, q => by simp at h
  | i :: is, x :: xs, σ, H, Q, h, q => ⟨x, xs, rfl, gNames_of is xs (σ.set i (some x)) H Q (by simpa using h) q⟩
theorem RE.setAll {K : PySem.W.Frag} {A : List Addr} {H : Hp} : ∀ {is : List Nat} {vs : List V} {ds : List D} {σ : L2.St} {ρ ρ1 : EnvD}, RE K A H σ ρ → Reps K (hid A H) vs ds → Dt.setAll is ds ρ = .ok ρ1 → vs.length = is.length ∧ RE K A H (setAllV is vs σ) ρ1
  | [], [], [], σ, ρ, ρ1, r, .nil, e => by cases e; exact ⟨rfl, r⟩
  | [], _, _ :: _, σ, ρ, ρ1, r, _, e => nomatch e
  | _ :: _, _, [], σ, ρ, ρ1, r, _, e => nomatch e
  | i :: is, v :: vs, d :: ds, σ, ρ, ρ1, r, .cons a t, e => by
    obtain ⟨h1, h2⟩ := RE.setAll (r.set (i := i) a) t (show Dt.setAll is ds (ρ.set i (some d)) = .ok ρ1 from e)
    exact ⟨by simp [h1], h2⟩
theorem wipe_get2 {σ : L2.St} {i : Nat} : ∀ {vs : List Nat}, i ∈ vs → (wipe σ vs)[i]? = if i < σ.length then some none else none
  | v :: vs, h => by
    show ((wipe σ vs).set v none)[i]? = _
    by_cases hi : v = i
    · subst hi
      by_cases hl : v < σ.length
      · rw [List.getElem?_set_self (by rw [wipe_length]; exact hl), if_pos hl]
      · rw [List.getElem?_eq_none (by simp [wipe_length]; omega), if_neg hl]
    · rw [List.getElem?_set_ne hi]
      exact wipe_get2 (by simpa [Ne.symm hi] using h)
theorem wipe_eq {σ τ : L2.St} {vs : List Nat} (hl : σ.length = τ.length) (h : ∀ i, i ∉ vs → σ[i]? = τ[i]?) : wipe σ vs = wipe τ vs := by
  apply List.ext_getElem?
  intro i
  by_cases hi : i ∈ vs
  · rw [wipe_get2 hi, wipe_get2 hi, hl]
  · rw [wipe_get hi, wipe_get hi, h i hi]
theorem setAllV_len : ∀ (is : List Nat) (vs : List V) (σ : L2.St), (setAllV is vs σ).length = σ.length
  | [], _, _ => by simp [setAllV]
  | _ :: _, [], _ => by simp [setAllV]
  | i :: is, v :: vs, σ => by simp [setAllV, setAllV_len is vs]
theorem setAllV_out : ∀ (is : List Nat) (vs : List V) (σ : L2.St) (i : Nat), i ∉ is → (setAllV is vs σ)[i]? = σ[i]?
  | [], _, _, _, _ => by simp [setAllV]
  | _ :: _, [], _, _, _ => by simp [setAllV]
  | j :: is, v :: vs, σ, i, h => by
    simp only [List.mem_cons, not_or] at h
    simp only [setAllV]
    rw [setAllV_out is vs _ i h.2, List.getElem?_set_ne (Ne.symm h.1)]
theorem gT_of {K : PySem.W.Frag} {A : List Addr} {H : Hp} {σ : L2.St} {ρ ρ1 : EnvD} {t : MT} {v : V} {d : D} {Q : L2.St → Hp → Prop} (r : RE K A H σ ρ) (h : Rep K (hid A H) v d) (e : bindT t d ρ = .ok ρ1)
    (k : ∀ σ1, RE K A H σ1 ρ1 → σ1.length = σ.length → (∀ i, i ∉ t.slots → σ1[i]? = σ[i]?) → Q σ1 H) : gT K t v σ H Q := by
  cases t with
  | nm i =>
    cases e
    refine k _ (r.set h) (by simp) fun j hj => ?_
    have hj : j ≠ i := by simpa [MT.slots] using hj
    rw [List.getElem?_set_ne (Ne.symm hj)]
  | tp is =>
    cases h with
    | @tup a vs ds hp hz hr =>
      obtain ⟨h1, h2⟩ := RE.setAll r hr e
      exact ⟨a, vs, rfl, .inl (hidSq hp), h1, k _ h2 (setAllV_len is vs σ) fun i hi => setAllV_out is vs σ i hi⟩
    | @lst a vs ds hp hz hr =>
      obtain ⟨h1, h2⟩ := RE.setAll r hr e
      exact ⟨a, vs, rfl, .inr (SqL.of (hid_same A H _ _ hp)), h1, k _ h2 (setAllV_len is vs σ) fun i hi => setAllV_out is vs σ i hi⟩
    | _ => cases e

/-! ### for each -/
def collR (f : D → Res (Option D)) : List D → Res (List D)
  | [] => .ok []
  | x :: xs => match f x with
    | .ok (some y) => match collR f xs with
      | .ok ys => .ok (y :: ys)
      | _ => .stuck
    | .ok none => collR f xs
    | _ => .stuck
theorem mapR_coll (f : D → Res D) : ∀ xs, mapR f xs = collR (fun x => f x >>= fun y => .ok (some y)) xs
  | [] => rfl
  | x :: xs => by
    unfold mapR collR
    cases f x with
    | ok y =>
      simp only [ok_bind]
      rw [mapR_coll f xs]
      all_goals (cases collR (fun x => f x >>= fun y => Res.ok (some y)) xs <;> rfl)
    | exc e => rfl
    | stuck => rfl
theorem filR_coll (c f : D → Res D) : ∀ xs, filR c f xs = collR (fun x => match c x with
    | .ok (.bl true) => f x >>= fun y => .ok (some y)
    | .ok (.bl false) => .ok none
    | _ => .stuck) xs
  | [] => rfl
  | x :: xs => by
    unfold filR collR
    rw [filR_coll c f xs]
    cases c x with
    | ok d =>
      cases d with
      | bl b =>
        cases b with
        | true =>
          cases f x with
          | ok y =>
            dsimp only [ok_bind]
            all_goals (generalize collR _ xs = r; cases r <;> rfl)
          | exc e => rfl
          | stuck => rfl
        | false => rfl
      | _ => rfl
    | exc e => rfl
    | stuck => rfl
theorem collR_ok {f : D → Res (Option D)} {x : D} {xs ys : List D} (h : collR f (x :: xs) = .ok ys) : (∃ y zs, f x = .ok (some y) ∧ collR f xs = .ok zs ∧ ys = y :: zs) ∨ (f x = .ok none ∧ collR f xs = .ok ys) := by
  unfold collR at h
  split at h
  · rename_i y hy
    split at h
    · rename_i zs hz
      cases h
      exact .inl ⟨y, zs, hy, hz, rfl⟩
    · cases h
  · rename_i hy
    exact .inr ⟨hy, h⟩
  · cases h
theorem collR_noExc {f : D → Res (Option D)} : ∀ {xs : List D} {e : Ex}, collR f xs ≠ .exc e
  | [], _, h => nomatch h
  | x :: xs, e, h => by
    unfold collR at h
    split at h
    · split at h
      · cases h
      · cases h
    · exact collR_noExc h
    · cases h
theorem collR_len {f : D → Res (Option D)} : ∀ {xs ys : List D}, collR f xs = .ok ys → ys.length ≤ xs.length
  | [], ys, h => by cases h; exact Nat.le_refl _
  | x :: xs, ys, h => by
    rcases collR_ok h with ⟨y, zs, _, h2, rfl⟩ | ⟨_, h2⟩
    · have := collR_len h2
      simp only [List.length_cons]
      omega
    · have := collR_len h2
      simp only [List.length_cons]
      omega

/-! ### comprehensions -/
abbrev W0 : WX := fun _ _ _ _ => False
section
variable {X : Cx} {RX : RXT} {W : WX} {K : PySem.W.Frag}
/-- the reading of a comprehension: one turn is told by its test and its element -/
theorem lc_read {t : MT} {gi : EnvD → Res (List D)} {f : EnvD → Res (Option D)} {tt : TT} {te : TE} {σ : L2.St} {H : Hp} {Q : VK}
    (turn : ∀ (A : List Addr) (ρ1 : EnvD) (σ1 : L2.St) (H1 : Hp) (P : Hp → Prop) (N : V → Hp → Prop), RE K A H1 σ1 ρ1 →
      (f ρ1 = .ok none → ∀ H2, Same H1 H2 → P H2) → (∀ y, f ρ1 = .ok (some y) → ∀ v H2, Same H1 H2 → Rep K (hid A H2) v y → N v H2) → (∀ e, f ρ1 ≠ .exc e) → f ρ1 ≠ .stuck →
      tt σ1 H1 fun b H3 => if b = true then te σ1 H3 N else P H3)
    (h : tF K RX W (fun ρ => do
      let xs ← gi ρ
      collR (fun x => bindT t x (wipeE ρ t.slots) >>= fun ρ1 => f ρ1) xs) σ H Q) : tLc (tI K RX W gi) (gT K t) tt te t.slots σ H Q := by
  obtain ⟨A, ρ, r, h⟩ := h
  refine ⟨A, ρ, r, ?_⟩
  dsimp only at h
  generalize hw : gi ρ = w at h
  cases w with
  | exc e => exact h
  | stuck => exact h
  | ok xs =>
    rintro J H1 e1 ⟨hxs, srcs, hsrc, ok⟩ D hD
    have h : Out RX W (relF K A H) (collR (fun x => bindT t x (wipeE ρ t.slots) >>= fun ρ1 => f ρ1) xs) σ H Q := h
    generalize hc : collR (fun x => bindT t x (wipeE ρ t.slots) >>= fun ρ1 => f ρ1) xs = c at h
    cases c with
    | exc e => exact absurd hc collR_noExc
    | stuck => exact h.elim
    | ok total =>
      have hn : Nu H D := e1.free hD
      have rA : RE K A H1 σ ρ := r.up e1
      have wk : Walk J xs.length (fun H => Live (D :: A) H ∧ ∀ p ∈ srcs, p.ok K (hid (D :: A) H)) (fun i H x H' => ∃ d, xs[i]? = some d ∧ Same H H' ∧ Rep K (hid (D :: A) H') x d) :=
        ⟨fun i H hi g => ok.goes _ H i g.1 g.2 hi, fun H g => ok.stops _ H g.1 g.2, fun i H x H' hi g y => ok.yields _ H i x H' g.1 g.2 hi y⟩
      have sub : ∀ {H2 : Hp}, Same H1 H2 → Sm (hid A H1) (hid (D :: A) H2) := fun e => (hid_new (.of hD)).trans (hid_up e)
      have liveD : ∀ {H2 : Hp} {acc : List V}, Same H1 H2 → H2 D = some (.lst acc) → Live (D :: A) H2 := fun e eD a ha => by
        rcases List.mem_cons.mp ha with rfl | ha
        · rw [eD]; simp
        · exact (rA.live.up e) a ha
      refine lc_it wk (fun i H2 => ∃ acc ys zs, Same H1 H2 ∧ H2 D = some (.lst acc) ∧ Reps K (hid (D :: A) H2) acc ys ∧ collR (fun x => bindT t x (wipeE ρ t.slots) >>= fun ρ1 => f ρ1) (xs.drop i) = .ok zs ∧ total = ys ++ zs ∧ ys.length ≤ i)
        ⟨[], [], total, same_upd hD, upd_same, .nil, by simpa using hc, rfl, Nat.le_refl _⟩ ?_ ?_ ?_
      · rintro i H2 hi ⟨acc, ys, zs, e2, eD, _⟩
        exact ⟨liveD e2 eD, fun p hp => Src.up (sub e2) (hsrc p hp)⟩
      · rintro i x H2 H3 hi ⟨acc, ys, zs, e2, eD, ra, hz, ht, hl⟩ ⟨d, hd, e3, rx⟩
        have hdrop : xs.drop i = d :: xs.drop (i + 1) := by
          rw [List.drop_eq_getElem_cons hi]
          congr 1
          have : xs[i]? = some xs[i] := by simp [hi]
          rw [this] at hd
          exact Option.some.inj hd
        rw [hdrop] at hz
        have e13 : Same H1 H3 := e2.trans e3
        have eD3 : H3 D = some (.lst acc) := e3.lst eD
        have rB : RE K (D :: A) H3 (wipe σ t.slots) (wipeE ρ t.slots) := by
          refine ⟨liveD e13 eD3, e13.tabs rA.tabs, (rA.wipe t.slots).len, fun j dj hj => ?_⟩
          obtain ⟨vj, q1, q2⟩ := (rA.wipe t.slots).vals j dj hj
          exact ⟨vj, q1, Rep.up (sub e13) _ _ q2⟩
        have hb : ∃ ρ1, bindT t d (wipeE ρ t.slots) = .ok ρ1 := by
          rcases collR_ok hz with ⟨y, zs', h1, _⟩ | ⟨h1, _⟩
          · obtain ⟨ρ1, h2, _⟩ := bind_ok h1; exact ⟨ρ1, h2⟩
          · obtain ⟨ρ1, h2, _⟩ := bind_ok h1; exact ⟨ρ1, h2⟩
        obtain ⟨ρ1, hb⟩ := hb
        have hz' : collR (fun x => bindT t x (wipeE ρ t.slots) >>= fun ρ1 => f ρ1) (d :: xs.drop (i + 1)) = .ok zs := hz
        refine gT_of rB rx hb fun σ2 r2 l2 o2 => ⟨?_, ?_⟩
        · refine wipe_eq (by rw [l2, wipe_length]) fun j hj => ?_
          rw [o2 j hj, wipe_get hj]
        · have fx : (bindT t d (wipeE ρ t.slots) >>= fun ρ1 => f ρ1) = f ρ1 := by rw [hb]; rfl
          refine turn (D :: A) ρ1 σ2 H3 _ _ r2 (fun hf H4 e4 => ?_) (fun y hf v H4 e4 ry => ?_) (fun e he => ?_) (fun he => ?_)
          · rcases collR_ok hz' with ⟨y, zs', h1, _⟩ | ⟨_, h2⟩
            · rw [fx, hf] at h1; cases h1
            · exact ⟨acc, ys, zs, e13.trans e4, e4.lst eD3, Reps.up (hid_up (e3.trans e4)) _ _ ra, h2, ht, by omega⟩
          · rcases collR_ok hz' with ⟨y', zs', h1, h2, h3⟩ | ⟨h1, _⟩
            · rw [fx, hf] at h1
              cases h1
              subst h3
              have eD4 : H4 D = some (.lst acc) := e4.lst eD3
              have la : acc.length ≤ i := by rw [ra.length]; exact hl
              refine ⟨acc, eD4, ?_, acc ++ [v], ys ++ [y], zs', (e13.trans e4).write (.of hD) eD4 nc_lst, upd_same, ?_, h2, by rw [ht]; simp, by simp; omega⟩
              · rw [← SZ_eq]; omega
              · rw [hid_upd List.mem_cons_self]
                exact (Reps.up (hid_up (e3.trans e4)) _ _ ra).app (.cons ry .nil)
            · rw [fx, hf] at h1; cases h1
          · rcases collR_ok hz' with ⟨y', zs', h1, _⟩ | ⟨h1, _⟩
            · rw [fx, he] at h1; cases h1
            · rw [fx, he] at h1; cases h1
          · rcases collR_ok hz' with ⟨y', zs', h1, _⟩ | ⟨h1, _⟩
            · rw [fx, he] at h1; cases h1
            · rw [fx, he] at h1; cases h1
      · rintro H2 ⟨acc, ys, zs, e2, eD, ra, hz, ht, hl⟩
        rw [List.drop_length] at hz
        cases hz
        rw [List.append_nil] at ht
        subst ht
        have hzl : acc.length ≤ SZ := by rw [ra.length]; omega
        exact h _ _ (e1.trans e2) ⟨D, acc, rfl, hn, eD, hzl, ra⟩
end
end Snd
namespace SortL
open PySem
structure LamS1 (sc scope : Scope) (y : Str) : Prop where
  kind : scope.kind = .function
  co : scope.isCoroutine = false
  gen : scope.isGenerator = false
  own : ∀ z ∈ scope.names, z.2 ≠ .cell ∧ (z.2 = .local → z.1 = y)
  loc : scope.names.lookup y = some .local
  free : ∀ z ∈ scope.names, z.2 = .free → sc.names.lookup z.1 = some .cell ∨ sc.names.lookup z.1 = some .free
def lam1B (sc scope : Scope) (y : Str) : Bool :=
  decide (scope.kind = .function) && !scope.isCoroutine && !scope.isGenerator && decide (scope.names.lookup y = some .local) &&
    scope.names.all fun z => !decide (z.2 = .cell) && (!decide (z.2 = .local) || decide (z.1 = y)) && (!decide (z.2 = .free) || decide (sc.names.lookup z.1 = some .cell) || decide (sc.names.lookup z.1 = some .free))
theorem lam1_by {sc scope : Scope} {y : Str} (h : lam1B sc scope y = true) : LamS1 sc scope y := by
  unfold lam1B at h
  simp only [List.all_eq_true, Bool.and_eq_true, Bool.not_eq_true', Bool.or_eq_true, decide_eq_false_iff_not, decide_eq_true_eq] at h
  obtain ⟨⟨⟨⟨h1, h2⟩, h3⟩, h5⟩, h4⟩ := h
  refine ⟨h1, h2, h3, fun z hz => ⟨(h4 z hz).1.1, fun e => ?_⟩, h5, fun z hz e => ?_⟩
  · rcases (h4 z hz).1.2 with q | q
    · exact absurd e q
    · exact q
  · rcases (h4 z hz).2 with (q | q) | q
    · exact absurd e q
    · exact .inl q
    · exact .inr q
end SortL
namespace Snd
open PySem PySem.Spec PyProof.Rows L2 Dt
variable [PrW]

/-! ### the checker: an expression of the row against one of ours -/
def okX : Expr → Bool
  | .Starred .. => false
  | .Set .. => false
  | .Slice .. => false
  | _ => true
def nmOk (x : Str) : Bool := !(x == ("__debug__" : Str)) && !(x == ("__classdict__" : Str))
def visB (sc : Scope) (x : Str) : Bool := match sc.names.lookup x with
  | some .local => true
  | some .cell => true
  | some .free => true
  | _ => false
def glB (sc : Scope) (x : Str) : Bool := match sc.names.lookup x with
  | some .globalImplicit => true
  | _ => false
def opM : Bop → Operator → Bool
  | .add, .Add => true
  | .sub, .Sub => true
  | .mul, .Mult => true
  | .fdiv, .FloorDiv => true
  | .mod, .Mod => true
  | _, _ => false
def copM : Cop → CmpOp → Bool
  | .eq, .Eq => true
  | .ne, .NotEq => true
  | .lt, .Lt => true
  | .le, .LtE => true
  | .gt, .Gt => true
  | .ge, .GtE => true
  | .inn, .In => true
  | .nin, .NotIn => true
  | .iss, .Is => true
  | .isns, .IsNot => true
  | _, _ => false
/-- a comprehension's or a for's target; own: who may be stored -/
def locB (sc : Scope) (fn : Str → Bool) (x : Str) : Bool := match sc.names.lookup x with
  | some .local => true
  | some .cell => fn x
  | _ => false
def chkNames (N : List Str) (sc : Scope) (fn : Str → Bool) : List Nat → List Expr → Bool
  | [], [] => true
  | i :: is, .Name x _ :: es => decide (N[i]? = some x) && locB sc fn x && chkNames N sc fn is es
  | _, _ => false
def chkT (N : List Str) (sc : Scope) (fn : Str → Bool) : MT → Expr → Bool
  | .nm i, .Name x _ => decide (N[i]? = some x) && locB sc fn x
  | .tp is, .Tuple es _ _ => chkNames N sc fn is es
  | _, _ => false
def ownOf (N : List Str) (is : List Nat) : List (Str × Nat) := is.map fun i => (N.getD i "", i)
def isTup : Expr → Bool
  | .Tuple .. => true
  | _ => false
def tyOfB1 : B1 → Option (String × String)
  | .isstr => some ("isinstance", "str")
  | .isint => some ("isinstance", "int")
  | .isbool => some ("isinstance", "bool")
  | .istuple => some ("isinstance", "tuple")
  | _ => none
def nameB1 : B1 → String
  | .len => "len"
  | .tuple => "tuple"
  | .list => "list"
  | .int => "int"
  | .str => "str"
  | .all => "all"
  | .any => "any"
  | .min => "min"
  | .max => "max"
  | .sorted => "sorted"
  | .sum => "sum"
  | .ord => "ord"
  | .dictT => "dict"
  | .dictS => "dict"
  | .ptup => "tuple"
  | _ => ""
def nameB2 : B2 → String
  | .join => "join"
  | .index => "index"
  | .count => "count"
  | .zfill => "zfill"
def notCall0 : Expr → Bool
  | .Call _ [] _ _ => false
  | _ => true
/-! what an expression is -/
def asName : Expr → Option Str
  | .Name x _ => some x
  | _ => none
def asInt : Expr → Option Int
  | .Constant (.int i) _ _ => some i
  | _ => none
def asStr : Expr → Option Str
  | .Constant (.str i) _ _ => some i
  | _ => none
def asBl : Expr → Option Bool
  | .Constant (.bool i) _ _ => some i
  | _ => none
def asNon : Expr → Bool
  | .Constant .none _ _ => true
  | _ => false
def asTup : Expr → Option (List Expr)
  | .Tuple xs _ _ => some xs
  | _ => none
def asLst : Expr → Option (List Expr)
  | .List xs _ => some xs
  | _ => none
def asBin : Expr → Option (Expr × Operator × Expr)
  | .BinOp x p y _ => some (x, p, y)
  | _ => none
def asUn : Expr → Option (UnaryOp × Expr)
  | .UnaryOp p x _ => some (p, x)
  | _ => none
def asBool1 : Expr → Option (PySem.BoolOp × Expr)
  | .BoolOp p [x] _ => some (p, x)
  | _ => none
def asBool2 : Expr → Option (PySem.BoolOp × Expr × Expr)
  | .BoolOp p (x :: y :: r) q => some (p, x, .BoolOp p (y :: r) q)
  | _ => none
def asCmp : Expr → Option (Expr × CmpOp × Expr)
  | .Compare x [p] [y] _ => some (x, p, y)
  | _ => none
def asChain : Expr → Option (Expr × CmpOp × Expr × CmpOp × Expr)
  | .Compare x [p1, p2] [y, z] _ => some (x, p1, y, p2, z)
  | _ => none
def asSub : Expr → Option (Expr × Expr)
  | .Subscript x y _ => some (x, y)
  | _ => none
def asSlice : Expr → Option (Option Expr × Option Expr)
  | .Slice l h none _ => some (l, h)
  | _ => none
def asComp : Expr → Option (Expr × Expr × Expr × List Expr × Scope)
  | .ListComp elt gs s2 _ => match gs with
    | [g] => if g.is_async = 0 then some (elt, g.target, g.iter, g.ifs, s2) else none
    | _ => none
  | _ => none
def asCallN : Expr → Option (Str × List Expr)
  | .Call (.Name x _) xs [] _ => some (x, xs)
  | _ => none
def asMeth : Expr → Option (Expr × Str × Pos × List Expr × Pos)
  | .Call (.Attribute o m apos) xs [] pos => some (o, m, apos, xs, pos)
  | _ => none
theorem asName_of {e : Expr} {x : Str} (h : asName e = some x) : ∃ p, e = .Name x p := by
  cases e <;> (cases h <;> exact ⟨_, rfl⟩)
theorem asInt_of {e : Expr} {x : Int} (h : asInt e = some x) : ∃ j p, e = .Constant (.int x) j p := by
  cases e with
  | Constant c j p => cases c <;> (cases h <;> exact ⟨_, _, rfl⟩)
  | _ => exact nomatch h
theorem asStr_of {e : Expr} {x : Str} (h : asStr e = some x) : ∃ j p, e = .Constant (.str x) j p := by
  cases e with
  | Constant c j p => cases c <;> (cases h <;> exact ⟨_, _, rfl⟩)
  | _ => exact nomatch h
theorem asBl_of {e : Expr} {x : Bool} (h : asBl e = some x) : ∃ j p, e = .Constant (.bool x) j p := by
  cases e with
  | Constant c j p => cases c <;> (cases h <;> exact ⟨_, _, rfl⟩)
  | _ => exact nomatch h
theorem asNon_of {e : Expr} (h : asNon e = true) : ∃ j p, e = .Constant .none j p := by
  cases e with
  | Constant c j p => cases c <;> (first | exact ⟨_, _, rfl⟩ | cases h)
  | _ => exact nomatch h
theorem asTup_of {e : Expr} {x : List Expr} (h : asTup e = some x) : ∃ j p, e = .Tuple x j p := by
  cases e <;> (cases h <;> exact ⟨_, _, rfl⟩)
theorem asLst_of {e : Expr} {x : List Expr} (h : asLst e = some x) : ∃ p, e = .List x p := by
  cases e <;> (cases h <;> exact ⟨_, rfl⟩)
theorem asBin_of {e x y : Expr} {p : Operator} (h : asBin e = some (x, p, y)) : ∃ q, e = .BinOp x p y q := by
  cases e <;> (cases h <;> exact ⟨_, rfl⟩)
theorem asUn_of {e x : Expr} {p : UnaryOp} (h : asUn e = some (p, x)) : ∃ q, e = .UnaryOp p x q := by
  cases e <;> (cases h <;> exact ⟨_, rfl⟩)
theorem asBool1_of {e x : Expr} {p : PySem.BoolOp} (h : asBool1 e = some (p, x)) : ∃ q, e = .BoolOp p [x] q := by
  cases e with
  | BoolOp o xs q =>
    match xs, h with
    | [_], h => cases h; exact ⟨_, rfl⟩
  | _ => exact nomatch h
theorem asBool2_of {e x z : Expr} {p : PySem.BoolOp} (h : asBool2 e = some (p, x, z)) : ∃ y r q, e = .BoolOp p (x :: y :: r) q ∧ z = .BoolOp p (y :: r) q := by
  cases e with
  | BoolOp o xs q =>
    match xs, h with
    | _ :: _ :: _, h => cases h; exact ⟨_, _, _, rfl, rfl⟩
  | _ => exact nomatch h
theorem asCmp_of {e x y : Expr} {p : CmpOp} (h : asCmp e = some (x, p, y)) : ∃ q, e = .Compare x [p] [y] q := by
  cases e with
  | Compare l os cs q =>
    match os, cs, h with
    | [_], [_], h => cases h; exact ⟨_, rfl⟩
  | _ => exact nomatch h
theorem asChain_of {e x y z : Expr} {p1 p2 : CmpOp} (h : asChain e = some (x, p1, y, p2, z)) : ∃ q, e = .Compare x [p1, p2] [y, z] q := by
  cases e with
  | Compare l os cs q =>
    match os, cs, h with
    | [_, _], [_, _], h => cases h; exact ⟨_, rfl⟩
  | _ => exact nomatch h
theorem asSub_of {e x y : Expr} (h : asSub e = some (x, y)) : ∃ q, e = .Subscript x y q := by
  cases e <;> (cases h <;> exact ⟨_, rfl⟩)
theorem asSlice_of {e : Expr} {l u : Option Expr} (h : asSlice e = some (l, u)) : ∃ q, e = .Slice l u none q := by
  cases e with
  | Slice a b c q =>
    cases c with
    | none => cases h; exact ⟨_, rfl⟩
    | some _ => exact nomatch h
  | _ => exact nomatch h
theorem asComp_of {e elt tg iter : Expr} {ifs : List Expr} {s2 : Scope} (h : asComp e = some (elt, tg, iter, ifs, s2)) : ∃ q, e = .ListComp elt [⟨tg, iter, ifs, 0⟩] s2 q := by
  cases e with
  | ListComp a gs sc q =>
    match gs, h with
    | [], h => cases h
    | _ :: _ :: _, h => cases h
    | [⟨_, _, _, k⟩], h =>
      have h : (if k = 0 then _ else none) = _ := h
      by_cases hk : k = 0
      · rw [if_pos hk] at h
        subst hk
        cases h
        exact ⟨_, rfl⟩
      · rw [if_neg hk] at h
        cases h
  | _ => cases h
theorem asCallN_of {e : Expr} {x : Str} {xs : List Expr} (h : asCallN e = some (x, xs)) : ∃ p q, e = .Call (.Name x p) xs [] q := by
  cases e with
  | Call f as ks q =>
    cases f with
    | Name n p =>
      cases ks with
      | nil => cases h; exact ⟨_, _, rfl⟩
      | cons _ _ => exact nomatch h
    | _ => exact nomatch h
  | _ => exact nomatch h
theorem asMeth_of {e o : Expr} {m : Str} {apos pos : Pos} {xs : List Expr} (h : asMeth e = some (o, m, apos, xs, pos)) : e = .Call (.Attribute o m apos) xs [] pos := by
  cases e with
  | Call f as ks q =>
    cases f with
    | Attribute o' n p =>
      cases ks with
      | nil => cases h; rfl
      | cons _ _ => exact nomatch h
    | _ => exact nomatch h
  | _ => exact nomatch h
/-- c of what is there -/
def oB {α : Type} (o : Option α) (c : α → Bool) : Bool := match o with
  | some a => c a
  | none => false
theorem oB_of {α : Type} {o : Option α} {c : α → Bool} (h : oB o c = true) : ∃ a, o = some a ∧ c a = true := by
  cases o with
  | some a => exact ⟨a, rfl, h⟩
  | none => exact nomatch h
def one (xs : List Expr) : Option Expr := match xs with
  | [x] => some x
  | _ => none
def two (xs : List Expr) : Option (Expr × Expr) := match xs with
  | [x, y] => some (x, y)
  | _ => none
theorem one_of {xs : List Expr} {x : Expr} (h : one xs = some x) : xs = [x] := by
  match xs, h with
  | [_], h => cases h; rfl
theorem two_of {xs : List Expr} {x y : Expr} (h : two xs = some (x, y)) : xs = [x, y] := by
  match xs, h with
  | [_, _], h => cases h; rfl
def asDict : Expr → Option (List (Option Expr) × List Expr)
  | .Dict ks vs _ => some (ks, vs)
  | _ => none
theorem asDict_of {e : Expr} {ks : List (Option Expr)} {vs : List Expr} (h : asDict e = some (ks, vs)) : ∃ p, e = .Dict ks vs p := by
  cases e <;> (cases h <;> exact ⟨_, rfl⟩)
def oneD (x : List (Option Expr) × List Expr) : Option (Expr × Expr) := match x with
  | ([some k], [v]) => some (k, v)
  | _ => none
theorem oneD_of {x : List (Option Expr) × List Expr} {k v : Expr} (h : oneD x = some (k, v)) : x = ([some k], [v]) := by
  unfold oneD at h
  split at h
  · cases h; rfl
  · cases h
/-- len(set(a)), sorted(set(a)) -/
def overSet : B1 → Option String
  | .lset => some "len"
  | .sset => some "sorted"
  | _ => none
/-- xs[::-1] -/
def asRev : Expr → Option Expr
  | .Subscript x (.Slice none none (some (.UnaryOp .USub (.Constant (.int 1) _ _) _)) _) _ => some x
  | _ => none
theorem asRev_of {e x : Expr} (h : asRev e = some x) : ∃ k p1 p2 p3 pos, e = .Subscript x (.Slice none none (some (.UnaryOp .USub (.Constant (.int 1) k p1) p2)) p3) pos := by
  unfold asRev at h
  split at h
  · cases h
    exact ⟨_, _, _, _, _, rfl⟩
  · cases h
/-- what is written in another way than f(a) -/
def spB : B1 → Nat
  | .rev => 1
  | .sitems => 2
  | _ => 0
def isNil : ME → Bool
  | .nil => true
  | _ => false
/-- what a checker knows: the defs; the exceptions' classes; whether lambdas may be made -/
structure Sig where
  fs : List String
  exs : List String := []
  lam : Bool := false
  told : Bool := false
  /-- defs that hand back a new list -/
  news : List String := []
  /-- classes that are caught -/
  trs : List String := []
/-- f(lambda: e) -/
def asLam : Expr → Option (Str × Expr × Scope)
  | .Call (.Name x _) [.Lambda params body scope _] [] _ => match params with
    | ⟨[], [], none, [], [], none, []⟩ => some (x, body, scope)
    | _ => none
  | _ => none
/-- sorted(x, key=lambda y: e) -/
def asSk : Expr → Option (Str × Expr × Str × Expr × Scope)
  | .Call (.Name x _) [a] [⟨some k, .Lambda params body scope _, _⟩] _ => match params with
    | ⟨[], [⟨y, none, _⟩], none, [], [], none, []⟩ => if k = "key" ∧ y = "row" then some (x, a, y, body, scope) else none
    | _ => none
  | _ => none
theorem asSk_of {e a : Expr} {x y : Str} {body : Expr} {scope : Scope} (h : asSk e = some (x, a, y, body, scope)) : y = "row" ∧ ∃ p lp kp pos yp, e = .Call (.Name x p) [a] [⟨some "key", .Lambda ⟨[], [⟨y, none, yp⟩], none, [], [], none, []⟩ body scope lp, kp⟩] pos := by
  unfold asSk at h
  split at h
  · split at h
    · split at h
      · rename_i hk
        cases h
        obtain ⟨hk, hy⟩ := hk
        subst hk
        exact ⟨hy, _, _, _, _, _, rfl⟩
      · cases h
    · cases h
  · cases h
theorem asLam_of {e : Expr} {x : Str} {body : Expr} {scope : Scope} (h : asLam e = some (x, body, scope)) : ∃ p lp pos, e = .Call (.Name x p) [.Lambda ⟨[], [], none, [], [], none, []⟩ body scope lp] [] pos := by
  unfold asLam at h
  split at h
  · split at h
    · cases h
      exact ⟨_, _, _, rfl⟩
    · cases h
  · cases h
section
mutual
/-- mo: 0 a value; else what is walked: 1 by a name, 2 by a tuple of names -/
def chkE : Sig → ME → Nat → List Str → Scope → Expr → Bool
  | fs, .var i, _, N, sc, e => oB (asName e) fun x => decide (N[i]? = some x) && visB sc x && nmOk x
  | fs, .int i, _, _, _, e => oB (asInt e) fun j => decide (i = j)
  | fs, .str s, _, _, _, e => oB (asStr e) fun z => decide (z = Str.ofString s) && decide ((tx s).length ≤ SZ)
  | fs, .bl b, _, _, _, e => oB (asBl e) fun c => decide (b = c)
  | fs, .non, _, _, _, e => asNon e
  | fs, .con c, _, _, sc, e => oB (asName e) fun x => decide (x = Str.ofString c) && glB sc x && nmOk x
  | fs, .nil, _, _, _, _ => false
  | fs, .cons _ _, _, _, _, _ => false
  | fs, .tup es, _, N, sc, e => oB (asTup e) fun xs => chkL fs es N sc xs && decide (xs.length ≤ SZ)
  | fs, .lst es, _, N, sc, e => oB (asLst e) fun xs => chkL fs es N sc xs && decide (xs.length ≤ SZ)
  | fs, .op o a b, _, N, sc, e => oB (asBin e) fun q => opM o q.2.1 && chkE fs a 0 N sc q.1 && chkE fs b 0 N sc q.2.2
  | fs, .neg a, _, N, sc, e => oB (asUn e) fun q => decide (q.1 = .USub) && chkE fs a 0 N sc q.2
  | fs, .not a, _, N, sc, e => oB (asUn e) fun q => decide (q.1 = .Not) && chkE fs a 0 N sc q.2
  | fs, .and1 a, _, N, sc, e => oB (asBool1 e) fun q => decide (q.1 = .And) && chkE fs a 0 N sc q.2
  | fs, .and a b, _, N, sc, e => oB (asBool2 e) fun q => decide (q.1 = .And) && chkE fs a 0 N sc q.2.1 && chkE fs b 0 N sc q.2.2
  | fs, .or1 a, _, N, sc, e => oB (asBool1 e) fun q => decide (q.1 = .Or) && chkE fs a 0 N sc q.2
  | fs, .or a b, _, N, sc, e => oB (asBool2 e) fun q => decide (q.1 = .Or) && chkE fs a 0 N sc q.2.1 && chkE fs b 0 N sc q.2.2
  | fs, .cmp o a b, _, N, sc, e => oB (asCmp e) fun q => copM o q.2.1 && okX q.2.2 && chkE fs a 0 N sc q.1 && chkE fs b 0 N sc q.2.2
  | fs, .isn a, _, N, sc, e => oB (asCmp e) fun q => decide (q.2.1 = .Is) && asNon q.2.2 && chkE fs a 0 N sc q.1
  | fs, .notn a, _, N, sc, e => oB (asCmp e) fun q => decide (q.2.1 = .IsNot) && asNon q.2.2 && chkE fs a 0 N sc q.1
  | fs, .chain o1 o2 a b c, _, N, sc, e => oB (asChain e) fun q => copM o1 q.2.1 && copM o2 q.2.2.2.1 && okX q.2.2.2.2 && chkE fs a 0 N sc q.1 && chkE fs b 0 N sc q.2.2.1 && chkE fs c 0 N sc q.2.2.2.2
  | fs, .ix a i, _, N, sc, e => oB (asSub e) fun q => okX q.2 && chkE fs a 0 N sc q.1 && chkE fs i 0 N sc q.2
  | fs, .sl a lo hi, _, N, sc, e => oB (asSub e) fun q => chkE fs a 0 N sc q.1 && oB (asSlice q.2) fun r => (match r.1 with
    | none => isNil lo
    | some x => chkE fs lo 0 N sc x) && (match r.2 with
    | none => isNil hi
    | some x => chkE fs hi 0 N sc x)
  | fs, .comp t it el, _, N, sc, e => oB (asComp e) fun q => okX q.2.2.1 && chkE fs it (if isTup q.2.1 then 2 else 1) N sc q.2.2.1 && blkC N sc q.2.2.2.2 (ownOf N t.slots) &&
      chkT N (relS q.2.2.2.2 sc) (fun x => q.2.2.2.2.names.lookup x == some .cell) t q.2.1 && q.2.2.2.1.isEmpty && chkE fs el 0 N (relS q.2.2.2.2 sc) q.1
  | fs, .compIf t it c el, _, N, sc, e => oB (asComp e) fun q => okX q.2.2.1 && chkE fs it (if isTup q.2.1 then 2 else 1) N sc q.2.2.1 && blkC N sc q.2.2.2.2 (ownOf N t.slots) &&
      chkT N (relS q.2.2.2.2 sc) (fun x => q.2.2.2.2.names.lookup x == some .cell) t q.2.1 && (oB (one q.2.2.2.1) fun z => chkE fs c 0 N (relS q.2.2.2.2 sc) z) && chkE fs el 0 N (relS q.2.2.2.2 sc) q.1
  | fs, .rng1 a, mo, N, sc, e => decide (mo ≠ 0) && oB (asCallN e) fun q => decide (q.1 = "range") && glB sc q.1 && oB (one q.2) fun y => okX y && chkE fs a 0 N sc y
  | fs, .rng2 a b, mo, N, sc, e => decide (mo ≠ 0) && oB (asCallN e) fun q => decide (q.1 = "range") && glB sc q.1 && oB (two q.2) fun r => okX r.1 && okX r.2 && chkE fs a 0 N sc r.1 && chkE fs b 0 N sc r.2
  | fs, .enum a, mo, N, sc, e => decide (mo = 2) && oB (asCallN e) fun q => decide (q.1 = "enumerate") && glB sc q.1 && oB (one q.2) fun y => okX y && chkE fs a 0 N sc y
  | fs, .zip a b, mo, N, sc, e => decide (mo = 2) && oB (asCallN e) fun q => decide (q.1 = "zip") && glB sc q.1 && oB (two q.2) fun r => okX r.1 && okX r.2 && chkE fs a 0 N sc r.1 && chkE fs b 0 N sc r.2
  | fs, .b1 f a, _, N, sc, e => match spB f with
    | 1 => oB (asRev e) fun x => chkE fs a 0 N sc x
    | 2 => oB (asCallN e) fun q => glB sc q.1 && decide (q.1 = "sorted") && oB (one q.2) fun y => oB (asMeth y) fun r => decide (r.2.1 = "items") && notCall0 r.1 && (r.2.2.1.endLine == r.2.2.2.2.line) && r.2.2.2.1.isEmpty && chkE fs a 0 N sc r.1
    | _ => oB (asCallN e) fun q => glB sc q.1 && (match overSet f with
    | some n => decide (q.1 = Str.ofString n) && oB (one q.2) fun y => oB (asCallN y) fun r => decide (r.1 = "set") && glB sc r.1 && oB (one r.2) fun z => okX z && chkE fs a 0 N sc z
    | none => match tyOfB1 f with
    | some nT => decide (q.1 = Str.ofString nT.1) && oB (two q.2) fun r => okX r.1 && chkE fs a 0 N sc r.1 && oB (asName r.2) fun z => decide (z = Str.ofString nT.2) && glB sc z
    | none => decide (q.1 = Str.ofString (nameB1 f)) && oB (one q.2) fun y => okX y && chkE fs a 0 N sc y)
  | fs, .b2 f a b, _, N, sc, e => oB (asMeth e) fun q => decide (q.2.1 = Str.ofString (nameB2 f)) && notCall0 q.1 && (q.2.2.1.endLine == q.2.2.2.2.line) && chkE fs a 0 N sc q.1 && oB (one q.2.2.2.1) fun y => okX y && chkE fs b 0 N sc y
  | fs, .dnew _, _, _, _, e => oB (asDict e) fun q => q.1.isEmpty && q.2.isEmpty
  | fs, .dlit ks vs, _, _, _, e => oB (asDict e) fun q => litX ks vs q.1 q.2 && !ks.isEmpty && decide (ks.length ≤ 15)
  | fs, .dsp1 k v, _, N, sc, e => oB (asDict e) fun q => oB (oneD q) fun r => chkE fs k 0 N sc r.1 && chkE fs v 0 N sc r.2
  | fs, .get2 a k x, _, N, sc, e => oB (asMeth e) fun q => decide (q.2.1 = "get") && notCall0 q.1 && (q.2.2.1.endLine == q.2.2.2.2.line) && chkE fs a 0 N sc q.1 && oB (two q.2.2.2.1) fun r => okX r.1 && okX r.2 && chkE fs k 0 N sc r.1 && chkE fs x 0 N sc r.2
  | fs, .told a, _, N, sc, e => oB (asLam e) fun q => fs.told && fs.lam && decide (q.1 = "_law_told") && glB sc q.1 && LamX.lamSB sc q.2.2 && chkE { fs with lam := false } a 0 N q.2.2 q.2.1
  | fs, .skey a e, _, N, sc, x => oB (asSk x) fun q => fs.lam && decide (q.1 = "sorted") && glB sc q.1 && okX q.2.1 && decide (q.2.2.1 ∉ N) && SortL.lam1B sc q.2.2.2.2 q.2.2.1 && chkE fs a 0 N sc q.2.1 && chkE { fs with lam := false } e 0 (N ++ [q.2.2.1]) q.2.2.2.2 q.2.2.2.1
  | fs, .itup es, _, N, sc, e => oB (asTup e) fun xs => chkL fs es N sc xs && decide (xs.length ≤ SZ)
  | fs, .lzip a b, _, N, sc, e => oB (asCallN e) fun q => decide (q.1 = "list") && glB sc q.1 && oB (one q.2) fun y => oB (asCallN y) fun r => decide (r.1 = "zip") && glB sc r.1 && oB (two r.2) fun z => okX z.1 && okX z.2 && chkE fs a 0 N sc z.1 && chkE fs b 0 N sc z.2
  | fs, .fcall f es, _, N, sc, e => oB (asCallN e) fun q => decide (f ∈ fs.news) && decide (q.1 = Str.ofString f) && glB sc q.1 && nmOk q.1 && !q.2.isEmpty && chkL fs es N sc q.2
  | fs, .call f es, _, N, sc, e => oB (asCallN e) fun q => decide (f ∈ fs.fs) && decide (q.1 = Str.ofString f) && glB sc q.1 && nmOk q.1 && !q.2.isEmpty && chkL fs es N sc q.2
def chkL : Sig → ME → List Str → Scope → List Expr → Bool
  | fs, .nil, _, _, xs => xs.isEmpty
  | fs, .cons a r, N, sc, xs => match xs with
    | x :: xs => okX x && chkE fs a 0 N sc x && chkL fs r N sc xs
    | [] => false
  | _, _, _, _, _ => false
end
end
theorem star_of {e : Expr} (h : okX e = true) (es : List Expr) (env : PySem.Env) : starEach (e :: es) env = (false, eval e env) :: starEach es env := by
  cases e <;> first | rfl | cases h
theorem star1 {e : Expr} (h : okX e = true) (env : PySem.Env) : starEach [e] env = [(false, eval e env)] := star_of h [] env
theorem plainIx_of {e : Expr} (h : okX e = true) : PlainIx e := by
  intro o i
  cases e <;> first | rfl | cases h
theorem marks_of {e : Expr} (h : okX e = true) (op : CmpOp) : behindInMarks op e = false := by
  cases e <;> first | rfl | cases h
theorem folded_of {e : Expr} (h : okX e = true) (env : PySem.Env) : ∀ x, foldedSetIterable e env x = pure x := by
  intro x
  cases e <;> first | rfl | cases h
theorem base_of {o : Expr} (h : notCall0 o = true) (m : Str) (env : PySem.Env) : attributeBase o m env (eval o env) = eval o env := by
  cases o with
  | Call f as ks p =>
    cases as with
    | nil => cases h
    | cons a r => cases f <;> rfl
  | _ => rfl
theorem nm_of {x : Str} (h : nmOk x = true) : (x == ("__debug__" : Str)) = false ∧ (x == ("__classdict__" : Str)) = false := by
  simp only [nmOk, Bool.and_eq_true, Bool.not_eq_true'] at h
  exact h
theorem vis_of {sc : Scope} {x : Str} (h : visB sc x = true) : Vis sc x := by
  unfold visB at h
  split at h
  · exact .inl (by assumption)
  · exact .inr (.inl (by assumption))
  · exact .inr (.inr (by assumption))
  · cases h
theorem gl_of {sc : Scope} {x : Str} (h : glB sc x = true) : sc.names.lookup x = some .globalImplicit := by
  unfold glB at h
  split at h
  · assumption
  · cases h
theorem loc_of {sc : Scope} {fn : Str → Bool} {x : Str} (h : locB sc fn x = true) : Loc sc x ∧ (fn x = true ∨ sc.names.lookup x = some .local) := by
  unfold locB at h
  split at h
  · rename_i q; exact ⟨.inl q, .inr q⟩
  · rename_i q; exact ⟨.inr q, .inl h⟩
  · cases h

end Snd
namespace Snd
open PySem PySem.Spec PyProof.Rows L2 Dt
variable [PrW]

/-! ### exceptions -/
abbrev xa (K : PySem.W.Frag) (c : String) : Addr := He.ga K (Str.ofString c)
/-- e, told of an object: its class, its dict -/
def XM (K : PySem.W.Frag) (c : String) : Prop := ∀ r ∈ PrW.R, PySem.W.exmOne K (.ref (xa K c)) (.ref (xa K r)) = some (catB r c)
def RXc (K : PySem.W.Frag) : RXT := fun H e cls dx => e.cls ∈ excs ∧ cls = .ref (xa K e.cls) ∧ XM K e.cls ∧ ∃ d, dx = some d ∧
  ((∃ i : Int, e.arg = .int i ∧ H d = some (.xd [("at", .int i)])) ∨ ∃ s : List Nat, e.arg = .str s ∧ H d = some (.xd [("how", .str (tS s)), ("at", .int 0)]))
/-- the shape of DealError.__init__ -/
def initB (P : List Str) (sc : Scope) (body : List Stmt) : Bool := match P, body with
  | [s, a], [.Expr (.Call (.Attribute (.Name ve _) ini ap) [.Name x _] [] cp) _, .Assign [.Attribute (.Name y _) at_ _] (.Name z _) _] =>
    decide (ve = "ValueError") && glB sc ve && decide (ini = "__init__") && (ap.endLine == cp.line) && decide (x = s) && decide (y = s) && decide (at_ = "at") && decide (z = a) && visB sc s && visB sc a && nmOk s && nmOk a
  | _, _ => false
/-- what an exception class of the program says -/
def oexB (K : PySem.W.Frag) (C : Addr) : Bool := (match K.lookup C with
  | some ⟨.type "type", _, .cls cd, sl⟩ => (match cd.mro, sl.toList with
    | .ref C' :: bm, [_, _, _, _, some (.builtin n), _] => decide (C' = C) && decide (n = "ValueError.__new__") && !cd.hasDel && cd.hasDict && PySem.HandSPX.refsVE bm
    | _, _ => false)
  | _ => false) && He.eqO (PySem.W.findIn K (.ref C) "__setattr__") (some (some (.builtin "object.__setattr__"))) && decide (PySem.W.subIn K (.ref C) (.type "BaseException") = some true) && decide (PySem.W.typeIn K (.ref C) = some (.type "type")) && PySem.W.keepIn K (.ref C)
theorem oexB_ok {K : PySem.W.Frag} {C : Addr} (h : oexB K C = true) : OexC K C := by
  unfold oexB at h
  simp only [Bool.and_eq_true] at h
  obtain ⟨⟨⟨⟨h1, h2⟩, h3⟩, h4⟩, h5⟩ := h
  refine ⟨?_, He.eqO_ok h2, of_decide_eq_true h3, of_decide_eq_true h4, h5⟩
  split at h1
  · rename_i dd cd sl ho
    split at h1
    · rename_i C' bm k0 k1 k2 k3 n k5 hm hs
      simp only [Bool.and_eq_true, decide_eq_true_eq, Bool.not_eq_true'] at h1
      obtain ⟨⟨⟨⟨rfl, rfl⟩, hdel⟩, hd⟩, ht⟩ := h1
      obtain ⟨nm, bs, mro, ns, qn, hdct, sn, sub, ab, col, del⟩ := cd
      dsimp only at hm hdel hd
      subst hm hdel hd
      have hsl : sl = #[k0, k1, k2, k3, some (.builtin "ValueError.__new__"), k5] := by
        obtain ⟨l⟩ := sl
        exact congrArg Array.mk hs
      subst hsl
      exact ⟨nm, qn, ns, bs, bm, sn, sub, ab, col, dd, k0, k1, k2, k3, k5, ho, ht⟩
    · cases h1
  · cases h1
/-- a class of the kind DealError -/
structure ExcP (K : PySem.W.Frag) (mg : Str → Option Value) (P : Program) (w : World) (base : Heap) (c : String) : Prop where
  gC : mg (Str.ofString c) = some (.ref (xa K c))
  oex : OexC K (xa K c)
  at_ : PySem.W.findIn K (.ref (xa K c)) "at" = some none
  xm : XM K c
  ini : ∃ (fI : Addr) (fd : FuncData) (ps : List Str), PySem.W.findIn K (.ref (xa K c)) "__init__" = some (some (.ref fI)) ∧ PySem.W.typeIn K (.ref fI) = some (.type "function") ∧ Binds K fd ps [] ∧ FnOk P w K mg base (L2.CX P w) 1 fI fd ps
    (fun vs H Q _ => ∃ (a C : Addr) (v : V), vs = [.ref a, v] ∧ H a = some (exo a C none) ∧ OexC K C ∧ PySem.W.findIn K (.ref C) "at" = some none ∧ ∀ d, H d = none → d ≠ a → Q .non (upd (upd H d (exd d [("at", v)])) a (exo a C (some d))))
/-- DealError.__init__ keeps its promise -/
theorem init_ok {P : Program} {w : World} {K : PySem.W.Frag} {mg : Str → Option Value} {base : Heap} {x qual : Str} {params : Arguments} {body : List Stmt} {scope : Scope} {f : Addr} {fd : FuncData} {ps : List Str}
    (F : FunD K x qual params body scope [] [] f fd) (S : FnScope ps ps scope) (hb : initB ps scope body = true) (hV : mg "ValueError" = none) (vV : PySem.W.findCls K (.type "ValueError") (.type "type") "__init__" = some (.val (.builtin "ValueError.__init__"))) :
    FnOk P w K mg base (L2.CX P w) 1 f fd ps (fun vs H Q _ => ∃ (a C : Addr) (v : V), vs = [.ref a, v] ∧ H a = some (exo a C none) ∧ OexC K C ∧ PySem.W.findIn K (.ref C) "at" = some none ∧ ∀ d, H d = none → d ≠ a → Q .non (upd (upd H d (exd d [("at", v)])) a (exo a C (some d)))) := by
  unfold initB at hb
  split at hb
  · rename_i s a ve p1 ini ap x1 p2 cp p3 y p4 at' p5 z p6 p7
    simp only [Bool.and_eq_true, decide_eq_true_eq] at hb
    obtain ⟨⟨⟨⟨⟨⟨⟨⟨⟨⟨⟨rfl, h1⟩, rfl⟩, hl⟩, rfl⟩, rfl⟩, rfl⟩, rfl⟩, hs⟩, ha⟩, ns⟩, na⟩ := hb
    refine F.ok S (fun vs H Q E ⟨_, _, _, e, _⟩ => by rw [e]; rfl) fun cdv A outer s' H vs Q E hr ⟨b, C, v, ev, hH, T, hat, q⟩ => ?_
    subst ev
    refine ⟨_, pss_cons (ps_expr (pe_veinit (gl_of h1) hV vV (pa_cons (pe_var (i := 0) rfl (vis_of hs) (nm_of ns).1 (nm_of ns).2) pa_nil) (mcall_of (base_of rfl _ _) fun ov => mcall_line rfl hl))) (pss_one (ps_ost (pe_var (i := 0) rfl (vis_of hs) (nm_of ns).1 (nm_of ns).2) (pe_var (i := 1) rfl (vis_of ha) (nm_of na).1 (nm_of na).2))), ?_⟩
    exact ⟨.ref b, rfl, b, C, [], rfl, Nat.zero_le _, T, hH, v, rfl, .ref b, rfl, b, C, rfl, T, hat, .inl ⟨hH, fun dx n ne => q dx n ne⟩⟩
  · cases hb
/-! ### raise C(e) -/
section
variable {X : Cx} {W : WX}
theorem ps_rais {c : String} {e : Expr} {p pos pos' : Pos} {g : EnvD → Res D} {α β : Type} {rel : Hp → β → α → Prop} (hc : X.calm = true) (tk : Takes X W) (hr : Room 2 X.A) (ex : ExcP X.K X.mg X.prog X.w X.base c) (hce : c ∈ excs)
    (hg : Gl X (Str.ofString c)) (hn : nmOk (Str.ofString c) = true) (he : okX e = true) (ha : PE X e (tE X.K (RXc X.K) W g)) :
    PS X (.Raise (some (.Call (.Name (Str.ofString c) p) [e] [] pos)) none pos') (fun _ σ H => ∃ A ρ, RE X.K A H σ ρ ∧ ∃ Q, Out (RXc X.K) W rel (g ρ >>= fun d => match d with
      | .int i => (Res.exc ⟨c, .int i⟩ : Res α)
      | _ => .stuck) σ H Q) := by
  obtain ⟨fI, fd, ps, h1, h2, h3, h4⟩ := ex.ini
  refine PSimp (ps_raise hc tk (pmk_oex ex.oex h1 h2 h4 hr h3 .nil (passes_call takes0 fun _ _ _ _ z => z) hg ex.gC (pa_cons ha pa_nil (star_of he _ _)) (nm_of hn).1 (star_of he _ _) rfl)) fun D σ H ⟨A, ρ, r, Q, h⟩ => ?_
  refine ⟨A, ρ, r, h.bind fun d v H1 _ e1 q1 h1 => ?_⟩
  cases q1 with
  | int i =>
    have k : ∀ H2 d, Same H1 H2 → H2 d = some (.xd [("at", .int i)]) → W (.ref (xa X.K c)) (some d) σ H2 := fun H2 d e2 hd => h1 _ _ _ e2 ⟨hce, rfl, ex.xm, d, rfl, .inl ⟨i, rfl, hd⟩⟩
    refine ⟨by show 1 ≤ 1000; decide, fun a hna => ⟨a, xa X.K c, .int i, rfl, upd_same, ex.oex, ex.at_, fun dx hdx ne => ⟨rfl, dx, [("at", .int i)], upd_same, by rw [upd_ne ne, upd_same], by rw [← hdx, upd_ne ne], k _ dx (.of fun b o q => ?_) upd_same⟩⟩⟩
    have n1 : b ≠ a := ne_of_none q hna
    have n2 : b ≠ dx := ne_of_none q (by rw [← hdx, upd_ne ne])
    rw [upd_ne n2, del_ne n1, upd_ne n1, upd_ne n2, upd_ne n1]
    exact q
  | _ => exact h1.elim
end
end Snd
namespace Snd
open PySem PySem.Spec PyProof.Rows L2 Dt
/-! ### the shape of _law_told -/
/-- isinstance(x, c) -/
def asIsi : Expr → Option (Str × Str × Str)
  | .Call (.Name f _) [.Name x _, .Name c _] [] _ => some (f, x, c)
  | _ => none
theorem asIsi_of {e : Expr} {f x c : Str} (h : asIsi e = some (f, x, c)) : ∃ p1 p2 p3 p4, e = .Call (.Name f p1) [.Name x p2, .Name c p3] [] p4 := by
  unfold asIsi at h
  split at h
  · cases h
    exact ⟨_, _, _, _, rfl⟩
  · cases h
def isiB (en : Str) (sc : Scope) (c : String) (e : Expr) : Bool := oB (asIsi e) fun q => decide (q.1 = "isinstance") && decide (q.2.1 = en) && decide (q.2.2 = Str.ofString c) && glB sc q.1 && glB sc q.2.2 && nmOk q.2.2 && okX e
def isS1 (kn en : Str) (sc : Scope) : Stmt → Bool
  | .Assign [.Name k _] (.List [e1, e2, e3, e4] _) _ => decide (k = kn) && isiB en sc "NoText" e1 && isiB en sc "NoRow" e2 && isiB en sc "Twice" e3 && isiB en sc "BadCheck" e4
  | _ => false
def isS2 (kn en : Str) (sc : Scope) : Stmt → Bool
  | .Assign [.Name k _] (.BinOp (.Name k2 _) .Add (.List [e1, e2, e3, e4] _) _) _ => decide (k = kn) && decide (k2 = kn) && isiB en sc "NoRef" e1 && isiB en sc "Held" e2 && isiB en sc "NoMark" e3 && isiB en sc "BadLog" e4
  | _ => false
def isS3 (kn en : Str) (sc : Scope) : Stmt → Bool
  | .Expr (.Call (.Attribute (.Name k _) m ap) [e] [] cp) _ => decide (k = kn) && decide (m = "append") && (ap.endLine == cp.line) && isiB en sc "Clash" e
  | _ => false
def isS4 (fn : Str) : Stmt → Bool
  | .Assign [.Name f _] (.Tuple [.Constant (.str r) _ _, .UnaryOp .USub (.Constant (.int i) _ _) _, .Constant (.int j) _ _] _ _) _ => decide (f = fn) && decide (r = "refused") && decide (i = 1) && decide (j = 0)
  | _ => false
def isB1 (kn : Str) : Expr → Bool
  | .Compare (.Call (.Attribute (.Name k _) m ap) [.Constant (.bool b) _ _] [] cp) [.Eq] [.Constant (.int i) _ _] _ => decide (k = kn) && decide (m = "count") && (ap.endLine == cp.line) && b && decide (i = 1)
  | _ => false
def isB2 (en : Str) (sc : Scope) : Expr → Bool
  | .UnaryOp .Not (.Call (.Name f _) [.Attribute (.Name x _) a _, .Name c _] [] _) _ => decide (f = "isinstance") && decide (x = en) && decide (a = "at") && decide (c = "bool") && glB sc f && glB sc c
  | _ => false
def isB3 (fn kn en : Str) : Stmt → Bool
  | .Assign [.Name f _] (.Tuple [.Constant (.str r) _ _, .Call (.Attribute (.Name k _) m ap) [.Constant (.bool b) _ _] [] cp, .Attribute (.Name x _) a _] _ _) _ => decide (f = fn) && decide (r = "refused") && decide (k = kn) && decide (m = "index") && (ap.endLine == cp.line) && b && decide (x = en) && decide (a = "at")
  | _ => false
def isS5 (fn kn en : Str) (sc : Scope) : Stmt → Bool
  | .If (.BoolOp .And [e1, e2, e3] _) [s] [] _ => isiB en sc "ValueError" e1 && isB1 kn e2 && isB2 en sc e3 && isB3 fn kn en s
  | _ => false
def isT1 (fn an : Str) : Stmt → Bool
  | .Assign [.Name f _] (.Tuple [.Constant (.str t) _ _, .Call (.Name a _) [] [] _] _ _) _ => decide (f = fn) && decide (t = "told") && decide (a = an)
  | _ => false
def isT3 (fn : Str) : Stmt → Bool
  | .Return (some (.Name f _)) _ => decide (f = fn)
  | _ => false
def locL (sc : Scope) (x : Str) : Bool := decide (sc.names.lookup x = some .local)
def toldB (Ng : List Str) (sc : Scope) (body : List Stmt) : Bool := match Ng, body with
  | [an, fn, en, kn], [.Try [t1] [.ExceptHandler (some (.Name de _)) (some en') [s1, s2, s3, s4, s5] _] [] [] _, t3] =>
    decide (de = "DealError") && glB sc de && decide (en' = en) && locL sc an && locL sc fn && locL sc en && locL sc kn && nmOk an && nmOk fn && nmOk en && nmOk kn &&
      isT1 fn an t1 && isS1 kn en sc s1 && isS2 kn en sc s2 && isS3 kn en sc s3 && isS4 fn s4 && isS5 fn kn en sc s5 && isT3 fn t3
  | _, _ => false
end Snd
namespace Snd
open PySem PySem.Spec PyProof.Rows L2 Dt
variable [PrW]

/-! ### isinstance of a caught refusal -/
def rIsX (K : PySem.W.Frag) (D a d : Addr) : List V → Hp → VK → Prop := fun xs H Q => ∃ (c : V) (cv : Value) (b : Bool) (fs : List (Str × V)), xs = [.ref a, c] ∧ (∀ u, RelV c u → u = cv) ∧ PySem.W.kitOne K (.ref D) cv = some b ∧ H d = some (.xd fs) ∧ Q (.bl b) H
theorem call_isX {X : Cx} {a D d : Addr} {oe : Obj} {pn : List (Addr × Obj)} (C : ExcC X.K D) (hz : Zc (.ref D) (some d) oe) (hf : ∃ vs, oe.data = .fields vs) : CallR (X.suite a ((a, oe) :: pn)) (.builtin "isinstance") (rIsX X.K D a d) := by
  intro pins s σ H xs us Q I r h
  obtain ⟨c, cv, b, fs, rfl, hcv, e, hd, q⟩ := h
  obtain ⟨u1, u2, rfl, r1, r2⟩ := vals2 r
  cases r1
  obtain rfl := hcv _ r2
  obtain ⟨hget, _⟩ := I.pin (a, oe) (List.mem_append_left _ List.mem_cons_self)
  obtain ⟨vs, hv⟩ := hf
  have hx : ObjOk X.prog X.w H s.heap d (.xd fs) := I.hok d _ hd
  obtain ⟨mA, hns, hr⟩ := hx
  obtain ⟨od, ho, hl⟩ := lookIn_ns hns
  have J : PySem.W.InstAt s.heap a oe D (some od) := ⟨hget, hz.1, by unfold PySem.W.notCls; rw [hv] <;> rfl, by rw [hz.2]; exact ho⟩
  have hcl : (PySem.W.clsIn X.K D).isSome = true := by
    obtain ⟨cd, hc, _⟩ := PySem.W.any_some C.hd
    rw [hc]; rfl
  exact PySem.W.kia_one (PySem.W.kitx_exc hcl C.hg C.hk C.hs C.ha C.hn C.ht C.hm) I.kIn J e (fun z => nomatch z) fun tk => ⟨.bl b, H, I.kept (t' := tk) fun _ _ z => z, rfl, q⟩
/-- the suite's knowledge: the error in slot 2, its dict -/
abbrev tIsi (a d : Addr) (b : Bool) : TE := fun σ H Q => σ[2]? = some (some (.ref a)) ∧ (∃ fs, H d = some (.xd fs)) ∧ Q (.bl b) H
section
variable {X : Cx} {a D d : Addr} {oe : Obj} {pn : List (Addr × Obj)} {en : Str} {sc : Scope} {c : String} {e : Expr}
theorem pe_isi {b : Bool} (h : isiB en sc c e = true) (sco : X.env.scope = sc) (C : ExcC X.K D) (hz : Zc (.ref D) (some d) oe) (hf : ∃ vs, oe.data = .fields vs) (hN : X.N[2]? = some en) (hv : Vis sc en) (ne : nmOk en = true) (mI : X.mg "isinstance" = none)
    (hc : (∃ C', X.mg (Str.ofString c) = some (.ref C') ∧ PySem.W.kitOne X.K (.ref D) (.ref C') = some b) ∨ (X.mg (Str.ofString c) = none ∧ bootBuiltins (Str.ofString c) = some (.type c) ∧ Str.ofString c ≠ "__name__" ∧ PySem.W.kitOne X.K (.ref D) (.type c) = some b)) :
    PE (X.suite a ((a, oe) :: pn)) e (tIsi a d b) := by
  obtain ⟨⟨f, x, y⟩, hx, h⟩ := oB_of h
  obtain ⟨p1, p2, p3, p4, rfl⟩ := asIsi_of hx
  simp only [Bool.and_eq_true, decide_eq_true_eq] at h
  obtain ⟨⟨⟨⟨⟨⟨rfl, rfl⟩, rfl⟩, g1⟩, g2⟩, n2⟩, _⟩ := h
  have G1 : Gl (X.suite a ((a, oe) :: pn)) "isinstance" := by
    show X.env.scope.names.lookup _ = _
    rw [sco]; exact gl_of g1
  have G2 : Gl (X.suite a ((a, oe) :: pn)) (Str.ofString c) := by
    show X.env.scope.names.lookup _ = _
    rw [sco]; exact gl_of g2
  have V2 : Vis (X.suite a ((a, oe) :: pn)).env.scope x := by
    show Vis X.env.scope _
    rw [sco]; exact hv
  have pv : PE (X.suite a ((a, oe) :: pn)) (.Name x p2) (tVar 2) := pe_var (i := 2) hN V2 (nm_of ne).1 (nm_of ne).2
  rcases hc with ⟨C', hm, hk⟩ | ⟨hm, hb, hn, hk⟩
  · refine PEimp (pe_callB (call_isX C hz hf) G1 mI (by decide +kernel) (pa_cons pv (pa_cons (pe_glob (v := .ref C') G2 hm rfl (nm_of n2).1) pa_nil rfl) rfl)) fun σ H Q ⟨h1, ⟨fs, h2⟩, q⟩ => ?_
    exact ⟨.ref a, h1, .ref C', .ref C', b, fs, rfl, fun u hu => hu, hk, h2, q⟩
  · refine PEimp (pe_callB (call_isX C hz hf) G1 mI (by decide +kernel) (pa_cons pv (pa_cons (pe_bltn (v := .ty c) G2 hm hb rfl hn (nm_of n2).1) pa_nil rfl) rfl)) fun σ H Q ⟨h1, ⟨fs, h2⟩, q⟩ => ?_
    exact ⟨.ref a, h1, .ty c, .type c, b, fs, rfl, fun u hu => hu, hk, h2, q⟩
end
/-! ### the list of truths: count(True), index(True) -/
def bls (bs : List Bool) : List D := bs.map .bl
theorem bls_plain : ∀ bs, D.plains (bls bs) = true
  | [] => rfl
  | b :: bs => by
    show (D.plain (.bl b) && D.plains (bls bs)) = true
    rw [bls_plain bs]; rfl
theorem bls_dep : ∀ bs, D.deps (bls bs) = 0
  | [] => rfl
  | b :: bs => by
    show max (D.dep (.bl b)) (D.deps (bls bs)) = 0
    rw [bls_dep bs]; rfl
theorem bls_reps {K : PySem.W.Frag} {H : Hp} : ∀ bs : List Bool, Reps K H (bs.map V.bl) (bls bs)
  | [] => .nil
  | b :: bs => .cons (.bl b) (bls_reps bs)
theorem re_bls {K : PySem.W.Frag} {H : Hp} {σ : L2.St} {l : Addr} {bs : List Bool} (t : TabsW H) (hl : σ.length = 4) (h3 : σ[3]? = some (some (.ref l))) (e : H l = some (.lst (bs.map V.bl))) (hz : bs.length ≤ SZ) :
    RE K [] H σ [none, none, none, some (.lst (bls bs))] := by
  refine ⟨(fun a ha => by cases ha), t, by rw [hl]; rfl, fun i dd q => ?_⟩
  match i, q with
  | 0, q => cases q
  | 1, q => cases q
  | 2, q => cases q
  | 3, q =>
    cases q
    exact ⟨_, h3, .lst (by rw [hid_nil]; exact e) (by simpa using hz) (by rw [hid_nil]; exact bls_reps bs)⟩
  | i + 4, q => simp at q
section
variable {X : Cx} {kn m : Str} {p ap cp p2 : Pos} {j : Nat}
theorem pe_cnt (hu : X.A.units + 120 < cLine) (hN : X.N[3]? = some kn) (hv : Vis X.env.scope kn) (nk : nmOk kn = true) (hl : (ap.endLine == cp.line) = true) :
    PE X (.Call (.Attribute (.Name kn p) "count" ap) [.Constant (.bool true) j p2] [] cp) (fun σ H Q => ∃ (l : Addr) (bs : List Bool), TabsW H ∧ σ.length = 4 ∧ σ[3]? = some (some (.ref l)) ∧ H l = some (.lst (bs.map V.bl)) ∧ bs.length ≤ SZ ∧ ∀ H', Same H H' → Q (.int ((bs.countP id : Nat) : Int)) H') := by
  refine PEimp (de_count (RX := fun _ _ _ _ => False) (W := fun _ _ _ _ => False) (go := fun ρ => ρ.get 3) (ga := fun _ => .ok (.bl true)) hu (de_var hN hv (nm_of nk).1 (nm_of nk).2) de_bl rfl rfl hl rfl) fun σ H Q ⟨l, bs, t, h4, h3, e, hz, q⟩ => ?_
  refine ⟨[], _, re_bls t h4 h3 e hz, ?_⟩
  have ec : ((bls bs).countP fun y => eqD y (.bl true)) = bs.countP id := by
    unfold bls
    rw [List.countP_map]
    refine congrFun (congrArg List.countP (funext fun b => ?_)) bs
    cases b <;> rfl
  show Out (fun _ _ _ _ => False) (fun _ _ _ _ => False) (relE X.K []) (must ((D.bl true).plain && D.plains (bls bs) && decide ((D.bl true).dep ≤ 60) && decide (D.deps (bls bs) ≤ 60)) (.ok (.int (((bls bs).countP fun y => eqD y (.bl true) : Nat) : Int)))) σ H Q
  rw [bls_plain, bls_dep, ec]
  intro v H' e' r
  cases r
  exact q H' e'
theorem pe_idx (hu : X.A.units + 120 < cLine) (hN : X.N[3]? = some kn) (hv : Vis X.env.scope kn) (nk : nmOk kn = true) (hl : (ap.endLine == cp.line) = true) :
    PE X (.Call (.Attribute (.Name kn p) "index" ap) [.Constant (.bool true) j p2] [] cp) (fun σ H Q => ∃ (l : Addr) (bs : List Bool) (k : Nat), TabsW H ∧ σ.length = 4 ∧ σ[3]? = some (some (.ref l)) ∧ H l = some (.lst (bs.map V.bl)) ∧ bs.length ≤ SZ ∧ indexOf (.bl true) 0 (bls bs) = some k ∧ ∀ H', Same H H' → Q (.int (k : Nat)) H') := by
  refine PEimp (de_index (RX := fun _ _ _ _ => False) (W := fun _ _ _ _ => False) (go := fun ρ => ρ.get 3) (ga := fun _ => .ok (.bl true)) hu (de_var hN hv (nm_of nk).1 (nm_of nk).2) de_bl rfl rfl hl rfl) fun σ H Q ⟨l, bs, k, t, h4, h3, e, hz, hk, q⟩ => ?_
  refine ⟨[], _, re_bls t h4 h3 e hz, ?_⟩
  show Out (fun _ _ _ _ => False) (fun _ _ _ _ => False) (relE X.K []) (must ((D.bl true).plain && D.plains (bls bs) && decide ((D.bl true).dep ≤ 60) && decide (D.deps (bls bs) ≤ 60)) (optR (indexOf (.bl true) 0 (bls bs)) >>= fun k => Res.ok (D.int (k : Nat)))) σ H Q
  rw [bls_plain, bls_dep, hk]
  intro v H' e' r
  cases r
  exact q H' e'
end
/-! ### the suite of _law_told -/
/-- what the classes say of isinstance -/
structure ToldX (K : PySem.W.Frag) (mg : Str → Option Value) : Prop where
  isi : mg "isinstance" = none
  bool : mg "bool" = none
  ve : mg "ValueError" = none
  deal : mg "DealError" = some (.ref (xa K "DealError"))
  cls : ∀ c ∈ excs, mg (Str.ofString c) = some (.ref (xa K c)) ∧ ExcC K (xa K c) ∧ XfC K (xa K c) ∧ PySem.W.findIn K (.ref (xa K c)) "at" = some none ∧ PySem.W.exmOne K (.ref (xa K c)) (.ref (xa K "DealError")) = some true ∧
    PySem.W.kitOne K (.ref (xa K c)) (.type "ValueError") = some true ∧ ∀ c' ∈ excs, PySem.W.kitOne K (.ref (xa K c)) (.ref (xa K c')) = some (decide (c = c'))
def kk (c : String) : List Bool := excs.map fun c' => decide (c = c')
theorem kk_count {c : String} (h : c ∈ excs) : (kk c).countP id = 1 := by
  simp only [excs, List.mem_cons, List.not_mem_nil, or_false] at h
  rcases h with rfl | rfl | rfl | rfl | rfl | rfl | rfl | rfl | rfl <;> decide
theorem kk_index {c : String} (h : c ∈ excs) : indexOf (.bl true) 0 (bls (kk c)) = some (exNo c) := by
  simp only [excs, List.mem_cons, List.not_mem_nil, or_false] at h
  rcases h with rfl | rfl | rfl | rfl | rfl | rfl | rfl | rfl | rfl <;> decide
def tSu (a d : Addr) (c : String) : TS := fun D σ H => σ.length = 4 ∧ σ[2]? = some (some (.ref a)) ∧ TabsW H ∧ ∃ (i : Int) (fs : List (Str × V)), H d = some (.xd fs) ∧ fs.lookup ("at" : Str) = some (V.int i) ∧
  ∀ σ' H' p, σ'.length = 4 → σ'[1]? = some (some (.ref p)) → Same H H' → Nu H p → H' p = some (.tup [.str "refused", .int (exNo c : Nat), .int i]) → D.nx σ' H'
theorem isi_ok {en : Str} {sc : Scope} {c : String} {e : Expr} (h : isiB en sc c e = true) : okX e = true := by
  obtain ⟨q, hx, h⟩ := oB_of h
  exact (Bool.and_eq_true_iff.mp h).2
theorem isi_call {en : Str} {sc : Scope} {c : String} {e : Expr} (h : isiB en sc c e = true) : ∃ f x y p1 p2 p3 p4, e = .Call (.Name f p1) [.Name x p2, .Name y p3] [] p4 := by
  obtain ⟨⟨f, x, y⟩, hx, h⟩ := oB_of h
  obtain ⟨p1, p2, p3, p4, e⟩ := asIsi_of hx
  exact ⟨f, x, y, p1, p2, p3, p4, e⟩
theorem isS1_of {kn en : Str} {sc : Scope} {s : Stmt} (h : isS1 kn en sc s = true) : ∃ p1 e1 e2 e3 e4 p2 p3, s = .Assign [.Name kn p1] (.List [e1, e2, e3, e4] p2) p3 ∧ isiB en sc "NoText" e1 = true ∧ isiB en sc "NoRow" e2 = true ∧ isiB en sc "Twice" e3 = true ∧ isiB en sc "BadCheck" e4 = true := by
  unfold isS1 at h
  split at h
  · simp only [Bool.and_eq_true, decide_eq_true_eq] at h
    obtain ⟨⟨⟨⟨rfl, f1⟩, f2⟩, f3⟩, f4⟩ := h
    exact ⟨_, _, _, _, _, _, _, rfl, f1, f2, f3, f4⟩
  · cases h
theorem isS2_of {kn en : Str} {sc : Scope} {s : Stmt} (h : isS2 kn en sc s = true) : ∃ p1 p2 e1 e2 e3 e4 p3 p4 p5, s = .Assign [.Name kn p1] (.BinOp (.Name kn p2) .Add (.List [e1, e2, e3, e4] p3) p4) p5 ∧ isiB en sc "NoRef" e1 = true ∧ isiB en sc "Held" e2 = true ∧ isiB en sc "NoMark" e3 = true ∧ isiB en sc "BadLog" e4 = true := by
  unfold isS2 at h
  split at h
  · simp only [Bool.and_eq_true, decide_eq_true_eq] at h
    obtain ⟨⟨⟨⟨⟨rfl, rfl⟩, f1⟩, f2⟩, f3⟩, f4⟩ := h
    exact ⟨_, _, _, _, _, _, _, _, _, rfl, f1, f2, f3, f4⟩
  · cases h
theorem isS3_of {kn en : Str} {sc : Scope} {s : Stmt} (h : isS3 kn en sc s = true) : ∃ p1 ap e cp p2, s = .Expr (.Call (.Attribute (.Name kn p1) "append" ap) [e] [] cp) p2 ∧ (ap.endLine == cp.line) = true ∧ isiB en sc "Clash" e = true := by
  unfold isS3 at h
  split at h
  · simp only [Bool.and_eq_true, decide_eq_true_eq] at h
    obtain ⟨⟨⟨rfl, rfl⟩, f1⟩, f2⟩ := h
    exact ⟨_, _, _, _, _, rfl, f1, f2⟩
  · cases h
theorem isS4_of {fn : Str} {s : Stmt} (h : isS4 fn s = true) : ∃ p1 j1 p2 j2 p3 p4 j3 p5 q p6 p7, s = .Assign [.Name fn p1] (.Tuple [.Constant (.str "refused") j1 p2, .UnaryOp .USub (.Constant (.int 1) j2 p3) p4, .Constant (.int 0) j3 p5] q p6) p7 := by
  unfold isS4 at h
  split at h
  · simp only [Bool.and_eq_true, decide_eq_true_eq] at h
    obtain ⟨⟨⟨rfl, rfl⟩, rfl⟩, rfl⟩ := h
    exact ⟨_, _, _, _, _, _, _, _, _, _, _, rfl⟩
  · cases h
theorem isB1_of {kn : Str} {e : Expr} (h : isB1 kn e = true) : ∃ p1 ap j1 p2 cp j2 p3 p4, e = .Compare (.Call (.Attribute (.Name kn p1) "count" ap) [.Constant (.bool true) j1 p2] [] cp) [.Eq] [.Constant (.int 1) j2 p3] p4 ∧ (ap.endLine == cp.line) = true := by
  unfold isB1 at h
  split at h
  · simp only [Bool.and_eq_true, decide_eq_true_eq] at h
    obtain ⟨⟨⟨⟨rfl, rfl⟩, f1⟩, rfl⟩, rfl⟩ := h
    exact ⟨_, _, _, _, _, _, _, _, rfl, f1⟩
  · cases h
theorem isB2_of {en : Str} {sc : Scope} {e : Expr} (h : isB2 en sc e = true) : ∃ p1 p2 p3 p4 p5 p6, e = .UnaryOp .Not (.Call (.Name "isinstance" p1) [.Attribute (.Name en p2) "at" p3, .Name "bool" p4] [] p5) p6 ∧ glB sc "isinstance" = true ∧ glB sc "bool" = true := by
  unfold isB2 at h
  split at h
  · simp only [Bool.and_eq_true, decide_eq_true_eq] at h
    obtain ⟨⟨⟨⟨⟨rfl, rfl⟩, rfl⟩, rfl⟩, f1⟩, f2⟩ := h
    exact ⟨_, _, _, _, _, _, rfl, f1, f2⟩
  · cases h
theorem isB3_of {fn kn en : Str} {s : Stmt} (h : isB3 fn kn en s = true) : ∃ p1 j1 p2 p3 ap j2 p4 cp p5 p6 q p7 p8, s = .Assign [.Name fn p1] (.Tuple [.Constant (.str "refused") j1 p2, .Call (.Attribute (.Name kn p3) "index" ap) [.Constant (.bool true) j2 p4] [] cp, .Attribute (.Name en p5) "at" p6] q p7) p8 ∧ (ap.endLine == cp.line) = true := by
  unfold isB3 at h
  split at h
  · simp only [Bool.and_eq_true, decide_eq_true_eq] at h
    obtain ⟨⟨⟨⟨⟨⟨⟨rfl, rfl⟩, rfl⟩, rfl⟩, f1⟩, rfl⟩, rfl⟩, rfl⟩ := h
    exact ⟨_, _, _, _, _, _, _, _, _, _, _, _, _, rfl, f1⟩
  · cases h
theorem isS5_of {fn kn en : Str} {sc : Scope} {s : Stmt} (h : isS5 fn kn en sc s = true) : ∃ e1 e2 e3 p1 t p2, s = .If (.BoolOp .And [e1, e2, e3] p1) [t] [] p2 ∧ isiB en sc "ValueError" e1 = true ∧ isB1 kn e2 = true ∧ isB2 en sc e3 = true ∧ isB3 fn kn en t = true := by
  unfold isS5 at h
  split at h
  · simp only [Bool.and_eq_true] at h
    obtain ⟨⟨⟨f1, f2⟩, f3⟩, f4⟩ := h
    exact ⟨_, _, _, _, _, _, rfl, f1, f2, f3, f4⟩
  · cases h
theorem sm_xd {H H' : Hp} (e : Same H H') {d : Addr} {fs : List (Str × V)} (h : H d = some (.xd fs)) : H' d = some (.xd fs) := e.sm _ _ h fun _ z => nomatch z
theorem ups {H : Hp} {p : Addr} {o : HO} (h : H p = none) : Same H (upd H p o) := same_upd h
section
variable {X : Cx} {a d : Addr} {oe : Obj} {pn : List (Addr × Obj)} {an fn en kn : Str} {sc : Scope} {c : String} {s1 s2 s3 s4 s5 : Stmt}
theorem told_suite (T : ToldX X.K X.mg) (hce : c ∈ excs) (sco : X.env.scope = sc) (hu : X.A.units + 120 < cLine) (nd : X.N.Nodup) (hN : X.N = [an, fn, en, kn]) (lf : locL sc fn = true) (le : locL sc en = true) (lk : locL sc kn = true) (ne : nmOk en = true) (nk : nmOk kn = true)
    (g1 : isS1 kn en sc s1 = true) (g2 : isS2 kn en sc s2 = true) (g3 : isS3 kn en sc s3 = true) (g4 : isS4 fn s4 = true) (g5 : isS5 fn kn en sc s5 = true) (hz : Zc (.ref (xa X.K c)) (some d) oe) (hf : ∃ vs, oe.data = .fields vs) :
    PSs (X.suite a ((a, oe) :: pn)) [s1, s2, s3, s4, s5] (tSu a d c) := by
  obtain ⟨_, CE, XF, hno, _, kV, kC⟩ := T.cls c hce
  have N1 : X.N[1]? = some fn := by rw [hN]; rfl
  have N2 : X.N[2]? = some en := by rw [hN]; rfl
  have N3 : X.N[3]? = some kn := by rw [hN]; rfl
  have lf' : X.env.scope.names.lookup fn = some .local := by rw [sco]; exact of_decide_eq_true lf
  have le' : sc.names.lookup en = some .local := of_decide_eq_true le
  have lk' : X.env.scope.names.lookup kn = some .local := by rw [sco]; exact of_decide_eq_true lk
  have ve : Vis X.env.scope en := .inl (by rw [sco]; exact le')
  have isi : ∀ {c' : String} {e : Expr}, c' ∈ excs → isiB en sc c' e = true → PE (X.suite a ((a, oe) :: pn)) e (tIsi a d (decide (c = c'))) := fun {c' e} h1 h2 =>
    pe_isi h2 sco CE hz hf N2 (.inl le') ne T.isi (.inl ⟨_, (T.cls c' h1).1, kC c' h1⟩)
  obtain ⟨p1, e1, e2, e3, e4, p2, p3, rfl, f1, f2, f3, f4⟩ := isS1_of g1
  obtain ⟨p4, p5, e5, e6, e7, e8, p6, p7, p8, rfl, f5, f6, f7, f8⟩ := isS2_of g2
  obtain ⟨p9, ap, e9, cp, p10, rfl, hl, f9⟩ := isS3_of g3
  obtain ⟨p11, j1, p12, j2, p13, p14, j3, p15, q1, p16, p17, rfl⟩ := isS4_of g4
  obtain ⟨e10, e11, e12, p18, t5, p19, rfl, f10, f11, f12, f13⟩ := isS5_of g5
  obtain ⟨p20, ap2, j4, p21, cp2, j5, p22, p23, rfl, hl2⟩ := isB1_of f11
  obtain ⟨p24, p25, p26, p27, p28, p29, rfl, gI, gB⟩ := isB2_of f12
  obtain ⟨p30, j6, p31, p32, ap3, j7, p33, cp3, p34, p35, q2, p36, p37, rfl, hl3⟩ := isB3_of f13
  have pk : PE (X.suite a ((a, oe) :: pn)) (.Name kn p5) (tVar 3) := pe_var (i := 3) N3 (.inl lk') (nm_of nk).1 (nm_of nk).2
  have pk2 : PE (X.suite a ((a, oe) :: pn)) (.Name kn p9) (tVar 3) := pe_var (i := 3) N3 (.inl lk') (nm_of nk).1 (nm_of nk).2
  have GI : Gl (X.suite a ((a, oe) :: pn)) "isinstance" := by
    show X.env.scope.names.lookup _ = _
    rw [sco]; exact gl_of gI
  have GB : Gl (X.suite a ((a, oe) :: pn)) "bool" := by
    show X.env.scope.names.lookup _ = _
    rw [sco]; exact gl_of gB
  obtain ⟨i1, i2, i3, i4, i5, i6, i7, he10⟩ := isi_call f10
  have v10 : PE (X.suite a ((a, oe) :: pn)) e10 (tIsi a d true) := pe_isi f10 sco CE hz hf N2 (.inl le') ne T.isi (.inr ⟨T.ve, by decide +kernel, by decide +kernel, kV⟩)
  have st : ∀ {e : Expr} (h : okX e = true) (es : List Expr), starEach (e :: es) (X.suite a ((a, oe) :: pn)).env = (false, eval e (X.suite a ((a, oe) :: pn)).env) :: starEach es (X.suite a ((a, oe) :: pn)).env := fun h es => star_of h es _
  have S1 : PS (X.suite a ((a, oe) :: pn)) (.Assign [.Name kn p1] (.List [e1, e2, e3, e4] p2) p3) _ := ps_set (i := 3) nd N3 (.inl lk') (pe_lst (pa_cons (isi (by decide) f1) (pa_cons (isi (by decide) f2) (pa_cons (isi (by decide) f3) (pa_cons (isi (by decide) f4) pa_nil (st (isi_ok f4) _)) (st (isi_ok f3) _)) (st (isi_ok f2) _)) (st (isi_ok f1) _))) rfl (.inr lk')
  have S2 : PS (X.suite a ((a, oe) :: pn)) (.Assign [.Name kn p4] (.BinOp (.Name kn p5) .Add (.List [e5, e6, e7, e8] p6) p7) p8) _ := ps_set (i := 3) nd N3 (.inl lk') (pe_op op_addR pk (pe_lst (pa_cons (isi (by decide) f5) (pa_cons (isi (by decide) f6) (pa_cons (isi (by decide) f7) (pa_cons (isi (by decide) f8) pa_nil (st (isi_ok f8) _)) (st (isi_ok f7) _)) (st (isi_ok f6) _)) (st (isi_ok f5) _)))) rfl (.inr lk')
  have S3 : PS (X.suite a ((a, oe) :: pn)) (.Expr (.Call (.Attribute (.Name kn p9) "append" ap) [e9] [] cp) p10) _ := ps_expr (pe_bm PySem.F.plainAttrs_list PySem.F.slot_list_append PySem.F.type_list_append mt_append pk2 (pa_cons (isi (by decide) f9) pa_nil (st (isi_ok f9) _)) rfl (by rw [st (isi_ok f9)]; rfl) hl (st (isi_ok f9) _) rfl)
  have S4 : PS (X.suite a ((a, oe) :: pn)) (.Assign [.Name fn p11] (.Tuple [.Constant (.str "refused") j1 p12, .UnaryOp .USub (.Constant (.int 1) j2 p13) p14, .Constant (.int 0) j3 p15] q1 p16) p17) _ := ps_set (i := 1) nd N1 (.inl lf') (pe_tup (pa_cons pe_str (pa_cons (pe_un un_neg pe_int) (pa_cons pe_int pa_nil)))) rfl (.inr lf')
  have pe3 : ∀ p p', PE (X.suite a ((a, oe) :: pn)) (.Attribute (.Name en p) "at" p') _ := fun p p' => pe_xf XF hno hz hf (pe_var (i := 2) (pos := p) N2 ve (nm_of ne).1 (nm_of ne).2) rfl
  have B2 : PE (X.suite a ((a, oe) :: pn)) (.Call (.Name "isinstance" p24) [.Attribute (.Name en p25) "at" p26, .Name "bool" p27] [] p28) _ := pe_callB call_isi GI T.isi (by decide +kernel) (pa_cons (pe3 p25 p26) (pa_cons (pe_bltn (v := .ty "bool") GB T.bool (by decide +kernel) rfl) pa_nil rfl) rfl)
  have PV : PT (X.suite a ((a, oe) :: pn)) e10 (tB (tIsi a d true)) := by
    subst he10
    exact pt_val v10
  have PC : PE (X.suite a ((a, oe) :: pn)) (.Call (.Attribute (.Name kn p20) "count" ap2) [.Constant (.bool true) j4 p21] [] cp2) _ := pe_cnt hu N3 (.inl lk') nk hl2
  have PI : PE (X.suite a ((a, oe) :: pn)) (.Call (.Attribute (.Name kn p32) "index" ap3) [.Constant (.bool true) j7 p33] [] cp3) _ := pe_idx hu N3 (.inl lk') nk hl3
  have P2 : PT (X.suite a ((a, oe) :: pn)) (.Compare (.Call (.Attribute (.Name kn p20) "count" ap2) [.Constant (.bool true) j4 p21] [] cp2) [.Eq] [.Constant (.int 1) j5 p22] p23) _ := pt_cmpR (op_eqR hu) PC pe_int rfl
  have P3 : PT (X.suite a ((a, oe) :: pn)) (.UnaryOp .Not (.Call (.Name "isinstance" p24) [.Attribute (.Name en p25) "at" p26, .Name "bool" p27] [] p28) p29) _ := pt_not (pt_val B2)
  have S5 : PS (X.suite a ((a, oe) :: pn)) (.If (.BoolOp .And [e10, _, _] p18) [_] [] p19) _ := ps_if (pw_and PV (pw_and P2 (pw_and1 P3))).pt
    (pss_one (ps_set (i := 1) (x := fn) (pos' := p30) (pos := p37) nd N1 (.inl lf') (pe_tup (x1 := q2) (pos := p36) (pa_cons (pe_str (x := "refused") (j := j6) (pos := p31)) (pa_cons PI (pa_cons (pe3 p34 p35) pa_nil)))) rfl (.inr lf'))) pss_nil
  refine PSsimp (pss_cons S1 (pss_cons S2 (pss_cons S3 (pss_cons S4 (pss_one S5))))) fun D σ H ⟨h4, h2, ht, i, fs, hd, hat, q⟩ => ?_
  have z4 : (4 : Nat) ≤ sizeLine := by decide
  have z44 : (4 + 4 : Nat) ≤ sizeLine := by decide
  have z3 : (3 : Nat) ≤ sizeLine := by decide
  have z9 : (kk c).length ≤ SZ := by
    show (9 : Nat) ≤ SZ
    decide
  refine ⟨h2, ⟨fs, hd⟩, h2, ⟨fs, hd⟩, h2, ⟨fs, hd⟩, h2, ⟨fs, hd⟩, z4, fun l1 n1 => ?_⟩
  have E1 := ups (o := .lst [.bl (decide (c = "NoText")), .bl (decide (c = "NoRow")), .bl (decide (c = "Twice")), .bl (decide (c = "BadCheck"))]) n1
  have hd1 := sm_xd E1 hd
  have k2 : (σ.set 3 (some (.ref l1)))[2]? = some (some (.ref a)) := by simp [h2]
  have k3 : (σ.set 3 (some (.ref l1)))[3]? = some (some (.ref l1)) := by simp [h4]
  refine ⟨.ref l1, k3, k2, ⟨fs, hd1⟩, k2, ⟨fs, hd1⟩, k2, ⟨fs, hd1⟩, k2, ⟨fs, hd1⟩, z4, fun l2 n2 => ?_⟩
  have E2 := ups (o := .lst [.bl (decide (c = "NoRef")), .bl (decide (c = "Held")), .bl (decide (c = "NoMark")), .bl (decide (c = "BadLog"))]) n2
  have hd2 := sm_xd E2 hd1
  refine .inr (.inr (.inl ⟨l1, l2, _, _, rfl, rfl, E2.lst upd_same, upd_same, z44, fun l3 n3 => ?_⟩))
  have E3 := ups (o := .lst ([.bl (decide (c = "NoText")), .bl (decide (c = "NoRow")), .bl (decide (c = "Twice")), .bl (decide (c = "BadCheck"))] ++ [.bl (decide (c = "NoRef")), .bl (decide (c = "Held")), .bl (decide (c = "NoMark")), .bl (decide (c = "BadLog"))])) n3
  have hd3 := sm_xd E3 hd2
  have m2 : ((σ.set 3 (some (.ref l1))).set 3 (some (.ref l3)))[2]? = some (some (.ref a)) := by simp [h2]
  have m3 : ((σ.set 3 (some (.ref l1))).set 3 (some (.ref l3)))[3]? = some (some (.ref l3)) := by simp [h4]
  have z8 : (8 : Nat) < sizeLine := by decide
  refine ⟨.ref l3, m3, .inl ⟨rfl, _, SqL.of upd_same⟩, m2, ⟨fs, hd3⟩, l3, _, _, rfl, rfl, upd_same, z8, ?_⟩
  have E4 := E3.write (o := .lst ([.bl (decide (c = "NoText")), .bl (decide (c = "NoRow")), .bl (decide (c = "Twice")), .bl (decide (c = "BadCheck"))] ++ [.bl (decide (c = "NoRef")), .bl (decide (c = "Held")), .bl (decide (c = "NoMark")), .bl (decide (c = "BadLog"))] ++ [.bl (decide (c = "Clash"))])) (.of n3) upd_same nc_lst
  have EE := (E1.trans E2).trans E4
  have hd4 := sm_xd E4 hd2
  refine ⟨1, rfl, z3, fun l4 n4 => ?_⟩
  have E5 := ups (o := .tup [.str "refused", .int (-1), .int 0]) n4
  have hd5 := sm_xd E5 hd4
  have r2 : (((σ.set 3 (some (.ref l1))).set 3 (some (.ref l3))).set 1 (some (.ref l4)))[2]? = some (some (.ref a)) := by simp [h2]
  have r3 : (((σ.set 3 (some (.ref l1))).set 3 (some (.ref l3))).set 1 (some (.ref l4)))[3]? = some (some (.ref l3)) := by simp [h4]
  have rl : (((σ.set 3 (some (.ref l1))).set 3 (some (.ref l3))).set 1 (some (.ref l4))).length = 4 := by simp [h4]
  have L5 := E5.lst (xs := (kk c).map V.bl) (a := l3) upd_same
  have t5 := (EE.trans E5).tabs ht
  refine ⟨r2, ⟨fs, hd5⟩, true, rfl, ?_⟩
  refine iteT ?_
  refine ⟨l3, kk c, t5, rl, r3, L5, z9, fun H6 E6 => ?_⟩
  refine ⟨.int ((kk c).countP id : Nat), .int 1, .int _, .int _, rfl, _, rfl, ?_⟩
  rw [kk_count hce]
  refine iteT ?_
  have hd6 := sm_xd E6 hd5
  refine ⟨.ref a, r2, rfl, rfl, d, fs, .int i, rfl, hd6, hat, .int i, .ty "bool", .type "int", .type "bool", false, rfl, .ty "bool", .base (.int i), kit_ty rfl, false, rfl, ?_⟩
  refine iteT ?_
  refine ⟨l3, kk c, exNo c, E6.tabs t5, rl, r3, E6.lst L5, z9, kk_index hce, fun H7 E7 => ?_⟩
  refine ⟨.ref a, r2, rfl, rfl, d, fs, .int i, rfl, sm_xd E7 hd6, hat, z3, fun l5 n5 => ?_⟩
  refine q _ _ l5 ?_ ?_ ((((EE.trans E5).trans E6).trans E7).trans (ups n5)) ((((EE.trans E5).trans E6).trans E7).free n5) upd_same
  · simp [h4]
  · simp [h4]
end
/-! ### _law_told -/
theorem isT1_of {fn an : Str} {s : Stmt} (h : isT1 fn an s = true) : ∃ p1 j p2 p3 p4 q p5 p6, s = .Assign [.Name fn p1] (.Tuple [.Constant (.str "told") j p2, .Call (.Name an p3) [] [] p4] q p5) p6 := by
  unfold isT1 at h
  split at h
  · simp only [Bool.and_eq_true, decide_eq_true_eq] at h
    obtain ⟨⟨rfl, rfl⟩, rfl⟩ := h
    exact ⟨_, _, _, _, _, _, _, _, rfl⟩
  · cases h
theorem isT3_of {fn : Str} {s : Stmt} (h : isT3 fn s = true) : ∃ p1 p2, s = .Return (some (.Name fn p1)) p2 := by
  unfold isT3 at h
  split at h
  · obtain rfl := of_decide_eq_true h
    exact ⟨_, _, rfl⟩
  · cases h
/-- the slots are as many as the names -/
theorem Takes.len {X : Cx} {W : WX} (t : Takes X W) : Takes X (fun cls d σ H => σ.length = X.N.length → W cls d σ H) := fun u s' ⟨a, B, sI, pins, σ, H, cls, d, e, I, nb, up, sky, na, os, ag, w⟩ =>
  t u s' ⟨a, B, sI, pins, σ, H, cls, d, e, I, nb, up, sky, na, os, ag, w I.len⟩
def TTo (K : PySem.W.Frag) : (XK → Hp → VK → Prop) → Hp → VK → Prop := fun tl H Q => ∀ (E' : XK) (Q' : VK),
  (∀ cls dx H1, (∃ (e : Ex) (i : Int), TabsW H1 ∧ RXc K H1 e cls dx ∧ exAt e.arg = some i ∧ ∀ p H2, Same H1 H2 → Nu H1 p → H2 p = some (.tup [.str "refused", .int (exNo e.cls : Nat), .int i]) → Q (.ref p) H2) → E' cls dx H1) →
  (∀ v H1, (∀ p, H1 p = none → Q (.ref p) (upd H1 p (.tup [.str "told", v]))) → Q' v H1) → tl E' H Q'
theorem told_gives {X : Cx} {Ng : List Str} {x an q : Str} {sg : Scope} {g : Addr} {cdg : Value} {bg : List Stmt} (T : ToldX X.K X.mg) (hb : toldB Ng sg bg = true) (nd : Ng.Nodup) (ha : Ng[0]? = some an) (hr : X.A.units + 200 < cLine) :
    LamX.GivesTo X Ng x sg g cdg bg an q (TTo X.K) := by
  unfold toldB at hb
  split at hb
  · rename_i an' fn en kn t1 de p1 en' s1 s2 s3 s4 s5 p2 p3 t3
    obtain rfl : an' = an := Option.some.inj ha
    simp only [Bool.and_eq_true, decide_eq_true_eq] at hb
    obtain ⟨⟨⟨⟨⟨⟨⟨⟨⟨⟨⟨⟨⟨⟨⟨⟨⟨rfl, gd⟩, rfl⟩, la⟩, lf⟩, le⟩, lk⟩, na⟩, nf⟩, ne⟩, nk⟩, g0⟩, g1⟩, g2⟩, g3⟩, g4⟩, g5⟩, g6⟩ := hb
    obtain ⟨q1, j, q2, q3, q4, k, q5, q6, rfl⟩ := isT1_of g0
    obtain ⟨q7, q8, rfl⟩ := isT3_of g6
    intro f c' s H Q tl act hc h
    have lf' : sg.names.lookup fn = some .local := of_decide_eq_true lf
    have le' : sg.names.lookup en' = some .local := of_decide_eq_true le
    obtain ⟨Y, hY⟩ : ∃ Y, Y = (cxOf C8.CX0 X.prog X.w X.K X.mg X.base [an', fn, en', kn] x sg g cdg X.A X.stack s H C8.E0).nox := ⟨_, rfl⟩
    have yN : Y.N = [an', fn, en', kn] := by rw [hY] <;> rfl
    have yE : Y.env.scope = sg := by rw [hY] <;> rfl
    have yK : Y.K = X.K := by rw [hY] <;> rfl
    have ymg : Y.mg = X.mg := by rw [hY] <;> rfl
    have yA : Y.A.units + 120 < cLine := by
      rw [hY]
      show X.A.units + 3 + 120 < cLine
      omega
    have T' : ToldX Y.K Y.mg := by rw [yK, ymg]; exact T
    have ynd : Y.N.Nodup := by rw [yN]; exact nd
    have y1 : Y.N[1]? = some fn := by rw [yN]; rfl
    have hgl : Gl Y "DealError" := by
      show Y.env.scope.names.lookup _ = _
      rw [yE]; exact gl_of gd
    have v1 : Y.env.scope.names.lookup fn = some .local := by rw [yE]; exact lf'
    have ac : ∀ (W : WX) (pn : List (Addr × Obj)) (xe : Value → Shared → Prop) (E : XK) (p1 p2 : Pos), Takes (Y.tr pn xe) W → (∀ cls d σ' H', E cls d H' → W cls d σ' H') → PE (Y.tr pn xe) (.Call (.Name an' p1) [] [] p2) (fun σZ HZ Q => σZ[0]? = some (some (.ref f)) ∧ HZ c' = some (LamX.CodeO c' q) ∧ tl E HZ Q) := by
      rw [hY]
      exact act
    suffices Z : ∃ t, PSs Y [.Try [.Assign [.Name fn q1] (.Tuple [.Constant (.str "told") j q2, .Call (.Name an' q3) [] [] q4] k q5) q6] [.ExceptHandler (some (.Name "DealError" p1)) (some en') [s1, s2, s3, s4, s5] p2] [] [] p3, .Return (some (.Name fn q7)) q8] t ∧ t { nx := fun _ H' => Q .non H', rt := Q } (L2.start [an', fn, en', kn] [.ref f]) H by
      rw [hY] at Z
      exact Z
    refine ⟨_, pss_cons (ps_try_as (X := Y) (c := .ref (xa X.K "DealError")) (i := 2) (Wout := fun _ _ _ _ => False)
      (tb := fun W D σ H => ∃ Ech : XK, (∀ cls d σ' H', Ech cls d H' → σ'.length = 4 → W cls d σ' H') ∧ σ[0]? = some (some (.ref f)) ∧ H c' = some (LamX.CodeO c' q) ∧ tl Ech H fun v H1 => [V.str "told", v].length ≤ sizeLine ∧ ∀ p, H1 p = none → D.nx (σ.set 1 (some (.ref p))) (upd H1 p (.tup [.str "told", v])))
      (ts := fun a cls d D σ H => ∃ c dd, c ∈ excs ∧ cls = .ref (xa X.K c) ∧ d = some dd ∧ tSu a dd c D σ H)
      (by rw [hY] <;> rfl) (by rw [hY] <;> rfl) ynd (by rw [yN]; rfl) (by show Y.env.scope.names.lookup _ = _; rw [yE]; exact le') ⟨hgl, by decide, .inl (by rw [ymg]; exact T.deal)⟩ takes0 (fun W pn xe tk _ => ?_) fun a oe cls d pn hz hf => ?_) (pss_one (ps_ret (pe_var (i := 1) y1 (.inl v1) (nm_of nf).1 (nm_of nf).2))), ?_⟩
    · refine ⟨fun pins s' σ H' D I h' => ?_⟩
      obtain ⟨Ech, hW, h1, h2, h3⟩ := h'
      have l4 : (Y.tr pn xe).N.length = 4 := by
        show Y.N.length = 4
        rw [yN] <;> rfl
      have hp := ac _ pn xe Ech q3 q4 (Takes.len tk) fun cls d σ' H' e z => hW cls d σ' H' e (by rw [← l4]; exact z)
      have hq : PSs (Y.tr pn xe) [.Assign [.Name fn q1] (.Tuple [.Constant (.str "told") j q2, .Call (.Name an' q3) [] [] q4] k q5) q6] _ := pss_one (ps_set (i := 1) ynd y1 (.inl v1) (pe_tup (pa_cons pe_str (pa_cons hp pa_nil rfl) rfl)) rfl (.inr v1))
      have z2 : (2 : Nat) ≤ sizeLine := by decide
      exact hq.run pins s' σ H' D I ⟨h1, h2, h3⟩
    · refine ⟨fun pins s' σ H' D I ⟨c, dd, h1, h2, h3, h4⟩ => ?_⟩
      subst h2 h3
      exact (told_suite T' h1 yE yA ynd yN lf le lk ne nk g1 g2 g3 g4 g5 (by rw [yK]; exact hz) hf).run pins s' σ H' D I h4
    · have z2 : (2 : Nat) ≤ sizeLine := by decide
      refine ⟨_, fun cls dx σ' H1 ⟨e, i, ht, ⟨h1, h2, _, d, h3, h4⟩, hi, hq⟩ z => ?_, rfl, hc, h _ _ (fun _ _ _ z => z) fun v H1 hv => ⟨z2, fun p hp => ⟨.ref p, rfl, hv p hp⟩⟩⟩
      refine ⟨true, by rw [yK, h2]; exact (T.cls _ h1).2.2.2.2.1, fun _ a na => ⟨e.cls, d, h1, h2, h3, by simpa using z, by simp [z], ht, ?_⟩, fun z => nomatch z⟩
      have fin : ∀ (σ2 : L2.St) (H2 : Hp) (p : Addr), σ2.length = 4 → σ2[1]? = some (some (V.ref p)) → Same H1 H2 → Nu H1 p → H2 p = some (.tup [.str "refused", .int (exNo e.cls : Nat), .int i]) → tRet (tVar 1) { nx := fun _ H' => Q .non H', rt := Q } (σ2.set 2 none) H2 := fun σ2 H2 p w1 w2 w3 w5 w4 => ⟨.ref p, by rw [List.getElem?_set_ne (by decide)]; exact w2, hq p H2 w3 w5 w4⟩
      rcases h4 with ⟨i', ha', hd⟩ | ⟨s', ha', hd⟩
      · rw [ha'] at hi
        obtain rfl : i' = i := Option.some.inj hi
        exact ⟨i', _, hd, by rw [lookup_put, if_pos rfl], fin⟩
      · rw [ha'] at hi
        obtain rfl : 0 = i := Option.some.inj hi
        exact ⟨0, _, hd, by rw [lookup_put, if_neg (by decide), lookup_put, if_pos rfl], fin⟩
  · cases hb
structure ToldP (K : PySem.W.Frag) (mg : Str → Option Value) : Prop where
  x : ToldX K mg
  d : ∃ (g : Addr) (fd : FuncData) (an : Str) (Ng : List Str) (params : Arguments) (body : List Stmt) (scope : Scope), mg "_law_told" = some (.ref g) ∧ FunD K "_law_told" "_law_told" params body scope [] [] g fd ∧ FnScope Ng [an] scope ∧ Binds K fd [an] [] ∧ toldB Ng scope body = true
end Snd
/-! sorted(xs, key=lambda y: ..): the lambda's frame, its call, the keys one by one -/
namespace SortL
open PySem PySem.Spec PyProof.Rows PySem.W L2 LamX
variable {X : Cx} {σ : L2.St} {H : Hp} {s : Shared} {pins : List (Addr × Obj)}
/-- an address that was free when the invariant held -/
structure Fr1 (X : Cx) (pins : List (Addr × Obj)) (b : Addr) : Prop where
  loc : b ≠ X.env.locals
  new : X.s_0.heap.objs.size ≤ b
  cel : ∀ x c, X.env.cells.lookup x = some c → c ≠ b
  pin : ∀ p ∈ X.pn ++ pins, p.1 ≠ b
  frs : b ∉ L2.frs X.stack
theorem fr1_of (I : Inv X pins σ H s) {b : Addr} (hb : s.heap.objs.size ≤ b) : Fr1 X pins b := by
  have old : ∀ {c : Addr} {o : Obj}, s.heap.get? c = some o → c ≠ b := fun e => Nat.ne_of_lt (Nat.lt_of_lt_of_le (Heap.lt_size e) hb)
  refine ⟨Ne.symm (Nat.ne_of_lt (Nat.lt_of_lt_of_le I.lt hb)), Nat.le_trans I.sz hb, fun x c e => ?_, fun p hp => old (I.pin p hp).1, fun z => ?_⟩
  · obtain ⟨v, o, ho, _⟩ := I.cell x c e
    exact old ho
  · rcases List.mem_cons.mp (I.stkSub _ z) with e | e
    · have h1 := I.lt
      rw [← e] at h1
      exact absurd (Nat.lt_of_lt_of_le h1 hb) (Nat.lt_irrefl _)
    · exact I.nofs hb e
/-- objects of ours that are not told of have changed -/
theorem turned2 {t : Nat} {h' : Heap} (ch : List Addr) (I : Inv X pins σ H s) (hf : ∀ b ∈ ch, Fr1 X pins b ∧ H b = none) (k : ∀ b o, b ∉ ch → s.heap.get? b = some o → h'.get? b = some o) : Inv X pins σ H { s with heap := h', toks := t } := by
  have told : ∀ (c : Addr) (o : HO), H c = some o → c ∉ ch := fun c o e z => by
    rw [(hf c z).2] at e
    cases e
  refine I.step (ch := ch) (g' := s.gens) (d' := s.drawn) (fun b hb => ⟨.inr (hf b hb).1.new, (hf b hb).1.loc, (hf b hb).1.cel, (hf b hb).1.pin⟩) (fun b o _ _ hc e _ => k b o hc e) (fun b o _ _ hc e _ => ⟨o.slots, k b o hc e⟩) (fun _ _ _ _ n => n)
    (fun b o hc e => ⟨o, k b o hc e⟩) (fun _ _ e => e) (fun _ _ _ e => e) (fun b ps e => ⟨#[], by rw [e]; simp⟩) (fun m hm => ?_) (fun b u e => ?_) I.bare
  · obtain ⟨ob, es, ep, hob, r⟩ := hm
    exact ⟨ob, es, ep, k _ ob (fun z => (hf _ z).1.loc rfl) hob, r⟩
  · refine (I.hok b u e).stay (fun c w hc q => k c w (hc.elim (fun z => z ▸ told b u e) fun z => told c _ z) q) (fun _ q => q) fun _ _ q => q
/-- a heap without one address -/
theorem lacking (h : Heap) (b : Addr) : ∃ g : Heap, g.get? b = none ∧ ∀ c, c ≠ b → g.get? c = h.get? c := by
  refine ⟨h.update b fun o => { o with data := .freed }, ?_, fun c hc => Heap.get?_update_ne _ _ _ _ hc⟩
  unfold Heap.get? Heap.update
  cases q : h.objs[b]? with
  | none =>
    have : (h.objs.modify b fun o => { o with data := .freed })[b]? = none := by
      rw [Array.getElem?_modify, if_pos rfl, q]
      rfl
    simp only [this]
  | some o =>
    have : (h.objs.modify b fun o => { o with data := .freed })[b]? = some { o with data := .freed } := by
      rw [Array.getElem?_modify, if_pos rfl, q]
      rfl
    simp only [this]
/-! ### a lambda of one parameter -/
theorem LamS1.has {scope : Scope} {y : Str} (L : LamS1 X.env.scope scope y) (ok : X.Ok) : ∀ z ∈ scope.names, z.2 = .free → ∃ c, X.env.cells.lookup z.1 = some c := fun z hz e => by
  rcases L.free z hz e with k | k
  · exact ok.has _ (.inl k)
  · exact ok.has _ (.inr k)
/-- the context of the body -/
def lamCx1 (X : Cx) (y : Str) (A : Around) (outer : List Env) (s : Shared) (H : Hp) (E : XK) (scope : Scope) (f c' : Addr) : Cx := { lamCx X A outer s H E scope f c' with N := X.N ++ [y] }
theorem lam_in {A : Around} {outer : List Env} {E : XK} {scope : Scope} {f c' : Addr} {h₁ : Heap} {tk : Nat} {y : Str} {v : V} {u : Value} (I : Inv X pins σ H s) (L : LamS1 X.env.scope scope y) (hy : y ∉ X.N) (rv : RelV v u)
    (e0 : Env0 X.prog X.w X.K X.mg X.base A outer s H) (hd : A.handled = none) (hns : h₁.Ns s.heap.objs.size fun z => ([(y, u)] : List (Str × Value)).reverse.lookup z) (kp : ∀ b o, s.heap.get? b = some o → h₁.get? b = some o) :
    Inv (lamCx1 X y A outer s H E scope f c') [] (σ ++ [some v]) H { s with heap := h₁, toks := tk } := by
  have hfree := L.has I.ok
  have cm : ∀ {z c}, (cloFrom X.env.cells scope.names []).lookup z = some c → X.env.cells.lookup z = some c := fun {z c} e => by
    rcases cloFrom_mem (PySem.mem_of_lookup e) with hm | ⟨g1, g2⟩
    · exact absurd hm List.not_mem_nil
    · obtain ⟨a, ha⟩ := hfree _ g1 rfl
      have ha : X.env.cells.lookup z = some a := ha
      rw [ha] at g2 ⊢
      exact congrArg some g2.symm
  have look : ∀ {z}, scope.names.lookup z = some .free → ∃ c, (cloFrom X.env.cells scope.names []).lookup z = some c := fun {z} hl => mem_lookup (cloFrom_has (cells := X.env.cells) (acc := []) (show (z, NameKind.free) ∈ scope.names from PySem.mem_of_lookup hl))
  have cellK : ∀ {c : Addr} {w : Option Value}, s.heap.IsCell c w → h₁.IsCell c w := fun {c w} ⟨o, ho, hd⟩ => ⟨o, kp _ _ ho, hd⟩
  have noA : ∀ b : Addr, b ∉ (lamCx1 X y A outer s H E scope f c').ex := fun b z => absurd (show b ∈ ([] : List Addr) from z) (by simp)
  refine ⟨⟨e0.mod, L.kind, rfl, rfl, Nat.le_refl _, fun a b c e1 e2 => I.ok.inj a b c (cm e1) (cm e2), fun z hz => ?_, fun z c q _ => ?_, fun _ => hd, Around.frames_deeper e0.frames, .inr ⟨rfl, rfl⟩, fun b z => absurd z (noA b), e0.bs, e0.bsz, fun b _ _ => noA b,
      (fun b z => absurd z (noA b)), e0.funs, e0.frf⟩, rfl, e0.bare, Un.kept kp, ⟨_, hns, fun i z w e1 e2 e3 => ?_⟩, fun z c e => ?_, e0.hok.fresh (Nat.le_refl _), fun z c e => I.freeC z c (cm e), fun q hq => absurd (show q ∈ ([] : List (Addr × Obj)) ++ [] from hq) (by simp), e0.hok.kept kp, ?_⟩
  · have hz : scope.names.lookup z = some .cell ∨ scope.names.lookup z = some .free := hz
    rcases hz with hz | hz
    · exact absurd rfl (L.own _ (PySem.mem_of_lookup hz)).1
    · exact look hz
  · have q : false = true := q
    cases q
  · have e3 : Vis scope z := e3
    have e1 : (X.N ++ [y])[i]? = some z := e1
    by_cases hi : i < X.N.length
    · rw [List.getElem?_append_left hi] at e1
      rw [List.getElem?_append_left (by rw [I.len]; exact hi)] at e2
      have zy : z ≠ y := fun e => hy (e ▸ List.mem_of_getElem? e1)
      rcases e3 with k | k | k
      · exact absurd ((L.own _ (PySem.mem_of_lookup k)).2 rfl) zy
      · exact absurd (rfl : NameKind.cell = .cell) (L.own _ (PySem.mem_of_lookup k)).1
      · obtain ⟨m, hn, hl⟩ := I.loc
        have hvis : Vis X.env.scope z := (L.free _ (PySem.mem_of_lookup k) rfl).elim (fun k => .inr (.inl k)) (fun k => .inr (.inr k))
        obtain ⟨w', r, q⟩ := hl i z w e1 e2 hvis
        obtain ⟨ca, hca⟩ := look k
        refine ⟨w', r, .inr ⟨.inr k, ca, hca, ?_⟩⟩
        have c1 := cm hca
        rcases q with ⟨k', _⟩ | ⟨_, c3, e', q⟩
        · have k' : X.env.scope.names.lookup z = some .local := k'
          rcases L.free _ (PySem.mem_of_lookup k) rfl with k2 | k2 <;> rw [show X.env.scope.names.lookup z = _ from k2] at k' <;> cases k'
        · rw [c1] at e'
          cases e'
          exact cellK q
    · rw [List.getElem?_append_right (by omega)] at e1
      rw [List.getElem?_append_right (by rw [I.len]; omega), I.len] at e2
      have hi0 : i - X.N.length = 0 := by
        cases hq : i - X.N.length with
        | zero => rfl
        | succ j => rw [hq] at e1; cases e1
      rw [hi0] at e1 e2
      cases e1
      cases e2
      refine ⟨u, rv, .inl ⟨L.loc, ?_⟩⟩
      show ([(y, u)] : List (Str × Value)).reverse.lookup y = some u
      simp
  · obtain ⟨w', q⟩ := I.cell z c (cm e)
    exact ⟨w', cellK q⟩
  · show (σ ++ [some v]).length = (X.N ++ [y]).length
    rw [List.length_append, List.length_append, I.len]
    rfl
end SortL
namespace SortL
open PySem PySem.Spec PyProof.Rows PySem.W L2 LamX
variable {X : Cx} {σ : L2.St} {H : Hp} {s : Shared} {pins : List (Addr × Obj)}
theorem Room.in2 {k : Nat} {A : Around} (r : Room (k + 1) A) : Room k A.in1.in1 :=
  ⟨r.hd, by have := r.dp; show A.depth + 3 * k + 5 < _; omega, by have := r.un; show A.units + 1 + 1 + 16 * k + 200 < _; omega⟩
theorem cx_false {P : Program} {w : World} {outer : List Env} {H : Hp} {s : Shared} {e : Value} {s' : Shared} : L2.CX P w outer H s (fun _ _ _ => False) e s' → False := fun ⟨_, _, _, _, _, _, _, _, _, _, _, _, h⟩ => h
/-- the lambda is called on one thing -/
theorem lam_turn {k : Nat} {y : Str} {params : Arguments} {body : Expr} {scope : Scope} {pm ctv : Value} {A : Around} {f c' : Addr} {v : V} {u : Value} {tb : TE} {Q : VK} (I : Inv X pins σ H s) (L : LamS1 X.env.scope scope y) (hy : y ∉ X.N)
    (hf : s.heap.get? f = some (kla_obj "<lambda>" (X.env.qual ++ "<lambda>") params body scope (cloFrom X.env.cells scope.names []) pm c' ctv)) (hc : H c' = some (CodeO c' (X.env.qual ++ "<lambda>")))
    (hbind : bindArgs (kla_fn "<lambda>" (X.env.qual ++ "<lambda>") params body scope (cloFrom X.env.cells scope.names []) pm (.ref c') ctv) ⟨[u], []⟩ = pure [(y, u)]) (hA : A.frames = some X.stack) (hr : Room (k + 1) A)
    (hbody : Room k (A.deeper (lamEnv X scope s.heap.objs.size f c')) → PE (lamCx1 X y A X.stack s H (fun _ _ _ => False) scope f c') body tb) (rv : RelV v u) (ht : tb (σ ++ [some v]) H Q) :
    wpAny (model X.prog X.w) A (call (.ref f) [u]) (CE X.stack X.prog X.w H s Q) (fun _ _ => False) s := by
  obtain ⟨⟨oc, cs, t, hoc, hdc, hvc⟩, _, _⟩ := I.hok c' _ hc
  have rc : codeAny (model X.prog X.w) A (.call (.ref f) ⟨[u], []⟩) (CR (L2.CX X.prog X.w) X.stack X.prog X.w H s Q fun _ _ _ => False) s := by
    refine kla_callFunE hr.depth hf rfl L.co L.gen rfl ⟨c', oc, cs, t, rfl, hoc, hdc, hvc⟩ ?_
    rw [hbind]
    refine wpAny_pure (wpAny_newFunctionEnv (fun z hz => (L.own z hz).1) (fun z hz => ?_) (fun g hns hsb => ⟨I.nolimit.fresh _ hsb, ?_⟩) L.kind)
    · rw [List.mem_singleton] at hz
      rw [hz]
      exact L.loc
    · show codeAny _ _ (.expr body (lamEnv X scope s.heap.objs.size f c')) _ _
      have kp : ∀ b o, s.heap.get? b = some o → g.get? b = some o := fun b o e => hsb.extBut b o (Nat.ne_of_lt (Heap.lt_size e)) (Heap.get?_push_of_some _ e)
      have J := lam_in (tk := s.toks + ([(y, u)] : List (Str × Value)).length) (f := f) (c' := c') (E := fun _ _ _ => False) I L hy rv { I.env0 with frames := hA } hr.hd hns kp
      refine kla_codeExpr (wpAny_mono ((hbody (hr.deeper _)).run [] _ _ H Q J ht) (fun u' s' hq => ?_) fun e s' hq => hq)
      obtain ⟨w', H', J', rv', q⟩ := hq
      exact ⟨w', H', J'.os, J'.bare, J'.base, J'.hok, rv', q⟩
  refine wpAny_call (codeAny_mono rc fun r s' hq => ?_)
  cases r with
  | error e => exact cx_false hq
  | ok fl =>
    cases fl with
    | ret u' => exact hq
    | next => exact False.elim hq
    | brk => exact False.elim hq
    | cont => exact False.elim hq
/-- an object of ours that was not told of is told of from now on; another one has changed too -/
theorem adopt {t : Nat} {h' : Heap} {a kS : Addr} {o : HO} (I : Inv X pins σ H s) (fa : Fr1 X pins a) (fk : Fr1 X pins kS) (na : H a = none) (nk : H kS = none) (hka : kS ≠ a) (k : ∀ b ob, b ≠ a → b ≠ kS → s.heap.get? b = some ob → h'.get? b = some ob)
    (new : ObjOk X.prog X.w (upd H a o) h' a o) : Inv X pins σ (upd H a o) { s with heap := h', toks := t } := by
  have ne : ∀ {b u}, H b = some u → b ≠ a ∧ b ≠ kS := fun {b u} e => ⟨(fun z => by rw [z, na] at e; cases e), (fun z => by rw [z, nk] at e; cases e)⟩
  have up : ∀ {b u}, H b = some u → upd H a o b = some u := fun {b u} e => by rw [upd_ne (ne e).1]; exact e
  have out : ∀ {b}, b ∉ [a, kS] → b ≠ a ∧ b ≠ kS := fun {b} h => ⟨fun z => h (by simp [z]), fun z => h (by simp [z])⟩
  refine I.step (ch := [a, kS]) (g' := s.gens) (d' := s.drawn) (fun b hb => ?_) (fun b ob _ _ hc e _ => k b ob (out hc).1 (out hc).2 e) (fun b ob _ _ hc e _ => ⟨ob.slots, k b ob (out hc).1 (out hc).2 e⟩)
    (fun b ob hc _ n => by rw [upd_ne (out hc).1]; exact n) (fun b ob hc e => ⟨ob, k b ob (out hc).1 (out hc).2 e⟩) (fun _ _ e => up e) (fun _ _ _ e => up e) (fun b ps e => ⟨#[], by rw [up e]; simp⟩) (fun m hm => ?_) (fun b u e => ?_) I.bare
  · rcases List.mem_cons.mp hb with rfl | hb
    · exact ⟨.inr fa.new, fa.loc, fa.cel, fa.pin⟩
    · rw [List.mem_singleton] at hb
      subst hb
      exact ⟨.inr fk.new, fk.loc, fk.cel, fk.pin⟩
  · obtain ⟨ob, es, ep, hob, r⟩ := hm
    exact ⟨ob, es, ep, k _ ob (fun z => fa.loc z.symm) (fun z => fk.loc z.symm) hob, r⟩
  · by_cases hb : b = a
    · subst hb
      rw [upd_same] at e
      cases e
      exact new
    · rw [upd_ne hb] at e
      refine (I.hok b u e).stay (fun c w hc q => ?_) (fun _ q => up q) fun _ _ q => up q
      rcases hc with z | z
      · subst z
        exact k _ _ (ne e).1 (ne e).2 q
      · exact k _ _ (ne z).1 (ne z).2 q
end SortL
namespace Snd
open PySem PySem.Spec PyProof.Rows L2 Dt
open SortL (Fr1 fr1_of turned2 lacking adopt)
variable [PrW]
variable {X : Cx} {σ : L2.St} {H : Hp} {s : Shared} {pins : List (Addr × Obj)}
/-- the keys so far -/
def KI (X : Cx) (pins : List (Addr × Obj)) (σ : L2.St) (B : List Addr) (H0 : Hp) (f : Addr) (fo : Obj) (a kS : Addr) (e1 : Nat) (ks : List D) (i : Nat) (s : Shared) : Prop :=
  ∃ (H1 : Hp) (kA : Array Value) (e : Nat) (kvs : List V), Inv X pins σ H1 s ∧ Same H0 H1 ∧ (s.heap.get? f = some fo ∧ H1 f = none) ∧ (s.heap.get? kS = some (seqObj "list" kA e) ∧ H1 kS = none) ∧ (s.heap.get? a = some (seqObj "list" #[] e1) ∧ H1 a = none) ∧
    Vals kvs kA.toList ∧ Reps X.K (hid B H1) kvs (ks.take i)
def KTurn (X : Cx) (pins : List (Addr × Obj)) (σ : L2.St) (A : Around) (B : List Addr) (H0 : Hp) (f : Addr) (fo : Obj) (us : List Value) (ks : List D) : Prop :=
  ∀ (j : Nat) (u : Value), us[j]? = some u → ∀ (H1 : Hp) (s1 : Shared), Inv X pins σ H1 s1 → Same H0 H1 → s1.heap.get? f = some fo → H1 f = none →
    wpAny (model X.prog X.w) A (call (.ref f) [u]) (CE X.stack X.prog X.w H1 s1 fun v H2 => Same H1 H2 ∧ ∃ d, ks[j]? = some d ∧ Rep X.K (hid B H2) v d) (fun _ _ => False) s1
theorem each_zip {kus : List Value} {us : List Value} {xs : List V} {ks : List D} {R : Value → V × D → Prop} : True := trivial
theorem keys_rest {A : Around} {B : List Addr} {H0 : Hp} {f a kS : Addr} {fo : Obj} {e1 : Nat} {us : List Value} {ks : List D} {P : PySem.Fin → Shared → Prop} {E : Value → Shared → Prop} (fa : Fr1 X pins a) (fk : Fr1 X pins kS) (hka : kS ≠ a) (hff : f ∉ L2.frs X.stack) (hfk : f ≠ kS)
    (st : KI X pins σ B H0 f fo a kS e1 ks 0 s) (hlen : ks.length = us.length) (hZ : us.length ≤ sizeLine) (ok : sortOk ks = true) (hu : A.units + 120 < cLine) (turn : KTurn X pins σ A B H0 f fo us ks)
    (h : ∀ (H1 : Hp) (s1 : Shared) (h' : Heap) (tk c : Nat) (kus : List Value), Inv X pins σ H1 s1 → Same H0 H1 → H1 kS = none → H1 a = none → PySem.W.EachIs (fun v d => ∃ as, Reads s1.heap v d as) kus (ks.map py) → (∀ d ∈ ks.map py, d.canLay0 = true) →
      (∀ b ob, b ≠ a → b ≠ kS → s1.heap.get? b = some ob → h'.get? b = some ob) → h'.get? a = some (seqObj "list" (PySem.W.sortVals (PySem.W.dataKind s1.heap (ks.map py)) false kus us).toArray c) → P (.done (.ret .none)) { s1 with heap := h', toks := tk }) :
    wpAny (model X.prog X.w) A (PyProof.Rows.ksk_rest a (.ref f) false us.toArray e1 (.ref kS)) P E s := by
  unfold PyProof.Rows.ksk_rest
  refine wpAny_bind (wpAny_rule ?_)
  rw [← Array.forIn_toList]
  refine wpAny_bind (PyProof.Rows.ksk_fold (fun i s' => KI X pins σ B H0 f fo a kS e1 ks i s') us 0 s st (fun j x s' hx hI => ?_) fun s' hI => ?_)
  · obtain ⟨H1, kA, e, kvs, I1, sm, ⟨f1, f2⟩, ⟨k1, k2⟩, ⟨a1, a2⟩, rv, rp⟩ := hI
    simp only [Nat.zero_add] at rp ⊢
    have hj : j < us.length := (List.getElem?_eq_some_iff.mp hx).1
    have hkl : kA.size ≤ us.length := by
      have l1 := rv.length
      have l2 := rp.length
      have l3 : kA.toList.length = kA.size := by simp
      rw [List.length_take] at l2
      omega
    refine wpAny_bind (wpAny_attempt (wpAny_mono (turn j x hx H1 s' I1 sm f1 f2) (fun v s2 hc => ?_) fun _ _ z => z.elim))
    obtain ⟨kv, H2, hos, hbr, un, hok, rv2, sm2, d, hd, rd⟩ := hc
    have I2 : Inv X pins σ H2 s2 := I1.call' (ch := []) hos un hok hbr fun _ z => nomatch z
    have nx : ∀ b : Addr, b ∉ ([] : List Addr) := fun _ z => nomatch z
    have g1 := un.keep kS _ k1 k2 fk.frs (nx _)
    have g2 := un.free kS _ k1 k2 (nx _)
    have g3 := un.keep a _ a1 a2 fa.frs (nx _)
    have g4 := un.free a _ a1 a2 (nx _)
    have g5 := un.keep f _ f1 f2 hff (nx _)
    have g6 := un.free f _ f1 f2 (nx _)
    have sb := Heap.SameBut.update s2.heap kS (Obj.mapSeq (·.push v))
    obtain ⟨e2, he2⟩ : ∃ e2, (s2.heap.update kS (Obj.mapSeq (·.push v))).get? kS = some (seqObj "list" (kA.push v) e2) := ⟨_, PyProof.Rows.get?_update_seq g1 (·.push v)⟩
    refine wpAny_bind (listUpdate_at g1 rfl ?_ (Nat.le_trans hkl hZ) (Nat.le_trans (Nat.le_of_eq (Array.size_push ..)) (Nat.succ_le_succ (Nat.le_trans hkl hZ))))
    refine wpAny_pure ⟨rfl, H2, kA.push v, e2, kvs ++ [kv], ?_, sm.trans sm2, ⟨(sb.2 f hfk).trans g5, g6⟩, ⟨he2, g2⟩, ⟨(sb.2 a hka.symm).trans g3, g4⟩, ?_, ?_⟩
    · exact turned2 (t := s2.toks) [kS] I2 (fun b hb => by rw [List.mem_singleton] at hb; subst hb; exact ⟨fk, g2⟩) fun b ob hb q => (sb.2 b fun z => hb (by simp [z])).trans q
    · rw [Array.toList_push]
      exact rv.append (.cons rv2 .nil)
    · rw [List.take_add_one, hd]
      exact (Reps.up (hid_up sm2) _ _ rp).app (.cons rd .nil)
  · obtain ⟨H1, kA, e, kvs, I1, sm, ⟨f1, f2⟩, ⟨k1, k2⟩, ⟨a1, a2⟩, rv, rp⟩ := hI
    rw [List.take_of_length_le (by omega)] at rp
    have rp : Reps X.K H1 kvs ks := Reps.up (hid_sm _ _) _ _ rp
    have hsz : kA.size = us.length := by
      have l1 := rv.length
      have l2 := rp.length
      have l3 : kA.toList.length = kA.size := by simp
      omega
    obtain ⟨p1, p2, p3, p4⟩ := sortOk_of ok
    have hcl : ∀ d ∈ ks.map py, d.canLay0 = true := fun d hd => by
      obtain ⟨b, hb, rfl⟩ := List.mem_map.mp hd
      exact lay_of rp p1 _ hb
    have er : PySem.W.EachIs (fun v d => ∃ as, Reads s'.heap v d as) kA.toList (ks.map py) := by
      have := PySem.W.each_map (R := fun v d => ∃ as, Reads s'.heap v d as) (fun b : V × D => py b.2) (each_reads I1 rv rp p1)
      have e3 : (kvs.zip ks).map (fun b : V × D => py b.2) = ks.map py := by
        have : (kvs.zip ks).map (fun b : V × D => py b.2) = ((kvs.zip ks).map Prod.snd).map py := by simp
        rw [this, List.map_snd_zip (by have := rp.length; omega)]
      rwa [e3] at this
    have hal : SortW.AllW (ks.map py) := fun d hd d' hd' => by
      obtain ⟨b, hb, rfl⟩ := List.mem_map.mp hd
      obtain ⟨c, hc, rfl⟩ := List.mem_map.mp hd'
      exact (wlike_py (p3 _ hb _ hc) (plains_in p1 _ hb) (plains_in p1 _ hc)).1
    have hsk : PySem.W.Sortable (ks.map py) := by
      have := sortable_py p4 (l := kvs.zip ks) fun b hb => zip_snd_mem hb
      have e3 : (kvs.zip ks).map (fun b : V × D => py b.2) = ks.map py := by
        have : (kvs.zip ks).map (fun b : V × D => py b.2) = ((kvs.zip ks).map Prod.snd).map py := by simp
        rw [this, List.map_snd_zip (by have := rp.length; omega)]
      rwa [e3] at this
    refine wpAny_bind (listItems_at k1 rfl ?_)
    obtain ⟨g, n1, n2⟩ := lacking s'.heap kS
    have hne : ∀ {b : Addr} {ob : Obj}, g.get? b = some ob → b ≠ kS := fun q z => by rw [z, n1] at q; cases q
    refine PySem.W.keyH_end (κ := PySem.W.dataKind s'.heap (ks.map py)) (h₁ := g) (fun b ob hb q => (n2 b (hne q)).symm.trans q) n1 k1 a1 hka (SortW.sortsAt er hcl hal hsk fun d hd => ?_) hsz hZ fun h' tk c kp na => h H1 s' h' tk c kA.toList I1 sm k2 a2 er hcl (fun b ob hb hb2 q => kp b ob hb ((n2 b hb2).trans q)) na
    obtain ⟨b, hb, rfl⟩ := List.mem_map.mp hd
    rw [py_dep _ (plains_in p1 _ hb)]
    have := deps_mem p2 _ hb
    omega
end Snd
namespace Snd
open PySem PySem.Spec PyProof.Rows L2 Dt
open SortL (Fr1 fr1_of turned2 lacking adopt)
section
variable {prog : Program} {w : World} {A : Around} {E : Value → Shared → Prop} {s : Shared}
/-- what a list or a tuple holds, gathered -/
theorem collect_lt {T : String} (hT : T = "list" ∨ T = "tuple") {l : Addr} {us : List Value} {ol : Obj} {nl : Nat} {Q : List Value → Shared → Prop} (hol : s.heap.get? l = some ol) (hcl : ol.cls = .type T) (hdl : ol.data = .seq us.toArray nl) (hz : us.length ≤ sizeLine)
    (h : Q us { s with heap := (s.heap.push (seqObj "list" #[] 0)).update s.heap.objs.size (Obj.mapSeq (· ++ us.toArray)) }) : wpAny (model prog w) A (collect (.ref l)) Q E s := by
  unfold collect
  refine wpAny_bind (wpAny_runValue (codeAny_builtin entry_proto_collect' ?_))
  show wpAny _ _ (do again (.builtin "list.__iadd__" ⟨[← newList [], .ref l], []⟩)) _ _ s
  refine wpAny_bind (wpAny_newList (wpAny_pure ⟨Code.quiet_builtin _ (by decide +kernel), codeAny_builtin entry_list_iadd' (?_ : wpAny _ _ (Builtin.List.listExtendWith (.ref s.heap.objs.size) (.ref l) (.ref s.heap.objs.size)) _ _ { s with heap := s.heap.push (seqObj "list" #[] 0) })⟩))
  unfold Builtin.List.listExtendWith
  have hol2 : (s.heap.push (seqObj "list" #[] 0)).get? l = some ol := Heap.get?_push_of_some _ hol
  have hnew : (s.heap.push (seqObj "list" #[] 0)).get? s.heap.objs.size = some (seqObj "list" #[] 0) := Heap.get?_push_size _ rfl
  refine wpAny_bind (wpAny_typeOf (T := T) ⟨ol, hol2, hcl⟩ ?_)
  have tl : (Value.type "list" == Value.type "list") = true := by rfl
  have tt : (Value.type "tuple" == Value.type "tuple") = true := by rfl
  rw [if_pos (by rcases hT with rfl | rfl <;> simp [tl, tt])]
  refine wpAny_bind (listItems_at hol2 hdl (wpAny_bind (listItems_at (xs := #[]) (n := 0) hnew rfl ?_)))
  rw [if_neg (by simp)]
  have hz2 : (#[] ++ us.toArray).size ≤ sizeLine + 1 := by
    simp only [Array.size_append, List.size_toArray, List.length_nil]
    omega
  refine wpAny_bind (listUpdate_at (xs := #[]) (n := 0) hnew rfl (wpAny_pure ?_) (Nat.zero_le _) hz2)
  show wpAny (model prog w) A (do
      let o ← load s.heap.objs.size
      match o.data with
      | .seq xs _ => pure xs.toList
      | _ => unsupported "internal:collect") Q E { s with heap := (s.heap.push (seqObj "list" #[] 0)).update s.heap.objs.size (Obj.mapSeq (· ++ us.toArray)) }
  refine wpAny_bind (wpAny_load (get?_update_seq hnew _) ?_)
  have e : ((#[] : Array Value) ++ us.toArray).toList = us := by simp
  show wpAny _ _ (pure ((#[] : Array Value) ++ us.toArray).toList) Q E _
  rw [e]
  exact wpAny_pure h
end
end Snd
namespace Snd
open PySem PySem.Spec PyProof.Rows L2 Dt
open SortL (Fr1 fr1_of turned2 lacking adopt)
variable [PrW]
variable {X : Cx} {σ : L2.St} {H : Hp} {s : Shared} {pins : List (Addr × Obj)}
theorem zip_py {xs : List V} {ks : List D} (h : ks.length = xs.length) : (xs.zip ks).map (fun b : V × D => py b.2) = ks.map py := by
  have : (xs.zip ks).map (fun b : V × D => py b.2) = ((xs.zip ks).map Prod.snd).map py := by simp
  rw [this, List.map_snd_zip (by omega)]
/-- a list sorted by keys -/
abbrev byKey (xs : List V) (ks : List D) : List V := byKeyL xs ks
theorem call_sortL {T : String} (hT : T = "list" ∨ T = "tuple") {l f : Addr} {ol fo : Obj} {nl : Nat} {us : List Value} {xs : List V} {ks : List D} {B : List Addr} {Q : Value → Shared → Prop} {E : Value → Shared → Prop} (I : Inv X pins σ H s) (hol : s.heap.get? l = some ol) (hcl : ol.cls = .type T)
    (hdl : ol.data = .seq us.toArray nl) (rvs : Vals xs us) (hff : f ∉ L2.frs X.stack) (hf : s.heap.get? f = some fo) (hfn : H f = none) (hlen : ks.length = us.length) (hz : us.length ≤ sizeLine) (ok : sortOk ks = true) (hu : X.A.units + 122 < cLine)
    (turn : KTurn X pins σ X.A.in1.in1 B H f fo us ks) (h : ∀ (D : Addr) (H1 : Hp) (s' : Shared), Inv X pins σ (upd H1 D (.lst (byKey xs ks))) s' → Same H H1 → H1 D = none → Q (.ref D) s') :
    wpAny (model X.prog X.w) X.A (call (.builtin "sorted") [.ref l] [(Str.ofString "key", .ref f)]) Q E s := by
  refine call_function_entry_kw kind_sorted plain_sorted entry_sorted (ksk_s1 _ _) ?_
  unfold Builtin.«sorted»
  refine wpAny_bind (m := checkCount "sorted" 1 1 _) (wpAny_pure (wpAny_bind (collect_lt hT hol hcl hdl hz (wpAny_bind (wpAny_newList ?_ hz)))))
  have hsz : ((s.heap.push (seqObj "list" #[] 0)).update s.heap.objs.size (Obj.mapSeq (· ++ us.toArray))).objs.size = s.heap.objs.size + 1 := by
    rw [Heap.size_update, size_push']
  show wpAny _ _ _ _ _ { s with heap := PySem.W.copyHeap s.heap us }
  rw [hsz]
  refine wpAny_bind (wpAny_holding (wpAny_call_entry_kw slot_list_sort ⟨_, PySem.W.copyHeap_at s.heap us, rfl⟩ entry_list_sort ?_ (ksk_l1 _ _)))
  rw [ksk_t1]
  show wpAny (model X.prog X.w) X.A.in1.in1 _ _ _ _
  have ho : (PySem.W.copyHeap s.heap us).get? (s.heap.objs.size + 1) = some (seqObj "list" us.toArray 0) := PySem.W.copyHeap_at s.heap us
  have hnew : (s.heap.objs.size + 1 : Nat) < (PySem.W.copyHeap s.heap us).objs.size := Heap.lt_size ho
  obtain ⟨e1, ho1⟩ : ∃ e1, ((PySem.W.copyHeap s.heap us).update (s.heap.objs.size + 1) (Obj.mapSeq fun _ => (#[] : Array Value))).get? (s.heap.objs.size + 1) = some (seqObj "list" #[] e1) := ⟨_, get?_update_seq ho fun _ => #[]⟩
  have hkS : (((PySem.W.copyHeap s.heap us).update (s.heap.objs.size + 1) (Obj.mapSeq fun _ => (#[] : Array Value))).push (seqObj "tuple" us.toArray 0)).objs.size = (PySem.W.copyHeap s.heap us).objs.size + 1 := by
    rw [size_push', Heap.size_update]
  have fa : Fr1 X pins (s.heap.objs.size + 1) := fr1_of I (Nat.le_succ _)
  have fk : Fr1 X pins ((PySem.W.copyHeap s.heap us).objs.size + 1) := fr1_of I (Nat.le_trans (Nat.le_of_lt (Nat.lt_of_succ_lt hnew)) (Nat.le_succ _))
  have old : ∀ b ob, s.heap.get? b = some ob → (PySem.W.sortingHeap (PySem.W.copyHeap s.heap us) (s.heap.objs.size + 1) us).get? b = some ob := fun b ob q =>
    PySem.W.sortingHeap_old (Nat.ne_of_lt (Nat.lt_succ_of_lt (Heap.lt_size q))) (PySem.W.copyHeap_old q)
  unfold ksk_tree
  refine wpAny_bind (listItems_at ho rfl (wpAny_bind (listUpdate_at ho rfl (wpAny_bind (seqEpoch_at ho1 rfl (wpAny_bind (wpAny_newTuple (wpAny_bind (wpAny_newList (wpAny_holding ?_) (Nat.zero_le _))) (by show us.length ≤ _; exact hz))))) (by rw [List.size_toArray]; exact hz) (Nat.zero_le _))))
  have I0 : Inv X pins σ H { s with heap := PySem.W.sortingHeap (PySem.W.copyHeap s.heap us) (s.heap.objs.size + 1) us } := I.kept (t' := s.toks) old
  rw [hkS]
  refine keys_rest (s := { s with heap := PySem.W.sortingHeap (PySem.W.copyHeap s.heap us) (s.heap.objs.size + 1) us }) (B := B) (H0 := H) (fo := fo) (ks := ks) fa fk (Nat.ne_of_gt (Nat.lt_succ_of_lt hnew)) hff (fun z => ?_) ⟨H, #[], 0, [], I0, Same.refl H, ⟨old f fo hf, hfn⟩, ⟨?_, I.hok.fresh (Nat.le_trans (Nat.le_of_lt (Nat.lt_of_succ_lt hnew)) (Nat.le_succ _))⟩, ⟨?_, I.hok.fresh (Nat.le_succ _)⟩, .nil, ?_⟩ hlen hz ok ?_ turn ?_
  · have lt := Heap.lt_size hf
    rw [z] at lt
    exact Nat.lt_irrefl _ (Nat.lt_trans lt (Nat.lt_trans (Nat.lt_succ_self _) (Nat.lt_succ_of_lt hnew)))
  · rw [← hkS]
    exact Heap.get?_push_size _ rfl
  · exact Heap.get?_push_of_some _ (Heap.get?_push_of_some _ ho1)
  · rw [List.take_zero]
    exact .nil
  · show X.A.units + 1 + 1 + 120 < cLine
    omega
  · intro H1 s1 h' tk c kus I1 sm nk na er hcl' kp hD
    refine ⟨_, rfl, wpAny_pure ⟨_, rfl, ?_⟩⟩
    obtain ⟨p1, p2, p3, p4⟩ := sortOk_of ok
    have hxl : xs.length = us.length := rvs.length
    have hm : ∀ b ∈ xs.zip ks, b.2 ∈ ks := fun b hb => zip_snd_mem hb
    have ez := zip_py (xs := xs) (ks := ks) (by omega)
    have ek := SortW.each_keysW hcl' er
    rw [← ez] at ek
    have ev : PySem.W.EachIs (fun u (b : V × D) => RelV b.1 u) us (xs.zip ks) := vals_zip rvs (by omega)
    have ek2 := PySem.W.each_of_map (fun b : V × D => py b.2) ek
    rw [ez] at ek2
    have eo := PySem.W.sortVals_each (κ := PySem.W.dataKind s1.heap (ks.map py)) (R := fun u (b : V × D) => RelV b.1 u) (rev := false) (fun b => PySem.W.keyToks (py b.2)) ev ek2
    have em : (xs.zip ks).mergeSort (PySem.W.dataLe false fun b => py b.2) = (xs.zip ks).mergeSort fun a b => leD a.2 b.2 := by
      have := List.map_mergeSort (r := PySem.W.dataLe false fun (b : V × D) => py b.2) (s := fun (a b : V × D) => leD a.2 b.2) (f := id) (l := xs.zip ks) fun a ha b hb => by
        show (!PySem.W.dataLt (py b.2) (py a.2)) = !ltD b.2 a.2
        rw [(wlike_py (p3 _ (hm b hb) _ (hm a ha)) (plains_in p1 _ (hm b hb)) (plains_in p1 _ (hm a ha))).2]
      simpa using this
    have eo2 : PySem.W.EachIs (fun u (b : V × D) => RelV b.1 u) (PySem.W.sortVals (PySem.W.dataKind s1.heap (ks.map py)) false kus us) ((xs.zip ks).mergeSort (PySem.W.dataLe false fun b => py b.2)) := eo
    rw [em] at eo2
    have hv := vals_of_each eo2
    have hl2 : (byKey xs ks).length ≤ sizeLine := by
      unfold byKey byKeyL
      rw [List.length_map, List.length_mergeSort, List.length_zip]
      omega
    exact h (s.heap.objs.size + 1) H1 { s1 with heap := h', toks := tk } (adopt (t := tk) I1 fa fk na nk (Nat.ne_of_gt (Nat.lt_succ_of_lt hnew)) (fun b ob hb hb2 q => kp b ob hb hb2 q) ⟨hl2, _, c, hv, hD⟩) sm na
end Snd
namespace Snd
open PySem PySem.Spec PyProof.Rows L2 Dt
variable [PrW]
/-- what stands in a list or tuple -/
theorem seq_obj {X : Cx} {σ : L2.St} {H : Hp} {s : Shared} {pins : List (Addr × Obj)} {A : List Addr} {v : V} {u : Value} {d : D} {ds : List D} (I : Inv X pins σ H s) (rv : RelV v u) (hr : Rep X.K (hid A H) v d) (hd : seqD d = .ok ds) :
    ∃ (T : String) (l : Addr) (ol : Obj) (nl : Nat) (us : List Value) (vs : List V), (T = "list" ∨ T = "tuple") ∧ u = .ref l ∧ s.heap.get? l = some ol ∧ ol.cls = .type T ∧ ol.data = .seq us.toArray nl ∧ Vals vs us ∧ vs.length ≤ SZ ∧ Reps X.K (hid A H) vs ds := by
  cases hr with
  | @tup a vs ds' hs hz hr =>
    cases hd
    cases rv
    obtain ⟨its, r, ⟨o, ho, hc, n, hdd⟩, _⟩ := I.tuple (SqT.up (hid_sm A H) hs)
    exact ⟨"tuple", a, o, n, its, vs, .inr rfl, rfl, ho, hc, hdd, r, hz, hr⟩
  | @lst a vs ds' hs hz hr =>
    cases hd
    cases rv
    obtain ⟨its, r, ⟨o, n, ho, hc, _, hdd⟩, _⟩ := I.list (SqL.of (hid_same A H _ _ hs))
    exact ⟨"list", a, o, n, its, vs, .inl rfl, rfl, ho, hc, hdd, r, hz, hr⟩
  | _ => cases hd
theorem mapR_all {f : D → Res D} : ∀ {xs ks : List D}, mapR f xs = .ok ks → ks.length = xs.length ∧ ∀ (j : Nat) d, xs[j]? = some d → ∃ k, ks[j]? = some k ∧ f d = .ok k := by
  intro xs
  induction xs with
  | nil =>
    intro ks h
    cases h
    exact ⟨rfl, fun j d q => nomatch q⟩
  | cons x xs ih =>
    intro ks h
    unfold mapR at h
    cases hx : f x with
    | ok y =>
      rw [hx] at h
      cases hxs : mapR f xs with
      | ok ys =>
        rw [hxs] at h
        cases h
        obtain ⟨l, k⟩ := ih hxs
        refine ⟨by simp [l], fun j d q => ?_⟩
        cases j with
        | zero => cases q; exact ⟨y, rfl, hx⟩
        | succ j => exact k j d q
      | exc e => rw [hxs] at h; cases h
      | stuck => rw [hxs] at h; cases h
    | exc e => rw [hx] at h; cases h
    | stuck => rw [hx] at h; cases h
theorem reps_at {K : PySem.W.Frag} {H : Hp} {vs : List V} : ∀ {ds : List D} {j : Nat} {v : V}, Reps K H vs ds → vs[j]? = some v → ∃ d, ds[j]? = some d ∧ Rep K H v d := by
  induction vs with
  | nil => intro ds j v _ h; exact nomatch h
  | cons w vs ih =>
    intro ds j v r h
    cases r with
    | cons a t =>
      cases j with
      | zero => cases h; exact ⟨_, rfl, a⟩
      | succ j =>
        have q := ih (j := j) t h
        exact q
theorem vals_at {vs : List V} : ∀ {us : List Value} {j : Nat} {u : Value}, Vals vs us → us[j]? = some u → ∃ v, vs[j]? = some v ∧ RelV v u := by
  induction vs with
  | nil => intro us j u r h; cases r; exact nomatch h
  | cons w vs ih =>
    intro us j u r h
    cases r with
    | cons a t =>
      cases j with
      | zero => cases h; exact ⟨_, rfl, a⟩
      | succ j =>
        have q := ih (j := j) t h
        exact q
theorem byKey_reps {K : PySem.W.Frag} {H : Hp} {vs : List V} {ds ks : List D} (h : Reps K H vs ds) (hk : ks.length = ds.length) : Reps K H (byKey vs ks) (byKeyL ds ks) := by
  have e1 : byKey vs ks = ((((vs.zip ds).zip ks).mergeSort fun a b => leD a.2 b.2).map Prod.fst).map Prod.fst := by
    unfold byKey byKeyL
    rw [List.map_map]
    have := List.map_mergeSort (r := fun (a b : (V × D) × D) => leD a.2 b.2) (s := fun (a b : V × D) => leD a.2 b.2) (f := fun p : (V × D) × D => (p.1.1, p.2)) (l := (vs.zip ds).zip ks) fun _ _ _ _ => rfl
    have e : ((vs.zip ds).zip ks).map (fun p : (V × D) × D => (p.1.1, p.2)) = vs.zip ks := by
      have hl := h.length
      refine List.ext_getElem (by simp; omega) fun i h1 h2 => by simp
    rw [← e, ← this, List.map_map]
    rfl
  have e2 : byKeyL ds ks = ((((vs.zip ds).zip ks).mergeSort fun a b => leD a.2 b.2).map Prod.fst).map Prod.snd := by
    unfold byKeyL
    rw [List.map_map]
    have := List.map_mergeSort (r := fun (a b : (V × D) × D) => leD a.2 b.2) (s := fun (a b : D × D) => leD a.2 b.2) (f := fun p : (V × D) × D => (p.1.2, p.2)) (l := (vs.zip ds).zip ks) fun _ _ _ _ => rfl
    have e : ((vs.zip ds).zip ks).map (fun p : (V × D) × D => (p.1.2, p.2)) = ds.zip ks := by
      have hl := h.length
      refine List.ext_getElem (by simp; omega) fun i h1 h2 => by simp
    rw [← e, ← this, List.map_map]
    rfl
  rw [e1, e2]
  refine reps_pairs fun b hb => ?_
  obtain ⟨p, hp, rfl⟩ := List.mem_map.mp hb
  have hp : p ∈ (vs.zip ds).zip ks := (List.mergeSort_perm _ _).mem_iff.mp hp
  exact zip_rep h _ (List.of_mem_zip hp).1
/-- sorted(x, key=lambda y: body) -/
theorem pe_skey {X : Cx} {RX : RXT} {W W1 : WX} {c P : Addr} {k : Nat} {y : Str} {params : Arguments} {x body : Expr} {scope : Scope} {ga ge : EnvD → Res D} {p lp kp pos : Pos} (hg : Gl X "sorted") (hm : X.mg "sorted" = none) (TB : LamX.TabB X.base X.mg c P) (hcode : X.env.code = .ref c)
    (hmT : (P, X.env.qual ++ "<lambda>") ∈ PrW.T) (hu : ∀ p ∈ PrW.T, p.1 = P → p.2 = X.env.qual ++ "<lambda>") (hr : Room (k + 2) X.A) (L : SortL.LamS1 X.env.scope scope y) (hy : y ∉ X.N) (hdef : defaultsOf params X.env = ([], []))
    (hbind : ∀ (q : Str) (cl : List (Str × Addr)) (pm cv ctv u : Value), bindArgs (PySem.W.kla_fn "<lambda>" q params body scope cl pm cv ctv) ⟨[u], []⟩ = pure [(y, u)]) (ha : PE X x (tE X.K RX W ga))
    (hbody : ∀ (A : Around) (s : Shared) (H : Hp) (f c' : Addr), Room k (A.deeper (LamX.lamEnv X scope s.heap.objs.size f c')) → PE (SortL.lamCx1 X y A X.stack s H (fun _ _ _ => False) scope f c') body (tE X.K RX W1 ge))
    (he : backTo pos (starEach [x] X.env) = (false, eval x X.env) :: backTo pos (starEach [] X.env)) :
    PE X (.Call (.Name "sorted" p) [x] [⟨some "key", .Lambda params body scope lp, kp⟩] pos) (tE X.K RX W fun ρ => do
      let d ← ga ρ
      let ds ← seqD d
      keyedD ds (mapR (fun d => ge (ρ ++ [some d])) ds)) := by
  refine ⟨fun pins s σ H Q I h => ?_⟩
  obtain ⟨A, ρ, r, h⟩ := h
  have h : Out RX W (relE X.K A) (ga ρ >>= fun d => seqD d >>= fun ds => keyedD ds (mapR (fun d => ge (ρ ++ [some d])) ds)) σ H Q := h
  refine wpAny_Call_Name_kw (ld_blt I hg hm rfl ?_)
  refine PyProof.Rows.callWith_kw ?_ he (by rw [he]; rfl)
  rw [he]
  refine Calls.spliced_cons (thn (ha.run pins s σ H (fun v H1 => Same H H1 ∧ ∃ d, ga ρ = .ok d ∧ Rep X.K (hid A H1) v d) I ⟨A, ρ, r, ?_⟩) fun u s1 ⟨v, H1, I1, rv, e1, d, hd, rd⟩ => Calls.spliced_nil ?_)
  · cases hq : ga ρ with
    | ok d => exact fun v H' e rv => ⟨e, d, rfl, rv⟩
    | exc e =>
      rw [hq] at h
      exact h
    | stuck =>
      rw [hq] at h
      exact h
  rw [hd] at h
  have h : Out RX W (relE X.K A) (seqD d >>= fun ds => keyedD ds (mapR (fun d => ge (ρ ++ [some d])) ds)) σ H Q := h
  cases hds : seqD d with
  | exc e => cases d <;> cases hds
  | stuck => rw [hds] at h; exact h.elim
  | ok ds =>
  rw [hds] at h
  cases hks : mapR (fun d => ge (ρ ++ [some d])) ds with
  | exc e =>
    have h : Out RX W (relE X.K A) (keyedD ds (mapR (fun d => ge (ρ ++ [some d])) ds)) σ H Q := h
    rw [hks] at h
    exact h.elim
  | stuck =>
    have h : Out RX W (relE X.K A) (keyedD ds (mapR (fun d => ge (ρ ++ [some d])) ds)) σ H Q := h
    rw [hks] at h
    exact h.elim
  | ok ks =>
  have h : Out RX W (relE X.K A) (keyedD ds (mapR (fun d => ge (ρ ++ [some d])) ds)) σ H Q := h
  rw [hks] at h
  obtain ⟨hok, h⟩ := Out.must h
  rw [Bool.and_eq_true, decide_eq_true_eq] at hok
  obtain ⟨ok, hz⟩ := hok
  obtain ⟨kl, kk⟩ := mapR_all hks
  show wpAny _ _ (evalAll [(do let v ← eval (.Lambda params body scope lp) X.env; standAt pos; pure v)]) _ _ s1
  have r1 : RE X.K A H1 σ ρ := r.up e1
  refine wpAny_evalAll_cons (wpAny_bind (LamX.lam_make2 (T := PrW.T) I1 TB hcode hmT hu r1.tabs hdef (L.has I1.ok) fun f c' pm ctv H2 s2 I2 eN T2 hf hfn hff hc' => wpAny_bind (wpAny_standAt (wpAny_pure (wpAny_evalAll_nil ?_)))))
  have e2 : Same H1 H2 := ⟨eN, fun _ => T2⟩
  have I2' : Inv X pins σ H2 { s2 with toks := s2.toks } := I2
  obtain ⟨T, l, ol, nl, us, vs, hT, rfl, hol, hcl, hdl, rvs, hlen, rvd⟩ := seq_obj I2 rv (Rep.up (hid_upS e2.sm) _ _ rd) hds
  have hvl := rvd.length
  have hul := rvs.length
  have hszl : us.length ≤ sizeLine := by
    rw [← SZ_eq]
    omega
  have r2 : RE X.K A H2 σ ρ := r1.up e2
  have hroom : Room (k + 1) X.A.in1.in1 := SortL.Room.in2 hr
  refine call_sortL (ks := ks) (B := A) hT I2 hol hcl hdl rvs hff hf hfn (by omega) hszl ok (by have := hr.un; omega) (fun j u hj H3 s3 I3 e3 hf3 hn3 => ?_) fun D H3 s3 I3 e3 n3 => ?_
  · obtain ⟨v, hv, rv⟩ := vals_at rvs hj
    obtain ⟨d, hdj, rdj⟩ := reps_at rvd hv
    obtain ⟨kd, hkj, hge⟩ := kk j d hdj
    have hc3 : H3 c' = some (LamX.CodeO c' (X.env.qual ++ "<lambda>")) := e3.sm _ _ hc' fun ps => LamX.codeO_ne ps
    refine SortL.lam_turn (v := v) I3 L hy hf3 hc3 (hbind _ _ _ _ _ _) I3.env0.frames hroom (fun hr' => hbody X.A.in1.in1 s3 H3 f c' hr') rv ⟨A, ρ ++ [some d], ⟨(r2.up e3).live, (r2.up e3).tabs, ?_, fun i z hi => ?_⟩, ?_⟩
    · rw [List.length_append, List.length_append, r2.len]
      rfl
    · by_cases hlt : i < ρ.length
      · rw [List.getElem?_append_left hlt] at hi
        obtain ⟨w, w1, w2⟩ := (r2.up e3).vals i z hi
        exact ⟨w, by rw [List.getElem?_append_left (by rw [← r2.len]; exact hlt)]; exact w1, w2⟩
      · rw [List.getElem?_append_right (by omega)] at hi
        have h0 : i - ρ.length = 0 := by
          cases hq : i - ρ.length with
          | zero => rfl
          | succ m => rw [hq] at hi; cases hi
        rw [h0] at hi
        cases hi
        refine ⟨v, ?_, Rep.up (hid_up e3) _ _ rdj⟩
        rw [List.getElem?_append_right (by rw [← r2.len]; omega), ← r2.len, h0]
        rfl
    · rw [hge]
      exact fun w H' e rw' => ⟨e, kd, hkj, rw'⟩
  · have e4 : Same H3 (upd H3 D (.lst (byKey vs ks))) := same_upd n3
    have e5 : Same H (upd H3 D (.lst (byKey vs ks))) := ((e1.trans e2).trans e3).trans e4
    have live3 : Live A H3 := (r2.up e3).live
    refine ⟨.ref D, _, I3, rfl, h _ _ e5 (.lst (vs := byKey vs ks) ?_ ?_ (byKey_reps (Reps.up (hid_up (e3.trans e4)) _ _ rvd) (by omega)))⟩
    · rw [hid_out (live3.new n3), upd_same]
    · unfold byKey byKeyL
      rw [List.length_map, List.length_mergeSort, List.length_zip]
      omega
end Snd
namespace Snd
open PySem PySem.Spec PyProof.Rows L2 Dt
variable [PrW]

def bltNames : List String := ["len", "tuple", "list", "int", "str", "all", "any", "isinstance", "range", "enumerate", "zip", "bool", "min", "max", "sorted", "set", "dict", "sum", "ord", "ValueError"]
/-- a def's promise: it hands back what g says -/
def spF (K : PySem.W.Frag) (RX : RXT) (g : List D → Res D) : Sp := fun vs H Q E => ∃ A ds, Live A H ∧ TabsW H ∧ Reps K (hid A H) vs ds ∧ Out RX (fun c d _ H' => E c d H') (relE K A) (g ds) [] H Q
/-- a def's promise: it hands back a new list -/
def spN (K : PySem.W.Frag) (RX : RXT) (g : List D → Res D) : Sp := fun vs H Q E => ∃ A ds, Live A H ∧ TabsW H ∧ Reps K (hid A H) vs ds ∧ Out RX (fun c d _ H' => E c d H') (relF K A H) (g ds >>= lstD) [] H Q
/-- the level at which a def is called that has so much fuel -/
def lev (n : Nat) : Nat := 3 * n + 3
/-- a lambda may be made here -/
structure LamF (n : Nat) (X : Cx) : Prop where
  room : Room (lev n + 2) X.A
  tab : ∃ c P, LamX.TabB X.base X.mg c P ∧ X.env.code = .ref c ∧ (P, X.env.qual ++ "<lambda>") ∈ PrW.T ∧ ∀ p ∈ PrW.T, p.1 = P → p.2 = X.env.qual ++ "<lambda>"
/-- where an expression stands -/
structure Ctx (fs : Sig) (Γ : String → List D → Res D) (G : String → Option D) (RX : RXT) (n : Nat) (N : List Str) (sc : Scope) (X : Cx) (W : WX) : Prop where
  hN : X.N = N
  nd : N.Nodup
  sco : X.env.scope = sc
  kind : sc.kind = .function
  calm : X.calm = true
  takes : Takes X W
  room : Room (lev n) X.A
  lam : fs.lam = true → LamF n X
  rx : RX = RXc X.K
  exc : ∀ c ∈ fs.exs, c ∈ excs ∧ ExcP X.K X.mg X.prog X.w X.base c
  told : fs.told = true → ToldP X.K X.mg
  trs : ∀ r ∈ fs.trs, r ∈ PrW.R ∧ X.mg (Str.ofString r) = some (.ref (xa X.K r))
  fns : ∀ f ∈ fs.fs, ∃ a fd ps, X.mg (Str.ofString f) = some (.ref a) ∧ PySem.W.keepIn X.K (.ref a) = true ∧ Binds X.K fd ps [] ∧ FnOk X.prog X.w X.K X.mg X.base (L2.CX X.prog X.w) (lev n) a fd ps (spF X.K RX (Γ f))
  fnsN : ∀ f ∈ fs.news, ∃ a fd ps, X.mg (Str.ofString f) = some (.ref a) ∧ PySem.W.keepIn X.K (.ref a) = true ∧ Binds X.K fd ps [] ∧ FnOk X.prog X.w X.K X.mg X.base (L2.CX X.prog X.w) (lev n) a fd ps (spN X.K RX (Γ f))
  blt : ∀ b ∈ bltNames, X.mg (Str.ofString b) = none
  cons : ∀ c d, G c = some d → ∃ v u, X.mg (Str.ofString c) = some u ∧ RelV v u ∧ ∀ H, Rep X.K H v d
  px : PrX X
section
variable {fs : Sig} {Γ : String → List D → Res D} {G : String → Option D} {RX : RXT} {n : Nat} {N : List Str} {sc : Scope} {X : Cx} {W : WX}
theorem Ctx.gl (c : Ctx fs Γ G RX n N sc X W) {x : Str} (h : glB sc x = true) : Gl X x := by
  show X.env.scope.names.lookup x = _
  rw [c.sco]; exact gl_of h
theorem Ctx.vis (c : Ctx fs Γ G RX n N sc X W) {x : Str} (h : visB sc x = true) : Vis X.env.scope x := by
  rw [c.sco]; exact vis_of h
theorem Ctx.hu (c : Ctx fs Γ G RX n N sc X W) : X.A.units + 120 < cLine := by have := c.room.un; omega
theorem Ctx.ix (c : Ctx fs Γ G RX n N sc X W) {i : Nat} {x : Str} (h : N[i]? = some x) : X.N[i]? = some x := by rw [c.hN]; exact h
/-- a comprehension's block -/
theorem Ctx.blk (c : Ctx fs Γ G RX n N sc X W) {s2 : Scope} (hk : s2.kind = .function) (s : Shared) (H : Hp) (C : Addr) (cl : List (Str × Addr)) (fp : List Addr) :
    Ctx fs Γ G RX n N (relS s2 sc) (X.blk s H s2 (compEnvC s2 cl C X.env) fp) W0 where
  hN := c.hN
  nd := c.nd
  sco := by
    show relabel s2 X.env = relS s2 sc
    unfold relabel relS PySem.Env.kindOf
    rw [c.sco]
  kind := hk
  calm := c.calm
  takes := takes0
  room := c.room
  lam := fun h => ⟨(c.lam h).room, (c.lam h).tab⟩
  rx := c.rx
  exc := c.exc
  told := c.told
  trs := c.trs
  fns := c.fns
  fnsN := c.fnsN
  blt := c.blt
  cons := c.cons
  px := ⟨c.px.p, c.px.w⟩
theorem call_of (c : Ctx fs Γ G RX n N sc X W) {f : String} {e : Expr} {es : List Expr} {p pos} {gs : EnvD → Res (List D)} (hf : f ∈ fs.fs) (hg : glB sc (Str.ofString f) = true) (hn : nmOk (Str.ofString f) = true) (he : okX e = true) (hes : (backTo pos (starEach es X.env)).any (·.1) = false)
    (ha : PA X (e :: es) (tA X.K RX W gs)) : PE X (.Call (.Name (Str.ofString f) p) (e :: es) [] pos) (tE X.K RX W fun ρ => do
      let ds ← gs ρ
      Γ f ds) := by
  obtain ⟨a, fd, ps, hm, hk, hb, F⟩ := c.fns f hf
  refine PEimp (pe_callSD (E := fun σ c d H => W c d σ H) F c.room (c.gl hg) hm hk hb .nil (passAt c.takes) ha (nm_of hn).1 (star_of he _ _) hes) fun σ H Q ⟨A, ρ, r, h⟩ => ?_
  refine ⟨A, ρ, r, h.bind fun ds vs H1 _ e1 q1 h1 => ?_⟩
  rw [List.append_nil]
  refine ⟨A, ds, r.live.up e1, e1.tabs r.tabs, q1, ?_⟩
  cases hq : Γ f ds with
  | ok d => rw [hq] at h1; exact h1
  | exc e => rw [hq] at h1; exact h1
  | stuck => rw [hq] at h1; exact h1
theorem relF_up {K : PySem.W.Frag} {A : List Addr} {H H1 H2 : Hp} {v : V} {ds : List D} (e : Same H H1) (h : relF K A H1 H2 v ds) : relF K A H H2 v ds := by
  obtain ⟨p, vs, e1, nu, r⟩ := h
  exact ⟨p, vs, e1, e.sm.freeN nu, r⟩
theorem relF_E {K : PySem.W.Frag} {A : List Addr} {H H1 : Hp} {v : V} {ds : List D} (l : Live A H) (h : relF K A H H1 v ds) : relE K A H1 v (.lst ds) := by
  obtain ⟨p, vs, rfl, nu, hp, hz, hr⟩ := h
  exact .lst (by rw [hid_out (l.newN nu)]; exact hp) hz (Reps.up (hid_less fun a h => List.mem_cons_of_mem _ h) _ _ hr)
theorem call_ofN (c : Ctx fs Γ G RX n N sc X W) {f : String} {e : Expr} {es : List Expr} {p pos} {gs : EnvD → Res (List D)} (hf : f ∈ fs.news) (hg : glB sc (Str.ofString f) = true) (hn : nmOk (Str.ofString f) = true) (he : okX e = true) (hes : (backTo pos (starEach es X.env)).any (·.1) = false)
    (ha : PA X (e :: es) (tA X.K RX W gs)) : PE X (.Call (.Name (Str.ofString f) p) (e :: es) [] pos) (tF X.K RX W fun ρ => (do
      let ds ← gs ρ
      Γ f ds) >>= lstD) := by
  obtain ⟨a, fd, ps, hm, hk, hb, F⟩ := c.fnsN f hf
  refine PEimp (pe_callSD (E := fun σ c d H => W c d σ H) F c.room (c.gl hg) hm hk hb .nil (passAt c.takes) ha (nm_of hn).1 (star_of he _ _) hes) fun σ H Q ⟨A, ρ, r, h⟩ => ?_
  have h : Out RX W (relF X.K A H) ((gs ρ >>= fun ds => Γ f ds) >>= lstD) σ H Q := h
  rw [res_assoc] at h
  refine ⟨A, ρ, r, h.bind fun ds vs H1 _ e1 q1 h1 => ?_⟩
  rw [List.append_nil]
  refine ⟨A, ds, r.live.up e1, e1.tabs r.tabs, q1, ?_⟩
  generalize (Γ f ds >>= lstD) = z at h1
  cases z with
  | ok xs => exact fun v H2 e2 q2 => h1 v H2 e2 (relF_up e1 q2)
  | exc x => exact h1
  | stuck => exact h1
end
end Snd
namespace Snd
open PySem PySem.Spec PyProof.Rows L2 Dt
variable [PrW]

section
variable {fs : Sig} {Γ : String → List D → Res D} {G : String → Option D} {RX : RXT} {n : Nat} {N : List Str} {sc : Scope} {X : Cx} {W : WX}
/-! ### targets -/
theorem pgs_of (hN : X.N = N) (nd : N.Nodup) (hs : X.env.scope = sc) {fn : Str → Bool} (hfn : ∀ x, X.fn x = fn x) : ∀ (is : List Nat) (es : List Expr), chkNames N sc fn is es = true → PGs X es (gNames is) ∧ (assignEach es X.env).length = is.length ∧ (assignEach es X.env).findIdx? (·.1) = none
  | [], [], _ => ⟨pgs_nil, rfl, rfl⟩
  | [], _ :: _, h => nomatch h
  | i :: is, [], h => nomatch h
  | i :: is, e :: es, h => by
    cases e with
    | Name x p =>
      simp only [chkNames, Bool.and_eq_true, decide_eq_true_eq] at h
      obtain ⟨h1, h2, h3⟩ := pgs_of hN nd hs hfn is es h.2
      obtain ⟨l1, l2⟩ := loc_of h.1.2
      refine ⟨pgs_cons (pg_name (i := i) (by rw [hN]; exact nd) (by rw [hN]; exact h.1.1) (by rw [hs]; exact l1) (by rw [hfn, hs]; exact l2)) h1 rfl, ?_, ?_⟩
      · show (assignEach es X.env).length + 1 = is.length + 1
        rw [h2]
      · show ((false, assign (.Name x p) X.env) :: assignEach es X.env).findIdx? (·.1) = none
        rw [List.findIdx?_cons, h3]
        rfl
    | _ => simp [chkNames] at h
theorem pg_of (hN : X.N = N) (nd : N.Nodup) (hs : X.env.scope = sc) {fn : Str → Bool} (hfn : ∀ x, X.fn x = fn x) (hc : X.calm = true) {t : MT} {e : Expr} (h : chkT N sc fn t e = true) : PG X e (gT X.K t) := by
  cases t with
  | nm i =>
    cases e with
    | Name x p =>
      simp only [chkT, Bool.and_eq_true, decide_eq_true_eq] at h
      obtain ⟨l1, l2⟩ := loc_of h.2
      exact pg_name (i := i) (by rw [hN]; exact nd) (by rw [hN]; exact h.1) (by rw [hs]; exact l1) (by rw [hfn, hs]; exact l2)
    | _ => simp [chkT] at h
  | tp is =>
    cases e with
    | Tuple es k p =>
      obtain ⟨h1, h2, h3⟩ := pgs_of hN nd hs hfn is es (by simpa [chkT] using h)
      refine ⟨fun pins s σ H v u Q I r hq => ?_⟩
      obtain ⟨a, xs, e1, e2, e3, e4⟩ := hq
      rcases e2 with e2 | e2
      · exact (pg_tup (n := is.length) hc h1 h2 h3).run pins s σ H v u Q I r ⟨a, xs, e1, e2, e3, gNames_of is xs σ H Q e3 e4⟩
      · exact (pg_lst (n := is.length) hc h1 h2 h3).run pins s σ H v u Q I r ⟨a, xs, e1, e2, e3, gNames_of is xs σ H Q e3 e4⟩
    | _ => simp [chkT] at h

/-! ### new lists -/
def fresh : ME → Bool
  | .lst _ => true
  | .comp _ _ _ => true
  | .compIf _ _ _ _ => true
  | .b1 .list _ => true
  | .op .add _ _ => true
  | .sl _ _ _ => true
  | .fcall _ _ => true
  | _ => false
theorem lstD_out {β γ : Type} {rel : Hp → β → γ → Prop} {d : D} {f : List D → Res γ} {σ : L2.St} {H : Hp} {Q : β → Hp → Prop} (h : Out RX W rel (lstD d >>= f) σ H Q) : ∃ xs, d = .lst xs ∧ Out RX W rel (f xs) σ H Q := by
  cases d <;> first | exact h.elim | exact ⟨_, rfl, h⟩
theorem df_add {a b : Expr} {pos} {ga gb : EnvD → Res D} (ha : PE X a (tE X.K RX W ga)) (hb : PE X b (tE X.K RX W gb)) : PE X (.BinOp a .Add b pos) (tF X.K RX W fun ρ => do
    let d ← (do
      let x ← ga ρ
      let y ← gb ρ
      bopD .add x y)
    lstD d) := by
  refine PEimp (pe_op op_addR ha hb) fun σ H Q ⟨A, ρ, r, h⟩ => ?_
  dsimp only at h
  rw [res_assoc] at h
  refine ⟨A, ρ, r, h.bind fun d v H1 _ e1 q1 h1 => ?_⟩
  rw [res_assoc] at h1
  refine ⟨A, ρ, r.up e1, h1.bind fun d2 v2 H2 _ e2 q2 h2 => ?_⟩
  have q1 := Rep.up (hid_up e2) _ _ q1
  have live := (r.live.up e1).up e2
  have bad : ∀ {w : Res D}, bopD .add d d2 = w → (∀ xs, w ≠ .ok (.lst xs)) → (∀ e, w ≠ .exc e) → False := fun {w} e n1 n2 => by
    rw [e] at h2
    cases w with
    | ok z => cases z <;> first | exact h2.elim | exact n1 _ rfl
    | exc e => exact n2 _ rfl
    | stuck => exact h2.elim
  cases q1 with
  | @lst p vs xs hp hz hr =>
    cases q2 with
    | @lst q ws ys hq hz' hr' =>
      have h2 : Out RX W (relF X.K A H) (must (decide (xs.length + ys.length ≤ SZ)) (.ok (.lst (xs ++ ys))) >>= lstD) σ H2 Q := h2
      cases hc : decide (xs.length + ys.length ≤ SZ) with
      | false => rw [hc] at h2; exact h2.elim
      | true =>
        rw [hc] at h2
        have h2 : Out RX W (relF X.K A H) (.ok (xs ++ ys)) σ H2 Q := h2
        have c := of_decide_eq_true hc
        have c' : vs.length + ws.length ≤ SZ := by rw [hr.length, hr'.length]; exact c
        refine .inr (.inr (.inl ⟨p, q, vs, ws, rfl, rfl, hid_same A H2 _ _ hp, hid_same A H2 _ _ hq, by rw [← SZ_eq]; exact c', fun l hl => ?_⟩))
        have e : Same H2 (upd H2 l (.lst (vs ++ ws))) := same_upd hl
        exact h2.ok e ⟨l, vs ++ ws, rfl, (e1.trans e2).free hl, upd_same, by simpa using c', Reps.up ((hid_new (.of hl)).trans (hid_up e)) _ _ (hr.app hr')⟩
    | _ => exact (bad rfl (fun _ z => nomatch z) (fun _ z => nomatch z)).elim
  | int i => 
    cases q2 <;> exact (bad rfl (fun _ z => nomatch z) (fun _ z => nomatch z)).elim
  | str s hs =>
    cases q2 with
    | str t ht =>
      refine (bad (w := must (decide (s.length + t.length ≤ SZ)) (.ok (.str (s ++ t)))) rfl (fun _ z => ?_) (fun _ z => ?_)).elim <;> cases hc : decide (s.length + t.length ≤ SZ) <;> rw [hc] at z <;> cases z
    | _ => exact (bad rfl (fun _ z => nomatch z) (fun _ z => nomatch z)).elim
  | @tup p vs xs hp hz hr =>
    cases q2 with
    | @tup q ws ys hq hz' hr' =>
      refine (bad (w := must (decide (xs.length + ys.length ≤ SZ)) (.ok (.tup (xs ++ ys)))) rfl (fun _ z => ?_) (fun _ z => ?_)).elim <;> cases hc : decide (xs.length + ys.length ≤ SZ) <;> rw [hc] at z <;> cases z
    | _ => exact (bad rfl (fun _ z => nomatch z) (fun _ z => nomatch z)).elim
  | _ => cases q2 <;> exact (bad rfl (fun _ z => nomatch z) (fun _ z => nomatch z)).elim
theorem df_sl {a : Expr} {lo hi : Option Expr} {p2 pos} {ga : EnvD → Res D} {gl gh : EnvD → Res (Option Int)} (ha : PE X a (tE X.K RX W ga)) (hl : PO X lo (tOo X.K RX W gl)) (hh : PO X hi (tOo X.K RX W gh)) :
    PE X (.Subscript a (.Slice lo hi none p2) pos) (tF X.K RX W fun ρ => do
      let d ← (do
        let x ← ga ρ
        let l ← gl ρ
        let h ← gh ρ
        slD x l h)
      lstD d) := by
  refine PEimp (pe_slice sl_R ha hl hh) fun σ H Q ⟨A, ρ, r, q⟩ => ?_
  dsimp only at q
  rw [res_assoc] at q
  refine ⟨A, ρ, r, q.bind fun d v H1 _ e1 q1 h1 => ?_⟩
  rw [res_assoc] at h1
  refine ⟨A, ρ, r.up e1, h1.bind fun l _ H2 _ e2 ql h2 => ?_⟩
  rw [res_assoc] at h2
  refine ⟨A, ρ, (r.up e1).up e2, h2.bind fun u _ H3 _ e3 qu h3 => ?_⟩
  cases ql
  cases qu
  have q3 := Rep.up ((hid_up e2).trans (hid_up e3)) d v q1
  cases q3 with
  | @lst p vs ds hp hz hr =>
    refine .inl ⟨p, vs, rfl, SqL.of (hid_same A H3 _ _ hp), fun z hz' => ?_⟩
    have e : Same H3 (upd H3 z (.lst (cutV vs l u))) := same_upd hz'
    have h3 : Out RX W (relF X.K A H) (.ok (cut ds l u)) σ H3 Q := h3
    refine h3.ok e ⟨z, cut vs l u, rfl, ((e1.trans e2).trans e3).free hz', ?_, Nat.le_trans (cut_len _ _ _) hz, Reps.up ((hid_new (.of hz')).trans (hid_up e)) _ _ (cut_reps hr _ _)⟩
    rw [upd_same, cut_V]
  | _ => exact h3.elim
end
end Snd
namespace Snd
open PySem PySem.Spec PyProof.Rows L2 Dt
variable [PrW]

section
variable (fs : Sig) (Γ : String → List D → Res D) (G : String → Option D) (RX : RXT) (n : Nat)
structure Ans (X : Cx) (W : WX) (m : ME) (e : Expr) : Prop where
  pe : PE X e (tE X.K RX W (ev Γ G m))
  pt : PT X e (tT X.K RX W fun ρ => ev Γ G m ρ >>= blD)
  pw : (∃ op vs p, e = .BoolOp op vs p) → PW X e (tT X.K RX W fun ρ => ev Γ G m ρ >>= blD)
  pf : fresh m = true → PE X e (tF X.K RX W fun ρ => ev Γ G m ρ >>= lstD)
def EOk (m : ME) : Prop := ∀ (X : Cx) (W : WX) (N : List Str) (sc : Scope) (e : Expr), Ctx fs Γ G RX n N sc X W → chkE fs m 0 N sc e = true → Ans Γ G RX X W m e
structure Ok (m : ME) : Prop where
  e : EOk fs Γ G RX n m
  l : ∀ (X : Cx) (W : WX) (N : List Str) (sc : Scope) (es : List Expr), Ctx fs Γ G RX n N sc X W → chkL fs m N sc es = true → PA X es (tA X.K RX W (evs Γ G m)) ∧ (∀ ρ ds, evs Γ G m ρ = .ok ds → ds.length = es.length) ∧ (∀ x ∈ es, okX x = true)
  i : ∀ (X : Cx) (W : WX) (N : List Str) (sc : Scope) (tg e : Expr) (mo : Nat), Ctx fs Γ G RX n N sc X W → (mo = 2 → isTup tg = true) → chkE fs m mo N sc e = true → PI X tg e (tI X.K RX W fun ρ => ev Γ G m ρ >>= itD)
end
section
variable {fs : Sig} {Γ : String → List D → Res D} {G : String → Option D} {RX : RXT} {n : Nat}
/-- what follows from the expression's part, for all but lists and walks -/
theorem Ok.of {m : ME} (h : EOk fs Γ G RX n m) (hl : ∀ N sc es, chkL fs m N sc es = false) (hi : ∀ mo N sc e, chkE fs m mo N sc e = chkE fs m 0 N sc e) : Ok fs Γ G RX n m where
  e := h
  l := fun X W N sc es _ q => by rw [hl] at q; cases q
  i := fun X W N sc tg e mo c _ q => by
    rw [hi] at q
    exact di_val (h X W N sc e c q).pe
/-- an expression whose truth is its value's -/
theorem Ans.of {X : Cx} {W : WX} {m : ME} {e : Expr} (h : PE X e (tE X.K RX W (ev Γ G m))) (he : ∀ whole, isTrue e X.env whole = (do let v ← whole; standAt e.pos; holding [v] (truthy v))) (hb : ∀ op vs p, e ≠ .BoolOp op vs p)
    (hf : fresh m = true → PE X e (tF X.K RX W fun ρ => ev Γ G m ρ >>= lstD)) : Ans Γ G RX X W m e :=
  ⟨h, dt_val h he, fun ⟨op, vs, p, q⟩ => absurd q (hb op vs p), hf⟩
theorem and4 {a b : Bool} (h : (a && b) = true) : a = true ∧ b = true := Bool.and_eq_true_iff.mp h
theorem hides : ∀ {es : List Expr}, (∀ x ∈ es, okX x = true) → ∀ (env : PySem.Env) (pos : Pos), (backTo pos (starEach es env)).any (·.1) = false
  | [], _, _, _ => rfl
  | x :: xs, h, env, pos => by
    rw [star_of (h x List.mem_cons_self)]
    show (false || (backTo pos (starEach xs env)).any (·.1)) = false
    rw [hides (fun y hy => h y (List.mem_cons_of_mem _ hy)) env pos]
    rfl

theorem ok_var (i : Nat) : Ok fs Γ G RX n (.var i) := .of (fun X W N sc e c h => by
  obtain ⟨x, hx, h⟩ := oB_of h
  obtain ⟨p, rfl⟩ := asName_of hx
  obtain ⟨h1, h3⟩ := and4 h
  obtain ⟨h1, h2⟩ := and4 h1
  have pe : PE X (.Name x p) (tE X.K RX W (ev Γ G (.var i))) := de_var (c.ix (of_decide_eq_true h1)) (c.vis h2) (nm_of h3).1 (nm_of h3).2
  exact .of pe (fun _ => rfl) (fun _ _ _ q => nomatch q) (fun q => nomatch q)) (fun _ _ _ => rfl) (fun _ _ _ _ => rfl)
theorem ok_int (i : Int) : Ok fs Γ G RX n (.int i) := .of (fun X W N sc e c h => by
  obtain ⟨x, hx, h⟩ := oB_of h
  obtain ⟨j, p, rfl⟩ := asInt_of hx
  obtain rfl := of_decide_eq_true h
  have pe : PE X (.Constant (.int i) j p) (tE X.K RX W (ev Γ G (.int i))) := de_int
  exact .of pe (fun _ => rfl) (fun _ _ _ q => nomatch q) (fun q => nomatch q)) (fun _ _ _ => rfl) (fun _ _ _ _ => rfl)
theorem ok_str (s : String) : Ok fs Γ G RX n (.str s) := .of (fun X W N sc e c h => by
  obtain ⟨x, hx, h⟩ := oB_of h
  obtain ⟨j, p, rfl⟩ := asStr_of hx
  obtain ⟨h1, h2⟩ := and4 h
  obtain rfl := of_decide_eq_true h1
  have pe : PE X (.Constant (.str (Str.ofString s)) j p) (tE X.K RX W (ev Γ G (.str s))) := de_str (of_decide_eq_true h2)
  exact .of pe (fun _ => rfl) (fun _ _ _ q => nomatch q) (fun q => nomatch q)) (fun _ _ _ => rfl) (fun _ _ _ _ => rfl)
theorem ok_bl (b : Bool) : Ok fs Γ G RX n (.bl b) := .of (fun X W N sc e c h => by
  obtain ⟨x, hx, h⟩ := oB_of h
  obtain ⟨j, p, rfl⟩ := asBl_of hx
  obtain rfl := of_decide_eq_true h
  have pe : PE X (.Constant (.bool b) j p) (tE X.K RX W (ev Γ G (.bl b))) := de_bl
  exact .of pe (fun _ => rfl) (fun _ _ _ q => nomatch q) (fun q => nomatch q)) (fun _ _ _ => rfl) (fun _ _ _ _ => rfl)
theorem ok_non : Ok fs Γ G RX n .non := .of (fun X W N sc e c h => by
  obtain ⟨j, p, rfl⟩ := asNon_of h
  have pe : PE X (.Constant .none j p) (tE X.K RX W (ev Γ G .non)) := de_non
  exact .of pe (fun _ => rfl) (fun _ _ _ q => nomatch q) (fun q => nomatch q)) (fun _ _ _ => rfl) (fun _ _ _ _ => rfl)
theorem ok_con (s : String) : Ok fs Γ G RX n (.con s) := .of (fun X W N sc e c h => by
  obtain ⟨x, hx, h⟩ := oB_of h
  obtain ⟨p, rfl⟩ := asName_of hx
  obtain ⟨h1, h3⟩ := and4 h
  obtain ⟨h1, h2⟩ := and4 h1
  obtain rfl := of_decide_eq_true h1
  have pe : PE X (.Name (Str.ofString s) p) (tE X.K RX W (ev Γ G (.con s))) := by
    cases hg : G s with
    | none =>
      refine ⟨fun pins st σ H Q I ⟨A, ρ, r, q⟩ => ?_⟩
      have q : Out RX W (relE X.K A) (optR (G s)) σ H Q := q
      rw [hg] at q
      exact q.elim
    | some d =>
      obtain ⟨v, u, e1, e2, e3⟩ := c.cons s d hg
      refine PEimp (de_con (RX := RX) (W := W) (d := d) (c.gl h2) e1 e2 e3 (nm_of h3).1) fun σ H Q ⟨A, ρ, r, q⟩ => ⟨A, ρ, r, ?_⟩
      have q : Out RX W (relE X.K A) (optR (G s)) σ H Q := q
      rw [hg] at q
      exact q
  exact .of pe (fun _ => rfl) (fun _ _ _ q => nomatch q) (fun q => nomatch q)) (fun _ _ _ => rfl) (fun _ _ _ _ => rfl)
theorem ok_nil : Ok fs Γ G RX n .nil where
  e := fun X W N sc e c h => nomatch h
  l := fun X W N sc es c h => by
    have e : es = [] := by simpa [chkL] using h
    subst e
    exact ⟨da_nil, fun ρ ds h => by cases h; rfl, fun x hx => nomatch hx⟩
  i := fun X W N sc tg e b c _ h => nomatch h
theorem ok_cons {a r : ME} (ha : Ok fs Γ G RX n a) (hr : Ok fs Γ G RX n r) : Ok fs Γ G RX n (.cons a r) where
  e := fun X W N sc e c h => nomatch h
  l := fun X W N sc es c h => by
    cases es with
    | nil => cases h
    | cons x xs =>
      have h : (okX x && chkE fs a 0 N sc x && chkL fs r N sc xs) = true := h
      obtain ⟨h1, h3⟩ := and4 h
      obtain ⟨h1, h2⟩ := and4 h1
      obtain ⟨p1, p2, p3⟩ := hr.l X W N sc xs c h3
      refine ⟨da_cons (ha.e X W N sc x c h2).pe p1 (star_of h1 _ _), fun ρ ds hd => ?_, fun y hy => ?_⟩
      · obtain ⟨d, _, hd⟩ := bind_ok (show (ev Γ G a ρ >>= fun d => evs Γ G r ρ >>= fun ds => .ok (d :: ds)) = .ok ds from hd)
        obtain ⟨es, he, hd⟩ := bind_ok hd
        cases hd
        simp [p2 ρ es he]
      · rcases List.mem_cons.mp hy with rfl | hy
        · exact h1
        · exact p3 y hy
  i := fun X W N sc tg e b c _ h => nomatch h
theorem ok_tup {es : ME} (h0 : Ok fs Γ G RX n es) : Ok fs Γ G RX n (.tup es) := .of (fun X W N sc e c h => by
  obtain ⟨xs, hx, h⟩ := oB_of h
  obtain ⟨j, p, rfl⟩ := asTup_of hx
  obtain ⟨h1, h2⟩ := and4 h
  obtain ⟨p1, p2, _⟩ := h0.l X W N sc xs c h1
  have pe : PE X (.Tuple xs j p) (tE X.K RX W (ev Γ G (.tup es))) := de_tup p1 fun ρ ds hd => by rw [p2 ρ ds hd]; exact of_decide_eq_true h2
  exact .of pe (fun _ => rfl) (fun _ _ _ q => nomatch q) (fun q => nomatch q)) (fun _ _ _ => rfl) (fun _ _ _ _ => rfl)
theorem asLst_eq {m : ME} {g : EnvD → Res (List D)} (h : ∀ ρ, ev Γ G m ρ = (g ρ >>= fun ds => .ok (.lst ds))) : (fun ρ => ev Γ G m ρ >>= lstD) = g := by
  funext ρ
  rw [h ρ]
  cases g ρ <;> rfl
/-- by its new list -/
theorem Ans.ofF {X : Cx} {W : WX} {m : ME} {e : Expr} {g : EnvD → Res (List D)} (h : PE X e (tF X.K RX W g)) (hg : ∀ ρ, ev Γ G m ρ = (g ρ >>= fun ds => .ok (.lst ds))) (he : ∀ whole, isTrue e X.env whole = (do let v ← whole; standAt e.pos; holding [v] (truthy v))) (hb : ∀ op vs p, e ≠ .BoolOp op vs p) : Ans Γ G RX X W m e := by
  refine .of ?_ he hb fun _ => ?_
  · have e2 : ev Γ G m = fun ρ => g ρ >>= fun ds => .ok (.lst ds) := funext hg
    rw [e2]
    exact de_of_df h
  · rw [asLst_eq hg]
    exact h
theorem ok_lst {es : ME} (h0 : Ok fs Γ G RX n es) : Ok fs Γ G RX n (.lst es) := .of (fun X W N sc e c h => by
  obtain ⟨xs, hx, h⟩ := oB_of h
  obtain ⟨p, rfl⟩ := asLst_of hx
  obtain ⟨h1, h2⟩ := and4 h
  obtain ⟨p1, p2, _⟩ := h0.l X W N sc xs c h1
  have pf : PE X (.List xs p) (tF X.K RX W (evs Γ G es)) := df_lst p1 fun ρ ds hd => by rw [p2 ρ ds hd]; exact of_decide_eq_true h2
  exact .ofF pf (fun _ => rfl) (fun _ => rfl) (fun _ _ _ q => nomatch q)) (fun _ _ _ => rfl) (fun _ _ _ _ => rfl)
theorem ok_op {o : Bop} {a b : ME} (ha : Ok fs Γ G RX n a) (hb : Ok fs Γ G RX n b) : Ok fs Γ G RX n (.op o a b) := .of (fun X W N sc e c h => by
  obtain ⟨⟨x, p, y⟩, hx, h⟩ := oB_of h
  obtain ⟨q, rfl⟩ := asBin_of hx
  obtain ⟨h1, h3⟩ := and4 h
  obtain ⟨h1, h2⟩ := and4 h1
  have pa := (ha.e X W N sc x c h2).pe
  have pb := (hb.e X W N sc y c h3).pe
  have fin : PE X (.BinOp x p y q) (tE X.K RX W (ev Γ G (.op o a b))) → (fresh (.op o a b) = true → PE X (.BinOp x p y q) (tF X.K RX W fun ρ => ev Γ G (.op o a b) ρ >>= lstD)) → Ans Γ G RX X W (.op o a b) (.BinOp x p y q) :=
    fun pe pf => .of pe (fun _ => rfl) (fun _ _ _ z => nomatch z) pf
  cases o with
  | add =>
    cases p <;> first | (cases h1; done) | skip
    exact fin (de_op op_addR od_add pa pb) fun _ => df_add pa pb
  | sub =>
    cases p <;> first | (cases h1; done) | skip
    exact fin (de_op op_sub od_sub pa pb) fun z => nomatch z
  | mul =>
    cases p <;> first | (cases h1; done) | skip
    exact fin (de_op ((op_mul.or op_mulS).or (op_repT.or op_rep)) od_mul pa pb) fun z => nomatch z
  | fdiv =>
    cases p <;> first | (cases h1; done) | skip
    exact fin (de_op op_fdiv od_fdiv pa pb) fun z => nomatch z
  | mod =>
    cases p <;> first | (cases h1; done) | skip
    exact fin (de_op op_mod od_mod pa pb) fun z => nomatch z) (fun _ _ _ => rfl) (fun _ _ _ _ => rfl)
theorem ok_neg {a : ME} (ha : Ok fs Γ G RX n a) : Ok fs Γ G RX n (.neg a) := .of (fun X W N sc e c h => by
  obtain ⟨⟨u, x⟩, hx, h⟩ := oB_of h
  obtain ⟨q, rfl⟩ := asUn_of hx
  obtain ⟨h1, h2⟩ := and4 h
  obtain rfl : u = .USub := of_decide_eq_true h1
  have pe : PE X (.UnaryOp .USub x q) (tE X.K RX W (ev Γ G (.neg a))) := de_neg (ha.e X W N sc x c h2).pe
  exact .of pe (fun _ => rfl) (fun _ _ _ z => nomatch z) fun z => nomatch z) (fun _ _ _ => rfl) (fun _ _ _ _ => rfl)
theorem ok_not {a : ME} (ha : Ok fs Γ G RX n a) : Ok fs Γ G RX n (.not a) := .of (fun X W N sc e c h => by
  obtain ⟨⟨u, x⟩, hx, h⟩ := oB_of h
  obtain ⟨q, rfl⟩ := asUn_of hx
  obtain ⟨h1, h2⟩ := and4 h
  obtain rfl : u = .Not := of_decide_eq_true h1
  have A := ha.e X W N sc x c h2
  refine ⟨de_not A.pe, ?_, fun ⟨_, _, _, z⟩ => (nomatch z), fun z => nomatch z⟩
  refine PTimp (dt_not A.pt) fun σ H Q ⟨B, ρ, r, z⟩ => ⟨B, ρ, r, ?_⟩
  have e : (ev Γ G (.not a) ρ >>= blD) = ((ev Γ G a ρ >>= blD) >>= fun k => .ok (!k)) := by
    show ((ev Γ G a ρ >>= fun x => notD x) >>= blD) = _
    cases ev Γ G a ρ with
    | ok d => cases d <;> rfl
    | exc _ => rfl
    | stuck => rfl
  exact (congrArg (fun w => Out RX W relT w σ H Q) e).mp z) (fun _ _ _ => rfl) (fun _ _ _ _ => rfl)
theorem ok_and1 {a : ME} (ha : Ok fs Γ G RX n a) : Ok fs Γ G RX n (.and1 a) := .of (fun X W N sc e c h => by
  obtain ⟨⟨u, x⟩, hx, h⟩ := oB_of h
  obtain ⟨q, rfl⟩ := asBool1_of hx
  obtain ⟨h1, h2⟩ := and4 h
  obtain rfl : u = .And := of_decide_eq_true h1
  have A := ha.e X W N sc x c h2
  have pw : PW X (.BoolOp .And [x] q) (tT X.K RX W fun ρ => ev Γ G (.and1 a) ρ >>= blD) := by
    refine PWimp (dw_and1 A.pt) fun σ H Q ⟨B, ρ, r, z⟩ => ⟨B, ρ, r, ?_⟩
    have e : (ev Γ G (.and1 a) ρ >>= blD) = (ev Γ G a ρ >>= blD) := by
      show ((ev Γ G a ρ >>= fun x => blD x >>= fun b => .ok (.bl b)) >>= blD) = _
      cases ev Γ G a ρ with
      | ok d => cases d <;> rfl
      | exc _ => rfl
      | stuck => rfl
    exact (congrArg (fun w => Out RX W relT w σ H Q) e).mp z
  exact ⟨de_one A.pe, pw.pt, fun _ => pw, fun z => nomatch z⟩) (fun _ _ _ => rfl) (fun _ _ _ _ => rfl)
theorem ok_or1 {a : ME} (ha : Ok fs Γ G RX n a) : Ok fs Γ G RX n (.or1 a) := .of (fun X W N sc e c h => by
  obtain ⟨⟨u, x⟩, hx, h⟩ := oB_of h
  obtain ⟨q, rfl⟩ := asBool1_of hx
  obtain ⟨h1, h2⟩ := and4 h
  obtain rfl : u = .Or := of_decide_eq_true h1
  have A := ha.e X W N sc x c h2
  have pw : PW X (.BoolOp .Or [x] q) (tT X.K RX W fun ρ => ev Γ G (.or1 a) ρ >>= blD) := by
    refine PWimp (dw_or1 A.pt) fun σ H Q ⟨B, ρ, r, z⟩ => ⟨B, ρ, r, ?_⟩
    have e : (ev Γ G (.or1 a) ρ >>= blD) = (ev Γ G a ρ >>= blD) := by
      show ((ev Γ G a ρ >>= fun x => blD x >>= fun b => .ok (.bl b)) >>= blD) = _
      cases ev Γ G a ρ with
      | ok d => cases d <;> rfl
      | exc _ => rfl
      | stuck => rfl
    exact (congrArg (fun w => Out RX W relT w σ H Q) e).mp z
  exact ⟨de_one A.pe, pw.pt, fun _ => pw, fun z => nomatch z⟩) (fun _ _ _ => rfl) (fun _ _ _ _ => rfl)
theorem ok_and {a b : ME} (ha : Ok fs Γ G RX n a) (hb : Ok fs Γ G RX n b) : Ok fs Γ G RX n (.and a b) := .of (fun X W N sc e c h => by
  obtain ⟨⟨u, x, z⟩, hx, h⟩ := oB_of h
  obtain ⟨y, rr, q, rfl, rfl⟩ := asBool2_of hx
  obtain ⟨h1, h3⟩ := and4 h
  obtain ⟨h1, h2⟩ := and4 h1
  obtain rfl : u = .And := of_decide_eq_true h1
  have A := ha.e X W N sc x c h2
  have B := hb.e X W N sc _ c h3
  have pw : PW X (.BoolOp .And (x :: y :: rr) q) (tT X.K RX W fun ρ => ev Γ G (.and a b) ρ >>= blD) := by
    refine PWimp (dw_and A.pt (B.pw ⟨_, _, _, rfl⟩)) fun σ H Q ⟨B, ρ, r, z⟩ => ⟨B, ρ, r, ?_⟩
    have e : (ev Γ G (.and a b) ρ >>= blD) = ((ev Γ G a ρ >>= blD) >>= fun k => match k with
        | true => ev Γ G b ρ >>= blD
        | false => .ok false) := by
      show ((ev Γ G a ρ >>= fun x => blD x >>= fun k => match k with
        | true => ev Γ G b ρ
        | false => .ok (.bl false)) >>= blD) = _
      cases ev Γ G a ρ with
      | ok d =>
        cases d with
        | bl k => cases k <;> rfl
        | _ => rfl
      | exc _ => rfl
      | stuck => rfl
    exact (congrArg (fun w => Out RX W relT w σ H Q) e).mp z
  exact ⟨de_and A.pe B.pe, pw.pt, fun _ => pw, fun z => nomatch z⟩) (fun _ _ _ => rfl) (fun _ _ _ _ => rfl)
theorem ok_or {a b : ME} (ha : Ok fs Γ G RX n a) (hb : Ok fs Γ G RX n b) : Ok fs Γ G RX n (.or a b) := .of (fun X W N sc e c h => by
  obtain ⟨⟨u, x, z⟩, hx, h⟩ := oB_of h
  obtain ⟨y, rr, q, rfl, rfl⟩ := asBool2_of hx
  obtain ⟨h1, h3⟩ := and4 h
  obtain ⟨h1, h2⟩ := and4 h1
  obtain rfl : u = .Or := of_decide_eq_true h1
  have A := ha.e X W N sc x c h2
  have B := hb.e X W N sc _ c h3
  have pw : PW X (.BoolOp .Or (x :: y :: rr) q) (tT X.K RX W fun ρ => ev Γ G (.or a b) ρ >>= blD) := by
    refine PWimp (dw_or A.pt (B.pw ⟨_, _, _, rfl⟩)) fun σ H Q ⟨B, ρ, r, z⟩ => ⟨B, ρ, r, ?_⟩
    have e : (ev Γ G (.or a b) ρ >>= blD) = ((ev Γ G a ρ >>= blD) >>= fun k => match k with
        | true => .ok true
        | false => ev Γ G b ρ >>= blD) := by
      show ((ev Γ G a ρ >>= fun x => blD x >>= fun k => match k with
        | true => .ok (.bl true)
        | false => ev Γ G b ρ) >>= blD) = _
      cases ev Γ G a ρ with
      | ok d =>
        cases d with
        | bl k => cases k <;> rfl
        | _ => rfl
      | exc _ => rfl
      | stuck => rfl
    exact (congrArg (fun w => Out RX W relT w σ H Q) e).mp z
  exact ⟨de_or A.pe B.pe, pw.pt, fun _ => pw, fun z => nomatch z⟩) (fun _ _ _ => rfl) (fun _ _ _ _ => rfl)
end
end Snd
namespace Snd
open PySem PySem.Spec PyProof.Rows L2 Dt
variable [PrW]
section
variable {fs : Sig} {Γ : String → List D → Res D} {G : String → Option D} {RX : RXT} {n : Nat}
theorem op_isBN {X : Cx} : OpR X (compareOp .Is) (fun x y H Q => ∃ b : Bool, y = .bl b ∧ ((∃ a, x = .bl a ∧ Q (.bl (decide (a = b))) H) ∨ (x = .non ∧ Q (.bl false) H))) := by
  intro pins s σ H x y v u Q I rx ry ⟨b, e, h⟩
  rcases h with ⟨a, e2, q⟩ | ⟨e2, q⟩
  · exact op_is_bl pins s σ H x y v u Q I rx ry ⟨a, b, e2, e, q⟩
  · subst e e2
    cases (show v = Value.none from rx)
    cases (show u = Value.bool b from ry)
    exact wpAny_is_other rfl (fun z => by cases z) ⟨.bl false, H, I, rfl, q⟩
theorem op_isnBN {X : Cx} : OpR X (compareOp .IsNot) (fun x y H Q => ∃ b : Bool, y = .bl b ∧ ((∃ a, x = .bl a ∧ Q (.bl (!decide (a = b))) H) ∨ (x = .non ∧ Q (.bl true) H))) := by
  intro pins s σ H x y v u Q I rx ry ⟨b, e, h⟩
  rcases h with ⟨a, e2, q⟩ | ⟨e2, q⟩
  · exact op_isnot_bl pins s σ H x y v u Q I rx ry ⟨a, b, e2, e, q⟩
  · subst e e2
    cases (show v = Value.none from rx)
    cases (show u = Value.bool b from ry)
    exact wpAny_isNot_other rfl (fun z => by cases z) ⟨.bl true, H, I, rfl, q⟩
theorem od_iss {K : PySem.W.Frag} {RX : RXT} {W : WX} : OpD K RX W (copD .iss) (fun x y H Q => ∃ b : Bool, y = .bl b ∧ ((∃ a, x = .bl a ∧ Q (.bl (decide (a = b))) H) ∨ (x = .non ∧ Q (.bl false) H))) := by
  intro A σ H x y a b Q l hx hy q
  cases hy with
  | bl b =>
    cases hx with
    | bl a =>
      have := q.ok (Same.refl H) (.bl _)
      have e : (a == b) = decide (a = b) := by cases a <;> cases b <;> rfl
      rw [e] at this
      exact ⟨b, rfl, .inl ⟨a, rfl, this⟩⟩
    | non => exact ⟨b, rfl, .inr ⟨rfl, q.ok (Same.refl H) (.bl _)⟩⟩
    | _ => exact q.elim
  | _ => cases hx <;> exact q.elim
theorem od_isns {K : PySem.W.Frag} {RX : RXT} {W : WX} : OpD K RX W (copD .isns) (fun x y H Q => ∃ b : Bool, y = .bl b ∧ ((∃ a, x = .bl a ∧ Q (.bl (!decide (a = b))) H) ∨ (x = .non ∧ Q (.bl true) H))) := by
  intro A σ H x y a b Q l hx hy q
  cases hy with
  | bl b =>
    cases hx with
    | bl a =>
      have := q.ok (Same.refl H) (.bl _)
      have e : (a == b) = decide (a = b) := by cases a <;> cases b <;> rfl
      rw [e] at this
      exact ⟨b, rfl, .inl ⟨a, rfl, this⟩⟩
    | non => exact ⟨b, rfl, .inr ⟨rfl, q.ok (Same.refl H) (.bl _)⟩⟩
    | _ => exact q.elim
  | _ => cases hx <;> exact q.elim
theorem cop_or {X : Cx} {W : WX} {o : Cop} {p : CmpOp} (px : PrX X) (hu : X.A.units + 120 < cLine) (h : copM o p = true) : ∃ r, OpR X (compareOp p) r ∧ OpD X.K RX W (copD o) r := by
  cases o <;> cases p <;> first | (cases h; done) | skip
  · exact ⟨_, op_eqR hu, od_eq⟩
  · exact ⟨_, op_neR hu, od_ne⟩
  · exact ⟨_, op_ltR, od_lt⟩
  · exact ⟨_, op_leR, od_le⟩
  · exact ⟨_, op_gt, od_gt⟩
  · exact ⟨_, op_ge, od_ge⟩
  · refine ⟨_, op_innR px hu, fun A σ H x y a b Q l hx hy q => od_in (RX := RX) (W := W) false A σ H x y a b Q l hx hy ?_⟩
    have q : Out RX W (relE X.K A) (inD a b >>= fun b => .ok (.bl b)) σ H Q := q
    refine (congrArg (fun f => Out RX W (relE X.K A) (inD a b >>= f) σ H Q) (funext fun k => ?_)).mp q
    cases k <;> rfl
  · refine ⟨_, op_nnnR px hu, fun A σ H x y a b Q l hx hy q => od_in (RX := RX) (W := W) true A σ H x y a b Q l hx hy ?_⟩
    have q : Out RX W (relE X.K A) (inD a b >>= fun b => .ok (.bl !b)) σ H Q := q
    refine (congrArg (fun f => Out RX W (relE X.K A) (inD a b >>= f) σ H Q) (funext fun k => ?_)).mp q
    cases k <;> rfl
  · exact ⟨_, op_isBN, od_iss⟩
  · exact ⟨_, op_isnBN, od_isns⟩
theorem ok_cmp {o : Cop} {a b : ME} (ha : Ok fs Γ G RX n a) (hb : Ok fs Γ G RX n b) : Ok fs Γ G RX n (.cmp o a b) := .of (fun X W N sc e c h => by
  obtain ⟨⟨x, p, y⟩, hx, h⟩ := oB_of h
  obtain ⟨q, rfl⟩ := asCmp_of hx
  obtain ⟨h1, h4⟩ := and4 h
  obtain ⟨h1, h3⟩ := and4 h1
  obtain ⟨h1, h2⟩ := and4 h1
  obtain ⟨r, o1, o2⟩ := cop_or (RX := RX) (W := W) c.px c.hu h1
  have pa := (ha.e X W N sc x c h3).pe
  have pb := (hb.e X W N sc y c h4).pe
  exact ⟨de_cmp o1 o2 pa pb (marks_of h2 p), dt_cmp o1 o2 pa pb (marks_of h2 p), fun ⟨_, _, _, z⟩ => (nomatch z), fun z => nomatch z⟩) (fun _ _ _ => rfl) (fun _ _ _ _ => rfl)
theorem ok_isn {a : ME} (ha : Ok fs Γ G RX n a) : Ok fs Γ G RX n (.isn a) := .of (fun X W N sc e c h => by
  obtain ⟨⟨x, p, y⟩, hx, h⟩ := oB_of h
  obtain ⟨q, rfl⟩ := asCmp_of hx
  obtain ⟨h1, h3⟩ := and4 h
  obtain ⟨h1, h2⟩ := and4 h1
  obtain rfl : p = .Is := of_decide_eq_true h1
  obtain ⟨j, q2, rfl⟩ := asNon_of h2
  have pa := (ha.e X W N sc x c h3).pe
  exact ⟨de_isn pa, dt_isn pa, fun ⟨_, _, _, z⟩ => (nomatch z), fun z => nomatch z⟩) (fun _ _ _ => rfl) (fun _ _ _ _ => rfl)
theorem ok_notn {a : ME} (ha : Ok fs Γ G RX n a) : Ok fs Γ G RX n (.notn a) := .of (fun X W N sc e c h => by
  obtain ⟨⟨x, p, y⟩, hx, h⟩ := oB_of h
  obtain ⟨q, rfl⟩ := asCmp_of hx
  obtain ⟨h1, h3⟩ := and4 h
  obtain ⟨h1, h2⟩ := and4 h1
  obtain rfl : p = .IsNot := of_decide_eq_true h1
  obtain ⟨j, q2, rfl⟩ := asNon_of h2
  have pa := (ha.e X W N sc x c h3).pe
  exact ⟨de_notn pa, dt_notn pa, fun ⟨_, _, _, z⟩ => (nomatch z), fun z => nomatch z⟩) (fun _ _ _ => rfl) (fun _ _ _ _ => rfl)
theorem lastMarks_of {e : Expr} (h : okX e = true) (y : Expr) (p1 p2 : CmpOp) : lastMarks [p1, p2] [y, e] = false := marks_of h p2
theorem ok_chain {o1 o2 : Cop} {a b d : ME} (ha : Ok fs Γ G RX n a) (hb : Ok fs Γ G RX n b) (hd : Ok fs Γ G RX n d) : Ok fs Γ G RX n (.chain o1 o2 a b d) := .of (fun X W N sc e c h => by
  obtain ⟨⟨x, p1, y, p2, z⟩, hx, h⟩ := oB_of h
  obtain ⟨q, rfl⟩ := asChain_of hx
  obtain ⟨h1, h6⟩ := and4 h
  obtain ⟨h1, h5⟩ := and4 h1
  obtain ⟨h1, h4⟩ := and4 h1
  obtain ⟨h1, h3⟩ := and4 h1
  obtain ⟨h1, h2⟩ := and4 h1
  obtain ⟨r, k1, k2⟩ := cop_or (RX := RX) (W := W) c.px c.hu h1
  obtain ⟨r', k1', k2'⟩ := cop_or (RX := RX) (W := W) c.px c.hu h2
  have pa := (ha.e X W N sc x c h4).pe
  have pb := (hb.e X W N sc y c h5).pe
  have pd := (hd.e X W N sc z c h6).pe
  exact ⟨de_chain k1 k1' k2 k2' pa pb pd (lastMarks_of h3 _ _ _), dt_chain k1 k1' k2 k2' pa pb pd (lastMarks_of h3 _ _ _), fun ⟨_, _, _, z⟩ => (nomatch z), fun z => nomatch z⟩) (fun _ _ _ => rfl) (fun _ _ _ _ => rfl)
theorem ok_ix {a b : ME} (ha : Ok fs Γ G RX n a) (hb : Ok fs Γ G RX n b) : Ok fs Γ G RX n (.ix a b) := .of (fun X W N sc e c h => by
  obtain ⟨⟨x, y⟩, hx, h⟩ := oB_of h
  obtain ⟨q, rfl⟩ := asSub_of hx
  obtain ⟨h1, h3⟩ := and4 h
  obtain ⟨h1, h2⟩ := and4 h1
  have pa := (ha.e X W N sc x c h2).pe
  have pb := (hb.e X W N sc y c h3).pe
  exact .of (de_ix c.px c.hu pa pb (plainIx_of h1)) (fun _ => rfl) (fun _ _ _ z => nomatch z) fun z => nomatch z) (fun _ _ _ => rfl) (fun _ _ _ _ => rfl)
theorem po_of {X : Cx} {W : WX} {N : List Str} {sc : Scope} {m : ME} {o : Option Expr} (c : Ctx fs Γ G RX n N sc X W) (hm : Ok fs Γ G RX n m) (h : (match o with
    | none => isNil m
    | some x => chkE fs m 0 N sc x) = true) : PO X o (tOo X.K RX W fun ρ => loOf m (ev Γ G m ρ)) := by
  cases o with
  | none =>
    cases m <;> first | (cases h; done) | exact do_none
  | some x =>
    have h : chkE fs m 0 N sc x = true := h
    have p := (hm.e X W N sc x c h).pe
    have e : (fun ρ => loOf m (ev Γ G m ρ)) = fun ρ => ev Γ G m ρ >>= loD := by
      funext ρ
      cases m <;> first | (cases h; done) | rfl
    rw [e]
    exact do_some p
theorem ok_sl {a lo hi : ME} (ha : Ok fs Γ G RX n a) (hl : Ok fs Γ G RX n lo) (hh : Ok fs Γ G RX n hi) : Ok fs Γ G RX n (.sl a lo hi) := .of (fun X W N sc e c h => by
  obtain ⟨⟨x, y⟩, hx, h⟩ := oB_of h
  obtain ⟨q, rfl⟩ := asSub_of hx
  obtain ⟨h1, h2⟩ := and4 h
  obtain ⟨⟨l, u⟩, hy, h2⟩ := oB_of h2
  obtain ⟨q2, rfl⟩ := asSlice_of hy
  obtain ⟨h2, h3⟩ := and4 h2
  have pa := (ha.e X W N sc x c h1).pe
  exact .of (de_sl pa (po_of c hl h2) (po_of c hh h3)) (fun _ => rfl) (fun _ _ _ z => nomatch z) fun _ => df_sl pa (po_of c hl h2) (po_of c hh h3)) (fun _ _ _ => rfl) (fun _ _ _ _ => rfl)
/-! ### walks -/
theorem ok_rng1 {a : ME} (ha : Ok fs Γ G RX n a) : Ok fs Γ G RX n (.rng1 a) where
  e := fun X W N sc e c h => nomatch h
  l := fun X W N sc es c h => nomatch h
  i := fun X W N sc tg e mo c _ h => by
    obtain ⟨h0, h⟩ := and4 h
    obtain ⟨⟨x, xs⟩, hx, h⟩ := oB_of h
    obtain ⟨p, q, rfl⟩ := asCallN_of hx
    obtain ⟨h1, h3⟩ := and4 h
    obtain ⟨h1, h2⟩ := and4 h1
    obtain ⟨y, hy, k⟩ := oB_of h3
    obtain rfl : xs = [y] := one_of hy
    obtain ⟨k3, h4⟩ := and4 k
    obtain rfl : x = "range" := of_decide_eq_true h1
    have P := di_rng1 (tg := tg) (p := p) (pos := q) (c.gl h2) (c.blt "range" (by decide)) (ha.e X W N sc y c h4).pe (star1 k3 _)
    refine PIimp P fun σ H R ⟨A, ρ, r, z⟩ => ⟨A, ρ, r, ?_⟩
    have e : (ev Γ G (.rng1 a) ρ >>= itD) = (ev Γ G a ρ >>= fun x => intD x >>= fun n => must (decide (-1000000000 ≤ n) && decide (n ≤ SZ)) (.ok (rangeD 0 n))) := by
      show ((ev Γ G a ρ >>= fun x => intD x >>= fun n => must (decide (-1000000000 ≤ n) && decide (n ≤ SZ)) (.ok (.itr (rangeD 0 n)))) >>= itD) = _
      rw [res_assoc]
      congr 1
      funext x
      rw [res_assoc]
      congr 1
      funext k
      cases (decide (-1000000000 ≤ k) && decide (k ≤ (SZ : Int))) <;> rfl
    exact (congrArg (fun w => Out RX W (relI X.K A) w σ H R) e).mp z
theorem ok_rng2 {a b : ME} (ha : Ok fs Γ G RX n a) (hb : Ok fs Γ G RX n b) : Ok fs Γ G RX n (.rng2 a b) where
  e := fun X W N sc e c h => nomatch h
  l := fun X W N sc es c h => nomatch h
  i := fun X W N sc tg e mo c _ h => by
    obtain ⟨h0, h⟩ := and4 h
    obtain ⟨⟨x, xs⟩, hx, h⟩ := oB_of h
    obtain ⟨p, q, rfl⟩ := asCallN_of hx
    obtain ⟨h1, h3⟩ := and4 h
    obtain ⟨h1, h2⟩ := and4 h1
    obtain ⟨⟨y, y2⟩, hy, k⟩ := oB_of h3
    obtain rfl : xs = [y, y2] := two_of hy
    obtain ⟨k, h6⟩ := and4 k
    obtain ⟨k, h5⟩ := and4 k
    obtain ⟨k3, k4⟩ := and4 k
    obtain rfl : x = "range" := of_decide_eq_true h1
    have P := di_rng2 (tg := tg) (p := p) (pos := q) (c.gl h2) (c.blt "range" (by decide)) (ha.e X W N sc y c h5).pe (hb.e X W N sc y2 c h6).pe (by rw [star_of k3, star1 k4]) (star1 k4 _)
    refine PIimp P fun σ H R ⟨A, ρ, r, z⟩ => ⟨A, ρ, r, ?_⟩
    have e : (ev Γ G (.rng2 a b) ρ >>= itD) = (ev Γ G a ρ >>= fun x => intD x >>= fun lo => ev Γ G b ρ >>= fun y => intD y >>= fun n => must (decide (-1000000000 ≤ lo) && decide (lo ≤ 1000000000) && decide (-1000000000 ≤ n) && decide (n ≤ 1000000000) && decide ((n - lo).toNat ≤ SZ)) (.ok (rangeD lo n))) := by
      show ((ev Γ G a ρ >>= fun x => intD x >>= fun lo => ev Γ G b ρ >>= fun y => intD y >>= fun n => must (decide (-1000000000 ≤ lo) && decide (lo ≤ 1000000000) && decide (-1000000000 ≤ n) && decide (n ≤ 1000000000) && decide ((n - lo).toNat ≤ SZ)) (.ok (.itr (rangeD lo n)))) >>= itD) = _
      simp only [res_assoc]
      congr 1
      funext x
      congr 1
      funext lo
      congr 1
      funext y
      congr 1
      funext k
      cases (decide (-1000000000 ≤ lo) && decide (lo ≤ 1000000000) && decide (-1000000000 ≤ k) && decide (k ≤ 1000000000) && decide ((k - lo).toNat ≤ SZ)) <;> rfl
    exact (congrArg (fun w => Out RX W (relI X.K A) w σ H R) e).mp z
theorem ok_enum {a : ME} (ha : Ok fs Γ G RX n a) : Ok fs Γ G RX n (.enum a) where
  e := fun X W N sc e c h => nomatch h
  l := fun X W N sc es c h => nomatch h
  i := fun X W N sc tg e mo c ht h => by
    obtain ⟨h0, h⟩ := and4 h
    obtain ⟨⟨x, xs⟩, hx, h⟩ := oB_of h
    obtain ⟨p, q, rfl⟩ := asCallN_of hx
    obtain ⟨h1, h3⟩ := and4 h
    obtain ⟨h1, h2⟩ := and4 h1
    obtain ⟨y, hy, k⟩ := oB_of h3
    obtain rfl : xs = [y] := one_of hy
    obtain ⟨k3, h4⟩ := and4 k
    obtain rfl : x = "enumerate" := of_decide_eq_true h1
    have ht := ht (of_decide_eq_true h0)
    cases tg with
    | Tuple elts kk tpos =>
      have P := di_enum (elts := elts) (kk := kk) (tpos := tpos) (p := p) (pos := q) (c.gl h2) (c.blt "enumerate" (by decide)) (ha.e X W N sc y c h4).pe (star1 k3 _)
      refine PIimp P fun σ H R ⟨A, ρ, r, z⟩ => ⟨A, ρ, r, ?_⟩
      have e : (ev Γ G (.enum a) ρ >>= itD) = (ev Γ G a ρ >>= fun x => must (isSeq x) (itD x >>= fun xs => .ok (enumD 0 xs))) := by
        show ((ev Γ G a ρ >>= fun x => must (isSeq x) (itD x >>= fun xs => .ok (.itr (enumD 0 xs)))) >>= itD) = _
        rw [res_assoc]
        congr 1
        funext x
        cases isSeq x
        · rfl
        · show ((itD x >>= fun xs => .ok (.itr (enumD 0 xs))) >>= itD) = _
          rw [res_assoc]
          rfl
      exact (congrArg (fun w => Out RX W (relI X.K A) w σ H R) e).mp z
    | _ => cases ht
theorem ok_zip {a b : ME} (ha : Ok fs Γ G RX n a) (hb : Ok fs Γ G RX n b) : Ok fs Γ G RX n (.zip a b) where
  e := fun X W N sc e c h => nomatch h
  l := fun X W N sc es c h => nomatch h
  i := fun X W N sc tg e mo c ht h => by
    obtain ⟨h0, h⟩ := and4 h
    obtain ⟨⟨x, xs⟩, hx, h⟩ := oB_of h
    obtain ⟨p, q, rfl⟩ := asCallN_of hx
    obtain ⟨h1, h3⟩ := and4 h
    obtain ⟨h1, h2⟩ := and4 h1
    obtain ⟨⟨y, y2⟩, hy, k⟩ := oB_of h3
    obtain rfl : xs = [y, y2] := two_of hy
    obtain ⟨k, h6⟩ := and4 k
    obtain ⟨k, h5⟩ := and4 k
    obtain ⟨k3, k4⟩ := and4 k
    obtain rfl : x = "zip" := of_decide_eq_true h1
    have ht := ht (of_decide_eq_true h0)
    cases tg with
    | Tuple elts kk tpos =>
      have P := di_zip (elts := elts) (kk := kk) (tpos := tpos) (p := p) (pos := q) (c.gl h2) (c.blt "zip" (by decide)) (ha.e X W N sc y c h5).pe (hb.e X W N sc y2 c h6).pe (star_of k3 _ _) (star1 k4 _)
      refine PIimp P fun σ H R ⟨A, ρ, r, z⟩ => ⟨A, ρ, r, ?_⟩
      have e : (ev Γ G (.zip a b) ρ >>= itD) = (ev Γ G a ρ >>= fun x => ev Γ G b ρ >>= fun y => must (isSeq x && isSeq y) (itD x >>= fun xs => itD y >>= fun ys => .ok (zipD xs ys))) := by
        show ((ev Γ G a ρ >>= fun x => ev Γ G b ρ >>= fun y => must (isSeq x && isSeq y) (itD x >>= fun xs => itD y >>= fun ys => .ok (.itr (zipD xs ys)))) >>= itD) = _
        rw [res_assoc]
        congr 1
        funext x
        rw [res_assoc]
        congr 1
        funext y
        cases isSeq x && isSeq y
        · rfl
        · show ((itD x >>= fun xs => itD y >>= fun ys => .ok (.itr (zipD xs ys))) >>= itD) = _
          rw [res_assoc]
          show (itD x >>= fun xs => (itD y >>= fun ys => .ok (.itr (zipD xs ys))) >>= itD) = _
          congr 1
          funext xs
          rw [res_assoc]
          rfl
      exact (congrArg (fun w => Out RX W (relI X.K A) w σ H R) e).mp z
    | _ => cases ht
/-! ### a tuple whose object is known; list(zip(a, b)) -/
theorem pe_tupP {X : Cx} {t : TA} {es : List Expr} {k : Nat} {pos : Pos} (h : PA X es t) : PE X (.Tuple es k pos) (fun σ H Q => t σ H fun xs H1 => xs.length ≤ sizeLine ∧ ∀ p o, H1 p = none → o.dict = none → Q (.ref p) (upd H1 p (.frz o (.tup xs)))) := by
  refine ⟨fun pins s σ H Q I hq => ?_⟩
  refine wpAny_Tuple_spliced (thn (h.run pos pins s σ H _ I hq) fun us s1 ⟨xs, H1, I1, r, z, q⟩ => ⟨by rw [← r.length]; exact z, ?_⟩)
  have hf : H1 s1.heap.objs.size = none := I1.hok.fresh (Nat.le_refl _)
  exact ⟨.ref s1.heap.objs.size, _, I1.laid (o := .frz { cls := .type "tuple", data := .seq us.toArray } (.tup xs)) (t' := s1.toks) (fun b u e => Heap.get?_push_of_some _ e) (Nat.le_refl _) ⟨Heap.get?_push_size _ rfl, z, us, r, IsTup.new _ _⟩, rfl, q _ _ hf rfl⟩
theorem ok_itup {es : ME} (h0 : Ok fs Γ G RX n es) : Ok fs Γ G RX n (.itup es) := .of (fun X W N sc e c h => by
  obtain ⟨xs, hx, h⟩ := oB_of h
  obtain ⟨j, p, rfl⟩ := asTup_of hx
  obtain ⟨h1, h2⟩ := and4 h
  obtain ⟨p1, p2, _⟩ := h0.l X W N sc xs c h1
  have pe : PE X (.Tuple xs j p) (tE X.K RX W (ev Γ G (.itup es))) := by
    refine PEimp (pe_tupP p1) fun σ H Q ⟨A, ρ, r, h⟩ => ?_
    have h : Out RX W (relE X.K A) (evs Γ G es ρ >>= fun ds => Res.ok (D.itr ds)) σ H Q := h
    refine ⟨A, ρ, r, h.bind fun ds vs H1 eq e1 q1 h1 => ?_⟩
    have hz : vs.length ≤ SZ := by rw [q1.length, p2 ρ ds eq]; exact of_decide_eq_true h2
    refine ⟨SZ_eq ▸ hz, fun q o hq ho => ?_⟩
    have e2 : Same H1 (upd H1 q (.frz o (.tup vs))) := same_upd hq
    refine h1.ok e2 (.ptp ?_ ho hz (Reps.up (hid_up e2) ds vs q1))
    rw [hid_out ((r.live.up e1).new hq), upd_same]
  exact .of pe (fun _ => rfl) (fun _ _ _ q => nomatch q) (fun q => nomatch q)) (fun _ _ _ => rfl) (fun _ _ _ _ => rfl)
theorem ok_lzip {a b : ME} (ha : Ok fs Γ G RX n a) (hb : Ok fs Γ G RX n b) : Ok fs Γ G RX n (.lzip a b) := .of (fun X W N sc e c h => by
  obtain ⟨⟨x, xs⟩, hx, h⟩ := oB_of h
  obtain ⟨p, q, rfl⟩ := asCallN_of hx
  obtain ⟨h1, h3⟩ := and4 h
  obtain ⟨h1, h2⟩ := and4 h1
  obtain ⟨z, hz, h4⟩ := oB_of h3
  obtain rfl : xs = [z] := one_of hz
  obtain ⟨⟨u, us⟩, hu, h5⟩ := oB_of h4
  obtain ⟨p2, q2, rfl⟩ := asCallN_of hu
  obtain ⟨k1, k⟩ := and4 h5
  obtain ⟨k1, k2⟩ := and4 k1
  obtain ⟨⟨y, y2⟩, hy, k⟩ := oB_of k
  obtain rfl : us = [y, y2] := two_of hy
  obtain ⟨k, h8⟩ := and4 k
  obtain ⟨k, h7⟩ := and4 k
  obtain ⟨k3, k4⟩ := and4 k
  obtain rfl : x = "list" := of_decide_eq_true h1
  obtain rfl : u = "zip" := of_decide_eq_true k1
  exact .of (de_lzip c.calm (c.gl h2) (c.blt "list" (by decide)) (c.gl k2) (c.blt "zip" (by decide)) (ha.e X W N sc y c h7).pe (hb.e X W N sc y2 c h8).pe (star_of k3 _ _) (star1 k4 _)) (fun _ => rfl) (fun _ _ _ z => nomatch z) fun z => nomatch z) (fun _ _ _ => rfl) (fun _ _ _ _ => rfl)
/-! ### built-ins -/
theorem list_eq {a : ME} (ρ : EnvD) : ev Γ G (.b1 .list a) ρ = ((ev Γ G a ρ >>= seqD) >>= fun ds => .ok (.lst ds)) := by
  show (ev Γ G a ρ >>= b1D .list) = _
  rw [res_assoc]
  congr 1
  funext d
  cases d <;> rfl
theorem setX_of {a : ME} {x : Str} {xs : List Expr} {n : String} {N : List Str} {sc : Scope} (h : (decide (x = Str.ofString n) && oB (one xs) fun y => oB (asCallN y) fun r => decide (r.1 = "set") && glB sc r.1 && oB (one r.2) fun z => okX z && chkE fs a 0 N sc z) = true) :
    ∃ (y z : Expr) (p2 q2 : Pos), x = Str.ofString n ∧ xs = [.Call (.Name "set" p2) [z] [] q2] ∧ glB sc "set" = true ∧ okX z = true ∧ chkE fs a 0 N sc z = true := by
  obtain ⟨h1, h⟩ := and4 h
  obtain ⟨y, hy, h⟩ := oB_of h
  obtain ⟨⟨s, ys⟩, hs, h⟩ := oB_of h
  obtain ⟨p2, q2, rfl⟩ := asCallN_of hs
  obtain ⟨h2, h⟩ := and4 h
  obtain ⟨h2, h3⟩ := and4 h2
  obtain ⟨z, hz, h⟩ := oB_of h
  obtain ⟨h4, h5⟩ := and4 h
  obtain rfl : s = "set" := of_decide_eq_true h2
  obtain rfl : ys = [z] := one_of hz
  exact ⟨z, z, p2, q2, of_decide_eq_true h1, one_of hy, h3, h4, h5⟩
theorem cd_ptup {K : PySem.W.Frag} {RX : RXT} {W : WX} : CalD K RX W (b1D .ptup) (fun xs H Q => ∃ p ys, xs = [.ref p] ∧ SqL K H p ys ∧ ys.length ≤ SZ ∧ ∀ l o, H l = none → o.dict = none → Q (.ref l) (upd H l (.frz o (.tup ys)))) := by
  intro A σ H x a Q live hx h
  cases hx with
  | @lst p vs ds hp hz hr =>
    refine ⟨p, vs, rfl, SqL.of (hid_same A H _ _ hp), hz, fun l o hl ho => ?_⟩
    have e : Same H (upd H l (.frz o (.tup vs))) := same_upd hl
    refine h.ok e (.ptp ?_ ho hz (Reps.up (hid_up e) _ _ hr))
    rw [hid_out (live.new hl), upd_same]
  | _ => exact h.elim
theorem ok_b1 {f : B1} {a : ME} (ha : Ok fs Γ G RX n a) : Ok fs Γ G RX n (.b1 f a) := .of (fun X W N sc e c h => by
  by_cases fr : f = .rev
  · subst fr
    obtain ⟨x, hx, h⟩ := oB_of (show oB (asRev e) (fun x => chkE fs a 0 N sc x) = true from h)
    obtain ⟨k, p1, p2, p3, pos, rfl⟩ := asRev_of hx
    exact .of (de_rev (ha.e X W N sc x c h).pe) (fun _ => rfl) (fun _ _ _ z => nomatch z) fun z => nomatch z
  by_cases fi : f = .sitems
  · subst fi
    obtain ⟨⟨x, xs⟩, hx, h⟩ := oB_of (show oB (asCallN e) (fun q => glB sc q.1 && decide (q.1 = "sorted") && oB (one q.2) fun y => oB (asMeth y) fun r => decide (r.2.1 = "items") && notCall0 r.1 && (r.2.2.1.endLine == r.2.2.2.2.line) && r.2.2.2.1.isEmpty && chkE fs a 0 N sc r.1) = true from h)
    obtain ⟨p, q, rfl⟩ := asCallN_of hx
    obtain ⟨h0, h⟩ := and4 h
    obtain ⟨h0, h1⟩ := and4 h0
    obtain ⟨y, hy, h⟩ := oB_of h
    obtain ⟨⟨o, m, apos, ys, cpos⟩, hm, h⟩ := oB_of h
    obtain rfl := asMeth_of hm
    obtain ⟨h, h6⟩ := and4 h
    obtain ⟨h, h5⟩ := and4 h
    obtain ⟨h, h4⟩ := and4 h
    obtain ⟨h2, h3⟩ := and4 h
    obtain rfl : xs = [.Call (.Attribute o m apos) ys [] cpos] := one_of hy
    obtain rfl : ys = [] := List.isEmpty_iff.mp h5
    obtain rfl : m = "items" := of_decide_eq_true h2
    obtain rfl : x = "sorted" := of_decide_eq_true h1
    exact .of (de_sitems c.calm c.hu (c.gl h0) (c.blt "sorted" (by decide)) (ha.e X W N sc o c h6).pe (base_of h3 _ _) h4) (fun _ => rfl) (fun _ _ _ z => nomatch z) fun z => nomatch z
  have hs : spB f = 0 := by cases f <;> first | rfl | exact absurd rfl fr | exact absurd rfl fi
  unfold chkE at h
  rw [hs] at h
  try dsimp only at h
  obtain ⟨⟨x, xs⟩, hx, h⟩ := oB_of h
  obtain ⟨p, q, rfl⟩ := asCallN_of hx
  obtain ⟨h0, h⟩ := and4 h
  have fin : PE X (.Call (.Name x p) xs [] q) (tE X.K RX W (ev Γ G (.b1 f a))) → f ≠ .list → Ans Γ G RX X W (.b1 f a) (.Call (.Name x p) xs [] q) :=
    fun pe hf => .of pe (fun _ => rfl) (fun _ _ _ z => nomatch z) fun z => by cases f <;> first | exact absurd rfl hf | cases z
  have byT : ∀ {n0 T : String}, overSet f = none → tyOfB1 f = some (n0, T) → isF f = some T → n0 = "isinstance" → Str.ofString T ≠ "__name__" → bootBuiltins (Str.ofString T) = some (.type T) → (Str.ofString T == ("__debug__" : Str)) = false → T ∈ bltNames → f ≠ .list → Ans Γ G RX X W (.b1 f a) (.Call (.Name x p) xs [] q) := by
    intro n0 T e0 e1 e2 e3 e4 e5 e6 e7 e8
    rw [e0] at h
    dsimp only at h
    rw [e1] at h
    obtain ⟨h1, h⟩ := and4 h
    obtain ⟨⟨y, z⟩, hy, h⟩ := oB_of h
    obtain rfl : xs = [y, z] := two_of hy
    obtain ⟨h2, h⟩ := and4 h
    obtain ⟨h2, h3⟩ := and4 h2
    obtain ⟨z', hz, h⟩ := oB_of h
    obtain ⟨p2, rfl⟩ := asName_of hz
    obtain ⟨h4, h5⟩ := and4 h
    obtain rfl : x = Str.ofString n0 := of_decide_eq_true h1
    obtain rfl : z' = Str.ofString T := of_decide_eq_true h4
    subst e3
    exact fin (de_isi e2 (c.gl h0) (c.blt "isinstance" (by decide)) boot_isinstance (ha.e X W N sc y c h3).pe (by decide) (by decide) (c.gl h5) (c.blt T e7) e5 e4 e6 (star_of h2 _ _) rfl) e8
  have byN : ∀ {nm : String}, overSet f = none → tyOfB1 f = none → nameB1 f = nm → (∀ y, xs = [y] → x = Str.ofString nm → okX y = true → PE X y (tE X.K RX W (ev Γ G a)) → Ans Γ G RX X W (.b1 f a) (.Call (.Name x p) xs [] q)) → Ans Γ G RX X W (.b1 f a) (.Call (.Name x p) xs [] q) := by
    intro nm e0 e1 e2 k
    rw [e0] at h
    dsimp only at h
    rw [e1] at h
    obtain ⟨h1, h⟩ := and4 h
    obtain ⟨y, hy, h⟩ := oB_of h
    obtain ⟨h2, h3⟩ := and4 h
    exact k y (one_of hy) (by rw [← e2]; exact of_decide_eq_true h1) h2 (ha.e X W N sc y c h3).pe
  cases f with
  | rev => exact absurd rfl fr
  | sitems => exact absurd rfl fi
  | isstr => exact byT rfl rfl rfl rfl (by decide) boot_str (by decide) (by decide) (by decide)
  | isint => exact byT rfl rfl rfl rfl (by decide) boot_int (by decide) (by decide) (by decide)
  | isbool => exact byT rfl rfl rfl rfl (by decide) boot_bool (by decide) (by decide) (by decide)
  | istuple => exact byT rfl rfl rfl rfl (by decide) boot_tuple (by decide) (by decide) (by decide)
  | len => exact byN rfl rfl rfl fun y e1 e2 e3 py => by subst e1 e2; exact fin (de_callB (CallR.or call_lenR (call_lenDic c.px)) cd_len (c.gl h0) (c.blt "len" (by decide)) PySem.boot_len py (by decide) (by decide) (star_of e3 _ _)) (by decide)
  | tuple => exact byN rfl rfl rfl fun y e1 e2 e3 py => by subst e1 e2; exact fin (de_callTy call_tuple_of cd_tuple (c.gl h0) (c.blt "tuple" (by decide)) boot_tuple py (by decide) (by decide) (star_of e3 _ _)) (by decide)
  | ptup => exact byN rfl rfl rfl fun y e1 e2 e3 py => by subst e1 e2; exact fin (de_callTy call_ptup cd_ptup (c.gl h0) (c.blt "tuple" (by decide)) boot_tuple py (by decide) (by decide) (star_of e3 _ _)) (by decide)
  | int => exact byN rfl rfl rfl fun y e1 e2 e3 py => by subst e1 e2; exact fin (de_callTy call_int1 cd_int (c.gl h0) (c.blt "int" (by decide)) boot_int py (by decide) (by decide) (star_of e3 _ _)) (by decide)
  | str => exact byN rfl rfl rfl fun y e1 e2 e3 py => by subst e1 e2; exact fin (de_callTy call_strR cd_str (c.gl h0) (c.blt "str" (by decide)) boot_str py (by decide) (by decide) (star_of e3 _ _)) (by decide)
  | all => exact byN rfl rfl rfl fun y e1 e2 e3 py => by subst e1 e2; exact fin (de_callB (cr_all c.calm) cd_all (c.gl h0) (c.blt "all" (by decide)) (by decide +kernel) py (by decide) (by decide) (star_of e3 _ _)) (by decide)
  | any => exact byN rfl rfl rfl fun y e1 e2 e3 py => by subst e1 e2; exact fin (de_callB (cr_any c.calm) cd_any (c.gl h0) (c.blt "any" (by decide)) (by decide +kernel) py (by decide) (by decide) (star_of e3 _ _)) (by decide)
  | min => exact byN rfl rfl rfl fun y e1 e2 e3 py => by subst e1 e2; exact fin (de_callB (cr_min c.calm) cd_min (c.gl h0) (c.blt "min" (by decide)) (by decide +kernel) py (by decide) (by decide) (star_of e3 _ _)) (by decide)
  | max => exact byN rfl rfl rfl fun y e1 e2 e3 py => by subst e1 e2; exact fin (de_callB (cr_max c.calm) cd_max (c.gl h0) (c.blt "max" (by decide)) (by decide +kernel) py (by decide) (by decide) (star_of e3 _ _)) (by decide)
  | sorted => exact byN rfl rfl rfl fun y e1 e2 e3 py => by subst e1 e2; exact fin (de_callB (CallR.or (cr_sortedD c.hu) (cr_sortDic c.px c.calm c.hu)) cd_sorted (c.gl h0) (c.blt "sorted" (by decide)) (by decide +kernel) py (by decide) (by decide) (star_of e3 _ _)) (by decide)
  | list => exact byN rfl rfl rfl fun y e1 e2 e3 py => by subst e1 e2; exact .ofF (g := fun ρ => ev Γ G a ρ >>= seqD) (df_list (c.gl h0) (c.blt "list" (by decide)) boot_list py (by decide) (by decide) (star_of e3 _ _)) list_eq (fun _ => rfl) (fun _ _ _ z => nomatch z)
  | ord => exact byN rfl rfl rfl fun y e1 e2 e3 py => by subst e1 e2; exact fin (de_callB call_ord cd_ord (c.gl h0) (c.blt "ord" (by decide)) (by decide +kernel) py (by decide) (by decide) (star_of e3 _ _)) (by decide)
  | sum => exact byN rfl rfl rfl fun y e1 e2 e3 py => by subst e1 e2; exact fin (de_callB (cr_sum c.calm) cd_sum (c.gl h0) (c.blt "sum" (by decide)) (by decide +kernel) py (by decide) (by decide) (star_of e3 _ _)) (by decide)
  | dictT => exact byN rfl rfl rfl fun y e1 e2 e3 py => by subst e1 e2; exact fin (de_of_do (do_dictL (t := true) c.px c.calm c.hu rfl (c.gl h0) (c.blt "dict" (by decide)) (by decide +kernel) py (by decide) (by decide) (star_of e3 _ _))) (by decide)
  | dictS => exact byN rfl rfl rfl fun y e1 e2 e3 py => by subst e1 e2; exact fin (de_of_do (do_dictL (t := false) c.px c.calm c.hu rfl (c.gl h0) (c.blt "dict" (by decide)) (by decide +kernel) py (by decide) (by decide) (star_of e3 _ _))) (by decide)
  | lset =>
    obtain ⟨y, z, p2, q2, e1, e2, k1, k2, k3⟩ := setX_of (n := "len") h
    subst e1 e2
    exact fin (de_lset c.calm (c.gl h0) (c.blt "len" (by decide)) (c.gl k1) (c.blt "set" (by decide)) (ha.e X W N sc z c k3).pe (star_of k2 _ _)) (by decide)
  | sset =>
    obtain ⟨y, z, p2, q2, e1, e2, k1, k2, k3⟩ := setX_of (n := "sorted") h
    subst e1 e2
    exact fin (de_sset c.calm c.hu (c.gl h0) (c.blt "sorted" (by decide)) (c.gl k1) (c.blt "set" (by decide)) (ha.e X W N sc z c k3).pe (star_of k2 _ _)) (by decide)) (fun _ _ _ => rfl) (fun _ _ _ _ => rfl)
theorem ok_b2 {f : B2} {a b : ME} (ha : Ok fs Γ G RX n a) (hb : Ok fs Γ G RX n b) : Ok fs Γ G RX n (.b2 f a b) := .of (fun X W N sc e c h => by
  obtain ⟨⟨o, m, apos, xs, pos⟩, hx, h⟩ := oB_of h
  obtain rfl := asMeth_of hx
  obtain ⟨h, h5⟩ := and4 h
  obtain ⟨h, h4⟩ := and4 h
  obtain ⟨h, h3⟩ := and4 h
  obtain ⟨h1, h2⟩ := and4 h
  obtain ⟨y, hy, k⟩ := oB_of h5
  obtain rfl : xs = [y] := one_of hy
  obtain ⟨k5, h6⟩ := and4 k
  have po := (ha.e X W N sc o c h4).pe
  have pa := (hb.e X W N sc y c h6).pe
  have h1 : m = Str.ofString (nameB2 f) := of_decide_eq_true h1
  subst h1
  refine .of ?_ (fun _ => rfl) (fun _ _ _ z => nomatch z) fun z => nomatch z
  cases f with
  | join => exact de_join po pa (star1 k5 _) (base_of h2 _ _) h3
  | index =>
    refine de_index c.hu po pa (star1 k5 _) (base_of h2 _ _) h3 ?_
    rw [star1 k5]
    rfl
  | zfill =>
    refine de_zfill po pa (star1 k5 _) (base_of h2 _ _) h3 ?_
    rw [star1 k5]
    rfl
  | count =>
    refine de_count c.hu po pa (star1 k5 _) (base_of h2 _ _) h3 ?_
    rw [star1 k5]
    rfl) (fun _ _ _ => rfl) (fun _ _ _ _ => rfl)
/-! ### dicts -/
theorem ok_dnew {t : Bool} : Ok fs Γ G RX n (.dnew t) := .of (fun X W N sc e c h => by
  obtain ⟨⟨ks, vs⟩, hx, h⟩ := oB_of h
  obtain ⟨p, rfl⟩ := asDict_of hx
  obtain ⟨h1, h2⟩ := and4 h
  obtain rfl : ks = [] := List.isEmpty_iff.mp h1
  obtain rfl : vs = [] := List.isEmpty_iff.mp h2
  have pe : PE X (.Dict [] [] p) (tE X.K RX W (ev Γ G (.dnew t))) := de_of_do (do_dnew c.px)
  exact .of pe (fun _ => rfl) (fun _ _ _ z => nomatch z) fun z => nomatch z) (fun _ _ _ => rfl) (fun _ _ _ _ => rfl)
theorem ok_dlit {ks : List String} {vs : List Int} : Ok fs Γ G RX n (.dlit ks vs) := .of (fun X W N sc e c h => by
  obtain ⟨⟨es, xs⟩, hx, h⟩ := oB_of h
  obtain ⟨p, rfl⟩ := asDict_of hx
  obtain ⟨h1, h3⟩ := and4 h
  obtain ⟨h1, h2⟩ := and4 h1
  have pe : PE X (.Dict es xs p) (tE X.K RX W (ev Γ G (.dlit ks vs))) := de_dlit h1 (by intro z; rw [z] at h2; cases h2) (of_decide_eq_true h3)
  exact .of pe (fun _ => rfl) (fun _ _ _ z => nomatch z) fun z => nomatch z) (fun _ _ _ => rfl) (fun _ _ _ _ => rfl)
theorem ok_dsp1 {a b : ME} (ha : Ok fs Γ G RX n a) (hb : Ok fs Γ G RX n b) : Ok fs Γ G RX n (.dsp1 a b) := .of (fun X W N sc e c h => by
  obtain ⟨⟨es, xs⟩, hx, g⟩ := oB_of h
  obtain ⟨p, rfl⟩ := asDict_of hx
  obtain ⟨⟨k, v⟩, hy, g⟩ := oB_of g
  cases oneD_of hy
  obtain ⟨h1, h2⟩ := and4 g
  have pe : PE X (.Dict [some k] [v] p) (tE X.K RX W (ev Γ G (.dsp1 a b))) := de_of_do (do_dsp1 c.px c.hu (ha.e X W N sc k c h1).pe (hb.e X W N sc v c h2).pe)
  exact .of pe (fun _ => rfl) (fun _ _ _ z => nomatch z) fun z => nomatch z) (fun _ _ _ => rfl) (fun _ _ _ _ => rfl)
theorem ok_get2 {a k x : ME} (ha : Ok fs Γ G RX n a) (hk : Ok fs Γ G RX n k) (hx : Ok fs Γ G RX n x) : Ok fs Γ G RX n (.get2 a k x) := .of (fun X W N sc e c h => by
  obtain ⟨⟨o, m, apos, xs, pos⟩, hm, h⟩ := oB_of h
  obtain rfl := asMeth_of hm
  obtain ⟨h, h5⟩ := and4 h
  obtain ⟨h, h4⟩ := and4 h
  obtain ⟨h, h3⟩ := and4 h
  obtain ⟨h1, h2⟩ := and4 h
  obtain ⟨⟨y, z⟩, hy, k1⟩ := oB_of h5
  obtain rfl : xs = [y, z] := two_of hy
  obtain ⟨k1, k5⟩ := and4 k1
  obtain ⟨k1, k4⟩ := and4 k1
  obtain ⟨k2, k3⟩ := and4 k1
  have h1 : m = "get" := of_decide_eq_true h1
  subst h1
  have st : starEach [y, z] X.env = [(false, eval y X.env), (false, eval z X.env)] := by rw [star_of k2, star1 k3]
  have pe : PE X (.Call (.Attribute o "get" apos) [y, z] [] pos) (tE X.K RX W (ev Γ G (.get2 a k x))) := de_get2 c.px c.hu (ha.e X W N sc o c h4).pe (hk.e X W N sc y c k4).pe (hx.e X W N sc z c k5).pe ⟨base_of h2 _ _, by rw [st]; rfl, h3, by rw [st]; rfl⟩
  exact .of pe (fun _ => rfl) (fun _ _ _ z => nomatch z) fun z => nomatch z) (fun _ _ _ => rfl) (fun _ _ _ _ => rfl)
theorem ok_call {f : String} {es : ME} (h0 : Ok fs Γ G RX n es) : Ok fs Γ G RX n (.call f es) := .of (fun X W N sc e c h => by
  obtain ⟨⟨x, xs⟩, hx, h⟩ := oB_of h
  obtain ⟨p, q, rfl⟩ := asCallN_of hx
  obtain ⟨h, h5⟩ := and4 h
  obtain ⟨h, h4⟩ := and4 h
  obtain ⟨h, h3⟩ := and4 h
  obtain ⟨h, h2⟩ := and4 h
  obtain ⟨h0', h1⟩ := and4 h
  obtain rfl : x = Str.ofString f := of_decide_eq_true h1
  obtain ⟨p1, p2, p3⟩ := h0.l X W N sc xs c h5
  cases xs with
  | nil => cases h4
  | cons y ys =>
    exact .of (call_of c (of_decide_eq_true h0') h2 h3 (p3 y List.mem_cons_self) (hides (fun z hz => p3 z (List.mem_cons_of_mem _ hz)) _ _) p1) (fun _ => rfl) (fun _ _ _ z => nomatch z) fun z => nomatch z) (fun _ _ _ => rfl) (fun _ _ _ _ => rfl)
theorem ok_fcall {f : String} {es : ME} (h0 : Ok fs Γ G RX n es) : Ok fs Γ G RX n (.fcall f es) := .of (fun X W N sc e c h => by
  obtain ⟨⟨x, xs⟩, hx, h⟩ := oB_of h
  obtain ⟨p, q, rfl⟩ := asCallN_of hx
  obtain ⟨h, h5⟩ := and4 h
  obtain ⟨h, h4⟩ := and4 h
  obtain ⟨h, h3⟩ := and4 h
  obtain ⟨h, h2⟩ := and4 h
  obtain ⟨h0', h1⟩ := and4 h
  obtain rfl : x = Str.ofString f := of_decide_eq_true h1
  obtain ⟨p1, p2, p3⟩ := h0.l X W N sc xs c h5
  cases xs with
  | nil => cases h4
  | cons y ys =>
    have pf := call_ofN (pos := q) (p := p) c (of_decide_eq_true h0') h2 h3 (p3 y List.mem_cons_self) (hides (fun z hz => p3 z (List.mem_cons_of_mem _ hz)) _ _) p1
    have hg : ∀ ρ, ev Γ G (.fcall f es) ρ = (((evs Γ G es ρ >>= fun ds => Γ f ds) >>= lstD) >>= fun ds => .ok (.lst ds)) := fun ρ => by
      show (evs Γ G es ρ >>= fun ds => Γ f ds >>= fun d => lstD d >>= fun xs => Res.ok (D.lst xs)) = _
      rw [res_assoc, res_assoc]
    exact .ofF pf hg (fun _ => rfl) (fun _ _ _ z => nomatch z)) (fun _ _ _ => rfl) (fun _ _ _ _ => rfl)
theorem Ctx.lamB {N : List Str} {sc scope : Scope} {X : Cx} {W : WX} (c : Ctx fs Γ G RX n N sc X W) (L : LamX.LamS X.env.scope scope) (A : Around) (outer : List PySem.Env) (s : Shared) (H : Hp) (E : XK) (f c' : Addr) (hr : Room (lev n) (A.deeper (LamX.lamEnv X scope s.heap.objs.size f c'))) :
    Ctx { fs with lam := false } Γ G RX n N scope (LamX.lamCx X A outer s H E scope f c') (fun cls d _ H' => E cls d H') where
  hN := c.hN
  nd := c.nd
  sco := rfl
  kind := L.kind
  calm := rfl
  takes := takes_of rfl rfl rfl rfl
  room := hr
  lam := fun h => nomatch h
  rx := c.rx
  exc := c.exc
  told := c.told
  trs := c.trs
  fns := c.fns
  fnsN := c.fnsN
  blt := c.blt
  cons := c.cons
  px := ⟨c.px.p, c.px.w⟩
theorem ok_told {a : ME} (ha : Ok { fs with lam := false } Γ G RX n a) : Ok fs Γ G RX n (.told a) := .of (fun X W N sc e c h => by
  obtain ⟨⟨x, body, scope⟩, hx, h⟩ := oB_of h
  obtain ⟨p, lp, pos, rfl⟩ := asLam_of hx
  obtain ⟨h, h6⟩ := and4 h
  obtain ⟨h, h5⟩ := and4 h
  obtain ⟨h, h4⟩ := and4 h
  obtain ⟨h, h3⟩ := and4 h
  obtain ⟨h1, h2⟩ := and4 h
  obtain rfl := of_decide_eq_true h3
  have TP := c.told h1
  obtain ⟨g, fd, an, Ng, params, bg, sg, hm, FD, Sg, hb, tb⟩ := TP.d
  obtain ⟨oc, od, dV, kV, doc, pm, an', cdv, ct, osl, rfl, lk, hcd, _, _⟩ := FD.ex
  obtain ⟨hr, cc, P, TB, hcode, hmT, hu⟩ := c.lam h2
  have hN0 : Ng[0]? = some an := by
    have := Sg.pre
    cases Ng with
    | nil => cases this
    | cons y ys =>
      simp only [List.length_cons, List.length_nil, Nat.zero_add, List.take_succ_cons, List.take_zero, List.cons.injEq, and_true] at this
      rw [this]; rfl
  have hva : Vis sg an := by
    rcases Sg.par an List.mem_cons_self with z | z
    · exact .inl z
    · exact .inr (.inl z)
  have hna : nmOk an = true := by
    unfold toldB at tb
    split at tb
    · simp only [Bool.and_eq_true] at tb
      cases hN0
      exact tb.1.1.1.1.1.1.1.1.1.1.2
    · cases tb
  have L : LamX.LamS X.env.scope scope := by
    rw [c.sco]
    exact LamX.lamS_by h5
  have hun := c.hu
  have hun2 : X.A.units + 200 < cLine := by have := c.room.un; omega
  have pe : PE X (.Call (.Name "_law_told" p) [.Lambda ⟨[], [], none, [], [], none, []⟩ body scope lp] [] pos) (tE X.K RX W (ev Γ G (.told a))) := by
    refine PEimp (LamX.pe_lamcall (T := PrW.T) (TT := TTo X.K) (k := lev n) (t := fun E => tE X.K RX (fun cls d _ H' => E cls d H') (ev Γ G a)) (c.gl h4) hm FD.kp lk hcd hb Sg hN0 hva
      (told_gives TP.x tb Sg.nd hN0 hun2) TB hcode hmT hu hr L rfl (fun _ _ _ _ _ => rfl) (fun A outer s H E f c' hr' => (ha.e _ _ N scope body (c.lamB L A outer s H E f c' hr') h6).pe) (by decide) (nm_of hna).1 (nm_of hna).2) fun σ H Q ⟨A, ρ, r, h⟩ => ?_
    refine ⟨r.tabs, fun H1 eN T1 E' Q' kE kV => ⟨A, ρ, r.up ⟨eN, fun _ => T1⟩, ?_⟩⟩
    have e1 : Same H H1 := ⟨eN, fun _ => T1⟩
    have h : Out RX W (relE X.K A) (match ev Γ G a ρ with
      | .ok d => .ok (.tup [.str (tx "told"), d])
      | .exc x => match exAt x.arg with
        | some i => .ok (.tup [.str (tx "refused"), .int (exNo x.cls), .int i])
        | none => .stuck
      | .stuck => .stuck) σ H Q := h
    show Out RX (fun cls d _ H' => E' cls d H') (relE X.K A) (ev Γ G a ρ) σ H1 Q'
    cases hq : ev Γ G a ρ with
    | ok d =>
      rw [hq] at h
      intro v H2 e2 rv
      refine kV v H2 fun pp hp => ?_
      have e3 := ups (o := .tup [.str "told", v]) hp
      have z2 : (2 : Nat) ≤ SZ := by decide
      refine h _ _ ((e1.trans e2).trans e3) (.tup (vs := [.str "told", v]) (.inl (.inl ?_)) z2 (.cons (by rw [← tS_tx]; exact .str _ (okT_tx (by decide +kernel))) (.cons (Rep.up (hid_up e3) _ _ rv) .nil)))
      rw [hid_out ((r.live.up (e1.trans e2)).new hp), upd_same]
    | exc y =>
      rw [hq] at h
      dsimp only at h
      cases hi : exAt y.arg with
      | none => rw [hi] at h; exact h.elim
      | some i =>
        rw [hi] at h
        intro cls dx H2 e2 hrx
        refine kE cls dx H2 ⟨y, i, (e1.trans e2).tabs r.tabs, by rw [← c.rx]; exact hrx, hi, fun pp H3 e3 nu hp => ?_⟩
        have z3 : (3 : Nat) ≤ SZ := by decide
        refine h _ _ ((e1.trans e2).trans e3) (.tup (vs := [.str "refused", .int (exNo y.cls : Nat), .int i]) (.inl (.inl ?_)) z3 (.cons (by rw [← tS_tx]; exact .str _ (okT_tx (by decide +kernel))) (.cons (.int _) (.cons (.int _) .nil))))
        rw [hid_out ((r.live.up (e1.trans e2)).newN nu)]
        exact hp
    | stuck => rw [hq] at h; exact h.elim
  exact .of pe (fun _ => rfl) (fun _ _ _ z => nomatch z) (fun z => nomatch z)) (fun _ _ _ => rfl) (fun _ _ _ _ => rfl)
theorem Ctx.lam1 {N : List Str} {sc scope : Scope} {X : Cx} {W : WX} {y : Str} (c : Ctx fs Γ G RX n N sc X W) (L : SortL.LamS1 X.env.scope scope y) (hy : y ∉ N) (A : Around) (s : Shared) (H : Hp) (f c' : Addr) (hr : Room (lev n) (A.deeper (LamX.lamEnv X scope s.heap.objs.size f c'))) :
    Ctx { fs with lam := false } Γ G RX n (N ++ [y]) scope (SortL.lamCx1 X y A X.stack s H (fun _ _ _ => False) scope f c') (fun _ _ _ _ => False) where
  hN := by
    show X.N ++ [y] = N ++ [y]
    rw [c.hN]
  nd := List.nodup_append.mpr ⟨c.nd, by simp, fun a ha b hb e => by
    rw [List.mem_singleton] at hb
    exact hy (by rw [← hb, ← e]; exact ha)⟩
  sco := rfl
  kind := L.kind
  calm := rfl
  takes := takes_of rfl rfl rfl rfl
  room := hr
  lam := fun h => nomatch h
  rx := c.rx
  exc := c.exc
  told := c.told
  trs := c.trs
  fns := c.fns
  fnsN := c.fnsN
  blt := c.blt
  cons := c.cons
  px := ⟨c.px.p, c.px.w⟩
theorem ok_skey {a b : ME} (ha : Ok fs Γ G RX n a) (hb : Ok { fs with lam := false } Γ G RX n b) : Ok fs Γ G RX n (.skey a b) := .of (fun X W N sc e c h => by
  obtain ⟨⟨x, x0, y, body, scope⟩, hx, h⟩ := oB_of h
  obtain ⟨ey, p, lp, kp, pos, yp, rfl⟩ := asSk_of hx
  subst ey
  obtain ⟨h, h8⟩ := and4 h
  obtain ⟨h, h7⟩ := and4 h
  obtain ⟨h, h6⟩ := and4 h
  obtain ⟨h, h5⟩ := and4 h
  obtain ⟨h, h4⟩ := and4 h
  obtain ⟨h, h3⟩ := and4 h
  obtain ⟨h1, h2⟩ := and4 h
  obtain rfl := of_decide_eq_true h2
  have hy := of_decide_eq_true h5
  obtain ⟨hr, cc, P, TB, hcode, hmT, hu⟩ := c.lam h1
  have L : SortL.LamS1 X.env.scope scope "row" := by
    rw [c.sco]
    exact SortL.lam1_by h6
  exact .of (pe_skey (k := lev n) (W1 := fun _ _ _ _ => False) (c.gl h3) (c.blt "sorted" (by decide)) TB hcode hmT hu hr L (by rw [c.hN]; exact hy) rfl (fun _ _ _ _ _ _ => rfl) (ha.e X W N sc x0 c h7).pe
    (fun A s H f c' hr' => (hb.e _ _ (N ++ [("row" : Str)]) scope body (c.lam1 L hy A s H f c' hr') h8).pe) (by rw [star_of h4]; rfl)) (fun _ => rfl) (fun _ _ _ z => nomatch z) (fun z => nomatch z)) (fun _ _ _ => rfl) (fun _ _ _ _ => rfl)
end
end Snd
namespace Snd
open PySem PySem.Spec PyProof.Rows L2 Dt
variable [PrW]
theorem bindT_noExc {t : MT} {d : D} {ρ : EnvD} {e : Ex} : bindT t d ρ ≠ .exc e := by
  have key : ∀ (is : List Nat) (ds : List D) (ρ : EnvD), Dt.setAll is ds ρ ≠ .exc e := by
    intro is
    induction is with
    | nil =>
      intro ds ρ h
      cases ds <;> cases h
    | cons i is ih =>
      intro ds ρ h
      cases ds with
      | nil => cases h
      | cons d ds => exact ih ds _ h
  intro h
  cases t with
  | nm i => cases h
  | tp is => cases d <;> first | (cases h; done) | exact key is _ ρ h
/-- what a comprehension's rule asks -/
structure LCp (X : Cx) (elt tg iter : Expr) (ifs : List Expr) (s2 : Scope) (own : List (Str × Nat)) (wi : TI) (g : TG) (tt : TT) (te : TE) : Prop where
  hi : PI X tg iter wi
  ok : BlkOk X.N X.env.scope s2 own
  hg : ∀ (s : Shared) (H : Hp) (C : Addr) (cl : List (Str × Addr)) (fp : List Addr), PG (X.blk s H s2 (compEnvC s2 cl C X.env) fp) tg g
  ht : ∀ (s : Shared) (H : Hp) (C : Addr) (cl : List (Str × Addr)) (fp : List Addr), PTs (X.blk s H s2 (compEnvC s2 cl C X.env) fp) ifs tt
  he : ∀ (s : Shared) (H : Hp) (C : Addr) (cl : List (Str × Addr)) (fp : List Addr), PE (X.blk s H s2 (compEnvC s2 cl C X.env) fp) elt te
  hs : ∀ x, foldedSetIterable iter X.env x = pure x
section
variable {fs : Sig} {Γ : String → List D → Res D} {G : String → Option D} {RX : RXT} {n : Nat}
/-- a comprehension read: its rule and its reading -/
def CompOk (RX : RXT) (X : Cx) (W : WX) (g : EnvD → Res (List D)) (e : Expr) : Prop :=
  ∃ elt tg iter ifs s2 q own wi gg tt te, e = .ListComp elt [⟨tg, iter, ifs, 0⟩] s2 q ∧ LCp X elt tg iter ifs s2 own wi gg tt te ∧ ∀ σ H Q, tF X.K RX W g σ H Q → tLc wi gg tt te (own.map (·.2)) σ H Q
theorem CompOk.pe {X : Cx} {W : WX} {g : EnvD → Res (List D)} {e : Expr} (hc : X.calm = true) (hN : X.N.Nodup) (h : CompOk RX X W g e) : PE X e (tF X.K RX W g) := by
  obtain ⟨elt, tg, iter, ifs, s2, q, own, wi, gg, tt, te, rfl, c, k⟩ := h
  exact PEimp (pe_lc hc hN c.hi c.ok c.hg c.ht c.he c.hs) k
theorem own_snd (N : List Str) (is : List Nat) : (ownOf N is).map (·.2) = is := by
  unfold ownOf
  rw [List.map_map]
  exact List.map_id is
theorem kind_of {N : List Str} {sc s2 : Scope} {own : List (Str × Nat)} (h : blkC N sc s2 own = true) : s2.kind = .function := (blkOk_by h).kind
theorem scope_blk {N : List Str} {sc : Scope} {X : Cx} {W : WX} (c : Ctx fs Γ G RX n N sc X W) {s2 : Scope} (s : Shared) (H : Hp) (C : Addr) (cl : List (Str × Addr)) (fp : List Addr) : (X.blk s H s2 (compEnvC s2 cl C X.env) fp).env.scope = relS s2 sc := by
  show relabel s2 X.env = relS s2 sc
  unfold relabel relS PySem.Env.kindOf
  rw [c.sco]
theorem comp_ok {t : MT} {it el : ME} (hi : Ok fs Γ G RX n it) (he : Ok fs Γ G RX n el) {X : Cx} {W : WX} {N : List Str} {sc : Scope} {e : Expr} {mo : Nat} (c : Ctx fs Γ G RX n N sc X W) (h : chkE fs (.comp t it el) mo N sc e = true) :
    CompOk RX X W (fun ρ => ev Γ G (.comp t it el) ρ >>= lstD) e := by
  obtain ⟨⟨elt, tg, iter, ifs, s2⟩, hx, h⟩ := oB_of h
  obtain ⟨q, rfl⟩ := asComp_of hx
  obtain ⟨h, h6⟩ := and4 h
  obtain ⟨h, h5⟩ := and4 h
  obtain ⟨h, h4⟩ := and4 h
  obtain ⟨h, h3⟩ := and4 h
  obtain ⟨h1, h2⟩ := and4 h
  obtain rfl : ifs = [] := List.isEmpty_iff.mp h5
  refine ⟨elt, tg, iter, [], s2, q, ownOf N t.slots, _, gT X.K t, tYes, tE X.K RX W0 (ev Γ G el), rfl, ⟨hi.i X W N sc tg iter _ c (fun z => ?_) h2, by rw [c.hN, c.sco]; exact blkOk_by h3, fun s H C cl fp => ?_, fun _ _ _ _ _ => pts_nil, fun s H C cl fp => ?_, folded_of h1 X.env⟩, fun σ H Q z => ?_⟩
  · cases hb : isTup tg with
    | true => rfl
    | false => rw [hb] at z; exact absurd z (by decide)
  · exact pg_of (X := X.blk s H s2 (compEnvC s2 cl C X.env) fp) c.hN c.nd (scope_blk c s H C cl fp) (fun _ => rfl) c.calm h4
  · exact (he.e _ W0 N _ elt (c.blk (kind_of h3) s H C cl fp) h6).pe
  · rw [own_snd]
    refine lc_read (f := fun ρ1 => ev Γ G el ρ1 >>= fun y => .ok (some y)) (fun A ρ1 σ1 H1 P M r hP hM hx hs => ?_) ?_
    · show tE X.K RX W0 (ev Γ G el) σ1 H1 M
      refine ⟨A, ρ1, r, ?_⟩
      cases hv : ev Γ G el ρ1 with
      | ok y => exact fun v H2 e2 rv => hM y (by rw [hv]; rfl) v H2 e2 rv
      | exc x => exact absurd (by rw [hv]; rfl) (hx x)
      | stuck => exact absurd (by rw [hv]; rfl) hs
    · obtain ⟨A, ρ, r, z⟩ := z
      refine ⟨A, ρ, r, ?_⟩
      refine (congrArg (fun w => Out RX W (relF X.K A H) w σ H Q) ?_).mp z
      show ((ev Γ G it ρ >>= fun d => itD d >>= fun xs => mapR (fun x => bindT t x (wipeE ρ t.slots) >>= fun ρ1 => ev Γ G el ρ1) xs >>= fun ys => .ok (.lst ys)) >>= lstD) = ((ev Γ G it ρ >>= itD) >>= fun xs => _)
      simp only [res_assoc]
      congr 1
      funext d
      congr 1
      funext xs
      rw [mapR_coll]
      simp only [res_assoc]
      generalize collR _ xs = w
      cases w <;> rfl
theorem compIf_ok {t : MT} {it cd el : ME} (hi : Ok fs Γ G RX n it) (hc : Ok fs Γ G RX n cd) (he : Ok fs Γ G RX n el) {X : Cx} {W : WX} {N : List Str} {sc : Scope} {e : Expr} {mo : Nat} (c : Ctx fs Γ G RX n N sc X W) (h : chkE fs (.compIf t it cd el) mo N sc e = true) :
    CompOk RX X W (fun ρ => ev Γ G (.compIf t it cd el) ρ >>= lstD) e := by
  obtain ⟨⟨elt, tg, iter, ifs, s2⟩, hx, h⟩ := oB_of h
  obtain ⟨q, rfl⟩ := asComp_of hx
  obtain ⟨h, h6⟩ := and4 h
  obtain ⟨h, h5⟩ := and4 h
  obtain ⟨h, h4⟩ := and4 h
  obtain ⟨h, h3⟩ := and4 h
  obtain ⟨h1, h2⟩ := and4 h
  obtain ⟨z, hz, h5⟩ := oB_of h5
  obtain rfl : ifs = [z] := one_of hz
  refine ⟨elt, tg, iter, [z], s2, q, ownOf N t.slots, _, gT X.K t, tT X.K RX W0 (fun ρ => ev Γ G cd ρ >>= blD), tE X.K RX W0 (ev Γ G el), rfl, ⟨hi.i X W N sc tg iter _ c (fun z => ?_) h2, by rw [c.hN, c.sco]; exact blkOk_by h3, fun s H C cl fp => ?_, fun s H C cl fp => pts_one ?_, fun s H C cl fp => ?_, folded_of h1 X.env⟩, fun σ H Q z => ?_⟩
  · cases hb : isTup tg with
    | true => rfl
    | false => rw [hb] at z; exact absurd z (by decide)
  · exact pg_of (X := X.blk s H s2 (compEnvC s2 cl C X.env) fp) c.hN c.nd (scope_blk c s H C cl fp) (fun _ => rfl) c.calm h4
  · exact (hc.e _ W0 N _ _ (c.blk (kind_of h3) s H C cl fp) h5).pt
  · exact (he.e _ W0 N _ elt (c.blk (kind_of h3) s H C cl fp) h6).pe
  · rw [own_snd]
    refine lc_read (f := fun ρ1 => match ev Γ G cd ρ1 with
      | .ok (.bl true) => ev Γ G el ρ1 >>= fun y => .ok (some y)
      | .ok (.bl false) => .ok none
      | _ => .stuck) (fun A ρ1 σ1 H1 P M r hP hM hx hs => ?_) ?_
    · refine ⟨A, ρ1, r, ?_⟩
      dsimp only at hx hs hP hM ⊢
      cases hv : ev Γ G cd ρ1 with
      | ok y =>
        rw [hv] at hx hs hP hM
        cases y with
        | bl b =>
          cases b with
          | true =>
            dsimp only at hx hs hM
            rintro _ H2 e2 rfl
            rw [if_pos rfl]
            refine ⟨A, ρ1, r.up e2, ?_⟩
            cases hw : ev Γ G el ρ1 with
            | ok y => exact fun v H3 e3 rv => hM y (by rw [hw]; rfl) v H3 (e2.trans e3) rv
            | exc x => exact absurd (by rw [hw]; rfl) (hx x)
            | stuck => exact absurd (by rw [hw]; rfl) hs
          | false =>
            rintro _ H2 e2 rfl
            rw [if_neg (by decide)]
            exact hP rfl H2 e2
        | _ => exact absurd rfl hs
      | exc x => rw [hv] at hs; exact absurd rfl hs
      | stuck => rw [hv] at hs; exact absurd rfl hs
    · obtain ⟨A, ρ, r, z⟩ := z
      refine ⟨A, ρ, r, ?_⟩
      refine (congrArg (fun w => Out RX W (relF X.K A H) w σ H Q) ?_).mp z
      show ((ev Γ G it ρ >>= fun d => itD d >>= fun xs => filR (fun x => bindT t x (wipeE ρ t.slots) >>= fun ρ1 => ev Γ G cd ρ1) (fun x => bindT t x (wipeE ρ t.slots) >>= fun ρ1 => ev Γ G el ρ1) xs >>= fun ys => .ok (.lst ys)) >>= lstD) = ((ev Γ G it ρ >>= itD) >>= fun xs => _)
      simp only [res_assoc]
      congr 1
      funext d
      congr 1
      funext xs
      rw [filR_coll]
      have e : (fun x => match (bindT t x (wipeE ρ t.slots) >>= fun ρ1 => ev Γ G cd ρ1 : Res D) with
        | .ok (.bl true) => (bindT t x (wipeE ρ t.slots) >>= fun ρ1 => ev Γ G el ρ1) >>= fun y => .ok (some y)
        | .ok (.bl false) => .ok none
        | _ => .stuck) = fun x => bindT t x (wipeE ρ t.slots) >>= fun ρ1 => (match ev Γ G cd ρ1 with
        | .ok (.bl true) => ev Γ G el ρ1 >>= fun y => .ok (some y)
        | .ok (.bl false) => .ok none
        | _ => .stuck : Res (Option D)) := by
        funext x
        cases hb : bindT t x (wipeE ρ t.slots) with
        | ok ρ1 => rfl
        | exc x => exact absurd hb bindT_noExc
        | stuck => rfl
      refine (congrArg (fun f => (collR f xs >>= fun a => Res.ok (D.lst a) >>= lstD : Res (List D))) e).trans ?_
      generalize collR _ xs = w
      cases w <;> rfl
theorem ans_comp {m : ME} {X : Cx} {W : WX} {N : List Str} {sc : Scope} {e : Expr} (c : Ctx fs Γ G RX n N sc X W) (h : CompOk RX X W (fun ρ => ev Γ G m ρ >>= lstD) e) (hm : ∀ ρ, ev Γ G m ρ = ((ev Γ G m ρ >>= lstD) >>= fun ds => .ok (.lst ds))) : Ans Γ G RX X W m e := by
  have pf := h.pe c.calm (by rw [c.hN]; exact c.nd)
  obtain ⟨elt, tg, iter, ifs, s2, q, own, wi, gg, tt, te, rfl, _⟩ := h
  exact .ofF pf hm (fun _ => rfl) fun _ _ _ z => nomatch z
theorem ok_comp {t : MT} {it el : ME} (hi : Ok fs Γ G RX n it) (he : Ok fs Γ G RX n el) : Ok fs Γ G RX n (.comp t it el) := .of (fun X W N sc e c h => ans_comp c (comp_ok hi he c h) fun ρ => by
  show (ev Γ G it ρ >>= fun d => itD d >>= fun xs => mapR (fun x => bindT t x (wipeE ρ t.slots) >>= fun ρ1 => ev Γ G el ρ1) xs >>= fun ys => Res.ok (D.lst ys)) = ((ev Γ G it ρ >>= fun d => itD d >>= fun xs => mapR (fun x => bindT t x (wipeE ρ t.slots) >>= fun ρ1 => ev Γ G el ρ1) xs >>= fun ys => Res.ok (D.lst ys)) >>= lstD) >>= fun ds => Res.ok (D.lst ds)
  simp only [res_assoc]
  rfl) (fun _ _ _ => rfl) (fun _ _ _ _ => rfl)
theorem ok_compIf {t : MT} {it cd el : ME} (hi : Ok fs Γ G RX n it) (hc : Ok fs Γ G RX n cd) (he : Ok fs Γ G RX n el) : Ok fs Γ G RX n (.compIf t it cd el) := .of (fun X W N sc e c h => ans_comp c (compIf_ok hi hc he c h) fun ρ => by
  show (ev Γ G it ρ >>= fun d => itD d >>= fun xs => filR (fun x => bindT t x (wipeE ρ t.slots) >>= fun ρ1 => ev Γ G cd ρ1) (fun x => bindT t x (wipeE ρ t.slots) >>= fun ρ1 => ev Γ G el ρ1) xs >>= fun ys => Res.ok (D.lst ys)) = ((ev Γ G it ρ >>= fun d => itD d >>= fun xs => filR (fun x => bindT t x (wipeE ρ t.slots) >>= fun ρ1 => ev Γ G cd ρ1) (fun x => bindT t x (wipeE ρ t.slots) >>= fun ρ1 => ev Γ G el ρ1) xs >>= fun ys => Res.ok (D.lst ys)) >>= lstD) >>= fun ds => Res.ok (D.lst ds)
  simp only [res_assoc]
  rfl) (fun _ _ _ => rfl) (fun _ _ _ _ => rfl)
theorem all_ok' : ∀ (m : ME) (fs : Sig), Ok fs Γ G RX n m := by
  intro m
  induction m with
  | var i => exact fun fs => ok_var i
  | int i => exact fun fs => ok_int i
  | str s => exact fun fs => ok_str s
  | bl b => exact fun fs => ok_bl b
  | non => exact fun fs => ok_non
  | con s => exact fun fs => ok_con s
  | nil => exact fun fs => ok_nil
  | cons a r h1 h2 => exact fun fs => ok_cons (h1 fs) (h2 fs)
  | tup es h => exact fun fs => ok_tup (h fs)
  | lst es h => exact fun fs => ok_lst (h fs)
  | op o a b h1 h2 => exact fun fs => ok_op (h1 fs) (h2 fs)
  | neg a h => exact fun fs => ok_neg (h fs)
  | not a h => exact fun fs => ok_not (h fs)
  | and1 a h => exact fun fs => ok_and1 (h fs)
  | and a b h1 h2 => exact fun fs => ok_and (h1 fs) (h2 fs)
  | or1 a h => exact fun fs => ok_or1 (h fs)
  | or a b h1 h2 => exact fun fs => ok_or (h1 fs) (h2 fs)
  | cmp o a b h1 h2 => exact fun fs => ok_cmp (h1 fs) (h2 fs)
  | isn a h => exact fun fs => ok_isn (h fs)
  | notn a h => exact fun fs => ok_notn (h fs)
  | chain o1 o2 a b c h1 h2 h3 => exact fun fs => ok_chain (h1 fs) (h2 fs) (h3 fs)
  | ix a i h1 h2 => exact fun fs => ok_ix (h1 fs) (h2 fs)
  | sl a lo hi h1 h2 h3 => exact fun fs => ok_sl (h1 fs) (h2 fs) (h3 fs)
  | comp t it e h1 h2 => exact fun fs => ok_comp (h1 fs) (h2 fs)
  | compIf t it c e h1 h2 h3 => exact fun fs => ok_compIf (h1 fs) (h2 fs) (h3 fs)
  | rng1 a h => exact fun fs => ok_rng1 (h fs)
  | rng2 a b h1 h2 => exact fun fs => ok_rng2 (h1 fs) (h2 fs)
  | enum a h => exact fun fs => ok_enum (h fs)
  | zip a b h1 h2 => exact fun fs => ok_zip (h1 fs) (h2 fs)
  | b1 f a h => exact fun fs => ok_b1 (h fs)
  | b2 f a b h1 h2 => exact fun fs => ok_b2 (h1 fs) (h2 fs)
  | call f es h => exact fun fs => ok_call (h fs)
  | dnew t => exact fun fs => ok_dnew
  | dlit ks vs => exact fun fs => ok_dlit
  | dsp1 k v h1 h2 => exact fun fs => ok_dsp1 (h1 fs) (h2 fs)
  | get2 a k x h1 h2 h3 => exact fun fs => ok_get2 (h1 fs) (h2 fs) (h3 fs)
  | told a h => exact fun fs => ok_told (h _)
  | skey a e h1 h2 => exact fun fs => ok_skey (h1 _) (h2 _)
  | fcall f es h => exact fun fs => ok_fcall (h fs)
  | itup es h => exact fun fs => ok_itup (h fs)
  | lzip a b h1 h2 => exact fun fs => ok_lzip (h1 fs) (h2 fs)
theorem all_ok (m : ME) : Ok fs Γ G RX n m := all_ok' m fs
/-! ### new dicts -/
def freshD : ME → Bool
  | .dnew _ => true
  | .dsp1 _ _ => true
  | .b1 .dictT _ => true
  | .b1 .dictS _ => true
  | _ => false
theorem do_own {m : ME} {X : Cx} {W : WX} {N : List Str} {sc : Scope} {e : Expr} (hf : freshD m = true) (c : Ctx fs Γ G RX n N sc X W) (h : chkE fs m 0 N sc e = true) : PE X e (tO X.K RX W (ev Γ G m)) := by
  have byL : ∀ {f : B1} {a : ME} {t : Bool}, f = cond t .dictT .dictS → chkE fs (.b1 f a) 0 N sc e = true → PE X e (tO X.K RX W (ev Γ G (.b1 f a))) := by
    intro f a t hf h
    have hs : spB f = 0 := by cases t <;> (subst hf; rfl)
    unfold chkE at h
    rw [hs] at h
    try dsimp only at h
    obtain ⟨⟨x, xs⟩, hx, h⟩ := oB_of h
    obtain ⟨p, q, rfl⟩ := asCallN_of hx
    obtain ⟨h0, h⟩ := and4 h
    have e0 : overSet f = none ∧ tyOfB1 f = none ∧ nameB1 f = "dict" := by cases t <;> (subst hf; exact ⟨rfl, rfl, rfl⟩)
    rw [e0.1] at h
    dsimp only at h
    rw [e0.2.1] at h
    obtain ⟨h1, h⟩ := and4 h
    obtain ⟨y, hy, h⟩ := oB_of h
    obtain ⟨h2, h3⟩ := and4 h
    obtain rfl : xs = [y] := one_of hy
    have e1 : x = Str.ofString (nameB1 f) := of_decide_eq_true h1
    rw [e0.2.2] at e1
    subst e1
    exact do_dictL (t := t) c.px c.calm c.hu hf (c.gl h0) (c.blt "dict" (by decide)) (by decide +kernel) ((all_ok a).e X W N sc y c h3).pe (by decide) (by decide) (star_of h2 _ _)
  cases m <;> first | (cases hf; done) | skip
  · rename_i f a
    cases f <;> first | (cases hf; done) | skip
    · exact byL (t := true) rfl h
    · exact byL (t := false) rfl h
  · rename_i t
    obtain ⟨⟨ks, vs⟩, hx, h⟩ := oB_of h
    obtain ⟨p, rfl⟩ := asDict_of hx
    obtain ⟨h1, h2⟩ := and4 h
    obtain rfl : ks = [] := List.isEmpty_iff.mp h1
    obtain rfl : vs = [] := List.isEmpty_iff.mp h2
    exact do_dnew c.px
  · rename_i a b
    obtain ⟨⟨es, xs⟩, hx, g⟩ := oB_of h
    obtain ⟨p, rfl⟩ := asDict_of hx
    obtain ⟨⟨k, v⟩, hy, g⟩ := oB_of g
    cases oneD_of hy
    obtain ⟨h1, h2⟩ := and4 g
    exact do_dsp1 c.px c.hu ((all_ok a).e X W N sc k c h1).pe ((all_ok b).e X W N sc v c h2).pe
end
end Snd
namespace Snd
open PySem PySem.Spec PyProof.Rows L2 Dt
variable [PrW]

/-! ### wiped names -/
theorem wipeE_get {ρ : EnvD} {i : Nat} : ∀ {vs : List Nat}, i ∉ vs → (wipeE ρ vs)[i]? = ρ[i]?
  | [], _ => rfl
  | v :: vs, h => by
    simp only [List.mem_cons, not_or] at h
    unfold wipeE
    rw [List.getElem?_set_ne (Ne.symm h.1), wipeE_get h.2]
theorem wipeE_set {ρ : EnvD} {i : Nat} {x : Option D} : ∀ {vs : List Nat}, i ∉ vs → wipeE (ρ.set i x) vs = (wipeE ρ vs).set i x
  | [], _ => rfl
  | v :: vs, h => by
    simp only [List.mem_cons, not_or] at h
    unfold wipeE
    rw [wipeE_set h.2, List.set_comm _ _ h.1]
theorem setAll_wipe {vs : List Nat} : ∀ {is : List Nat} {ds : List D} {ρ ρ1 : EnvD}, (∀ i ∈ is, i ∉ vs) → Dt.setAll is ds ρ = .ok ρ1 → Dt.setAll is ds (wipeE ρ vs) = .ok (wipeE ρ1 vs)
  | [], [], ρ, ρ1, _, h => by cases h; rfl
  | [], _ :: _, _, _, _, h => nomatch h
  | _ :: _, [], _, _, _, h => nomatch h
  | i :: is, d :: ds, ρ, ρ1, k, h => by
    have h : Dt.setAll is ds (ρ.set i (some d)) = .ok ρ1 := h
    have q := setAll_wipe (fun j hj => k j (List.mem_cons_of_mem _ hj)) h
    rw [wipeE_set (k i List.mem_cons_self)] at q
    exact q
theorem bindT_wipe {vs : List Nat} {t : MT} {d : D} {ρ ρ1 : EnvD} (k : ∀ i ∈ t.slots, i ∉ vs) (h : bindT t d ρ = .ok ρ1) : bindT t d (wipeE ρ vs) = .ok (wipeE ρ1 vs) := by
  cases t with
  | nm i =>
    cases h
    show Res.ok _ = _
    rw [wipeE_set (k i (by simp [MT.slots]))]
  | tp is =>
    cases d with
    | tup ds => exact setAll_wipe k h
    | lst ds => exact setAll_wipe k h
    | _ => cases h
theorem setAll_out : ∀ {is : List Nat} {ds : List D} {ρ ρ1 : EnvD}, Dt.setAll is ds ρ = .ok ρ1 → ∀ i, i ∉ is → ρ1[i]? = ρ[i]?
  | [], [], ρ, ρ1, h, i, _ => by cases h; rfl
  | [], _ :: _, _, _, h, _, _ => nomatch h
  | _ :: _, [], _, _, h, _, _ => nomatch h
  | j :: is, d :: ds, ρ, ρ1, h, i, hi => by
    simp only [List.mem_cons, not_or] at hi
    rw [setAll_out (show Dt.setAll is ds (ρ.set j (some d)) = .ok ρ1 from h) i hi.2, List.getElem?_set_ne (Ne.symm hi.1)]
theorem bindT_out {t : MT} {d : D} {ρ ρ1 : EnvD} (h : bindT t d ρ = .ok ρ1) (i : Nat) (hi : i ∉ t.slots) : ρ1[i]? = ρ[i]? := by
  cases t with
  | nm j =>
    cases h
    have hi : i ≠ j := by simpa [MT.slots] using hi
    rw [List.getElem?_set_ne (Ne.symm hi)]
  | tp is =>
    cases d with
    | tup ds => exact setAll_out h i hi
    | lst ds => exact setAll_out h i hi
    | _ => cases h
theorem RE.mono {K : PySem.W.Frag} {A : List Addr} {H : Hp} {σ : L2.St} {ρ : EnvD} {M M2 : List Nat} (r : RE K A H σ (wipeE ρ M)) (h : ∀ i ∈ M, i ∈ M2) : RE K A H σ (wipeE ρ M2) := by
  refine ⟨r.live, r.tabs, by rw [wipeE_length, ← r.len, wipeE_length], fun i d e => ?_⟩
  obtain ⟨e1, e2⟩ := wipeE_some e
  exact r.vals i d (by rw [wipeE_get fun z => e2 (h i z)]; exact e1)

abbrev adr (P : List (Nat × Addr)) (A0 : List Addr) : List Addr := P.map (·.2) ++ A0
structure RS (K : PySem.W.Frag) (A0 : List Addr) (H0 : Hp) (F : List Src) (M : List Nat) (P : List (Nat × Addr)) (ρ : EnvD) (σ : L2.St) (H : Hp) : Prop where
  mem : ∀ i, i ∈ M ↔ ∃ p ∈ P, p.1 = i
  nd : (P.map (·.2)).Nodup
  new : ∀ p ∈ P, Nu H0 p.2
  liveA : Live A0 H0
  same : Same H0 H
  re : RE K (adr P A0) H σ (wipeE ρ M)
  pv : ∀ p ∈ P, ∃ d, σ[p.1]? = some (some (.ref p.2)) ∧ ρ[p.1]? = some (some d) ∧ Own K H (hid (adr P A0) H) p.2 d
  frm : ∀ q ∈ F, q.ok K (hid (adr P A0) H)
section
variable {K : PySem.W.Frag} {A0 : List Addr} {H0 H H1 : Hp} {F : List Src} {M M2 : List Nat} {P : List (Nat × Addr)} {ρ : EnvD} {σ : L2.St}
theorem RS.outA (r : RS K A0 H0 F M P ρ σ H) {p : Nat × Addr} (h : p ∈ P) : p.2 ∉ A0 := r.liveA.newN (r.new p h)
theorem nodup_snd {P : List (Nat × Addr)} (h : (P.map (·.2)).Nodup) {p q : Nat × Addr} (hp : p ∈ P) (hq : q ∈ P) (e : p.2 = q.2) : p = q := by
  induction P with
  | nil => cases hp
  | cons x xs ih =>
    rw [List.map_cons, List.nodup_cons] at h
    rcases List.mem_cons.mp hp with h1 | h1
    · rcases List.mem_cons.mp hq with h2 | h2
      · rw [h1, h2]
      · exact absurd (List.mem_map.mpr ⟨q, h2, by rw [← e, h1]⟩) h.1
    · rcases List.mem_cons.mp hq with h2 | h2
      · exact absurd (List.mem_map.mpr ⟨p, h1, by rw [e, h2]⟩) h.1
      · exact ih h.2 h1 h2
theorem RS.sub (r : RS K A0 H0 F M P ρ σ H) (h : ∀ i ∈ M2, i ∈ M) : RS K A0 H0 F M2 (P.filter fun p => decide (p.1 ∈ M2)) ρ σ H := by
  have less : ∀ a, a ∈ adr (P.filter fun p => decide (p.1 ∈ M2)) A0 → a ∈ adr P A0 := fun a ha => by
    rcases List.mem_append.mp ha with ha | ha
    · obtain ⟨p, hp, e⟩ := List.mem_map.mp ha
      exact List.mem_append_left _ (List.mem_map.mpr ⟨p, (List.mem_filter.mp hp).1, e⟩)
    · exact List.mem_append_right _ ha
  have sm := hid_less (H := H) less
  refine ⟨fun i => ⟨fun hi => ?_, fun ⟨p, hp, e⟩ => ?_⟩, ?_, fun p hp => r.new p (List.mem_filter.mp hp).1, r.liveA, r.same, ⟨fun a ha => r.re.live a (less a ha), r.re.tabs, by rw [wipeE_length, ← r.re.len, wipeE_length], fun i d e => ?_⟩, fun p hp => ?_, fun q hq => Src.up sm (r.frm q hq)⟩
  · obtain ⟨p, hp, e⟩ := (r.mem i).mp (h i hi)
    exact ⟨p, List.mem_filter.mpr ⟨hp, by rw [e]; exact decide_eq_true hi⟩, e⟩
  · rw [← e]
    exact of_decide_eq_true (List.mem_filter.mp hp).2
  · exact (List.Sublist.map _ List.filter_sublist).nodup r.nd
  · obtain ⟨e1, e2⟩ := wipeE_some e
    by_cases hi : i ∈ M
    · obtain ⟨p, hp, q⟩ := (r.mem i).mp hi
      obtain ⟨d', h1, h2, h3⟩ := r.pv p hp
      rw [q] at h1 h2
      rw [h2] at e1
      cases e1
      refine ⟨_, h1, h3.rep (hid_out fun z => ?_) sm⟩
      · rcases List.mem_append.mp z with z | z
        · obtain ⟨p', hp', e⟩ := List.mem_map.mp z
          obtain ⟨h6, h7⟩ := List.mem_filter.mp hp'
          have := nodup_snd r.nd h6 hp e
          subst this
          rw [q] at h7
          exact e2 (of_decide_eq_true h7)
        · exact r.outA hp z
    · obtain ⟨v, h1, h2⟩ := r.re.vals i d (by rw [wipeE_get hi]; exact e1)
      exact ⟨v, h1, Rep.up sm _ _ h2⟩
  · obtain ⟨d, h1, h2, h3⟩ := r.pv p (List.mem_filter.mp hp).1
    exact ⟨d, h1, h2, h3.up (Sm.refl H) sm⟩
theorem RS.eqv (r : RS K A0 H0 F M P ρ σ H) (h : ∀ i, i ∈ M2 ↔ i ∈ M) : RS K A0 H0 F M2 P ρ σ H :=
  ⟨fun i => (h i).trans (r.mem i), r.nd, r.new, r.liveA, r.same, r.re.mono fun i hi => (h i).mpr hi, r.pv, r.frm⟩
/-- all is readable -/
theorem RS.full (r : RS K A0 H0 F M P ρ σ H) : RE K A0 H σ ρ := by
  have q := (r.sub (M2 := []) (fun i hi => nomatch hi)).re
  have e : (P.filter fun p => decide (p.1 ∈ ([] : List Nat))) = [] := by simp
  rw [e] at q
  exact q
theorem RS.up (r : RS K A0 H0 F M P ρ σ H) (e : Same H H1) : RS K A0 H0 F M P ρ σ H1 :=
  ⟨r.mem, r.nd, r.new, r.liveA, r.same.trans e, r.re.up e, fun p hp => let ⟨d, h1, h2, h3⟩ := r.pv p hp; ⟨d, h1, h2, h3.up e.sm (hid_up e)⟩, fun q hq => Src.up (hid_up e) (r.frm q hq)⟩
theorem RS.setT {t : MT} {v : V} {d : D} {ρ1 : EnvD} {Q : L2.St → Hp → Prop} (r : RS K A0 H0 F M P ρ σ H) (hv : Rep K (hid (adr P A0) H) v d) (e : bindT t d ρ = .ok ρ1) (dj : ∀ i ∈ t.slots, i ∉ M)
    (k : ∀ σ1, RS K A0 H0 F M P ρ1 σ1 H → Q σ1 H) : gT K t v σ H Q := by
  refine gT_of r.re hv (bindT_wipe dj e) fun σ1 re hl ho => k σ1 ⟨r.mem, r.nd, r.new, r.liveA, r.same, re, fun p hp => ?_, r.frm⟩
  have hm : p.1 ∉ t.slots := fun z => dj _ z ((r.mem _).mpr ⟨p, hp, rfl⟩)
  rw [ho _ hm, bindT_out e _ hm]
  exact r.pv p hp
/-- a new list of one's own -/
theorem RS.push {i : Nat} {a : Addr} {d : D} (r : RS K A0 H0 F M P ρ σ H) (e : Same H H1) (hi : i ∉ M) (hl : i < ρ.length) (hn : Nu H a) (ow : Own K H1 (hid (a :: adr P A0) H1) a d) :
    RS K A0 H0 F (i :: M) ((i, a) :: P) (ρ.set i (some d)) (σ.set i (some (.ref a))) H1 := by
  have sm : Sm (hid (adr P A0) H) (hid (a :: adr P A0) H1) := (hid_new hn).trans (hid_up e)
  have hne : ∀ p ∈ P, p.1 ≠ i := fun p hp z => hi (z ▸ (r.mem _).mpr ⟨p, hp, rfl⟩)
  have hls : i < σ.length := by
    have := r.re.len
    rw [wipeE_length] at this
    omega
  refine ⟨fun j => ?_, ?_, fun p hp => ?_, r.liveA, r.same.trans e, ⟨fun b hb => ?_, e.tabs r.re.tabs, by rw [wipeE_length, List.length_set, List.length_set, ← r.re.len, wipeE_length], fun j d q => ?_⟩, fun p hp => ?_, fun q hq => Src.up sm (r.frm q hq)⟩
  · constructor
    · intro h
      rcases List.mem_cons.mp h with rfl | h
      · exact ⟨_, List.mem_cons_self, rfl⟩
      · obtain ⟨p, hp, e⟩ := (r.mem j).mp h
        exact ⟨p, List.mem_cons_of_mem _ hp, e⟩
    · rintro ⟨p, hp, e⟩
      rcases List.mem_cons.mp hp with rfl | hp
      · exact e ▸ List.mem_cons_self
      · exact List.mem_cons_of_mem _ ((r.mem j).mpr ⟨p, hp, e⟩)
  · rw [List.map_cons, List.nodup_cons]
    refine ⟨fun z => ?_, r.nd⟩
    exact r.re.live.newN hn (List.mem_append_left _ z)
  · rcases List.mem_cons.mp hp with rfl | hp
    · exact r.same.sm.freeN hn
    · exact r.new p hp
  · rcases List.mem_cons.mp hb with rfl | hb
    · obtain ⟨u, hu, nc⟩ := ow.nc
      exact ⟨u, hu, nc.tbl⟩
    · exact (r.re.live.up e) b hb
  · obtain ⟨q1, q2⟩ := wipeE_some q
    simp only [List.mem_cons, not_or] at q2
    rw [List.getElem?_set_ne (Ne.symm q2.1)] at q1
    obtain ⟨v, h1, h2⟩ := r.re.vals j d (by rw [wipeE_get q2.2]; exact q1)
    exact ⟨v, by rw [List.getElem?_set_ne (Ne.symm q2.1)]; exact h1, Rep.up sm _ _ h2⟩
  · rcases List.mem_cons.mp hp with rfl | hp
    · exact ⟨d, List.getElem?_set_self hls, List.getElem?_set_self hl, ow⟩
    · obtain ⟨d', h1, h2, h3⟩ := r.pv p hp
      exact ⟨d', by rw [List.getElem?_set_ne (Ne.symm (hne p hp))]; exact h1, by rw [List.getElem?_set_ne (Ne.symm (hne p hp))]; exact h2, h3.up e.sm sm⟩
/-- a list of one's own written -/
theorem RS.write {p : Nat × Addr} {ob : HO} {d : D} (r : RS K A0 H0 F M P ρ σ H) (hp : p ∈ P) (ow : Own K (upd H p.2 ob) (hid (adr P A0) H) p.2 d) :
    RS K A0 H0 F M P (ρ.set p.1 (some d)) σ (upd H p.2 ob) := by
  have hin : p.2 ∈ adr P A0 := List.mem_append_left _ (List.mem_map.mpr ⟨p, hp, rfl⟩)
  have hM : p.1 ∈ M := (r.mem _).mpr ⟨p, hp, rfl⟩
  have eh : hid (adr P A0) (upd H p.2 ob) = hid (adr P A0) H := hid_upd hin
  have hl : p.1 < ρ.length := by
    obtain ⟨_, _, h2, _⟩ := r.pv p hp
    exact (List.getElem?_eq_some_iff.mp h2).1
  obtain ⟨_, _, _, ow0⟩ := r.pv p hp
  obtain ⟨u0, hu0, nc0⟩ := ow0.nc
  refine ⟨r.mem, r.nd, r.new, r.liveA, r.same.write (r.new p hp) hu0 nc0, ⟨fun b hb => ?_, tabs_upd r.re.tabs hu0 nc0, by rw [wipeE_length, List.length_set, ← r.re.len, wipeE_length], fun j d q => ?_⟩, fun p' hp' => ?_, fun q hq => by rw [eh]; exact r.frm q hq⟩
  · by_cases hb2 : b = p.2
    · obtain ⟨u, hu, nc⟩ := ow.nc
      exact ⟨u, by rw [hb2]; exact hu, nc.tbl⟩
    · rw [upd_ne hb2]; exact r.re.live b hb
  · obtain ⟨q1, q2⟩ := wipeE_some q
    have hj : p.1 ≠ j := fun z => q2 (z ▸ hM)
    rw [List.getElem?_set_ne hj] at q1
    obtain ⟨v, h1, h2⟩ := r.re.vals j d (by rw [wipeE_get q2]; exact q1)
    exact ⟨v, h1, by rw [eh]; exact h2⟩
  · rw [eh]
    obtain ⟨d', h1, h2, h3⟩ := r.pv p' hp'
    by_cases hj : p.1 = p'.1
    · obtain ⟨_, g1, _⟩ := r.pv p hp
      rw [hj, h1] at g1
      have ea : p'.2 = p.2 := by
        have g1 := Option.some.inj (Option.some.inj g1)
        exact V.ref.inj g1
      refine ⟨d, h1, by rw [hj, List.getElem?_set_self (by rw [← hj]; exact hl)], by rw [ea]; exact ow⟩
    · have ha : p'.2 ≠ p.2 := fun z => hj (by rw [nodup_snd r.nd hp' hp z])
      exact ⟨d', h1, by rw [List.getElem?_set_ne hj]; exact h2, h3.other ha⟩
theorem RS.more {F2 : List Src} (r : RS K A0 H0 F M P ρ σ H) (h : ∀ q ∈ F2, q.ok K (hid (adr P A0) H)) : RS K A0 H0 (F2 ++ F) M P ρ σ H :=
  ⟨r.mem, r.nd, r.new, r.liveA, r.same, r.re, r.pv, fun q hq => (List.mem_append.mp hq).elim (h q) (r.frm q)⟩
theorem RS.less {F2 : List Src} (r : RS K A0 H0 (F2 ++ F) M P ρ σ H) : RS K A0 H0 F M P ρ σ H :=
  ⟨r.mem, r.nd, r.new, r.liveA, r.same, r.re, r.pv, fun q hq => r.frm q (List.mem_append_right _ hq)⟩
end
end Snd
namespace Snd
open PySem PySem.Spec PyProof.Rows L2 Dt
variable [PrW]

/-! ### what holds no list is seen through any hiding of lists -/
def Lists (B : List Addr) (H : Hp) : Prop := ∀ a ∈ B, ∃ u, H a = some u ∧ (∀ xs, u ≠ HO.tup xs) ∧ ∀ o xs, u ≠ HO.frz o (.tup xs)
theorem SqT.hidL {K : PySem.W.Frag} {A B : List Addr} {H : Hp} (l : Lists B H) {a : Addr} {xs : List V} (h : SqT K (hid A H) a xs) : SqT K (hid (B ++ A) H) a xs := by
  have key : ∀ o, (∀ u, H a = some u → a ∈ B → o ≠ u) → hid A H a = some o → hid (B ++ A) H a = some o := fun o no e => by
    by_cases hA : a ∈ A
    · rw [hid_in hA] at e; cases e
    · rw [hid_out hA] at e
      by_cases hB : a ∈ B
      · exact absurd rfl (no o e hB)
      · rw [hid_out fun z => (List.mem_append.mp z).elim hB hA]
        exact e
  rcases h with h | h
  · rcases h with h | ⟨o, h⟩
    · refine .inl (.inl (key _ (fun u hu hB z => ?_) h))
      obtain ⟨u', h1, h2, _⟩ := l a hB
      rw [hu] at h1
      cases h1
      exact h2 _ z.symm
    · refine .inl (.inr ⟨o, key _ (fun u hu hB z => ?_) h⟩)
      obtain ⟨u', h1, _, h3⟩ := l a hB
      rw [hu] at h1
      cases h1
      exact h3 _ _ z.symm
  · exact .inr h
theorem frz_hidL {A B : List Addr} {H : Hp} (l : Lists B H) {a : Addr} {o : Obj} {xs : List V} (h : hid A H a = some (.frz o (.tup xs))) : hid (B ++ A) H a = some (.frz o (.tup xs)) := by
  by_cases hA : a ∈ A
  · rw [hid_in hA] at h
    cases h
  · rw [hid_out hA] at h
    have hB : a ∉ B := fun z => by
      obtain ⟨u, h1, _, h3⟩ := l a z
      rw [h] at h1
      cases h1
      exact h3 _ _ rfl
    rw [hid_out fun z => (List.mem_append.mp z).elim hB hA]
    exact h
mutual
theorem Rep.frz {K : PySem.W.Frag} {A B : List Addr} {H : Hp} (l : Lists B H) : ∀ (d : D) (v : V), d.frozen = true → Rep K (hid A H) v d → Rep K (hid (B ++ A) H) v d
  | .non, _, _, h => by cases h; exact .non
  | .bl _, _, _, h => by cases h; exact .bl _
  | .int _, _, _, h => by cases h; exact .int _
  | .str _, _, _, h => by cases h with | str _ q => exact .str _ q
  | .tup ds, _, f, h => by cases h with | tup s z r => exact .tup (SqT.hidL l s) z (Reps.frz l ds _ (by simpa [D.frozen] using f) r)
  | .lst ds, _, f, h => by simp [D.frozen] at f
  | .scr ds, _, f, h => by simp [D.frozen] at f
  | .dic _ _ _, _, f, h => by simp [D.frozen] at f
  | .itr ds, _, f, h => by
    cases h with
    | ptp s d z r => exact .ptp (frz_hidL l s) d z (Reps.frz l ds _ (by simpa [D.frozen] using f) r)
theorem Reps.frz {K : PySem.W.Frag} {A B : List Addr} {H : Hp} (l : Lists B H) : ∀ (ds : List D) (vs : List V), D.frozens ds = true → Reps K (hid A H) vs ds → Reps K (hid (B ++ A) H) vs ds
  | [], _, _, h => by cases h; exact .nil
  | d :: ds, _, f, h => by
    simp only [D.frozens, Bool.and_eq_true] at f
    cases h with | cons a b => exact .cons (Rep.frz l d _ f.1 a) (Reps.frz l ds _ f.2 b)
end

/-! ### the checker -/
def dead : MS → Bool
  | .ret _ => true
  | .cons s r => dead s || dead r
  | .ife _ a b => dead a && dead b
  | .rais _ _ => true
  | _ => false
def tgOk (N : List Str) (sc : Scope) (t : MT) (tg : Expr) : Bool := chkT N sc (fun _ => true) t tg
/-- the value is no comprehension -/
def okV : Expr → Bool
  | .ListComp .. => false
  | .SetComp .. => false
  | .DictComp .. => false
  | .Tuple .. => false
  | _ => true
def isComp : ME → Bool
  | .comp .. => true
  | .compIf .. => true
  | _ => false
def isLC : Expr → Bool
  | .ListComp .. => true
  | _ => false
def isTupE : Expr → Bool
  | .Tuple .. => true
  | _ => false
def isNm : MT → Bool
  | .nm _ => true
  | .tp _ => false
def asgOk (fs : Sig) (N : List Str) (sc : Scope) (t : MT) (e : ME) : Stmt → Bool
  | .Assign [tg] v _ => tgOk N sc t tg && chkE fs e 0 N sc v && (okV v || (!isNm t && isLC v) || (isNm t && (isTupE v || (isLC v && isComp e))))
  | _ => false
def mthOk (fs : Sig) (N : List Str) (sc : Scope) (m : String) (i : Nat) (e : ME) : Stmt → Bool
  | .Expr (.Call (.Attribute (.Name x _) nm apos) [y] [] pos) _ => decide (nm = Str.ofString m) && decide (N[i]? = some x) && visB sc x && nmOk x && (apos.endLine == pos.line) && okX y && chkE fs e 0 N sc y
  | _ => false
/-- x[k] = v -/
def putOk (fs : Sig) (N : List Str) (sc : Scope) (i : Nat) (k v : ME) : Stmt → Bool
  | .Assign [.Subscript (.Name x _) y _] w _ => decide (N[i]? = some x) && visB sc x && nmOk x && okX y && chkE fs k 0 N sc y && chkE fs v 0 N sc w && okV w
  | _ => false
/-- x.pop() -/
def popX (N : List Str) (sc : Scope) (i : Nat) : Expr → Bool
  | .Call (.Attribute (.Name x _) nm apos) [] [] pos => decide (nm = "pop") && decide (N[i]? = some x) && visB sc x && nmOk x && (apos.endLine == pos.line)
  | _ => false
def popOk (N : List Str) (sc : Scope) (i : Nat) : Stmt → Bool
  | .Expr e _ => popX N sc i e
  | _ => false
def popAOk (N : List Str) (sc : Scope) (t : MT) (i : Nat) : Stmt → Bool
  | .Assign [tg] e _ => tgOk N sc t tg && popX N sc i e
  | _ => false
/-- raise c(e) -/
def raisOk (fs : Sig) (N : List Str) (sc : Scope) (c : String) (e : ME) : Stmt → Bool
  | .Raise (some (.Call (.Name x _) [y] [] _)) none _ => decide (c ∈ fs.exs) && decide (x = Str.ofString c) && glB sc x && nmOk x && okX y && chkE fs e 0 N sc y
  | _ => false
/-- what may be tried: one assignment, one return -/
def chkB (fs : Sig) (N : List Str) (sc : Scope) (M : List Nat) : MS → Stmt → Option (List Nat)
  | .asg t h e, st => if asgOk fs N sc t e st then some (M.filter fun i => decide (i ∈ h) && decide (i ∉ t.slots)) else none
  | .ret e, st => match st with
    | .Return (some x) _ => if chkE fs e 0 N sc x then some M else none
    | _ => none
  | _, _ => none
/-- what an except suite may say -/
def chkH (N : List Str) (sc : Scope) (M : List Nat) : MS → Stmt → Option (List Nat)
  | .app i h (.var j), .Expr (.Call (.Attribute (.Name x _) nm apos) [.Name y _] [] pos) _ => if decide (nm = "append") && decide (N[i]? = some x) && visB sc x && nmOk x && (apos.endLine == pos.line) && decide (N[j]? = some y) && visB sc y && nmOk y && decide (i ∈ M) && decide (i ∈ h) then some (M.filter fun k => decide (k ∈ h)) else none
  | .ret .non, .Return (some (.Constant .none _ _)) _ => some M
  | _, _ => none
mutual
def chk1 (fs : Sig) (N : List Str) (sc : Scope) : List Nat → MS → Stmt → Option (List Nat)
  | M, .skip, st => match st with
    | .Expr (.Constant (.str _) _ _) _ => some M
    | .Pass _ => some M
    | _ => none
  | M, .asg t h e, st => if asgOk fs N sc t e st then some (M.filter fun i => decide (i ∈ h) && decide (i ∉ t.slots)) else none
  | M, .asgN t e, st => if asgOk fs N sc t e st then some (M.filter fun i => decide (i ∉ t.slots)) else none
  | M, .asgF i h e, st => if asgOk fs N sc (.nm i) e st && fresh e then some (i :: M.filter fun j => decide (j ∈ h) && decide (j ≠ i)) else none
  | M, .app i h e, st => if mthOk fs N sc "append" i e st && decide (i ∈ M) && decide (i ∈ h) then some (M.filter fun j => decide (j ∈ h)) else none
  | M, .ext i h e, st => if mthOk fs N sc "extend" i e st && decide (i ∈ M) && decide (i ∈ h) then some (M.filter fun j => decide (j ∈ h)) else none
  | M, .ife c a b, st => match st with
    | .If x p q _ => if chkE fs c 0 N sc x then match chkS fs N sc M a p, chkS fs N sc M b q with
      | some Ma, some Mb => some (if dead a then Mb else if dead b then Ma else Ma.filter fun i => decide (i ∈ Mb))
      | _, _ => none
      else none
    | _ => none
  | M, .fr t h it b, st => match st with
    | .For tg x p [] _ => if okX x && chkE fs it (if isTup tg then 2 else 1) N sc x && tgOk N sc t tg then
        match chkS fs N sc (M.filter fun i => decide (i ∈ h) && decide (i ∉ t.slots)) b p with
        | some M2 => if (M.filter fun i => decide (i ∈ h) && decide (i ∉ t.slots)).all fun i => decide (i ∈ M2) then some (M.filter fun i => decide (i ∈ h) && decide (i ∉ t.slots)) else none
        | none => none
      else none
    | _ => none
  | M, .whl c b, st => match st with
    | .While x p [] _ => if chkE fs c 0 N sc x then
        match chkS fs N sc M b p with
        | some M2 => if M.all fun i => decide (i ∈ M2) then some M else none
        | none => none
      else none
    | _ => none
  | M, .ret e, st => match st with
    | .Return (some x) _ => if chkE fs e 0 N sc x then some M else none
    | _ => none
  | M, .asgD i h e, st => if asgOk fs N sc (.nm i) e st && freshD e then some (i :: M.filter fun j => decide (j ∈ h) && decide (j ≠ i)) else none
  | M, .put i k v, st => if putOk fs N sc i k v st && decide (i ∈ M) then some M else none
  | M, .pop i, st => if popOk N sc i st && decide (i ∈ M) then some M else none
  | M, .popA t i, st => if popAOk N sc t i st && decide (i ∈ M) && decide (i ∉ t.slots) then some (M.filter fun j => decide (j ∉ t.slots)) else none
  | M, .rais c e, st => if raisOk fs N sc c e st then some M else none
  | M, .tr c b h, st => match st with
    | .Try [s1] [.ExceptHandler (some (.Name x _)) none [s2] _] [] [] _ => if decide (c ∈ fs.trs) && decide (x = Str.ofString c) && glB sc x && nmOk x then match chkB fs N sc M b s1, chkH N sc M h s2 with
      | some Mb, some Mh => some (if dead b then Mh else if dead h then Mb else Mb.filter fun i => decide (i ∈ Mh))
      | _, _ => none
      else none
    | _ => none
  | _, .nil, _ => none
  | _, .cons _ _, _ => none
def chkS (fs : Sig) (N : List Str) (sc : Scope) : List Nat → MS → List Stmt → Option (List Nat)
  | M, .nil, [] => some M
  | M, .cons s r, st :: sts => match chk1 fs N sc M s st with
    | some M1 => chkS fs N sc M1 r sts
    | none => none
  | _, _, _ => none
end

/-! ### readings -/
def OutS (K : PySem.W.Frag) (RX : RXT) (W : WX) (A0 : List Addr) (H0 : Hp) (F : List Src) (M' : List Nat) (r : Res Fl) (Dn : Ends) : Prop := match r with
  | .ok (.nx ρ') => ∀ P σ H, RS K A0 H0 F M' P ρ' σ H → Dn.nx σ H
  | .ok (.rt d) => ∀ v H, Same H0 H → Rep K (hid A0 H) v d → Dn.rt v H
  | .exc e => ∀ σ H c dx, Same H0 H → RX H e c dx → W c dx σ H
  | .stuck => False
def tSt (K : PySem.W.Frag) (RX : RXT) (W : WX) (g : EnvD → Res Fl) (M M' : List Nat) : TS := fun Dn σ H => ∃ A0 H0 F P ρ, RS K A0 H0 F M P ρ σ H ∧ OutS K RX W A0 H0 F M' (g ρ) Dn
section
variable {K : PySem.W.Frag} {RX : RXT} {W : WX} {A0 : List Addr} {H0 H : Hp} {F : List Src} {M M' M2 : List Nat} {P : List (Nat × Addr)} {ρ : EnvD} {σ : L2.St} {Dn : Ends}
theorem OutS.bind {α β : Type} {rel : Hp → β → α → Prop} {x : Res α} {f : α → Res Fl} {Q : β → Hp → Prop} (h : OutS K RX W A0 H0 F M' (x >>= f) Dn) (s0 : Same H0 H)
    (k : ∀ a b H1, x = .ok a → Same H H1 → rel H1 b a → OutS K RX W A0 H0 F M' (f a) Dn → Q b H1) : Out RX W rel x σ H Q := by
  cases x with
  | ok a => exact fun b H1 e r => k a b H1 rfl e r h
  | exc e => exact fun c dx H1 e1 r => h σ H1 c dx (s0.trans e1) r
  | stuck => exact h
theorem OutS.must {c : Bool} {r : Res Fl} (h : OutS K RX W A0 H0 F M' (must c r) Dn) : c = true ∧ OutS K RX W A0 H0 F M' r Dn := by
  cases c with
  | true => exact ⟨rfl, h⟩
  | false => exact h.elim
theorem OutS.weak {r : Res Fl} (h : OutS K RX W A0 H0 F M' r Dn) (k : ∀ i ∈ M', i ∈ M2) : OutS K RX W A0 H0 F M2 r Dn := by
  cases r with
  | ok f =>
    cases f with
    | nx ρ' => exact fun P σ H q => h _ σ H (q.sub k)
    | rt d => exact h
  | exc e => exact h
  | stuck => exact h
theorem OutS.dead {r : Res Fl} (h : OutS K RX W A0 H0 F M' r Dn) (k : ∀ ρ', r ≠ .ok (.nx ρ')) : OutS K RX W A0 H0 F M2 r Dn := by
  cases r with
  | ok f =>
    cases f with
    | nx ρ' => exact absurd rfl (k ρ')
    | rt d => exact h
  | exc e => exact h
  | stuck => exact h
theorem RS.lists (r : RS K A0 H0 F M P ρ σ H) : Lists (P.map (·.2)) H := fun a ha => by
  obtain ⟨p, hp, e⟩ := List.mem_map.mp ha
  obtain ⟨d, _, _, h⟩ := r.pv p hp
  rw [← e]
  exact h.live
/-- where an expression is worked out with some names put out of sight -/
theorem RS.see (r : RS K A0 H0 F M P ρ σ H) {h : List Nat} (k : ∀ i ∈ M, i ∈ h) : RE K (adr P A0) H σ (wipeE ρ h) := r.re.mono k
end
theorem dead_ev {Γ : String → List D → Res D} {G : String → Option D} : ∀ (m : MS) (ρ ρ' : EnvD), dead m = true → evS Γ G m ρ ≠ .ok (.nx ρ')
  | .ret e, ρ, ρ', _, q => by
    have q : (ev Γ G e ρ >>= fun d => .ok (.rt d)) = Res.ok (Fl.nx ρ') := q
    obtain ⟨_, _, q⟩ := bind_ok q
    cases q
  | .cons s r, ρ, ρ', h, q => by
    have q : (match evS Γ G s ρ with
      | .ok (.nx ρ1) => evS Γ G r ρ1
      | w => w) = Res.ok (Fl.nx ρ') := q
    have h : (dead s || dead r) = true := h
    split at q
    · rename_i ρ1 h1
      rcases Bool.or_eq_true_iff.mp h with h | h
      · exact dead_ev s ρ ρ1 h h1
      · exact dead_ev r ρ1 ρ' h q
    · rename_i w hw
      exact hw ρ' q
  | .ife c a b, ρ, ρ', h, q => by
    have q : (ev Γ G c ρ >>= fun x => blD x >>= fun k => match k with
      | true => evS Γ G a ρ
      | false => evS Γ G b ρ) = Res.ok (Fl.nx ρ') := q
    have h : (dead a && dead b) = true := h
    obtain ⟨h1, h2⟩ := and4 h
    obtain ⟨_, _, q⟩ := bind_ok q
    obtain ⟨k, _, q⟩ := bind_ok q
    cases k with
    | true => exact dead_ev a ρ ρ' h1 q
    | false => exact dead_ev b ρ ρ' h2 q
  | .nil, _, _, h, _ => nomatch h
  | .skip, _, _, h, _ => nomatch h
  | .asg _ _ _, _, _, h, _ => nomatch h
  | .asgN _ _, _, _, h, _ => nomatch h
  | .asgF _ _ _, _, _, h, _ => nomatch h
  | .app _ _ _, _, _, h, _ => nomatch h
  | .ext _ _ _, _, _, h, _ => nomatch h
  | .fr _ _ _ _, _, _, h, _ => nomatch h
  | .whl _ _, _, _, h, _ => nomatch h
  | .asgD _ _ _, _, _, h, _ => nomatch h
  | .put _ _ _, _, _, h, _ => nomatch h
  | .pop _, _, _, h, _ => nomatch h
  | .popA _ _, _, _, h, _ => nomatch h
  | .tr _ _ _, _, _, h, _ => nomatch h
  | .rais c e, ρ, ρ', _, q => by
    have q : (ev Γ G e ρ >>= fun d => match d with
      | .int i => Res.exc ⟨c, .int i⟩
      | _ => .stuck) = Res.ok (Fl.nx ρ') := q
    obtain ⟨d, _, q⟩ := bind_ok q
    cases d <;> cases q
end Snd
namespace Snd
open PySem PySem.Spec PyProof.Rows L2 Dt
variable [PrW]
theorem tF_of_tE {K : PySem.W.Frag} {RX : RXT} {W : WX} {g : EnvD → Res D} (hg : ∀ ρ, g ρ = ((g ρ >>= lstD) >>= fun ds => .ok (.lst ds))) {σ : L2.St} {H : Hp} {Q : VK} (h : tE K RX W g σ H Q) : tF K RX W (fun ρ => g ρ >>= lstD) σ H Q := by
  obtain ⟨A, ρ, r, q⟩ := h
  refine ⟨A, ρ, r, ?_⟩
  rw [hg ρ] at q
  dsimp only
  generalize (g ρ >>= lstD) = w at q
  cases w with
  | exc x => exact q
  | stuck => exact q
  | ok ds =>
    rintro v H' e1 ⟨p, vs, rfl, h1, h2, hz, h3⟩
    refine q _ _ e1 (.lst ?_ hz (Reps.up (hid_less fun a ha => List.mem_cons_of_mem _ ha) ds vs h3))
    rw [hid_out (r.live.newN h1)]
    exact h2
structure CtxS (fs : Sig) (Γ : String → List D → Res D) (G : String → Option D) (RX : RXT) (n : Nat) (N : List Str) (sc : Scope) (X : Cx) (W : WX) : Prop where
  c : Ctx fs Γ G RX n N sc X W
  fn : ∀ x, X.fn x = true
  passes : PassesOwn (model X.prog X.w) X.A X.env X.xe
  stk : X.stack = X.env :: X.outer
  frm : X.env.frame = some X.env.locals
section
variable {fs : Sig} {Γ : String → List D → Res D} {G : String → Option D} {RX : RXT} {n : Nat} {N : List Str} {sc : Scope} {X : Cx} {W : WX}
theorem comp_lst {t : MT} {it el : ME} (ρ : EnvD) : ev Γ G (.comp t it el) ρ = ((ev Γ G (.comp t it el) ρ >>= lstD) >>= fun ds => .ok (.lst ds)) := by
  show (ev Γ G it ρ >>= fun d => itD d >>= fun xs => mapR (fun x => bindT t x (wipeE ρ t.slots) >>= fun ρ1 => ev Γ G el ρ1) xs >>= fun ys => Res.ok (D.lst ys)) = ((ev Γ G it ρ >>= fun d => itD d >>= fun xs => mapR (fun x => bindT t x (wipeE ρ t.slots) >>= fun ρ1 => ev Γ G el ρ1) xs >>= fun ys => Res.ok (D.lst ys)) >>= lstD) >>= fun ds => Res.ok (D.lst ds)
  simp only [res_assoc]
  rfl
theorem compIf_lst {t : MT} {it cd el : ME} (ρ : EnvD) : ev Γ G (.compIf t it cd el) ρ = ((ev Γ G (.compIf t it cd el) ρ >>= lstD) >>= fun ds => .ok (.lst ds)) := by
  show (ev Γ G it ρ >>= fun d => itD d >>= fun xs => filR (fun x => bindT t x (wipeE ρ t.slots) >>= fun ρ1 => ev Γ G cd ρ1) (fun x => bindT t x (wipeE ρ t.slots) >>= fun ρ1 => ev Γ G el ρ1) xs >>= fun ys => Res.ok (D.lst ys)) = ((ev Γ G it ρ >>= fun d => itD d >>= fun xs => filR (fun x => bindT t x (wipeE ρ t.slots) >>= fun ρ1 => ev Γ G cd ρ1) (fun x => bindT t x (wipeE ρ t.slots) >>= fun ρ1 => ev Γ G el ρ1) xs >>= fun ys => Res.ok (D.lst ys)) >>= lstD) >>= fun ds => Res.ok (D.lst ds)
  simp only [res_assoc]
  rfl
theorem compS_ok {e : ME} (hi : isComp e = true) {v : Expr} {mo : Nat} (c : Ctx fs Γ G RX n N sc X W) (h : chkE fs e mo N sc v = true) : CompOk RX X W (fun ρ => ev Γ G e ρ >>= lstD) v ∧ ∀ ρ, ev Γ G e ρ = ((ev Γ G e ρ >>= lstD) >>= fun ds => .ok (.lst ds)) := by
  cases e <;> first | (cases hi; done) | exact ⟨comp_ok (all_ok _) (all_ok _) c h, comp_lst⟩ | exact ⟨compIf_ok (all_ok _) (all_ok _) (all_ok _) c h, compIf_lst⟩
theorem sw_val {elt : Expr} {gs : List Comprehension} {s2 : Scope} {q py : Pos} {y : Str} {l : Nat} {env : PySem.Env} : swapsWith (.ListComp elt gs s2 q) (some (.Name y py)) l env =
    pure (env.blockKind == .function && env.kindOf y == some .local && py.line == (Expr.ListComp elt gs s2 q).pos.line && !(s2.names.any fun (n, k) => n == y && (k == .local || k == .cell))) := rfl
/-- an assignment, with either reading of its value -/
theorem as_gen (c : CtxS fs Γ G RX n N sc X W) {t : MT} {e : ME} {tg v : Expr} {pos : Pos} {T : TE} (pe : PE X v T) (h1 : tgOk N sc t tg = true) (h3 : (okV v || (!isNm t && isLC v) || (isNm t && (isTupE v || (isLC v && isComp e)))) = true)
    (pc : isComp e = true → ∀ σ H Q, T σ H Q → tF X.K RX W (fun ρ => ev Γ G e ρ >>= lstD) σ H Q) (hc : isComp e = true → CompOk RX X W (fun ρ => ev Γ G e ρ >>= lstD) v) : PS X (.Assign [tg] v pos) (tAsg T (gT X.K t)) := by
  have hg : PG X tg (gT X.K t) := pg_of c.c.hN c.c.nd c.c.sco (fun x => (c.fn x)) c.c.calm h1
  by_cases hv : (okV v || (!isNm t && isLC v)) = true
  · have plainS : swapsWithSole [tg] v pos.line X.env = pure false := by
      show swapsWith v (some tg) pos.line X.env = pure false
      cases t with
      | nm i => cases v <;> first | rfl | (cases hv; done)
      | tp is => cases tg <;> first | (cases h1; done) | (cases v <;> first | rfl | (cases hv; done))
    have noSw : swappedStores [tg] v X.env = pure none := by
      cases t with
      | nm i => cases v <;> first | (cases hv; done) | (cases tg <;> rfl)
      | tp is => cases v <;> first | (cases hv; done) | (cases tg <;> rfl)
    have hE : (assignEach [tg] X.env).map (·.2) = [assign tg X.env] := by
      cases tg <;> first | rfl | (cases t <;> cases h1)
    exact ps_asg pe hg plainS noSw hE
  · rw [Bool.not_eq_true] at hv
    rw [hv, Bool.false_or] at h3
    obtain ⟨h3, h4⟩ := and4 h3
    cases t with
    | tp is => cases h3
    | nm i =>
      cases tg with
      | Name y py =>
        have h1 : (decide (N[i]? = some y) && locB sc (fun _ => true) y) = true := h1
        obtain ⟨l0, l1⟩ := and4 h1
        obtain ⟨l1, l2⟩ := loc_of l1
        have hi : X.N[i]? = some y := c.c.ix (of_decide_eq_true l0)
        have hx : Loc X.env.scope y := by rw [c.c.sco]; exact l1
        rcases Bool.or_eq_true_iff.mp h4 with h4 | h4
        · cases v with
          | Tuple xs k p => exact ps_set (by rw [c.c.hN]; exact c.c.nd) hi hx pe rfl (.inl (c.fn y))
          | _ => cases h4
        · obtain ⟨h5, h6⟩ := and4 h4
          cases v with
          | ListComp elt gs s2 q =>
            by_cases hb : (X.env.blockKind == .function && X.env.kindOf y == some .local && py.line == (Expr.ListComp elt gs s2 q).pos.line && !(s2.names.any fun (n, k) => n == y && (k == .local || k == .cell))) = true
            · have sw : swapsWith (.ListComp elt gs s2 q) (some (.Name y py)) pos.line X.env = pure true := by rw [sw_val, hb]
              obtain ⟨hb, _⟩ := and4 hb
              obtain ⟨hb, _⟩ := and4 hb
              obtain ⟨_, hb⟩ := and4 hb
              have hyl : X.env.scope.names.lookup y = some .local := eq_of_beq hb
              obtain ⟨elt', tg', iter, ifs, s2', q', own, wi, gg, tt, te, ee, C, k⟩ := hc h6
              cases ee
              exact PSimp (ps_setLc c.c.calm (by rw [c.c.hN]; exact c.c.nd) hi hyl sw C.hi C.ok C.hg C.ht C.he C.hs) fun D σ H z => k _ _ _ (pc h6 _ _ _ z)
            · rw [Bool.not_eq_true] at hb
              exact ps_set (by rw [c.c.hN]; exact c.c.nd) hi hx pe (by rw [sw_val, hb]) (.inl (c.fn y))
          | _ => cases h5
      | _ => simp [tgOk, chkT] at h1
theorem as_ok (c : CtxS fs Γ G RX n N sc X W) {t : MT} {e : ME} {st : Stmt} (h : asgOk fs N sc t e st = true) : PS X st (tAsg (tE X.K RX W (ev Γ G e)) (gT X.K t)) ∧ (fresh e = true → PS X st (tAsg (tF X.K RX W fun ρ => ev Γ G e ρ >>= lstD) (gT X.K t))) := by
  unfold asgOk at h
  split at h
  · obtain ⟨h, h3⟩ := and4 h
    obtain ⟨h1, h2⟩ := and4 h
    have A := (all_ok (fs := fs) (Γ := Γ) (G := G) (RX := RX) (n := n) e).e X W N sc _ c.c h2
    exact ⟨as_gen c A.pe h1 h3 (fun hi σ H Q z => tF_of_tE (compS_ok hi c.c h2).2 z) fun hi => (compS_ok hi c.c h2).1,
      fun hf => as_gen c (A.pf hf) h1 h3 (fun _ σ H Q z => z) fun hi => (compS_ok hi c.c h2).1⟩
  · cases h
theorem as_okD (c : CtxS fs Γ G RX n N sc X W) {t : MT} {e : ME} {st : Stmt} (h : asgOk fs N sc t e st = true) (hf : freshD e = true) : PS X st (tAsg (tO X.K RX W (ev Γ G e)) (gT X.K t)) := by
  unfold asgOk at h
  split at h
  · obtain ⟨h, h3⟩ := and4 h
    obtain ⟨h1, h2⟩ := and4 h
    have ni : isComp e = false := by cases e <;> first | rfl | cases hf
    exact as_gen c (do_own hf c.c h2) h1 h3 (fun hi => by rw [ni] at hi; cases hi) fun hi => by rw [ni] at hi; cases hi
  · cases h
end
end Snd
namespace Snd
open PySem PySem.Spec PyProof.Rows L2 Dt
variable [PrW]
section
variable (fs : Sig) (Γ : String → List D → Res D) (G : String → Option D) (RX : RXT) (n : Nat)
structure OkS (m : MS) : Prop where
  one : ∀ (X : Cx) (W : WX) (N : List Str) (sc : Scope) (M M' : List Nat) (st : Stmt), CtxS fs Γ G RX n N sc X W → chk1 fs N sc M m st = some M' → PS X st (tSt X.K RX W (evS Γ G m) M M')
  many : ∀ (X : Cx) (W : WX) (N : List Str) (sc : Scope) (M M' : List Nat) (sts : List Stmt), CtxS fs Γ G RX n N sc X W → chkS fs N sc M m sts = some M' → PSs X sts (tSt X.K RX W (evS Γ G m) M M')
end
section
variable {fs : Sig} {Γ : String → List D → Res D} {G : String → Option D} {RX : RXT} {n : Nat}
theorem OkS.of {m : MS} (h : ∀ (X : Cx) (W : WX) (N : List Str) (sc : Scope) (M M' : List Nat) (st : Stmt), CtxS fs Γ G RX n N sc X W → chk1 fs N sc M m st = some M' → PS X st (tSt X.K RX W (evS Γ G m) M M'))
    (hs : ∀ N sc M sts, chkS fs N sc M m sts = none) : OkS fs Γ G RX n m :=
  ⟨h, fun X W N sc M M' sts _ q => by rw [hs] at q; cases q⟩
theorem if_some {α : Type} {c : Bool} {x y : Option α} {a : α} (h : (if c = true then x else y) = some a) (hy : y = none) : c = true ∧ x = some a := by
  cases c with
  | true => exact ⟨rfl, by simpa using h⟩
  | false => rw [if_neg (by decide), hy] at h; cases h
theorem oks_skip : OkS fs Γ G RX n .skip := .of (fun X W N sc M M' st c h => by
  have fin : PS X st tNext → M = M' → PS X st (tSt X.K RX W (evS Γ G .skip) M M') := fun p e => by
    subst e
    exact PSimp p fun D σ H ⟨A0, H0, F, P, ρ, r, o⟩ => o P σ H r
  unfold chk1 at h
  split at h
  · exact fin ps_doc (Option.some.inj h)
  · exact fin ps_pass (Option.some.inj h)
  · cases h) (fun _ _ _ sts => by cases sts <;> rfl)
theorem oks_nil : OkS fs Γ G RX n .nil where
  one := fun X W N sc M M' st c h => by cases h
  many := fun X W N sc M M' sts c h => by
    cases sts with
    | nil =>
      cases (show some M = some M' from h)
      exact PSsimp pss_nil fun D σ H ⟨A0, H0, F, P, ρ, r, o⟩ => o P σ H r
    | cons _ _ => cases h
theorem oks_cons {s r : MS} (h1 : OkS fs Γ G RX n s) (h2 : OkS fs Γ G RX n r) : OkS fs Γ G RX n (.cons s r) where
  one := fun X W N sc M M' st c h => by cases h
  many := fun X W N sc M M' sts c h => by
    cases sts with
    | nil => cases h
    | cons st sts =>
      have h : (match chk1 fs N sc M s st with
        | some M1 => chkS fs N sc M1 r sts
        | none => none) = some M' := h
      cases hs : chk1 fs N sc M s st with
      | none => rw [hs] at h; cases h
      | some M1 =>
        rw [hs] at h
        refine PSsimp (pss_cons (h1.one X W N sc M M1 st c hs) (h2.many X W N sc M1 M' sts c h)) fun D σ H ⟨A0, H0, F, P, ρ, q, o⟩ => ⟨A0, H0, F, P, ρ, q, ?_⟩
        have o : OutS X.K RX W A0 H0 F M' (match evS Γ G s ρ with
          | .ok (.nx ρ') => evS Γ G r ρ'
          | q => q) D := o
        cases he : evS Γ G s ρ with
        | ok f =>
          rw [he] at o
          cases f with
          | nx ρ1 => exact fun P1 σ1 H1 q1 => ⟨A0, H0, F, P1, ρ1, q1, o⟩
          | rt d => exact o
        | exc e => rw [he] at o; exact o
        | stuck => rw [he] at o; exact o
theorem filt_sub {M : List Nat} {f : Nat → Bool} : ∀ i ∈ M.filter f, i ∈ M := fun i h => (List.mem_filter.mp h).1
theorem filt_p {M : List Nat} {f : Nat → Bool} : ∀ i ∈ M.filter f, f i = true := fun i h => (List.mem_filter.mp h).2
theorem oks_asg {t : MT} {h0 : List Nat} {e : ME} : OkS fs Γ G RX n (.asg t h0 e) := .of (fun X W N sc M M' st c h => by
  obtain ⟨h1, h2⟩ := if_some (show (if asgOk fs N sc t e st = true then some (M.filter fun i => decide (i ∈ h0) && decide (i ∉ t.slots)) else none) = some M' from h) rfl
  cases h2
  refine PSimp (as_ok c h1).1 fun D σ H ⟨A0, H0, F, P, ρ, r, o⟩ => ?_
  have r := r.sub (M2 := M.filter fun i => decide (i ∈ h0) && decide (i ∉ t.slots)) filt_sub
  refine ⟨_, wipeE ρ h0, r.see fun i hi => of_decide_eq_true (and4 (filt_p i hi)).1, ?_⟩
  have o : OutS X.K RX W A0 H0 F (M.filter fun i => decide (i ∈ h0) && decide (i ∉ t.slots)) (ev Γ G e (wipeE ρ h0) >>= fun d => bindT t d ρ >>= fun ρ' => .ok (.nx ρ')) D := o
  refine o.bind r.same fun d v H1 _ e1 rv o1 => ?_
  cases hb : bindT t d ρ with
  | ok ρ1 =>
    rw [hb] at o1
    exact (r.up e1).setT rv hb (fun i hi hm => absurd hi (of_decide_eq_true (and4 (filt_p i hm)).2)) fun σ1 q => o1 _ _ _ q
  | exc x => exact absurd hb bindT_noExc
  | stuck => rw [hb] at o1; exact o1.elim) (fun _ _ _ sts => by cases sts <;> rfl)
theorem oks_asgN {t : MT} {e : ME} : OkS fs Γ G RX n (.asgN t e) := .of (fun X W N sc M M' st c h => by
  obtain ⟨h1, h2⟩ := if_some (show (if asgOk fs N sc t e st = true then some (M.filter fun i => decide (i ∉ t.slots)) else none) = some M' from h) rfl
  cases h2
  refine PSimp (as_ok c h1).1 fun D σ H ⟨A0, H0, F, P, ρ, r, o⟩ => ?_
  have r := r.sub (M2 := M.filter fun i => decide (i ∉ t.slots)) filt_sub
  refine ⟨A0, ρ, r.full, ?_⟩
  have o : OutS X.K RX W A0 H0 F (M.filter fun i => decide (i ∉ t.slots)) (ev Γ G e ρ >>= fun d => must d.frozen (bindT t d ρ >>= fun ρ' => .ok (.nx ρ'))) D := o
  refine o.bind r.same fun d v H1 _ e1 rv o1 => ?_
  obtain ⟨hf, o1⟩ := o1.must
  cases hb : bindT t d ρ with
  | ok ρ1 =>
    rw [hb] at o1
    exact (r.up e1).setT (Rep.frz (r.up e1).lists d v hf rv) hb (fun i hi hm => absurd hi (of_decide_eq_true (filt_p i hm))) fun σ1 q => o1 _ _ _ q
  | exc x => exact absurd hb bindT_noExc
  | stuck => rw [hb] at o1; exact o1.elim) (fun _ _ _ sts => by cases sts <;> rfl)
theorem oks_asgF {i : Nat} {h0 : List Nat} {e : ME} : OkS fs Γ G RX n (.asgF i h0 e) := .of (fun X W N sc M M' st c h => by
  obtain ⟨h1, h2⟩ := if_some (show (if (asgOk fs N sc (.nm i) e st && fresh e) = true then some (i :: M.filter fun j => decide (j ∈ h0) && decide (j ≠ i)) else none) = some M' from h) rfl
  obtain ⟨h1, h3⟩ := and4 h1
  cases h2
  refine PSimp ((as_ok c h1).2 h3) fun D σ H ⟨A0, H0, F, P, ρ, r, o⟩ => ?_
  have r := r.sub (M2 := M.filter fun j => decide (j ∈ h0) && decide (j ≠ i)) filt_sub
  refine ⟨_, wipeE ρ h0, r.see fun i hi => of_decide_eq_true (and4 (filt_p i hi)).1, ?_⟩
  have o : OutS X.K RX W A0 H0 F (i :: M.filter fun j => decide (j ∈ h0) && decide (j ≠ i)) (ev Γ G e (wipeE ρ h0) >>= fun d => lstD d >>= fun xs => must (decide (i < ρ.length)) (.ok (.nx (ρ.set i (some (.lst xs)))))) D := o
  rw [← res_assoc] at o
  refine o.bind r.same fun ds v H1 _ e1 rv o1 => ?_
  obtain ⟨p, vs, rfl, q1, q2, q3, q4⟩ := rv
  obtain ⟨hl, o1⟩ := o1.must
  exact o1 _ _ _ (r.push e1 (fun hm => absurd rfl (of_decide_eq_true (and4 (filt_p i hm)).2)) (of_decide_eq_true hl) q1 (.lst q2 q3 q4))) (fun _ _ _ sts => by cases sts <;> rfl)
theorem oks_ife {cd : ME} {a b : MS} (ha : OkS fs Γ G RX n a) (hb : OkS fs Γ G RX n b) : OkS fs Γ G RX n (.ife cd a b) := .of (fun X W N sc M M' st c h => by
  unfold chk1 at h
  split at h
  · rename_i x p q pos
    obtain ⟨h1, h2⟩ := if_some h rfl
    cases hA : chkS fs N sc M a p with
    | none => rw [hA] at h2; cases h2
    | some Ma =>
      cases hB : chkS fs N sc M b q with
      | none => rw [hA, hB] at h2; cases h2
      | some Mb =>
        rw [hA, hB] at h2
        have h2 := Option.some.inj h2
        have A := (all_ok (fs := fs) (Γ := Γ) (G := G) (RX := RX) (n := n) cd).e X W N sc _ c.c h1
        refine PSimp (ps_if A.pt (ha.many X W N sc M Ma p c hA) (hb.many X W N sc M Mb q c hB)) fun D σ H ⟨A0, H0, F, P, ρ, r, o⟩ => ⟨A0, ρ, r.full, ?_⟩
        have o : OutS X.K RX W A0 H0 F M' (ev Γ G cd ρ >>= fun x => blD x >>= fun k => match k with
          | true => evS Γ G a ρ
          | false => evS Γ G b ρ) D := o
        rw [← res_assoc] at o
        refine o.bind r.same fun k k' H1 _ e1 ek o1 => ?_
        have ek : k' = k := ek
        subst ek
        cases k' with
        | true =>
          rw [if_pos rfl]
          refine ⟨A0, H0, F, P, ρ, r.up e1, ?_⟩
          have o1 : OutS X.K RX W A0 H0 F M' (evS Γ G a ρ) D := o1
          cases da : dead a with
          | true => exact o1.dead fun ρ' => dead_ev a ρ ρ' da
          | false =>
            rw [da, if_neg (by decide)] at h2
            have o2 : ∀ M'', (∀ i ∈ M', i ∈ M'') → OutS X.K RX W A0 H0 F M'' (evS Γ G a ρ) D := fun M'' k => o1.weak k
            refine o2 Ma fun i hi => ?_
            rw [← h2] at hi
            cases db : dead b with
            | true => rw [db, if_pos rfl] at hi; exact hi
            | false => rw [db, if_neg (by decide)] at hi; exact filt_sub i hi
        | false =>
          rw [if_neg (by decide)]
          refine ⟨A0, H0, F, P, ρ, r.up e1, ?_⟩
          have o1 : OutS X.K RX W A0 H0 F M' (evS Γ G b ρ) D := o1
          cases da : dead a with
          | true =>
            rw [da, if_pos rfl] at h2
            rw [h2]
            exact o1
          | false =>
            rw [da, if_neg (by decide)] at h2
            cases db : dead b with
            | true => exact o1.dead fun ρ' => dead_ev b ρ ρ' db
            | false =>
              rw [db, if_neg (by decide)] at h2
              refine o1.weak fun i hi => ?_
              rw [← h2] at hi
              exact of_decide_eq_true (filt_p i hi)
  · cases h) (fun _ _ _ sts => by cases sts <;> rfl)
theorem oks_ret {e : ME} : OkS fs Γ G RX n (.ret e) := .of (fun X W N sc M M' st c h => by
  unfold chk1 at h
  split at h
  · rename_i x pos
    obtain ⟨h1, h2⟩ := if_some h rfl
    have A := (all_ok (fs := fs) (Γ := Γ) (G := G) (RX := RX) (n := n) e).e X W N sc _ c.c h1
    refine PSimp (ps_ret A.pe) fun D σ H ⟨A0, H0, F, P, ρ, r, o⟩ => ⟨A0, ρ, r.full, ?_⟩
    have o : OutS X.K RX W A0 H0 F M' (ev Γ G e ρ >>= fun d => .ok (.rt d)) D := o
    exact o.bind r.same fun d v H1 _ e1 rv o1 => o1 v H1 (r.same.trans e1) rv
  · cases h) (fun _ _ _ sts => by cases sts <;> rfl)
theorem oks_whl {cd : ME} {b : MS} (hb : OkS fs Γ G RX n b) : OkS fs Γ G RX n (.whl cd b) := .of (fun X W N sc M M' st c h => by
  unfold chk1 at h
  split at h
  · rename_i x p pos
    obtain ⟨h1, h2⟩ := if_some h rfl
    cases hB : chkS fs N sc M b p with
    | none => rw [hB] at h2; cases h2
    | some M2 =>
      rw [hB] at h2
      obtain ⟨h3, h4⟩ := if_some h2 rfl
      cases h4
      have sub : ∀ i ∈ M, i ∈ M2 := fun i hi => of_decide_eq_true (List.all_eq_true.mp h3 i hi)
      have A := (all_ok (fs := fs) (Γ := Γ) (G := G) (RX := RX) (n := n) cd).e X W N sc _ c.c h1
      refine PSimp (ps_while c.passes A.pt (hb.many X W N sc M M2 p c hB)) fun D σ H ⟨A0, H0, F, P, ρ, r, o⟩ => ?_
      refine ⟨fun m σ H => ∃ P ρ, RS X.K A0 H0 F M P ρ σ H ∧ OutS X.K RX W A0 H0 F M (whD (fun ρ => ev Γ G cd ρ) (fun ρ => evS Γ G b ρ) m ρ) D, ⟨WF, P, ρ, r, o⟩, ?_⟩
      rintro m σ H ⟨P, ρ, r, o⟩
      refine ⟨A0, ρ, r.full, ?_⟩
      cases m with
      | zero => exact o.elim
      | succ m =>
        unfold whD at o
        dsimp only at o ⊢
        cases hc : ev Γ G cd ρ with
        | ok d =>
          rw [hc] at o
          cases d with
          | bl k =>
            cases k with
            | true =>
              rintro _ H1 e1 rfl
              rw [if_pos rfl]
              refine ⟨fun σ H => ∃ P ρ, RS X.K A0 H0 F M P ρ σ H ∧ OutS X.K RX W A0 H0 F M (whD (fun ρ => ev Γ G cd ρ) (fun ρ => evS Γ G b ρ) m ρ) D, fun σ' H' q => ⟨m, Nat.lt_succ_self m, q⟩, A0, H0, F, P, ρ, r.up e1, ?_⟩
              dsimp only at o
              cases he : evS Γ G b ρ with
              | ok f =>
                rw [he] at o
                cases f with
                | nx ρ1 => exact fun P1 σ1 H1 q1 => ⟨_, ρ1, q1.sub sub, o⟩
                | rt d => exact o
              | exc e => rw [he] at o; exact o
              | stuck => rw [he] at o; exact o
            | false =>
              rintro _ H1 e1 rfl
              rw [if_neg (by decide)]
              exact o _ _ _ (r.up e1)
          | _ => exact o.elim
        | exc x =>
          rw [hc] at o
          exact fun c' dx H1 e1 q => o σ H1 c' dx (r.same.trans e1) q
        | stuck => rw [hc] at o; exact o.elim
  · cases h) (fun _ _ _ sts => by cases sts <;> rfl)
theorem oks_fr {t : MT} {h0 : List Nat} {it : ME} {b : MS} (hb : OkS fs Γ G RX n b) : OkS fs Γ G RX n (.fr t h0 it b) := .of (fun X W N sc M M' st c h => by
  unfold chk1 at h
  split at h
  · rename_i tg x p pos
    obtain ⟨h1, h2⟩ := if_some h rfl
    obtain ⟨h1, h5⟩ := and4 h1
    obtain ⟨h1, h6⟩ := and4 h1
    obtain ⟨Mf, hM⟩ : ∃ Mf, (M.filter fun i => decide (i ∈ h0) && decide (i ∉ t.slots)) = Mf := ⟨_, rfl⟩
    rw [hM] at h2
    have in1 : ∀ i ∈ Mf, i ∈ h0 ∧ i ∉ t.slots ∧ i ∈ M := fun i hi => by
      rw [← hM] at hi
      obtain ⟨a, b⟩ := and4 (filt_p i hi)
      exact ⟨of_decide_eq_true a, of_decide_eq_true b, filt_sub i hi⟩
    cases hB : chkS fs N sc Mf b p with
    | none => rw [hB] at h2; cases h2
    | some M2 =>
      rw [hB] at h2
      obtain ⟨h3, h4⟩ := if_some h2 rfl
      cases h4
      have sub : ∀ i ∈ M', i ∈ M2 := fun i hi => of_decide_eq_true (List.all_eq_true.mp h3 i hi)
      have PIx := (all_ok (fs := fs) (Γ := Γ) (G := G) (RX := RX) (n := n) it).i X W N sc tg x _ c.c (fun z => by
        cases hb : isTup tg with
        | true => rfl
        | false => rw [hb] at z; exact absurd z (by decide)) h6
      have hg : PG X tg (gT X.K t) := pg_of c.c.hN c.c.nd c.c.sco (fun x => (c.fn x)) c.c.calm h5
      refine PSimp (ps_for c.passes c.c.calm PIx hg (hb.many X W N sc M' M2 p c hB) (folded_of h1 X.env)) fun D σ H ⟨A0, H0, F, P, ρ, r, o⟩ => ?_
      have r := r.sub (M2 := M') fun i hi => (in1 i hi).2.2
      refine ⟨_, wipeE ρ h0, r.see fun i hi => (in1 i hi).1, ?_⟩
      have o : OutS X.K RX W A0 H0 F M' (ev Γ G it (wipeE ρ h0) >>= fun d => itD d >>= fun xs => frD (fun x ρ => bindT t x ρ >>= fun ρ1 => evS Γ G b ρ1) xs ρ) D := o
      rw [← res_assoc] at o
      refine o.bind r.same fun xs J H1 _ e1 rJ o1 => ?_
      obtain ⟨hz, srcs, hsrc, ok⟩ := rJ
      have wk : Walk J xs.length (fun H => ∃ A, Live A H ∧ ∀ p ∈ srcs, p.ok X.K (hid A H)) (fun i H x H' => ∀ A, Live A H → (∀ p ∈ srcs, p.ok X.K (hid A H)) → ∃ d, xs[i]? = some d ∧ Same H H' ∧ Rep X.K (hid A H') x d) :=
        ⟨fun i H hi ⟨A, g1, g2⟩ => ok.goes _ H i g1 g2 hi, fun H ⟨A, g1, g2⟩ => ok.stops _ H g1 g2, fun i H x H' hi _ y A g1 g2 => ok.yields _ H i x H' g1 g2 hi y⟩
      refine for_it wk (fun k σ H => ∃ P ρ, RS X.K A0 H0 (srcs ++ F) M' P ρ σ H ∧ OutS X.K RX W A0 H0 F M' (frD (fun x ρ => bindT t x ρ >>= fun ρ1 => evS Γ G b ρ1) (xs.drop k) ρ) D)
        ⟨_, ρ, (r.up e1).more hsrc, by simpa using o1⟩ (fun i σ H hi ⟨P, ρ, q, _⟩ => ⟨_, q.re.live, fun p hp => q.frm p (List.mem_append_left _ hp)⟩) ?_ ?_
      · rintro i v σ2 H2 H3 hi ⟨P2, ρ2, q2, o2⟩ y
        obtain ⟨d, hd, e3, rv⟩ := y _ q2.re.live fun p hp => q2.frm p (List.mem_append_left _ hp)
        have hdrop : xs.drop i = d :: xs.drop (i + 1) := by
          rw [List.drop_eq_getElem_cons hi]
          congr 1
          have : xs[i]? = some xs[i] := by simp [hi]
          rw [this] at hd
          exact Option.some.inj hd
        rw [hdrop] at o2
        have o2 : OutS X.K RX W A0 H0 F M' (match (bindT t d ρ2 >>= fun ρ1 => evS Γ G b ρ1) with
          | .ok (.nx ρ') => frD (fun x ρ => bindT t x ρ >>= fun ρ1 => evS Γ G b ρ1) (xs.drop (i + 1)) ρ'
          | w => w) D := o2
        cases hb' : bindT t d ρ2 with
        | exc x => exact absurd hb' bindT_noExc
        | stuck => rw [hb'] at o2; exact o2.elim
        | ok ρ3 =>
          rw [hb'] at o2
          have o2 : OutS X.K RX W A0 H0 F M' (match evS Γ G b ρ3 with
            | .ok (.nx ρ') => frD (fun x ρ => bindT t x ρ >>= fun ρ1 => evS Γ G b ρ1) (xs.drop (i + 1)) ρ'
            | w => w) D := o2
          refine (q2.up e3).setT rv hb' (fun j hj hm => absurd hj (in1 j hm).2.1) fun σ4 q4 => ⟨A0, H0, srcs ++ F, P2, ρ3, q4, ?_⟩
          cases he : evS Γ G b ρ3 with
          | ok f =>
            rw [he] at o2
            cases f with
            | nx ρ4 => exact fun P5 σ5 H5 q5 => ⟨_, ρ4, q5.sub sub, o2⟩
            | rt d => exact o2
          | exc e => rw [he] at o2; exact o2
          | stuck => rw [he] at o2; exact o2
      · rintro σ2 H2 ⟨P2, ρ2, q2, o2⟩
        rw [List.drop_length] at o2
        exact o2 _ _ _ q2.less
  · cases h) (fun _ _ _ sts => by cases sts <;> rfl)
end
end Snd
namespace Snd
open PySem PySem.Spec PyProof.Rows L2 Dt
variable [PrW]
section
variable {fs : Sig} {Γ : String → List D → Res D} {G : String → Option D} {RX : RXT} {n : Nat}
/-- a list of one's own in a slot -/
theorem RS.get {K : PySem.W.Frag} {A0 : List Addr} {H0 H : Hp} {F : List Src} {M : List Nat} {P : List (Nat × Addr)} {ρ : EnvD} {σ : L2.St} (r : RS K A0 H0 F M P ρ σ H) {i : Nat} (hi : i ∈ M) :
    ∃ a d, (i, a) ∈ P ∧ σ[i]? = some (some (.ref a)) ∧ ρ[i]? = some (some d) ∧ Own K H (hid (adr P A0) H) a d := by
  obtain ⟨p, hp, e⟩ := (r.mem i).mp hi
  obtain ⟨d, h1, h2, h3⟩ := r.pv p hp
  subst e
  exact ⟨p.2, d, hp, h1, h2, h3⟩
theorem mth_shape {N : List Str} {sc : Scope} {m : String} {i : Nat} {e : ME} {st : Stmt} (h : mthOk fs N sc m i e st = true) : ∃ x p apos y pos q, st = .Expr (.Call (.Attribute (.Name x p) (Str.ofString m) apos) [y] [] pos) q ∧ N[i]? = some x ∧ visB sc x = true ∧ nmOk x = true ∧ (apos.endLine == pos.line) = true ∧ okX y = true ∧ chkE fs e 0 N sc y = true := by
  unfold mthOk at h
  split at h
  · obtain ⟨h, h7⟩ := and4 h
    obtain ⟨h, h6⟩ := and4 h
    obtain ⟨h, h5⟩ := and4 h
    obtain ⟨h, h4⟩ := and4 h
    obtain ⟨h, h3⟩ := and4 h
    obtain ⟨h1, h2⟩ := and4 h
    have h1 := of_decide_eq_true h1
    subst h1
    exact ⟨_, _, _, _, _, _, rfl, of_decide_eq_true h2, h3, h4, h5, h6, h7⟩
  · cases h
theorem oks_app {i : Nat} {h0 : List Nat} {e : ME} : OkS fs Γ G RX n (.app i h0 e) := .of (fun X W N sc M M' st c h => by
  obtain ⟨h1, h2⟩ := if_some (show (if (mthOk fs N sc "append" i e st && decide (i ∈ M) && decide (i ∈ h0)) = true then some (M.filter fun j => decide (j ∈ h0)) else none) = some M' from h) rfl
  obtain ⟨h1, hi0⟩ := and4 h1
  obtain ⟨h1, hiM⟩ := and4 h1
  have hi0 := of_decide_eq_true hi0
  have hiM := of_decide_eq_true hiM
  cases h2
  obtain ⟨x, p, apos, y, pos, q, rfl, k1, k2, k3, k4, k5, k6⟩ := mth_shape h1
  have A := (all_ok (fs := fs) (Γ := Γ) (G := G) (RX := RX) (n := n) e).e X W N sc _ c.c k6
  have st1 := star1 k5 X.env
  refine PSimp (ps_expr (pe_bm F.plainAttrs_list F.slot_list_append F.type_list_append mt_append (pe_var (i := i) (c.c.ix k1) (c.c.vis k2) (nm_of k3).1 (nm_of k3).2) (pa_cons A.pe pa_nil (star_of k5 _ _)) rfl (by rw [st1]; rfl) k4 (star_of k5 _ _) rfl) rfl) fun D σ H ⟨A0, H0, F, P, ρ, r, o⟩ => ?_
  have r := r.sub (M2 := M.filter fun j => decide (j ∈ h0)) filt_sub
  have hiM' : i ∈ M.filter fun j => decide (j ∈ h0) := List.mem_filter.mpr ⟨hiM, decide_eq_true hi0⟩
  obtain ⟨a, dd, g0, g1, g2, ow⟩ := r.get hiM'
  have o : OutS X.K RX W A0 H0 F (M.filter fun j => decide (j ∈ h0)) (match ρ[i]? with
    | some (some (.lst xs)) => ev Γ G e (wipeE ρ h0) >>= fun d => must (decide (xs.length < SZ)) (.ok (.nx (ρ.set i (some (.lst (xs ++ [d]))))))
    | _ => .stuck) D := o
  rw [g2] at o
  cases ow with
  | dicT => exact o.elim
  | dicS => exact o.elim
  | @lst vs ds g3 g4 g5 =>
  refine ⟨.ref a, g1, .inl ⟨rfl, vs, SqL.of g3⟩, ?_⟩
  refine ⟨_, wipeE ρ h0, r.see fun j hj => of_decide_eq_true (filt_p j hj), ?_⟩
  have o : OutS X.K RX W A0 H0 F (M.filter fun j => decide (j ∈ h0)) (ev Γ G e (wipeE ρ h0) >>= fun d => must (decide (ds.length < SZ)) (.ok (.nx (ρ.set i (some (.lst (ds ++ [d]))))))) D := o
  refine o.bind r.same fun d v H1 _ e1 rv o1 => ?_
  obtain ⟨hz, o1⟩ := o1.must
  have hz := of_decide_eq_true hz
  have hl := g5.length
  refine ⟨a, vs, v, rfl, rfl, e1.lst g3, by rw [← SZ_eq]; omega, ?_⟩
  exact o1 _ _ _ ((r.up e1).write (p := (i, a)) g0 (.lst upd_same (by simp; omega) ((Reps.up (hid_up e1) _ _ g5).app (.cons rv .nil))))) (fun _ _ _ sts => by cases sts <;> rfl)
theorem oks_ext {i : Nat} {h0 : List Nat} {e : ME} : OkS fs Γ G RX n (.ext i h0 e) := .of (fun X W N sc M M' st c h => by
  obtain ⟨h1, h2⟩ := if_some (show (if (mthOk fs N sc "extend" i e st && decide (i ∈ M) && decide (i ∈ h0)) = true then some (M.filter fun j => decide (j ∈ h0)) else none) = some M' from h) rfl
  obtain ⟨h1, hi0⟩ := and4 h1
  obtain ⟨h1, hiM⟩ := and4 h1
  have hi0 := of_decide_eq_true hi0
  have hiM := of_decide_eq_true hiM
  cases h2
  obtain ⟨x, p, apos, y, pos, q, rfl, k1, k2, k3, k4, k5, k6⟩ := mth_shape h1
  have A := (all_ok (fs := fs) (Γ := Γ) (G := G) (RX := RX) (n := n) e).e X W N sc _ c.c k6
  have st1 := star1 k5 X.env
  refine PSimp (ps_expr (pe_bm F.plainAttrs_list F.slot_list_extend F.type_list_extend mt_extend (pe_var (i := i) (c.c.ix k1) (c.c.vis k2) (nm_of k3).1 (nm_of k3).2) (pa_cons A.pe pa_nil (star_of k5 _ _)) rfl (by rw [st1]; rfl) k4 (star_of k5 _ _) rfl) rfl) fun D σ H ⟨A0, H0, F, P, ρ, r, o⟩ => ?_
  have r := r.sub (M2 := M.filter fun j => decide (j ∈ h0)) filt_sub
  have hiM' : i ∈ M.filter fun j => decide (j ∈ h0) := List.mem_filter.mpr ⟨hiM, decide_eq_true hi0⟩
  obtain ⟨a, dd, g0, g1, g2, ow⟩ := r.get hiM'
  have o : OutS X.K RX W A0 H0 F (M.filter fun j => decide (j ∈ h0)) (match ρ[i]? with
    | some (some (.lst xs)) => ev Γ G e (wipeE ρ h0) >>= fun d => lstD d >>= fun ys => must (decide (xs.length + ys.length ≤ SZ)) (.ok (.nx (ρ.set i (some (.lst (xs ++ ys))))))
    | _ => .stuck) D := o
  rw [g2] at o
  cases ow with
  | dicT => exact o.elim
  | dicS => exact o.elim
  | @lst vs ds g3 g4 g5 =>
  refine ⟨.ref a, g1, .inl ⟨rfl, vs, SqL.of g3⟩, ?_⟩
  refine ⟨_, wipeE ρ h0, r.see fun j hj => of_decide_eq_true (filt_p j hj), ?_⟩
  have o : OutS X.K RX W A0 H0 F (M.filter fun j => decide (j ∈ h0)) (ev Γ G e (wipeE ρ h0) >>= fun d => lstD d >>= fun ys => must (decide (ds.length + ys.length ≤ SZ)) (.ok (.nx (ρ.set i (some (.lst (ds ++ ys))))))) D := o
  refine o.bind r.same fun d v H1 _ e1 rv o1 => ?_
  cases rv with
  | @lst b ws ys hb hz' hr =>
    have o1 : OutS X.K RX W A0 H0 F (M.filter fun j => decide (j ∈ h0)) (must (decide (ds.length + ys.length ≤ SZ)) (.ok (.nx (ρ.set i (some (.lst (ds ++ ys))))))) D := o1
    obtain ⟨hz, o1⟩ := o1.must
    have hz := of_decide_eq_true hz
    have hl := g5.length
    have hl2 := hr.length
    refine ⟨a, b, vs, ws, rfl, rfl, e1.lst g3, hid_same _ _ _ _ hb, by rw [← SZ_eq]; omega, ?_⟩
    exact o1 _ _ _ ((r.up e1).write (p := (i, a)) g0 (.lst upd_same (by simp; omega) ((Reps.up (hid_up e1) _ _ g5).app hr)))
  | _ => exact o1.elim) (fun _ _ _ sts => by cases sts <;> rfl)
theorem oks_asgD {i : Nat} {h0 : List Nat} {e : ME} : OkS fs Γ G RX n (.asgD i h0 e) := .of (fun X W N sc M M' st c h => by
  obtain ⟨h1, h2⟩ := if_some (show (if (asgOk fs N sc (.nm i) e st && freshD e) = true then some (i :: M.filter fun j => decide (j ∈ h0) && decide (j ≠ i)) else none) = some M' from h) rfl
  obtain ⟨h1, h3⟩ := and4 h1
  cases h2
  refine PSimp (as_okD c h1 h3) fun D σ H ⟨A0, H0, F, P, ρ, r, o⟩ => ?_
  have r := r.sub (M2 := M.filter fun j => decide (j ∈ h0) && decide (j ≠ i)) filt_sub
  refine ⟨_, wipeE ρ h0, r.see fun i hi => of_decide_eq_true (and4 (filt_p i hi)).1, ?_⟩
  have o : OutS X.K RX W A0 H0 F (i :: M.filter fun j => decide (j ∈ h0) && decide (j ≠ i)) (ev Γ G e (wipeE ρ h0) >>= fun d => ownD d >>= fun d => must (decide (i < ρ.length)) (.ok (.nx (ρ.set i (some d))))) D := o
  refine o.bind r.same fun d v H1 _ e1 rv o1 => ?_
  obtain ⟨p, rfl, q1, ow⟩ := rv
  have eo : ownD d = .ok d := by cases ow <;> rfl
  rw [eo] at o1
  have o1 : OutS X.K RX W A0 H0 F (i :: M.filter fun j => decide (j ∈ h0) && decide (j ≠ i)) (must (decide (i < ρ.length)) (.ok (.nx (ρ.set i (some d))))) D := o1
  obtain ⟨hl, o1⟩ := o1.must
  exact o1 _ _ _ (r.push e1 (fun hm => absurd rfl (of_decide_eq_true (and4 (filt_p i hm)).2)) (of_decide_eq_true hl) q1 ow)) (fun _ _ _ sts => by cases sts <;> rfl)
/-- o[k] = v of a list or a dict of one's own -/
def rStore (K : PySem.W.Frag) : TSet := fun o i v H Q => ∃ (a : Addr) (Hh : Hp) (d q e d' : D), o = .ref a ∧ Sm Hh H ∧ Own K H Hh a d ∧ Rep K Hh i q ∧ Rep K Hh v e ∧ storeD d q e = .ok d' ∧ ∀ ob, Own K (upd H a ob) Hh a d' → Q (upd H a ob)
theorem Reps.setAt {K : PySem.W.Frag} {H : Hp} : ∀ {vs : List V} {ds : List D} (i : Nat) {v : V} {d : D}, Reps K H vs ds → Rep K H v d → Reps K H (vs.set i v) (ds.set i d)
  | _, _, _, _, _, .nil, _ => .nil
  | _, _, 0, _, _, .cons _ t, r => .cons r t
  | _, _, i + 1, _, _, .cons a t, r => .cons a (Reps.setAt i t r)
theorem set_store {X : Cx} (px : PrX X) (hu : X.A.units + 120 < cLine) : PSet X (rStore X.K) := by
  intro pins s σ H o i v ov iv u Q I ro ri rv ⟨a, Hh, d, q, e, d', e0, sm, ow, rq, re, st, h⟩
  subst e0
  cases d with
  | lst xs =>
    cases q with
    | int k =>
      cases rq
      cases ow with
      | @lst vs _ h1 h2 h3 =>
        have st : (match atIx xs.length k with
          | some j => Res.ok (D.lst (xs.set j e))
          | none => .stuck) = .ok d' := st
        cases hj : atIx xs.length k with
        | none => rw [hj] at st; cases st
        | some j =>
          rw [hj] at st
          cases st
          have hx : ixN vs.length k = some j := by
            rw [h3.length]
            have : atIx xs.length k = ixN xs.length k := by
              unfold atIx ixN
              by_cases hk : 0 ≤ k
              · rw [if_pos hk, if_pos hk]
              · rw [if_neg hk, if_neg hk]
                by_cases h2 : 0 ≤ k + (xs.length : Int)
                · rw [if_pos h2, if_pos (by omega)]
                · rw [if_neg h2, if_neg (by omega)]
            rw [← this]; exact hj
          exact set_list pins s σ H (.ref a) (.int k) v ov iv u Q I ro ri rv ⟨a, vs, k, j, rfl, rfl, h1, hx, h _ (.lst upd_same (by simpa using h2) (Reps.setAt j h3 re))⟩
    | _ => cases st
  | dic t ks ds =>
    have st : must (keyOk t q && decide (ks.length < SZ)) (.ok (D.dic t (putD q e (ks, ds)).1 (putD q e (ks, ds)).2)) = Res.ok d' := by cases q <;> exact st
    cases hc : (keyOk t q && decide (ks.length < SZ)) with
    | false => rw [hc] at st; cases st
    | true =>
      rw [hc] at st
      cases st
      obtain ⟨c1, c2⟩ := and4 hc
      cases (show ov = Value.ref a from ro)
      exact d_setD px (by omega) I sm ow ri rq c1 rv re (of_decide_eq_true c2) fun ob s' I' ow' => ⟨_, I', h ob ow'⟩
  | _ => cases st
theorem storeD_noExc {d q e : D} {x : Ex} : storeD d q e ≠ .exc x := by
  intro h
  cases d with
  | lst xs =>
    cases q with
    | int k =>
      have h : (match atIx xs.length k with
          | some j => Res.ok (D.lst (xs.set j e))
          | none => .stuck) = .exc x := h
      cases hj : atIx xs.length k <;> rw [hj] at h <;> cases h
    | _ => cases h
  | dic t ks ds =>
    have st : must (keyOk t q && decide (ks.length < SZ)) (.ok (D.dic t (putD q e (ks, ds)).1 (putD q e (ks, ds)).2)) = Res.exc x := by cases q <;> exact h
    cases hc : (keyOk t q && decide (ks.length < SZ)) <;> rw [hc] at st <;> cases st
  | _ => cases h
theorem oks_put {i : Nat} {k v : ME} : OkS fs Γ G RX n (.put i k v) := .of (fun X W N sc M M' st c h => by
  obtain ⟨h1, h2⟩ := if_some (show (if (putOk fs N sc i k v st && decide (i ∈ M)) = true then some M else none) = some M' from h) rfl
  obtain ⟨h1, hiM⟩ := and4 h1
  have hiM := of_decide_eq_true hiM
  cases h2
  unfold putOk at h1
  split at h1
  rotate_left
  · cases h1
  rename_i x px0 y p1 w p2 hh
  obtain ⟨h1, k7⟩ := and4 h1
  obtain ⟨h1, k6⟩ := and4 h1
  obtain ⟨h1, k5⟩ := and4 h1
  obtain ⟨h1, k4⟩ := and4 h1
  obtain ⟨h1, k3⟩ := and4 h1
  obtain ⟨k1, k2⟩ := and4 h1
  have pv := ((all_ok (fs := fs) (Γ := Γ) (G := G) (RX := RX) (n := n) v).e X W N sc _ c.c k6).pe
  have pk := ((all_ok (fs := fs) (Γ := Γ) (G := G) (RX := RX) (n := n) k).e X W N sc _ c.c k5).pe
  have po := pe_var (X := X) (i := i) (pos := px0) (c.c.ix (of_decide_eq_true k1)) (c.c.vis k2) (nm_of k3).1 (nm_of k3).2
  have hg := pg_sub (pos := p1) po pk (set_store c.c.px c.c.hu) (by intro u; cases y <;> first | rfl | cases k4)
  refine PSimp (ps_asg (pos := p2) pv hg (by cases w <;> first | rfl | cases k7) (by cases w <;> first | rfl | cases k7) rfl) fun D σ H ⟨A0, H0, F, P, ρ, r, o⟩ => ?_
  obtain ⟨a, dd, g0, g1, g2, ow⟩ := r.get hiM
  have o : OutS X.K RX W A0 H0 F M (match ρ[i]? with
    | some (some o) => ev Γ G v ρ >>= fun x => must x.frozen (ev Γ G k ρ >>= fun y => must y.frozen (storeD o y x >>= fun o' => .ok (.nx (ρ.set i (some o')))))
    | _ => .stuck) D := o
  rw [g2] at o
  refine ⟨A0, ρ, r.full, ?_⟩
  refine OutS.bind (f := fun x => must x.frozen (ev Γ G k ρ >>= fun y => must y.frozen (storeD dd y x >>= fun o' => .ok (.nx (ρ.set i (some o')))))) o r.same fun d vx H1 _ e1 rv o1 => ?_
  obtain ⟨fz, o1⟩ := o1.must
  refine ⟨.ref a, g1, A0, ρ, (r.up e1).full, ?_⟩
  refine OutS.bind (f := fun y => must y.frozen (storeD dd y d >>= fun o' => .ok (.nx (ρ.set i (some o'))))) o1 (r.same.trans e1) fun q vq H2 _ e2 rq o2 => ?_
  obtain ⟨fz2, o2⟩ := o2.must
  have r2 := (r.up e1).up e2
  have rv' : Rep X.K (hid (adr P A0) H2) vx d := Rep.frz r2.lists d vx fz (Rep.up (hid_up e2) _ _ rv)
  have rq' : Rep X.K (hid (adr P A0) H2) vq q := Rep.frz r2.lists q vq fz2 rq
  have ow2 := ow.up (e1.trans e2).sm (hid_up (A := adr P A0) (e1.trans e2))
  cases hs : storeD dd q d with
  | exc x => exact absurd hs storeD_noExc
  | stuck => rw [hs] at o2; exact o2.elim
  | ok d' =>
    rw [hs] at o2
    exact ⟨a, hid (adr P A0) H2, dd, q, d, d', rfl, hid_sm _ _, ow2, rq', rv', hs, fun ob ow' => o2 _ _ _ (r2.write (p := (i, a)) g0 ow')⟩) (fun _ _ _ sts => by cases sts <;> rfl)
theorem pop_shape {N : List Str} {sc : Scope} {i : Nat} {e : Expr} (h : popX N sc i e = true) : ∃ x p apos pos, e = .Call (.Attribute (.Name x p) "pop" apos) [] [] pos ∧ N[i]? = some x ∧ visB sc x = true ∧ nmOk x = true ∧ (apos.endLine == pos.line) = true := by
  unfold popX at h
  split at h
  · obtain ⟨h, h5⟩ := and4 h
    obtain ⟨h, h4⟩ := and4 h
    obtain ⟨h, h3⟩ := and4 h
    obtain ⟨h1, h2⟩ := and4 h
    have h1 := of_decide_eq_true h1
    subst h1
    exact ⟨_, _, _, _, rfl, of_decide_eq_true h2, h3, h4, h5⟩
  · cases h
theorem Reps.dropLast {K : PySem.W.Frag} {H : Hp} {vs : List V} {ds : List D} (r : Reps K H vs ds) : Reps K H vs.dropLast ds.dropLast := by
  rw [List.dropLast_eq_take, List.dropLast_eq_take, r.length]
  exact r.take _
theorem oks_pop {i : Nat} : OkS fs Γ G RX n (.pop i) := .of (fun X W N sc M M' st c h => by
  obtain ⟨h1, h2⟩ := if_some (show (if (popOk N sc i st && decide (i ∈ M)) = true then some M else none) = some M' from h) rfl
  obtain ⟨h1, hiM⟩ := and4 h1
  have hiM := of_decide_eq_true hiM
  cases h2
  unfold popOk at h1
  split at h1
  rotate_left
  · cases h1
  obtain ⟨x, p, apos, pos, rfl, k1, k2, k3, k4⟩ := pop_shape h1
  refine PSimp (ps_expr (pe_bm0 F.plainAttrs_list F.slot_list_pop F.type_list_pop mt_pop (pe_var (i := i) (c.c.ix k1) (c.c.vis k2) (nm_of k3).1 (nm_of k3).2) rfl k4) rfl) fun D σ H ⟨A0, H0, F, P, ρ, r, o⟩ => ?_
  obtain ⟨a, dd, g0, g1, g2, ow⟩ := r.get hiM
  have o : OutS X.K RX W A0 H0 F M (match ρ[i]? with
    | some (some (.lst xs)) => must (!xs.isEmpty) (.ok (.nx (ρ.set i (some (.lst xs.dropLast)))))
    | _ => .stuck) D := o
  rw [g2] at o
  cases ow with
  | dicT => exact o.elim
  | dicS => exact o.elim
  | @lst vs ds g3 g4 g5 =>
  have o : OutS X.K RX W A0 H0 F M (must (!ds.isEmpty) (.ok (.nx (ρ.set i (some (.lst ds.dropLast)))))) D := o
  obtain ⟨hz, o⟩ := o.must
  have hl := g5.length
  have hne : 0 < vs.length := by
    rw [hl]
    cases ds with
    | nil => cases hz
    | cons _ _ => simp
  refine ⟨.ref a, g1, .inl ⟨rfl, vs, SqL.of g3⟩, a, vs, vs[vs.length - 1]'(by omega), rfl, rfl, g3, by simp [hne], ?_⟩
  exact o _ _ _ (r.write (p := (i, a)) g0 (.lst upd_same (by rw [List.length_dropLast]; omega) g5.dropLast))) (fun _ _ _ sts => by cases sts <;> rfl)
theorem oks_popA {t : MT} {i : Nat} : OkS fs Γ G RX n (.popA t i) := .of (fun X W N sc M M' st c h => by
  obtain ⟨h1, h2⟩ := if_some (show (if (popAOk N sc t i st && decide (i ∈ M) && decide (i ∉ t.slots)) = true then some (M.filter fun j => decide (j ∉ t.slots)) else none) = some M' from h) rfl
  obtain ⟨h1, hit⟩ := and4 h1
  obtain ⟨h1, hiM⟩ := and4 h1
  have hiM := of_decide_eq_true hiM
  have hit := of_decide_eq_true hit
  cases h2
  unfold popAOk at h1
  split at h1
  rotate_left
  · cases h1
  rename_i tg e p0 hh hh2
  obtain ⟨ht, h1⟩ := and4 h1
  obtain ⟨x, p, apos, pos, rfl, k1, k2, k3, k4⟩ := pop_shape h1
  have hg : PG X tg (gT X.K t) := pg_of c.c.hN c.c.nd c.c.sco (fun x => (c.fn x)) c.c.calm ht
  have plainS : swapsWithSole [tg] (.Call (.Attribute (.Name x p) "pop" apos) [] [] pos) p0.line X.env = pure false := by
    cases t with
    | nm i => cases tg <;> first | rfl | (simp [tgOk, chkT] at ht)
    | tp is => cases tg <;> first | rfl | (simp [tgOk, chkT] at ht)
  have hE : (assignEach [tg] X.env).map (·.2) = [assign tg X.env] := by
    cases tg <;> first | rfl | (cases t <;> cases ht)
  have noSw : swappedStores [tg] (.Call (.Attribute (.Name x p) "pop" apos) [] [] pos) X.env = pure none := by
    cases tg <;> rfl
  refine PSimp (ps_asg (pos := p0) (pe_bm0 F.plainAttrs_list F.slot_list_pop F.type_list_pop mt_pop (pe_var (i := i) (c.c.ix k1) (c.c.vis k2) (nm_of k3).1 (nm_of k3).2) rfl k4) hg plainS noSw hE) fun D σ H ⟨A0, H0, F, P, ρ, r, o⟩ => ?_
  have r := r.sub (M2 := M.filter fun j => decide (j ∉ t.slots)) filt_sub
  have hiM' : i ∈ M.filter fun j => decide (j ∉ t.slots) := List.mem_filter.mpr ⟨hiM, decide_eq_true hit⟩
  obtain ⟨a, dd, g0, g1, g2, ow⟩ := r.get hiM'
  have o : OutS X.K RX W A0 H0 F (M.filter fun j => decide (j ∉ t.slots)) (match ρ[i]? with
    | some (some (.lst xs)) => match xs.getLast? with
      | some d => bindT t d (ρ.set i (some (.lst xs.dropLast))) >>= fun ρ' => .ok (.nx ρ')
      | none => .stuck
    | _ => .stuck) D := o
  rw [g2] at o
  cases ow with
  | dicT => exact o.elim
  | dicS => exact o.elim
  | @lst vs ds g3 g4 g5 =>
  have o : OutS X.K RX W A0 H0 F (M.filter fun j => decide (j ∉ t.slots)) (match ds.getLast? with
      | some d => bindT t d (ρ.set i (some (.lst ds.dropLast))) >>= fun ρ' => .ok (.nx ρ')
      | none => .stuck) D := o
  cases hd : ds.getLast? with
  | none => rw [hd] at o; exact o.elim
  | some d =>
    rw [hd] at o
    have hl := g5.length
    rw [List.getLast?_eq_getElem?] at hd
    obtain ⟨v, hv, rv⟩ := g5.get hd
    rw [← hl] at hv
    refine ⟨.ref a, g1, .inl ⟨rfl, vs, SqL.of g3⟩, a, vs, v, rfl, rfl, g3, hv, ?_⟩
    have r2 := r.write (p := (i, a)) (ob := .lst vs.dropLast) (d := .lst ds.dropLast) g0 (.lst upd_same (by rw [List.length_dropLast]; omega) g5.dropLast)
    have hin : a ∈ adr _ A0 := List.mem_append_left A0 (List.mem_map.mpr ⟨(i, a), g0, rfl⟩)
    have o : OutS X.K RX W A0 H0 F (M.filter fun j => decide (j ∉ t.slots)) (bindT t d (ρ.set i (some (.lst ds.dropLast))) >>= fun ρ' => .ok (.nx ρ')) D := o
    cases hb : bindT t d (ρ.set i (some (.lst ds.dropLast))) with
    | ok ρ1 =>
      rw [hb] at o
      exact r2.setT (by rw [hid_upd hin]; exact rv) hb (fun j hj hm => absurd hj (of_decide_eq_true (filt_p j hm))) fun σ1 q => o _ _ _ q
    | exc x => exact absurd hb bindT_noExc
    | stuck => rw [hb] at o; exact o.elim) (fun _ _ _ sts => by cases sts <;> rfl)
theorem oks_rais {cn : String} {e : ME} : OkS fs Γ G RX n (.rais cn e) := .of (fun X W N sc M M' st c h => by
  obtain ⟨h1, h2⟩ := if_some (show (if raisOk fs N sc cn e st = true then some M else none) = some M' from h) rfl
  cases h2
  unfold raisOk at h1
  split at h1
  · rename_i x p y pos pos'
    simp only [Bool.and_eq_true, decide_eq_true_eq] at h1
    obtain ⟨⟨⟨⟨⟨k1, rfl⟩, k2⟩, k3⟩, k4⟩, k5⟩ := h1
    obtain ⟨k6, k7⟩ := c.c.exc cn k1
    have A := (all_ok (fs := fs) (Γ := Γ) (G := G) (RX := RX) (n := n) e).e X W N sc _ c.c k5
    have hx := c.c.rx
    subst hx
    have hr : Room 2 X.A := c.c.room.mono (by unfold lev; omega)
    refine PSimp (ps_rais (α := Fl) (rel := fun (_ : Hp) (_ : Unit) _ => False) c.c.calm c.c.takes hr k7 k6 (c.c.gl k2) k3 k4 A.pe) fun D σ H ⟨A0, H0, F, P, ρ, r, o⟩ => ?_
    refine ⟨A0, ρ, r.full, fun _ _ => True, ?_⟩
    have o : OutS X.K (RXc X.K) W A0 H0 F M (ev Γ G e ρ >>= fun d => match d with
      | .int i => (Res.exc ⟨cn, .int i⟩ : Res Fl)
      | _ => .stuck) D := o
    revert o
    generalize (ev Γ G e ρ >>= fun d => match d with
      | .int i => (Res.exc ⟨cn, .int i⟩ : Res Fl)
      | _ => .stuck) = w
    intro o
    cases w with
    | ok a => exact fun b H' _ z => z.elim
    | exc x => exact fun cls dx H' e1 q => o σ H' cls dx (r.same.trans e1) q
    | stuck => exact o
  · cases h1) (fun _ _ _ sts => by cases sts <;> rfl)
theorem CtxS.tr {N : List Str} {sc : Scope} {X : Cx} {W W' : WX} (c : CtxS fs Γ G RX n N sc X W) {pn : List (Addr × Obj)} {xe : Value → Shared → Prop} (tk : Takes (X.tr pn xe) W') (p : PassesOwn (model X.prog X.w) X.A X.env xe) : CtxS fs Γ G RX n N sc (X.tr pn xe) W' :=
  ⟨⟨c.c.hN, c.c.nd, c.c.sco, c.c.kind, c.c.calm, tk, c.c.room, fun h => ⟨(c.c.lam h).room, (c.c.lam h).tab⟩, c.c.rx, c.c.exc, c.c.told, c.c.trs, c.c.fns, c.c.fnsN, c.c.blt, c.c.cons, ⟨c.c.px.p, c.c.px.w⟩⟩, c.fn, p, c.stk, c.frm⟩
/-- an except suite -/
theorem hdl_ok {N : List Str} {sc : Scope} {X : Cx} {W : WX} {M Mh : List Nat} {h : MS} {s2 : Stmt} (c : CtxS fs Γ G RX n N sc X W) (hH : chkH N sc M h s2 = some Mh) :
    ∃ tH : TS, (∀ (a : Addr) (oe : Obj) (pn : List (Addr × Obj)), PSs (X.suite a ((a, oe) :: pn)) [s2] tH) ∧
      ∀ D σ H A0 H0 F P ρ, RS X.K A0 H0 F M P ρ σ H → OutS X.K RX W A0 H0 F Mh (evS Γ G h ρ) D → tH D σ H := by
  unfold chkH at hH
  split at hH
  · rename_i i h0 j x p nm apos y p2 pos p3
    obtain ⟨hh, e⟩ := if_some hH rfl
    cases e
    simp only [Bool.and_eq_true, decide_eq_true_eq] at hh
    obtain ⟨⟨⟨⟨⟨⟨⟨⟨⟨rfl, k1⟩, k2⟩, k3⟩, k4⟩, k5⟩, k6⟩, k7⟩, k8⟩, k9⟩ := hh
    have pv1 : ∀ (a : Addr) (oe : Obj) (pn : List (Addr × Obj)), PE (X.suite a ((a, oe) :: pn)) (.Name x p) (tVar i) := fun a oe pn => pe_var (i := i) (show (X.suite a ((a, oe) :: pn)).N[i]? = some x from c.c.ix k1) (show Vis (X.suite a ((a, oe) :: pn)).env.scope x from c.c.vis k2) (nm_of k3).1 (nm_of k3).2
    have pv2 : ∀ (a : Addr) (oe : Obj) (pn : List (Addr × Obj)), PE (X.suite a ((a, oe) :: pn)) (.Name y p2) (tVar j) := fun a oe pn => pe_var (i := j) (show (X.suite a ((a, oe) :: pn)).N[j]? = some y from c.c.ix k5) (show Vis (X.suite a ((a, oe) :: pn)).env.scope y from c.c.vis k6) (nm_of k7).1 (nm_of k7).2
    have pe : ∀ (a : Addr) (oe : Obj) (pn : List (Addr × Obj)), PE (X.suite a ((a, oe) :: pn)) (.Call (.Attribute (.Name x p) "append" apos) [.Name y p2] [] pos) (tBM X.K "list" rAppend (tVar i) (tCons (tVar j) tNil)) := fun a oe pn => pe_bm PySem.F.plainAttrs_list PySem.F.slot_list_append PySem.F.type_list_append mt_append (pv1 a oe pn) (pa_cons (pv2 a oe pn) pa_nil rfl) rfl rfl k4 rfl rfl
    refine ⟨_, fun a oe pn => pss_one (ps_expr (pe a oe pn)), fun D σ H A0 H0 F P ρ r o => ?_⟩
    have r := r.sub (M2 := M.filter fun k => decide (k ∈ h0)) filt_sub
    have hiM : i ∈ M.filter fun k => decide (k ∈ h0) := List.mem_filter.mpr ⟨k8, decide_eq_true k9⟩
    obtain ⟨a, dd, g0, g1, g2, ow⟩ := r.get hiM
    have o : OutS X.K RX W A0 H0 F (M.filter fun k => decide (k ∈ h0)) (match ρ[i]? with
      | some (some (.lst xs)) => (wipeE ρ h0).get j >>= fun d => must (decide (xs.length < SZ)) (.ok (.nx (ρ.set i (some (.lst (xs ++ [d]))))))
      | _ => .stuck) D := o
    rw [g2] at o
    cases ow with
    | dicT => exact o.elim
    | dicS => exact o.elim
    | @lst vs ds g3 g4 g5 =>
      have o : OutS X.K RX W A0 H0 F (M.filter fun k => decide (k ∈ h0)) ((wipeE ρ h0).get j >>= fun d => must (decide (ds.length < SZ)) (.ok (.nx (ρ.set i (some (.lst (ds ++ [d]))))))) D := o
      have re := r.see (h := h0) fun k hk => of_decide_eq_true (filt_p k hk)
      cases hj : (wipeE ρ h0).get j with
      | ok d =>
        rw [hj] at o
        have hj2 : (wipeE ρ h0)[j]? = some (some d) := by
          unfold EnvD.get at hj
          split at hj
          · rename_i q
            cases hj
            exact q
          · cases hj
        obtain ⟨v, q1, q2⟩ := re.vals j d hj2
        obtain ⟨hz, o⟩ := OutS.must o
        have hz := of_decide_eq_true hz
        have hl := g5.length
        refine ⟨.ref a, g1, .inl ⟨rfl, vs, SqL.of g3⟩, v, q1, a, vs, v, rfl, rfl, g3, by rw [← SZ_eq]; omega, ?_⟩
        exact o _ _ _ (r.write (p := (i, a)) g0 (.lst upd_same (by rw [List.length_append, List.length_singleton]; omega) (g5.app (.cons q2 .nil))))
      | exc x => rw [hj] at o; unfold EnvD.get at hj; split at hj <;> cases hj
      | stuck => rw [hj] at o; exact o.elim
  · refine ⟨_, fun a oe pn => pss_one (ps_ret pe_non), fun D σ H A0 H0 F P ρ r o => ?_⟩
    cases hH
    exact o .non H r.same .non
  · cases hH
theorem oks_tr {cn : String} {b h : MS} : OkS fs Γ G RX n (.tr cn b h) := .of (fun X W N sc M M' st c hh => by
  unfold chk1 at hh
  split at hh
  · rename_i s1 x np s2 p1 p2
    obtain ⟨h1, h2⟩ := if_some hh rfl
    simp only [Bool.and_eq_true, decide_eq_true_eq] at h1
    obtain ⟨⟨⟨k1, rfl⟩, k2⟩, k3⟩ := h1
    cases hB : chkB fs N sc M b s1 with
    | none => rw [hB] at h2; cases h2
    | some Mb =>
      cases hH : chkH N sc M h s2 with
      | none => rw [hB, hH] at h2; cases h2
      | some Mh =>
        rw [hB, hH] at h2
        have h2 := Option.some.inj h2
        obtain ⟨tH, hS, hR⟩ := hdl_ok c hH
        obtain ⟨hRm, hm⟩ := c.c.trs cn k1
        have nx : Names X (Str.ofString cn) (.ref (xa X.K cn)) := ⟨c.c.gl k2, (nm_of k3).1, .inl hm⟩
        have suite : ∀ D σ H A0 H0 F P ρ, RS X.K A0 H0 F M P ρ σ H → OutS X.K RX W A0 H0 F M' (evS Γ G h ρ) D → tH D σ H := fun D σ H A0 H0 F P ρ r o => by
          refine hR D σ H A0 H0 F P ρ r ?_
          cases dh : dead h with
          | true => exact o.dead fun ρ' => dead_ev h ρ ρ' dh
          | false =>
            refine o.weak fun i hi => ?_
            rw [← h2, dh] at hi
            split at hi
            · exact hi
            · rw [if_neg (by decide)] at hi
              exact of_decide_eq_true (filt_p i hi)
        have caught : ∀ {D : Ends} {σ : L2.St} {H H1 : Hp} {A0 H0 F P ρ} {x : Ex} {cls : Value} {dx : Option Addr}, RS X.K A0 H0 F M P ρ σ H → Same H H1 → RX H1 x cls dx →
            OutS X.K RX W A0 H0 F M' (match catB cn x.cls with | true => evS Γ G h ρ | false => .exc x) D → wOnly X.K (.ref (xa X.K cn)) (fun _ _ _ => tH) W D cls dx σ H1 := fun {D σ H H1 A0 H0 F P ρ x cls dx} r e1 rx o => by
          have rx' := rx
          rw [c.c.rx] at rx'
          obtain ⟨q1, q2, q3, _⟩ := rx'
          refine ⟨catB cn x.cls, by rw [q2]; exact q3 cn hRm, fun hb a na => ?_, fun hb => ?_⟩
          · rw [hb] at o
            exact suite D σ H1 A0 H0 F P ρ (r.up e1) o
          · rw [hb] at o
            exact o σ H1 cls dx (r.same.trans e1) rx
        unfold chkB at hB
        split at hB
        · rename_i t h0 e st
          obtain ⟨a1, a2⟩ := if_some hB rfl
          cases a2
          have db : dead (.asg t h0 e) = false := rfl
          refine PSimp (ps_try_only (tb := fun W' => tAsg (tE X.K RX W' (ev Γ G e)) (gT X.K t)) (ts := fun _ _ _ => tH) c.stk c.frm nx c.c.takes (fun W' pn xe tk p => pss_one (as_ok (c.tr tk p) a1).1) fun a oe cls d pn _ _ => hS a oe pn) fun D σ H ⟨A0, H0, F, P, ρ, r, o⟩ => ?_
          have r1 := r.sub (M2 := M.filter fun i => decide (i ∈ h0) && decide (i ∉ t.slots)) filt_sub
          refine ⟨_, wipeE ρ h0, r1.see fun i hi => of_decide_eq_true (and4 (filt_p i hi)).1, ?_⟩
          have o : OutS X.K RX W A0 H0 F M' (match (ev Γ G e (wipeE ρ h0) >>= fun d => bindT t d ρ >>= fun ρ' => Res.ok (Fl.nx ρ')) with
            | .exc x => match catB cn x.cls with
              | true => evS Γ G h ρ
              | false => .exc x
            | r => r) D := o
          cases he : ev Γ G e (wipeE ρ h0) with
          | ok d =>
            rw [he] at o
            intro v H1 e1 rv
            have o : OutS X.K RX W A0 H0 F M' (match (bindT t d ρ >>= fun ρ' => Res.ok (Fl.nx ρ')) with
              | .exc x => match catB cn x.cls with
                | true => evS Γ G h ρ
                | false => .exc x
              | r => r) D := o
            cases hb : bindT t d ρ with
            | ok ρ1 =>
              rw [hb] at o
              have o : OutS X.K RX W A0 H0 F M' (.ok (.nx ρ1)) D := o
              have o := o.weak (M2 := M.filter fun i => decide (i ∈ h0) && decide (i ∉ t.slots)) fun i hi => by
                rw [← h2, db] at hi
                split at hi
                · rename_i z; cases z
                · split at hi
                  · exact hi
                  · exact filt_sub i hi
              exact (r1.up e1).setT rv hb (fun i hi hm => absurd hi (of_decide_eq_true (and4 (filt_p i hm)).2)) fun σ1 q => o _ _ _ q
            | exc x => exact absurd hb bindT_noExc
            | stuck => rw [hb] at o; exact o.elim
          | exc x =>
            rw [he] at o
            intro cls dx H1 e1 rx
            exact caught r e1 rx o
          | stuck => rw [he] at o; exact o.elim
        · rename_i e st
          split at hB
          · rename_i x pos
            obtain ⟨a1, a2⟩ := if_some hB rfl
            refine PSimp (ps_try_only (tb := fun W' => tRet (tE X.K RX W' (ev Γ G e))) (ts := fun _ _ _ => tH) c.stk c.frm nx c.c.takes (fun W' pn xe tk p => pss_one (ps_ret ((all_ok (fs := fs) (Γ := Γ) (G := G) (RX := RX) (n := n) e).e _ W' N sc _ (c.tr tk p).c a1).pe)) fun a oe cls d pn _ _ => hS a oe pn) fun D σ H ⟨A0, H0, F, P, ρ, r, o⟩ => ⟨A0, ρ, r.full, ?_⟩
            have o : OutS X.K RX W A0 H0 F M' (match (ev Γ G e ρ >>= fun d => Res.ok (Fl.rt d)) with
              | .exc x => match catB cn x.cls with
                | true => evS Γ G h ρ
                | false => .exc x
              | r => r) D := o
            cases he : ev Γ G e ρ with
            | ok d =>
              rw [he] at o
              exact fun v H1 e1 rv => o v H1 (r.same.trans e1) rv
            | exc x =>
              rw [he] at o
              intro cls dx H1 e1 rx
              exact caught r e1 rx o
            | stuck => rw [he] at o; exact o.elim
          · cases hB
        · cases hB
  · cases hh) (fun _ _ _ sts => by cases sts <;> rfl)
theorem all_oks : ∀ m : MS, OkS fs Γ G RX n m := by
  intro m
  induction m with
  | nil => exact oks_nil
  | cons s r h1 h2 => exact oks_cons h1 h2
  | skip => exact oks_skip
  | asg t h e => exact oks_asg
  | asgN t e => exact oks_asgN
  | asgF i h e => exact oks_asgF
  | app i h e => exact oks_app
  | ext i h e => exact oks_ext
  | ife c a b h1 h2 => exact oks_ife h1 h2
  | fr t h it b h1 => exact oks_fr h1
  | whl c b h1 => exact oks_whl h1
  | ret e => exact oks_ret
  | asgD i h e => exact oks_asgD
  | put i k v => exact oks_put
  | pop i => exact oks_pop
  | popA t i => exact oks_popA
  | rais c e => exact oks_rais
  | tr c b h _ _ => exact oks_tr
end
end Snd
namespace Snd
open PySem PySem.Spec PyProof.Rows L2 Dt
variable [PrW]
/-! ### defs that hand back a new list -/
def noRet : MS → Bool
  | .nil => true
  | .skip => true
  | .asg _ _ _ => true
  | .rais _ _ => true
  | .cons a b => noRet a && noRet b
  | .ife _ a b => noRet a && noRet b
  | _ => false
def newFn : MS → Bool
  | .cons (.ret e) .nil => fresh e
  | .cons s r => noRet s && newFn r
  | _ => false
section
variable {fs : Sig} {Γ : String → List D → Res D} {G : String → Option D} {RX : RXT} {n : Nat}
theorem noRet_ev : ∀ {m : MS}, noRet m = true → ∀ (ρ : EnvD) (d : D), evS Γ G m ρ ≠ .ok (.rt d) := by
  intro m
  induction m with
  | nil => intro _ ρ d h; cases h
  | skip => intro _ ρ d h; cases h
  | asg t h0 e =>
    intro _ ρ d h
    have h : (ev Γ G e (wipeE ρ h0) >>= fun d => bindT t d ρ >>= fun ρ' => .ok (Fl.nx ρ')) = .ok (.rt d) := h
    cases he : ev Γ G e (wipeE ρ h0) with
    | ok x =>
      rw [he] at h
      have h : (bindT t x ρ >>= fun ρ' => .ok (Fl.nx ρ')) = .ok (.rt d) := h
      cases hb : bindT t x ρ with
      | ok y => rw [hb] at h; cases h
      | exc y => rw [hb] at h; cases h
      | stuck => rw [hb] at h; cases h
    | exc x => rw [he] at h; cases h
    | stuck => rw [he] at h; cases h
  | rais c e =>
    intro _ ρ d h
    have h : (ev Γ G e ρ >>= fun d => match d with
      | .int i => Res.exc (α := Fl) ⟨c, .int i⟩
      | _ => .stuck) = .ok (.rt d) := h
    cases he : ev Γ G e ρ with
    | ok x =>
      rw [he] at h
      cases x <;> cases h
    | exc x => rw [he] at h; cases h
    | stuck => rw [he] at h; cases h
  | cons a b h1 h2 =>
    intro hn ρ d h
    obtain ⟨n1, n2⟩ := and4 hn
    have h : (match evS Γ G a ρ with
      | .ok (.nx ρ') => evS Γ G b ρ'
      | q => q) = .ok (.rt d) := h
    cases he : evS Γ G a ρ with
    | ok f =>
      cases f with
      | nx ρ' => rw [he] at h; exact h2 n2 ρ' d h
      | rt x => exact h1 n1 ρ x he
    | exc x => rw [he] at h; cases h
    | stuck => rw [he] at h; cases h
  | ife c a b h1 h2 =>
    intro hn ρ d h
    obtain ⟨n1, n2⟩ := and4 hn
    have h : (ev Γ G c ρ >>= fun x => blD x >>= fun k => match k with
      | true => evS Γ G a ρ
      | false => evS Γ G b ρ) = .ok (.rt d) := h
    cases he : ev Γ G c ρ with
    | ok x =>
      rw [he] at h
      have h : (blD x >>= fun k => match k with
        | true => evS Γ G a ρ
        | false => evS Γ G b ρ) = .ok (.rt d) := h
      cases hb : blD x with
      | ok k =>
        rw [hb] at h
        cases k with
        | true => exact h1 n1 ρ d h
        | false => exact h2 n2 ρ d h
      | exc y => rw [hb] at h; cases h
      | stuck => rw [hb] at h; cases h
    | exc x => rw [he] at h; cases h
    | stuck => rw [he] at h; cases h
  | _ => intro hn; cases hn
/-- what a suite that hands back a new list comes to -/
def OutN (K : PySem.W.Frag) (RX : RXT) (W : WX) (A0 : List Addr) (H0 : Hp) (r : Res Fl) (Dn : Ends) : Prop := match r with
  | .ok (.nx _) => False
  | .ok (.rt d) => ∃ ds, d = .lst ds ∧ ∀ v H, Same H0 H → relF K A0 H0 H v ds → Dn.rt v H
  | .exc e => ∀ σ H c dx, Same H0 H → RX H e c dx → W c dx σ H
  | .stuck => False
theorem oks_new : ∀ {m : MS}, newFn m = true → ∀ (X : Cx) (W : WX) (N : List Str) (sc : Scope) (M M' : List Nat) (sts : List Stmt), CtxS fs Γ G RX n N sc X W → chkS fs N sc M m sts = some M' →
    PSs X sts (fun Dn σ H => ∃ A0 H0 F P ρ, RS X.K A0 H0 F M P ρ σ H ∧ OutN X.K RX W A0 H0 (evS Γ G m ρ) Dn) := by
  intro m
  induction m with
  | cons s r _ ih =>
    intro hn X W N sc M M' sts c h
    cases sts with
    | nil => cases h
    | cons st sts =>
      have h : (match chk1 fs N sc M s st with
        | some M1 => chkS fs N sc M1 r sts
        | none => none) = some M' := h
      cases hs : chk1 fs N sc M s st with
      | none => rw [hs] at h; cases h
      | some M1 =>
        rw [hs] at h
        have hr : chkS fs N sc M1 r sts = some M' := h
        clear h
        by_cases hlast : ∃ e, s = .ret e ∧ r = .nil
        · obtain ⟨e, rfl, rfl⟩ := hlast
          have hf : fresh e = true := hn
          have hs2 := hs
          unfold chk1 at hs2
          split at hs2
          · rename_i x pos
            obtain ⟨h1, h2⟩ := if_some hs2 rfl
            have A := (all_ok (fs := fs) (Γ := Γ) (G := G) (RX := RX) (n := n) e).e X W N sc _ c.c h1
            have hsts : sts = [] := by
              cases sts with
              | nil => rfl
              | cons _ _ => cases hr
            subst hsts
            refine PSsimp (pss_one (ps_ret (A.pf hf))) fun D σ H ⟨A0, H0, F, P, ρ, r, o⟩ => ⟨A0, ρ, r.full, ?_⟩
            have o : OutN X.K RX W A0 H0 (match (ev Γ G e ρ >>= fun d => Res.ok (Fl.rt d)) with
              | .ok (.nx ρ') => evS Γ G .nil ρ'
              | q => q) D := o
            show Out RX W (relF X.K A0 H) (ev Γ G e ρ >>= lstD) σ H D.rt
            cases he : ev Γ G e ρ with
            | ok d =>
              rw [he] at o
              obtain ⟨ds, rfl, o⟩ := o
              exact fun v H1 e1 q => o v H1 (r.same.trans e1) (relF_up r.same q)
            | exc x =>
              rw [he] at o
              exact fun c dx H1 e1 q => o σ H1 c dx (r.same.trans e1) q
            | stuck =>
              rw [he] at o
              exact o.elim
          · cases hs2
        · have hn2 : noRet s = true ∧ newFn r = true := by
            unfold newFn at hn
            split at hn
            · rename_i e he
              cases he
              exact absurd ⟨_, rfl, rfl⟩ hlast
            · rename_i s' r' _ he
              cases he
              exact and4 hn
            · cases hn
          refine PSsimp (pss_cons ((all_oks (fs := fs) (Γ := Γ) (G := G) (RX := RX) (n := n) s).one X W N sc M M1 st c hs) (ih hn2.2 X W N sc M1 M' sts c hr)) fun D σ H ⟨A0, H0, F, P, ρ, q, o⟩ => ⟨A0, H0, F, P, ρ, q, ?_⟩
          have o : OutN X.K RX W A0 H0 (match evS Γ G s ρ with
            | .ok (.nx ρ') => evS Γ G r ρ'
            | q => q) D := o
          cases he : evS Γ G s ρ with
          | ok f =>
            rw [he] at o
            cases f with
            | nx ρ1 => exact fun P1 σ1 H1 q1 => ⟨A0, H0, F, P1, ρ1, q1, o⟩
            | rt d => exact absurd he (noRet_ev hn2.1 ρ d)
          | exc e => rw [he] at o; exact o
          | stuck => rw [he] at o; exact o
  | _ => intro hn; cases hn
end
end Snd
namespace Snd
open PySem PySem.Spec PyProof.Rows L2 Dt
variable [PrW]

/-- a def of the row against one of ours -/
structure FnFact (fs : Sig) (lam : String → Bool) (T : String → Option Fn) (pn : String → List Str) (K : PySem.W.Frag) (mg : Str → Option Value) (f : String) : Prop where
  ex : ∃ (a : Addr) (fd : FuncData) (N : List Str) (x qual : Str) (params : Arguments) (body : List Stmt) (scope : Scope) (Fm : Fn), mg (Str.ofString f) = some (.ref a) ∧
    (∀ (kV doc pm : Value) (an : Option Addr) (cdv ct : Value) (us : List Value), us.length = (pn f).length → bindArgs (PySem.W.fnOf x qual params body scope .none kV doc pm an cdv ct) ⟨us, []⟩ = pure ((pn f).zip us)) ∧ FunD K x qual params body scope [] [] a fd ∧ FnScope N (pn f) scope ∧ T f = some Fm ∧
    (f ∈ fs.news → newFn Fm.body = true) ∧ Fm.np = (pn f).length ∧ Fm.nn = N.length ∧ (chkS { fs with lam := lam f } N scope [] Fm.body body).isSome = true ∧
    (lam f = true → a = He.fAd K (Str.ofString f, none) ∧ ((He.cT K (Str.ofString f, none)).2, qual ++ ".<locals>." ++ "<lambda>") ∈ PrW.T ∧ ∀ p ∈ PrW.T, p.1 = (He.cT K (Str.ofString f, none)).2 → p.2 = qual ++ ".<locals>." ++ "<lambda>")
/-- an exception class of the program's top -/
structure ExcQ (K : PySem.W.Frag) (mg : Str → Option Value) (c : String) : Prop where
  inn : c ∈ excs
  gC : mg (Str.ofString c) = some (.ref (xa K c))
  oex : OexC K (xa K c)
  at_ : PySem.W.findIn K (.ref (xa K c)) "at" = some none
  xm : XM K c
  ini : ∃ (fI : Addr) (fd : FuncData) (x qual : Str) (params : Arguments) (body : List Stmt) (scope : Scope) (ps : List Str), PySem.W.findIn K (.ref (xa K c)) "__init__" = some (some (.ref fI)) ∧ PySem.W.typeIn K (.ref fI) = some (.type "function") ∧ Binds K fd ps [] ∧
    FunD K x qual params body scope [] [] fI fd ∧ FnScope ps ps scope ∧ initB ps scope body = true
  vV : PySem.W.findCls K (.type "ValueError") (.type "type") "__init__" = some (.val (.builtin "ValueError.__init__"))
structure Prg (fs : Sig) (lam : String → Bool) (T : String → Option Fn) (pn : String → List Str) (G : String → Option D) (K : PySem.W.Frag) (mg : Str → Option Value) : Prop where
  fns : ∀ f ∈ fs.fs, FnFact fs lam T pn K mg f
  news : ∀ f ∈ fs.news, f ∈ fs.fs
  blt : ∀ b ∈ bltNames, mg (Str.ofString b) = none
  cons : ∀ c d, G c = some d → ∃ v u, mg (Str.ofString c) = some u ∧ RelV v u ∧ ∀ H, Rep K H v d
  exc : ∀ c ∈ fs.exs, ExcQ K mg c
  told : fs.told = true → ToldP K mg
  trs : ∀ r ∈ fs.trs, r ∈ PrW.R ∧ mg (Str.ofString r) = some (.ref (xa K r))
/-- the tables of the defs that make lambdas -/
def TB (lam : String → Bool) (K : PySem.W.Frag) (mg : Str → Option Value) (base : Heap) : Prop := ∀ f, lam f = true → LamX.TabB base mg (He.cT K (Str.ofString f, none)).1 (He.cT K (Str.ofString f, none)).2
theorem ExcQ.p {K : PySem.W.Frag} {mg : Str → Option Value} {c : String} (h : ExcQ K mg c) (hV : mg "ValueError" = none) (P : Program) (w : World) (base : Heap) : ExcP K mg P w base c := by
  obtain ⟨fI, fd, x, qual, params, body, scope, ps, h1, h2, h3, h4, h5, h6⟩ := h.ini
  exact ⟨h.gC, h.oex, h.at_, h.xm, fI, fd, ps, h1, h2, h3, init_ok h4 h5 h6 hV h.vV⟩
section
variable {fs : Sig} {lam : String → Bool} {T : String → Option Fn} {pn : String → List Str} {G : String → Option D} {RX : RXT} {P : Program} {w : World} {K : PySem.W.Frag} {mg : Str → Option Value}
theorem Reps.of_start {H : Hp} {A : List Addr} {vs : List V} {ds : List D} (h : Reps K (hid A H) vs ds) (l : Live A H) (lt : TabsW H) (n : Nat) : RE K A H (vs.map some ++ List.replicate (n - vs.length) none) (ds.map some ++ List.replicate (n - vs.length) none) := by
  refine ⟨l, lt, by simp [h.length], fun i d e => ?_⟩
  have hl := h.length
  by_cases hi : i < ds.length
  · rw [List.getElem?_append_left (by simpa using hi), List.getElem?_map] at e
    cases hd : ds[i]? with
    | none => rw [hd] at e; cases e
    | some d' =>
      rw [hd] at e
      cases e
      obtain ⟨v, h1, h2⟩ := h.get hd
      exact ⟨v, by rw [List.getElem?_append_left (by simp; omega), List.getElem?_map, h1]; rfl, h2⟩
  · rw [List.getElem?_append_right (by simp; omega), List.getElem?_replicate] at e
    split at e <;> cases e
theorem must_assoc {α β : Type} {c : Bool} {r : Res α} {k : α → Res β} : (must c r >>= k) = must c (r >>= k) := by cases c <;> rfl
theorem fn_ok' (hP : PrW.P = P) (hw : PrW.w = w) (h : Prg fs lam T pn G K mg) : ∀ (n : Nat) (f : String), f ∈ fs.fs → ∃ a fd, mg (Str.ofString f) = some (.ref a) ∧ PySem.W.keepIn K (.ref a) = true ∧ Binds K fd (pn f) [] ∧ (∀ (s : Shared) (us : List Value), us.length = (pn f).length → BindsTo s fd ⟨us, []⟩ ((pn f).zip us)) ∧
    ∀ base : Heap, TB lam K mg base → FnOk P w K mg base (L2.CX P w) (lev n) a fd (pn f) (spF K (RXc K) (run T G n f)) ∧ (f ∈ fs.news → FnOk P w K mg base (L2.CX P w) (lev n) a fd (pn f) (spN K (RXc K) (run T G n f))) := by
  intro n
  induction n with
  | zero =>
    intro f hf
    obtain ⟨a, fd, N, x, qual, params, body, scope, Fm, h1, h2, h3, _⟩ := (h.fns f hf).ex
    exact ⟨a, fd, h1, h3.kp, h3.bindsN h2, h3.bindsA h2, fun base _ => ⟨⟨fun vs H Q E ⟨A, ds, _, _, _, q⟩ => q.elim, fun A outer s H args us vs Q E _ _ _ _ ⟨_, ds, _, _, _, q⟩ => q.elim⟩, fun _ => ⟨fun vs H Q E ⟨A, ds, _, _, _, q⟩ => q.elim, fun A outer s H args us vs Q E _ _ _ _ ⟨_, ds, _, _, _, q⟩ => q.elim⟩⟩⟩
  | succ n ih =>
    intro f hf
    obtain ⟨a, fd, N, x, qual, params, body, scope, Fm, h1, h2, h3, h4, h5, hnw, h6, h7, h8, h9⟩ := (h.fns f hf).ex
    refine ⟨a, fd, h1, h3.kp, h3.bindsN h2, h3.bindsA h2, fun base tb => ?_⟩
    obtain ⟨oc, od, dV, kV, doc, pm, an, cdv, ct, osl, rfl, lk, hcd, _, _⟩ := h3.ex
    obtain ⟨M', hM⟩ := Option.isSome_iff_exists.mp h8
    have unf : ∀ ds, run T G (n + 1) f ds = must (ds.length == Fm.np) (finish (evS (run T G n) G Fm.body (ds.map some ++ List.replicate (Fm.nn - Fm.np) none))) := fun ds => by
      show (match T f with
        | some F => must (ds.length == F.np) (finish (evS (run T G n) G F.body (ds.map some ++ List.replicate (F.nn - F.np) none)))
        | none => .stuck) = _
      rw [h5]
    have vE := h.blt "ValueError" (by decide)
    have cx : ∀ (A : Around) (outer : List PySem.Env) (s : Shared) (H : Hp) (E : XK), Room (lev n + 2) (A.deeper (envOfC qual scope s.heap.objs.size a cdv)) → CtxS { fs with lam := lam f } (run T G n) G (RXc K) n N scope (cxOf (L2.CX P w) P w K mg base N qual scope a cdv A outer s H E) (fun c d _ H' => E c d H') := fun A outer s H E hr => by
      have lamF : ({ fs with lam := lam f } : Sig).lam = true → LamF n (cxOf (L2.CX P w) P w K mg base N qual scope a cdv A outer s H E) := fun hl => by
        obtain ⟨k1, k2, k3⟩ := h9 hl
        obtain ⟨c0, hc0⟩ := He.codeIn_ref hcd
        have e1 : He.codeOf K (Str.ofString f, none) = c0 := He.codeOf_eq (by rw [← k1]; exact lk) hc0
        have t := tb f hl
        refine ⟨hr, _, _, t, ?_, k2, k3⟩
        show cdv = .ref (He.codeOf K (Str.ofString f, none))
        rw [e1, hc0]
      exact ⟨⟨rfl, h4.nd, rfl, h4.kind, rfl, takes_of rfl rfl rfl rfl, hr.mono (by omega), lamF, rfl, fun c hc => ⟨(h.exc c hc).inn, (h.exc c hc).p vE P w base⟩, h.told, h.trs, fun f hf => (let ⟨a, fd, g1, g2, g3, _, g4⟩ := ih f hf; ⟨a, fd, pn f, g1, g2, g3, (g4 base tb).1⟩),
        fun f hf => (let ⟨a, fd, g1, g2, g3, _, g4⟩ := ih f (h.news f hf); ⟨a, fd, pn f, g1, g2, g3, (g4 base tb).2 hf⟩), h.blt, h.cons, ⟨hP, hw⟩⟩, fun _ => rfl, passes_of rfl, rfl, rfl⟩
    have st0 : ∀ {A0 : List Addr} {ds : List D} {vs : List V} {H : Hp}, Live A0 H → TabsW H → Reps K (hid A0 H) vs ds → vs.length = Fm.np → RS K A0 H [] [] [] (ds.map some ++ List.replicate (Fm.nn - Fm.np) none) (L2.start N vs) H := fun {A0 ds vs H} hl ht hrs el => by
      refine ⟨fun i => by simp, List.nodup_nil, (fun p hp => by cases hp), hl, Same.refl H, ?_, (fun p hp => by cases hp), (fun q hq => by cases hq)⟩
      have := Reps.of_start hrs hl ht Fm.nn
      rw [el] at this
      unfold L2.start
      rw [← h7, el]
      exact this
    refine ⟨fn_of (k := lev n + 2) lk hcd h4 (fun vs H Q E ⟨A, ds, _, _, hr, q⟩ => ?_) fun A outer s H vs Q E hr ⟨A0, ds, hl, ht, hrs, q⟩ => ?_, fun hn => fn_of (k := lev n + 2) lk hcd h4 (fun vs H Q E ⟨A, ds, _, _, hr, q⟩ => ?_) fun A outer s H vs Q E hr ⟨A0, ds, hl, ht, hrs, q⟩ => ?_⟩
    · rw [unf] at q
      obtain ⟨q, _⟩ := Out.must q
      rw [hr.length, ← h6]
      exact eq_of_beq q
    · rw [unf] at q
      obtain ⟨q0, q⟩ := Out.must q
      have el : vs.length = Fm.np := by rw [hrs.length]; exact eq_of_beq q0
      refine ⟨_, (all_oks (fs := { fs with lam := lam f }) (Γ := run T G n) (G := G) (RX := RXc K) (n := n) Fm.body).many _ (fun c d _ H' => E c d H') N scope [] M' body (cx A outer s H E hr) hM,
        A0, H, [], [], ds.map some ++ List.replicate (Fm.nn - Fm.np) none, st0 hl ht hrs el, ?_⟩
      show OutS _ _ _ _ _ _ _ (evS (run T G n) G Fm.body _) _
      generalize evS (run T G n) G Fm.body (ds.map some ++ List.replicate (Fm.nn - Fm.np) none) = r at q
      cases r with
      | ok fl =>
        cases fl with
        | nx ρ' => exact fun P σ H' r => q _ _ r.same .non
        | rt d => exact fun v H' e rv => q v H' e rv
      | exc e => exact fun σ H' c dx e1 r => q c dx H' e1 r
      | stuck => exact q
    · rw [unf, must_assoc] at q
      obtain ⟨q, _⟩ := Out.must q
      rw [hr.length, ← h6]
      exact eq_of_beq q
    · rw [unf, must_assoc] at q
      obtain ⟨q0, q⟩ := Out.must q
      have el : vs.length = Fm.np := by rw [hrs.length]; exact eq_of_beq q0
      refine ⟨_, oks_new (fs := { fs with lam := lam f }) (Γ := run T G n) (G := G) (RX := RXc K) (n := n) (hnw hn) _ (fun c d _ H' => E c d H') N scope [] M' body (cx A outer s H E hr) hM,
        A0, H, [], [], ds.map some ++ List.replicate (Fm.nn - Fm.np) none, st0 hl ht hrs el, ?_⟩
      show OutN _ _ _ _ _ (evS (run T G n) G Fm.body _) _
      generalize evS (run T G n) G Fm.body (ds.map some ++ List.replicate (Fm.nn - Fm.np) none) = r at q
      cases r with
      | ok fl =>
        cases fl with
        | nx ρ' => exact q.elim
        | rt d =>
          cases d with
          | lst ds => exact ⟨ds, rfl, fun v H' e rv => q v H' e rv⟩
          | _ => exact q.elim
      | exc e => exact fun σ H' c dx e1 r => q c dx H' e1 r
      | stuck => exact q
theorem fn_ok (hP : PrW.P = P) (hw : PrW.w = w) (h : Prg fs lam T pn G K mg) (n : Nat) (f : String) (hf : f ∈ fs.fs) : ∃ a fd, mg (Str.ofString f) = some (.ref a) ∧ PySem.W.keepIn K (.ref a) = true ∧ Binds K fd (pn f) [] ∧ (∀ (s : Shared) (us : List Value), us.length = (pn f).length → BindsTo s fd ⟨us, []⟩ ((pn f).zip us)) ∧ ∀ base : Heap, TB lam K mg base → FnOk P w K mg base (L2.CX P w) (lev n) a fd (pn f) (spF K (RXc K) (run T G n f)) :=
  let ⟨a, fd, g1, g2, g3, g4, g5⟩ := fn_ok' (P := P) (w := w) hP hw h n f hf
  ⟨a, fd, g1, g2, g3, g4, fun base tb => (g5 base tb).1⟩
/-- the law's def, called on a script -/
theorem law_sp {n : Nat} {l : String} {Hh : Hp} {a : Addr} {ns : List Int} (ht : TabsW Hh) (hz : ns.length ≤ SZ) (hS : SqL K Hh a (ns.map V.int)) (h : run T G n l [.scr (ns.map .int)] = .ok (.bl true)) : spF K (RXc K) (run T G n l) [.ref a] Hh (fun v _ => v = .bl true) fun _ _ _ => False := by
  have reps0 : ∀ (ns : List Int), Reps K Hh (ns.map V.int) (ns.map D.int) := fun ns => by
    induction ns with
    | nil => exact .nil
    | cons x xs ih => exact .cons (.int x) ih
  refine ⟨[], [.scr (ns.map .int)], (fun a ha => by cases ha), ht, ?_, ?_⟩
  · rw [hid_nil]
    exact .cons (.scr hS (by simpa using hz) (reps0 ns)) .nil
  · rw [h]
    intro v H' e rv
    cases rv
    rfl
end
end Snd
namespace Snd
open PySem PySem.Spec PyProof.Rows L2 Dt
variable [PrW]
theorem rep_str {K : PySem.W.Frag} {H : Hp} (s : String) (h : okT (tx s)) : Rep K H (.str (Str.ofString s)) (.str (tx s)) := by
  rw [← tS_tx]
  exact .str _ h
theorem cx_none {P : Program} (w : World) (H : Hp) (s : Shared) (e : Value) (s' : Shared) : L2.CX P w [] H s (fun _ _ _ => False) e s' → False := fun ⟨_, _, _, _, _, _, _, _, _, _, _, _, h⟩ => h
section
variable {fs : Sig} {lam : String → Bool} {T : String → Option Fn} {pn : String → List Str} {G : String → Option D} {K : PySem.W.Frag} {mg : Str → Option Value}
theorem law_endT {l : PySem.W.OpenLaw} {w : World} {h : Heap} {fa : Addr} {x : Str} {n : Nat} {tf : List He.Defn} (hP : PrW.P = l.prog) (hw : PrW.w = w) (p : Prg fs lam T pn G K mg) (KX : K.In h) (hm : mg ("law" : Str) = some (.ref fa)) (hl : "law" ∈ fs.fs) (hx : pn "law" = [x])
    (hT : ∀ p ∈ PrW.T, ∃ q ∈ tf, p.1 = (He.cT K q).2) (hlam : ∀ f, lam f = true → (Str.ofString f, none) ∈ tf) (hd : ∀ p ∈ tf, PySem.W.codeHdIn K (He.cT K p).1 (He.cT K p).2 = true) (out : ∀ p ∈ tf, K.lookup (He.cT K p).2 = none)
    (empty : ∀ p ∈ tf, h.get? (He.cT K p).2 = some { cls := .none, data := .fields #[] })
    (hold : ∀ ns : List Int, ns.length ≤ 63 → run T G n "law" [.scr (ns.map .int)] = .ok (.bl true)) : LamX.LawAtS l w K (L2.CX l.prog w) (lev n) 63 x mg fa h := by
  obtain ⟨a, fd, h1, _, _, h3, h4⟩ := fn_ok (P := l.prog) (w := w) hP hw p n "law" hl
  have ea : a = fa := by
    have h1 : mg ("law" : Str) = some (.ref a) := h1
    rw [hm] at h1
    cases h1
    rfl
  subst ea
  rw [hx] at h3
  have mem : ∀ {p : He.Defn}, p ∈ tf → He.cT K p ∈ tf.map (He.cT K) := fun hp => List.mem_map.mpr ⟨_, hp, rfl⟩
  refine ⟨fd, tf.map (He.cT K), spF K (RXc K) (run T G n "law"), fun p hp => ?_, fun p hp => ?_, fun p hp => ?_, fun s u => h3 s [u] rfl, fun H b ns hz _ hH hS => ?_, fun base _ _ hB => ?_⟩
  · obtain ⟨q, hq, rfl⟩ := List.mem_map.mp hp
    exact empty q hq
  · obtain ⟨q, hq, rfl⟩ := List.mem_map.mp hp
    exact out q hq
  · obtain ⟨q, hq, rfl⟩ := List.mem_map.mp hp
    exact PySem.W.codeHd_of_K KX (hd q hq)
  · have ht : TabsW H := fun p hp => by
      obtain ⟨q, hq, e⟩ := hT p hp
      rw [e]
      exact LamX.TabS.nil (hH _ (mem hq))
    exact law_sp ht (Nat.le_trans hz (by decide)) hS (hold ns hz)
  · have := h4 base fun f hf => hB _ (mem (hlam f hf))
    rw [hx] at this
    exact this
end
end Snd
namespace Snd
open PySem PySem.Spec PyProof.Rows L2 Dt
/-! ### the classes' facts as one truth of the written part -/
def isiCB (K : PySem.W.Frag) (D : Addr) : Bool := He.eqO (PySem.W.findIn K (.ref D) "__getattribute__") (some (some (.builtin "BaseException.__getattribute__"))) && He.eqO (PySem.W.findIn K (.ref D) "__getattr__") (some none) &&
  decide (PySem.W.subIn K (.ref D) (.type "BaseException") = some true) && PySem.W.hasDictIn K D && He.eqO (PySem.W.findIn K (.ref D) "__class__") (some (some (.builtin "object.__class__"))) &&
  He.eqO (PySem.W.specialIn K (.builtin "object.__class__") "__get__") (some (some (.builtin "getset_descriptor.__get__"))) && decide (PySem.W.takesIn K (.builtin "object.__class__") = some true) && decide (PySem.W.mroIn K D (.type "object") = some true)
theorem isiCB_ok {K : PySem.W.Frag} {D : Addr} (h : isiCB K D = true) : ExcC K D := by
  unfold isiCB at h
  simp only [Bool.and_eq_true] at h
  obtain ⟨⟨⟨⟨⟨⟨⟨h1, h2⟩, h3⟩, h4⟩, h5⟩, h6⟩, h7⟩, h8⟩ := h
  exact ⟨He.eqO_ok h1, He.eqO_ok h2, of_decide_eq_true h3, h4, He.eqO_ok h5, He.eqO_ok h6, of_decide_eq_true h7, of_decide_eq_true h8⟩
def gloB (K : PySem.W.Frag) (c : String) : Bool := (He.Fa.glo (Str.ofString c)).ok K
def clsXB (K : PySem.W.Frag) (c : String) : Bool := gloB K c && isiCB K (xa K c) && xfB K (xa K c) && He.eqO (PySem.W.findIn K (.ref (xa K c)) "at") (some none) && decide (PySem.W.exmOne K (.ref (xa K c)) (.ref (xa K "DealError")) = some true) &&
  decide (PySem.W.kitOne K (.ref (xa K c)) (.type "ValueError") = some true) && excs.all fun c' => decide (PySem.W.kitOne K (.ref (xa K c)) (.ref (xa K c')) = some (decide (c = c')))
def toldXB (K : PySem.W.Frag) : Bool := gloB K "DealError" && excs.all (clsXB K)
section
variable {K : PySem.W.Frag} {h : Heap} {mg : Str → Option Value}
variable [PrW]
theorem toldX_of (X : K.In h) (G : h.Ns mainGlobals mg) (b : ∀ x ∈ bltNames, mg (Str.ofString x) = none) (c : toldXB K = true) : ToldX K mg := by
  obtain ⟨c1, c2⟩ := He.ba c
  refine ⟨b "isinstance" (by decide), b "bool" (by decide), b "ValueError" (by decide), He.glo_ok X G c1, fun x hx => ?_⟩
  have h := List.all_eq_true.mp c2 x hx
  unfold clsXB at h
  simp only [Bool.and_eq_true] at h
  obtain ⟨⟨⟨⟨⟨⟨h1, h2⟩, h3⟩, h4⟩, h5⟩, h6⟩, h7⟩ := h
  exact ⟨He.glo_ok X G h1, isiCB_ok h2, xfB_ok h3, He.eqO_ok h4, of_decide_eq_true h5, of_decide_eq_true h6, fun c' hc => of_decide_eq_true (List.all_eq_true.mp h7 c' hc)⟩
def fIn (K : PySem.W.Frag) : Addr := He.fAd K ("DealError", some "__init__")
def excQB (K : PySem.W.Frag) (R : List String) (c : String) : Bool := (R.all fun r => decide (PySem.W.exmOne K (.ref (xa K c)) (.ref (xa K r)) = some (catB r c))) && decide (c ∈ excs) && gloB K c && oexB K (xa K c) && He.eqO (PySem.W.findIn K (.ref (xa K c)) "at") (some none) && He.eqO (PySem.W.findIn K (.ref (xa K c)) "__init__") (some (some (.ref (fIn K)))) &&
  decide (PySem.W.typeIn K (.ref (fIn K)) = some (.type "function"))
theorem veInit (K : PySem.W.Frag) : PySem.W.findCls K (.type "ValueError") (.type "type") "__init__" = some (.val (.builtin "ValueError.__init__")) := by kernel_rfl
theorem excQ_of {c : String} {fd : FuncData} {x qual : Str} {params : Arguments} {body : List Stmt} {scope : Scope} {ps : List Str} (X : K.In h) (G : h.Ns mainGlobals mg) (q : excQB K PrW.R c = true) (F : FunD K x qual params body scope [] [] (fIn K) fd)
    (hb : Binds K fd ps []) (S : FnScope ps ps scope) (hi : initB ps scope body = true) : ExcQ K mg c := by
  unfold excQB at q
  simp only [Bool.and_eq_true] at q
  obtain ⟨⟨⟨⟨⟨⟨h0, h1⟩, h2⟩, h3⟩, h4⟩, h5⟩, h6⟩ := q
  exact ⟨of_decide_eq_true h1, He.glo_ok X G h2, oexB_ok h3, He.eqO_ok h4, fun r hr => of_decide_eq_true (List.all_eq_true.mp h0 r hr), ⟨_, _, _, _, _, _, _, _, He.eqO_ok h5, of_decide_eq_true h6, hb, F, S, hi⟩, veInit K⟩
end
/-- a class's method -/
def clsDef (s : Stmt) (i : Nat) : Stmt := match s with
  | .ClassDef _ _ _ b _ _ _ _ _ _ _ => b.getD i (.Pass ⟨0, 0, 0, 0⟩)
  | _ => .Pass ⟨0, 0, 0, 0⟩
end Snd
/-! P0: what a run comes to, told by what is wanted of it. -/
namespace Dt
/-- r comes to what Q wants, or to an exception that E wants -/
def Wp {α : Type} (r : Res α) (Q : α → Prop) (E : Ex → Prop) : Prop := match r with
  | .ok a => Q a
  | .exc e => E e
  | .stuck => False
section
variable {α β : Type} {Q : α → Prop} {E : Ex → Prop}
@[simp] theorem wp_ok {a : α} : Wp (.ok a) Q E ↔ Q a := Iff.rfl
@[simp] theorem wp_exc {e : Ex} : Wp (.exc e : Res α) Q E ↔ E e := Iff.rfl
@[simp] theorem wp_stuck : Wp (.stuck : Res α) Q E ↔ False := Iff.rfl
@[simp] theorem wp_bind {x : Res β} {f : β → Res α} : Wp (x >>= f) Q E ↔ Wp x (fun a => Wp (f a) Q E) E := by cases x <;> rfl
@[simp] theorem wp_must {c : Bool} {r : Res α} : Wp (must c r) Q E ↔ c = true ∧ Wp r Q E := by cases c <;> simp [Wp, must]
@[simp] theorem wp_opt {o : Option α} : Wp (optR o) Q E ↔ ∃ a, o = some a ∧ Q a := by cases o <;> simp [Wp, optR]
theorem Wp.imp {r : Res α} {Q' : α → Prop} {E' : Ex → Prop} (h : Wp r Q E) (k : ∀ a, Q a → Q' a) (k' : ∀ e, E e → E' e) : Wp r Q' E' := by
  cases r with
  | ok a => exact k a h
  | exc e => exact k' e h
  | stuck => exact h
theorem Wp.post {r : Res α} {Q' : α → Prop} (h : Wp r Q E) (k : ∀ a, Q a → Q' a) : Wp r Q' E := h.imp k fun _ z => z
theorem Wp.of_ok {r : Res α} {a : α} (h : r = .ok a) (q : Q a) : Wp r Q E := by rw [h]; exact q
theorem Wp.ok_of {r : Res α} (h : Wp r Q (fun _ => False)) : ∃ a, r = .ok a ∧ Q a := by
  cases r with
  | ok a => exact ⟨a, rfl, h⟩
  | exc e => exact h.elim
  | stuck => exact h.elim
theorem wp_eq {r : Res α} {a : α} (h : Wp r (· = a) (fun _ => False)) : r = .ok a := by
  obtain ⟨b, h1, rfl⟩ := h.ok_of
  exact h1
end
abbrev E0 : Ex → Prop := fun _ => False

/-! ### statements -/
section
variable {Γ : String → List D → Res D} {G : String → Option D} {Q : Fl → Prop} {E : Ex → Prop} {ρ : EnvD}
/-- what is wanted behind a statement: Q of the names, R of what is returned -/
def FQ (N : EnvD → Prop) (R : D → Prop) : Fl → Prop
  | .nx ρ => N ρ
  | .rt d => R d
@[simp] theorem fq_nx {N : EnvD → Prop} {R : D → Prop} : FQ N R (.nx ρ) ↔ N ρ := Iff.rfl
@[simp] theorem fq_rt {N : EnvD → Prop} {R : D → Prop} {d : D} : FQ N R (.rt d) ↔ R d := Iff.rfl
variable {N : EnvD → Prop} {R : D → Prop}
@[simp] theorem wp_nil : Wp (evS Γ G .nil ρ) (FQ N R) E ↔ N ρ := Iff.rfl
@[simp] theorem wp_skip : Wp (evS Γ G .skip ρ) (FQ N R) E ↔ N ρ := Iff.rfl
/-- what is left to run, from names that are told -/
def Nxt (Γ : String → List D → Res D) (G : String → Option D) (r : MS) (N : EnvD → Prop) (R : D → Prop) (E : Ex → Prop) (ρ : EnvD) : Prop := Wp (evS Γ G r ρ) (FQ N R) E
@[simp] theorem nxt_at {r : MS} {x : Option D} : Nxt Γ G r N R E (x :: ρ) ↔ Wp (evS Γ G r (x :: ρ)) (FQ N R) E := Iff.rfl
@[simp] theorem wp_cons {s r : MS} : Wp (evS Γ G (.cons s r) ρ) (FQ N R) E ↔ Wp (evS Γ G s ρ) (FQ (Nxt Γ G r N R E) R) E := by
  show Wp (match evS Γ G s ρ with
    | .ok (.nx ρ') => evS Γ G r ρ'
    | q => q) _ _ ↔ _
  cases evS Γ G s ρ with
  | ok f => cases f <;> rfl
  | exc e => rfl
  | stuck => rfl
theorem bind_nx {t : MT} {d : D} : Wp (bindT t d ρ >>= fun ρ' => .ok (Fl.nx ρ')) (FQ N R) E ↔ Wp (bindT t d ρ) N E := by simp
@[simp] theorem wp_asg {t : MT} {h : List Nat} {e : ME} : Wp (evS Γ G (.asg t h e) ρ) (FQ N R) E ↔ Wp (ev Γ G e (wipeE ρ h)) (fun d => Wp (bindT t d ρ) N E) E := by
  show Wp (ev Γ G e (wipeE ρ h) >>= fun d => bindT t d ρ >>= fun ρ' => .ok (Fl.nx ρ')) _ _ ↔ _
  simp
@[simp] theorem wp_asgN {t : MT} {e : ME} : Wp (evS Γ G (.asgN t e) ρ) (FQ N R) E ↔ Wp (ev Γ G e ρ) (fun d => d.frozen = true ∧ Wp (bindT t d ρ) N E) E := by
  show Wp (ev Γ G e ρ >>= fun d => must d.frozen (bindT t d ρ >>= fun ρ' => .ok (Fl.nx ρ'))) _ _ ↔ _
  simp
@[simp] theorem wp_asgF {i : Nat} {h : List Nat} {e : ME} : Wp (evS Γ G (.asgF i h e) ρ) (FQ N R) E ↔ Wp (ev Γ G e (wipeE ρ h)) (fun d => Wp (lstD d) (fun xs => i < ρ.length ∧ N (ρ.set i (some (.lst xs)))) E) E := by
  show Wp (ev Γ G e (wipeE ρ h) >>= fun d => lstD d >>= fun xs => must (decide (i < ρ.length)) (.ok (Fl.nx (ρ.set i (some (.lst xs)))))) _ _ ↔ _
  simp
@[simp] theorem wp_app {i : Nat} {h : List Nat} {e : ME} : Wp (evS Γ G (.app i h e) ρ) (FQ N R) E ↔ Wp (ρ.get i) (fun x => Wp (lstD x) (fun xs => Wp (ev Γ G e (wipeE ρ h)) (fun d => xs.length < SZ ∧ N (ρ.set i (some (.lst (xs ++ [d]))))) E) E) E := by
  show Wp (match ρ[i]? with
    | some (some (.lst xs)) => ev Γ G e (wipeE ρ h) >>= fun d => must (decide (xs.length < SZ)) (.ok (Fl.nx (ρ.set i (some (.lst (xs ++ [d]))))))
    | _ => .stuck) _ _ ↔ _
  unfold EnvD.get
  cases ρ[i]? with
  | none => simp
  | some o =>
    cases o with
    | none => simp
    | some x => cases x <;> simp [lstD]
@[simp] theorem wp_ext {i : Nat} {h : List Nat} {e : ME} : Wp (evS Γ G (.ext i h e) ρ) (FQ N R) E ↔ Wp (ρ.get i) (fun x => Wp (lstD x) (fun xs => Wp (ev Γ G e (wipeE ρ h)) (fun d => Wp (lstD d) (fun ys => xs.length + ys.length ≤ SZ ∧ N (ρ.set i (some (.lst (xs ++ ys))))) E) E) E) E := by
  show Wp (match ρ[i]? with
    | some (some (.lst xs)) => ev Γ G e (wipeE ρ h) >>= fun d => lstD d >>= fun ys => must (decide (xs.length + ys.length ≤ SZ)) (.ok (Fl.nx (ρ.set i (some (.lst (xs ++ ys))))))
    | _ => .stuck) _ _ ↔ _
  unfold EnvD.get
  cases ρ[i]? with
  | none => simp
  | some o =>
    cases o with
    | none => simp
    | some x => cases x <;> simp [lstD]
theorem wp_bool {α : Type} {k : Bool} {A B : Res α} {Q : α → Prop} : Wp (match k with
  | true => A
  | false => B) Q E ↔ (k = true → Wp A Q E) ∧ (k = false → Wp B Q E) := by cases k <;> simp
@[simp] theorem wp_ife {c : ME} {a b : MS} : Wp (evS Γ G (.ife c a b) ρ) (FQ N R) E ↔ Wp (ev Γ G c ρ) (fun x => Wp (blD x) (fun k => (k = true → Wp (evS Γ G a ρ) (FQ N R) E) ∧ (k = false → Wp (evS Γ G b ρ) (FQ N R) E)) E) E := by
  show Wp (ev Γ G c ρ >>= fun x => blD x >>= fun k => match k with
    | true => evS Γ G a ρ
    | false => evS Γ G b ρ) _ _ ↔ _
  simp only [wp_bind]
  refine iff_of_eq (congrArg (fun f => Wp (ev Γ G c ρ) f E) (funext fun x => congrArg (fun f => Wp (blD x) f E) (funext fun k => propext ?_)))
  cases k <;> simp
@[simp] theorem wp_ret {e : ME} : Wp (evS Γ G (.ret e) ρ) (FQ N R) E ↔ Wp (ev Γ G e ρ) R E := by
  show Wp (ev Γ G e ρ >>= fun d => .ok (Fl.rt d)) _ _ ↔ _
  simp
@[simp] theorem wp_rais {c : String} {e : ME} : Wp (evS Γ G (.rais c e) ρ) (FQ N R) E ↔ Wp (ev Γ G e ρ) (fun d => ∃ i, d = .int i ∧ E ⟨c, .int i⟩) E := by
  show Wp (ev Γ G e ρ >>= fun d => match d with
    | .int i => .exc ⟨c, .int i⟩
    | _ => .stuck) _ _ ↔ _
  simp only [wp_bind]
  refine iff_of_eq (congrArg (fun f => Wp (ev Γ G e ρ) f E) (funext fun d => propext ?_))
  cases d <;> simp
/-- tried: caught, or not -/
@[simp] theorem wp_tr {c : String} {b h : MS} : Wp (evS Γ G (.tr c b h) ρ) (FQ N R) E ↔ Wp (evS Γ G b ρ) (FQ N R) (fun x => (catB c x.cls = true → Wp (evS Γ G h ρ) (FQ N R) E) ∧ (catB c x.cls = false → E x)) := by
  show Wp (match evS Γ G b ρ with
    | .exc x => match catB c x.cls with
      | true => evS Γ G h ρ
      | false => .exc x
    | r => r) _ _ ↔ _
  cases evS Γ G b ρ with
  | ok f => cases f <;> rfl
  | exc x =>
    simp only [wp_exc]
    cases catB c x.cls <;> simp
  | stuck => rfl
@[simp] theorem catB_all {x : String} : catB "DealError" x = true := by simp [catB]
@[simp] theorem wp_fr {t : MT} {h : List Nat} {it : ME} {b : MS} : Wp (evS Γ G (.fr t h it b) ρ) (FQ N R) E ↔ Wp (ev Γ G it (wipeE ρ h)) (fun d => Wp (itD d) (fun xs => Wp (frD (fun x ρ => bindT t x ρ >>= fun ρ1 => evS Γ G b ρ1) xs ρ) (FQ N R) E) E) E := by
  show Wp (ev Γ G it (wipeE ρ h) >>= fun d => itD d >>= fun xs => frD (fun x ρ => bindT t x ρ >>= fun ρ1 => evS Γ G b ρ1) xs ρ) _ _ ↔ _
  simp
@[simp] theorem wp_asgD {i : Nat} {h : List Nat} {e : ME} : Wp (evS Γ G (.asgD i h e) ρ) (FQ N R) E ↔ Wp (ev Γ G e (wipeE ρ h)) (fun d => Wp (ownD d) (fun d => i < ρ.length ∧ N (ρ.set i (some d))) E) E := by
  show Wp (ev Γ G e (wipeE ρ h) >>= fun d => ownD d >>= fun d => must (decide (i < ρ.length)) (.ok (Fl.nx (ρ.set i (some d))))) _ _ ↔ _
  simp
@[simp] theorem wp_put {i : Nat} {k v : ME} : Wp (evS Γ G (.put i k v) ρ) (FQ N R) E ↔ Wp (ρ.get i) (fun o => Wp (ev Γ G v ρ) (fun x => x.frozen = true ∧ Wp (ev Γ G k ρ) (fun y => y.frozen = true ∧ Wp (storeD o y x) (fun o' => N (ρ.set i (some o'))) E) E) E) E := by
  show Wp (match ρ[i]? with
    | some (some o) => ev Γ G v ρ >>= fun x => must x.frozen (ev Γ G k ρ >>= fun y => must y.frozen (storeD o y x >>= fun o' => .ok (Fl.nx (ρ.set i (some o')))))
    | _ => .stuck) _ _ ↔ _
  unfold EnvD.get
  cases ρ[i]? with
  | none => simp
  | some o =>
    cases o with
    | none => simp
    | some x => simp
@[simp] theorem wp_pop {i : Nat} : Wp (evS Γ G (.pop i) ρ) (FQ N R) E ↔ Wp (ρ.get i) (fun o => Wp (lstD o) (fun xs => xs ≠ [] ∧ N (ρ.set i (some (.lst xs.dropLast)))) E) E := by
  show Wp (match ρ[i]? with
    | some (some (.lst xs)) => must (!xs.isEmpty) (.ok (Fl.nx (ρ.set i (some (.lst xs.dropLast)))))
    | _ => .stuck) _ _ ↔ _
  unfold EnvD.get
  cases ρ[i]? with
  | none => simp
  | some o =>
    cases o with
    | none => simp
    | some x => cases x <;> simp [lstD]
@[simp] theorem wp_popA {t : MT} {i : Nat} : Wp (evS Γ G (.popA t i) ρ) (FQ N R) E ↔ Wp (ρ.get i) (fun o => Wp (lstD o) (fun xs => ∃ d, xs.getLast? = some d ∧ Wp (bindT t d (ρ.set i (some (.lst xs.dropLast)))) N E) E) E := by
  show Wp (match ρ[i]? with
    | some (some (.lst xs)) => match xs.getLast? with
      | some d => bindT t d (ρ.set i (some (.lst xs.dropLast))) >>= fun ρ' => .ok (Fl.nx ρ')
      | none => .stuck
    | _ => .stuck) _ _ ↔ _
  unfold EnvD.get
  cases ρ[i]? with
  | none => simp
  | some o =>
    cases o with
    | none => simp
    | some x =>
      cases x with
      | lst xs =>
        simp only [lstD, wp_ok]
        cases xs.getLast? <;> simp
      | _ => simp [lstD]
/-- a while, by a measure -/
theorem wp_whl {c : ME} {b : MS} (I : Nat → EnvD → Prop) {k : Nat} (hk : k < WF) (h0 : I k ρ)
    (hs : ∀ k ρ, I k ρ → Wp (ev Γ G c ρ) (fun x => ∃ bb : Bool, x = .bl bb ∧ (bb = true → Wp (evS Γ G b ρ) (FQ (fun ρ' => ∃ j, j < k ∧ I j ρ') R) E) ∧ (bb = false → N ρ)) E) : Wp (evS Γ G (.whl c b) ρ) (FQ N R) E := by
  have key : ∀ (n k : Nat) (ρ : EnvD), k < n → I k ρ → Wp (whD (fun ρ => ev Γ G c ρ) (fun ρ => evS Γ G b ρ) n ρ) (FQ N R) E := by
    intro n
    induction n with
    | zero => intro k ρ h; omega
    | succ n ih =>
      intro k ρ hk hi
      have w := hs k ρ hi
      show Wp (match ev Γ G c ρ with
        | .ok (.bl true) => match evS Γ G b ρ with
          | .ok (.nx ρ') => whD (fun ρ => ev Γ G c ρ) (fun ρ => evS Γ G b ρ) n ρ'
          | r => r
        | .ok (.bl false) => .ok (.nx ρ)
        | .exc e => .exc e
        | _ => .stuck) _ _
      cases hc : ev Γ G c ρ with
      | ok d =>
        rw [hc] at w
        obtain ⟨bb, rfl, h1, h2⟩ := w
        cases bb with
        | true =>
          have w := h1 rfl
          dsimp only
          cases hb : evS Γ G b ρ with
          | ok f =>
            rw [hb] at w
            cases f with
            | nx ρ' =>
              obtain ⟨j, hj, hi'⟩ := w
              exact ih j ρ' (by omega) hi'
            | rt d => exact w
          | exc e => rw [hb] at w; exact w
          | stuck => rw [hb] at w; exact w.elim
        | false => exact h2 rfl
      | exc e => rw [hc] at w; exact w
      | stuck => rw [hc] at w; exact w.elim
  exact key WF k ρ hk h0
theorem wp_finish {r : Res Fl} {Q : D → Prop} : Wp (finish r) Q E ↔ Wp r (FQ (fun _ => Q .non) Q) E := by
  cases r with
  | ok f => cases f <;> rfl
  | exc e => rfl
  | stuck => rfl
/-- a loop, by a word of what is done and what is left -/
theorem wp_for {α : Type} {g : α → D} {f : D → EnvD → Res Fl} {N : EnvD → Prop} {R : D → Prop} (I : List α → EnvD → Prop) {L : List α} {ρ : EnvD} (h0 : I [] ρ)
    (hs : ∀ done x todo ρ, L = done ++ x :: todo → I done ρ → Wp (f (g x) ρ) (FQ (I (done ++ [x])) R) E) (hN : ∀ ρ, I L ρ → N ρ) : Wp (frD f (L.map g) ρ) (FQ N R) E := by
  have key : ∀ (todo done : List α) (ρ : EnvD), L = done ++ todo → I done ρ → Wp (frD f (todo.map g) ρ) (FQ N R) E := by
    intro todo
    induction todo with
    | nil =>
      intro done ρ e hi
      rw [List.append_nil] at e
      subst e
      exact hN ρ hi
    | cons x todo ih =>
      intro done ρ e hi
      have w := hs done x todo ρ e hi
      show Wp (match f (g x) ρ with
        | .ok (.nx ρ') => frD f (todo.map g) ρ'
        | r => r) _ _
      cases hf : f (g x) ρ with
      | ok fl =>
        rw [hf] at w
        cases fl with
        | nx ρ' => exact ih (done ++ [x]) ρ' (by rw [e]; simp) w
        | rt d => exact w
      | exc e => rw [hf] at w; exact w
      | stuck => rw [hf] at w; exact w.elim
  exact key L [] ρ rfl h0
end
inductive All2 {α β : Type} (P : α → β → Prop) : List α → List β → Prop
  | nil : All2 P [] []
  | cons {x : α} {y : β} {xs : List α} {ys : List β} : P x y → All2 P xs ys → All2 P (x :: xs) (y :: ys)
theorem All2.imp {α β : Type} {P Q : α → β → Prop} (k : ∀ x y, P x y → Q x y) : ∀ {l : List α} {m : List β}, All2 P l m → All2 Q l m
  | _, _, .nil => .nil
  | _, _, .cons a r => .cons (k _ _ a) (All2.imp k r)
theorem All2.len {α β : Type} {P : α → β → Prop} : ∀ {l : List α} {m : List β}, All2 P l m → l.length = m.length
  | _, _, .nil => rfl
  | _, _, .cons _ r => by simp [All2.len r]
theorem All2.snoc {α β : Type} {P : α → β → Prop} {x : α} {y : β} : ∀ {l : List α} {m : List β}, All2 P l m → P x y → All2 P (l ++ [x]) (m ++ [y])
  | _, _, .nil, h => .cons h .nil
  | _, _, .cons a r, h => .cons a (All2.snoc r h)
theorem All2.right {α β : Type} {P : α → β → Prop} : ∀ {l : List α} {m : List β}, All2 P l m → ∀ y ∈ m, ∃ x ∈ l, P x y
  | _, _, .nil, y, h => by cases h
  | _, _, .cons a r, y, h => by
    rcases List.mem_cons.mp h with rfl | h
    · exact ⟨_, List.mem_cons_self, a⟩
    · obtain ⟨x, h1, h2⟩ := All2.right r y h
      exact ⟨x, List.mem_cons_of_mem _ h1, h2⟩
theorem All2.left {α β : Type} {P : α → β → Prop} : ∀ {l : List α} {m : List β}, All2 P l m → ∀ x ∈ l, ∃ y ∈ m, P x y
  | _, _, .nil, y, h => by cases h
  | _, _, .cons a r, y, h => by
    rcases List.mem_cons.mp h with rfl | h
    · exact ⟨_, List.mem_cons_self, a⟩
    · obtain ⟨x, h1, h2⟩ := All2.left r y h
      exact ⟨x, List.mem_cons_of_mem _ h1, h2⟩
theorem All2.maps {α β γ : Type} {P : α → β → Prop} {f : α → γ} {g : β → γ} (k : ∀ x y, P x y → f x = g y) : ∀ {l : List α} {m : List β}, All2 P l m → l.map f = m.map g
  | _, _, .nil => rfl
  | _, _, .cons a r => by simp [k _ _ a, All2.maps k r]
/-! ### for each -/
theorem mapR_eq {α : Type} {g : α → D} {f : D → Res D} {h : α → D} : ∀ {L : List α}, (∀ x ∈ L, f (g x) = .ok (h x)) → mapR f (L.map g) = .ok (L.map h)
  | [], _ => rfl
  | x :: L, k => by
    show (match f (g x) with
      | .ok y => match mapR f (L.map g) with
        | .ok ys => Res.ok (y :: ys)
        | _ => .stuck
      | _ => .stuck) = _
    rw [k x List.mem_cons_self, mapR_eq fun y hy => k y (List.mem_cons_of_mem _ hy)]
    rfl
theorem filR_eq {α : Type} {g : α → D} {c f : D → Res D} {p : α → Bool} {h : α → D} : ∀ {L : List α}, (∀ x ∈ L, c (g x) = .ok (.bl (p x))) → (∀ x ∈ L, p x = true → f (g x) = .ok (h x)) → filR c f (L.map g) = .ok ((L.filter p).map h)
  | [], _, _ => rfl
  | x :: L, k1, k2 => by
    have ih := filR_eq (c := c) (f := f) (g := g) (L := L) (fun y hy => k1 y (List.mem_cons_of_mem _ hy)) fun y hy => k2 y (List.mem_cons_of_mem _ hy)
    show filR c f (g x :: L.map g) = _
    unfold filR
    rw [k1 x List.mem_cons_self]
    cases hp : p x with
    | true =>
      rw [k2 x List.mem_cons_self hp, ih]
      simp [List.filter_cons, hp]
    | false =>
      rw [ih]
      simp [List.filter_cons, hp]
/-- the results told by a word each -/
theorem wp_mapR {α β : Type} {g : α → D} {f : D → Res D} {h : β → D} {P : α → β → Prop} : ∀ {L : List α}, (∀ x ∈ L, Wp (f (g x)) (fun d => ∃ y, d = h y ∧ P x y) E0) → ∃ ys : List β, mapR f (L.map g) = .ok (ys.map h) ∧ All2 P L ys
  | [], _ => ⟨[], rfl, .nil⟩
  | x :: L, k => by
    obtain ⟨d, h1, y, rfl, h2⟩ := (k x List.mem_cons_self).ok_of
    obtain ⟨ys, h3, h4⟩ := wp_mapR (L := L) (h := h) (P := P) fun z hz => k z (List.mem_cons_of_mem _ hz)
    refine ⟨y :: ys, ?_, .cons h2 h4⟩
    show (match f (g x) with
      | .ok y => match mapR f (L.map g) with
        | .ok ys => Res.ok (y :: ys)
        | _ => .stuck
      | _ => .stuck) = _
    rw [h1, h3]
    rfl
theorem wp_mapRQ {α β : Type} {g : α → D} {f : D → Res D} {h : β → D} {P : α → β → Prop} {L : List α} {Q : List D → Prop} {E : Ex → Prop} (hf : ∀ x ∈ L, Wp (f (g x)) (fun d => ∃ y, d = h y ∧ P x y) E0)
    (hQ : ∀ ys : List β, All2 P L ys → Q (ys.map h)) : Wp (mapR f (L.map g)) Q E := by
  obtain ⟨ys, h1, h2⟩ := wp_mapR hf
  rw [h1]
  exact hQ ys h2
theorem wp_mapRE {α : Type} {g : α → D} {f : D → Res D} {h : α → D} {L : List α} {Q : List D → Prop} {E : Ex → Prop} (hf : ∀ x ∈ L, Wp (f (g x)) (· = h x) E0) (hQ : Q (L.map h)) : Wp (mapR f (L.map g)) Q E := by
  rw [mapR_eq fun x hx => wp_eq (hf x hx)]
  exact hQ
theorem wp_filRE {α : Type} {g : α → D} {c f : D → Res D} {p : α → Bool} {h : α → D} {L : List α} {Q : List D → Prop} {E : Ex → Prop} (hc : ∀ x ∈ L, Wp (c (g x)) (· = .bl (p x)) E0) (hf : ∀ x ∈ L, p x = true → Wp (f (g x)) (· = h x) E0) (hQ : Q ((L.filter p).map h)) : Wp (filR c f (L.map g)) Q E := by
  rw [filR_eq (fun x hx => wp_eq (hc x hx)) fun x hx k => wp_eq (hf x hx k)]
  exact hQ
end Dt
/-! P0b: the operations, as rewriting rules. -/
namespace Dt
section
variable {Γ : String → List D → Res D} {G : String → Option D} {ρ : EnvD}
@[simp] theorem ev_var {i : Nat} : ev Γ G (.var i) ρ = ρ.get i := rfl
@[simp] theorem ev_int {i : Int} : ev Γ G (.int i) ρ = .ok (.int i) := rfl
@[simp] theorem ev_str {s : String} : ev Γ G (.str s) ρ = .ok (.str (tx s)) := rfl
@[simp] theorem ev_bl {b : Bool} : ev Γ G (.bl b) ρ = .ok (.bl b) := rfl
@[simp] theorem ev_non : ev Γ G .non ρ = .ok .non := rfl
@[simp] theorem ev_con {c : String} : ev Γ G (.con c) ρ = optR (G c) := rfl
@[simp] theorem ev_tup {es : ME} : ev Γ G (.tup es) ρ = (evs Γ G es ρ >>= fun ds => .ok (.tup ds)) := rfl
@[simp] theorem ev_lst {es : ME} : ev Γ G (.lst es) ρ = (evs Γ G es ρ >>= fun ds => .ok (.lst ds)) := rfl
@[simp] theorem ev_op {o : Bop} {a b : ME} : ev Γ G (.op o a b) ρ = (ev Γ G a ρ >>= fun x => ev Γ G b ρ >>= fun y => bopD o x y) := rfl
@[simp] theorem ev_neg {a : ME} : ev Γ G (.neg a) ρ = (ev Γ G a ρ >>= fun x => negD x) := rfl
@[simp] theorem ev_not {a : ME} : ev Γ G (.not a) ρ = (ev Γ G a ρ >>= fun x => notD x) := rfl
@[simp] theorem ev_and1 {a : ME} : ev Γ G (.and1 a) ρ = (ev Γ G a ρ >>= fun x => blD x >>= fun b => .ok (.bl b)) := rfl
@[simp] theorem ev_or1 {a : ME} : ev Γ G (.or1 a) ρ = (ev Γ G a ρ >>= fun x => blD x >>= fun b => .ok (.bl b)) := rfl
@[simp] theorem ev_cmp {o : Cop} {a b : ME} : ev Γ G (.cmp o a b) ρ = (ev Γ G a ρ >>= fun x => ev Γ G b ρ >>= fun y => copD o x y) := rfl
@[simp] theorem ev_isn {a : ME} : ev Γ G (.isn a) ρ = (ev Γ G a ρ >>= fun x => .ok (.bl (isNonD x))) := rfl
@[simp] theorem ev_notn {a : ME} : ev Γ G (.notn a) ρ = (ev Γ G a ρ >>= fun x => .ok (.bl !(isNonD x))) := rfl
@[simp] theorem ev_ix {a i : ME} : ev Γ G (.ix a i) ρ = (ev Γ G a ρ >>= fun x => ev Γ G i ρ >>= fun k => ixD x k) := rfl
@[simp] theorem ev_sl {a lo hi : ME} : ev Γ G (.sl a lo hi) ρ = (ev Γ G a ρ >>= fun x => loOf lo (ev Γ G lo ρ) >>= fun l => loOf hi (ev Γ G hi ρ) >>= fun h => slD x l h) := rfl
@[simp] theorem ev_comp {t : MT} {it e : ME} : ev Γ G (.comp t it e) ρ = (ev Γ G it ρ >>= fun d => itD d >>= fun xs => mapR (fun x => bindT t x (wipeE ρ t.slots) >>= fun ρ1 => ev Γ G e ρ1) xs >>= fun ys => .ok (.lst ys)) := rfl
@[simp] theorem ev_compIf {t : MT} {it c e : ME} : ev Γ G (.compIf t it c e) ρ = (ev Γ G it ρ >>= fun d => itD d >>= fun xs => filR (fun x => bindT t x (wipeE ρ t.slots) >>= fun ρ1 => ev Γ G c ρ1) (fun x => bindT t x (wipeE ρ t.slots) >>= fun ρ1 => ev Γ G e ρ1) xs >>= fun ys => .ok (.lst ys)) := rfl
@[simp] theorem ev_rng1 {a : ME} : ev Γ G (.rng1 a) ρ = (ev Γ G a ρ >>= fun x => intD x >>= fun n => must (decide (-1000000000 ≤ n) && decide (n ≤ SZ)) (.ok (.itr (rangeD 0 n)))) := rfl
@[simp] theorem ev_rng2 {a b : ME} : ev Γ G (.rng2 a b) ρ = (ev Γ G a ρ >>= fun x => intD x >>= fun lo => ev Γ G b ρ >>= fun y => intD y >>= fun n => must (decide (-1000000000 ≤ lo) && decide (lo ≤ 1000000000) && decide (-1000000000 ≤ n) && decide (n ≤ 1000000000) && decide ((n - lo).toNat ≤ SZ)) (.ok (.itr (rangeD lo n)))) := rfl
@[simp] theorem ev_enum {a : ME} : ev Γ G (.enum a) ρ = (ev Γ G a ρ >>= fun x => must (isSeq x) (itD x >>= fun xs => .ok (.itr (enumD 0 xs)))) := rfl
@[simp] theorem ev_zip {a b : ME} : ev Γ G (.zip a b) ρ = (ev Γ G a ρ >>= fun x => ev Γ G b ρ >>= fun y => must (isSeq x && isSeq y) (itD x >>= fun xs => itD y >>= fun ys => .ok (.itr (zipD xs ys)))) := rfl
@[simp] theorem ev_b1 {f : B1} {a : ME} : ev Γ G (.b1 f a) ρ = (ev Γ G a ρ >>= fun x => b1D f x) := rfl
@[simp] theorem ev_b2 {f : B2} {a b : ME} : ev Γ G (.b2 f a b) ρ = (ev Γ G a ρ >>= fun x => must (b2R f x) (ev Γ G b ρ >>= fun y => b2D f x y)) := rfl
@[simp] theorem ev_call {f : String} {es : ME} : ev Γ G (.call f es) ρ = (evs Γ G es ρ >>= fun ds => Γ f ds) := rfl
@[simp] theorem ev_dnew {t : Bool} : ev Γ G (.dnew t) ρ = .ok (.dic t [] []) := rfl
@[simp] theorem ev_dlit {ks : List String} {vs : List Int} : ev Γ G (.dlit ks vs) ρ = .ok (.dic false (mergeD (litD ks vs)).1 (mergeD (litD ks vs)).2) := rfl
@[simp] theorem ev_dsp1 {k v : ME} : ev Γ G (.dsp1 k v) ρ = (ev Γ G k ρ >>= fun x => ev Γ G v ρ >>= fun y => must (keyOk true x) (.ok (.dic true [x] [y]))) := rfl
@[simp] theorem keyOkN_of {t : Bool} {d : D} (h : keyOk t d = true) : keyOkN t d = true := by
  unfold keyOkN
  split
  · rfl
  · exact h
@[simp] theorem keyOkN_non : keyOkN true .non = true := rfl
@[simp] theorem it_dicT {ks vs : List D} : itD (.dic true ks vs) = .ok ks := rfl
@[simp] theorem ev_get2 {a k x : ME} : ev Γ G (.get2 a k x) ρ = (ev Γ G a ρ >>= fun d => dicD d >>= fun p => ev Γ G k ρ >>= fun y => ev Γ G x ρ >>= fun z => must (keyOkN p.1 y) (.ok ((findD y p.2.1 p.2.2).getD z))) := rfl
@[simp] theorem ev_itup {es : ME} : ev Γ G (.itup es) ρ = (evs Γ G es ρ >>= fun ds => .ok (.itr ds)) := rfl
@[simp] theorem ev_lzip {a b : ME} : ev Γ G (.lzip a b) ρ = (ev Γ G a ρ >>= fun x => ev Γ G b ρ >>= fun y => must (isSeq x && isSeq y) (itD x >>= fun xs => itD y >>= fun ys => must (decide (xs.length ≤ 100000)) (.ok (.lst (zipD xs ys))))) := rfl
@[simp] theorem ev_fcall {f : String} {es : ME} : ev Γ G (.fcall f es) ρ = (evs Γ G es ρ >>= fun ds => Γ f ds >>= fun d => lstD d >>= fun xs => .ok (.lst xs)) := rfl
@[simp] theorem ev_skey {a e : ME} : ev Γ G (.skey a e) ρ = (ev Γ G a ρ >>= fun x => seqD x >>= fun xs => keyedD xs (mapR (fun d => ev Γ G e (ρ ++ [some d])) xs)) := rfl
@[simp] theorem seq_tup {xs : List D} : seqD (.tup xs) = .ok xs := rfl
@[simp] theorem seq_lst {xs : List D} : seqD (.lst xs) = .ok xs := rfl
@[simp] theorem evs_nil : evs Γ G .nil ρ = .ok [] := rfl
@[simp] theorem evs_cons {a r : ME} : evs Γ G (.cons a r) ρ = (ev Γ G a ρ >>= fun x => evs Γ G r ρ >>= fun xs => .ok (x :: xs)) := rfl
variable {α : Type} {Q : D → Prop} {E : Ex → Prop}
@[simp] theorem wp_and {a b : ME} : Wp (ev Γ G (.and a b) ρ) Q E ↔ Wp (ev Γ G a ρ) (fun x => Wp (blD x) (fun k => (k = true → Wp (ev Γ G b ρ) Q E) ∧ (k = false → Q (.bl false))) E) E := by
  show Wp (ev Γ G a ρ >>= fun x => blD x >>= fun k => match k with
    | true => ev Γ G b ρ
    | false => .ok (.bl false)) _ _ ↔ _
  simp only [wp_bind]
  refine iff_of_eq (congrArg (fun f => Wp (ev Γ G a ρ) f E) (funext fun x => congrArg (fun f => Wp (blD x) f E) (funext fun k => propext ?_)))
  cases k <;> simp
@[simp] theorem wp_or {a b : ME} : Wp (ev Γ G (.or a b) ρ) Q E ↔ Wp (ev Γ G a ρ) (fun x => Wp (blD x) (fun k => (k = true → Q (.bl true)) ∧ (k = false → Wp (ev Γ G b ρ) Q E)) E) E := by
  show Wp (ev Γ G a ρ >>= fun x => blD x >>= fun k => match k with
    | true => .ok (.bl true)
    | false => ev Γ G b ρ) _ _ ↔ _
  simp only [wp_bind]
  refine iff_of_eq (congrArg (fun f => Wp (ev Γ G a ρ) f E) (funext fun x => congrArg (fun f => Wp (blD x) f E) (funext fun k => propext ?_)))
  cases k <;> simp
@[simp] theorem wp_told {a : ME} : Wp (ev Γ G (.told a) ρ) Q E ↔ Wp (ev Γ G a ρ) (fun d => Q (.tup [.str (tx "told"), d])) (fun x => ∃ i, exAt x.arg = some i ∧ Q (.tup [.str (tx "refused"), .int (exNo x.cls), .int i])) := by
  show Wp (match ev Γ G a ρ with
    | .ok d => Res.ok (D.tup [.str (tx "told"), d])
    | .exc x => match exAt x.arg with
      | some i => Res.ok (D.tup [.str (tx "refused"), .int (exNo x.cls), .int i])
      | none => Res.stuck
    | .stuck => Res.stuck) Q E ↔ _
  cases ev Γ G a ρ with
  | ok d => simp
  | stuck => simp
  | exc x =>
    show Wp (match exAt x.arg with
      | some i => Res.ok (D.tup [.str (tx "refused"), .int (exNo x.cls), .int i])
      | none => Res.stuck) Q E ↔ ∃ i, exAt x.arg = some i ∧ _
    generalize exAt x.arg = y
    cases y <;> simp
/-- and, or whose parts are known -/
theorem ev_and_eq {a b : ME} {x y : Bool} (ha : ev Γ G a ρ = .ok (.bl x)) (hb : x = true → ev Γ G b ρ = .ok (.bl y)) : ev Γ G (.and a b) ρ = .ok (.bl (x && y)) := by
  show (ev Γ G a ρ >>= fun x => blD x >>= fun k => match k with
    | true => ev Γ G b ρ
    | false => .ok (.bl false)) = _
  rw [ha]
  cases x with
  | true => exact hb rfl
  | false => rfl
end
section
variable {α : Type} {ρ : EnvD}
@[simp] theorem get_zero {d : D} : EnvD.get (some d :: ρ) 0 = .ok d := rfl
@[simp] theorem get_succ {x : Option D} {i : Nat} : EnvD.get (x :: ρ) (i + 1) = EnvD.get ρ i := by simp [EnvD.get]
@[simp] theorem wipe_nil : wipeE ρ [] = ρ := rfl
@[simp] theorem wipe_cons {v : Nat} {vs : List Nat} : wipeE ρ (v :: vs) = (wipeE ρ vs).set v none := rfl
@[simp] theorem slots_nm {i : Nat} : (MT.nm i).slots = [i] := rfl
@[simp] theorem slots_tp {is : List Nat} : (MT.tp is).slots = is := rfl
@[simp] theorem bindT_nm {i : Nat} {d : D} : bindT (.nm i) d ρ = .ok (ρ.set i (some d)) := rfl
@[simp] theorem bindT_tp {is : List Nat} {ds : List D} : bindT (.tp is) (.tup ds) ρ = setAll is ds ρ := rfl
@[simp] theorem bindT_tl {is : List Nat} {ds : List D} : bindT (.tp is) (.lst ds) ρ = setAll is ds ρ := rfl
@[simp] theorem setAll_nil : setAll [] [] ρ = .ok ρ := rfl
@[simp] theorem setAll_cons {i : Nat} {is : List Nat} {d : D} {ds : List D} : setAll (i :: is) (d :: ds) ρ = setAll is ds (ρ.set i (some d)) := rfl
@[simp] theorem optR_some {a : α} : optR (some a) = .ok a := rfl
@[simp] theorem blD_bl {b : Bool} : blD (.bl b) = .ok b := rfl
@[simp] theorem lstD_lst {xs : List D} : lstD (.lst xs) = .ok xs := rfl
@[simp] theorem intD_int {i : Int} : intD (.int i) = .ok i := rfl
@[simp] theorem negD_int {i : Int} : negD (.int i) = .ok (.int (-i)) := rfl
@[simp] theorem notD_bl {i : Bool} : notD (.bl i) = .ok (.bl (!i)) := rfl
@[simp] theorem itD_tup {xs : List D} : itD (.tup xs) = .ok xs := rfl
@[simp] theorem itD_lst {xs : List D} : itD (.lst xs) = .ok xs := rfl
@[simp] theorem itD_itr {xs : List D} : itD (.itr xs) = .ok xs := rfl
@[simp] theorem itD_str {xs : List Nat} : itD (.str xs) = .ok (xs.map fun c => .str [c]) := rfl
@[simp] theorem isSeq_tup {xs : List D} : isSeq (.tup xs) = true := rfl
@[simp] theorem isSeq_lst {xs : List D} : isSeq (.lst xs) = true := rfl
@[simp] theorem isNon_non : isNonD .non = true := rfl
@[simp] theorem isNon_int {i : Int} : isNonD (.int i) = false := rfl
@[simp] theorem isNon_bl {i : Bool} : isNonD (.bl i) = false := rfl
@[simp] theorem isNon_str {i : List Nat} : isNonD (.str i) = false := rfl
@[simp] theorem isNon_tup {i : List D} : isNonD (.tup i) = false := rfl
@[simp] theorem isNon_lst {i : List D} : isNonD (.lst i) = false := rfl
@[simp] theorem loOf_nil {r : Res D} : loOf .nil r = .ok none := rfl
@[simp] theorem loOf_int {r : Res D} {i : Int} : loOf (.int i) r = (r >>= loD) := rfl
@[simp] theorem loOf_var {r : Res D} {i : Nat} : loOf (.var i) r = (r >>= loD) := rfl
@[simp] theorem loOf_ix {r : Res D} {a b : ME} : loOf (.ix a b) r = (r >>= loD) := rfl
@[simp] theorem loOf_op {r : Res D} {o : Bop} {a b : ME} : loOf (.op o a b) r = (r >>= loD) := rfl
@[simp] theorem loOf_neg {r : Res D} {a : ME} : loOf (.neg a) r = (r >>= loD) := rfl
@[simp] theorem loOf_call {r : Res D} {f : String} {a : ME} : loOf (.call f a) r = (r >>= loD) := rfl
@[simp] theorem loD_int {i : Int} : loD (.int i) = .ok (some i) := rfl
@[simp] theorem sl_tup {xs : List D} {l h : Option Int} : slD (.tup xs) l h = .ok (.tup (cut xs l h)) := rfl
@[simp] theorem sl_lst {xs : List D} {l h : Option Int} : slD (.lst xs) l h = .ok (.lst (cut xs l h)) := rfl
@[simp] theorem sl_str {xs : List Nat} {l h : Option Int} : slD (.str xs) l h = .ok (.str (cut xs l h)) := rfl
@[simp] theorem add_int {i j : Int} : bopD .add (.int i) (.int j) = .ok (.int (i + j)) := rfl
@[simp] theorem add_str {x y : List Nat} : bopD .add (.str x) (.str y) = must (decide (x.length + y.length ≤ SZ)) (.ok (.str (x ++ y))) := rfl
@[simp] theorem add_lst {x y : List D} : bopD .add (.lst x) (.lst y) = must (decide (x.length + y.length ≤ SZ)) (.ok (.lst (x ++ y))) := rfl
@[simp] theorem add_tup {x y : List D} : bopD .add (.tup x) (.tup y) = must (decide (x.length + y.length ≤ SZ)) (.ok (.tup (x ++ y))) := rfl
@[simp] theorem sub_int {i j : Int} : bopD .sub (.int i) (.int j) = .ok (.int (i - j)) := rfl
@[simp] theorem mul_int {i j : Int} : bopD .mul (.int i) (.int j) = must (smallI i || smallI j) (.ok (.int (i * j))) := rfl
@[simp] theorem mul_str {s : List Nat} {k : Int} : bopD .mul (.str s) (.int k) = must ((decide (k = 0) || decide (k = 1)) || (decide (2 ≤ k) && decide (k ≤ 1000) && decide (s.length ≤ 1000))) (.ok (.str (mulT s k))) := rfl
@[simp] theorem mulT_zero {s : List Nat} : mulT s 0 = [] := rfl
@[simp] theorem mulT_one {s : List Nat} : mulT s 1 = s := rfl
@[simp] theorem mulT_if {s : List Nat} {p : Prop} [Decidable p] : mulT s (if p then 1 else 0) = if p then s else [] := by split <;> rfl
@[simp] theorem mulT_if' {s : List Nat} {p : Prop} [Decidable p] : mulT s (if p then 0 else 1) = if p then [] else s := by split <;> rfl
@[simp] theorem fdiv_int {i j : Int} : bopD .fdiv (.int i) (.int j) = must (decide (0 < j) && decide (j < 1073741824)) (.ok (.int (i / j))) := rfl
@[simp] theorem mod_int {i j : Int} : bopD .mod (.int i) (.int j) = must (decide (0 < j)) (.ok (.int (i % j))) := rfl
@[simp] theorem ix_tup {xs : List D} {i : Int} : ixD (.tup xs) (.int i) = optR (nth xs i) := rfl
@[simp] theorem ix_lst {xs : List D} {i : Int} : ixD (.lst xs) (.int i) = optR (nth xs i) := rfl
@[simp] theorem ix_scr {xs : List D} {i : Int} : ixD (.scr xs) (.int i) = optR (nth xs i) := rfl
@[simp] theorem ix_str {xs : List Nat} {i : Int} : ixD (.str xs) (.int i) = (optR (nth xs i) >>= fun c => .ok (.str [c])) := rfl
@[simp] theorem cop_eq {x y : D} : copD .eq x y = must (eqOk x y) (.ok (.bl (eqD x y))) := rfl
@[simp] theorem cop_ne {x y : D} : copD .ne x y = must (eqOk x y) (.ok (.bl (!eqD x y))) := rfl
@[simp] theorem cop_lt {i j : Int} : copD .lt (.int i) (.int j) = .ok (.bl (decide (i < j))) := rfl
@[simp] theorem cop_le {i j : Int} : copD .le (.int i) (.int j) = .ok (.bl (decide (i ≤ j))) := rfl
@[simp] theorem cop_gt {i j : Int} : copD .gt (.int i) (.int j) = .ok (.bl (decide (j < i))) := rfl
@[simp] theorem cop_ge {i j : Int} : copD .ge (.int i) (.int j) = .ok (.bl (decide (j ≤ i))) := rfl
@[simp] theorem cop_lts {i j : List Nat} : copD .lt (.str i) (.str j) = .ok (.bl (decide (i < j))) := rfl
@[simp] theorem cop_inn {x y : D} : copD .inn x y = (inD x y >>= fun b => .ok (.bl b)) := rfl
@[simp] theorem cop_nin {x y : D} : copD .nin x y = (inD x y >>= fun b => .ok (.bl !b)) := rfl
@[simp] theorem cop_iss {a b : Bool} : copD .iss (.bl a) (.bl b) = .ok (.bl (a == b)) := rfl
@[simp] theorem cop_issn {b : Bool} : copD .iss .non (.bl b) = .ok (.bl false) := rfl
@[simp] theorem cop_isns {a b : Bool} : copD .isns (.bl a) (.bl b) = .ok (.bl !(a == b)) := rfl
@[simp] theorem cop_isnsn {b : Bool} : copD .isns .non (.bl b) = .ok (.bl true) := rfl
@[simp] theorem in_tup {x : D} {ys : List D} : inD x (.tup ys) = must (x.plain && D.plains ys && decide (x.dep ≤ 100)) (.ok (ys.any fun y => eqD y x)) := rfl
@[simp] theorem in_lst {x : D} {ys : List D} : inD x (.lst ys) = must (x.plain && D.plains ys && decide (x.dep ≤ 100)) (.ok (ys.any fun y => eqD y x)) := rfl
@[simp] theorem len_tup {xs : List D} : b1D .len (.tup xs) = .ok (.int xs.length) := rfl
@[simp] theorem len_lst {xs : List D} : b1D .len (.lst xs) = .ok (.int xs.length) := rfl
@[simp] theorem len_str {xs : List Nat} : b1D .len (.str xs) = .ok (.int xs.length) := rfl
@[simp] theorem len_scr {xs : List D} : b1D .len (.scr xs) = .ok (.int xs.length) := rfl
@[simp] theorem tuple_tup {xs : List D} : b1D .tuple (.tup xs) = .ok (.tup xs) := rfl
@[simp] theorem tuple_lst {xs : List D} : b1D .tuple (.lst xs) = .ok (.tup xs) := rfl
@[simp] theorem list_tup {xs : List D} : b1D .list (.tup xs) = .ok (.lst xs) := rfl
@[simp] theorem list_lst {xs : List D} : b1D .list (.lst xs) = .ok (.lst xs) := rfl
@[simp] theorem int_bl {b : Bool} : b1D .int (.bl b) = .ok (.int (if b then 1 else 0)) := rfl
@[simp] theorem int_int {i : Int} : b1D .int (.int i) = .ok (.int i) := rfl
@[simp] theorem str_int {i : Int} : b1D .str (.int i) = must (decide (i.natAbs.log2 < 1920) && decide ((figs i).length ≤ SZ)) (.ok (.str (figs i))) := rfl
@[simp] theorem str_str {s : List Nat} : b1D .str (.str s) = .ok (.str s) := rfl
@[simp] theorem isstr_str {s : List Nat} : b1D .isstr (.str s) = .ok (.bl true) := rfl
@[simp] theorem isstr_int {s : Int} : b1D .isstr (.int s) = .ok (.bl false) := rfl
@[simp] theorem isstr_non : b1D .isstr .non = .ok (.bl false) := rfl
@[simp] theorem isbool_bl {b : Bool} : b1D .isbool (.bl b) = .ok (.bl true) := rfl
@[simp] theorem isbool_non : b1D .isbool .non = .ok (.bl false) := rfl
@[simp] theorem isbool_int {i : Int} : b1D .isbool (.int i) = .ok (.bl false) := rfl
@[simp] theorem isint_int {s : Int} : b1D .isint (.int s) = .ok (.bl true) := rfl
@[simp] theorem isint_tup {s : List D} : b1D .isint (.tup s) = .ok (.bl false) := rfl
@[simp] theorem isint_str {s : List Nat} : b1D .isint (.str s) = .ok (.bl false) := rfl
@[simp] theorem b2R_join {s : List Nat} : b2R .join (.str s) = true := rfl
@[simp] theorem b2R_index {s : List D} : b2R .index (.lst s) = true := rfl
@[simp] theorem join_tup {sep : List Nat} {ds : List D} : b2D .join (.str sep) (.tup ds) = (optR (strsD ds) >>= fun xs => must (decide (joinW sep xs ≤ SZ)) (.ok (.str (joinT sep xs)))) := rfl
@[simp] theorem join_lst {sep : List Nat} {ds : List D} : b2D .join (.str sep) (.lst ds) = (optR (strsD ds) >>= fun xs => must (decide (joinW sep xs ≤ SZ)) (.ok (.str (joinT sep xs)))) := rfl
@[simp] theorem index_lst {xs : List D} {x : D} : b2D .index (.lst xs) x = must (x.plain && D.plains xs && decide (x.dep ≤ 60) && decide (D.deps xs ≤ 60)) (optR (indexOf x 0 xs) >>= fun k => .ok (.int k)) := rfl
theorem strsD_map {α : Type} {f : α → List Nat} : ∀ {L : List α}, strsD (L.map fun x => .str (f x)) = some (L.map f)
  | [] => rfl
  | x :: L => by
    show (match strsD (L.map fun x => .str (f x)) with
      | some t => some (f x :: t)
      | none => none) = _
    rw [strsD_map]
    rfl
@[simp] theorem strsD_nil : strsD [] = some [] := rfl
@[simp] theorem strsD_cons {s : List Nat} {r : List D} : strsD (.str s :: r) = (match strsD r with
  | some t => some (s :: t)
  | none => none) := rfl
@[simp] theorem dicD_dic {t : Bool} {ks vs : List D} : dicD (.dic t ks vs) = .ok (t, ks, vs) := rfl
@[simp] theorem ownD_lst {xs : List D} : ownD (.lst xs) = .ok (.lst xs) := rfl
@[simp] theorem ownD_dic {t : Bool} {ks vs : List D} : ownD (.dic t ks vs) = .ok (.dic t ks vs) := rfl
@[simp] theorem store_dic {t : Bool} {ks vs : List D} {k v : D} : storeD (.dic t ks vs) k v = must (keyOk t k && decide (ks.length < SZ)) (.ok (.dic t (putD k v (ks, vs)).1 (putD k v (ks, vs)).2)) := by cases k <;> rfl
@[simp] theorem ix_dic {t : Bool} {ks vs : List D} {k : D} : ixD (.dic t ks vs) k = must (keyOk t k) (optR (findD k ks vs)) := by cases k <;> rfl
@[simp] theorem in_dic {t : Bool} {ks vs : List D} {k : D} : inD k (.dic t ks vs) = must (keyOk t k) (.ok (findD k ks vs).isSome) := rfl
@[simp] theorem len_dic {t : Bool} {ks vs : List D} : b1D .len (.dic t ks vs) = .ok (.int ks.length) := rfl
@[simp] theorem sorted_lst {xs : List D} : b1D .sorted (.lst xs) = must (sortOk xs) (.ok (.lst (xs.mergeSort leD))) := rfl
@[simp] theorem sorted_dic {ks vs : List D} : b1D .sorted (.dic true ks vs) = must (sortOk ks) (.ok (.lst (ks.mergeSort leD))) := rfl
@[simp] theorem ord_str {c : Nat} : b1D .ord (.str [c]) = .ok (.int (c : Nat)) := rfl
@[simp] theorem b2R_zfill {s : List Nat} : b2R .zfill (.str s) = true := rfl
@[simp] theorem zfill_str {s : List Nat} {i : Int} : b2D .zfill (.str s) (.int i) = must ((s.all fun c => decide (48 ≤ c) && decide (c ≤ 57)) && decide (s.length ≤ 1000) && decide (0 ≤ i) && decide (i ≤ 1000)) (.ok (.str (List.replicate (i.toNat - s.length) 48 ++ s))) := rfl
@[simp] theorem rev_tup {xs : List D} : b1D .rev (.tup xs) = must (!xs.isEmpty) (.ok (.tup xs.reverse)) := rfl
@[simp] theorem sitems_dic {ks vs : List D} : b1D .sitems (.dic false ks vs) = must (sortOk (List.zipWith (fun k v => D.tup [k, v]) ks vs)) (.ok (.lst ((List.zipWith (fun k v => D.tup [k, v]) ks vs).mergeSort leD))) := rfl
@[simp] theorem mul_tup {xs : List D} {k : Int} : bopD .mul (.tup xs) (.int k) = must (!xs.isEmpty && decide (2 ≤ k) && decide (k ≤ 1000) && decide (xs.length ≤ 1000)) (.ok (.tup (List.replicate k.toNat xs).flatten)) := rfl
@[simp] theorem mul_lst {xs : List D} {k : Int} : bopD .mul (.lst xs) (.int k) = must (decide (0 ≤ k) && decide (k ≤ 1000) && decide (xs.length ≤ 1000)) (.ok (.lst (List.replicate k.toNat xs).flatten)) := rfl
@[simp] theorem sum_lst {xs : List D} : b1D .sum (.lst xs) = (optR (intsD xs) >>= fun ns => .ok (.int ns.sum)) := rfl
@[simp] theorem dictT_lst {xs : List D} : b1D .dictT (.lst xs) = (optR (pairsD xs) >>= fun ps => must (ps.all fun p => keyOk true p.1) (.ok (.dic true (mergeD ps).1 (mergeD ps).2))) := rfl
@[simp] theorem dictS_itr {xs : List D} : b1D .dictS (.itr xs) = (optR (pairsD xs) >>= fun ps => must (ps.all fun p => keyOk false p.1) (.ok (.dic false (mergeD ps).1 (mergeD ps).2))) := rfl
@[simp] theorem ptup_lst {xs : List D} : b1D .ptup (.lst xs) = .ok (.itr xs) := rfl
@[simp] theorem dictS_lst {xs : List D} : b1D .dictS (.lst xs) = (optR (pairsD xs) >>= fun ps => must (ps.all fun p => keyOk false p.1) (.ok (.dic false (mergeD ps).1 (mergeD ps).2))) := rfl
@[simp] theorem lset_lst {xs : List D} : b1D .lset (.lst xs) = must (xs.all flatK && decide (xs.length ≤ 1000)) (.ok (.int (onceD xs).length)) := rfl
@[simp] theorem lset_tup {xs : List D} : b1D .lset (.tup xs) = must (xs.all flatK && decide (xs.length ≤ 1000)) (.ok (.int (onceD xs).length)) := rfl
@[simp] theorem sset_lst {xs : List D} : b1D .sset (.lst xs) = must (xs.all flatK && sortOk xs && decide (xs.length ≤ 1000)) (.ok (.lst ((onceD xs).mergeSort leD))) := rfl
@[simp] theorem b2R_count {s : List D} : b2R .count (.lst s) = true := rfl
@[simp] theorem count_lst {xs : List D} {x : D} : b2D .count (.lst xs) x = must (x.plain && D.plains xs && decide (x.dep ≤ 60) && decide (D.deps xs ≤ 60)) (.ok (.int ((xs.countP fun y => eqD y x : Nat) : Int))) := rfl
/-! indices -/
@[simp] theorem nth_0 {x : α} {l : List α} : nth (x :: l) 0 = some x := by simp [nth, atIx]
@[simp] theorem nth_1 {x y : α} {l : List α} : nth (x :: y :: l) 1 = some y := by
  have : (1 : Int) < ((x :: y :: l).length : Nat) := by simp; omega
  simp only [nth, atIx]
  rw [if_pos (by decide), if_pos this]
  rfl
@[simp] theorem nth_2 {x y z : α} {l : List α} : nth (x :: y :: z :: l) 2 = some z := by
  have : (2 : Int) < ((x :: y :: z :: l).length : Nat) := by simp; omega
  simp only [nth, atIx]
  rw [if_pos (by decide), if_pos this]
  rfl
@[simp] theorem nth_3 {x y z w : α} {l : List α} : nth (x :: y :: z :: w :: l) 3 = some w := by
  have : (3 : Int) < ((x :: y :: z :: w :: l).length : Nat) := by simp; omega
  simp only [nth, atIx]
  rw [if_pos (by decide), if_pos this]
  rfl
theorem nth_nat {l : List α} {k : Nat} : nth l (k : Int) = l[k]? := by
  unfold nth atIx
  rw [if_pos (by omega)]
  by_cases h : (k : Int) < l.length
  · rw [if_pos h]
    rfl
  · rw [if_neg h, List.getElem?_eq_none (by omega)]
theorem nth_pos {l : List α} {i : Int} (h : 0 ≤ i) : nth l i = l[i.toNat]? := by
  obtain ⟨k, rfl⟩ := Int.eq_ofNat_of_zero_le h
  exact nth_nat
theorem nth_map {β : Type} {f : α → β} {l : List α} {i : Int} : nth (l.map f) i = (nth l i).map f := by
  unfold nth
  rw [List.length_map]
  cases atIx l.length i with
  | none => rfl
  | some k => simp
theorem nth_in {l : List α} {i : Int} (h0 : 0 ≤ i) (h1 : i < l.length) : ∃ x, nth l i = some x ∧ x ∈ l := by
  obtain ⟨k, rfl⟩ := Int.eq_ofNat_of_zero_le h0
  have hk : k < l.length := by omega
  exact ⟨l[k], by rw [nth_nat]; simp [hk], List.getElem_mem hk⟩
theorem nth_mod {l : List α} {i : Int} (h : l ≠ []) : ∃ x, nth l (i % (l.length : Nat)) = some x ∧ x ∈ l := by
  have : 0 < l.length := List.length_pos_iff.mpr h
  exact nth_in (Int.emod_nonneg _ (by omega)) (Int.emod_lt_of_pos _ (by omega))
/-! slices -/
@[simp] theorem cut_all {l : List α} : cut l none none = l := by simp [cut, cutIx]
theorem cut_lo {l : List α} {k : Nat} : cut l (some (k : Int)) none = l.drop k := by
  have e : cutIx l.length 0 (some (k : Int)) = min k l.length := by
    show (if (k : Int) < 0 then ((k : Int) + l.length).toNat else min (k : Int).toNat l.length) = _
    rw [if_neg (by omega)]
    rfl
  show ((l.take l.length).drop (cutIx l.length 0 (some (k : Int)))) = _
  rw [e, List.take_length]
  by_cases h : k ≤ l.length
  · rw [Nat.min_eq_left h]
  · rw [Nat.min_eq_right (by omega), List.drop_length, List.drop_eq_nil_of_le (by omega)]
theorem cut_hi {l : List α} {k : Nat} : cut l none (some (k : Int)) = l.take k := by
  have e : cutIx l.length l.length (some (k : Int)) = min k l.length := by
    show (if (k : Int) < 0 then ((k : Int) + l.length).toNat else min (k : Int).toNat l.length) = _
    rw [if_neg (by omega)]
    rfl
  show ((l.take (cutIx l.length l.length (some (k : Int)))).drop 0) = _
  rw [e, List.drop_zero]
  by_cases h : k ≤ l.length
  · rw [Nat.min_eq_left h]
  · rw [Nat.min_eq_right (by omega), List.take_length, List.take_of_length_le (by omega)]
@[simp] theorem cut_1 {x : α} {l : List α} : cut (x :: l) (some 1) none = l := cut_lo (k := 1)
@[simp] theorem cut_2 {x y : α} {l : List α} : cut (x :: y :: l) (some 2) none = l := cut_lo (k := 2)
@[simp] theorem cut_h3 {x y z : α} {l : List α} : cut (x :: y :: z :: l) none (some 3) = [x, y, z] := cut_hi (k := 3)
@[simp] theorem cut_h2 {x y : α} {l : List α} : cut (x :: y :: l) none (some 2) = [x, y] := cut_hi (k := 2)
theorem cut_loI {l : List α} {i : Int} (h : 0 ≤ i) : cut l (some i) none = l.drop i.toNat := by
  obtain ⟨k, rfl⟩ := Int.eq_ofNat_of_zero_le h
  exact cut_lo
theorem cut_hiI {l : List α} {i : Int} (h : 0 ≤ i) : cut l none (some i) = l.take i.toNat := by
  obtain ⟨k, rfl⟩ := Int.eq_ofNat_of_zero_le h
  exact cut_hi
theorem cut_sub {l : List α} {a b : Option Int} : ∀ x ∈ cut l a b, x ∈ l := fun x h => List.mem_of_mem_take (List.mem_of_mem_drop h)
theorem cut_map {β : Type} {f : α → β} {l : List α} {a b : Option Int} : cut (l.map f) a b = (cut l a b).map f := by
  unfold cut
  rw [List.length_map, ← List.map_take, ← List.map_drop]
end
/-! what == says -/
@[simp] theorem eqOk_str {s : List Nat} {y : D} : eqOk (.str s) y = y.plain := by simp [eqOk, D.plain, D.dep]
@[simp] theorem eqOk_strR {s : List Nat} {y : D} : eqOk y (.str s) = y.plain := by simp [eqOk, D.plain, D.dep]
@[simp] theorem eqOk_int {s : Int} {y : D} : eqOk (.int s) y = y.plain := by simp [eqOk, D.plain, D.dep]
@[simp] theorem eqOk_intR {s : Int} {y : D} : eqOk y (.int s) = y.plain := by simp [eqOk, D.plain, D.dep]
@[simp] theorem eqOk_bl {s : Bool} {y : D} : eqOk (.bl s) y = y.plain := by simp [eqOk, D.plain, D.dep]
@[simp] theorem eqOk_blR {s : Bool} {y : D} : eqOk y (.bl s) = y.plain := by simp [eqOk, D.plain, D.dep]
@[simp] theorem eqOk_non {y : D} : eqOk .non y = y.plain := by simp [eqOk, D.plain, D.dep]
@[simp] theorem eqOk_nonR {y : D} : eqOk y .non = y.plain := by simp [eqOk, D.plain, D.dep]
@[simp] theorem eqOk_nilR {y : D} : eqOk y (.lst []) = y.plain := by simp [eqOk, D.plain, D.plains, D.dep, D.deps]
@[simp] theorem plain_str {s : List Nat} : (D.str s).plain = true := rfl
@[simp] theorem plain_int {s : Int} : (D.int s).plain = true := rfl
@[simp] theorem plain_bl {s : Bool} : (D.bl s).plain = true := rfl
@[simp] theorem plain_non : D.non.plain = true := rfl
@[simp] theorem plain_tup {s : List D} : (D.tup s).plain = D.plains s := rfl
@[simp] theorem plain_lst {s : List D} : (D.lst s).plain = D.plains s := rfl
@[simp] theorem plains_nil : D.plains [] = true := rfl
@[simp] theorem plains_cons {x : D} {s : List D} : D.plains (x :: s) = (x.plain && D.plains s) := rfl
theorem plains_map {α : Type} {f : α → D} (h : ∀ x, (f x).plain = true) : ∀ l : List α, D.plains (l.map f) = true
  | [] => rfl
  | x :: l => by rw [List.map_cons, plains_cons, h, plains_map h l]; rfl
@[simp] theorem dep_str {s : List Nat} : (D.str s).dep = 0 := rfl
@[simp] theorem dep_int {s : Int} : (D.int s).dep = 0 := rfl
@[simp] theorem dep_bl {s : Bool} : (D.bl s).dep = 0 := rfl
@[simp] theorem dep_non : D.non.dep = 0 := rfl
@[simp] theorem dep_tup {s : List D} : (D.tup s).dep = D.deps s + 1 := rfl
@[simp] theorem dep_lst {s : List D} : (D.lst s).dep = D.deps s + 1 := rfl
@[simp] theorem deps_nil : D.deps [] = 0 := rfl
@[simp] theorem deps_cons {x : D} {s : List D} : D.deps (x :: s) = max x.dep (D.deps s) := rfl
theorem deps_map {α : Type} {f : α → D} {n : Nat} (h : ∀ x, (f x).dep ≤ n) : ∀ l : List α, D.deps (l.map f) ≤ n
  | [] => Nat.zero_le _
  | x :: l => by rw [List.map_cons, deps_cons]; exact Nat.max_le.mpr ⟨h x, deps_map h l⟩
@[simp] theorem eq_str {a b : List Nat} : eqD (.str a) (.str b) = decide (a = b) := rfl
@[simp] theorem eq_int {a b : Int} : eqD (.int a) (.int b) = decide (a = b) := rfl
@[simp] theorem eq_bl {a b : Bool} : eqD (.bl a) (.bl b) = (a == b) := rfl
@[simp] theorem eq_non : eqD .non .non = true := rfl
@[simp] theorem eq_non_int {i : Int} : eqD .non (.int i) = false := rfl
@[simp] theorem eq_non_str {i : List Nat} : eqD .non (.str i) = false := rfl
@[simp] theorem eq_int_non {i : Int} : eqD (.int i) .non = false := rfl
@[simp] theorem eq_str_non {i : List Nat} : eqD (.str i) .non = false := rfl
@[simp] theorem eq_str_int {i : List Nat} {j : Int} : eqD (.str i) (.int j) = false := rfl
@[simp] theorem eq_int_str {i : List Nat} {j : Int} : eqD (.int j) (.str i) = false := rfl
@[simp] theorem eq_bl_non {i : Bool} : eqD (.bl i) .non = false := rfl
@[simp] theorem eq_non_bl {i : Bool} : eqD .non (.bl i) = false := rfl
@[simp] theorem eq_tup {a b : List D} : eqD (.tup a) (.tup b) = eqDs a b := rfl
@[simp] theorem eq_lst {a b : List D} : eqD (.lst a) (.lst b) = eqDs a b := rfl
@[simp] theorem eqs_nil : eqDs [] [] = true := rfl
@[simp] theorem eqs_nc {y : D} {ys : List D} : eqDs [] (y :: ys) = false := rfl
@[simp] theorem eqs_cn {y : D} {ys : List D} : eqDs (y :: ys) [] = false := rfl
@[simp] theorem eqs_cons {x y : D} {xs ys : List D} : eqDs (x :: xs) (y :: ys) = (eqD x y && eqDs xs ys) := rfl
end Dt
namespace Dt
section
variable {E : Ex → Prop} {N : EnvD → Prop} {R : D → Prop} {f : D → EnvD → Res Fl} {ρ : EnvD} {α : Type}
@[simp] theorem wp_frnil : Wp (frD f [] ρ) (FQ N R) E ↔ N ρ := Iff.rfl
@[simp] theorem wp_frcons {x : D} {xs : List D} : Wp (frD f (x :: xs) ρ) (FQ N R) E ↔ Wp (f x ρ) (FQ (fun ρ' => Wp (frD f xs ρ') (FQ N R) E) R) E := by
  show Wp (match f x ρ with
    | .ok (.nx ρ') => frD f xs ρ'
    | r => r) _ _ ↔ _
  cases f x ρ with
  | ok fl => cases fl <;> rfl
  | exc e => rfl
  | stuck => rfl
theorem smallI_of {i : Int} (h0 : -18446744073709551616 < i) (h1 : i < 18446744073709551616) : smallI i = true := by simp [smallI, h0, h1]
theorem SZ_le {n : Nat} (h : n ≤ 16777216) : n ≤ SZ := h
theorem enumD_map {f : α → D} : ∀ {l : List α} {n : Nat}, enumD n (l.map f) = (l.zipIdx n).map fun p => .tup [.int p.2, f p.1]
  | [], _ => rfl
  | x :: l, n => by
    show D.tup [.int n, f x] :: enumD (n + 1) (l.map f) = _
    rw [enumD_map]
    rfl
theorem zipD_map {β : Type} {f : α → D} {g : β → D} : ∀ {l : List α} {m : List β}, zipD (l.map f) (m.map g) = (l.zip m).map fun p => .tup [f p.1, g p.2]
  | [], _ => by simp [zipD]
  | x :: l, [] => rfl
  | x :: l, y :: m => by
    show D.tup [f x, g y] :: zipD (l.map f) (m.map g) = _
    rw [zipD_map]
    rfl
theorem rangeD_map {k : Nat} : rangeD 0 (k : Int) = (List.range k).map fun (i : Nat) => D.int (i : Int) := by simp [rangeD]
end
theorem map_inj' {α β : Type} {f : α → β} (hf : ∀ a b, f a = f b → a = b) : ∀ {l m : List α}, l.map f = m.map f → l = m
  | [], [], _ => rfl
  | [], _ :: _, h => by cases h
  | _ :: _, [], h => by cases h
  | x :: l, y :: m, h => by
    rw [List.map_cons, List.map_cons] at h
    injection h with h1 h2
    rw [hf _ _ h1, map_inj' hf h2]
@[simp] theorem tx_inj {a b : String} : tx a = tx b ↔ a = b := by
  constructor
  · intro h
    have h1 : a.toList = b.toList := map_inj' (fun c d h => Char.toNat_inj.mp h) h
    exact String.toList_inj.mp h1
  · rintro rfl
    rfl
end Dt
namespace Law
open Dt
def m_names_of : Fn := ⟨1, 2,
 (.cons (.ret (.comp (.nm 1) (.ix (.var 0) (.int 1)) (.ix (.var 1) (.int 0))))
 .nil)⟩
def m_place_of : Fn := ⟨2, 2,
 (.cons (.ret (.b2 .index (.call "names_of" (.cons (.var 0) .nil)) (.var 1)))
 .nil)⟩
def m_table_of : Fn := ⟨2, 3,
 (.cons (.ret (.ix (.compIf (.nm 2) (.var 0) (.cmp .eq (.ix (.var 2) (.int 0)) (.var 1)) (.var 2)) (.int 0)))
 .nil)⟩
def m_row_key : Fn := ⟨2, 3,
 (.cons (.ret (.b1 .tuple (.comp (.nm 2) (.ix (.var 0) (.int 2)) (.ix (.var 1) (.call "place_of" (.cons (.var 0) (.cons (.var 2) .nil)))))))
 .nil)⟩
def m_compared : Fn := ⟨3, 3,
 (.cons (.ife (.or (.isn (.var 1)) (.or1 (.isn (.var 2)))) (.cons (.ret .non)
 .nil) .nil)
 (.cons (.ife (.cmp .eq (.var 0) (.str "is")) (.cons (.ret (.cmp .eq (.var 1) (.var 2)))
 .nil) .nil)
 (.cons (.ret (.cmp .lt (.var 1) (.var 2)))
 .nil)))⟩
def m_holds : Fn := ⟨3, 8,
 (.cons (.asg (.nm 3) [] (.ix (.var 1) (.int 0)))
 (.cons (.ife (.cmp .eq (.var 3) (.str "not")) (.cons (.asg (.nm 4) [] (.call "holds" (.cons (.var 0) (.cons (.ix (.var 1) (.int 1)) (.cons (.var 2) .nil)))))
 (.cons (.ife (.isn (.var 4)) (.cons (.ret .non)
 .nil) .nil)
 (.cons (.ret (.not (.var 4)))
 .nil))) .nil)
 (.cons (.ife (.cmp .inn (.var 3) (.tup (.cons (.str "and") (.cons (.str "or") .nil)))) (.cons (.asg (.nm 5) [] (.comp (.nm 6) (.sl (.var 1) (.int 1) .nil) (.call "holds" (.cons (.var 0) (.cons (.var 6) (.cons (.var 2) .nil))))))
 (.cons (.ife (.cmp .inn (.cmp .eq (.var 3) (.str "or")) (.var 5)) (.cons (.ret (.cmp .eq (.var 3) (.str "or")))
 .nil) .nil)
 (.cons (.ife (.cmp .inn .non (.var 5)) (.cons (.ret .non)
 .nil) .nil)
 (.cons (.ret (.cmp .eq (.var 3) (.str "and")))
 .nil)))) .nil)
 (.cons (.asg (.nm 7) [] (.ix (.var 2) (.call "place_of" (.cons (.var 0) (.cons (.ix (.var 1) (.int 1)) .nil)))))
 (.cons (.ife (.cmp .eq (.var 3) (.str "empty")) (.cons (.ret (.isn (.var 7)))
 .nil) .nil)
 (.cons (.ife (.cmp .eq (.var 3) (.str "is")) (.cons (.ret (.call "compared" (.cons (.var 3) (.cons (.var 7) (.cons (.ix (.var 1) (.int 2)) .nil)))))
 .nil) .nil)
 (.cons (.ret (.call "compared" (.cons (.var 3) (.cons (.var 7) (.cons (.ix (.var 2) (.call "place_of" (.cons (.var 0) (.cons (.ix (.var 1) (.int 2)) .nil)))) .nil)))))
 .nil)))))))⟩
def m_key_of : Fn := ⟨2, 2,
 (.cons (.ret (.call "row_key" (.cons (.var 0) (.cons (.var 1) .nil))))
 .nil)⟩
def m_rows_of : Fn := ⟨3, 4,
 (.cons (.ret (.ix (.var 1) (.b2 .index (.comp (.nm 3) (.var 0) (.ix (.var 3) (.int 0))) (.var 2))))
 .nil)⟩
def m_keys_in : Fn := ⟨3, 5,
 (.cons (.asg (.nm 3) [] (.call "table_of" (.cons (.var 0) (.cons (.var 2) .nil))))
 (.cons (.ret (.comp (.nm 4) (.call "rows_of" (.cons (.var 0) (.cons (.var 1) (.cons (.var 2) .nil)))) (.call "row_key" (.cons (.var 3) (.cons (.var 4) .nil)))))
 .nil))⟩
def m_worths_in : Fn := ⟨3, 6,
 (.cons (.asg (.nm 3) [] (.b1 .tuple (.comp (.nm 4) (.var 2) (.ix (.var 1) (.call "place_of" (.cons (.var 0) (.cons (.var 4) .nil)))))))
 (.cons (.ife (.b1 .any (.comp (.nm 5) (.var 3) (.isn (.var 5)))) (.cons (.ret .non)
 .nil) .nil)
 (.cons (.ret (.var 3))
 .nil)))⟩
def m_breaking_rows : Fn := ⟨4, 9,
 (.cons (.asg (.nm 4) [] (.call "rows_of" (.cons (.var 0) (.cons (.var 1) (.cons (.ix (.var 2) (.int 0)) .nil)))))
 (.cons (.ife (.cmp .eq (.ix (.var 3) (.int 0)) (.str "check")) (.cons (.ret (.compIf (.nm 5) (.var 4) (.cmp .iss (.call "holds" (.cons (.var 2) (.cons (.ix (.var 3) (.int 1)) (.cons (.var 5) .nil)))) (.bl false)) (.var 5)))
 .nil) .nil)
 (.cons (.asg (.nm 6) [] (.comp (.nm 5) (.var 4) (.call "worths_in" (.cons (.var 2) (.cons (.var 5) (.cons (.ix (.var 3) (.int 1)) .nil))))))
 (.cons (.ife (.cmp .eq (.ix (.var 3) (.int 0)) (.str "unlike")) (.cons (.ret (.compIf (.tp [5, 7]) (.zip (.var 4) (.var 6)) (.and (.notn (.var 7)) (.and1 (.cmp .gt (.b2 .count (.var 6) (.var 7)) (.int 1)))) (.var 5)))
 .nil) .nil)
 (.cons (.asg (.nm 8) [] (.call "keys_in" (.cons (.var 0) (.cons (.var 1) (.cons (.ix (.var 3) (.int 2)) .nil)))))
 (.cons (.ret (.compIf (.tp [5, 7]) (.zip (.var 4) (.var 6)) (.and (.notn (.var 7)) (.and1 (.cmp .nin (.var 7) (.var 8)))) (.var 5)))
 .nil))))))⟩
def m_breaks : Fn := ⟨2, 7,
 (.cons (.asgF 2 [] (.lst .nil))
 (.cons (.fr (.nm 3) [2] (.var 0) (.cons (.fr (.tp [4, 5]) [2] (.enum (.ix (.var 3) (.int 3))) (.cons (.fr (.nm 6) [2] (.call "breaking_rows" (.cons (.var 0) (.cons (.var 1) (.cons (.var 3) (.cons (.var 5) .nil))))) (.cons (.app 2 [2] (.tup (.cons (.ix (.var 3) (.int 0)) (.cons (.var 4) (.cons (.call "row_key" (.cons (.var 3) (.cons (.var 6) .nil))) .nil)))))
 .nil))
 .nil))
 .nil))
 (.cons (.ret (.b1 .tuple (.b1 .sorted (.var 2))))
 .nil)))⟩
def m__law_cell_at : Fn := ⟨2, 2,
 (.cons (.ife (.cmp .lt (.var 1) (.b1 .len (.var 0))) (.cons (.ret (.ix (.var 0) (.var 1)))
 .nil) .nil)
 (.cons (.ret (.int 0))
 .nil))⟩
def m__law_mixed : Fn := ⟨2, 3,
 (.cons (.asg (.nm 2) [] (.op .mod (.op .mul (.op .add (.op .add (.call "_law_cell_at" (.cons (.var 0) (.cons (.var 1) .nil))) (.op .mul (.int 7919) (.var 1))) (.int 1)) (.int 48271)) (.int 2147483647)))
 (.cons (.ret (.op .mod (.op .add (.op .add (.op .mul (.var 2) (.var 2)) (.op .mul (.int 7) (.var 2))) (.var 1)) (.int 2147483629)))
 .nil))⟩
def m__law_drawn : Fn := ⟨2, 3,
 (.cons (.asg (.nm 2) [] (.op .mod (.op .mul (.op .add (.op .add (.var 0) (.op .mul (.int 104729) (.var 1))) (.int 17)) (.int 69621)) (.int 2147483647)))
 (.cons (.ret (.op .mod (.op .add (.op .add (.op .mul (.var 2) (.var 2)) (.op .mul (.int 3) (.var 2))) (.var 1)) (.int 2147483629)))
 .nil))⟩
def m__law_names : Fn := ⟨1, 2,
 (.cons (.ret (.comp (.nm 1) (.ix (.var 0) (.int 1)) (.ix (.var 1) (.int 0))))
 .nil)⟩
def m__law_table : Fn := ⟨2, 3,
 (.cons (.ret (.ix (.compIf (.nm 2) (.var 0) (.cmp .eq (.ix (.var 2) (.int 0)) (.var 1)) (.var 2)) (.int 0)))
 .nil)⟩
def m__law_key : Fn := ⟨2, 3,
 (.cons (.ret (.b1 .tuple (.comp (.nm 2) (.ix (.var 0) (.int 2)) (.ix (.var 1) (.b2 .index (.call "_law_names" (.cons (.var 0) .nil)) (.var 2))))))
 .nil)⟩
def m__law_worths : Fn := ⟨3, 5,
 (.cons (.asg (.nm 3) [] (.b1 .tuple (.comp (.nm 4) (.var 2) (.ix (.var 1) (.b2 .index (.call "_law_names" (.cons (.var 0) .nil)) (.var 4))))))
 (.cons (.ret (.ix (.lst (.cons (.var 3) (.cons .non .nil))) (.b1 .int (.cmp .inn .non (.var 3)))))
 .nil))⟩
def m__law_rows : Fn := ⟨3, 4,
 (.cons (.ret (.ix (.var 1) (.b2 .index (.comp (.nm 3) (.var 0) (.ix (.var 3) (.int 0))) (.var 2))))
 .nil)⟩
def m__law_test : Fn := ⟨3, 11,
 (.cons (.asg (.nm 3) [] (.ix (.var 0) (.int 1)))
 (.cons (.asg (.nm 4) [] (.ix (.var 3) (.op .mod (.op .fdiv (.var 1) (.int 8)) (.b1 .len (.var 3)))))
 (.cons (.asg (.nm 5) [] (.op .mod (.var 1) (.int 8)))
 (.cons (.ife (.and (.cmp .gt (.var 2) (.int 1)) (.and1 (.cmp .gt (.var 5) (.int 4)))) (.cons (.asg (.nm 6) [] (.comp (.nm 7) (.tup (.cons (.int 1) (.cons (.int 2) .nil))) (.call "_law_test" (.cons (.var 0) (.cons (.op .fdiv (.call "_law_drawn" (.cons (.var 1) (.cons (.var 7) .nil))) (.int 4)) (.cons (.op .sub (.var 2) (.int 1)) .nil))))))
 (.cons (.ret (.ix (.lst (.cons (.tup (.cons (.str "not") (.cons (.ix (.var 6) (.int 0)) .nil))) (.cons (.tup (.cons (.str "and") (.cons (.ix (.var 6) (.int 0)) (.cons (.ix (.var 6) (.int 1)) .nil)))) (.cons (.tup (.cons (.str "or") (.cons (.ix (.var 6) (.int 0)) (.cons (.ix (.var 6) (.int 1)) .nil)))) .nil)))) (.op .sub (.var 5) (.int 5))))
 .nil)) .nil)
 (.cons (.ife (.cmp .eq (.var 5) (.int 0)) (.cons (.ret (.tup (.cons (.str "empty") (.cons (.ix (.var 4) (.int 0)) .nil))))
 .nil) .nil)
 (.cons (.asg (.nm 8) [] (.compIf (.nm 9) (.var 3) (.cmp .eq (.ix (.var 9) (.int 1)) (.ix (.var 4) (.int 1))) (.ix (.var 9) (.int 0))))
 (.cons (.ife (.cmp .eq (.var 5) (.int 1)) (.cons (.ret (.tup (.cons (.str "below") (.cons (.ix (.var 4) (.int 0)) (.cons (.ix (.var 8) (.op .mod (.op .fdiv (.var 1) (.int 64)) (.b1 .len (.var 8)))) .nil)))))
 .nil) .nil)
 (.cons (.asg (.nm 10) [] (.ix (.lst (.cons (.tup (.cons (.int 0) (.cons (.int 1) (.cons (.int 2) (.cons (.int 3) (.cons (.neg (.int 5)) (.cons (.int 999) .nil))))))) (.cons (.tup (.cons (.str "") (.cons (.str "a") (.cons (.str "b") (.cons (.str "ab") (.cons (.str "x9") (.cons (.str "zzzzzz") .nil))))))) .nil))) (.b1 .int (.cmp .eq (.ix (.var 4) (.int 1)) (.str "text")))))
 (.cons (.ret (.tup (.cons (.str "is") (.cons (.ix (.var 4) (.int 0)) (.cons (.ix (.var 10) (.op .mod (.op .fdiv (.var 1) (.int 64)) (.int 6))) .nil)))))
 .nil)))))))))⟩
def m__law_bare : Fn := ⟨2, 11,
 (.cons (.asg (.nm 2) [] (.tup (.cons (.str "whole") (.cons (.str "whole") (.cons (.str "text") (.cons (.str "whole") (.cons (.str "text") (.cons (.str "whole") .nil))))))))
 (.cons (.asgF 3 [] (.lst (.cons (.tup (.cons (.str "id") (.cons (.ix (.var 2) (.op .mod (.var 1) (.int 6))) (.cons (.bl false) .nil)))) .nil)))
 (.cons (.fr (.tp [4, 5]) [3] (.enum (.tup (.cons (.str "n") (.cons (.str "t") (.cons (.str "u") .nil))))) (.cons (.asg (.nm 6) [3] (.op .fdiv (.call "_law_drawn" (.cons (.var 1) (.cons (.op .add (.int 10) (.var 4)) .nil))) (.int 4)))
 (.cons (.ife (.cmp .gt (.op .mod (.var 6) (.int 4)) (.int 0)) (.cons (.app 3 [3] (.tup (.cons (.var 5) (.cons (.ix (.var 2) (.op .mod (.op .fdiv (.var 6) (.int 4)) (.int 6))) (.cons (.cmp .gt (.op .mod (.op .fdiv (.var 6) (.int 32)) (.int 3)) (.int 0)) .nil)))))
 .nil) .nil)
 .nil)))
 (.cons (.asg (.nm 7) [] (.compIf (.nm 8) (.var 3) (.not (.ix (.var 8) (.int 2))) (.ix (.var 8) (.int 0))))
 (.cons (.asg (.nm 9) [] (.tup (.cons (.str "id") .nil)))
 (.cons (.ife (.and (.cmp .eq (.op .mod (.op .fdiv (.var 1) (.int 8)) (.int 4)) (.int 0)) (.and1 (.cmp .gt (.b1 .len (.var 7)) (.int 1)))) (.cons (.asg (.nm 9) [] (.ix (.lst (.cons (.tup (.cons (.str "id") (.cons (.ix (.var 7) (.int 1)) .nil))) (.cons (.tup (.cons (.ix (.var 7) (.int 1)) (.cons (.str "id") .nil))) .nil))) (.op .mod (.op .fdiv (.var 1) (.int 32)) (.int 2))))
 .nil) .nil)
 (.cons (.asg (.nm 10) [] (.op .mod (.op .fdiv (.var 1) (.int 64)) (.b1 .len (.var 3))))
 (.cons (.ret (.tup (.cons (.var 0) (.cons (.b1 .tuple (.op .add (.sl (.var 3) (.var 10) .nil) (.sl (.var 3) .nil (.var 10)))) (.cons (.var 9) (.cons (.tup .nil) .nil))))))
 .nil))))))))⟩
def m__law_pairs : Fn := ⟨2, 7,
 (.cons (.asg (.nm 2) [] (.lst (.cons (.tup .nil) .nil)))
 (.cons (.fr (.nm 3) [] (.var 1) (.cons (.asg (.nm 4) [] (.lst .nil))
 (.cons (.fr (.nm 5) [] (.var 2) (.cons (.asg (.nm 4) [] (.op .add (.var 4) (.compIf (.nm 6) (.ix (.var 0) (.int 1)) (.and (.cmp .eq (.ix (.var 6) (.int 1)) (.var 3)) (.and1 (.cmp .nin (.ix (.var 6) (.int 0)) (.var 5)))) (.op .add (.var 5) (.tup (.cons (.ix (.var 6) (.int 0)) .nil))))))
 .nil))
 (.cons (.asg (.nm 2) [] (.var 4))
 .nil))))
 (.cons (.ret (.var 2))
 .nil)))⟩
def m__law_rule : Fn := ⟨3, 13,
 (.cons (.asg (.nm 3) [] (.ix (.var 0) (.op .mod (.op .fdiv (.var 2) (.int 8)) (.b1 .len (.var 0)))))
 (.cons (.asg (.nm 4) [] (.comp (.nm 6) (.ix (.var 3) (.int 2)) (.ix (.compIf (.nm 5) (.ix (.var 3) (.int 1)) (.cmp .eq (.ix (.var 5) (.int 0)) (.var 6)) (.ix (.var 5) (.int 1))) (.int 0))))
 (.cons (.asg (.nm 7) [] (.call "_law_pairs" (.cons (.var 1) (.cons (.var 4) .nil))))
 (.cons (.ife (.and (.cmp .lt (.op .mod (.var 2) (.int 8)) (.int 5)) (.and1 (.cmp .ne (.var 7) (.lst .nil)))) (.cons (.asg (.nm 8) [] (.ix (.var 7) (.op .mod (.op .fdiv (.var 2) (.int 64)) (.b1 .len (.var 7)))))
 (.cons (.asg (.nm 9) [] (.ix (.tup (.cons (.str "along") (.cons (.str "stop") (.cons (.str "late") (.cons (.str "gap") (.cons (.str "along") (.cons (.str "gap") .nil))))))) (.op .mod (.op .fdiv (.var 2) (.int 1024)) (.int 6))))
 (.cons (.asg (.nm 10) [] (.compIf (.nm 5) (.ix (.var 1) (.int 1)) (.and (.cmp .inn (.ix (.var 5) (.int 0)) (.var 8)) (.and1 (.not (.ix (.var 5) (.int 2))))) (.var 5)))
 (.cons (.ife (.and (.cmp .ne (.var 10) (.lst .nil)) (.and1 (.cmp .eq (.var 9) (.str "gap")))) (.cons (.asg (.nm 9) [] (.str "late"))
 .nil) .nil)
 (.cons (.ret (.tup (.cons (.str "refers") (.cons (.var 8) (.cons (.ix (.var 3) (.int 0)) (.cons (.var 9) .nil))))))
 .nil))))) .nil)
 (.cons (.asg (.nm 11) [] (.comp (.nm 5) (.ix (.var 1) (.int 1)) (.ix (.var 5) (.int 0))))
 (.cons (.ife (.cmp .eq (.op .mod (.var 2) (.int 8)) (.int 5)) (.cons (.asg (.nm 12) [] (.op .mod (.op .fdiv (.var 2) (.int 64)) (.b1 .len (.var 11))))
 (.cons (.ret (.tup (.cons (.str "unlike") (.cons (.sl (.op .add (.sl (.var 11) (.var 12) .nil) (.sl (.var 11) .nil (.var 12))) .nil (.op .add (.int 1) (.op .mod (.op .fdiv (.var 2) (.int 1024)) (.int 2)))) .nil))))
 .nil)) .nil)
 (.cons (.ret (.tup (.cons (.str "check") (.cons (.call "_law_test" (.cons (.var 1) (.cons (.op .fdiv (.var 2) (.int 64)) (.cons (.op .add (.int 1) (.op .mod (.op .fdiv (.var 2) (.int 1024)) (.int 3))) .nil)))) .nil))))
 .nil)))))))⟩
def m__law_schema : Fn := ⟨1, 13,
 (.cons (.asg (.nm 1) [] (.lst (.cons (.str "item") (.cons (.str "user") (.cons (.str "box") (.cons (.str "log") .nil))))))
 (.cons (.asg (.nm 2) [] (.op .mod (.var 0) (.int 4)))
 (.cons (.asg (.nm 1) [] (.sl (.op .add (.sl (.var 1) (.var 2) .nil) (.sl (.var 1) .nil (.var 2))) .nil (.ix (.tup (.cons (.int 2) (.cons (.int 1) (.cons (.int 3) (.cons (.int 4) (.cons (.int 2) (.cons (.int 3) .nil))))))) (.op .mod (.op .fdiv (.var 0) (.int 4)) (.int 6)))))
 (.cons (.asg (.nm 3) [] (.comp (.tp [4, 5]) (.enum (.var 1)) (.call "_law_bare" (.cons (.var 5) (.cons (.op .fdiv (.call "_law_drawn" (.cons (.var 0) (.cons (.var 4) .nil))) (.int 4)) .nil)))))
 (.cons (.asg (.nm 6) [] (.tup .nil))
 (.cons (.fr (.tp [4, 7]) [] (.enum (.var 3)) (.cons (.asg (.nm 8) [] (.op .fdiv (.call "_law_drawn" (.cons (.var 0) (.cons (.op .add (.int 20) (.var 4)) .nil))) (.int 4)))
 (.cons (.asgF 9 [] (.lst .nil))
 (.cons (.fr (.nm 10) [9] (.rng1 (.ix (.tup (.cons (.int 1) (.cons (.int 2) (.cons (.int 0) (.cons (.int 1) (.cons (.int 3) .nil)))))) (.op .mod (.var 8) (.int 5)))) (.cons (.app 9 [9] (.call "_law_rule" (.cons (.var 3) (.cons (.var 7) (.cons (.op .fdiv (.call "_law_drawn" (.cons (.var 8) (.cons (.var 10) .nil))) (.int 4)) .nil)))))
 .nil))
 (.cons (.asg (.nm 11) [] (.b1 .tuple (.comp (.nm 12) (.var 9) (.op .add (.tup (.cons (.ix (.var 12) (.int 0)) (.cons (.b1 .tuple (.ix (.var 12) (.int 1))) .nil))) (.sl (.var 12) (.int 2) .nil)))))
 (.cons (.asg (.nm 6) [] (.op .add (.var 6) (.tup (.cons (.op .add (.sl (.var 7) .nil (.int 3)) (.tup (.cons (.var 11) .nil))) .nil))))
 .nil))))))
 (.cons (.ret (.var 6))
 .nil)))))))⟩
def m__law_worth : Fn := ⟨2, 2,
 (.cons (.ife (.and (.ix (.var 0) (.int 2)) (.and1 (.cmp .eq (.op .mod (.var 1) (.int 4)) (.int 0)))) (.cons (.ret .non)
 .nil) .nil)
 (.cons (.ife (.cmp .eq (.ix (.var 0) (.int 1)) (.str "text")) (.cons (.ret (.ix (.lst (.cons (.str "a") (.cons (.str "b") (.cons (.str "") (.cons (.str "ab") (.cons (.str "a") (.cons (.str "x9") .nil))))))) (.op .mod (.op .fdiv (.var 1) (.int 4)) (.int 6))))
 .nil) .nil)
 (.cons (.ret (.ix (.lst (.cons (.int 0) (.cons (.int 1) (.cons (.int 2) (.cons (.int 3) (.cons (.int 1) (.cons (.int 2) (.cons (.int 4) (.cons (.neg (.int 5)) .nil))))))))) (.op .mod (.op .fdiv (.var 1) (.int 4)) (.int 8))))
 .nil)))⟩
def m__law_row : Fn := ⟨2, 4,
 (.cons (.ret (.b1 .tuple (.comp (.tp [2, 3]) (.enum (.ix (.var 0) (.int 1))) (.call "_law_worth" (.cons (.var 3) (.cons (.op .fdiv (.call "_law_drawn" (.cons (.var 1) (.cons (.var 2) .nil))) (.int 4)) .nil))))))
 .nil)⟩
def m__law_loose : Fn := ⟨2, 9,
 (.cons (.asg (.nm 2) [] (.tup .nil))
 (.cons (.fr (.tp [3, 4]) [] (.enum (.var 0)) (.cons (.asgD 5 [] (.dnew true))
 (.cons (.fr (.nm 6) [5] (.rng1 (.op .mod (.op .fdiv (.var 1) (.ix (.tup (.cons (.int 1) (.cons (.int 5) (.cons (.int 25) (.cons (.int 125) .nil))))) (.var 3))) (.int 5))) (.cons (.asg (.nm 7) [5] (.call "_law_row" (.cons (.var 4) (.cons (.op .fdiv (.call "_law_drawn" (.cons (.var 1) (.cons (.op .add (.op .mul (.int 10) (.var 3)) (.var 6)) .nil))) (.int 4)) .nil))))
 (.cons (.put 5 (.call "_law_key" (.cons (.var 4) (.cons (.var 7) .nil))) (.var 7))
 .nil)))
 (.cons (.asg (.nm 2) [] (.op .add (.var 2) (.tup (.cons (.b1 .tuple (.comp (.nm 8) (.b1 .sorted (.var 5)) (.ix (.var 5) (.var 8)))) .nil))))
 .nil))))
 (.cons (.ret (.var 2))
 .nil)))⟩
def m__law_less : Fn := ⟨4, 8,
 (.cons (.asg (.nm 4) [] (.tup .nil))
 (.cons (.fr (.tp [5, 6]) [] (.zip (.var 0) (.var 1)) (.cons (.ife (.cmp .eq (.ix (.var 5) (.int 0)) (.var 2)) (.cons (.asg (.nm 6) [] (.b1 .tuple (.compIf (.nm 7) (.var 6) (.cmp .ne (.call "key_of" (.cons (.var 5) (.cons (.var 7) .nil))) (.var 3)) (.var 7))))
 .nil) .nil)
 (.cons (.asg (.nm 4) [] (.op .add (.var 4) (.tup (.cons (.var 6) .nil))))
 .nil)))
 (.cons (.ret (.var 4))
 .nil)))⟩
def m_law : Fn := ⟨1, 23,
 (.cons (.asg (.nm 1) [] (.call "_law_schema" (.cons (.call "_law_mixed" (.cons (.var 0) (.cons (.int 0) .nil))) .nil)))
 (.cons (.asg (.nm 2) [] (.call "_law_loose" (.cons (.var 1) (.cons (.call "_law_mixed" (.cons (.var 0) (.cons (.int 1) .nil))) .nil))))
 (.cons (.asg (.nm 3) [] (.call "breaks" (.cons (.var 1) (.cons (.var 2) .nil))))
 (.cons (.asgD 4 [] (.dnew true))
 (.cons (.fr (.tp [5, 6, 7]) [4] (.var 3) (.cons (.asg (.nm 8) [4] (.ix (.ix (.call "_law_table" (.cons (.var 1) (.cons (.var 5) .nil))) (.int 3)) (.var 6)))
 (.cons (.put 4 (.tup (.cons (.var 5) (.cons (.var 6) .nil))) (.op .add (.get2 (.var 4) (.tup (.cons (.var 5) (.cons (.var 6) .nil))) (.int 0)) (.int 1)))
 (.cons (.ife (.cmp .eq (.ix (.var 8) (.int 0)) (.str "check")) (.cons (.asg (.nm 9) [4] (.call "breaks" (.cons (.var 1) (.cons (.call "_law_less" (.cons (.var 1) (.cons (.var 2) (.cons (.var 5) (.cons (.var 7) .nil))))) .nil))))
 (.cons (.ife (.cmp .inn (.tup (.cons (.var 5) (.cons (.var 6) (.cons (.var 7) .nil)))) (.var 9)) (.cons (.ret (.bl false))
 .nil) .nil)
 (.cons (.asg (.nm 10) [4] (.compIf (.nm 11) (.var 9) (.cmp .eq (.ix (.ix (.ix (.call "_law_table" (.cons (.var 1) (.cons (.ix (.var 11) (.int 0)) .nil))) (.int 3)) (.ix (.var 11) (.int 1))) (.int 0)) (.str "check")) (.var 11)))
 (.cons (.ife (.cmp .ne (.compIf (.nm 11) (.var 10) (.cmp .nin (.var 11) (.var 3)) (.var 11)) (.lst .nil)) (.cons (.ret (.bl false))
 .nil) .nil)
 .nil)))) .nil)
 .nil))))
 (.cons (.fr (.tp [5, 6]) [] (.var 4) (.cons (.ife (.and (.cmp .eq (.ix (.ix (.ix (.call "_law_table" (.cons (.var 1) (.cons (.var 5) .nil))) (.int 3)) (.var 6)) (.int 0)) (.str "unlike")) (.and1 (.cmp .lt (.ix (.var 4) (.tup (.cons (.var 5) (.cons (.var 6) .nil)))) (.int 2)))) (.cons (.ret (.bl false))
 .nil) .nil)
 .nil))
 (.cons (.fr (.tp [5, 6, 7]) [] (.var 3) (.cons (.asg (.nm 12) [] (.call "_law_table" (.cons (.var 1) (.cons (.var 5) .nil))))
 (.cons (.asg (.nm 8) [] (.ix (.ix (.var 12) (.int 3)) (.var 6)))
 (.cons (.ife (.cmp .eq (.ix (.var 8) (.int 0)) (.str "refers")) (.cons (.asg (.nm 13) [] (.ix (.compIf (.nm 11) (.call "_law_rows" (.cons (.var 1) (.cons (.var 2) (.cons (.var 5) .nil)))) (.cmp .eq (.call "key_of" (.cons (.var 12) (.cons (.var 11) .nil))) (.var 7)) (.var 11)) (.int 0)))
 (.cons (.asg (.nm 14) [] (.call "_law_table" (.cons (.var 1) (.cons (.ix (.var 8) (.int 2)) .nil))))
 (.cons (.asg (.nm 15) [] (.call "_law_row" (.cons (.var 14) (.cons (.call "_law_mixed" (.cons (.var 0) (.cons (.int 2) .nil))) .nil))))
 (.cons (.asg (.nm 16) [] (.b1 .dictS (.lzip (.ix (.var 14) (.int 2)) (.call "_law_worths" (.cons (.var 12) (.cons (.var 13) (.cons (.ix (.var 8) (.int 1)) .nil)))))))
 (.cons (.asg (.nm 15) [] (.b1 .tuple (.comp (.tp [17, 18]) (.zip (.ix (.var 14) (.int 1)) (.var 15)) (.get2 (.var 16) (.ix (.var 17) (.int 0)) (.var 18)))))
 (.cons (.asg (.nm 19) [] (.tup .nil))
 (.cons (.fr (.tp [11, 20]) [] (.zip (.var 1) (.var 2)) (.cons (.ife (.cmp .eq (.ix (.var 11) (.int 0)) (.ix (.var 8) (.int 2))) (.cons (.asg (.nm 16) [] (.b1 .dictT (.comp (.nm 21) (.op .add (.var 20) (.tup (.cons (.var 15) .nil))) (.tup (.cons (.call "key_of" (.cons (.var 14) (.cons (.var 21) .nil))) (.cons (.var 21) .nil))))))
 (.cons (.asg (.nm 20) [] (.b1 .tuple (.comp (.nm 22) (.b1 .sorted (.var 16)) (.ix (.var 16) (.var 22)))))
 .nil)) .nil)
 (.cons (.asg (.nm 19) [] (.op .add (.var 19) (.tup (.cons (.var 20) .nil))))
 .nil)))
 (.cons (.ret (.cmp .nin (.tup (.cons (.var 5) (.cons (.var 6) (.cons (.var 7) .nil)))) (.call "breaks" (.cons (.var 1) (.cons (.var 19) .nil)))))
 .nil)))))))) .nil)
 .nil))))
 (.cons (.ret (.bl true))
 .nil))))))))⟩
def T : String → Option Fn
  | "names_of" => some m_names_of
  | "place_of" => some m_place_of
  | "table_of" => some m_table_of
  | "row_key" => some m_row_key
  | "compared" => some m_compared
  | "holds" => some m_holds
  | "key_of" => some m_key_of
  | "rows_of" => some m_rows_of
  | "keys_in" => some m_keys_in
  | "worths_in" => some m_worths_in
  | "breaking_rows" => some m_breaking_rows
  | "breaks" => some m_breaks
  | "_law_cell_at" => some m__law_cell_at
  | "_law_mixed" => some m__law_mixed
  | "_law_drawn" => some m__law_drawn
  | "_law_names" => some m__law_names
  | "_law_table" => some m__law_table
  | "_law_key" => some m__law_key
  | "_law_worths" => some m__law_worths
  | "_law_rows" => some m__law_rows
  | "_law_test" => some m__law_test
  | "_law_bare" => some m__law_bare
  | "_law_pairs" => some m__law_pairs
  | "_law_rule" => some m__law_rule
  | "_law_schema" => some m__law_schema
  | "_law_worth" => some m__law_worth
  | "_law_row" => some m__law_row
  | "_law_loose" => some m__law_loose
  | "_law_less" => some m__law_less
  | "law" => some m_law
  | _ => none
def G : String → Option D
  | _ => none
theorem u_names_of {n : Nat} {x0 : D} {Q : D → Prop} {E : Ex → Prop} : Wp (run T G (n + 1) "names_of" [x0]) Q E ↔ Wp (evS (run T G n) G (.cons (.ret (.comp (.nm 1) (.ix (.var 0) (.int 1)) (.ix (.var 1) (.int 0)))) .nil) [some x0, none]) (FQ (fun _ => Q .non) Q) E := wp_finish
theorem u_place_of {n : Nat} {x0 x1 : D} {Q : D → Prop} {E : Ex → Prop} : Wp (run T G (n + 1) "place_of" [x0, x1]) Q E ↔ Wp (evS (run T G n) G (.cons (.ret (.b2 .index (.call "names_of" (.cons (.var 0) .nil)) (.var 1))) .nil) [some x0, some x1]) (FQ (fun _ => Q .non) Q) E := wp_finish
theorem u_table_of {n : Nat} {x0 x1 : D} {Q : D → Prop} {E : Ex → Prop} : Wp (run T G (n + 1) "table_of" [x0, x1]) Q E ↔ Wp (evS (run T G n) G (.cons (.ret (.ix (.compIf (.nm 2) (.var 0) (.cmp .eq (.ix (.var 2) (.int 0)) (.var 1)) (.var 2)) (.int 0))) .nil) [some x0, some x1, none]) (FQ (fun _ => Q .non) Q) E := wp_finish
theorem u_row_key {n : Nat} {x0 x1 : D} {Q : D → Prop} {E : Ex → Prop} : Wp (run T G (n + 1) "row_key" [x0, x1]) Q E ↔ Wp (evS (run T G n) G (.cons (.ret (.b1 .tuple (.comp (.nm 2) (.ix (.var 0) (.int 2)) (.ix (.var 1) (.call "place_of" (.cons (.var 0) (.cons (.var 2) .nil))))))) .nil) [some x0, some x1, none]) (FQ (fun _ => Q .non) Q) E := wp_finish
theorem u_compared {n : Nat} {x0 x1 x2 : D} {Q : D → Prop} {E : Ex → Prop} : Wp (run T G (n + 1) "compared" [x0, x1, x2]) Q E ↔ Wp (evS (run T G n) G (.cons (.ife (.or (.isn (.var 1)) (.or1 (.isn (.var 2)))) (.cons (.ret .non) .nil) .nil) (.cons (.ife (.cmp .eq (.var 0) (.str "is")) (.cons (.ret (.cmp .eq (.var 1) (.var 2))) .nil) .nil) (.cons (.ret (.cmp .lt (.var 1) (.var 2))) .nil))) [some x0, some x1, some x2]) (FQ (fun _ => Q .non) Q) E := wp_finish
theorem u_holds {n : Nat} {x0 x1 x2 : D} {Q : D → Prop} {E : Ex → Prop} : Wp (run T G (n + 1) "holds" [x0, x1, x2]) Q E ↔ Wp (evS (run T G n) G (.cons (.asg (.nm 3) [] (.ix (.var 1) (.int 0))) (.cons (.ife (.cmp .eq (.var 3) (.str "not")) (.cons (.asg (.nm 4) [] (.call "holds" (.cons (.var 0) (.cons (.ix (.var 1) (.int 1)) (.cons (.var 2) .nil))))) (.cons (.ife (.isn (.var 4)) (.cons (.ret .non) .nil) .nil) (.cons (.ret (.not (.var 4))) .nil))) .nil) (.cons (.ife (.cmp .inn (.var 3) (.tup (.cons (.str "and") (.cons (.str "or") .nil)))) (.cons (.asg (.nm 5) [] (.comp (.nm 6) (.sl (.var 1) (.int 1) .nil) (.call "holds" (.cons (.var 0) (.cons (.var 6) (.cons (.var 2) .nil)))))) (.cons (.ife (.cmp .inn (.cmp .eq (.var 3) (.str "or")) (.var 5)) (.cons (.ret (.cmp .eq (.var 3) (.str "or"))) .nil) .nil) (.cons (.ife (.cmp .inn .non (.var 5)) (.cons (.ret .non) .nil) .nil) (.cons (.ret (.cmp .eq (.var 3) (.str "and"))) .nil)))) .nil) (.cons (.asg (.nm 7) [] (.ix (.var 2) (.call "place_of" (.cons (.var 0) (.cons (.ix (.var 1) (.int 1)) .nil))))) (.cons (.ife (.cmp .eq (.var 3) (.str "empty")) (.cons (.ret (.isn (.var 7))) .nil) .nil) (.cons (.ife (.cmp .eq (.var 3) (.str "is")) (.cons (.ret (.call "compared" (.cons (.var 3) (.cons (.var 7) (.cons (.ix (.var 1) (.int 2)) .nil))))) .nil) .nil) (.cons (.ret (.call "compared" (.cons (.var 3) (.cons (.var 7) (.cons (.ix (.var 2) (.call "place_of" (.cons (.var 0) (.cons (.ix (.var 1) (.int 2)) .nil)))) .nil))))) .nil))))))) [some x0, some x1, some x2, none, none, none, none, none]) (FQ (fun _ => Q .non) Q) E := wp_finish
theorem u_key_of {n : Nat} {x0 x1 : D} {Q : D → Prop} {E : Ex → Prop} : Wp (run T G (n + 1) "key_of" [x0, x1]) Q E ↔ Wp (evS (run T G n) G (.cons (.ret (.call "row_key" (.cons (.var 0) (.cons (.var 1) .nil)))) .nil) [some x0, some x1]) (FQ (fun _ => Q .non) Q) E := wp_finish
theorem u_rows_of {n : Nat} {x0 x1 x2 : D} {Q : D → Prop} {E : Ex → Prop} : Wp (run T G (n + 1) "rows_of" [x0, x1, x2]) Q E ↔ Wp (evS (run T G n) G (.cons (.ret (.ix (.var 1) (.b2 .index (.comp (.nm 3) (.var 0) (.ix (.var 3) (.int 0))) (.var 2)))) .nil) [some x0, some x1, some x2, none]) (FQ (fun _ => Q .non) Q) E := wp_finish
theorem u_keys_in {n : Nat} {x0 x1 x2 : D} {Q : D → Prop} {E : Ex → Prop} : Wp (run T G (n + 1) "keys_in" [x0, x1, x2]) Q E ↔ Wp (evS (run T G n) G (.cons (.asg (.nm 3) [] (.call "table_of" (.cons (.var 0) (.cons (.var 2) .nil)))) (.cons (.ret (.comp (.nm 4) (.call "rows_of" (.cons (.var 0) (.cons (.var 1) (.cons (.var 2) .nil)))) (.call "row_key" (.cons (.var 3) (.cons (.var 4) .nil))))) .nil)) [some x0, some x1, some x2, none, none]) (FQ (fun _ => Q .non) Q) E := wp_finish
theorem u_worths_in {n : Nat} {x0 x1 x2 : D} {Q : D → Prop} {E : Ex → Prop} : Wp (run T G (n + 1) "worths_in" [x0, x1, x2]) Q E ↔ Wp (evS (run T G n) G (.cons (.asg (.nm 3) [] (.b1 .tuple (.comp (.nm 4) (.var 2) (.ix (.var 1) (.call "place_of" (.cons (.var 0) (.cons (.var 4) .nil))))))) (.cons (.ife (.b1 .any (.comp (.nm 5) (.var 3) (.isn (.var 5)))) (.cons (.ret .non) .nil) .nil) (.cons (.ret (.var 3)) .nil))) [some x0, some x1, some x2, none, none, none]) (FQ (fun _ => Q .non) Q) E := wp_finish
theorem u_breaking_rows {n : Nat} {x0 x1 x2 x3 : D} {Q : D → Prop} {E : Ex → Prop} : Wp (run T G (n + 1) "breaking_rows" [x0, x1, x2, x3]) Q E ↔ Wp (evS (run T G n) G (.cons (.asg (.nm 4) [] (.call "rows_of" (.cons (.var 0) (.cons (.var 1) (.cons (.ix (.var 2) (.int 0)) .nil))))) (.cons (.ife (.cmp .eq (.ix (.var 3) (.int 0)) (.str "check")) (.cons (.ret (.compIf (.nm 5) (.var 4) (.cmp .iss (.call "holds" (.cons (.var 2) (.cons (.ix (.var 3) (.int 1)) (.cons (.var 5) .nil)))) (.bl false)) (.var 5))) .nil) .nil) (.cons (.asg (.nm 6) [] (.comp (.nm 5) (.var 4) (.call "worths_in" (.cons (.var 2) (.cons (.var 5) (.cons (.ix (.var 3) (.int 1)) .nil)))))) (.cons (.ife (.cmp .eq (.ix (.var 3) (.int 0)) (.str "unlike")) (.cons (.ret (.compIf (.tp [5, 7]) (.zip (.var 4) (.var 6)) (.and (.notn (.var 7)) (.and1 (.cmp .gt (.b2 .count (.var 6) (.var 7)) (.int 1)))) (.var 5))) .nil) .nil) (.cons (.asg (.nm 8) [] (.call "keys_in" (.cons (.var 0) (.cons (.var 1) (.cons (.ix (.var 3) (.int 2)) .nil))))) (.cons (.ret (.compIf (.tp [5, 7]) (.zip (.var 4) (.var 6)) (.and (.notn (.var 7)) (.and1 (.cmp .nin (.var 7) (.var 8)))) (.var 5))) .nil)))))) [some x0, some x1, some x2, some x3, none, none, none, none, none]) (FQ (fun _ => Q .non) Q) E := wp_finish
theorem u_breaks {n : Nat} {x0 x1 : D} {Q : D → Prop} {E : Ex → Prop} : Wp (run T G (n + 1) "breaks" [x0, x1]) Q E ↔ Wp (evS (run T G n) G (.cons (.asgF 2 [] (.lst .nil)) (.cons (.fr (.nm 3) [2] (.var 0) (.cons (.fr (.tp [4, 5]) [2] (.enum (.ix (.var 3) (.int 3))) (.cons (.fr (.nm 6) [2] (.call "breaking_rows" (.cons (.var 0) (.cons (.var 1) (.cons (.var 3) (.cons (.var 5) .nil))))) (.cons (.app 2 [2] (.tup (.cons (.ix (.var 3) (.int 0)) (.cons (.var 4) (.cons (.call "row_key" (.cons (.var 3) (.cons (.var 6) .nil))) .nil))))) .nil)) .nil)) .nil)) (.cons (.ret (.b1 .tuple (.b1 .sorted (.var 2)))) .nil))) [some x0, some x1, none, none, none, none, none]) (FQ (fun _ => Q .non) Q) E := wp_finish
theorem u__law_cell_at {n : Nat} {x0 x1 : D} {Q : D → Prop} {E : Ex → Prop} : Wp (run T G (n + 1) "_law_cell_at" [x0, x1]) Q E ↔ Wp (evS (run T G n) G (.cons (.ife (.cmp .lt (.var 1) (.b1 .len (.var 0))) (.cons (.ret (.ix (.var 0) (.var 1))) .nil) .nil) (.cons (.ret (.int 0)) .nil)) [some x0, some x1]) (FQ (fun _ => Q .non) Q) E := wp_finish
theorem u__law_mixed {n : Nat} {x0 x1 : D} {Q : D → Prop} {E : Ex → Prop} : Wp (run T G (n + 1) "_law_mixed" [x0, x1]) Q E ↔ Wp (evS (run T G n) G (.cons (.asg (.nm 2) [] (.op .mod (.op .mul (.op .add (.op .add (.call "_law_cell_at" (.cons (.var 0) (.cons (.var 1) .nil))) (.op .mul (.int 7919) (.var 1))) (.int 1)) (.int 48271)) (.int 2147483647))) (.cons (.ret (.op .mod (.op .add (.op .add (.op .mul (.var 2) (.var 2)) (.op .mul (.int 7) (.var 2))) (.var 1)) (.int 2147483629))) .nil)) [some x0, some x1, none]) (FQ (fun _ => Q .non) Q) E := wp_finish
theorem u__law_drawn {n : Nat} {x0 x1 : D} {Q : D → Prop} {E : Ex → Prop} : Wp (run T G (n + 1) "_law_drawn" [x0, x1]) Q E ↔ Wp (evS (run T G n) G (.cons (.asg (.nm 2) [] (.op .mod (.op .mul (.op .add (.op .add (.var 0) (.op .mul (.int 104729) (.var 1))) (.int 17)) (.int 69621)) (.int 2147483647))) (.cons (.ret (.op .mod (.op .add (.op .add (.op .mul (.var 2) (.var 2)) (.op .mul (.int 3) (.var 2))) (.var 1)) (.int 2147483629))) .nil)) [some x0, some x1, none]) (FQ (fun _ => Q .non) Q) E := wp_finish
theorem u__law_names {n : Nat} {x0 : D} {Q : D → Prop} {E : Ex → Prop} : Wp (run T G (n + 1) "_law_names" [x0]) Q E ↔ Wp (evS (run T G n) G (.cons (.ret (.comp (.nm 1) (.ix (.var 0) (.int 1)) (.ix (.var 1) (.int 0)))) .nil) [some x0, none]) (FQ (fun _ => Q .non) Q) E := wp_finish
theorem u__law_table {n : Nat} {x0 x1 : D} {Q : D → Prop} {E : Ex → Prop} : Wp (run T G (n + 1) "_law_table" [x0, x1]) Q E ↔ Wp (evS (run T G n) G (.cons (.ret (.ix (.compIf (.nm 2) (.var 0) (.cmp .eq (.ix (.var 2) (.int 0)) (.var 1)) (.var 2)) (.int 0))) .nil) [some x0, some x1, none]) (FQ (fun _ => Q .non) Q) E := wp_finish
theorem u__law_key {n : Nat} {x0 x1 : D} {Q : D → Prop} {E : Ex → Prop} : Wp (run T G (n + 1) "_law_key" [x0, x1]) Q E ↔ Wp (evS (run T G n) G (.cons (.ret (.b1 .tuple (.comp (.nm 2) (.ix (.var 0) (.int 2)) (.ix (.var 1) (.b2 .index (.call "_law_names" (.cons (.var 0) .nil)) (.var 2)))))) .nil) [some x0, some x1, none]) (FQ (fun _ => Q .non) Q) E := wp_finish
theorem u__law_worths {n : Nat} {x0 x1 x2 : D} {Q : D → Prop} {E : Ex → Prop} : Wp (run T G (n + 1) "_law_worths" [x0, x1, x2]) Q E ↔ Wp (evS (run T G n) G (.cons (.asg (.nm 3) [] (.b1 .tuple (.comp (.nm 4) (.var 2) (.ix (.var 1) (.b2 .index (.call "_law_names" (.cons (.var 0) .nil)) (.var 4)))))) (.cons (.ret (.ix (.lst (.cons (.var 3) (.cons .non .nil))) (.b1 .int (.cmp .inn .non (.var 3))))) .nil)) [some x0, some x1, some x2, none, none]) (FQ (fun _ => Q .non) Q) E := wp_finish
theorem u__law_rows {n : Nat} {x0 x1 x2 : D} {Q : D → Prop} {E : Ex → Prop} : Wp (run T G (n + 1) "_law_rows" [x0, x1, x2]) Q E ↔ Wp (evS (run T G n) G (.cons (.ret (.ix (.var 1) (.b2 .index (.comp (.nm 3) (.var 0) (.ix (.var 3) (.int 0))) (.var 2)))) .nil) [some x0, some x1, some x2, none]) (FQ (fun _ => Q .non) Q) E := wp_finish
theorem u__law_test {n : Nat} {x0 x1 x2 : D} {Q : D → Prop} {E : Ex → Prop} : Wp (run T G (n + 1) "_law_test" [x0, x1, x2]) Q E ↔ Wp (evS (run T G n) G (.cons (.asg (.nm 3) [] (.ix (.var 0) (.int 1))) (.cons (.asg (.nm 4) [] (.ix (.var 3) (.op .mod (.op .fdiv (.var 1) (.int 8)) (.b1 .len (.var 3))))) (.cons (.asg (.nm 5) [] (.op .mod (.var 1) (.int 8))) (.cons (.ife (.and (.cmp .gt (.var 2) (.int 1)) (.and1 (.cmp .gt (.var 5) (.int 4)))) (.cons (.asg (.nm 6) [] (.comp (.nm 7) (.tup (.cons (.int 1) (.cons (.int 2) .nil))) (.call "_law_test" (.cons (.var 0) (.cons (.op .fdiv (.call "_law_drawn" (.cons (.var 1) (.cons (.var 7) .nil))) (.int 4)) (.cons (.op .sub (.var 2) (.int 1)) .nil)))))) (.cons (.ret (.ix (.lst (.cons (.tup (.cons (.str "not") (.cons (.ix (.var 6) (.int 0)) .nil))) (.cons (.tup (.cons (.str "and") (.cons (.ix (.var 6) (.int 0)) (.cons (.ix (.var 6) (.int 1)) .nil)))) (.cons (.tup (.cons (.str "or") (.cons (.ix (.var 6) (.int 0)) (.cons (.ix (.var 6) (.int 1)) .nil)))) .nil)))) (.op .sub (.var 5) (.int 5)))) .nil)) .nil) (.cons (.ife (.cmp .eq (.var 5) (.int 0)) (.cons (.ret (.tup (.cons (.str "empty") (.cons (.ix (.var 4) (.int 0)) .nil)))) .nil) .nil) (.cons (.asg (.nm 8) [] (.compIf (.nm 9) (.var 3) (.cmp .eq (.ix (.var 9) (.int 1)) (.ix (.var 4) (.int 1))) (.ix (.var 9) (.int 0)))) (.cons (.ife (.cmp .eq (.var 5) (.int 1)) (.cons (.ret (.tup (.cons (.str "below") (.cons (.ix (.var 4) (.int 0)) (.cons (.ix (.var 8) (.op .mod (.op .fdiv (.var 1) (.int 64)) (.b1 .len (.var 8)))) .nil))))) .nil) .nil) (.cons (.asg (.nm 10) [] (.ix (.lst (.cons (.tup (.cons (.int 0) (.cons (.int 1) (.cons (.int 2) (.cons (.int 3) (.cons (.neg (.int 5)) (.cons (.int 999) .nil))))))) (.cons (.tup (.cons (.str "") (.cons (.str "a") (.cons (.str "b") (.cons (.str "ab") (.cons (.str "x9") (.cons (.str "zzzzzz") .nil))))))) .nil))) (.b1 .int (.cmp .eq (.ix (.var 4) (.int 1)) (.str "text"))))) (.cons (.ret (.tup (.cons (.str "is") (.cons (.ix (.var 4) (.int 0)) (.cons (.ix (.var 10) (.op .mod (.op .fdiv (.var 1) (.int 64)) (.int 6))) .nil))))) .nil))))))))) [some x0, some x1, some x2, none, none, none, none, none, none, none, none]) (FQ (fun _ => Q .non) Q) E := wp_finish
theorem u__law_bare {n : Nat} {x0 x1 : D} {Q : D → Prop} {E : Ex → Prop} : Wp (run T G (n + 1) "_law_bare" [x0, x1]) Q E ↔ Wp (evS (run T G n) G (.cons (.asg (.nm 2) [] (.tup (.cons (.str "whole") (.cons (.str "whole") (.cons (.str "text") (.cons (.str "whole") (.cons (.str "text") (.cons (.str "whole") .nil)))))))) (.cons (.asgF 3 [] (.lst (.cons (.tup (.cons (.str "id") (.cons (.ix (.var 2) (.op .mod (.var 1) (.int 6))) (.cons (.bl false) .nil)))) .nil))) (.cons (.fr (.tp [4, 5]) [3] (.enum (.tup (.cons (.str "n") (.cons (.str "t") (.cons (.str "u") .nil))))) (.cons (.asg (.nm 6) [3] (.op .fdiv (.call "_law_drawn" (.cons (.var 1) (.cons (.op .add (.int 10) (.var 4)) .nil))) (.int 4))) (.cons (.ife (.cmp .gt (.op .mod (.var 6) (.int 4)) (.int 0)) (.cons (.app 3 [3] (.tup (.cons (.var 5) (.cons (.ix (.var 2) (.op .mod (.op .fdiv (.var 6) (.int 4)) (.int 6))) (.cons (.cmp .gt (.op .mod (.op .fdiv (.var 6) (.int 32)) (.int 3)) (.int 0)) .nil))))) .nil) .nil) .nil))) (.cons (.asg (.nm 7) [] (.compIf (.nm 8) (.var 3) (.not (.ix (.var 8) (.int 2))) (.ix (.var 8) (.int 0)))) (.cons (.asg (.nm 9) [] (.tup (.cons (.str "id") .nil))) (.cons (.ife (.and (.cmp .eq (.op .mod (.op .fdiv (.var 1) (.int 8)) (.int 4)) (.int 0)) (.and1 (.cmp .gt (.b1 .len (.var 7)) (.int 1)))) (.cons (.asg (.nm 9) [] (.ix (.lst (.cons (.tup (.cons (.str "id") (.cons (.ix (.var 7) (.int 1)) .nil))) (.cons (.tup (.cons (.ix (.var 7) (.int 1)) (.cons (.str "id") .nil))) .nil))) (.op .mod (.op .fdiv (.var 1) (.int 32)) (.int 2)))) .nil) .nil) (.cons (.asg (.nm 10) [] (.op .mod (.op .fdiv (.var 1) (.int 64)) (.b1 .len (.var 3)))) (.cons (.ret (.tup (.cons (.var 0) (.cons (.b1 .tuple (.op .add (.sl (.var 3) (.var 10) .nil) (.sl (.var 3) .nil (.var 10)))) (.cons (.var 9) (.cons (.tup .nil) .nil)))))) .nil)))))))) [some x0, some x1, none, none, none, none, none, none, none, none, none]) (FQ (fun _ => Q .non) Q) E := wp_finish
theorem u__law_pairs {n : Nat} {x0 x1 : D} {Q : D → Prop} {E : Ex → Prop} : Wp (run T G (n + 1) "_law_pairs" [x0, x1]) Q E ↔ Wp (evS (run T G n) G (.cons (.asg (.nm 2) [] (.lst (.cons (.tup .nil) .nil))) (.cons (.fr (.nm 3) [] (.var 1) (.cons (.asg (.nm 4) [] (.lst .nil)) (.cons (.fr (.nm 5) [] (.var 2) (.cons (.asg (.nm 4) [] (.op .add (.var 4) (.compIf (.nm 6) (.ix (.var 0) (.int 1)) (.and (.cmp .eq (.ix (.var 6) (.int 1)) (.var 3)) (.and1 (.cmp .nin (.ix (.var 6) (.int 0)) (.var 5)))) (.op .add (.var 5) (.tup (.cons (.ix (.var 6) (.int 0)) .nil)))))) .nil)) (.cons (.asg (.nm 2) [] (.var 4)) .nil)))) (.cons (.ret (.var 2)) .nil))) [some x0, some x1, none, none, none, none, none]) (FQ (fun _ => Q .non) Q) E := wp_finish
theorem u__law_rule {n : Nat} {x0 x1 x2 : D} {Q : D → Prop} {E : Ex → Prop} : Wp (run T G (n + 1) "_law_rule" [x0, x1, x2]) Q E ↔ Wp (evS (run T G n) G (.cons (.asg (.nm 3) [] (.ix (.var 0) (.op .mod (.op .fdiv (.var 2) (.int 8)) (.b1 .len (.var 0))))) (.cons (.asg (.nm 4) [] (.comp (.nm 6) (.ix (.var 3) (.int 2)) (.ix (.compIf (.nm 5) (.ix (.var 3) (.int 1)) (.cmp .eq (.ix (.var 5) (.int 0)) (.var 6)) (.ix (.var 5) (.int 1))) (.int 0)))) (.cons (.asg (.nm 7) [] (.call "_law_pairs" (.cons (.var 1) (.cons (.var 4) .nil)))) (.cons (.ife (.and (.cmp .lt (.op .mod (.var 2) (.int 8)) (.int 5)) (.and1 (.cmp .ne (.var 7) (.lst .nil)))) (.cons (.asg (.nm 8) [] (.ix (.var 7) (.op .mod (.op .fdiv (.var 2) (.int 64)) (.b1 .len (.var 7))))) (.cons (.asg (.nm 9) [] (.ix (.tup (.cons (.str "along") (.cons (.str "stop") (.cons (.str "late") (.cons (.str "gap") (.cons (.str "along") (.cons (.str "gap") .nil))))))) (.op .mod (.op .fdiv (.var 2) (.int 1024)) (.int 6)))) (.cons (.asg (.nm 10) [] (.compIf (.nm 5) (.ix (.var 1) (.int 1)) (.and (.cmp .inn (.ix (.var 5) (.int 0)) (.var 8)) (.and1 (.not (.ix (.var 5) (.int 2))))) (.var 5))) (.cons (.ife (.and (.cmp .ne (.var 10) (.lst .nil)) (.and1 (.cmp .eq (.var 9) (.str "gap")))) (.cons (.asg (.nm 9) [] (.str "late")) .nil) .nil) (.cons (.ret (.tup (.cons (.str "refers") (.cons (.var 8) (.cons (.ix (.var 3) (.int 0)) (.cons (.var 9) .nil)))))) .nil))))) .nil) (.cons (.asg (.nm 11) [] (.comp (.nm 5) (.ix (.var 1) (.int 1)) (.ix (.var 5) (.int 0)))) (.cons (.ife (.cmp .eq (.op .mod (.var 2) (.int 8)) (.int 5)) (.cons (.asg (.nm 12) [] (.op .mod (.op .fdiv (.var 2) (.int 64)) (.b1 .len (.var 11)))) (.cons (.ret (.tup (.cons (.str "unlike") (.cons (.sl (.op .add (.sl (.var 11) (.var 12) .nil) (.sl (.var 11) .nil (.var 12))) .nil (.op .add (.int 1) (.op .mod (.op .fdiv (.var 2) (.int 1024)) (.int 2)))) .nil)))) .nil)) .nil) (.cons (.ret (.tup (.cons (.str "check") (.cons (.call "_law_test" (.cons (.var 1) (.cons (.op .fdiv (.var 2) (.int 64)) (.cons (.op .add (.int 1) (.op .mod (.op .fdiv (.var 2) (.int 1024)) (.int 3))) .nil)))) .nil)))) .nil))))))) [some x0, some x1, some x2, none, none, none, none, none, none, none, none, none, none]) (FQ (fun _ => Q .non) Q) E := wp_finish
theorem u__law_schema {n : Nat} {x0 : D} {Q : D → Prop} {E : Ex → Prop} : Wp (run T G (n + 1) "_law_schema" [x0]) Q E ↔ Wp (evS (run T G n) G (.cons (.asg (.nm 1) [] (.lst (.cons (.str "item") (.cons (.str "user") (.cons (.str "box") (.cons (.str "log") .nil)))))) (.cons (.asg (.nm 2) [] (.op .mod (.var 0) (.int 4))) (.cons (.asg (.nm 1) [] (.sl (.op .add (.sl (.var 1) (.var 2) .nil) (.sl (.var 1) .nil (.var 2))) .nil (.ix (.tup (.cons (.int 2) (.cons (.int 1) (.cons (.int 3) (.cons (.int 4) (.cons (.int 2) (.cons (.int 3) .nil))))))) (.op .mod (.op .fdiv (.var 0) (.int 4)) (.int 6))))) (.cons (.asg (.nm 3) [] (.comp (.tp [4, 5]) (.enum (.var 1)) (.call "_law_bare" (.cons (.var 5) (.cons (.op .fdiv (.call "_law_drawn" (.cons (.var 0) (.cons (.var 4) .nil))) (.int 4)) .nil))))) (.cons (.asg (.nm 6) [] (.tup .nil)) (.cons (.fr (.tp [4, 7]) [] (.enum (.var 3)) (.cons (.asg (.nm 8) [] (.op .fdiv (.call "_law_drawn" (.cons (.var 0) (.cons (.op .add (.int 20) (.var 4)) .nil))) (.int 4))) (.cons (.asgF 9 [] (.lst .nil)) (.cons (.fr (.nm 10) [9] (.rng1 (.ix (.tup (.cons (.int 1) (.cons (.int 2) (.cons (.int 0) (.cons (.int 1) (.cons (.int 3) .nil)))))) (.op .mod (.var 8) (.int 5)))) (.cons (.app 9 [9] (.call "_law_rule" (.cons (.var 3) (.cons (.var 7) (.cons (.op .fdiv (.call "_law_drawn" (.cons (.var 8) (.cons (.var 10) .nil))) (.int 4)) .nil))))) .nil)) (.cons (.asg (.nm 11) [] (.b1 .tuple (.comp (.nm 12) (.var 9) (.op .add (.tup (.cons (.ix (.var 12) (.int 0)) (.cons (.b1 .tuple (.ix (.var 12) (.int 1))) .nil))) (.sl (.var 12) (.int 2) .nil))))) (.cons (.asg (.nm 6) [] (.op .add (.var 6) (.tup (.cons (.op .add (.sl (.var 7) .nil (.int 3)) (.tup (.cons (.var 11) .nil))) .nil)))) .nil)))))) (.cons (.ret (.var 6)) .nil))))))) [some x0, none, none, none, none, none, none, none, none, none, none, none, none]) (FQ (fun _ => Q .non) Q) E := wp_finish
theorem u__law_worth {n : Nat} {x0 x1 : D} {Q : D → Prop} {E : Ex → Prop} : Wp (run T G (n + 1) "_law_worth" [x0, x1]) Q E ↔ Wp (evS (run T G n) G (.cons (.ife (.and (.ix (.var 0) (.int 2)) (.and1 (.cmp .eq (.op .mod (.var 1) (.int 4)) (.int 0)))) (.cons (.ret .non) .nil) .nil) (.cons (.ife (.cmp .eq (.ix (.var 0) (.int 1)) (.str "text")) (.cons (.ret (.ix (.lst (.cons (.str "a") (.cons (.str "b") (.cons (.str "") (.cons (.str "ab") (.cons (.str "a") (.cons (.str "x9") .nil))))))) (.op .mod (.op .fdiv (.var 1) (.int 4)) (.int 6)))) .nil) .nil) (.cons (.ret (.ix (.lst (.cons (.int 0) (.cons (.int 1) (.cons (.int 2) (.cons (.int 3) (.cons (.int 1) (.cons (.int 2) (.cons (.int 4) (.cons (.neg (.int 5)) .nil))))))))) (.op .mod (.op .fdiv (.var 1) (.int 4)) (.int 8)))) .nil))) [some x0, some x1]) (FQ (fun _ => Q .non) Q) E := wp_finish
theorem u__law_row {n : Nat} {x0 x1 : D} {Q : D → Prop} {E : Ex → Prop} : Wp (run T G (n + 1) "_law_row" [x0, x1]) Q E ↔ Wp (evS (run T G n) G (.cons (.ret (.b1 .tuple (.comp (.tp [2, 3]) (.enum (.ix (.var 0) (.int 1))) (.call "_law_worth" (.cons (.var 3) (.cons (.op .fdiv (.call "_law_drawn" (.cons (.var 1) (.cons (.var 2) .nil))) (.int 4)) .nil)))))) .nil) [some x0, some x1, none, none]) (FQ (fun _ => Q .non) Q) E := wp_finish
theorem u__law_loose {n : Nat} {x0 x1 : D} {Q : D → Prop} {E : Ex → Prop} : Wp (run T G (n + 1) "_law_loose" [x0, x1]) Q E ↔ Wp (evS (run T G n) G (.cons (.asg (.nm 2) [] (.tup .nil)) (.cons (.fr (.tp [3, 4]) [] (.enum (.var 0)) (.cons (.asgD 5 [] (.dnew true)) (.cons (.fr (.nm 6) [5] (.rng1 (.op .mod (.op .fdiv (.var 1) (.ix (.tup (.cons (.int 1) (.cons (.int 5) (.cons (.int 25) (.cons (.int 125) .nil))))) (.var 3))) (.int 5))) (.cons (.asg (.nm 7) [5] (.call "_law_row" (.cons (.var 4) (.cons (.op .fdiv (.call "_law_drawn" (.cons (.var 1) (.cons (.op .add (.op .mul (.int 10) (.var 3)) (.var 6)) .nil))) (.int 4)) .nil)))) (.cons (.put 5 (.call "_law_key" (.cons (.var 4) (.cons (.var 7) .nil))) (.var 7)) .nil))) (.cons (.asg (.nm 2) [] (.op .add (.var 2) (.tup (.cons (.b1 .tuple (.comp (.nm 8) (.b1 .sorted (.var 5)) (.ix (.var 5) (.var 8)))) .nil)))) .nil)))) (.cons (.ret (.var 2)) .nil))) [some x0, some x1, none, none, none, none, none, none, none]) (FQ (fun _ => Q .non) Q) E := wp_finish
theorem u__law_less {n : Nat} {x0 x1 x2 x3 : D} {Q : D → Prop} {E : Ex → Prop} : Wp (run T G (n + 1) "_law_less" [x0, x1, x2, x3]) Q E ↔ Wp (evS (run T G n) G (.cons (.asg (.nm 4) [] (.tup .nil)) (.cons (.fr (.tp [5, 6]) [] (.zip (.var 0) (.var 1)) (.cons (.ife (.cmp .eq (.ix (.var 5) (.int 0)) (.var 2)) (.cons (.asg (.nm 6) [] (.b1 .tuple (.compIf (.nm 7) (.var 6) (.cmp .ne (.call "key_of" (.cons (.var 5) (.cons (.var 7) .nil))) (.var 3)) (.var 7)))) .nil) .nil) (.cons (.asg (.nm 4) [] (.op .add (.var 4) (.tup (.cons (.var 6) .nil)))) .nil))) (.cons (.ret (.var 4)) .nil))) [some x0, some x1, some x2, some x3, none, none, none, none]) (FQ (fun _ => Q .non) Q) E := wp_finish
theorem u_law {n : Nat} {x0 : D} {Q : D → Prop} {E : Ex → Prop} : Wp (run T G (n + 1) "law" [x0]) Q E ↔ Wp (evS (run T G n) G (.cons (.asg (.nm 1) [] (.call "_law_schema" (.cons (.call "_law_mixed" (.cons (.var 0) (.cons (.int 0) .nil))) .nil))) (.cons (.asg (.nm 2) [] (.call "_law_loose" (.cons (.var 1) (.cons (.call "_law_mixed" (.cons (.var 0) (.cons (.int 1) .nil))) .nil)))) (.cons (.asg (.nm 3) [] (.call "breaks" (.cons (.var 1) (.cons (.var 2) .nil)))) (.cons (.asgD 4 [] (.dnew true)) (.cons (.fr (.tp [5, 6, 7]) [4] (.var 3) (.cons (.asg (.nm 8) [4] (.ix (.ix (.call "_law_table" (.cons (.var 1) (.cons (.var 5) .nil))) (.int 3)) (.var 6))) (.cons (.put 4 (.tup (.cons (.var 5) (.cons (.var 6) .nil))) (.op .add (.get2 (.var 4) (.tup (.cons (.var 5) (.cons (.var 6) .nil))) (.int 0)) (.int 1))) (.cons (.ife (.cmp .eq (.ix (.var 8) (.int 0)) (.str "check")) (.cons (.asg (.nm 9) [4] (.call "breaks" (.cons (.var 1) (.cons (.call "_law_less" (.cons (.var 1) (.cons (.var 2) (.cons (.var 5) (.cons (.var 7) .nil))))) .nil)))) (.cons (.ife (.cmp .inn (.tup (.cons (.var 5) (.cons (.var 6) (.cons (.var 7) .nil)))) (.var 9)) (.cons (.ret (.bl false)) .nil) .nil) (.cons (.asg (.nm 10) [4] (.compIf (.nm 11) (.var 9) (.cmp .eq (.ix (.ix (.ix (.call "_law_table" (.cons (.var 1) (.cons (.ix (.var 11) (.int 0)) .nil))) (.int 3)) (.ix (.var 11) (.int 1))) (.int 0)) (.str "check")) (.var 11))) (.cons (.ife (.cmp .ne (.compIf (.nm 11) (.var 10) (.cmp .nin (.var 11) (.var 3)) (.var 11)) (.lst .nil)) (.cons (.ret (.bl false)) .nil) .nil) .nil)))) .nil) .nil)))) (.cons (.fr (.tp [5, 6]) [] (.var 4) (.cons (.ife (.and (.cmp .eq (.ix (.ix (.ix (.call "_law_table" (.cons (.var 1) (.cons (.var 5) .nil))) (.int 3)) (.var 6)) (.int 0)) (.str "unlike")) (.and1 (.cmp .lt (.ix (.var 4) (.tup (.cons (.var 5) (.cons (.var 6) .nil)))) (.int 2)))) (.cons (.ret (.bl false)) .nil) .nil) .nil)) (.cons (.fr (.tp [5, 6, 7]) [] (.var 3) (.cons (.asg (.nm 12) [] (.call "_law_table" (.cons (.var 1) (.cons (.var 5) .nil)))) (.cons (.asg (.nm 8) [] (.ix (.ix (.var 12) (.int 3)) (.var 6))) (.cons (.ife (.cmp .eq (.ix (.var 8) (.int 0)) (.str "refers")) (.cons (.asg (.nm 13) [] (.ix (.compIf (.nm 11) (.call "_law_rows" (.cons (.var 1) (.cons (.var 2) (.cons (.var 5) .nil)))) (.cmp .eq (.call "key_of" (.cons (.var 12) (.cons (.var 11) .nil))) (.var 7)) (.var 11)) (.int 0))) (.cons (.asg (.nm 14) [] (.call "_law_table" (.cons (.var 1) (.cons (.ix (.var 8) (.int 2)) .nil)))) (.cons (.asg (.nm 15) [] (.call "_law_row" (.cons (.var 14) (.cons (.call "_law_mixed" (.cons (.var 0) (.cons (.int 2) .nil))) .nil)))) (.cons (.asg (.nm 16) [] (.b1 .dictS (.lzip (.ix (.var 14) (.int 2)) (.call "_law_worths" (.cons (.var 12) (.cons (.var 13) (.cons (.ix (.var 8) (.int 1)) .nil))))))) (.cons (.asg (.nm 15) [] (.b1 .tuple (.comp (.tp [17, 18]) (.zip (.ix (.var 14) (.int 1)) (.var 15)) (.get2 (.var 16) (.ix (.var 17) (.int 0)) (.var 18))))) (.cons (.asg (.nm 19) [] (.tup .nil)) (.cons (.fr (.tp [11, 20]) [] (.zip (.var 1) (.var 2)) (.cons (.ife (.cmp .eq (.ix (.var 11) (.int 0)) (.ix (.var 8) (.int 2))) (.cons (.asg (.nm 16) [] (.b1 .dictT (.comp (.nm 21) (.op .add (.var 20) (.tup (.cons (.var 15) .nil))) (.tup (.cons (.call "key_of" (.cons (.var 14) (.cons (.var 21) .nil))) (.cons (.var 21) .nil)))))) (.cons (.asg (.nm 20) [] (.b1 .tuple (.comp (.nm 22) (.b1 .sorted (.var 16)) (.ix (.var 16) (.var 22))))) .nil)) .nil) (.cons (.asg (.nm 19) [] (.op .add (.var 19) (.tup (.cons (.var 20) .nil)))) .nil))) (.cons (.ret (.cmp .nin (.tup (.cons (.var 5) (.cons (.var 6) (.cons (.var 7) .nil)))) (.call "breaks" (.cons (.var 1) (.cons (.var 19) .nil))))) .nil)))))))) .nil) .nil)))) (.cons (.ret (.bl true)) .nil)))))))) [some x0, none, none, none, none, none, none, none, none, none, none, none, none, none, none, none, none, none, none, none, none, none, none]) (FQ (fun _ => Q .non) Q) E := wp_finish
end Law
/-! ### the data of the program, typed -/
namespace Law
open Dt
abbrev Txt := List Nat
inductive Worth where
  | gap
  | num (i : Int)
  | txt (s : Txt)
  deriving DecidableEq
def Worth.d : Worth → D
  | .gap => .non
  | .num i => .int i
  | .txt s => .str s
structure Col where
  name : Txt
  text : Bool
  gap : Bool
  deriving DecidableEq
def kindT (b : Bool) : Txt := if b then tx "text" else tx "whole"
def Col.d (c : Col) : D := .tup [.str c.name, .str (kindT c.text), .bl c.gap]
inductive Tst where
  | eq (c : Txt) (w : Worth)
  | lt (a b : Txt)
  | emp (a : Txt)
  | neg (t : Tst)
  | both (t u : Tst)
  | either (t u : Tst)
  deriving DecidableEq
def Tst.d : Tst → D
  | .eq c w => .tup [.str (tx "is"), .str c, w.d]
  | .lt a b => .tup [.str (tx "below"), .str a, .str b]
  | .emp a => .tup [.str (tx "empty"), .str a]
  | .neg t => .tup [.str (tx "not"), t.d]
  | .both t u => .tup [.str (tx "and"), t.d, u.d]
  | .either t u => .tup [.str (tx "or"), t.d, u.d]
abbrev txs (l : List Txt) : List D := l.map D.str
inductive Rl where
  | refers (cols : List Txt) (goal way : Txt)
  | unlike (cols : List Txt)
  | check (t : Tst)
  deriving DecidableEq
def Rl.d : Rl → D
  | .refers c g w => .tup [.str (tx "refers"), .tup (txs c), .str g, .str w]
  | .unlike c => .tup [.str (tx "unlike"), .tup (txs c)]
  | .check t => .tup [.str (tx "check"), t.d]
structure Tab where
  name : Txt
  cols : List Col
  key : List Txt
  rules : List Rl
  deriving DecidableEq
def Tab.d (t : Tab) : D := .tup [.str t.name, .tup (t.cols.map Col.d), .tup (txs t.key), .tup (t.rules.map Rl.d)]
def schD (s : List Tab) : D := .tup (s.map Tab.d)

/-! ### what the drawn ones keep -/
def Tab.names (t : Tab) : List Txt := t.cols.map Col.name
def worthOk : Worth → Prop
  | .gap => True
  | .num i => -1000 ≤ i ∧ i ≤ 1000
  | .txt s => s.length ≤ 6
/-- a test over columns C, at most k in one another -/
def Tst.ok (C : List Col) : Nat → Tst → Prop
  | 0, _ => False
  | _ + 1, .eq c w => ∃ x ∈ C, x.name = c ∧ (match w with
    | .gap => False
    | .num i => x.text = false ∧ -1000 ≤ i ∧ i ≤ 1000
    | .txt s => x.text = true ∧ s.length ≤ 6)
  | _ + 1, .lt a b => ∃ x ∈ C, ∃ y ∈ C, x.name = a ∧ y.name = b ∧ x.text = y.text
  | _ + 1, .emp a => ∃ x ∈ C, x.name = a
  | k + 1, .neg t => t.ok C k
  | k + 1, .both t u => t.ok C k ∧ u.ok C k
  | k + 1, .either t u => t.ok C k ∧ u.ok C k
/-- a table without rules -/
structure Tab.bare (t : Tab) : Prop where
  few : t.cols.length ≤ 4
  nd : t.names.Nodup
  short : ∀ c ∈ t.cols, c.name.length ≤ 2
  keyL : t.key.length ≤ 2
  keyN : t.key ≠ []
  keyD : t.key.Nodup
  keyC : ∀ k ∈ t.key, ∃ c ∈ t.cols, c.name = k ∧ c.gap = false
/-- the kinds of a table's columns of these names -/
def Tab.kinds (t : Tab) (l : List Txt) : List (Option Bool) := l.map fun n => (t.cols.find? fun c => decide (c.name = n)).map Col.text
def Rl.ok (S : List Tab) (t : Tab) : Rl → Prop
  | .refers c g w => ∃ u ∈ S, u.name = g ∧ c.length = u.key.length ∧ c.Nodup ∧ (∀ n ∈ c, n ∈ t.names) ∧ t.kinds c = u.kinds u.key ∧ w ∈ [tx "stop", tx "late", tx "along", tx "gap"] ∧ (w = tx "gap" → ∀ x ∈ t.cols, x.name ∈ c → x.gap = true)
  | .unlike c => c ≠ [] ∧ c.length ≤ 2 ∧ c.Nodup ∧ ∀ n ∈ c, n ∈ t.names
  | .check u => u.ok t.cols 3
structure SchOk (S : List Tab) : Prop where
  few : S.length ≤ 4
  some : S ≠ []
  nd : (S.map Tab.name).Nodup
  short : ∀ t ∈ S, t.name.length ≤ 4
  bare : ∀ t ∈ S, t.bare
  rulesL : ∀ t ∈ S, t.rules.length ≤ 4
  rules : ∀ t ∈ S, ∀ r ∈ t.rules, r.ok S t
end Law
namespace Law
open Dt
theorem tx_id : tx "id" = [105, 100] := by decide
theorem r_cell (n : Nat) (L : List Int) (k : Int) (hk : 0 ≤ k) : ∃ i, run T G (n+1) "_law_cell_at" [.scr (L.map .int), .int k] = .ok (.int i) := by
  suffices h : Wp (run T G (n+1) "_law_cell_at" [.scr (L.map .int), .int k]) (fun d => ∃ i, d = .int i) E0 by
    obtain ⟨d, h1, i, rfl⟩ := h.ok_of
    exact ⟨i, h1⟩
  rw [u__law_cell_at]
  simp
  intro h
  rw [nth_map]
  obtain ⟨x, h1, _⟩ := nth_in hk h
  rw [h1]
  exact ⟨_, rfl, x, rfl⟩
theorem r_mixed (n : Nat) (L : List Int) (k : Int) (hk : 0 ≤ k) : ∃ i, 0 ≤ i ∧ i < 2147483629 ∧ run T G (n+2) "_law_mixed" [.scr (L.map .int), .int k] = .ok (.int i) := by
  suffices h : Wp (run T G (n+2) "_law_mixed" [.scr (L.map .int), .int k]) (fun d => ∃ i, d = .int i ∧ 0 ≤ i ∧ i < 2147483629) E0 by
    obtain ⟨d, h1, i, rfl, h2, h3⟩ := h.ok_of
    exact ⟨i, h2, h3, h1⟩
  rw [u__law_mixed]
  obtain ⟨c, hc⟩ := r_cell n L k hk
  simp [hc]
  have h1 := Int.emod_nonneg ((c + 7919 * k + 1) * 48271) (b := 2147483647) (by decide)
  have h2 := Int.emod_lt_of_pos ((c + 7919 * k + 1) * 48271) (b := 2147483647) (by decide)
  refine ⟨.inl (by decide), .inr (by decide), smallI_of (by omega) (by omega), .inl (by decide), Int.emod_nonneg _ (by decide), Int.emod_lt_of_pos _ (by decide)⟩
theorem r_drawn (n : Nat) (a k : Int) : ∃ i, 0 ≤ i ∧ i < 2147483629 ∧ run T G (n+1) "_law_drawn" [.int a, .int k] = .ok (.int i) := by
  suffices h : Wp (run T G (n+1) "_law_drawn" [.int a, .int k]) (fun d => ∃ i, d = .int i ∧ 0 ≤ i ∧ i < 2147483629) E0 by
    obtain ⟨d, h1, i, rfl, h2, h3⟩ := h.ok_of
    exact ⟨i, h2, h3, h1⟩
  rw [u__law_drawn]
  simp
  have h1 := Int.emod_nonneg ((a + 104729 * k + 17) * 69621) (b := 2147483647) (by decide)
  have h2 := Int.emod_lt_of_pos ((a + 104729 * k + 17) * 69621) (b := 2147483647) (by decide)
  refine ⟨.inl (by decide), .inr (by decide), smallI_of (by omega) (by omega), .inl (by decide), Int.emod_nonneg _ (by decide), Int.emod_lt_of_pos _ (by decide)⟩
/-- a drawn number, by four -/
theorem r_drawn4 (n : Nat) (a k : Int) : ∃ i, 0 ≤ i ∧ run T G (n+1) "_law_drawn" [.int a, .int k] = .ok (.int i) ∧ 0 ≤ i / 4 := by
  obtain ⟨i, h0, _, h⟩ := r_drawn n a k
  exact ⟨i, h0, h, by omega⟩
abbrev kinds6 : List D := [D.str (tx "whole"), .str (tx "whole"), .str (tx "text"), .str (tx "whole"), .str (tx "text"), .str (tx "whole")]
theorem kind_at (i : Int) : ∃ b, nth kinds6 (i % 6) = some (.str (kindT b)) := by
  obtain ⟨d, h1, h⟩ := nth_in (l := kinds6) (Int.emod_nonneg i (by decide : (6 : Int) ≠ 0)) (Int.emod_lt_of_pos i (by decide))
  have : ∀ d ∈ kinds6, ∃ b, d = .str (kindT b) := by
    intro d h
    simp only [kinds6, List.mem_cons, List.not_mem_nil, or_false] at h
    rcases h with rfl | rfl | rfl | rfl | rfl | rfl
    · exact ⟨false, rfl⟩
    · exact ⟨false, rfl⟩
    · exact ⟨true, rfl⟩
    · exact ⟨false, rfl⟩
    · exact ⟨true, rfl⟩
    · exact ⟨false, rfl⟩
  obtain ⟨b, rfl⟩ := this d h
  exact ⟨b, h1⟩
theorem nodup_cut {α : Type} {l : List α} (h : l.Nodup) (k : Nat) : (l.drop k ++ l.take k).Nodup := by
  have p : (l.drop k ++ l.take k).Perm l := List.perm_append_comm.trans (by rw [List.take_append_drop])
  exact p.nodup_iff.mpr h
theorem mem_cut {α : Type} {l : List α} {k : Nat} {x : α} : x ∈ l.drop k ++ l.take k ↔ x ∈ l := by
  have p : (l.drop k ++ l.take k).Perm l := List.perm_append_comm.trans (by rw [List.take_append_drop])
  exact p.mem_iff
theorem len_cut {α : Type} {l : List α} {k : Nat} : (l.drop k ++ l.take k).length = l.length := by
  have p : (l.drop k ++ l.take k).Perm l := List.perm_append_comm.trans (by rw [List.take_append_drop])
  exact p.length_eq
theorem r_bare (n : Nat) (nm : Txt) (a : Int) (ha : 0 ≤ a) : ∃ t : Tab, run T G (n+2) "_law_bare" [.str nm, .int a] = .ok t.d ∧ t.bare ∧ t.name = nm ∧ t.rules = [] := by
  suffices h : Wp (run T G (n+2) "_law_bare" [.str nm, .int a]) (fun d => ∃ t : Tab, d = t.d ∧ t.bare ∧ t.name = nm ∧ t.rules = []) E0 by
    obtain ⟨d, h1, t, rfl, h2⟩ := h.ok_of
    exact ⟨t, h1, h2⟩
  rw [u__law_bare]
  obtain ⟨b0, hb0⟩ := kind_at a
  simp only [kinds6] at hb0
  simp [hb0]
  let L : List (Nat × Txt) := [(0, tx "n"), (1, tx "t"), (2, tx "u")]
  refine wp_for (α := Nat × Txt) (g := fun p => .tup [.int p.1, .str p.2]) (L := L)
    (fun done ρ => ∃ (C : List Col) (e4 e5 e6 : Option D), ρ = [some (.str nm), some (.int a), some (.tup kinds6), some (.lst (C.map Col.d)), e4, e5, e6, none, none, none, none] ∧
      (C.map Col.name).Sublist (tx "id" :: done.map (·.2)) ∧ ∃ c r, C = c :: r ∧ c.name = tx "id" ∧ c.gap = false) ?_ ?_ ?_
  · exact ⟨[⟨tx "id", b0, false⟩], none, none, none, rfl, List.Sublist.refl _, _, _, rfl, rfl, rfl⟩
  · rintro done ⟨k, o⟩ todo ρ hL ⟨C, e4, e5, e6, rfl, hs, c, r, rfl, hc1, hc2⟩
    obtain ⟨i, h0, hi, h4⟩ := r_drawn4 n a (10 + k)
    obtain ⟨b, hb⟩ := kind_at (i / 4 / 4)
    simp only [kinds6] at hb
    have hlen : ((c :: r).map Col.name).length ≤ done.length + 1 := by
      have := hs.length_le
      simpa using this
    have hd : done.length ≤ 3 := by
      have := congrArg List.length hL
      simp [L] at this
      omega
    simp [hi, hb]
    simp at hlen
    refine ⟨fun hp => ⟨by unfold SZ; omega, c :: r ++ [⟨o, b, decide (0 < i / 4 / 32 % 3)⟩], ?_, ?_, c, ⟨_, rfl⟩, hc1, hc2⟩, fun hp => ⟨c :: r, rfl, ?_, c, ⟨_, rfl⟩, hc1, hc2⟩⟩
    · simp [Col.d]
    · have := hs.append (List.Sublist.refl [o])
      simpa using this
    · have := hs.trans (List.sublist_append_left (tx "id" :: done.map (·.2)) [o])
      simpa using this
  · rintro ρ ⟨C, e4, e5, e6, rfl, hs, c, r, rfl, hc1, hc2⟩
    have hnd : ((c :: r).map Col.name).Nodup := hs.nodup (by decide)
    have hlen : (c :: r).length ≤ 4 := by simpa [L] using hs.length_le
    have hsh : ∀ x ∈ c :: r, x.name.length ≤ 2 := fun x hx => by
      have := hs.subset (List.mem_map.mpr ⟨x, hx, rfl⟩)
      simp [L] at this
      rcases this with h | h | h | h <;> rw [h] <;> decide
    generalize hC : c :: r = C at *
    have hne : C ≠ [] := by rw [← hC]; simp
    simp
    rw [filR_eq (g := Col.d) (p := fun c => !c.gap) (h := fun c => .str c.name) (fun x _ => by simp [Col.d]) (fun x _ _ => by simp [Col.d])]
    have fin : ∀ key : List Txt, key.length ≤ 2 → key ≠ [] → key.Nodup → (∀ k ∈ key, ∃ c ∈ C, c.name = k ∧ c.gap = false) → 0 < C.length ∧
        (cut (C.map Col.d) (some (a / 64 % (C.length : Int))) none).length + (cut (C.map Col.d) none (some (a / 64 % (C.length : Int)))).length ≤ SZ ∧
        ∃ t : Tab, D.tup [.str nm, .tup (cut (C.map Col.d) (some (a / 64 % (C.length : Int))) none ++ cut (C.map Col.d) none (some (a / 64 % (C.length : Int)))), .tup (txs key), .tup []] = t.d ∧ t.bare ∧ t.name = nm ∧ t.rules = [] := by
      intro key k1 k2 k3 k4
      have hp : 0 < C.length := List.length_pos_iff.mpr hne
      have hm : 0 ≤ a / 64 % (C.length : Int) := Int.emod_nonneg _ (by omega)
      rw [cut_loI hm, cut_hiI hm]
      refine ⟨hp, ?_, ⟨nm, C.drop (a / 64 % (C.length : Int)).toNat ++ C.take (a / 64 % (C.length : Int)).toNat, key, []⟩, ?_, ?_, rfl, rfl⟩
      · have := len_cut (l := C.map Col.d) (k := (a / 64 % (C.length : Int)).toNat)
        rw [List.length_append, List.length_map] at this
        rw [this]
        unfold SZ
        omega
      · simp [Tab.d]
      · refine ⟨?_, ?_, fun c hc => hsh c (mem_cut.mp hc), k1, k2, k3, fun k hk => ?_⟩
        · show (C.drop _ ++ C.take _).length ≤ 4
          rw [len_cut]
          exact hlen
        · show ((C.drop _ ++ C.take _).map Col.name).Nodup
          rw [List.map_append, List.map_drop, List.map_take]
          exact nodup_cut hnd _
        · obtain ⟨c, h1, h2⟩ := k4 k hk
          exact ⟨c, mem_cut.mpr h1, h2⟩
    have idOk : ∃ c ∈ C, c.name = tx "id" ∧ c.gap = false := ⟨c, by rw [← hC]; simp, hc1, hc2⟩
    have one : ∀ k ∈ [tx "id"], ∃ c ∈ C, c.name = k ∧ c.gap = false := fun k hk => by
      simp at hk
      rw [hk]
      exact idOk
    have f1 := fin [tx "id"] (by decide) (by simp) (by simp) one
    simp
    refine ⟨fun h8 => ⟨fun hl => ?_, fun _ => f1⟩, fun _ => f1⟩
    have hpl : (C.filter fun c => !c.gap) = c :: (r.filter fun c => !c.gap) := by rw [← hC]; simp [hc2]
    rw [hpl] at hl ⊢
    cases hr : r.filter fun c => !c.gap with
    | nil => rw [hr] at hl; simp at hl
    | cons c2 r2 =>
      have hin : c2 ∈ r.filter fun c => !c.gap := by rw [hr]; simp
      obtain ⟨h1, h2⟩ := List.mem_filter.mp hin
      have hg : c2.gap = false := by simpa using h2
      have hC2 : c2 ∈ C := by rw [← hC]; exact List.mem_cons_of_mem _ h1
      have hn2 : c2.name ≠ tx "id" := fun z => by
        rw [← hC, List.map_cons, List.nodup_cons] at hnd
        exact hnd.1 (List.mem_map.mpr ⟨c2, h1, by rw [z, hc1]⟩)
      have two : ∀ key ∈ [[tx "id", c2.name], [c2.name, tx "id"]], ∀ k ∈ key, ∃ c ∈ C, c.name = k ∧ c.gap = false := fun key hkey k hk => by
        simp at hkey
        rcases hkey with rfl | rfl <;> simp at hk <;> rcases hk with rfl | rfl <;> first | exact idOk | exact ⟨c2, hC2, rfl, hg⟩
      simp
      have e2 : a / 32 % 2 = 0 ∨ a / 32 % 2 = 1 := by omega
      rcases e2 with e2 | e2
      · rw [e2]
        exact ⟨_, nth_0, fin [tx "id", c2.name] (by simp) (by simp) (by simp [Ne.symm hn2]) (two _ (by simp))⟩
      · rw [e2]
        exact ⟨_, nth_1, fin [c2.name, tx "id"] (by simp) (by simp) (by simp [hn2]) (two _ (by simp))⟩

theorem nth_col {C : List Col} (h : C ≠ []) (i : Int) : ∃ c, nth (C.map Col.d) (i % (C.length : Int)) = some c.d ∧ c ∈ C := by
  obtain ⟨c, h1, h2⟩ := nth_mod (i := i) h
  exact ⟨c, by rw [nth_map, h1]; rfl, h2⟩
theorem kind_plain {b : Bool} : kindT b = tx "text" ↔ b = true := by cases b <;> decide
theorem kind_inj {a b : Bool} : kindT a = kindT b ↔ a = b := by cases a <;> cases b <;> decide
theorem nth6 {l : List D} (h : l.length = 6) (i : Int) : ∃ d, nth l (i % 6) = some d ∧ d ∈ l := by
  have := nth_in (l := l) (Int.emod_nonneg i (by decide : (6 : Int) ≠ 0)) (by rw [h]; exact Int.emod_lt_of_pos i (by decide))
  exact this
theorem test_leaf (t : Tab) (k : Nat) (a : Int) (c : Col) (hcm : c ∈ t.cols) : (a % 8 = 0 → ∃ u : Tst, D.tup [D.str (tx "empty"), D.str c.name] = u.d ∧ Tst.ok t.cols (k + 1) u) ∧
    (¬a % 8 = 0 → Wp (filR (fun x => do
            let x ← ixD x (D.int 1)
            must x.plain (Res.ok (D.bl (eqD x (D.str (kindT c.text))))))
          (fun x => ixD x (D.int 0)) (List.map Col.d t.cols))
        (fun a_2 =>
          (a % 8 = 1 → 0 < a_2.length ∧ ∃ a_4, nth a_2 (a / 64 % ↑a_2.length) = some a_4 ∧ ∃ u : Tst, D.tup [D.str (tx "below"), D.str c.name, a_4] = u.d ∧ Tst.ok t.cols (k + 1) u) ∧
            (¬a % 8 = 1 → ∃ a_4, nth [D.tup [D.int 0, D.int 1, D.int 2, D.int 3, D.int (-5), D.int 999],
                        D.tup [D.str (tx ""), D.str (tx "a"), D.str (tx "b"), D.str (tx "ab"), D.str (tx "x9"), D.str (tx "zzzzzz")]]
                      (if kindT c.text = tx "text" then 1 else 0) = some a_4 ∧
                  Wp (ixD a_4 (D.int (a / 64 % 6))) (fun a => ∃ u : Tst, D.tup [D.str (tx "is"), D.str c.name, a] = u.d ∧ Tst.ok t.cols (k + 1) u) E0)) E0) := by
  refine ⟨fun _ => ⟨.emp c.name, rfl, c, hcm, rfl⟩, fun _ => ?_⟩
  rw [filR_eq (g := Col.d) (p := fun x => x.text == c.text) (h := fun x => .str x.name) (fun x _ => by simp [Col.d, kind_inj]; cases x.text <;> cases c.text <;> rfl) (fun x _ _ => by simp [Col.d])]
  have hne : (t.cols.filter fun x => x.text == c.text) ≠ [] := fun z => by
    have : c ∈ t.cols.filter fun x => x.text == c.text := List.mem_filter.mpr ⟨hcm, by simp⟩
    rw [z] at this
    cases this
  simp
  refine ⟨fun _ => ?_, fun _ => ?_⟩
  · obtain ⟨x, h1, h2⟩ := nth_mod (i := a / 64) hne
    obtain ⟨h3, h4⟩ := List.mem_filter.mp h2
    refine ⟨⟨c, hcm, rfl⟩, .str x.name, by rw [nth_map, h1]; rfl, .lt c.name x.name, rfl, c, hcm, x, h3, rfl, rfl, ?_⟩
    simpa using (eq_of_beq h4).symm
  · cases ht : c.text with
    | false =>
      rw [if_neg (by decide)]
      refine ⟨_, nth_0, ?_⟩
      obtain ⟨d, h1, h2⟩ := nth6 (l := [D.int 0, D.int 1, D.int 2, D.int 3, D.int (-5), D.int 999]) rfl (a / 64)
      simp [h1]
      have : ∃ i : Int, d = .int i ∧ -1000 ≤ i ∧ i ≤ 1000 := by
        simp only [List.mem_cons, List.not_mem_nil, or_false] at h2
        rcases h2 with rfl | rfl | rfl | rfl | rfl | rfl <;> exact ⟨_, rfl, by decide, by decide⟩
      obtain ⟨i, rfl, h3, h4⟩ := this
      exact ⟨.eq c.name (.num i), rfl, c, hcm, rfl, ht, h3, h4⟩
    | true =>
      rw [if_pos (by decide)]
      refine ⟨_, nth_1, ?_⟩
      obtain ⟨d, h1, h2⟩ := nth6 (l := [D.str (tx ""), D.str (tx "a"), D.str (tx "b"), D.str (tx "ab"), D.str (tx "x9"), D.str (tx "zzzzzz")]) rfl (a / 64)
      simp [h1]
      have : ∃ i : Txt, d = .str i ∧ i.length ≤ 6 := by
        simp only [List.mem_cons, List.not_mem_nil, or_false] at h2
        rcases h2 with rfl | rfl | rfl | rfl | rfl | rfl <;> exact ⟨_, rfl, by decide⟩
      obtain ⟨i, rfl, h3⟩ := this
      exact ⟨.eq c.name (.txt i), rfl, c, hcm, rfl, ht, h3⟩
theorem r_test (t : Tab) (hC : t.cols ≠ []) : ∀ (k n : Nat) (a : Int), 0 ≤ a → ∃ u : Tst, run T G (n + k + 2) "_law_test" [t.d, .int a, .int ((k : Int) + 1)] = .ok u.d ∧ u.ok t.cols (k + 1) := by
  intro k
  induction k with
  | zero =>
    intro n a ha
    suffices h : Wp (run T G (n + 0 + 2) "_law_test" [t.d, .int a, .int (((0 : Nat) : Int) + 1)]) (fun d => ∃ u : Tst, d = u.d ∧ u.ok t.cols (0 + 1)) E0 by
      obtain ⟨d, h1, u, rfl, h2⟩ := h.ok_of
      exact ⟨u, h1, h2⟩
    rw [u__law_test]
    obtain ⟨c, hc, hcm⟩ := nth_col hC (a / 8)
    have hp : 0 < t.cols.length := List.length_pos_iff.mpr hC
    simp [Tab.d, hc, hp, Col.d]
    exact test_leaf t 0 a c hcm
  | succ k ih =>
    intro n a ha
    suffices h : Wp (run T G (n + (k + 1) + 2) "_law_test" [t.d, .int a, .int (((k + 1 : Nat) : Int) + 1)]) (fun d => ∃ u : Tst, d = u.d ∧ u.ok t.cols (k + 1 + 1)) E0 by
      obtain ⟨d, h1, u, rfl, h2⟩ := h.ok_of
      exact ⟨u, h1, h2⟩
    rw [u__law_test]
    obtain ⟨c, hc, hcm⟩ := nth_col hC (a / 8)
    have hp : 0 < t.cols.length := List.length_pos_iff.mpr hC
    obtain ⟨i1, g1, e1, f1⟩ := r_drawn4 (n + k + 1) a 1
    obtain ⟨i2, g2, e2, f2⟩ := r_drawn4 (n + k + 1) a 2
    obtain ⟨u1, e3, o1⟩ := ih n (i1 / 4) f1
    obtain ⟨u2, e4, o2⟩ := ih n (i2 / 4) f2
    have e0 : n + (k + 1) + 1 = n + k + 2 := by omega
    rw [e0]
    have hk : ((k + 1 : Nat) : Int) + 1 - 1 = (k : Int) + 1 := by omega
    simp only [Tab.d] at e3 e4
    simp [Tab.d, hc, hp, Col.d, mapR, e1, e2, e3, e4, hk]
    have leaf := test_leaf t (k + 1) a c hcm
    refine ⟨fun _ => ⟨fun h4 => ?_, fun _ => leaf⟩, fun _ => leaf⟩
    have h8 : a % 8 < 8 := Int.emod_lt_of_pos _ (by decide)
    have : a % 8 - 5 = 0 ∨ a % 8 - 5 = 1 ∨ a % 8 - 5 = 2 := by omega
    rcases this with e | e | e <;> rw [e]
    · exact ⟨_, nth_0, .neg u1, rfl, o1⟩
    · exact ⟨_, nth_1, .both u1 u2, rfl, o1, o2⟩
    · exact ⟨_, nth_2, .either u1 u2, rfl, o1, o2⟩
theorem find_col {C : List Col} (h : (C.map Col.name).Nodup) {c : Col} (hc : c ∈ C) : C.find? (fun x => decide (x.name = c.name)) = some c := by
  induction C with
  | nil => cases hc
  | cons y ys ih =>
    rw [List.map_cons, List.nodup_cons] at h
    by_cases e : y.name = c.name
    · rw [List.find?_cons_of_pos (by simpa using e)]
      rcases List.mem_cons.mp hc with rfl | hc
      · rfl
      · exact absurd (List.mem_map.mpr ⟨c, hc, e.symm⟩) h.1
    · rw [List.find?_cons_of_neg (by simpa using e)]
      rcases List.mem_cons.mp hc with rfl | hc
      · exact absurd rfl e
      · exact ih h.2 hc
theorem kinds_app (t : Tab) (l m : List Txt) : t.kinds (l ++ m) = t.kinds l ++ t.kinds m := by simp [Tab.kinds]
theorem kinds_one {t : Tab} (h : t.names.Nodup) {c : Col} (hc : c ∈ t.cols) : t.kinds [c.name] = [some c.text] := by
  simp [Tab.kinds, find_col h hc]
theorem strs_any {l : List Txt} {x : Txt} : ((txs l).any fun y => eqD y (.str x)) = decide (x ∈ l) := by
  induction l with
  | nil => rfl
  | cons y ys ih =>
    unfold txs at ih ⊢
    rw [List.map_cons, List.any_cons, ih]
    by_cases h : x = y
    · simp [h]
    · simp [h, Ne.symm h]
theorem strs_any' {l : List Txt} {x : Txt} : (l.any ((fun y => eqD y (.str x)) ∘ D.str)) = decide (x ∈ l) := by
  rw [← strs_any, List.any_map]
theorem strs_plain {l : List Txt} : D.plains (txs l) = true := plains_map (fun _ => rfl) l
structure PairOk (t : Tab) (ks : List Bool) (l : List Txt) : Prop where
  nd : l.Nodup
  mem : ∀ m ∈ l, m ∈ t.names
  kinds : t.kinds l = ks.map some
theorem r_pairs (t : Tab) (h4 : t.cols.length ≤ 4) (hnd : t.names.Nodup) (n : Nat) (ks : List Bool) (hk : ks.length ≤ 2) :
    ∃ F : List (List Txt), run T G (n + 1) "_law_pairs" [t.d, .lst (ks.map fun b => .str (kindT b))] = .ok (.lst (F.map fun l => .tup (txs l))) ∧ ∀ l ∈ F, PairOk t ks l := by
  suffices h : Wp (run T G (n + 1) "_law_pairs" [t.d, .lst (ks.map fun b => .str (kindT b))]) (fun d => ∃ F : List (List Txt), d = .lst (F.map fun l => .tup (txs l)) ∧ ∀ l ∈ F, PairOk t ks l) E0 by
    obtain ⟨d, h1, F, rfl, h2⟩ := h.ok_of
    exact ⟨F, h1, h2⟩
  rw [u__law_pairs]
  simp
  refine wp_for (fun done ρ => ∃ (F : List (List Txt)) (e3 e4 e5 e6 : Option D), ρ = [some t.d, some (.lst (ks.map fun b => .str (kindT b))), some (.lst (F.map fun l => .tup (txs l))), e3, e4, e5, e6] ∧
      (∀ l ∈ F, PairOk t done l) ∧ F.length ≤ 4 ^ done.length) ?_ ?_ ?_
  · exact ⟨[[]], none, none, none, none, rfl, fun l hl => by
      simp at hl
      subst hl
      exact ⟨List.nodup_nil, fun m hm => (by cases hm), rfl⟩, by simp⟩
  · rintro done b todo ρ hL ⟨F, e3, e4, e5, e6, rfl, hF, hl⟩
    simp
    refine wp_for (fun dn ρ => ∃ (K : List (List Txt)) (e5 e6 : Option D), ρ = [some t.d, some (.lst (ks.map fun b => .str (kindT b))), some (.lst (F.map fun l => .tup (txs l))), some (.str (kindT b)), some (.lst (K.map fun l => .tup (txs l))), e5, e6] ∧
      (∀ l ∈ K, PairOk t (done ++ [b]) l) ∧ K.length ≤ 4 * dn.length) ?_ ?_ ?_
    · exact ⟨[], e5, e6, rfl, fun l hl => (by cases hl), by simp⟩
    · rintro dn l td ρ hL2 ⟨K, e5, e6, rfl, hK, hlK⟩
      simp [Tab.d]
      rw [filR_eq (g := Col.d) (p := fun c => (c.text == b) && !decide (c.name ∈ l)) (h := fun c => .tup (txs (l ++ [c.name]))) ?hc ?hf]
      case hc =>
        intro c hc
        refine ev_and_eq (x := c.text == b) (y := !decide (c.name ∈ l)) ?_ fun _ => ?_
        · simp [Col.d, kind_inj]
          cases c.text <;> cases b <;> rfl
        · simp [Col.d, strs_any', strs_plain]
      case hf =>
        intro c hc hp
        have hin : l ∈ F := by rw [hL2]; simp
        have ll := congrArg List.length (hF l hin).kinds
        simp [Tab.kinds] at ll
        have : done.length ≤ 2 := by
          have := congrArg List.length hL
          simp at this
          omega
        have e : (decide ((txs l).length + [D.str c.name].length ≤ SZ)) = true := by
          simp [txs, ll, SZ]
          omega
        simp [Col.d]
        rw [must_of (by simpa using e)]
      have hin : l ∈ F := by rw [hL2]; simp
      have hlf : (t.cols.filter fun c => c.text == b && !decide (c.name ∈ l)).length ≤ 4 := Nat.le_trans (List.length_filter_le _ _) h4
      have hdn : dn.length + 1 ≤ 16 := by
        have h1 := congrArg List.length hL2
        simp at h1
        have h2 : F.length ≤ 4 ^ 2 := by
          refine Nat.le_trans hl (Nat.pow_le_pow_right (by decide) ?_)
          have := congrArg List.length hL
          simp at this
          omega
        omega
      rw [wp_ok]
      simp only [List.length_map]
      refine ⟨by unfold SZ; omega, K ++ (t.cols.filter fun c => c.text == b && !decide (c.name ∈ l)).map fun c => l ++ [c.name], by simp, fun m hm => ?_, by simp; omega⟩
      rcases List.mem_append.mp hm with hm | hm
      · exact hK m hm
      · obtain ⟨c, hc, rfl⟩ := List.mem_map.mp hm
        obtain ⟨hc1, hc2⟩ := List.mem_filter.mp hc
        simp at hc2
        have pk := hF l hin
        refine ⟨?_, fun m hm => ?_, ?_⟩
        · rw [List.nodup_append]
          refine ⟨pk.nd, by simp, fun a ha b hb => ?_⟩
          simp at hb
          rw [hb]
          exact fun z => hc2.2 (z ▸ ha)
        · rcases List.mem_append.mp hm with hm | hm
          · exact pk.mem m hm
          · simp at hm
            rw [hm]
            exact List.mem_map.mpr ⟨c, hc1, rfl⟩
        · rw [kinds_app, pk.kinds, kinds_one hnd hc1, hc2.1]
          simp
    · rintro ρ ⟨K, e5, e6, rfl, hK, hlK⟩
      simp
      refine ⟨K, rfl, hK, ?_⟩
      rw [Nat.pow_succ]
      omega
  · rintro ρ ⟨F, e3, e4, e5, e6, rfl, hF, hl⟩
    simp
    exact ⟨F, rfl, hF⟩

def Rl.pre : Rl → D
  | .unlike c => .tup [.str (tx "unlike"), .lst (txs c)]
  | r => r.d
theorem eqDs_nil {l : List D} : eqDs l [] = l.isEmpty := by cases l <;> rfl
theorem nth6t {l : List Txt} (h : l.length = 6) (i : Int) : ∃ d, nth (txs l) (i % 6) = some (.str d) ∧ d ∈ l := by
  obtain ⟨d, h1, h2⟩ := nth_in (l := l) (Int.emod_nonneg i (by decide : (6 : Int) ≠ 0)) (by rw [h]; exact Int.emod_lt_of_pos i (by decide))
  exact ⟨d, by unfold txs; rw [nth_map, h1]; rfl, h2⟩
def Tab.kindOf (t : Tab) (n : Txt) : Bool := ((t.cols.find? fun c => decide (c.name = n)).map Col.text).getD false
theorem kinds_of {t : Tab} (b : t.bare) {l : List Txt} (h : ∀ k ∈ l, ∃ c ∈ t.cols, c.name = k) : t.kinds l = (l.map t.kindOf).map some := by
  unfold Tab.kinds
  rw [List.map_map]
  refine List.map_congr_left fun k hk => ?_
  obtain ⟨c, hc, rfl⟩ := h k hk
  simp [Tab.kindOf, find_col b.nd hc]
theorem kinds_ev {t : Tab} (b : t.bare) {k : Txt} (h : ∃ c ∈ t.cols, c.name = k) : ∃ r, (t.cols.filter fun c => decide (c.name = k)).map (fun c => D.str (kindT c.text)) = .str (kindT (t.kindOf k)) :: r := by
  obtain ⟨c, hc, rfl⟩ := h
  have f := find_col b.nd hc
  have : ∃ r, (t.cols.filter fun x => decide (x.name = c.name)) = c :: r := by
    cases hq : t.cols.filter fun x => decide (x.name = c.name) with
    | nil =>
      have : c ∈ t.cols.filter fun x => decide (x.name = c.name) := List.mem_filter.mpr ⟨hc, by simp⟩
      rw [hq] at this
      cases this
    | cons y ys =>
      have h1 : (t.cols.filter fun x => decide (x.name = c.name)).head? = t.cols.find? fun x => decide (x.name = c.name) := List.head?_filter
      rw [hq, f] at h1
      simp at h1
      exact ⟨ys, by rw [h1]⟩
  obtain ⟨r, hr⟩ := this
  refine ⟨r.map fun c => D.str (kindT c.text), ?_⟩
  rw [hr]
  simp [Tab.kindOf, f]
theorem ok_mono {C : List Col} : ∀ {k m : Nat}, k ≤ m → ∀ (t : Tst), t.ok C k → t.ok C m
  | 0, _, _, _, h => by cases h
  | k + 1, 0, h, _, _ => by omega
  | k + 1, m + 1, h, .eq c w, q => q
  | k + 1, m + 1, h, .lt a b, q => q
  | k + 1, m + 1, h, .emp a, q => q
  | k + 1, m + 1, h, .neg t, q => ok_mono (Nat.le_of_succ_le_succ h) t q
  | k + 1, m + 1, h, .both t u, q => ⟨ok_mono (Nat.le_of_succ_le_succ h) t q.1, ok_mono (Nat.le_of_succ_le_succ h) u q.2⟩
  | k + 1, m + 1, h, .either t u, q => ⟨ok_mono (Nat.le_of_succ_le_succ h) t q.1, ok_mono (Nat.le_of_succ_le_succ h) u q.2⟩
theorem r_rule (B : List Tab) (hB : ∀ t ∈ B, t.bare ∧ t.cols ≠ []) (hne : B ≠ []) (t : Tab) (ht : t ∈ B) (n : Nat) (a : Int) (ha : 0 ≤ a) :
    ∃ r : Rl, run T G (n + 5) "_law_rule" [.lst (B.map Tab.d), t.d, .int a] = .ok r.pre ∧ r.ok B t := by
  suffices h : Wp (run T G (n + 5) "_law_rule" [.lst (B.map Tab.d), t.d, .int a]) (fun d => ∃ r : Rl, d = r.pre ∧ r.ok B t) E0 by
    obtain ⟨d, h1, r, rfl, h2⟩ := h.ok_of
    exact ⟨r, h1, h2⟩
  rw [u__law_rule]
  obtain ⟨u, hu, hum⟩ := nth_mod (i := a / 8) hne
  have hp : 0 < B.length := List.length_pos_iff.mpr hne
  obtain ⟨bu, _⟩ := hB u hum
  obtain ⟨bt, tne⟩ := hB t ht
  obtain ⟨F, hF, hF2⟩ := r_pairs t bt.few bt.nd (n + 3) (u.key.map u.kindOf) (by simpa using bu.keyL)
  have hu' : nth (B.map Tab.d) (a / 8 % (B.length : Int)) = some u.d := by rw [nth_map, hu]; rfl
  simp [hu', hp, Tab.d]
  rw [mapR_eq (g := D.str) (h := fun k => .str (kindT (u.kindOf k))) ?hk]
  case hk =>
    intro k hk
    have ke := bu.keyC k hk
    refine wp_eq ?_
    simp
    rw [filR_eq (g := Col.d) (p := fun c => decide (c.name = k)) (h := fun c => .str (kindT c.text)) (fun c _ => by simp [Col.d]) (fun c _ _ => by simp [Col.d])]
    obtain ⟨r, hr⟩ := kinds_ev bu ⟨_, ke.choose_spec.1, ke.choose_spec.2.1⟩
    simp [hr]
  simp only [Tab.d] at hF
  rw [List.map_map] at hF
  have hF' : run T G (n + 4) "_law_pairs" [D.tup [.str t.name, .tup (t.cols.map Col.d), .tup (txs t.key), .tup (t.rules.map Rl.d)], .lst (u.key.map fun k => .str (kindT (u.kindOf k)))] = .ok (.lst (F.map fun l => .tup (txs l))) := hF
  have hnames : mapR (fun x => ixD x (D.int 0)) (t.cols.map Col.d) = .ok (txs t.names) := by
    rw [mapR_eq (g := Col.d) (h := fun c => .str c.name) (fun c _ => by simp [Col.d])]
    simp [txs, Tab.names]
  have tail : Wp (mapR (fun x => ixD x (D.int 0)) (List.map Col.d t.cols))
        (fun a_2 =>
          (a % 8 = 5 →
              0 < a_2.length ∧
                (cut a_2 (some (a / 64 % ↑a_2.length)) none).length +
                      (cut a_2 none (some (a / 64 % ↑a_2.length))).length ≤
                    SZ ∧
                  ∃ r : Rl,
                    D.tup
                          [D.str (tx "unlike"),
                            D.lst
                              (cut
                                (cut a_2 (some (a / 64 % ↑a_2.length)) none ++
                                  cut a_2 none (some (a / 64 % ↑a_2.length)))
                                none (some (1 + a / 1024 % 2)))] =
                        r.pre ∧
                      Rl.ok B t r) ∧
            (¬a % 8 = 5 →
              Wp
                (run T G (n + 4) "_law_test"
                  [D.tup
                      [D.str t.name, D.tup (List.map Col.d t.cols), D.tup (txs t.key), D.tup (List.map Rl.d t.rules)],
                    D.int (a / 64), D.int (1 + a / 1024 % 3)])
                (fun a => ∃ r : Rl, D.tup [D.str (tx "check"), a] = r.pre ∧ Rl.ok B t r) E0))
        E0 := by
    rw [hnames, wp_ok]
    have hl : (txs t.names).length = t.cols.length := by simp [txs, Tab.names]
    have hp : 0 < t.cols.length := List.length_pos_iff.mpr tne
    have hf := bt.few
    rw [hl]
    refine ⟨fun _ => ⟨hp, ?_, ?_⟩, fun _ => ?_⟩
    · rw [cut_loI (Int.emod_nonneg _ (by omega)), cut_hiI (Int.emod_nonneg _ (by omega))]
      have := len_cut (l := txs t.names) (k := (a / 64 % (t.cols.length : Int)).toNat)
      rw [List.length_append, hl] at this
      rw [this]
      unfold SZ
      omega
    · rw [cut_loI (Int.emod_nonneg _ (by omega)), cut_hiI (Int.emod_nonneg _ (by omega)), cut_hiI (by omega)]
      refine ⟨.unlike ((t.names.drop (a / 64 % (t.cols.length : Int)).toNat ++ t.names.take (a / 64 % (t.cols.length : Int)).toNat).take (1 + a / 1024 % 2).toNat), ?_, ?_, ?_, ?_, ?_⟩
      · simp [Rl.pre, txs, List.map_take, List.map_drop]
      · intro z
        have := congrArg List.length z
        have hn : t.names.length = t.cols.length := by simp [Tab.names]
        rw [List.length_take, len_cut, hn] at this
        simp only [List.length_nil] at this
        omega
      · rw [List.length_take]
        omega
      · exact (nodup_cut bt.nd _).sublist (List.take_sublist _ _)
      · intro m hm
        exact mem_cut.mp (List.mem_of_mem_take hm)
    · obtain ⟨k, hk, hk2⟩ : ∃ k : Nat, 1 + a / 1024 % 3 = (k : Int) + 1 ∧ k ≤ 2 := ⟨(a / 1024 % 3).toNat, by omega, by omega⟩
      obtain ⟨w, e1, e2⟩ := r_test t tne k (n + 2 - k) (a / 64) (by omega)
      have en : n + 2 - k + k + 2 = n + 4 := by omega
      rw [en] at e1
      simp only [Tab.d] at e1
      rw [hk, e1, wp_ok]
      exact ⟨.check w, rfl, ok_mono (by omega) w e2⟩
  simp [hF']
  refine ⟨fun h5 => ⟨plains_map (f := fun l => D.tup (txs l)) (fun l => strs_plain) F, fun hn => ?_, fun _ => tail⟩, fun _ => tail⟩
  have hFne : F ≠ [] := fun z => by
    rw [z] at hn
    cases hn
  obtain ⟨l, hl1, hl2⟩ := nth_mod (i := a / 64) hFne
  obtain ⟨w, hw1, hw2⟩ := nth6t (l := [tx "along", tx "stop", tx "late", tx "gap", tx "along", tx "gap"]) rfl (a / 1024)
  have pk := hF2 l hl2
  refine ⟨List.length_pos_iff.mpr hFne, .tup (txs l), by rw [nth_map, hl1]; rfl, .str w, hw1, ?_⟩
  rw [filR_eq (g := Col.d) (p := fun c => decide (c.name ∈ l) && !c.gap) (h := Col.d) ?hc (fun c _ _ => rfl)]
  case hc =>
    intro c _
    refine ev_and_eq (x := decide (c.name ∈ l)) (y := !c.gap) ?_ fun _ => ?_
    · simp [Col.d, strs_any', strs_plain]
    · simp [Col.d]
  have hw3 : w ∈ [tx "stop", tx "late", tx "along", tx "gap"] := by
    simp only [List.mem_cons, List.not_mem_nil, or_false] at hw2 ⊢
    rcases hw2 with h | h | h | h | h | h <;> simp [h]
  have mk : ∀ w' : Txt, w' ∈ [tx "stop", tx "late", tx "along", tx "gap"] → (w' = tx "gap" → ∀ x ∈ t.cols, x.name ∈ l → x.gap = true) → ∃ r : Rl, D.tup [D.str (tx "refers"), D.tup (txs l), D.str u.name, D.str w'] = r.pre ∧ Rl.ok B t r := by
    intro w' h1 h2
    refine ⟨.refers l u.name w', rfl, u, hum, rfl, ?_, pk.nd, pk.mem, ?_, h1, h2⟩
    · have := congrArg List.length pk.kinds
      simpa [Tab.kinds] using this
    · rw [pk.kinds, kinds_of bu]
      intro k hk
      obtain ⟨c, h1, h2, _⟩ := bu.keyC k hk
      exact ⟨c, h1, h2⟩
  rw [wp_ok]
  refine ⟨plains_map (f := Col.d) (fun c => rfl) _, fun hs => ⟨rfl, fun _ => mk _ (by simp) (fun z => absurd z (by decide)), fun hg => mk w hw3 fun z => ?_⟩, fun hs => mk w hw3 fun _ c hc hcl => ?_⟩
  · rw [z] at hg
    simp at hg
  · rw [eqDs_nil] at hs
    have : c ∉ t.cols.filter fun c => decide (c.name ∈ l) && !c.gap := by
      intro z
      have e : t.cols.filter (fun c => decide (c.name ∈ l) && !c.gap) = [] := by simpa using hs
      rw [e] at z
      cases z
    rw [List.mem_filter] at this
    cases hg : c.gap with
    | true => rfl
    | false => exact absurd ⟨hc, by simp [hcl, hg]⟩ this

theorem tuple_tst {t : Tst} : b1D .tuple t.d = .ok t.d := by cases t <;> rfl
theorem zip_fst {α : Type} : ∀ {l : List α} {n : Nat}, (l.zipIdx n).map (·.1) = l
  | [], _ => rfl
  | x :: l, n => by rw [List.zipIdx_cons, List.map_cons, zip_fst]
theorem bare_ne {t : Tab} (b : t.bare) : t.cols ≠ [] := by
  intro z
  cases hk : t.key with
  | nil => exact b.keyN hk
  | cons k r =>
    obtain ⟨c, hc, _⟩ := b.keyC k (by rw [hk]; exact List.mem_cons_self)
    rw [z] at hc
    cases hc
theorem pre_some {r : Rl} : Wp (ixD r.pre (.int 0)) (fun a => Wp (ixD r.pre (.int 1)) (fun b => Wp (b1D .tuple b) (fun c => Wp (slD r.pre (some 2) none) (fun d => Wp (bopD .add (.tup [a, c]) d) (fun e => e = r.d) E0) E0) E0) E0) E0 := by
  cases r <;> simp [Rl.pre, Rl.d, tuple_tst] <;> decide
theorem rl_ok_trans {B S : List Tab} {t t' : Tab} (hB : ∀ u ∈ B, ∃ v ∈ S, v.name = u.name ∧ v.cols = u.cols ∧ v.key = u.key) (h : t'.cols = t.cols) (r : Rl) (o : r.ok B t) : r.ok S t' := by
  have hn : t'.names = t.names := by simp [Tab.names, h]
  have hk : ∀ l, t'.kinds l = t.kinds l := fun l => by simp [Tab.kinds, h]
  cases r with
  | refers c g w =>
    obtain ⟨u, h1, h2, h3, h4, h5, h6, h7, h8⟩ := o
    obtain ⟨v, g1, g2, g3, g4⟩ := hB u h1
    refine ⟨v, g1, by rw [g2, h2], by rw [g4, h3], h4, fun n hn' => by rw [hn]; exact h5 n hn', ?_, h7, fun e x hx => h8 e x (by rw [← h]; exact hx)⟩
    rw [hk, h6, g4]
    simp [Tab.kinds, g3]
  | unlike c =>
    obtain ⟨h1, h2, h3, h4⟩ := o
    exact ⟨h1, h2, h3, fun n hn' => by rw [hn]; exact h4 n hn'⟩
  | check t => 
    show t.ok t'.cols 3
    rw [h]
    exact o
theorem r_schema3 (n : Nat) (a : Int) (ha : 0 ≤ a) : ∃ S : List Tab, run T G (n + 6) "_law_schema" [.int a] = .ok (schD S) ∧ SchOk S ∧ ∀ t ∈ S, t.rules.length ≤ 3 := by
  suffices h : Wp (run T G (n + 6) "_law_schema" [.int a]) (fun d => ∃ S : List Tab, d = schD S ∧ SchOk S ∧ ∀ t ∈ S, t.rules.length ≤ 3) E0 by
    obtain ⟨d, h1, S, rfl, h2⟩ := h.ok_of
    exact ⟨S, h1, h2⟩
  rw [u__law_schema]
  let N0 : List Txt := [tx "item", tx "user", tx "box", tx "log"]
  obtain ⟨d, hd, hdm⟩ := nth6 (l := [D.int 2, .int 1, .int 3, .int 4, .int 2, .int 3]) rfl (a / 4)
  obtain ⟨k, rfl, k1, k2⟩ : ∃ k : Nat, d = .int k ∧ 1 ≤ k ∧ k ≤ 4 := by
    simp only [List.mem_cons, List.not_mem_nil, or_false] at hdm
    rcases hdm with rfl | rfl | rfl | rfl | rfl | rfl
    · exact ⟨2, rfl, by decide, by decide⟩
    · exact ⟨1, rfl, by decide, by decide⟩
    · exact ⟨3, rfl, by decide, by decide⟩
    · exact ⟨4, rfl, by decide, by decide⟩
    · exact ⟨2, rfl, by decide, by decide⟩
    · exact ⟨3, rfl, by decide, by decide⟩
  have hby : 0 ≤ a % 4 := by omega
  obtain ⟨N, hN, hN1, hN2, hN3, hN4⟩ : ∃ N : List Txt, cut (cut (txs N0) (some (a % 4)) none ++ cut (txs N0) none (some (a % 4))) none (some (k : Int)) = txs N ∧ N.Nodup ∧ N ≠ [] ∧ N.length ≤ 4 ∧ ∀ x ∈ N, x.length ≤ 4 := by
    rw [cut_loI hby, cut_hiI hby, cut_hi]
    refine ⟨(N0.drop (a % 4).toNat ++ N0.take (a % 4).toNat).take k, by simp [txs, List.map_take, List.map_drop], ?_, ?_, ?_, ?_⟩
    · exact (nodup_cut (by decide) _).sublist (List.take_sublist _ _)
    · intro z
      have := congrArg List.length z
      rw [List.length_take, len_cut] at this
      have h4 : N0.length = 4 := rfl
      rw [h4] at this
      simp only [List.length_nil] at this
      omega
    · rw [List.length_take]
      omega
    · intro x hx
      have := mem_cut.mp (List.mem_of_mem_take hx)
      simp [N0] at this
      rcases this with rfl | rfl | rfl | rfl <;> decide
  have hcl : (cut (txs N0) (some (a % 4)) none).length + (cut (txs N0) none (some (a % 4))).length ≤ SZ := by
    rw [cut_loI hby, cut_hiI hby]
    have := len_cut (l := txs N0) (k := (a % 4).toNat)
    rw [List.length_append] at this
    rw [this]
    decide
  simp only [N0, List.map_cons, List.map_nil, txs] at hN hcl
  simp [hd, hcl, hN]
  rw [enumD_map (f := D.str)]
  obtain ⟨B, hB, hB2⟩ := wp_mapR (α := Txt × Nat) (β := Tab) (g := fun p => D.tup [D.int p.2, D.str p.1]) (h := Tab.d) (P := fun p t => t.bare ∧ t.name = p.1 ∧ t.rules = []) (L := N.zipIdx 0)
    (f := fun x => do
        let ρ1 ← bindT (MT.tp [4, 5]) x [some (D.int a), some (D.lst (List.map D.str N)), some (D.int (a % 4)), none, none, none, none, none, none, none, none, none, none]
        let ds ← (do
            let x ← ρ1.get 5
            let xs ← (do
                let x ← (do
                    let x ← (do
                        let ds ← (do
                            let x ← ρ1.get 0
                            let xs ← (do
                                let x ← ρ1.get 4
                                Res.ok [x])
                            Res.ok (x :: xs))
                        run T G (n + 5) "_law_drawn" ds)
                    bopD Bop.fdiv x (D.int 4))
                Res.ok [x])
            Res.ok (x :: xs))
        run T G (n + 5) "_law_bare" ds) (fun p _ => by
      obtain ⟨i, h0, hi, h4⟩ := r_drawn4 (n + 4) a p.2
      obtain ⟨t, ht, h5⟩ := r_bare (n + 3) p.1 (i / 4) h4
      simp [hi, ht]
      exact ⟨t, rfl, h5⟩)
  rw [hB, wp_ok, enumD_map (f := Tab.d)]
  have hBN : B.map Tab.name = N := by
    have := All2.maps (f := fun p : Txt × Nat => p.1) (g := Tab.name) (fun x y h => h.2.1.symm) hB2
    rw [← this]
    exact zip_fst
  have hBl : B.length = N.length := by rw [← hBN, List.length_map]
  have hBa : ∀ t ∈ B, t.bare ∧ t.rules = [] := fun t ht => by
    obtain ⟨p, _, h⟩ := hB2.right t ht
    exact ⟨h.1, h.2.2⟩
  have hBb : ∀ t ∈ B, t.bare ∧ t.cols ≠ [] := fun t ht => ⟨(hBa t ht).1, bare_ne (hBa t ht).1⟩
  have hBne : B ≠ [] := fun z => by
    rw [z] at hBl
    exact hN2 (List.eq_nil_of_length_eq_zero hBl.symm)
  refine wp_for (fun done ρ => ∃ (S : List Tab) (e4 e5 e7 e8 e9 e10 e11 e12 : Option D), ρ = [some (.int a), some (.lst (N.map D.str)), some (.int (a % 4)), some (.lst (B.map Tab.d)), e4, e5, some (.tup (S.map Tab.d)), e7, e8, e9, e10, e11, e12] ∧
      All2 (fun (p : Tab × Nat) t => ∃ R : List Rl, t = { p.1 with rules := R } ∧ R.length ≤ 3 ∧ ∀ r ∈ R, r.ok B p.1) done S) ?_ ?_ ?_
  · exact ⟨[], none, none, none, none, none, none, none, none, rfl, .nil⟩
  · rintro done ⟨t, j⟩ todo ρ hL ⟨S, e4, e5, e7, e8, e9, e10, e11, e12, rfl, hS⟩
    have ht : t ∈ B := by
      have h1 := congrArg (List.map fun p : Tab × Nat => p.1) hL
      rw [zip_fst] at h1
      rw [h1]
      simp
    obtain ⟨hbt, hrt⟩ := hBa t ht
    obtain ⟨i, h0, hi, h4⟩ := r_drawn4 (n + 4) a (20 + j)
    obtain ⟨m, hm, hm3⟩ : ∃ m : Nat, nth [D.int 1, D.int 2, D.int 0, D.int 1, D.int 3] (i / 4 % 5) = some (.int m) ∧ m ≤ 3 := by
      obtain ⟨x, hx, hxm⟩ := nth_in (l := [D.int 1, D.int 2, D.int 0, D.int 1, D.int 3]) (Int.emod_nonneg (i / 4) (by decide : (5 : Int) ≠ 0)) (Int.emod_lt_of_pos _ (by decide))
      simp only [List.mem_cons, List.not_mem_nil, or_false] at hxm
      rcases hxm with rfl | rfl | rfl | rfl | rfl
      · exact ⟨1, hx, by decide⟩
      · exact ⟨2, hx, by decide⟩
      · exact ⟨0, hx, by decide⟩
      · exact ⟨1, hx, by decide⟩
      · exact ⟨3, hx, by decide⟩
    simp [hi, hm, rangeD_map]
    refine ⟨by unfold SZ; omega, ?_⟩
    refine wp_for (α := Nat) (g := fun (i : Nat) => D.int (i : Int)) (fun dn ρ => ∃ (R : List Rl) (e10 : Option D), ρ = [some (.int a), some (.lst (N.map D.str)), some (.int (a % 4)), some (.lst (B.map Tab.d)), some (.int j), e5, some (.tup (S.map Tab.d)), some t.d, some (.int (i / 4)), some (.lst (R.map Rl.pre)), e10, e11, e12] ∧
      R.length = dn.length ∧ ∀ r ∈ R, r.ok B t) ?_ ?_ ?_
    · exact ⟨[], e10, rfl, rfl, fun r hr => (by cases hr)⟩
    · rintro dn x td ρ hL2 ⟨R, e10, rfl, hR1, hR2⟩
      obtain ⟨i2, h20, hi2, h24⟩ := r_drawn4 (n + 4) (i / 4) x
      obtain ⟨r, hr, hrok⟩ := r_rule B hBb hBne t ht n (i2 / 4) h24
      have hdl : dn.length ≤ 3 := by
        have := congrArg List.length hL2
        simp at this
        omega
      simp [hi2, hr]
      refine ⟨by unfold SZ; omega, R ++ [r], by simp, by simp [hR1], fun r' hr' => ?_⟩
      rcases List.mem_append.mp hr' with h | h
      · exact hR2 r' h
      · simp at h
        rw [h]
        exact hrok
    · rintro ρ ⟨R, e10, rfl, hR1, hR2⟩
      simp
      rw [mapR_eq (g := Rl.pre) (h := Rl.d) ?hr]
      case hr =>
        intro r _
        refine wp_eq ?_
        have := pre_some (r := r)
        simp at this ⊢
        exact this
      rw [wp_ok]
      have hrl : R.length ≤ 3 := by simp at hR1; omega
      have hSl : S.length ≤ 4 := by
        rw [← hS.len]
        have := congrArg List.length hL
        simp at this
        omega
      simp [Tab.d]
      refine ⟨by decide, by unfold SZ; omega, S ++ [{ t with rules := R }], by simp [Tab.d], hS.snoc ⟨R, rfl, hrl, hR2⟩⟩
  · rintro ρ ⟨S, e4, e5, e7, e8, e9, e10, e11, e12, rfl, hS⟩
    simp
    have hBS : ∀ u ∈ B, ∃ v ∈ S, v.name = u.name ∧ v.cols = u.cols ∧ v.key = u.key := fun u hu => by
      have : u ∈ (B.zipIdx 0).map (·.1) := by rw [zip_fst]; exact hu
      obtain ⟨p, hp, rfl⟩ := List.mem_map.mp this
      obtain ⟨v, hv, R, rfl, _⟩ := hS.left p hp
      exact ⟨_, hv, rfl, rfl, rfl⟩
    have hSB : ∀ v ∈ S, ∃ u ∈ B, v.name = u.name ∧ v.cols = u.cols ∧ v.key = u.key ∧ v.rules.length ≤ 3 ∧ ∀ r ∈ v.rules, r.ok B u := fun v hv => by
      obtain ⟨p, hp, R, rfl, h1, h2⟩ := hS.right v hv
      have : p.1 ∈ B := by
        have : p.1 ∈ (B.zipIdx 0).map (·.1) := List.mem_map.mpr ⟨p, hp, rfl⟩
        rw [zip_fst] at this
        exact this
      exact ⟨p.1, this, rfl, rfl, rfl, h1, h2⟩
    have hSN : S.map Tab.name = N := by
      have := All2.maps (f := fun p : Tab × Nat => p.1.name) (g := Tab.name) (fun x y h => by obtain ⟨R, rfl, _⟩ := h; rfl) hS
      rw [← this, ← hBN]
      have e : (fun p : Tab × Nat => p.1.name) = Tab.name ∘ (fun p : Tab × Nat => p.1) := rfl
      rw [e, ← List.map_map, zip_fst]
    have hSl : S.length = N.length := by rw [← hSN, List.length_map]
    have h33 : ∀ t ∈ S, t.rules.length ≤ 3 := fun t ht => by
      obtain ⟨u, hu, h1, h2, h3, h4, _⟩ := hSB t ht
      exact h4
    refine ⟨S, rfl, ⟨by omega, fun z => ?_, by rw [hSN]; exact hN1, fun t ht => ?_, fun t ht => ?_, fun t ht => ?_, fun t ht r hr => ?_⟩, h33⟩
    · rw [z] at hSl
      exact hN2 (List.eq_nil_of_length_eq_zero hSl.symm)
    · have : t.name ∈ S.map Tab.name := List.mem_map.mpr ⟨t, ht, rfl⟩
      rw [hSN] at this
      exact hN4 _ this
    · obtain ⟨u, hu, h1, h2, h3, _⟩ := hSB t ht
      obtain ⟨b1, b2, b3, b4, b5, b6, b7⟩ := (hBa u hu).1
      exact ⟨by rw [h2]; exact b1, by unfold Tab.names; rw [h2]; exact b2, by rw [h2]; exact b3, by rw [h3]; exact b4, by rw [h3]; exact b5, by rw [h3]; exact b6, by rw [h2, h3]; exact b7⟩
    · obtain ⟨u, hu, h1, h2, h3, h4, _⟩ := hSB t ht
      exact Nat.le_trans h4 (by decide)
    · obtain ⟨u, hu, h1, h2, h3, h4, h5⟩ := hSB t ht
      exact rl_ok_trans hBS h2 r (h5 r hr)
theorem r_schema (n : Nat) (a : Int) (ha : 0 ≤ a) : ∃ S : List Tab, run T G (n + 6) "_law_schema" [.int a] = .ok (schD S) ∧ SchOk S := by
  obtain ⟨S, h1, h2, _⟩ := r_schema3 n a ha
  exact ⟨S, h1, h2⟩
end Law
namespace Law
open Dt
/-! ### rows -/
def rowD (r : List Worth) : D := .tup (r.map Worth.d)
def wOk (c : Col) : Worth → Prop
  | .gap => c.gap = true
  | .num i => c.text = false ∧ -1000 ≤ i ∧ i ≤ 1000
  | .txt s => c.text = true ∧ s.length ≤ 6
def rowOk (t : Tab) (r : List Worth) : Prop := All2 wOk t.cols r
theorem nth8 {l : List D} (h : l.length = 8) (i : Int) : ∃ d, nth l (i % 8) = some d ∧ d ∈ l :=
  nth_in (l := l) (Int.emod_nonneg i (by decide : (8 : Int) ≠ 0)) (by rw [h]; exact Int.emod_lt_of_pos i (by decide))
theorem r_worth (n : Nat) (c : Col) (a : Int) : ∃ w : Worth, run T G (n + 1) "_law_worth" [c.d, .int a] = .ok w.d ∧ wOk c w := by
  suffices h : Wp (run T G (n + 1) "_law_worth" [c.d, .int a]) (fun d => ∃ w : Worth, d = w.d ∧ wOk c w) E0 by
    obtain ⟨d, h1, w, rfl, h2⟩ := h.ok_of
    exact ⟨w, h1, h2⟩
  rw [u__law_worth]
  have rest : (kindT c.text = tx "text" → ∃ a_4, nth [D.str (tx "a"), D.str (tx "b"), D.str (tx ""), D.str (tx "ab"), D.str (tx "a"), D.str (tx "x9")] (a / 4 % 6) = some a_4 ∧ ∃ w : Worth, a_4 = w.d ∧ wOk c w) ∧
      (¬kindT c.text = tx "text" → ∃ a_4, nth [D.int 0, D.int 1, D.int 2, D.int 3, D.int 1, D.int 2, D.int 4, D.int (-5)] (a / 4 % 8) = some a_4 ∧ ∃ w : Worth, a_4 = w.d ∧ wOk c w) := by
    refine ⟨fun h => ?_, fun h => ?_⟩
    · obtain ⟨d, h1, h2⟩ := nth6 (l := [D.str (tx "a"), D.str (tx "b"), D.str (tx ""), D.str (tx "ab"), D.str (tx "a"), D.str (tx "x9")]) rfl (a / 4)
      refine ⟨d, h1, ?_⟩
      have ht := kind_plain.mp h
      simp only [List.mem_cons, List.not_mem_nil, or_false] at h2
      rcases h2 with rfl | rfl | rfl | rfl | rfl | rfl <;> exact ⟨.txt _, rfl, ht, by decide⟩
    · obtain ⟨d, h1, h2⟩ := nth8 (l := [D.int 0, D.int 1, D.int 2, D.int 3, D.int 1, D.int 2, D.int 4, D.int (-5)]) rfl (a / 4)
      refine ⟨d, h1, ?_⟩
      have ht : c.text = false := by
        cases hc : c.text with
        | false => rfl
        | true => exact absurd (kind_plain.mpr hc) h
      simp only [List.mem_cons, List.not_mem_nil, or_false] at h2
      rcases h2 with rfl | rfl | rfl | rfl | rfl | rfl | rfl | rfl <;> exact ⟨.num _, rfl, ht, by decide, by decide⟩
  simp [Col.d]
  refine ⟨fun hg => ⟨fun _ => ⟨.gap, rfl, hg⟩, fun _ => rest⟩, fun _ => rest⟩
theorem All2.unzip {α β : Type} {P : α → β → Prop} : ∀ {l : List α} {n : Nat} {m : List β}, All2 (fun (p : α × Nat) y => P p.1 y) (l.zipIdx n) m → All2 P l m
  | [], _, _, h => by cases h; exact .nil
  | x :: l, n, _, h => by
    rw [List.zipIdx_cons] at h
    cases h with
    | cons a r => exact .cons a (Law.All2.unzip r)
theorem r_row (n : Nat) (t : Tab) (a : Int) : ∃ r : List Worth, run T G (n + 2) "_law_row" [t.d, .int a] = .ok (rowD r) ∧ rowOk t r := by
  suffices h : Wp (run T G (n + 2) "_law_row" [t.d, .int a]) (fun d => ∃ r : List Worth, d = rowD r ∧ rowOk t r) E0 by
    obtain ⟨d, h1, w, rfl, h2⟩ := h.ok_of
    exact ⟨w, h1, h2⟩
  rw [u__law_row]
  simp [Tab.d]
  rw [enumD_map (f := Col.d)]
  refine wp_mapRQ (h := Worth.d) (P := fun p w => wOk p.1 w) (fun p _ => ?_) fun ys h2 => ⟨ys, rfl, All2.unzip h2⟩
  obtain ⟨i, _, hi, _⟩ := r_drawn4 n a p.2
  obtain ⟨w, hw, hw2⟩ := r_worth n p.1 (i / 4)
  simp [hi, hw]
  exact ⟨w, rfl, hw2⟩
end Law
namespace Law
open Dt
/-! ### what a row holds under a name; tests of rows -/
def ixOf (x : Txt) : List Txt → Nat
  | [] => 0
  | y :: l => if y = x then 0 else ixOf x l + 1
theorem ixOf_lt {x : Txt} : ∀ {l : List Txt}, x ∈ l → ixOf x l < l.length
  | y :: l, h => by
    unfold ixOf
    by_cases e : y = x
    · rw [if_pos e]
      simp
    · rw [if_neg e]
      have : x ∈ l := by
        rcases List.mem_cons.mp h with h | h
        · exact absurd h.symm e
        · exact h
      have := ixOf_lt this
      simp only [List.length_cons]
      omega
theorem ixOf_get {x : Txt} : ∀ {l : List Txt}, x ∈ l → l[ixOf x l]? = some x
  | y :: l, h => by
    unfold ixOf
    by_cases e : y = x
    · rw [if_pos e, e]
      rfl
    · rw [if_neg e]
      have : x ∈ l := by
        rcases List.mem_cons.mp h with h | h
        · exact absurd h.symm e
        · exact h
      simpa using ixOf_get this
theorem index_txs {x : Txt} : ∀ {l : List Txt} {k : Nat}, x ∈ l → indexOf (.str x) k (txs l) = some (k + ixOf x l)
  | y :: l, k, h => by
    show (if eqD (.str y) (.str x) then some k else indexOf (.str x) (k + 1) (txs l)) = _
    unfold ixOf
    by_cases e : y = x
    · simp [e]
    · have : x ∈ l := by
        rcases List.mem_cons.mp h with h | h
        · exact absurd h.symm e
        · exact h
      simp [e]
      rw [index_txs this]
      congr 1
      omega
theorem txs_deps {l : List Txt} : D.deps (txs l) ≤ 60 := Nat.le_trans (deps_map (n := 0) (fun _ => Nat.le_refl _) l) (by decide)
/-- what a row holds under a name -/
def Tab.at (t : Tab) (r : List Worth) (n : Txt) : Worth := (r[ixOf n t.names]?).getD .gap
theorem row_len {t : Tab} {r : List Worth} (h : rowOk t r) : t.names.length = r.length := by
  have := h.len
  simpa [Tab.names] using this
theorem All2.at {α β : Type} {P : α → β → Prop} : ∀ {l : List α} {m : List β} {i : Nat} {x : α}, All2 P l m → l[i]? = some x → ∃ y, m[i]? = some y ∧ P x y
  | _, _, i, x, .nil, h => by simp at h
  | _, _, 0, x, .cons a r, h => by
    simp at h
    subst h
    exact ⟨_, rfl, a⟩
  | _, _, i + 1, x, .cons a r, h => by
    obtain ⟨y, h1, h2⟩ := Law.All2.at r (show _ = some x by simpa using h)
    exact ⟨y, by simpa using h1, h2⟩
theorem at_ok {t : Tab} {r : List Worth} (h : rowOk t r) {n : Txt} (hn : n ∈ t.names) : r[ixOf n t.names]? = some (t.at r n) ∧ ∃ c ∈ t.cols, c.name = n ∧ wOk c (t.at r n) := by
  have g := ixOf_get hn
  have hc : ∃ c, t.cols[ixOf n t.names]? = some c ∧ c.name = n := by
    unfold Tab.names at g ⊢
    rw [List.getElem?_map] at g
    cases hq : t.cols[ixOf n (t.cols.map Col.name)]? with
    | none => rw [hq] at g; cases g
    | some c =>
      rw [hq] at g
      exact ⟨c, rfl, by simpa using g⟩
  obtain ⟨c, h1, h2⟩ := hc
  obtain ⟨w, h3, h4⟩ := Law.All2.at h h1
  have e : t.at r n = w := by
    unfold Tab.at
    rw [h3]
    rfl
  rw [e]
  exact ⟨h3, c, List.mem_of_getElem? h1, h2, h4⟩
theorem nth_row {t : Tab} {r : List Worth} (h : rowOk t r) {n : Txt} (hn : n ∈ t.names) : nth (r.map Worth.d) ((ixOf n t.names : Nat) : Int) = some (t.at r n).d := by
  rw [nth_map, nth_nat, (at_ok h hn).1]
  rfl
theorem names_ev {t : Tab} {E : Ex → Prop} {Q : List D → Prop} (h : Q (txs t.names)) {f : D → Res D} (hf : ∀ c ∈ t.cols, f c.d = .ok (.str c.name)) : Wp (mapR f (t.cols.map Col.d)) Q E := by
  rw [mapR_eq (g := Col.d) (h := fun c => .str c.name) hf, wp_ok]
  have : (t.cols.map fun c => D.str c.name) = txs t.names := by simp [txs, Tab.names]
  rw [this]
  exact h
def cmpEq (a b : Worth) : Option Bool := if a = .gap ∨ b = .gap then none else some (decide (a = b))
def wLt : Worth → Worth → Bool
  | .num i, .num j => decide (i < j)
  | .txt i, .txt j => decide (i < j)
  | _, _ => false
def cmpLt (a b : Worth) : Option Bool := if a = .gap ∨ b = .gap then none else some (wLt a b)
def and3 (a b : Option Bool) : Option Bool := if a = some false ∨ b = some false then some false else if a = none ∨ b = none then none else some true
def or3 (a b : Option Bool) : Option Bool := if a = some true ∨ b = some true then some true else if a = none ∨ b = none then none else some false
/-- a test of a row: some true, some false, open -/
def Tst.val (t : Tab) (r : List Worth) : Tst → Option Bool
  | .eq c w => cmpEq (t.at r c) w
  | .lt a b => cmpLt (t.at r a) (t.at r b)
  | .emp a => some (decide (t.at r a = .gap))
  | .neg u => (u.val t r).map not
  | .both u v => and3 (u.val t r) (v.val t r)
  | .either u v => or3 (u.val t r) (v.val t r)
def ob : Option Bool → D
  | none => .non
  | some b => .bl b
@[simp] theorem worth_plain {w : Worth} : w.d.plain = true := by cases w <;> rfl
@[simp] theorem worth_dep {w : Worth} : w.d.dep = 0 := by cases w <;> rfl
@[simp] theorem worth_non {w : Worth} : isNonD w.d = decide (w = .gap) := by cases w <;> simp [Worth.d]
@[simp] theorem worth_eq {a b : Worth} : eqD a.d b.d = decide (a = b) := by cases a <;> cases b <;> simp [Worth.d]
@[simp] theorem worth_eqn {a : Worth} : eqD a.d .non = decide (a = .gap) := by cases a <;> simp [Worth.d]
@[simp] theorem worth_eqOk {a b : Worth} : eqOk a.d b.d = true := by simp [eqOk]
theorem r_names_of {t : Tab} (n : Nat) : run T G (n + 1) "names_of" [t.d] = .ok (.lst (txs t.names)) := by
  refine wp_eq ?_
  rw [u_names_of]
  simp [Tab.d]
  exact names_ev (t := t) (Q := fun a => a = txs t.names) rfl fun c _ => by simp [Col.d]
theorem r_place_of {t : Tab} (n : Nat) {x : Txt} (h : x ∈ t.names) : run T G (n + 2) "place_of" [t.d, .str x] = .ok (.int (ixOf x t.names : Nat)) := by
  refine wp_eq ?_
  rw [u_place_of]
  simp [r_names_of, strs_plain]
  refine ⟨txs_deps, _, index_txs h, by simp⟩
theorem r_compared_eq (n : Nat) (a b : Worth) : run T G (n + 1) "compared" [.str (tx "is"), a.d, b.d] = .ok (ob (cmpEq a b)) := by
  refine wp_eq ?_
  rw [u_compared]
  cases a <;> cases b <;> simp [Worth.d, cmpEq, ob]
theorem r_compared_lt (n : Nat) (a b : Worth) (h : a = .gap ∨ b = .gap ∨ (∃ i j, a = .num i ∧ b = .num j) ∨ ∃ i j, a = .txt i ∧ b = .txt j) : run T G (n + 1) "compared" [.str (tx "below"), a.d, b.d] = .ok (ob (cmpLt a b)) := by
  refine wp_eq ?_
  rw [u_compared]
  rcases h with rfl | rfl | ⟨i, j, rfl, rfl⟩ | ⟨i, j, rfl, rfl⟩
  · cases b <;> simp [Worth.d, cmpLt, ob]
  · cases a <;> simp [Worth.d, cmpLt, ob]
  · simp [Worth.d, cmpLt, ob, wLt]
  · simp [Worth.d, cmpLt, ob, wLt]
theorem kinds_alike {t : Tab} (b : t.bare) {r : List Worth} (h : rowOk t r) {x y : Col} (hx : x ∈ t.cols) (hy : y ∈ t.cols) (e : x.text = y.text) :
    t.at r x.name = .gap ∨ t.at r y.name = .gap ∨ (∃ i j, t.at r x.name = .num i ∧ t.at r y.name = .num j) ∨ ∃ i j, t.at r x.name = .txt i ∧ t.at r y.name = .txt j := by
  have nx : x.name ∈ t.names := List.mem_map.mpr ⟨x, hx, rfl⟩
  have ny : y.name ∈ t.names := List.mem_map.mpr ⟨y, hy, rfl⟩
  obtain ⟨_, c, hc, e1, w1⟩ := at_ok h nx
  obtain ⟨_, d, hd, e2, w2⟩ := at_ok h ny
  have ec : c = x := by
    have f1 := find_col b.nd hc
    have f2 := find_col b.nd hx
    rw [e1, f2] at f1
    exact (Option.some.inj f1).symm
  have ed : d = y := by
    have f1 := find_col b.nd hd
    have f2 := find_col b.nd hy
    rw [e2, f2] at f1
    exact (Option.some.inj f1).symm
  subst ec ed
  generalize t.at r c.name = v at *
  generalize t.at r d.name = w at *
  cases v with
  | gap => exact .inl rfl
  | num i =>
    cases w with
    | gap => exact .inr (.inl rfl)
    | num j => exact .inr (.inr (.inl ⟨i, j, rfl, rfl⟩))
    | txt s => exact absurd (w1.1.symm.trans (e.trans w2.1)) (by decide)
  | txt s =>
    cases w with
    | gap => exact .inr (.inl rfl)
    | num j => exact absurd (w1.1.symm.trans (e.trans w2.1)) (by decide)
    | txt u => exact .inr (.inr (.inr ⟨s, u, rfl, rfl⟩))
theorem ob_eq_non {x : Option Bool} : isNonD (ob x) = decide (x = none) := by cases x <;> simp [ob]
@[simp] theorem ob_plain {x : Option Bool} : (ob x).plain = true := by cases x <;> rfl
@[simp] theorem ob_bl {x : Option Bool} {b : Bool} : eqD (ob x) (.bl b) = decide (x = some b) := by
  cases x with
  | none => simp [ob]
  | some y => cases y <;> cases b <;> rfl
@[simp] theorem ob_nn {x : Option Bool} : eqD (ob x) .non = decide (x = none) := by cases x <;> simp [ob]
theorem r_holds {t : Tab} (b : t.bare) {r : List Worth} (h : rowOk t r) : ∀ (k n : Nat) (u : Tst), u.ok t.cols k → run T G (n + k + 2) "holds" [t.d, u.d, rowD r] = .ok (ob (u.val t r))
  | 0, _, _, q => by cases q
  | k + 1, n, u, q => by
    refine wp_eq ?_
    have en : n + (k + 1) + 2 = (n + k + 2) + 1 := by omega
    rw [en, u_holds]
    cases u with
    | eq c w =>
      obtain ⟨x, hx, rfl, _⟩ := q
      have nx : x.name ∈ t.names := List.mem_map.mpr ⟨x, hx, rfl⟩
      simp [Tst.d, rowD, r_place_of (n + k) nx, nth_row h nx, r_compared_eq (n + k + 1)]
      rfl
    | lt a c =>
      obtain ⟨x, hx, y, hy, rfl, rfl, e⟩ := q
      have nx : x.name ∈ t.names := List.mem_map.mpr ⟨x, hx, rfl⟩
      have ny : y.name ∈ t.names := List.mem_map.mpr ⟨y, hy, rfl⟩
      simp [Tst.d, rowD, r_place_of (n + k) nx, nth_row h nx, r_place_of (n + k) ny, nth_row h ny, r_compared_lt (n + k + 1) _ _ (kinds_alike b h hx hy e)]
      rfl
    | emp a =>
      obtain ⟨x, hx, rfl⟩ := q
      have nx : x.name ∈ t.names := List.mem_map.mpr ⟨x, hx, rfl⟩
      simp [Tst.d, rowD, r_place_of (n + k) nx, nth_row h nx]
      rfl
    | neg u =>
      have ih := r_holds b h k n u q
      simp only [rowD] at ih
      simp [Tst.d, rowD, ih, ob_eq_non]
      cases hv : u.val t r <;> simp [ob, Tst.val, hv]
    | both u v =>
      have i1 := r_holds b h k n u q.1
      have i2 := r_holds b h k n v q.2
      simp only [rowD] at i1 i2
      simp [Tst.d, rowD, mapR, i1, i2, Tst.val, and3]
      cases u.val t r with
      | none => cases v.val t r with
        | none => simp [ob]
        | some y => cases y <;> simp [ob]
      | some x => cases v.val t r with
        | none => cases x <;> simp [ob]
        | some y => cases x <;> cases y <;> simp [ob]
    | either u v =>
      have i1 := r_holds b h k n u q.1
      have i2 := r_holds b h k n v q.2
      simp only [rowD] at i1 i2
      simp [Tst.d, rowD, mapR, i1, i2, Tst.val, or3]
      cases u.val t r with
      | none => cases v.val t r with
        | none => simp [ob]
        | some y => cases y <;> simp [ob]
      | some x => cases v.val t r with
        | none => cases x <;> simp [ob]
        | some y => cases x <;> cases y <;> simp [ob]

theorem row_non {r : List Worth} : ((r.map Worth.d).any fun y => eqD y .non) = decide (Worth.gap ∈ r) := by
  induction r with
  | nil => rfl
  | cons w r ih =>
    rw [List.map_cons, List.any_cons, ih, worth_eqn]
    by_cases h : w = .gap
    · simp [h]
    · simp [h, Ne.symm h]
theorem in_row_non {r : List Worth} : inD .non (rowD r) = .ok (decide (Worth.gap ∈ r)) := by
  show must (D.non.plain && D.plains (r.map Worth.d) && decide (D.non.dep ≤ 100)) (.ok ((r.map Worth.d).any fun y => eqD y .non)) = _
  rw [row_non, plains_map (f := Worth.d) (fun w => worth_plain)]
  rfl
end Law
namespace Law
open Dt
theorem r_law_names {t : Tab} (n : Nat) : run T G (n + 1) "_law_names" [t.d] = .ok (.lst (txs t.names)) := by
  refine wp_eq ?_
  rw [u__law_names]
  simp [Tab.d]
  exact names_ev (t := t) (Q := fun a => a = txs t.names) rfl fun c _ => by simp [Col.d]
end Law
namespace Law
open Dt
/-! ### keys and stores -/
abbrev Row := List Worth
abbrev Store := List (List Row)
def kD (k : List Worth) : D := .tup (k.map Worth.d)
def rowsD (rs : List Row) : D := .tup (rs.map rowD)
def stD (st : Store) : D := .tup (st.map rowsD)
def Tab.keyOf (t : Tab) (r : Row) : List Worth := t.key.map (t.at r)
/-- a store of rows -/
structure StOk (S : List Tab) (st : Store) : Prop where
  rows : All2 (fun t rs => (∀ r ∈ rs, rowOk t r) ∧ rs.length ≤ 1000) S st
@[simp] theorem tab_0 {t : Tab} : ixD t.d (.int 0) = .ok (.str t.name) := by simp [Tab.d]
@[simp] theorem tab_1 {t : Tab} : ixD t.d (.int 1) = .ok (.tup (t.cols.map Col.d)) := by simp [Tab.d]
@[simp] theorem tab_2 {t : Tab} : ixD t.d (.int 2) = .ok (.tup (t.key.map D.str)) := by simp [Tab.d]
@[simp] theorem tab_3 {t : Tab} : ixD t.d (.int 3) = .ok (.tup (t.rules.map Rl.d)) := by simp [Tab.d]
@[simp] theorem it_sch {S : List Tab} : itD (schD S) = .ok (S.map Tab.d) := rfl
@[simp] theorem len_sch {S : List Tab} : b1D .len (schD S) = .ok (.int (S.length : Nat)) := by simp [schD]
@[simp] theorem it_st {st : Store} : itD (stD st) = .ok (st.map rowsD) := rfl
@[simp] theorem it_rows {rs : List Row} : itD (rowsD rs) = .ok (rs.map rowD) := rfl
@[simp] theorem it_row {r : Row} : itD (rowD r) = .ok (r.map Worth.d) := rfl
theorem eqD_refl : ∀ d : D, d.plain = true → eqD d d = true := by
  intro d
  induction d using D.rec (motive_2 := fun ds => D.plains ds = true → eqDs ds ds = true) with
  | tup xs ih => intro h; exact ih h
  | lst xs ih => intro h; exact ih h
  | nil => rfl
  | cons x xs ih1 ih2 =>
    rename_i h
    rw [plains_cons, Bool.and_eq_true] at h
    rw [eqs_cons, ih1 h.1, ih2 h.2]
    rfl
  | dic _ _ _ _ _ => intro h; cases h
  | scr _ _ => intro h; cases h
  | itr _ _ => intro h; cases h
  | _ => intro _; simp [eqD]
theorem eqDs_refl {l : List D} (h : D.plains l = true) : eqDs l l = true := eqD_refl (.lst l) h
theorem plains_perm {a b : List D} (p : a.Perm b) (h : D.plains a = true) : D.plains b = true := by
  have key : ∀ l : List D, D.plains l = true ↔ ∀ d ∈ l, d.plain = true := by
    intro l
    induction l with
    | nil => simp
    | cons x l ih => simp [ih]
  rw [key] at h ⊢
  exact fun d hd => h d (p.mem_iff.mpr hd)
theorem deps_le {l : List D} {n : Nat} : D.deps l ≤ n ↔ ∀ d ∈ l, d.dep ≤ n := by
  induction l with
  | nil => simp
  | cons x l ih => simp [ih, Nat.max_le]
theorem deps_perm {a b : List D} (p : a.Perm b) {n : Nat} (h : D.deps a ≤ n) : D.deps b ≤ n := by
  rw [deps_le] at h ⊢
  exact fun d hd => h d (p.mem_iff.mpr hd)
theorem eqs_map {α : Type} [DecidableEq α] {f : α → D} (h : ∀ a b, eqD (f a) (f b) = decide (a = b)) : ∀ l m : List α, eqDs (l.map f) (m.map f) = decide (l = m)
  | [], [] => rfl
  | [], _ :: _ => rfl
  | _ :: _, [] => rfl
  | a :: l, b :: m => by
    rw [List.map_cons, List.map_cons, eqs_cons, h, eqs_map h l m]
    by_cases e : a = b <;> by_cases e2 : l = m <;> simp [e, e2]
@[simp] theorem kD_eq {a b : List Worth} : eqD (kD a) (kD b) = decide (a = b) := eqs_map (fun _ _ => worth_eq) a b
@[simp] theorem row_eq {a b : Row} : eqD (rowD a) (rowD b) = decide (a = b) := eqs_map (fun _ _ => worth_eq) a b
@[simp] theorem worths_plain {l : List Worth} : D.plains (l.map Worth.d) = true := plains_map (fun _ => worth_plain) l
@[simp] theorem kD_plain {a : List Worth} : (kD a).plain = true := worths_plain
@[simp] theorem row_plain {a : Row} : (rowD a).plain = true := worths_plain
theorem worths_deps {l : List Worth} : D.deps (l.map Worth.d) = 0 := Nat.le_zero.mp (deps_map (n := 0) (fun _ => by simp) l)
@[simp] theorem kD_dep {a : List Worth} : (kD a).dep = 1 := by simp [kD, worths_deps]
@[simp] theorem row_dep {a : Row} : (rowD a).dep = 1 := by simp [rowD, worths_deps]
@[simp] theorem kD_non {a : List Worth} : isNonD (kD a) = false := rfl
theorem keyBs_worths : ∀ {l : List Worth}, D.keyBs (l.map Worth.d) = true
  | [] => rfl
  | w :: l => by
    show (w.d.keyB && D.keyBs (l.map Worth.d)) = true
    rw [keyBs_worths]
    cases w <;> rfl
@[simp] theorem kD_key {a : List Worth} : keyOk true (kD a) = true := by simp [kD, keyOk, keyBs_worths, worths_deps]
theorem frozens_worths : ∀ {l : List Worth}, D.frozens (l.map Worth.d) = true
  | [] => rfl
  | w :: l => by
    show (w.d.frozen && D.frozens (l.map Worth.d)) = true
    rw [frozens_worths]
    cases w <;> rfl
@[simp] theorem kD_frz {a : List Worth} : (kD a).frozen = true := by simp [kD, D.frozen, frozens_worths]
@[simp] theorem row_frz {a : Row} : (rowD a).frozen = true := by simp [rowD, D.frozen, frozens_worths]
theorem key_names {t : Tab} (b : t.bare) : ∀ k ∈ t.key, k ∈ t.names := fun k hk => by
  obtain ⟨c, h1, h2, _⟩ := b.keyC k hk
  exact List.mem_map.mpr ⟨c, h1, h2⟩
@[simp] theorem any_lst {xs : List D} : b1D .any (.lst xs) = (optR (boolsD xs) >>= fun bs => .ok (.bl (bs.any id))) := rfl
@[simp] theorem all_lst {xs : List D} : b1D .all (.lst xs) = (optR (boolsD xs) >>= fun bs => .ok (.bl (bs.all id))) := rfl
theorem boolsD_map {α : Type} {f : α → Bool} : ∀ {l : List α}, boolsD (l.map fun x => .bl (f x)) = some (l.map f)
  | [] => rfl
  | x :: l => by
    show (match boolsD (l.map fun x => .bl (f x)) with
      | some t => some (f x :: t)
      | none => none) = _
    rw [boolsD_map]
    rfl
/-! ### which table, which rows -/
theorem filter_name {S : List Tab} (nd : (S.map Tab.name).Nodup) {t : Tab} (h : t ∈ S) : (S.filter fun u => decide (u.name = t.name)) = [t] := by
  induction S with
  | nil => cases h
  | cons u S ih =>
    rw [List.map_cons, List.nodup_cons] at nd
    rcases List.mem_cons.mp h with rfl | h
    · rw [List.filter_cons_of_pos (by simp)]
      have : (S.filter fun u => decide (u.name = t.name)) = [] := List.filter_eq_nil_iff.mpr fun v hv => by
        simp
        exact fun e => nd.1 (List.mem_map.mpr ⟨v, hv, e⟩)
      rw [this]
    · have : u.name ≠ t.name := fun e => nd.1 (List.mem_map.mpr ⟨t, h, e.symm⟩)
      rw [List.filter_cons_of_neg (by simpa using this), ih nd.2 h]
theorem names_at {S : List Tab} (nd : (S.map Tab.name).Nodup) : ∀ {i : Nat} {t : Tab}, S[i]? = some t → ixOf t.name (S.map Tab.name) = i := by
  induction S with
  | nil => intro i t h; simp at h
  | cons u S ih =>
    intro i t h
    rw [List.map_cons, List.nodup_cons] at nd
    rw [List.map_cons]
    unfold ixOf
    cases i with
    | zero =>
      have : u = t := by simpa using h
      rw [this, if_pos rfl]
    | succ i =>
      have h : S[i]? = some t := by simpa using h
      have ne : u.name ≠ t.name := fun e => nd.1 (List.mem_map.mpr ⟨t, List.mem_of_getElem? h, e.symm⟩)
      rw [if_neg ne, ih nd.2 h]
/-- the rows of a table -/
def rowsOf (S : List Tab) (st : Store) (x : Txt) : List Row := (st[ixOf x (S.map Tab.name)]?).getD []
theorem rows_get {S : List Tab} {st : Store} (o : StOk S st) {x : Txt} (h : x ∈ S.map Tab.name) : st[ixOf x (S.map Tab.name)]? = some (rowsOf S st x) := by
  have l := o.rows.len
  have := ixOf_lt h
  rw [List.length_map] at this
  unfold rowsOf
  rw [List.getElem?_eq_getElem (by omega)]
  rfl
theorem rows_ok {S : List Tab} (nd : (S.map Tab.name).Nodup) {st : Store} (o : StOk S st) {t : Tab} (h : t ∈ S) : (∀ r ∈ rowsOf S st t.name, rowOk t r) ∧ (rowsOf S st t.name).length ≤ 1000 := by
  obtain ⟨i, hi, e⟩ := List.mem_iff_getElem.mp h
  have e2 : S[i]? = some t := by rw [List.getElem?_eq_getElem hi, e]
  obtain ⟨rs, h1, h2⟩ := Law.All2.at o.rows e2
  have : rowsOf S st t.name = rs := by
    unfold rowsOf
    rw [names_at nd e2, h1]
    rfl
  rw [this]
  exact h2
theorem mem_names {S : List Tab} {t : Tab} (h : t ∈ S) : t.name ∈ S.map Tab.name := List.mem_map.mpr ⟨t, h, rfl⟩
/-! ### worths in columns -/
def Tab.wOf (t : Tab) (r : Row) (c : List Txt) : Option (List Worth) := if Worth.gap ∈ c.map (t.at r) then none else some (c.map (t.at r))
def oD : Option (List Worth) → D
  | none => .non
  | some k => kD k
@[simp] theorem oD_some {k : List Worth} : oD (some k) = kD k := rfl
@[simp] theorem oD_none : oD none = .non := rfl
@[simp] theorem oD_plain {a : Option (List Worth)} : (oD a).plain = true := by cases a <;> simp [oD]
@[simp] theorem oD_dep {a : Option (List Worth)} : (oD a).dep ≤ 1 := by cases a <;> simp [oD]
@[simp] theorem oD_non {a : Option (List Worth)} : isNonD (oD a) = a.isNone := by cases a <;> simp [oD]
@[simp] theorem oD_eq {a b : Option (List Worth)} : eqD (oD a) (oD b) = decide (a = b) := by
  cases a with
  | none => cases b <;> simp [oD, kD, eqD]
  | some x => cases b with
    | none => simp [oD, kD, eqD]
    | some y => simp [oD]
@[simp] theorem kD_oD {a : Option (List Worth)} {k : List Worth} : eqD (oD a) (kD k) = decide (a = some k) := oD_eq (b := some k)
theorem oDs_plain {l : List (Option (List Worth))} : D.plains (l.map oD) = true := plains_map (fun _ => oD_plain) l
theorem oDs_deps {l : List (Option (List Worth))} : D.deps (l.map oD) ≤ 1 := deps_map (fun _ => oD_dep) l
theorem kDs_plain {l : List (List Worth)} : D.plains (l.map kD) = true := plains_map (fun _ => kD_plain) l
theorem kDs_deps {l : List (List Worth)} : D.deps (l.map kD) ≤ 1 := deps_map (fun _ => by simp) l
theorem any_kD {l : List (List Worth)} {k : List Worth} : ((l.map kD).any fun y => eqD y (kD k)) = decide (k ∈ l) := by
  induction l with
  | nil => rfl
  | cons x l ih =>
    rw [List.map_cons, List.any_cons, ih, kD_eq]
    by_cases e : x = k
    · simp [e]
    · simp [e, Ne.symm e]
theorem any_gap {l : List Worth} : ((l.map Worth.d).any fun y => eqD y .non) = decide (Worth.gap ∈ l) := by
  induction l with
  | nil => rfl
  | cons x l ih =>
    rw [List.map_cons, List.any_cons, ih, worth_eqn]
    by_cases e : x = .gap
    · simp [e]
    · simp [e, Ne.symm e]
/-- the keys of a table, by its name -/
def keysOf (S : List Tab) (st : Store) (x : Txt) : List (List Worth) := match S.find? fun u => decide (u.name = x) with
  | some u => (rowsOf S st x).map u.keyOf
  | none => []
theorem find_name {S : List Tab} (nd : (S.map Tab.name).Nodup) {t : Tab} (h : t ∈ S) : S.find? (fun u => decide (u.name = t.name)) = some t := by
  have e := filter_name nd h
  rw [← List.head?_filter, e]
  rfl
theorem keysOf_eq {S : List Tab} (nd : (S.map Tab.name).Nodup) {t : Tab} (h : t ∈ S) {st : Store} : keysOf S st t.name = (rowsOf S st t.name).map t.keyOf := by
  unfold keysOf
  rw [find_name nd h]
/-- a row breaks a rule -/
def brk (S : List Tab) (st : Store) (t : Tab) : Rl → Row → Bool
  | .check u, r => decide (u.val t r = some false)
  | .unlike c, r => match t.wOf r c with
    | none => false
    | some k => decide (1 < (rowsOf S st t.name).countP fun q => decide (t.wOf q c = some k))
  | .refers c g _, r => match t.wOf r c with
    | none => false
    | some k => !decide (k ∈ keysOf S st g)
def broken (S : List Tab) (st : Store) (t : Tab) (u : Rl) : List Row := (rowsOf S st t.name).filter (brk S st t u)
end Law
namespace Law
open Dt
theorem iss_ob {a : Option Bool} : copD .iss (ob a) (.bl false) = .ok (.bl (decide (a = some false))) := by
  cases a with
  | none => simp [ob]
  | some b => cases b <;> simp [ob]
@[simp] theorem rl_refers {c : List Txt} {g w : Txt} : Rl.d (.refers c g w) = .tup [.str (tx "refers"), .tup (c.map D.str), .str g, .str w] := rfl
@[simp] theorem rl_unlike {c : List Txt} : Rl.d (.unlike c) = .tup [.str (tx "unlike"), .tup (c.map D.str)] := rfl
@[simp] theorem rl_check {u : Tst} : Rl.d (.check u) = .tup [.str (tx "check"), u.d] := rfl
theorem count_oD {α : Type} {f : α → Option (List Worth)} {l : List α} {k : List Worth} : ((l.map fun x => oD (f x)).countP fun y => eqD y (kD k)) = l.countP fun x => decide (f x = some k) := by
  rw [List.countP_map]
  congr 1
  funext x
  simp
theorem zip_self2 {α : Type} (l : List α) : l.zip l = l.map fun x => (x, x) := by
  induction l with
  | nil => rfl
  | cons x l ih => simp [ih]
end Law
namespace Law
open Dt
theorem r_row_key (n : Nat) {t : Tab} (b : t.bare) {r : Row} (h : rowOk t r) : run T G (n + 3) "row_key" [t.d, rowD r] = .ok (kD (t.keyOf r)) := by
  refine wp_eq ?_
  rw [u_row_key]
  simp
  refine wp_mapRE (h := fun x => (t.at r x).d) (fun x hx => ?_) ?_
  · have nx := key_names b x hx
    simp [r_place_of n nx, rowD, nth_row h nx]
  · simp [kD, Tab.keyOf]
end Law
namespace Law
open Dt
theorem r_table_of (n : Nat) {S : List Tab} (nd : (S.map Tab.name).Nodup) {t : Tab} (h : t ∈ S) : run T G (n + 1) "table_of" [schD S, .str t.name] = .ok t.d := by
  refine wp_eq ?_
  rw [u_table_of]
  simp [schD]
  refine wp_filRE (p := fun u => decide (u.name = t.name)) (h := Tab.d) (fun u _ => by simp) (fun u _ _ => by simp) ?_
  rw [filter_name nd h]
  simp
theorem r_rows_of (n : Nat) {S : List Tab} {st : Store} (o : StOk S st) {x : Txt} (h : x ∈ S.map Tab.name) : run T G (n + 1) "rows_of" [schD S, stD st, .str x] = .ok (rowsD (rowsOf S st x)) := by
  refine wp_eq ?_
  rw [u_rows_of]
  simp [schD, stD]
  refine wp_mapRE (h := fun u => .str u.name) (fun u _ => by simp) ?_
  have p1 := strs_plain (l := S.map Tab.name)
  have p2 := txs_deps (l := S.map Tab.name)
  have p3 := index_txs (k := 0) h
  simp only [txs, List.map_map] at p1 p2 p3
  refine ⟨⟨p1, p2⟩, _, p3, ?_⟩
  simp [nth_map, nth_nat, rows_get o h]
end Law
namespace Law
open Dt
theorem r_keys_in (n : Nat) {S : List Tab} (hS : SchOk S) {st : Store} (o : StOk S st) {t : Tab} (h : t ∈ S) : run T G (n + 4) "keys_in" [schD S, stD st, .str t.name] = .ok (.lst (((rowsOf S st t.name).map t.keyOf).map kD)) := by
  refine wp_eq ?_
  rw [u_keys_in]
  have h1 := r_table_of (n + 2) hS.nd h
  have h2 := r_rows_of (n + 2) o (mem_names h)
  simp [h1, h2, rowsD]
  refine wp_mapRE (h := fun r => kD (t.keyOf r)) (fun r hr => ?_) (by simp)
  simp [r_row_key n (hS.bare t h) ((rows_ok hS.nd o h).1 r hr)]
theorem r_worths_in (n : Nat) {t : Tab} {r : Row} (h : rowOk t r) {c : List Txt} (hc : ∀ x ∈ c, x ∈ t.names) : run T G (n + 3) "worths_in" [t.d, rowD r, .tup (c.map D.str)] = .ok (oD (t.wOf r c)) := by
  refine wp_eq ?_
  rw [u_worths_in]
  simp
  refine wp_mapRE (h := fun x => (t.at r x).d) (fun x hx => ?_) ?_
  · simp [r_place_of n (hc x hx), rowD, nth_row h (hc x hx)]
  · refine wp_mapRE (g := fun x => (t.at r x).d) (h := fun x => .bl (decide (t.at r x = .gap))) (fun x hx => by simp) ?_
    simp [boolsD_map]
    by_cases e : Worth.gap ∈ c.map (t.at r)
    · have e1 : ∃ x ∈ c, t.at r x = .gap := by
        obtain ⟨x, h1, h2⟩ := List.mem_map.mp e
        exact ⟨x, h1, h2⟩
      have e2 : t.wOf r c = none := by unfold Tab.wOf; rw [if_pos e]
      rw [e2]
      obtain ⟨x, h1, h2⟩ := e1
      exact ⟨fun _ _ _ => rfl, fun q => absurd h2 (q x h1)⟩
    · have e2 : t.wOf r c = some (c.map (t.at r)) := by unfold Tab.wOf; rw [if_neg e]
      rw [e2]
      exact ⟨fun x h1 h2 => absurd (List.mem_map.mpr ⟨x, h1, h2⟩) e, fun _ => by simp [oD, kD]⟩
end Law
namespace Law
open Dt
/-- the rows that break a rule, as the program finds them -/
theorem r_breaking_rows (n : Nat) {S : List Tab} (hS : SchOk S) {st : Store} (o : StOk S st) {t : Tab} (ht : t ∈ S) {u : Rl} (ok : u.ok S t) : run T G (n + 6) "breaking_rows" [schD S, stD st, t.d, u.d] = .ok (.lst ((broken S st t u).map rowD)) := by
  refine wp_eq ?_
  rw [u_breaking_rows]
  have bt := hS.bare t ht
  have h1 := r_rows_of (n + 4) o (mem_names ht)
  obtain ⟨hr, hl⟩ := rows_ok hS.nd o ht
  cases u with
  | check v =>
    simp [h1, rowsD]
    refine wp_filRE (p := fun r => decide (v.val t r = some false)) (h := rowD) (fun r q => ?_) (fun r _ _ => by simp) rfl
    have e := r_holds bt (hr r q) 3 n v ok
    simp [e, iss_ob]
  | unlike c =>
    obtain ⟨_, _, _, hc⟩ := ok
    simp [h1, rowsD]
    refine wp_mapRE (h := fun r => oD (t.wOf r c)) (fun r q => ?_) ?_
    · simp [r_worths_in (n + 2) (hr r q) hc]
    · simp [zipD_map, zip_self2]
      refine wp_filRE (g := fun r => D.tup [rowD r, oD (t.wOf r c)]) (p := brk S st t (.unlike c)) (h := rowD) (fun r q => ?_) (fun r _ _ => by simp) rfl
      simp [brk]
      cases hw : t.wOf r c with
      | none => simp
      | some k =>
        have p1 : D.plains ((rowsOf S st t.name).map fun r => oD (t.wOf r c)) = true := plains_map (fun _ => oD_plain) _
        have p2 : D.deps ((rowsOf S st t.name).map fun r => oD (t.wOf r c)) ≤ 60 := Nat.le_trans (deps_map (fun _ => oD_dep) _) (by decide)
        simp [p1, p2]
        have e : (rowsOf S st t.name).countP ((fun y => eqD y (kD k)) ∘ fun r => oD (t.wOf r c)) = (rowsOf S st t.name).countP fun q => decide (t.wOf q c = some k) := by
          congr 1
          funext x
          simp
        exact decide_eq_decide.mpr (by rw [← e]; omega)
  | refers c g w =>
    obtain ⟨v, hv, rfl, _, _, hc, _⟩ := ok
    have h2 := r_keys_in (n + 1) hS o hv
    simp [h1, rowsD]
    refine wp_mapRE (h := fun r => oD (t.wOf r c)) (fun r q => ?_) ?_
    · simp [r_worths_in (n + 2) (hr r q) hc]
    · simp [zipD_map, zip_self2, h2]
      refine wp_filRE (g := fun r => D.tup [rowD r, oD (t.wOf r c)]) (p := brk S st t (.refers c v.name w)) (h := rowD) (fun r q => ?_) (fun r _ _ => by simp) rfl
      simp [brk, keysOf_eq hS.nd hv]
      cases hw : t.wOf r c with
      | none => simp
      | some k =>
        have p1 : D.plains ((rowsOf S st v.name).map (kD ∘ v.keyOf)) = true := plains_map (fun _ => kD_plain) _
        simp [p1]
        rw [Bool.eq_iff_iff]
        simp
end Law
namespace Law
open Dt
/-! ### all that a store breaks -/
abbrev Brk := Txt × Nat × List Worth
def bD (x : Brk) : D := .tup [.str x.1, .int (x.2.1 : Nat), kD x.2.2]
def ruleBrk (S : List Tab) (st : Store) (t : Tab) (p : Rl × Nat) : List Brk := (broken S st t p.1).map fun r => (t.name, p.2, t.keyOf r)
def tabBrk (S : List Tab) (st : Store) (t : Tab) : List Brk := t.rules.zipIdx.flatMap (ruleBrk S st t)
def brkList (S : List Tab) (st : Store) : List Brk := S.flatMap (tabBrk S st)
theorem len_flat {α β : Type} {f : α → List β} {B : Nat} : ∀ {L : List α}, (∀ x ∈ L, (f x).length ≤ B) → (L.flatMap f).length ≤ L.length * B
  | [], _ => by simp
  | x :: L, h => by
    have h1 := h x List.mem_cons_self
    have h2 := len_flat (L := L) fun y hy => h y (List.mem_cons_of_mem _ hy)
    rw [List.flatMap_cons, List.length_append, List.length_cons, Nat.succ_mul]
    omega
theorem zipIdx_mem {α : Type} {x : α} {i : Nat} {L : List α} {k : Nat} (h : (x, i) ∈ L.zipIdx k) : x ∈ L := by
  have := List.mem_zipIdx h
  exact this.2.2 ▸ List.getElem_mem _
theorem broken_len {S : List Tab} (hS : SchOk S) {st : Store} (o : StOk S st) {t : Tab} (ht : t ∈ S) (u : Rl) : (broken S st t u).length ≤ 1000 := Nat.le_trans (List.length_filter_le _ _) (rows_ok hS.nd o ht).2
theorem rule_len {S : List Tab} (hS : SchOk S) {st : Store} (o : StOk S st) {t : Tab} (ht : t ∈ S) (p : Rl × Nat) : (ruleBrk S st t p).length ≤ 1000 := by
  unfold ruleBrk
  rw [List.length_map]
  exact broken_len hS o ht p.1
theorem tab_len {S : List Tab} (hS : SchOk S) {st : Store} (o : StOk S st) {t : Tab} (ht : t ∈ S) : (tabBrk S st t).length ≤ 4000 := by
  have := len_flat (f := ruleBrk S st t) (L := t.rules.zipIdx) (fun p _ => rule_len hS o ht p)
  have h3 := hS.rulesL t ht
  rw [List.length_zipIdx] at this
  unfold tabBrk
  omega
theorem brk_len {S : List Tab} (hS : SchOk S) {st : Store} (o : StOk S st) : (brkList S st).length ≤ 16000 := by
  have := len_flat (f := tabBrk S st) (L := S) (fun t ht => tab_len hS o ht)
  have h4 := hS.few
  unfold brkList
  omega
/-! keys of one table are alike -/
theorem key_kind {t : Tab} (b : t.bare) {r : Row} (h : rowOk t r) {k : Txt} (hk : k ∈ t.key) : ∃ c ∈ t.cols, c.name = k ∧ ((c.text = false ∧ ∃ i, t.at r k = .num i) ∨ (c.text = true ∧ ∃ s, t.at r k = .txt s)) := by
  obtain ⟨c, h1, h2, h3⟩ := b.keyC k hk
  have nx : k ∈ t.names := List.mem_map.mpr ⟨c, h1, h2⟩
  obtain ⟨_, d, hd, e1, w1⟩ := at_ok h nx
  have ec : d = c := by
    have f1 := find_col b.nd hd
    have f2 := find_col b.nd h1
    rw [e1] at f1
    rw [h2] at f2
    rw [f1] at f2
    exact Option.some.inj f2
  subst ec
  refine ⟨d, hd, e1, ?_⟩
  cases hw : t.at r k with
  | gap =>
    rw [hw] at w1
    have w1 : d.gap = true := w1
    rw [h3] at w1
    cases w1
  | num i => rw [hw] at w1; exact .inl ⟨w1.1, i, rfl⟩
  | txt s => rw [hw] at w1; exact .inr ⟨w1.1, s, rfl⟩
theorem key_like {t : Tab} (b : t.bare) {r q : Row} (h : rowOk t r) (g : rowOk t q) : likeDs ((t.keyOf r).map Worth.d) ((t.keyOf q).map Worth.d) = true := by
  have key : ∀ l : List Txt, (∀ k ∈ l, k ∈ t.key) → likeDs ((l.map (t.at r)).map Worth.d) ((l.map (t.at q)).map Worth.d) = true := by
    intro l
    induction l with
    | nil => intro _; rfl
    | cons k l ih =>
      intro hl
      have ih := ih fun y hy => hl y (List.mem_cons_of_mem _ hy)
      obtain ⟨c, c1, c2, c3⟩ := key_kind b h (hl k List.mem_cons_self)
      obtain ⟨d, d1, d2, d3⟩ := key_kind b g (hl k List.mem_cons_self)
      have ec : d = c := by
        have f1 := find_col b.nd d1
        have f2 := find_col b.nd c1
        rw [d2] at f1
        rw [c2] at f2
        rw [f1] at f2
        exact Option.some.inj f2
      subst ec
      show (likeD (t.at r k).d (t.at q k).d && likeDs _ _) = true
      rw [ih]
      rcases c3 with ⟨e, i, e1⟩ | ⟨e, i, e1⟩ <;> rcases d3 with ⟨e', j, e2⟩ | ⟨e', j, e2⟩ <;> first | (rw [e] at e'; cases e'; done) | (rw [e1, e2]; rfl)
  exact key t.key fun k hk => hk
@[simp] theorem bD_plain {x : Brk} : (bD x).plain = true := by simp [bD]
@[simp] theorem bD_dep {x : Brk} : (bD x).dep = 2 := by simp [bD]
@[simp] theorem bD_eq {x y : Brk} : eqD (bD x) (bD y) = decide (x = y) := by
  obtain ⟨a, i, k⟩ := x
  obtain ⟨b, j, l⟩ := y
  simp [bD]
  rw [Bool.eq_iff_iff]
  simp
  omega
/-- what may be told as broken: the key is a row's -/
def BrkOk (S : List Tab) (x : Brk) : Prop := ∃ t ∈ S, x.1 = t.name ∧ ∃ r, rowOk t r ∧ x.2.2 = t.keyOf r
theorem brk_wlike {S : List Tab} (hS : SchOk S) {x y : Brk} (hx : BrkOk S x) (hy : BrkOk S y) : wlike (bD x) (bD y) = true := by
  obtain ⟨a, i, k⟩ := x
  obtain ⟨b, j, l⟩ := y
  obtain ⟨t, ht, e1, r, hr, e2⟩ := hx
  obtain ⟨u, hu, e3, q, hq, e4⟩ := hy
  simp only at e1 e2 e3 e4
  subst e1 e2 e3 e4
  simp [bD, wlike, wlikeDs, likeD]
  by_cases e : t.name = u.name
  · have : t = u := by
      have f1 := find_name hS.nd ht
      have f2 := find_name hS.nd hu
      rw [e, f2] at f1
      exact (Option.some.inj f1).symm
    subst this
    refine .inr (.inr ?_)
    simp [kD, likeD]
    exact key_like (hS.bare t ht) hr hq
  · exact .inl e
theorem brks_sort {S : List Tab} (hS : SchOk S) {L : List Brk} (h : ∀ x ∈ L, BrkOk S x) : sortOk (L.map bD) = true := by
  have p1 : D.plains (L.map bD) = true := plains_map (fun _ => bD_plain) _
  have p2 : D.deps (L.map bD) ≤ 100 := Nat.le_trans (deps_map (n := 2) (fun _ => by simp) _) (by decide)
  have p3 : ((L.map bD).all fun x => (L.map bD).all fun y => wlike x y) = true := by
    simp only [List.all_map, List.all_eq_true]
    intro x hx
    show (L.all ((fun y => wlike (bD x) y) ∘ bD)) = true
    rw [List.all_eq_true]
    exact fun y hy => brk_wlike hS (h x hx) (h y hy)
  have p4 : (L.map bD).all someTup = true := by
    simp only [List.all_map, List.all_eq_true]
    intro x hx
    rfl
  unfold sortOk
  rw [p1, p3, p4, decide_eq_true p2]
  rfl
theorem brk_ok {S : List Tab} (hS : SchOk S) {st : Store} (o : StOk S st) : ∀ x ∈ brkList S st, BrkOk S x := by
  intro x hx
  obtain ⟨t, ht, hx⟩ := List.mem_flatMap.mp hx
  obtain ⟨p, hp, hx⟩ := List.mem_flatMap.mp hx
  obtain ⟨r, hr, rfl⟩ := List.mem_map.mp hx
  exact ⟨t, ht, rfl, r, (rows_ok hS.nd o ht).1 r ((List.mem_filter.mp hr).1), rfl⟩
end Law
namespace Law
open Dt
theorem r_breaks (n : Nat) {S : List Tab} (hS : SchOk S) {st : Store} (o : StOk S st) : run T G (n + 7) "breaks" [schD S, stD st] = .ok (.tup (((brkList S st).map bD).mergeSort leD)) := by
  refine wp_eq ?_
  rw [u_breaks]
  simp only [wp_cons, wp_asgF, fq_nx, nxt_at]
  simp [schD]
  refine wp_for (fun done ρ => ∃ e3 e4 e5 e6 : Option D, ρ = [some (schD S), some (stD st), some (.lst ((done.flatMap (tabBrk S st)).map bD)), e3, e4, e5, e6]) ⟨_, _, _, _, rfl⟩ ?_ ?_
  · rintro done t todo ρ hL ⟨e3, e4, e5, e6, rfl⟩
    have ht : t ∈ S := by rw [hL]; simp
    have hd : done.length ≤ 3 := by
      have := congrArg List.length hL
      have := hS.few
      simp at *
      omega
    have l1 := len_flat (f := tabBrk S st) (L := done) fun u hu => tab_len hS o (by rw [hL]; simp [hu])
    simp
    rw [enumD_map (f := Rl.d)]
    refine wp_for (fun dn ρ => ∃ e4 e5 e6 : Option D, ρ = [some (schD S), some (stD st), some (.lst ((done.flatMap (tabBrk S st) ++ dn.flatMap (ruleBrk S st t)).map bD)), some t.d, e4, e5, e6]) ⟨e4, e5, e6, by simp [schD]⟩ ?_ ?_
    · rintro dn ⟨u, i⟩ td ρ hL2 ⟨e4, e5, e6, rfl⟩
      have hu : u ∈ t.rules := zipIdx_mem (i := i) (k := 0) (by rw [hL2]; simp)
      have hd2 : dn.length ≤ 3 := by
        have := congrArg List.length hL2
        have := hS.rulesL t ht
        simp at *
        omega
      have l2 := len_flat (f := ruleBrk S st t) (L := dn) fun p _ => rule_len hS o ht p
      have h1 := r_breaking_rows n hS o ht (hS.rules t ht u hu)
      simp only [schD] at h1
      simp [h1, schD]
      refine wp_for (fun d3 ρ => ∃ e6 : Option D, ρ = [some (schD S), some (stD st), some (.lst ((done.flatMap (tabBrk S st) ++ dn.flatMap (ruleBrk S st t) ++ d3.map fun r => (t.name, i, t.keyOf r)).map bD)), some t.d, some (.int i), some u.d, e6]) ⟨e6, by simp [schD]⟩ ?_ ?_
      · rintro d3 r t3 ρ hL3 ⟨e6, rfl⟩
        have hr : r ∈ broken S st t u := by rw [hL3]; simp
        have l3 := broken_len hS o ht u
        have hr2 := (rows_ok hS.nd o ht).1 r ((List.mem_filter.mp hr).1)
        have h2 := r_row_key (n + 3) (hS.bare t ht) hr2
        have l4 : d3.length < 1000 := by
          have := congrArg List.length hL3
          simp at this
          omega
        simp [h2]
        refine ⟨?_, ?_⟩
        · have := List.length_flatMap (f := tabBrk S st) (l := done)
          have := List.length_flatMap (f := ruleBrk S st t) (l := dn)
          unfold SZ
          omega
        · simp [bD]
      · rintro ρ ⟨e6, rfl⟩
        simp [schD, ruleBrk]
    · rintro ρ ⟨e4, e5, e6, rfl⟩
      simp [schD, tabBrk]
  · rintro ρ ⟨e3, e4, e5, e6, rfl⟩
    have := brks_sort hS (brk_ok hS o)
    simp [brkList] at this ⊢
    exact this
end Law
namespace Law
open Dt
/-! ### the law's own words -/
theorem ex_gap {l : List Worth} : (∃ x, x ∈ l.map Worth.d ∧ eqD x .non = true) ↔ Worth.gap ∈ l := by
  constructor
  · rintro ⟨x, h1, h2⟩
    obtain ⟨w, hw, rfl⟩ := List.mem_map.mp h1
    simp at h2
    exact h2 ▸ hw
  · intro h
    exact ⟨.non, List.mem_map.mpr ⟨_, h, rfl⟩, rfl⟩
theorem r_lkey (n : Nat) {t : Tab} (b : t.bare) {r : Row} (h : rowOk t r) : run T G (n + 2) "_law_key" [t.d, rowD r] = .ok (kD (t.keyOf r)) := by
  refine wp_eq ?_
  rw [u__law_key]
  simp
  refine wp_mapRE (h := fun x => (t.at r x).d) (fun x hx => ?_) ?_
  · have nx := key_names b x hx
    simp [r_law_names, strs_plain, txs_deps, index_txs nx, rowD, nth_row h nx]
  · simp [kD, Tab.keyOf]
theorem r_lrows (n : Nat) {S : List Tab} {st : Store} (o : StOk S st) {x : Txt} (h : x ∈ S.map Tab.name) : run T G (n + 1) "_law_rows" [schD S, stD st, .str x] = .ok (rowsD (rowsOf S st x)) := by
  refine wp_eq ?_
  rw [u__law_rows]
  simp [schD, stD]
  refine wp_mapRE (h := fun u => .str u.name) (fun u _ => by simp) ?_
  have e : (S.map fun u => D.str u.name) = txs (S.map Tab.name) := by simp [txs]
  rw [e]
  simp [strs_plain]
  have p1 := strs_plain (l := S.map Tab.name)
  have p2 := txs_deps (l := S.map Tab.name)
  have p3 := index_txs (k := 0) h
  simp only [txs, List.map_map] at p1 p2 p3
  refine ⟨⟨p1, p2⟩, _, p3, ?_⟩
  simp [nth_map, nth_nat, rows_get o h]
end Law
namespace Law
open Dt
theorem r_ltable (n : Nat) {S : List Tab} (nd : (S.map Tab.name).Nodup) {t : Tab} (h : t ∈ S) : run T G (n + 1) "_law_table" [schD S, .str t.name] = .ok t.d := by
  refine wp_eq ?_
  rw [u__law_table]
  simp [schD]
  refine wp_filRE (p := fun u => decide (u.name = t.name)) (h := Tab.d) (fun u _ => by simp) (fun u _ _ => by simp) ?_
  rw [filter_name nd h]
  simp
end Law
namespace Law
open Dt
theorem r_lworths (n : Nat) {t : Tab} {r : Row} (h : rowOk t r) {c : List Txt} (hc : ∀ x ∈ c, x ∈ t.names) : run T G (n + 2) "_law_worths" [t.d, rowD r, .tup (c.map D.str)] = .ok (oD (t.wOf r c)) := by
  refine wp_eq ?_
  rw [u__law_worths]
  simp
  refine wp_mapRE (h := fun x => (t.at r x).d) (fun x hx => ?_) ?_
  · simp [r_law_names, strs_plain, txs_deps, index_txs (hc x hx), rowD, nth_row h (hc x hx)]
  · have e : (c.map fun x => (t.at r x).d) = (c.map (t.at r)).map Worth.d := by simp
    rw [e]
    simp only [tuple_lst, wp_ok, in_tup, worths_plain, any_gap, wp_bind, wp_must]
    simp only [ex_gap]
    unfold Tab.wOf
    by_cases g : Worth.gap ∈ c.map (t.at r)
    · rw [if_pos g, if_pos g]
      simp [oD]
    · rw [if_neg g, if_neg g]
      simp [oD, kD]
end Law
namespace Law
open Dt
/-! ### stores made of rows alone -/
theorem find_map {α : Type} {f : α → List Worth} {g : α → D} {k : List Worth} : ∀ {B : List α}, findD (kD k) (B.map fun r => kD (f r)) (B.map g) = (B.find? fun r => decide (f r = k)).map g
  | [] => rfl
  | r :: B => by
    show (if eqD (kD (f r)) (kD k) then some (g r) else findD (kD k) (B.map fun r => kD (f r)) (B.map g)) = _
    rw [kD_eq, find_map]
    by_cases e : f r = k
    · rw [decide_eq_true e, List.find?_cons_of_pos (by simpa using e)]
      rfl
    · rw [decide_eq_false e, List.find?_cons_of_neg (by simpa using e)]
      rfl
theorem set_map {α : Type} {f : α → List Worth} {g : α → D} {k : List Worth} {v : D} : ∀ {B : List α}, setD (kD k) v (B.map fun r => kD (f r)) (B.map g) = B.map fun r => if f r = k then v else g r
  | [] => rfl
  | r :: B => by
    show (if eqD (kD (f r)) (kD k) then v else g r) :: setD (kD k) v (B.map fun r => kD (f r)) (B.map g) = _
    rw [kD_eq, set_map]
    by_cases e : f r = k <;> simp [e]
/-- a book of rows with a row put in -/
def bookPut (t : Tab) (B : List Row) (r : Row) : List Row := if (B.find? fun q => decide (t.keyOf q = t.keyOf r)).isSome then B.map (fun q => if t.keyOf q = t.keyOf r then r else q) else B ++ [r]
def bookD (t : Tab) (B : List Row) : D := .dic true (B.map fun r => kD (t.keyOf r)) (B.map rowD)
theorem put_book {t : Tab} {B : List Row} {r : Row} : putD (kD (t.keyOf r)) (rowD r) (B.map (fun r => kD (t.keyOf r)), B.map rowD) = ((bookPut t B r).map (fun r => kD (t.keyOf r)), (bookPut t B r).map rowD) := by
  unfold putD bookPut
  dsimp only
  rw [find_map (f := t.keyOf), Option.isSome_map]
  cases h : (B.find? fun q => decide (t.keyOf q = t.keyOf r)).isSome with
  | true =>
    rw [if_pos rfl, if_pos rfl, set_map (f := t.keyOf), List.map_map, List.map_map]
    congr 1
    · refine List.map_congr_left fun q _ => ?_
      show _ = kD (t.keyOf (if t.keyOf q = t.keyOf r then r else q))
      by_cases e : t.keyOf q = t.keyOf r <;> simp [e]
    · refine List.map_congr_left fun q _ => ?_
      show _ = rowD (if t.keyOf q = t.keyOf r then r else q)
      by_cases e : t.keyOf q = t.keyOf r <;> simp [e]
  | false =>
    rw [if_neg (by simp), if_neg (by simp)]
    simp
theorem bookPut_len {t : Tab} {B : List Row} {r : Row} : (bookPut t B r).length ≤ B.length + 1 := by
  unfold bookPut
  split <;> simp
theorem bookPut_ok {t : Tab} {B : List Row} {r : Row} {P : Row → Prop} (h : ∀ q ∈ B, P q) (hr : P r) : ∀ q ∈ bookPut t B r, P q := by
  intro q hq
  unfold bookPut at hq
  split at hq
  · obtain ⟨z, hz, rfl⟩ := List.mem_map.mp hq
    split
    · exact hr
    · exact h z hz
  · rcases List.mem_append.mp hq with hq | hq
    · exact h q hq
    · simp at hq; rw [hq]; exact hr
theorem bookPut_nd {t : Tab} {B : List Row} {r : Row} (h : (B.map t.keyOf).Nodup) : ((bookPut t B r).map t.keyOf).Nodup := by
  unfold bookPut
  split
  · have e : ((B.map fun q => if t.keyOf q = t.keyOf r then r else q).map t.keyOf) = B.map t.keyOf := by
      rw [List.map_map]
      refine List.map_congr_left fun q _ => ?_
      show t.keyOf (if t.keyOf q = t.keyOf r then r else q) = _
      by_cases e : t.keyOf q = t.keyOf r <;> simp [e]
    rw [e]
    exact h
  · rename_i g
    rw [List.map_append, List.nodup_append]
    refine ⟨h, by simp, fun a ha b hb => ?_⟩
    simp at hb
    subst hb
    obtain ⟨q, hq, rfl⟩ := List.mem_map.mp ha
    intro e
    apply g
    rw [List.find?_isSome]
    exact ⟨q, hq, by simpa using e⟩
theorem wlikes_of : ∀ {a b : List D}, likeDs a b = true → wlikeDs a b = true
  | [], _, _ => by simp [wlikeDs]
  | _ :: _, [], _ => by simp [wlikeDs]
  | x :: xs, y :: ys, h => by
    simp only [likeDs, Bool.and_eq_true] at h
    simp [wlikeDs, h.1, wlikes_of h.2]
/-- in the order of keys -/
def Tab.leR (t : Tab) (a b : Row) : Bool := leD (kD (t.keyOf a)) (kD (t.keyOf b))
theorem find_key {t : Tab} {B : List Row} (nd : (B.map t.keyOf).Nodup) {r : Row} (h : r ∈ B) : B.find? (fun q => decide (t.keyOf q = t.keyOf r)) = some r := by
  induction B with
  | nil => cases h
  | cons q B ih =>
    rw [List.map_cons, List.nodup_cons] at nd
    by_cases e : t.keyOf q = t.keyOf r
    · rw [List.find?_cons_of_pos (by simpa using e)]
      rcases List.mem_cons.mp h with rfl | h
      · rfl
      · exact absurd (List.mem_map.mpr ⟨r, h, e.symm⟩) nd.1
    · rw [List.find?_cons_of_neg (by simpa using e)]
      rcases List.mem_cons.mp h with rfl | h
      · exact absurd rfl e
      · exact ih nd.2 h
theorem keys_sort {t : Tab} (b : t.bare) {B : List Row} (h : ∀ r ∈ B, rowOk t r) : sortOk (B.map fun r => kD (t.keyOf r)) = true := by
  have p1 : D.plains (B.map fun r => kD (t.keyOf r)) = true := plains_map (fun _ => kD_plain) _
  have p2 : D.deps (B.map fun r => kD (t.keyOf r)) ≤ 100 := Nat.le_trans (deps_map (n := 1) (fun _ => by simp) _) (by decide)
  have p3 : ((B.map fun r => kD (t.keyOf r)).all fun x => (B.map fun r => kD (t.keyOf r)).all fun y => wlike x y) = true := by
    rw [List.all_eq_true]
    intro x hx
    rw [List.all_eq_true]
    intro y hy
    obtain ⟨r, hr, rfl⟩ := List.mem_map.mp hx
    obtain ⟨q, hq, rfl⟩ := List.mem_map.mp hy
    have := key_like b (h r hr) (h q hq)
    exact wlikes_of this
  have p4 : (B.map fun r => kD (t.keyOf r)).all someTup = true := by
    rw [List.all_eq_true]
    intro x hx
    obtain ⟨r, hr, rfl⟩ := List.mem_map.mp hx
    have := b.keyN
    unfold kD Tab.keyOf
    cases hk : t.key with
    | nil => exact absurd hk this
    | cons _ _ => rfl
  unfold sortOk
  rw [p1, p3, p4, decide_eq_true p2]
  rfl
theorem sort_book {t : Tab} {B : List Row} : (B.map fun r => kD (t.keyOf r)).mergeSort leD = (B.mergeSort t.leR).map fun r => kD (t.keyOf r) :=
  (List.map_mergeSort (s := leD) (f := fun r => kD (t.keyOf r)) fun _ _ _ _ => rfl).symm
/-- a store whose tables' rows stand in the order of their keys, each key once -/
structure Loose (S : List Tab) (st : Store) : Prop where
  ok : StOk S st
  nd : All2 (fun t rs => (rs.map t.keyOf).Nodup ∧ rs.length ≤ 4 ∧ ∃ B : List Row, rs = B.mergeSort t.leR) S st
theorem rangeD_small (m : Nat) : rangeD 0 (m : Int) = (List.range m).map fun (i : Nat) => D.int (i : Int) := rangeD_map
theorem nth4 {l : List D} (h : l.length = 4) {i : Nat} (hi : i < 4) : ∃ d, nth l (i : Int) = some d ∧ d ∈ l := by
  have : (i : Nat) < l.length := by omega
  exact ⟨l[i], by rw [nth_nat, List.getElem?_eq_getElem this], List.getElem_mem _⟩
theorem r_loose (n : Nat) {S : List Tab} (hS : SchOk S) (a : Int) (ha : 0 ≤ a) : ∃ st : Store, run T G (n + 3) "_law_loose" [schD S, .int a] = .ok (stD st) ∧ Loose S st := by
  suffices h : Wp (run T G (n + 3) "_law_loose" [schD S, .int a]) (fun d => ∃ st : Store, d = stD st ∧ Loose S st) E0 by
    obtain ⟨d, h1, st, rfl, h2⟩ := h.ok_of
    exact ⟨st, h1, h2⟩
  rw [u__law_loose]
  simp [schD]
  rw [enumD_map (f := Tab.d)]
  refine wp_for (fun done ρ => ∃ (st : Store) (e3 e4 e5 e6 e7 e8 : Option D), ρ = [some (schD S), some (.int a), some (stD st), e3, e4, e5, e6, e7, e8] ∧ Loose (done.map Prod.fst) st) ?_ ?_ ?_
  · exact ⟨[], none, none, none, none, none, none, rfl, ⟨⟨.nil⟩, .nil⟩⟩
  · rintro done ⟨t, i⟩ todo ρ hL ⟨st, e3, e4, e5, e6, e7, e8, rfl, hl⟩
    have ht : t ∈ S := zipIdx_mem (i := i) (k := 0) (by rw [hL]; simp)
    have bt := hS.bare t ht
    have hi : i < 4 := by
      have h1 : (t, i) ∈ S.zipIdx := by rw [hL]; simp
      have := (List.mem_zipIdx h1).2.1
      have := hS.few
      omega
    obtain ⟨d, h1, h2⟩ := nth4 (l := [D.int 1, D.int 5, D.int 25, D.int 125]) rfl hi
    obtain ⟨c, hc, hc1, hc2⟩ : ∃ c : Int, d = .int c ∧ 0 < c ∧ c ≤ 125 := by
      simp at h2
      rcases h2 with rfl | rfl | rfl | rfl <;> exact ⟨_, rfl, by decide, by decide⟩
    subst hc
    obtain ⟨m, hm, hm4⟩ : ∃ m : Nat, a / c % 5 = (m : Int) ∧ m ≤ 4 := ⟨(a / c % 5).toNat, by omega, by omega⟩
    simp [h1, hc1, hm]
    refine ⟨by omega, by unfold SZ; omega, ?_⟩
    rw [rangeD_small]
    refine wp_for (fun dn ρ => ∃ (B : List Row) (e6 e7 e8 : Option D), ρ = [some (schD S), some (.int a), some (stD st), some (.int i), some t.d, some (bookD t B), e6, e7, e8] ∧ (∀ r ∈ B, rowOk t r) ∧ (B.map t.keyOf).Nodup ∧ B.length ≤ dn.length) ?_ ?_ ?_
    · exact ⟨[], e6, e7, e8, by simp [schD, bookD], fun _ h => (by cases h), List.nodup_nil, by simp⟩
    · rintro dn j td ρ hL2 ⟨B, e6, e7, e8, rfl, hB, hnd, hlen⟩
      obtain ⟨x, _, hx, _⟩ := r_drawn4 (n + 1) a (10 * i + j)
      obtain ⟨r, hr, hr2⟩ := r_row n t (x / 4)
      have hk := r_lkey n bt hr2
      have hd : dn.length < 4 := by
        have := congrArg List.length hL2
        simp at this
        omega
      simp [hx, hr, hk, bookD, smallI_of, put_book]
      exact ⟨by unfold SZ; omega, bookPut t B r, ⟨rfl, rfl⟩, bookPut_ok hB hr2, bookPut_nd hnd, Nat.le_trans bookPut_len (by omega)⟩
    · rintro ρ ⟨B, e6, e7, e8, rfl, hB, hnd, hlen⟩
      have hlen : B.length ≤ 4 := by
        simp at hlen
        omega
      simp [bookD, keys_sort bt hB]
      rw [sort_book]
      refine wp_mapRE (g := fun r => kD (t.keyOf r)) (h := rowD) (fun r hr => ?_) ?_
      · have hr : r ∈ B := (List.mergeSort_perm B t.leR).mem_iff.mp hr
        simp
        rw [find_map (f := t.keyOf), find_key hnd hr]
        simp
      · have p := List.mergeSort_perm B t.leR
        have l1 := hl.nd.len
        have l2 := congrArg List.length hL
        have l3 := hS.few
        simp at l1 l2
        simp [stD]
        refine ⟨by unfold SZ; omega, st ++ [B.mergeSort t.leR], by simp [rowsD], ⟨⟨hl.ok.rows.snoc ⟨fun r hr => hB r (p.mem_iff.mp hr), by rw [p.length_eq]; omega⟩⟩, hl.nd.snoc ⟨(p.map t.keyOf).nodup_iff.mpr hnd, by rw [p.length_eq]; exact hlen, B, rfl⟩⟩⟩
  · rintro ρ ⟨st, e3, e4, e5, e6, e7, e8, rfl, hl⟩
    have e : S.zipIdx.map Prod.fst = S := by simp
    rw [e] at hl
    simp
    exact ⟨st, rfl, hl⟩
end Law
namespace Law
open Dt
/-! ### the row of a key; books of rows (the words of P40, P70, P87, P100 that need no def) -/
theorem zip_rows {S : List Tab} (nd : (S.map Tab.name).Nodup) {st : Store} (o : StOk S st) : S.zip st = S.map fun t => (t, rowsOf S st t.name) := by
  refine List.ext_getElem? fun i => ?_
  have hl := o.rows.len
  rw [List.getElem?_map]
  cases h : S[i]? with
  | none =>
    have : S.length ≤ i := List.getElem?_eq_none_iff.mp h
    rw [List.getElem?_eq_none (by rw [List.length_zip]; omega)]
    rfl
  | some t =>
    obtain ⟨rs, h1, _⟩ := Law.All2.at o.rows h
    have : rowsOf S st t.name = rs := by
      unfold rowsOf
      rw [names_at nd h, h1]
      rfl
    show _ = some (t, rowsOf S st t.name)
    rw [this]
    exact List.getElem?_zip_eq_some.mpr ⟨h, h1⟩
theorem name_inj {S : List Tab} (nd : (S.map Tab.name).Nodup) {t u : Tab} (ht : t ∈ S) (hu : u ∈ S) (e : t.name = u.name) : t = u := by
  have f1 := find_name nd ht
  have f2 := find_name nd hu
  rw [e, f2] at f1
  exact (Option.some.inj f1).symm
def rowAt (t : Tab) (rs : List Row) (k : List Worth) : Option Row := rs.find? fun r => decide (t.keyOf r = k)
theorem rowAt_none {t : Tab} {rs : List Row} {k : List Worth} : rowAt t rs k = none ↔ k ∉ rs.map t.keyOf := by
  unfold rowAt
  rw [List.find?_eq_none]
  simp
theorem rowAt_some {t : Tab} {rs : List Row} {k : List Worth} {r : Row} (h : rowAt t rs k = some r) : r ∈ rs ∧ t.keyOf r = k := by
  unfold rowAt at h
  exact ⟨List.mem_of_find?_eq_some h, by simpa using List.find?_some h⟩
theorem rowAt_mem {t : Tab} {rs : List Row} (nd : (rs.map t.keyOf).Nodup) {r : Row} (h : r ∈ rs) : rowAt t rs (t.keyOf r) = some r := find_key nd h
def bookAll (t : Tab) (rs : List Row) : List Row := rs.foldl (bookPut t) []
theorem fold_book {t : Tab} : ∀ (rs B : List Row), (rs.map fun r => (kD (t.keyOf r), rowD r)).foldl (fun d p => putD p.1 p.2 d) (B.map (fun r => kD (t.keyOf r)), B.map rowD) = ((rs.foldl (bookPut t) B).map (fun r => kD (t.keyOf r)), (rs.foldl (bookPut t) B).map rowD)
  | [], _ => rfl
  | r :: rs, B => by
    rw [List.map_cons, List.foldl_cons, List.foldl_cons, put_book, fold_book rs (bookPut t B r)]
theorem merge_book {t : Tab} (rs : List Row) : mergeD (rs.map fun r => (kD (t.keyOf r), rowD r)) = ((bookAll t rs).map (fun r => kD (t.keyOf r)), (bookAll t rs).map rowD) := fold_book rs []
theorem pairs_map {t : Tab} : ∀ rs : List Row, pairsD (rs.map fun r => D.tup [kD (t.keyOf r), rowD r]) = some (rs.map fun r => (kD (t.keyOf r), rowD r))
  | [] => rfl
  | r :: rs => by
    show (match pairsD (rs.map fun r => D.tup [kD (t.keyOf r), rowD r]) with
      | some t' => some ((kD (t.keyOf r), rowD r) :: t')
      | none => none) = _
    rw [pairs_map rs]
    rfl
theorem bookAll_self {t : Tab} : ∀ (rs B : List Row), ((B ++ rs).map t.keyOf).Nodup → rs.foldl (bookPut t) B = B ++ rs
  | [], B, _ => by simp
  | r :: rs, B, h => by
    have hn : (B.find? fun q => decide (t.keyOf q = t.keyOf r)).isSome = false := by
      rw [Bool.eq_false_iff]
      intro z
      rw [List.find?_isSome] at z
      obtain ⟨q, hq, e⟩ := z
      rw [List.map_append, List.map_cons, List.nodup_append] at h
      exact h.2.2 _ (List.mem_map.mpr ⟨q, hq, rfl⟩) _ List.mem_cons_self (by simpa using e)
    have e : bookPut t B r = B ++ [r] := by
      unfold bookPut
      rw [hn]
      rfl
    rw [List.foldl_cons, e, bookAll_self rs (B ++ [r]) (by simpa using h)]
    simp
theorem book_self {t : Tab} {rs : List Row} (h : (rs.map t.keyOf).Nodup) : bookAll t rs = rs := by
  have := bookAll_self rs [] (by simpa using h)
  simpa [bookAll] using this
end Law
namespace Law
open Dt
/-! ### a store without a row -/
def srtB (l : List Brk) : List Brk := l.mergeSort fun a b => leD (bD a) (bD b)
theorem sort_brks (l : List Brk) : (l.map bD).mergeSort leD = (srtB l).map bD := (List.map_mergeSort (s := leD) (f := bD) fun _ _ _ _ => rfl).symm
theorem srtB_perm (l : List Brk) : (srtB l).Perm l := List.mergeSort_perm l _
theorem bDs_plain {l : List Brk} : D.plains (l.map bD) = true := plains_map (fun _ => bD_plain) _
theorem bDs_deps {l : List Brk} : D.deps (l.map bD) ≤ 2 := deps_map (n := 2) (fun _ => by simp) _
def rkind : Rl → Txt
  | .refers _ _ _ => tx "refers"
  | .unlike _ => tx "unlike"
  | .check _ => tx "check"
theorem rl_kind {u : Rl} : ixD u.d (.int 0) = .ok (.str (rkind u)) := by cases u <;> simp [rkind]
theorem any_bD {l : List Brk} {x : Brk} : ((l.map bD).any fun y => eqD y (bD x)) = decide (x ∈ l) := by
  induction l with
  | nil => rfl
  | cons y l ih =>
    rw [List.map_cons, List.any_cons, ih, bD_eq]
    by_cases e : y = x
    · simp [e]
    · simp [e, Ne.symm e]
theorem in_bT {l : List Brk} {x : Brk} : inD (bD x) (.tup (l.map bD)) = .ok (decide (x ∈ l)) := by
  rw [in_tup, any_bD, bDs_plain, bD_plain, bD_dep]
  rfl
theorem All2_map {α β : Type} {P : α → β → Prop} {f : α → β} : ∀ {l : List α}, (∀ x ∈ l, P x (f x)) → All2 P l (l.map f)
  | [], _ => .nil
  | x :: l, h => .cons (h x List.mem_cons_self) (All2_map fun y hy => h y (List.mem_cons_of_mem _ hy))
theorem rowsOf_map {S : List Tab} (nd : (S.map Tab.name).Nodup) {f : Tab → List Row} {u : Tab} (hu : u ∈ S) : rowsOf S (S.map f) u.name = f u := by
  obtain ⟨i, hi, e⟩ := List.mem_iff_getElem.mp hu
  have e2 : S[i]? = some u := by rw [List.getElem?_eq_getElem hi, e]
  unfold rowsOf
  rw [names_at nd e2, List.getElem?_map, e2]
  rfl
section
variable {S : List Tab} {st : Store}
theorem mem_brk {b : Brk} : b ∈ brkList S st ↔ ∃ t ∈ S, ∃ u, (u, b.2.1) ∈ t.rules.zipIdx ∧ ∃ r ∈ rowsOf S st t.name, brk S st t u r = true ∧ b = (t.name, b.2.1, t.keyOf r) := by
  unfold brkList tabBrk ruleBrk broken
  constructor
  · intro h
    obtain ⟨t, ht, h⟩ := List.mem_flatMap.mp h
    obtain ⟨p, hp, h⟩ := List.mem_flatMap.mp h
    obtain ⟨r, hr, rfl⟩ := List.mem_map.mp h
    obtain ⟨h1, h2⟩ := List.mem_filter.mp hr
    exact ⟨t, ht, p.1, hp, r, h1, h2, rfl⟩
  · rintro ⟨t, ht, u, hu, r, hr, hb, e⟩
    rw [e]
    exact List.mem_flatMap.mpr ⟨t, ht, List.mem_flatMap.mpr ⟨(u, b.2.1), hu, List.mem_map.mpr ⟨r, List.mem_filter.mpr ⟨hr, hb⟩, rfl⟩⟩⟩
theorem rule_one {t : Tab} {u v : Rl} {i : Nat} (h : (u, i) ∈ t.rules.zipIdx) (g : (v, i) ∈ t.rules.zipIdx) : u = v := by
  rw [List.mem_zipIdx_iff_getElem?] at h g
  rw [h] at g
  exact Option.some.inj g
theorem rule_at {t : Tab} {u : Rl} {i : Nat} (h : (u, i) ∈ t.rules.zipIdx) : u ∈ t.rules ∧ nth (t.rules.map Rl.d) (i : Int) = some u.d := by
  refine ⟨zipIdx_mem h, ?_⟩
  rw [nth_map, nth_nat, List.mem_zipIdx_iff_getElem?.mp h]
  rfl
def lessS (S : List Tab) (st : Store) (nm : Txt) (k : List Worth) : Store := S.map fun u => if u.name = nm then (rowsOf S st u.name).filter (fun r => !decide (u.keyOf r = k)) else rowsOf S st u.name
theorem less_rows (hS : SchOk S) {nm : Txt} {k : List Worth} {u : Tab} (hu : u ∈ S) : rowsOf S (lessS S st nm k) u.name = if u.name = nm then (rowsOf S st u.name).filter (fun r => !decide (u.keyOf r = k)) else rowsOf S st u.name := rowsOf_map hS.nd hu
theorem less_ok (hS : SchOk S) (o : StOk S st) {nm : Txt} {k : List Worth} : StOk S (lessS S st nm k) := ⟨All2_map fun u hu => by
  obtain ⟨h1, h2⟩ := rows_ok hS.nd o hu
  by_cases e : u.name = nm
  · rw [if_pos e]
    exact ⟨fun r hr => h1 r (List.mem_filter.mp hr).1, Nat.le_trans (List.length_filter_le _ _) h2⟩
  · rw [if_neg e]
    exact ⟨h1, h2⟩⟩
theorem r_less (n : Nat) (hS : SchOk S) (o : StOk S st) {nm : Txt} (k : List Worth) : run T G (n + 5) "_law_less" [schD S, stD st, .str nm, kD k] = .ok (stD (lessS S st nm k)) := by
  refine wp_eq ?_
  rw [u__law_less]
  have ez : zipD (S.map Tab.d) (st.map rowsD) = S.map fun t => D.tup [t.d, rowsD (rowsOf S st t.name)] := by
    have : zipD (S.map Tab.d) (st.map rowsD) = (S.zip st).map fun p => D.tup [p.1.d, rowsD p.2] := zipD_map
    rw [this, zip_rows hS.nd o]
    simp
  simp
  refine ⟨⟨rfl, rfl⟩, ?_⟩
  rw [ez]
  refine wp_for (g := fun t : Tab => D.tup [t.d, rowsD (rowsOf S st t.name)]) (fun dn ρ => ∃ e5 e6 e7 : Option D, ρ = [some (schD S), some (stD st), some (.str nm), some (kD k), some (stD (dn.map fun u => if u.name = nm then (rowsOf S st u.name).filter (fun r => !decide (u.keyOf r = k)) else rowsOf S st u.name)), e5, e6, e7]) ⟨_, _, _, rfl⟩ ?_ ?_
  · rintro dn t td ρ hL ⟨e5, e6, e7, rfl⟩
    have ht : t ∈ S := by rw [hL]; simp
    have bt := hS.bare t ht
    obtain ⟨hr, hl⟩ := rows_ok hS.nd o ht
    have hlen := congrArg List.length hL
    have hf := hS.few
    simp at hlen
    by_cases e : t.name = nm
    · simp [e, rowsD, stD]
      refine wp_filRE (g := rowD) (p := fun r => !decide (t.keyOf r = k)) (h := rowD) (fun r hq => ?_) (fun r _ _ => by simp) ?_
      · rw [e] at hr
        have g1 : run T G (n + 4) "key_of" [t.d, rowD r] = .ok (kD (t.keyOf r)) := by
          refine wp_eq ?_
          rw [u_key_of]
          simp [r_row_key n bt (hr r hq)]
        simp [g1, eqOk]
      · refine ⟨by unfold SZ; omega, by simp [rowsD]⟩
    · simp [e, stD]
      unfold SZ
      omega
  · rintro ρ ⟨e5, e6, e7, rfl⟩
    simp [lessS]
/-- a check that a row breaks does not hang on the store -/
theorem less_brk (hS : SchOk S) {nm : Txt} {k : List Worth} {b : Brk} (h : b ∈ brkList S (lessS S st nm k)) {t : Tab} (ht : t ∈ S) {v : Tst} (hv : (Rl.check v, b.2.1) ∈ t.rules.zipIdx) (hb : b.1 = t.name) : b ∈ brkList S st ∧ (nm = t.name → b.2.2 ≠ k) := by
  obtain ⟨t2, ht2, u, hu, r, hr, hbr, e⟩ := mem_brk.mp h
  have en : b.1 = t2.name := by rw [e]
  have : t2 = t := name_inj hS.nd ht2 ht (by rw [← en, hb])
  subst this
  have eu := rule_one hu hv
  subst eu
  rw [less_rows hS ht] at hr
  have hr2 : r ∈ rowsOf S st t2.name := by
    split at hr
    · exact (List.mem_filter.mp hr).1
    · exact hr
  refine ⟨mem_brk.mpr ⟨t2, ht, _, hv, r, hr2, hbr, e⟩, fun z => ?_⟩
  rw [if_pos z.symm] at hr
  have := (List.mem_filter.mp hr).2
  rw [e]
  simpa using this
end
end Law
namespace Law
open Dt
/-! ### how many rows break a rule -/
abbrev Nd := Txt × Nat
def ndD (x : Nd) : D := .tup [.str x.1, .int (x.2 : Nat)]
@[simp] theorem ndD_eq {x y : Nd} : eqD (ndD x) (ndD y) = decide (x = y) := by
  obtain ⟨a, i⟩ := x
  obtain ⟨b, j⟩ := y
  simp [ndD]
  rw [Bool.eq_iff_iff]
  simp
  omega
@[simp] theorem ndD_key {x : Nd} : keyOk true (ndD x) = true := by simp [ndD, keyOk, D.keyBs, D.keyB]
@[simp] theorem ndD_frz {x : Nd} : (ndD x).frozen = true := rfl
def Brk.nd (b : Brk) : Nd := (b.1, b.2.1)
def cnt (L : List Brk) (x : Nd) : Nat := L.countP fun b => decide (b.nd = x)
theorem cnt_snoc {L : List Brk} {b : Brk} {x : Nd} : cnt (L ++ [b]) x = cnt L x + if b.nd = x then 1 else 0 := by
  unfold cnt
  rw [List.countP_append, List.countP_singleton]
  by_cases e : b.nd = x <;> simp [e]
def cntD (K : List Nd) (L : List Brk) : D := .dic true (K.map ndD) (K.map fun x => .int (cnt L x : Nat))
def addN (K : List Nd) (x : Nd) : List Nd := if x ∈ K then K else K ++ [x]
theorem find_nd {x : Nd} {f : Nd → D} : ∀ {K : List Nd}, findD (ndD x) (K.map ndD) (K.map f) = if x ∈ K then some (f x) else none
  | [] => rfl
  | y :: K => by
    show (if eqD (ndD y) (ndD x) then some (f y) else findD (ndD x) (K.map ndD) (K.map f)) = _
    rw [find_nd, ndD_eq]
    by_cases e : y = x
    · simp [e]
    · simp [e, Ne.symm e]
theorem set_nd {x : Nd} {v : D} {f : Nd → D} : ∀ {K : List Nd}, setD (ndD x) v (K.map ndD) (K.map f) = K.map fun y => if y = x then v else f y
  | [] => rfl
  | y :: K => by
    show (if eqD (ndD y) (ndD x) then v else f y) :: setD (ndD x) v (K.map ndD) (K.map f) = _
    rw [set_nd, ndD_eq]
    by_cases e : y = x <;> simp [e]
theorem cnt_zero {K : List Nd} {L : List Brk} (h : ∀ b ∈ L, b.nd ∈ K) {x : Nd} (hx : x ∉ K) : cnt L x = 0 := by
  unfold cnt
  rw [List.countP_eq_zero]
  intro b hb
  simp
  exact fun e => hx (by rw [← e]; exact h b hb)
theorem get_cnt {K : List Nd} {L : List Brk} (h : ∀ b ∈ L, b.nd ∈ K) {x : Nd} : (findD (ndD x) (K.map ndD) (K.map fun y => D.int (cnt L y : Nat))).getD (.int 0) = .int (cnt L x : Nat) := by
  rw [find_nd]
  by_cases e : x ∈ K
  · rw [if_pos e]; rfl
  · rw [if_neg e, cnt_zero h e]; rfl
theorem put_cnt {K : List Nd} {L : List Brk} (h : ∀ b ∈ L, b.nd ∈ K) {b : Brk} : putD (ndD b.nd) (.int ((cnt L b.nd : Nat) + 1)) (K.map ndD, K.map fun y => D.int (cnt L y : Nat)) = ((addN K b.nd).map ndD, (addN K b.nd).map fun y => D.int (cnt (L ++ [b]) y : Nat)) := by
  have e1 : ∀ y, y ≠ b.nd → cnt (L ++ [b]) y = cnt L y := fun y hy => by rw [cnt_snoc, if_neg (Ne.symm hy), Nat.add_zero]
  have e2 : cnt (L ++ [b]) b.nd = cnt L b.nd + 1 := by rw [cnt_snoc, if_pos rfl]
  unfold putD addN
  dsimp only
  rw [find_nd, set_nd]
  by_cases e : b.nd ∈ K
  · rw [if_pos e, if_pos e, if_pos (show (some (D.int (cnt L b.nd : Nat))).isSome = true from rfl)]
    congr 1
    refine List.map_congr_left fun y _ => ?_
    by_cases g : y = b.nd
    · rw [if_pos g, g, e2]
      simp
    · rw [if_neg g, e1 y g]
  · rw [if_neg e, if_neg e, if_neg (show ¬ (none : Option D).isSome = true from (by simp))]
    simp only [List.map_append, List.map_cons, List.map_nil, e2, Prod.mk.injEq, true_and]
    congr 1
    exact List.map_congr_left fun y hy => by rw [e1 y fun z => e (by rw [← z]; exact hy)]
theorem addN_mem {K : List Nd} {x y : Nd} : y ∈ addN K x ↔ y ∈ K ∨ y = x := by
  unfold addN
  split
  · rename_i h
    exact ⟨.inl, fun g => g.elim id fun e => e ▸ h⟩
  · simp
theorem addN_len {K : List Nd} {x : Nd} : (addN K x).length ≤ K.length + 1 := by
  unfold addN
  split <;> simp
theorem cnt_perm {L M : List Brk} (p : L.Perm M) {x : Nd} : cnt L x = cnt M x := p.countP_eq _
theorem nodup_le {α : Type} [DecidableEq α] : ∀ {l m : List α}, l.Nodup → (∀ x ∈ l, x ∈ m) → l.length ≤ m.length
  | [], _, _, _ => Nat.zero_le _
  | x :: l, m, h, hs => by
    rw [List.nodup_cons] at h
    have hx := hs x List.mem_cons_self
    have := nodup_le (m := m.erase x) h.2 fun y hy => (List.mem_erase_of_ne (fun e => h.1 (by rw [← e]; exact hy))).mpr (hs y (List.mem_cons_of_mem _ hy))
    rw [List.length_erase_of_mem hx] at this
    have := List.length_pos_of_mem hx
    simp only [List.length_cons]
    omega
section
variable {S : List Tab} {st : Store}
/-- of unlike two at least, or none -/
theorem unlike_two (hS : SchOk S) (o : StOk S st) (nd : ∀ t ∈ S, ((rowsOf S st t.name).map t.keyOf).Nodup) {b : Brk} (h : b ∈ brkList S st) {t : Tab} (ht : t ∈ S) (hb : b.1 = t.name) {c : List Txt} (hu : (Rl.unlike c, b.2.1) ∈ t.rules.zipIdx) : 2 ≤ cnt (brkList S st) b.nd := by
  obtain ⟨t2, ht2, u, hu2, r, hr, hbr, e⟩ := mem_brk.mp h
  have en : b.1 = t2.name := by rw [e]
  have : t2 = t := name_inj hS.nd ht2 ht (by rw [← en, hb])
  subst this
  have eu := rule_one hu2 hu
  subst eu
  cases hw : t2.wOf r c with
  | none => simp [brk, hw] at hbr
  | some k =>
    simp only [brk, hw] at hbr
    have h2 : 1 < (rowsOf S st t2.name).countP fun q => decide (t2.wOf q c = some k) := by simpa using hbr
    rw [List.countP_eq_length_filter] at h2

    have hin : ∀ x ∈ ((rowsOf S st t2.name).filter fun q => decide (t2.wOf q c = some k)).map (fun q => ((t2.name, b.2.1, t2.keyOf q) : Brk)), x ∈ (brkList S st).filter fun y => decide (y.nd = b.nd) := by
      intro x hx
      obtain ⟨q, hq, rfl⟩ := List.mem_map.mp hx
      obtain ⟨q1, q2⟩ := List.mem_filter.mp hq
      refine List.mem_filter.mpr ⟨mem_brk.mpr ⟨t2, ht2, _, hu, q, q1, ?_, rfl⟩, by simp [Brk.nd, en]⟩
      have q2 : t2.wOf q c = some k := by simpa using q2
      simp only [brk, q2]
      exact hbr
    have nd1 : (((rowsOf S st t2.name).filter fun q => decide (t2.wOf q c = some k)).map (fun q => ((t2.name, b.2.1, t2.keyOf q) : Brk))).Nodup := by
      have n0 := ((List.filter_sublist (p := fun q => decide (t2.wOf q c = some k)) (l := rowsOf S st t2.name)).map t2.keyOf).nodup (nd t2 ht2)
      rw [List.Nodup, List.pairwise_map] at n0 ⊢
      exact n0.imp fun hne e => hne (by simpa using e)
    have := nodup_le nd1 hin
    rw [List.length_map] at this
    unfold cnt
    rw [List.countP_eq_length_filter]
    omega
end
end Law
namespace Law
open Dt
/-! ### rows with other worths (the words of P41, P86, P87, P88 that need no def) -/
abbrev Pr := Txt × Worth
def Pr.d (p : Pr) : D := .tup [.str p.1, p.2.d]
def withR (t : Tab) (r : Row) (ps : List Pr) : Row := ps.foldl (fun r p => r.set (ixOf p.1 t.names) p.2) r
def prOk (t : Tab) (p : Pr) : Prop := p.1 ∈ t.names ∧ ∀ c ∈ t.cols, c.name = p.1 → wOk c p.2
theorem All2.set {α β : Type} {P : α → β → Prop} : ∀ {l : List α} {m : List β} {i : Nat} {y : β}, All2 P l m → (∀ x, l[i]? = some x → P x y) → All2 P l (m.set i y)
  | _, _, i, y, .nil, _ => by simpa using All2.nil
  | _, _, 0, y, .cons a r, h => .cons (h _ rfl) r
  | _, _, i + 1, y, .cons a r, h => .cons a (Law.All2.set r fun x hx => h x (by simpa using hx))
theorem set_ok {t : Tab} (b : t.bare) {r : Row} (h : rowOk t r) {p : Pr} (hp : prOk t p) : rowOk t (r.set (ixOf p.1 t.names) p.2) := by
  refine Law.All2.set h fun c hc => ?_
  have g := ixOf_get hp.1
  have e : c.name = p.1 := by
    unfold Tab.names at g
    rw [List.getElem?_map] at g
    unfold Tab.names at hc
    rw [hc] at g
    simpa using g
  exact hp.2 c (List.mem_of_getElem? hc) e
theorem with_ok {t : Tab} (b : t.bare) : ∀ {ps : List Pr} {r : Row}, rowOk t r → (∀ p ∈ ps, prOk t p) → rowOk t (withR t r ps)
  | [], _, h, _ => h
  | p :: ps, r, h, hp => with_ok b (ps := ps) (set_ok b h (hp p List.mem_cons_self)) fun q hq => hp q (List.mem_cons_of_mem _ hq)
/-- the last worth for a name -/
def lastOf : List Pr → Txt → Option Worth
  | [], _ => none
  | p :: ps, n => match lastOf ps n with
    | some w => some w
    | none => if p.1 = n then some p.2 else none
/-- the row under the words of a book -/
def wrow (t : Tab) (r : Row) (f : Txt → Option Worth) : Row := (t.names.zip r).map fun p => (f p.1).getD p.2
theorem wrow_get {t : Tab} {r : Row} (h : t.names.length = r.length) {f : Txt → Option Worth} {i : Nat} : (wrow t r f)[i]? = match t.names[i]?, r[i]? with
    | some n, some w => some ((f n).getD w)
    | _, _ => none := by
  unfold wrow
  rw [List.getElem?_map]
  cases h1 : t.names[i]? with
  | none =>
    have : (t.names.zip r)[i]? = none := by
      rw [List.getElem?_eq_none_iff] at h1 ⊢
      rw [List.length_zip]
      omega
    rw [this]
    rfl
  | some n =>
    cases h2 : r[i]? with
    | none =>
      rw [List.getElem?_eq_none_iff] at h2
      have := (List.getElem?_eq_some_iff.mp h1).1
      omega
    | some w =>
      have : (t.names.zip r)[i]? = some (n, w) := by
        rw [List.getElem?_zip_eq_some]
        exact ⟨h1, h2⟩
      rw [this]
      rfl
theorem ixOf_at {x : Txt} : ∀ {l : List Txt} {i : Nat}, l.Nodup → l[i]? = some x → ixOf x l = i
  | y :: l, 0, _, h => by
    have : y = x := by simpa using h
    unfold ixOf
    rw [if_pos this]
  | y :: l, i + 1, nd, h => by
    rw [List.nodup_cons] at nd
    have h : l[i]? = some x := by simpa using h
    unfold ixOf
    rw [if_neg (fun e => nd.1 (by rw [e]; exact List.mem_of_getElem? h)), ixOf_at nd.2 h]
theorem withR_w {t : Tab} (b : t.bare) : ∀ {ps : List Pr} {r : Row}, t.names.length = r.length → (∀ p ∈ ps, p.1 ∈ t.names) → withR t r ps = wrow t r (lastOf ps)
  | [], r, h, _ => by
    refine List.ext_getElem? fun i => ?_
    rw [wrow_get h]
    show r[i]? = _
    cases h1 : t.names[i]? with
    | none =>
      rw [List.getElem?_eq_none_iff] at h1
      exact List.getElem?_eq_none_iff.mpr (by omega)
    | some n =>
      cases h2 : r[i]? with
      | none => rfl
      | some w => rfl
  | p :: ps, r, h, hp => by
    have hn := hp p List.mem_cons_self
    have h2 : t.names.length = (r.set (ixOf p.1 t.names) p.2).length := by simpa using h
    show withR t (r.set (ixOf p.1 t.names) p.2) ps = _
    rw [withR_w b h2 fun q hq => hp q (List.mem_cons_of_mem _ hq)]
    refine List.ext_getElem? fun i => ?_
    rw [wrow_get h, wrow_get h2, List.getElem?_set]
    by_cases hi : ixOf p.1 t.names = i
    · subst hi
      have hlt := ixOf_lt hn
      rw [if_pos rfl, if_pos (by omega), ixOf_get hn, List.getElem?_eq_getElem (by omega)]
      simp only [lastOf]
      cases lastOf ps p.1 <;> simp
    · rw [if_neg hi]
      cases h1 : t.names[i]? with
      | none => rfl
      | some n =>
        cases h2 : r[i]? with
        | none => rfl
        | some w =>
          have ne : p.1 ≠ n := fun e => hi (ixOf_at b.nd (by rw [e]; exact h1))
          simp only [lastOf]
          cases lastOf ps n <;> simp [ne]
def findP (B : List Pr) (n : Txt) : Option Worth := (B.find? fun p => decide (p.1 = n)).map Prod.snd
def setP (B : List Pr) (n : Txt) (w : Worth) : List Pr := if (B.find? fun p => decide (p.1 = n)).isSome then B.map (fun p => if p.1 = n then (p.1, w) else p) else B ++ [(n, w)]
def bkD (B : List Pr) : D := .dic false (B.map fun p => .str p.1) (B.map fun p => p.2.d)
def bookOf (ps : List Pr) : List Pr := ps.foldl (fun B p => setP B p.1 p.2) []
theorem find_bk {n : Txt} : ∀ {B : List Pr}, findD (.str n) (B.map fun p => .str p.1) (B.map fun p => p.2.d) = (findP B n).map Worth.d
  | [] => rfl
  | p :: B => by
    show (if eqD (.str p.1) (.str n) then some p.2.d else findD (.str n) (B.map fun p => .str p.1) (B.map fun p => p.2.d)) = _
    unfold findP
    by_cases e : p.1 = n
    · rw [List.find?_cons_of_pos (by simpa using e)]
      simp [e]
    · rw [List.find?_cons_of_neg (by simpa using e), find_bk]
      simp [e, findP]
theorem set_bk {n : Txt} {w : Worth} : ∀ {B : List Pr}, setD (.str n) w.d (B.map fun p => .str p.1) (B.map fun p => p.2.d) = (B.map fun p => if p.1 = n then (p.1, w) else p).map fun p => p.2.d
  | [] => rfl
  | p :: B => by
    show (if eqD (.str p.1) (.str n) then w.d else p.2.d) :: setD (.str n) w.d (B.map fun p => .str p.1) (B.map fun p => p.2.d) = _
    rw [set_bk]
    by_cases e : p.1 = n <;> simp [e]
theorem put_bk {n : Txt} {w : Worth} {B : List Pr} : putD (.str n) w.d (B.map (fun p => .str p.1), B.map fun p => p.2.d) = ((setP B n w).map (fun p => .str p.1), (setP B n w).map fun p => p.2.d) := by
  unfold putD setP
  dsimp only
  rw [find_bk, Option.isSome_map]
  unfold findP
  rw [Option.isSome_map]
  cases h : (B.find? fun p => decide (p.1 = n)).isSome with
  | true =>
    rw [if_pos rfl, if_pos rfl, set_bk]
    congr 1
    rw [List.map_map]
    refine List.map_congr_left fun q _ => ?_
    show _ = D.str (if q.1 = n then (q.1, w) else q).1
    by_cases e : q.1 = n <;> simp [e]
  | false =>
    rw [if_neg (by simp), if_neg (by simp)]
    simp
theorem fold_bk : ∀ (ps B : List Pr), (ps.map fun p => (D.str p.1, p.2.d)).foldl (fun d p => putD p.1 p.2 d) (B.map (fun p => .str p.1), B.map fun p => p.2.d) = ((ps.foldl (fun B p => setP B p.1 p.2) B).map (fun p => .str p.1), (ps.foldl (fun B p => setP B p.1 p.2) B).map fun p => p.2.d)
  | [], _ => rfl
  | p :: ps, B => by
    rw [List.map_cons, List.foldl_cons, List.foldl_cons, put_bk]
    exact fold_bk ps _
theorem merge_bk (ps : List Pr) : mergeD (ps.map fun p => (D.str p.1, p.2.d)) = ((bookOf ps).map (fun p => .str p.1), (bookOf ps).map fun p => p.2.d) := fold_bk ps []
theorem pairs_bk : ∀ ps : List Pr, pairsD (ps.map Pr.d) = some (ps.map fun p => (D.str p.1, p.2.d))
  | [] => rfl
  | p :: ps => by
    show (match pairsD (ps.map Pr.d) with
      | some t => some ((D.str p.1, p.2.d) :: t)
      | none => none) = _
    rw [pairs_bk ps]
    rfl
theorem findP_set {B : List Pr} {n m : Txt} {w : Worth} : findP (setP B n w) m = if n = m then some w else findP B m := by
  unfold setP
  cases h : (B.find? fun p => decide (p.1 = n)).isSome with
  | true =>
    rw [if_pos rfl]
    unfold findP
    induction B with
    | nil => cases h
    | cons p B ih =>
      rw [List.map_cons]
      by_cases e : p.1 = n
      · rw [if_pos e]
        by_cases g : n = m
        · rw [List.find?_cons_of_pos (by simp [e, g]), if_pos g]
          rfl
        · rw [List.find?_cons_of_neg (by simp [e, g]), List.find?_cons_of_neg (by simp [e, g]), if_neg g]
          clear h ih
          induction B with
          | nil => rfl
          | cons q B ih =>
            rw [List.map_cons]
            by_cases e2 : q.1 = n
            · rw [if_pos e2, List.find?_cons_of_neg (by simp [e2, g]), List.find?_cons_of_neg (by simp [e2, g]), ih]
            · rw [if_neg e2]
              by_cases e3 : q.1 = m
              · rw [List.find?_cons_of_pos (by simpa using e3), List.find?_cons_of_pos (by simpa using e3)]
              · rw [List.find?_cons_of_neg (by simpa using e3), List.find?_cons_of_neg (by simpa using e3), ih]
      · rw [if_neg e]
        rw [List.find?_cons_of_neg (by simpa using e)] at h
        have ih := ih h
        by_cases e3 : p.1 = m
        · rw [List.find?_cons_of_pos (by simpa using e3), List.find?_cons_of_pos (by simpa using e3), if_neg (fun z => e (by rw [e3, z]))]
        · rw [List.find?_cons_of_neg (by simpa using e3), List.find?_cons_of_neg (by simpa using e3), ih]
  | false =>
    rw [if_neg (by simp)]
    unfold findP
    rw [List.find?_append]
    by_cases g : n = m
    · subst g
      have hn : B.find? (fun p => decide (p.1 = n)) = none := by
        cases q : B.find? fun p => decide (p.1 = n) with
        | none => rfl
        | some p => rw [q] at h; cases h
      rw [hn]
      simp
    · rw [if_neg g]
      simp [g]
theorem findP_fold : ∀ (ps B : List Pr) (n : Txt), findP (ps.foldl (fun B p => setP B p.1 p.2) B) n = match lastOf ps n with
    | some w => some w
    | none => findP B n
  | [], _, _ => rfl
  | p :: ps, B, n => by
    rw [List.foldl_cons, findP_fold ps, findP_set]
    simp only [lastOf]
    cases lastOf ps n with
    | some w => rfl
    | none => by_cases e : p.1 = n <;> simp [e]
theorem findP_book {ps : List Pr} : findP (bookOf ps) = lastOf ps := by
  funext n
  unfold bookOf
  rw [findP_fold]
  cases lastOf ps n <;> rfl
theorem wrow_at {t : Tab} (b : t.bare) {r : Row} (h : t.names.length = r.length) {f : Txt → Option Worth} {n : Txt} (hn : n ∈ t.names) : t.at (wrow t r f) n = (f n).getD (t.at r n) := by
  have hl := ixOf_lt hn
  unfold Tab.at
  rw [wrow_get h, ixOf_get hn, List.getElem?_eq_getElem (by omega)]
  rfl
end Law
namespace Law
open Dt
/-! ### a row with just the key that is referred to -/
theorem lastOf_not {ps : List Pr} {n : Txt} (h : n ∉ ps.map Prod.fst) : lastOf ps n = none := by
  induction ps with
  | nil => rfl
  | cons p ps ih =>
    rw [List.map_cons, List.mem_cons, not_or] at h
    simp only [lastOf]
    rw [ih h.2, if_neg fun e => h.1 e.symm]
theorem lastOf_zip : ∀ {K : List Txt} {W : List Worth} {i : Nat} {n : Txt} {w : Worth}, K.Nodup → K.length = W.length → K[i]? = some n → W[i]? = some w → lastOf (K.zip W) n = some w
  | [], _, _, _, _, _, _, h, _ => by simp at h
  | x :: K, [], _, _, _, _, hl, _, _ => by simp at hl
  | x :: K, y :: W, 0, n, w, nd, hl, h1, h2 => by
    have e1 : x = n := by simpa using h1
    have e2 : y = w := by simpa using h2
    subst e1 e2
    rw [List.nodup_cons] at nd
    rw [List.zip_cons_cons]
    simp only [lastOf]
    have : x ∉ (K.zip W).map Prod.fst := fun hm => by
      obtain ⟨p, hp, rfl⟩ := List.mem_map.mp hm
      exact nd.1 (List.of_mem_zip hp).1
    rw [lastOf_not this]
    simp
  | x :: K, y :: W, i + 1, n, w, nd, hl, h1, h2 => by
    rw [List.nodup_cons] at nd
    have ih := lastOf_zip (K := K) (W := W) (i := i) nd.2 (by simpa using hl) (by simpa using h1) (by simpa using h2)
    rw [List.zip_cons_cons]
    simp only [lastOf]
    rw [ih]
/-- the row with the key k -/
def moreR (v : Tab) (m : Row) (k : List Worth) : Row := wrow v m (lastOf (v.key.zip k))
theorem more_key {v : Tab} (b : v.bare) {m : Row} (h : rowOk v m) {k : List Worth} (hl : k.length = v.key.length) : v.keyOf (moreR v m k) = k := by
  unfold Tab.keyOf moreR
  refine List.ext_getElem? fun i => ?_
  rw [List.getElem?_map]
  cases h1 : v.key[i]? with
  | none =>
    have : v.key.length ≤ i := List.getElem?_eq_none_iff.mp h1
    rw [List.getElem?_eq_none (by omega)]
    rfl
  | some n =>
    have hi := (List.getElem?_eq_some_iff.mp h1).1
    have h2 : k[i]? = some k[i] := List.getElem?_eq_getElem (by omega)
    have hn : n ∈ v.names := key_names b n (List.mem_of_getElem? h1)
    show some (v.at (wrow v m (lastOf (v.key.zip k))) n) = _
    rw [wrow_at b (row_len h) hn, lastOf_zip b.keyD hl.symm h1 h2, h2]
    rfl
theorem more_ok {v : Tab} (b : v.bare) {m : Row} (h : rowOk v m) {k : List Worth} (hk : ∀ p ∈ v.key.zip k, prOk v p) : rowOk v (moreR v m k) := by
  unfold moreR
  rw [← withR_w b (row_len h) fun p hp => (hk p hp).1]
  exact with_ok b h hk
/-- the worths of one row fit the key of another table -/
theorem fits {S : List Tab} (hS : SchOk S) {t v : Tab} (ht : t ∈ S) (hv : v ∈ S) {r : Row} (hr : rowOk t r) {c : List Txt} (hc : ∀ x ∈ c, x ∈ t.names) (hl : c.length = v.key.length) (hk : t.kinds c = v.kinds v.key) (hg : Worth.gap ∉ c.map (t.at r)) : ∀ p ∈ v.key.zip (c.map (t.at r)), prOk v p := by
  intro p hp
  have bt := hS.bare t ht
  have bv := hS.bare v hv
  obtain ⟨i, hi⟩ := List.mem_iff_getElem?.mp hp
  obtain ⟨h1, h2⟩ := List.getElem?_zip_eq_some.mp hi
  rw [List.getElem?_map] at h2
  cases h3 : c[i]? with
  | none => rw [h3] at h2; cases h2
  | some x =>
    rw [h3] at h2
    have h2 : t.at r x = p.2 := Option.some.inj h2
    have hx := hc x (List.mem_of_getElem? h3)
    have hn := key_names bv p.1 (List.mem_of_getElem? h1)
    refine ⟨hn, fun d hd hdn => ?_⟩
    obtain ⟨_, e, he, en, we⟩ := at_ok hr hx
    have ek : (t.cols.find? fun c => decide (c.name = x)).map Col.text = (v.cols.find? fun c => decide (c.name = p.1)).map Col.text := by
      have := congrArg (fun l => l[i]?) hk
      unfold Tab.kinds at this
      simp only [List.getElem?_map, h1, h3] at this
      exact Option.some.inj this
    have f1 := find_col bt.nd he
    have f2 := find_col bv.nd hd
    rw [en] at f1
    rw [hdn] at f2
    rw [f1, f2] at ek
    have ek : e.text = d.text := Option.some.inj ek
    rw [← h2]
    cases hw : t.at r x with
    | gap => exact absurd (List.mem_map.mpr ⟨x, List.mem_of_getElem? h3, hw⟩) hg
    | num j =>
      rw [hw] at we
      exact ⟨ek ▸ we.1, we.2⟩
    | txt s =>
      rw [hw] at we
      exact ⟨ek ▸ we.1, we.2⟩
section
variable {S : List Tab} {st : Store}
def moreS (S : List Tab) (st : Store) (v : Tab) (m : Row) : Store := S.map fun u => if u.name = v.name then (rowsOf S st u.name ++ [m]).mergeSort v.leR else rowsOf S st u.name
theorem more_rows (hS : SchOk S) {v : Tab} {m : Row} {u : Tab} (hu : u ∈ S) : rowsOf S (moreS S st v m) u.name = if u.name = v.name then (rowsOf S st u.name ++ [m]).mergeSort v.leR else rowsOf S st u.name := rowsOf_map hS.nd hu
theorem moreS_ok (hS : SchOk S) (o : StOk S st) {v : Tab} (hv : v ∈ S) {m : Row} (hm : rowOk v m) (hl : (rowsOf S st v.name).length < 1000) : StOk S (moreS S st v m) := ⟨All2_map fun u hu => by
  obtain ⟨h1, h2⟩ := rows_ok hS.nd o hu
  by_cases e : u.name = v.name
  · rw [if_pos e]
    have : u = v := name_inj hS.nd hu hv e
    subst this
    have p := List.mergeSort_perm (rowsOf S st u.name ++ [m]) u.leR
    refine ⟨fun r hr => ?_, by rw [p.length_eq, List.length_append, List.length_singleton]; omega⟩
    have := p.mem_iff.mp hr
    rw [List.mem_append, List.mem_singleton] at this
    rcases this with this | rfl
    · exact h1 r this
    · exact hm
  · rw [if_neg e]
    exact ⟨h1, h2⟩⟩
theorem mended (hS : SchOk S) (o : StOk S st) (nd : ∀ t ∈ S, ((rowsOf S st t.name).map t.keyOf).Nodup) {t : Tab} (ht : t ∈ S) {c : List Txt} {v : Tab} (hv : v ∈ S) {w : Txt} {i : Nat} (hu : (Rl.refers c v.name w, i) ∈ t.rules.zipIdx) {r : Row} (hr : r ∈ rowsOf S st t.name) {k : List Worth} (hw : t.wOf r c = some k)
    (hk : k ∉ (rowsOf S st v.name).map v.keyOf) {m : Row} (hm : v.keyOf m = k) : ((t.name, i, t.keyOf r) : Brk) ∉ brkList S (moreS S st v m) := by
  intro h
  obtain ⟨t2, ht2, u, hu2, q, hq, hb, e⟩ := mem_brk.mp h
  have en : t.name = t2.name := congrArg Prod.fst e
  have : t = t2 := name_inj hS.nd ht ht2 en
  subst this
  have eu := rule_one hu2 hu
  subst eu
  have ek : t.keyOf r = t.keyOf q := congrArg (fun b : Brk => b.2.2) e
  have hqr : q = r := by
    have key : ∀ q' ∈ rowsOf S st t.name, t.keyOf r = t.keyOf q' → q' = r := fun q' hq' e => by
      have f1 := find_key (nd t ht) hr
      have f2 := find_key (nd t ht) hq'
      rw [e, f2] at f1
      exact Option.some.inj f1
    rw [more_rows hS ht] at hq
    split at hq
    · rename_i e2
      have : t = v := name_inj hS.nd ht hv e2
      subst this
      have := (List.mergeSort_perm _ _).mem_iff.mp hq
      rw [List.mem_append, List.mem_singleton] at this
      rcases this with this | rfl
      · exact key q this ek
      · exact absurd (List.mem_map.mpr ⟨r, hr, by rw [ek, hm]⟩) hk
    · exact key q hq ek
  subst hqr
  simp only [brk, hw] at hb
  have hb : k ∉ keysOf S (moreS S st v m) v.name := by simpa using hb
  rw [keysOf_eq hS.nd hv, more_rows hS hv, if_pos rfl] at hb
  exact hb (List.mem_map.mpr ⟨m, (List.mergeSort_perm _ _).mem_iff.mpr (by simp), hm⟩)
end
end Law
namespace Law
open Dt
def depth : Nat := 14
def k21Env (ns : List Int) (S : List Tab) (st : Store) (e4 e5 e6 e7 e8 e9 e10 e11 e12 e13 e14 e15 e16 e17 e18 e19 e20 e21 e22 : Option D) : EnvD := [some (.scr (ns.map .int)), some (schD S), some (stD st), some (.tup ((srtB (brkList S st)).map bD)), e4, e5, e6, e7, e8, e9, e10, e11, e12, e13, e14, e15, e16, e17, e18, e19, e20, e21, e22]
theorem loose_nd {S : List Tab} (hS : SchOk S) {st : Store} (h : Loose S st) : ∀ t ∈ S, ((rowsOf S st t.name).map t.keyOf).Nodup ∧ (rowsOf S st t.name).length ≤ 4 := fun t ht => by
  obtain ⟨i, hi, e⟩ := List.mem_iff_getElem.mp ht
  have e2 : S[i]? = some t := by rw [List.getElem?_eq_getElem hi, e]
  obtain ⟨rs, h1, h2⟩ := Law.All2.at h.nd e2
  have : rowsOf S st t.name = rs := by
    unfold rowsOf
    rw [names_at hS.nd e2, h1]
    rfl
  rw [this]
  exact ⟨h2.1, h2.2.1⟩
/-- is it a check that is broken -/
def chkB (S : List Tab) (y : Brk) : Bool := match (S.find? fun t => decide (t.name = y.1)).bind fun t => t.rules[y.2.1]? with
  | some (.check _) => true
  | _ => false
theorem chkB_eq {S : List Tab} (hS : SchOk S) {y : Brk} {t : Tab} (ht : t ∈ S) (e : y.1 = t.name) {u : Rl} (hu : (u, y.2.1) ∈ t.rules.zipIdx) : chkB S y = decide (rkind u = tx "check") := by
  unfold chkB
  rw [e, find_name hS.nd ht]
  rw [List.mem_zipIdx_iff_getElem?] at hu
  show (match t.rules[y.2.1]? with
    | some (.check _) => true
    | _ => false) = _
  rw [hu]
  cases u <;> simp [rkind]
def CntI (K : List Nd) (L : List Brk) : Prop := (∀ b ∈ L, b.nd ∈ K) ∧ (∀ x ∈ K, ∃ b ∈ L, b.nd = x) ∧ K.length ≤ L.length
theorem filter_key {t : Tab} {rs : List Row} (nd : (rs.map t.keyOf).Nodup) {r : Row} (h : r ∈ rs) : rs.filter (fun q => decide (t.keyOf q = t.keyOf r)) = [r] := by
  induction rs with
  | nil => cases h
  | cons q rs ih =>
    rw [List.map_cons, List.nodup_cons] at nd
    by_cases e : t.keyOf q = t.keyOf r
    · rw [List.filter_cons_of_pos (by simpa using e)]
      have hn : rs.filter (fun q => decide (t.keyOf q = t.keyOf r)) = [] := List.filter_eq_nil_iff.mpr fun z hz => by
        simp
        exact fun ez => nd.1 (List.mem_map.mpr ⟨z, hz, by rw [ez, e]⟩)
      rw [hn]
      rcases List.mem_cons.mp h with rfl | h
      · rfl
      · exact absurd (List.mem_map.mpr ⟨r, h, e.symm⟩) nd.1
    · rw [List.filter_cons_of_neg (by simpa using e)]
      rcases List.mem_cons.mp h with rfl | h
      · exact absurd rfl e
      · exact ih nd.2 h
theorem it_kD {k : List Worth} : itD (kD k) = .ok (k.map Worth.d) := rfl
theorem bs_ne {l : List Brk} : eqDs (l.map bD) [] = decide (l = []) := by cases l <;> rfl
theorem holds : ∀ ns : List Int, ns.length ≤ 63 → run T G depth "law" [.scr (ns.map .int)] = .ok (.bl true) := by
  intro ns _
  refine wp_eq ?_
  show Wp (run T G (13 + 1) _ _) _ _
  rw [u_law]
  obtain ⟨a, ha, _, h1⟩ := r_mixed 11 ns 0 (by decide)
  obtain ⟨b, hb, _, h2⟩ := r_mixed 11 ns 1 (by decide)
  obtain ⟨c0, hc0, _, h3⟩ := r_mixed 11 ns 2 (by decide)
  obtain ⟨S, h4, hS⟩ := r_schema 7 a ha
  obtain ⟨st, h5, hl⟩ := r_loose 10 hS b hb
  have o := hl.ok
  have nd := fun t ht => (loose_nd hS hl t ht).1
  have l4 := fun t ht => (loose_nd hS hl t ht).2
  have h6 : ∀ {st : Store}, StOk S st → run T G 13 "breaks" [schD S, stD st] = .ok (.tup ((srtB (brkList S st)).map bD)) := fun o => by
    have := r_breaks 6 hS o
    rw [sort_brks] at this
    exact this
  have h7 := h6 o
  have tab : ∀ {t : Tab}, t ∈ S → run T G 13 "_law_table" [schD S, .str t.name] = .ok t.d := fun ht => r_ltable 12 hS.nd ht
  have look : ∀ {st' : Store} {x : Brk}, x ∈ srtB (brkList S st') → ∃ t ∈ S, ∃ u, (u, x.2.1) ∈ t.rules.zipIdx ∧ x.1 = t.name ∧ nth (t.rules.map Rl.d) (x.2.1 : Int) = some u.d ∧ ∃ r ∈ rowsOf S st' t.name, brk S st' t u r = true ∧ x.2.2 = t.keyOf r := fun {st' x} hx => by
    obtain ⟨t, ht, u, hu, r, hr, hbr, e⟩ := mem_brk.mp ((srtB_perm _).mem_iff.mp hx)
    exact ⟨t, ht, u, hu, by rw [e], (rule_at hu).2, r, hr, hbr, by rw [e]⟩
  have hmem : ∀ {x : Brk}, x ∈ srtB (brkList S st) ↔ x ∈ brkList S st := (srtB_perm _).mem_iff
  simp [h1, h2, h4, h5, h7]
  refine wp_for (g := bD) (fun dn ρ => ∃ (K : List Nd) (e5 e6 e7 e8 e9 e10 e11 e12 e13 e14 e15 e16 e17 e18 e19 e20 e21 e22 : Option D), ρ = k21Env ns S st (some (cntD K dn)) e5 e6 e7 e8 e9 e10 e11 e12 e13 e14 e15 e16 e17 e18 e19 e20 e21 e22 ∧ CntI K dn) ⟨[], _, _, _, _, _, _, _, _, _, _, _, _, _, _, _, _, _, _, rfl, by simp [CntI]⟩ ?_ ?_
  · rintro dn x td ρ hL ⟨K, e5, e6, e7, e8, e9, e10, e11, e12, e13, e14, e15, e16, e17, e18, e19, e20, e21, e22, rfl, hI⟩
    obtain ⟨hK1, hK2, hK3⟩ := id hI
    have hx : x ∈ srtB (brkList S st) := by rw [hL]; simp
    obtain ⟨t, ht, u, hu, hn1, hn2, r, hr, hbr, hkey⟩ := look hx
    have g2 := tab ht
    have hlen : dn.length < 16001 := by
      have h1 := congrArg List.length hL
      have h2 := (srtB_perm (brkList S st)).length_eq
      have h3 := brk_len hS o
      rw [List.length_append, List.length_cons] at h1
      omega
    have hnd : D.tup [.str t.name, .int (x.2.1 : Nat)] = ndD x.nd := by rw [← hn1]; rfl
    have gc := get_cnt hK1 (x := x.nd)
    have pc := put_cnt hK1 (b := x)
    have inv : CntI (addN K x.nd) (dn ++ [x]) := by
      refine ⟨fun b hb => ?_, fun y hy => ?_, ?_⟩
      · rw [List.mem_append, List.mem_singleton] at hb
        rcases hb with hb | rfl
        · exact addN_mem.mpr (.inl (hK1 b hb))
        · exact addN_mem.mpr (.inr rfl)
      · rcases addN_mem.mp hy with hy | rfl
        · obtain ⟨b, hb, e⟩ := hK2 y hy
          exact ⟨b, by simp [hb], e⟩
        · exact ⟨x, by simp, rfl⟩
      · have := addN_len (K := K) (x := x.nd)
        rw [List.length_append, List.length_singleton]
        omega
    have hrk : ixD u.d (.int 0) = .ok (.str (rkind u)) := rl_kind
    unfold k21Env
    simp [bD, hn1, g2, hn2, cntD, hnd, gc, pc, hrk]
    refine ⟨?_, ?_⟩
    · rfl
    · refine ⟨by unfold SZ; omega, fun hchk => ?_, fun hchk => ?_⟩
      · cases u with
        | unlike c => simp [rkind] at hchk
        | refers c g w => simp [rkind] at hchk
        | check v =>
          have g3 : run T G 13 "_law_less" [schD S, stD st, .str t.name, kD x.2.2] = _ := r_less 8 hS o x.2.2
          have o' := less_ok (nm := t.name) (k := x.2.2) hS o
          have g4 := h6 o'
          have hbx : D.tup [.str t.name, .int (x.2.1 : Nat), kD x.2.2] = bD x := by rw [← hn1]; rfl
          have hno : x ∉ srtB (brkList S (lessS S st t.name x.2.2)) := fun z => (less_brk hS ((srtB_perm _).mem_iff.mp z) ht hu hn1).2 rfl rfl
          simp [-in_tup, g3, g4, hbx, in_bT, hno]
          refine wp_filRE (g := bD) (p := chkB S) (h := bD) (fun y hy => ?_) (fun y _ _ => by simp) ?_
          · obtain ⟨t2, ht2, u2, hu2, m1, m2, _⟩ := look hy
            rw [chkB_eq hS ht2 m1 hu2]
            simp [bD, m1, tab ht2, m2, rl_kind]
          · refine wp_filRE (g := bD) (p := fun y => !decide (y ∈ srtB (brkList S st))) (h := bD) (fun y hy => ?_) (fun y _ _ => by simp) ?_
            · have e := any_bD (l := srtB (brkList S st)) (x := y)
              rw [List.any_map] at e
              simp
              exact ⟨bDs_plain, e⟩
            · rw [List.filter_eq_nil_iff.mpr fun y hy => ?_]
              · exact ⟨rfl, rfl, fun _ => ⟨addN K x.nd, ⟨rfl, rfl⟩, inv⟩⟩
              · obtain ⟨y1, y2⟩ := List.mem_filter.mp hy
                obtain ⟨t2, ht2, u2, hu2, m1, m2, _⟩ := look y1
                rw [chkB_eq hS ht2 m1 hu2] at y2
                cases u2 with
                | check v2 =>
                  have := (less_brk hS ((srtB_perm _).mem_iff.mp y1) ht2 hu2 m1).1
                  simp [hmem.mpr this]
                | unlike c => simp [rkind] at y2
                | refers c g w => simp [rkind] at y2
      · exact ⟨addN K x.nd, ⟨rfl, rfl⟩, inv⟩
  · rintro ρ ⟨K, e5, e6, e7, e8, e9, e10, e11, e12, e13, e14, e15, e16, e17, e18, e19, e20, e21, e22, rfl, hI⟩
    obtain ⟨hK1, hK2, hK3⟩ := id hI
    unfold k21Env
    simp [cntD]
    refine wp_for (g := ndD) (fun _ ρ => ∃ e5 e6 e7 e8 e9 e10 e11 e12 e13 e14 e15 e16 e17 e18 e19 e20 e21 e22 : Option D, ρ = k21Env ns S st (some (cntD K (srtB (brkList S st)))) e5 e6 e7 e8 e9 e10 e11 e12 e13 e14 e15 e16 e17 e18 e19 e20 e21 e22) ⟨_, _, _, _, _, _, _, _, _, _, _, _, _, _, _, _, _, _, rfl⟩ ?_ ?_
    · rintro dn x td ρ hL ⟨e5, e6, e7, e8, e9, e10, e11, e12, e13, e14, e15, e16, e17, e18, e19, e20, e21, e22, rfl⟩
      have hxK : x ∈ K := by rw [hL]; simp
      obtain ⟨b, hb, rfl⟩ := hK2 x hxK
      obtain ⟨t, ht, u, hu, hn1, hn2, r, hr, hbr, hkey⟩ := look hb
      have g2 := tab ht
      have hrk : ixD u.d (.int 0) = .ok (.str (rkind u)) := rl_kind
      have hnd : D.tup [.str t.name, .int (b.2.1 : Nat)] = ndD b.nd := by rw [← hn1]; rfl
      have fi := find_nd (x := b.nd) (f := fun y => D.int (cnt (srtB (brkList S st)) y : Nat)) (K := K)
      rw [if_pos hxK] at fi
      have two : rkind u = tx "unlike" → 2 ≤ cnt (srtB (brkList S st)) b.nd := fun e => by
        cases u with
        | unlike c =>
          rw [cnt_perm (srtB_perm _)]
          exact unlike_two hS o nd (hmem.mp hb) ht hn1 hu
        | check v => simp [rkind] at e
        | refers c g w => simp [rkind] at e
      have e0 : ndD b.nd = D.tup [.str t.name, .int (b.2.1 : Nat)] := hnd.symm
      have hbind : ∀ ρ : EnvD, bindT (.tp [5, 6]) (ndD b.nd) ρ = setAll [5, 6] [.str t.name, .int (b.2.1 : Nat)] ρ := fun ρ => by rw [e0]; rfl
      unfold k21Env
      simp [g2, hn2, hrk, cntD, hnd, fi, hbind]
      exact fun e => by
        have := two e
        omega
    · rintro ρ ⟨e5, e6, e7, e8, e9, e10, e11, e12, e13, e14, e15, e16, e17, e18, e19, e20, e21, e22, rfl⟩
      unfold k21Env
      simp
      refine wp_for (g := bD) (fun _ ρ => ∃ e4 e5 e6 e7 e8 e9 e10 e11 e12 e13 e14 e15 e16 e17 e18 e19 e20 e21 e22 : Option D, ρ = k21Env ns S st e4 e5 e6 e7 e8 e9 e10 e11 e12 e13 e14 e15 e16 e17 e18 e19 e20 e21 e22) ⟨_, _, _, _, _, _, _, _, _, _, _, _, _, _, _, _, _, _, _, rfl⟩ ?_ ?_
      · rintro dn x td ρ hL ⟨e4, e5, e6, e7, e8, e9, e10, e11, e12, e13, e14, e15, e16, e17, e18, e19, e20, e21, e22, rfl⟩
        have hx : x ∈ srtB (brkList S st) := by rw [hL]; simp
        obtain ⟨t, ht, u, hu, hn1, hn2, r, hr, hbr, hkey⟩ := look hx
        have g2 := tab ht
        have bt := hS.bare t ht
        obtain ⟨hrow, hlen⟩ := rows_ok hS.nd o ht
        unfold k21Env
        cases u with
        | unlike c => simp [bD, hn1, g2, hn2]
        | check v => simp [bD, hn1, g2, hn2]
        | refers c g w =>
          obtain ⟨v, hv, rfl, hcl, _, hc, hkd, _⟩ := hS.rules t ht _ (rule_at hu).1
          have bv := hS.bare v hv
          cases hw : t.wOf r c with
          | none => simp [brk, hw] at hbr
          | some k =>
            have hk : k ∉ (rowsOf S st v.name).map v.keyOf := by
              simp only [brk, hw] at hbr
              have hbr : k ∉ keysOf S st v.name := by simpa using hbr
              rwa [keysOf_eq hS.nd hv] at hbr
            obtain ⟨m0, g5, hm0⟩ := r_row 11 v c0
            have g3 := r_lrows 12 o (mem_names ht)
            have g4 := tab hv
            have kof : ∀ {u : Tab} (_ : u ∈ S) {q : Row}, rowOk u q → run T G 13 "key_of" [u.d, rowD q] = .ok (kD (u.keyOf q)) := fun hu q hq => by
              refine wp_eq ?_
              show Wp (run T G (12 + 1) "key_of" _) _ _
              rw [u_key_of]
              simp [r_row_key 9 (hS.bare _ hu) hq]
            have one : (rowsOf S st t.name).filter (fun q => decide (t.keyOf q = x.2.2)) = [r] := by
              rw [hkey]
              exact filter_key (nd t ht) hr
            simp [bD, hn1, g2, hn2, g3, rowsD]
            refine wp_filRE (g := rowD) (p := fun q => decide (t.keyOf q = x.2.2)) (h := rowD) (fun q hq => by simp [kof ht (hrow q hq), eqOk]) (fun q _ _ => by simp) ?_
            rw [one]
            have g6 : run T G 13 "_law_worths" [t.d, rowD r, .tup (c.map D.str)] = _ := r_lworths 11 (hrow r hr) hc
            rw [hw] at g6
            obtain ⟨hgap, hkk⟩ : Worth.gap ∉ c.map (t.at r) ∧ k = c.map (t.at r) := by
              unfold Tab.wOf at hw
              by_cases gg : Worth.gap ∈ c.map (t.at r)
              · rw [if_pos gg] at hw; cases hw
              · rw [if_neg gg] at hw
                exact ⟨gg, (Option.some.inj hw).symm⟩
            have hkl : k.length = v.key.length := by rw [hkk, List.length_map, hcl]
            have hpr := fits hS ht hv (hrow r hr) hc hcl hkd hgap
            rw [← hkk] at hpr
            have mok := more_ok bv hm0 hpr
            have mkey := more_key bv hm0 hkl
            have ezk : zipD (v.key.map D.str) (k.map Worth.d) = (v.key.zip k).map Pr.d := zipD_map
            have ezc : zipD (v.cols.map Col.d) (m0.map Worth.d) = (v.cols.zip m0).map fun p => D.tup [p.1.d, p.2.d] := zipD_map
            have hks : ∀ a b : D, (a, b) ∈ ((v.key.zip k).map fun p => (D.str p.1, p.2.d)) → keyOk false a = true := fun a b hab => by
              obtain ⟨p, _, hp⟩ := List.mem_map.mp hab
              cases hp
              rfl
            have hkl2 := bv.keyL
            simp [g4, h3, g5, g6]
            rw [it_kD]
            simp only [wp_ok]
            rw [ezk, pairs_bk]
            refine ⟨rfl, by omega, _, rfl, hks, rfl, ?_⟩
            rw [merge_bk, ezc]
            refine wp_mapRE (g := fun p : Col × Worth => D.tup [p.1.d, p.2.d]) (h := fun p => ((findP (bookOf (v.key.zip k)) p.1.name).getD p.2).d) (fun p _ => ?_) ?_
            · simp [Col.d, find_bk]
              cases findP (bookOf (v.key.zip k)) p.1.name <;> rfl
            · have em : ((v.cols.zip m0).map fun p => ((findP (bookOf (v.key.zip k)) p.1.name).getD p.2).d) = (moreR v m0 k).map Worth.d := by
                unfold moreR wrow Tab.names
                rw [findP_book, List.zip_map_left, List.map_map, List.map_map]
                rfl
              have ez : zipD (S.map Tab.d) (st.map rowsD) = S.map fun t => D.tup [t.d, rowsD (rowsOf S st t.name)] := by
                have : zipD (S.map Tab.d) (st.map rowsD) = (S.zip st).map fun p => D.tup [p.1.d, rowsD p.2] := zipD_map
                rw [this, zip_rows hS.nd o]
                simp
              rw [em]
              refine ⟨⟨rfl, rfl⟩, ?_⟩
              rw [ez]
              refine wp_for (g := fun u : Tab => D.tup [u.d, rowsD (rowsOf S st u.name)]) (fun dn ρ => ∃ e11 e16 e20 e21 e22 : Option D, ρ = k21Env ns S st e4 (some (.str t.name)) (some (.int (x.2.1 : Nat))) (some (kD x.2.2)) (some (.tup [.str (tx "refers"), .tup (txs c), .str v.name, .str w])) e9 e10 e11 (some t.d) (some (rowD r)) (some v.d) (some (rowD (moreR v m0 k))) e16 e17 e18 (some (stD (dn.map fun u => if u.name = v.name then (rowsOf S st u.name ++ [moreR v m0 k]).mergeSort v.leR else rowsOf S st u.name))) e20 e21 e22) ⟨_, _, _, _, _, rfl⟩ ?_ ?_
              · rintro dn u td ρ hL ⟨e11, e16, e20, e21, e22, rfl⟩
                have hu2 : u ∈ S := by rw [hL]; simp
                have hl2 := congrArg List.length hL
                have hf := hS.few
                simp at hl2
                unfold k21Env
                by_cases e : u.name = v.name
                · have : u = v := name_inj hS.nd hu2 hv e
                  subst this
                  have lu := l4 u hu2
                  have hlk := nd u hu2
                  have hrw := (rows_ok hS.nd o hu2).1
                  have ndk : ((rowsOf S st u.name ++ [moreR u m0 k]).map u.keyOf).Nodup := by
                    rw [List.map_append, List.nodup_append]
                    exact ⟨hlk, by simp, fun x hx y hy e => hk (by
                      simp at hy
                      rw [mkey] at hy
                      rw [← hy, ← e]
                      exact hx)⟩
                  have hB : ∀ q ∈ rowsOf S st u.name ++ [moreR u m0 k], rowOk u q := fun q hq => by
                    rw [List.mem_append, List.mem_singleton] at hq
                    rcases hq with hq | rfl
                    · exact hrw q hq
                    · exact mok
                  have el : (rowsOf S st u.name).map rowD ++ [rowD (moreR u m0 k)] = (rowsOf S st u.name ++ [moreR u m0 k]).map rowD := by simp
                  simp [rowsD, stD]
                  rw [el]
                  refine ⟨by unfold SZ; omega, ?_⟩
                  refine wp_mapRE (g := rowD) (h := fun q => D.tup [kD (u.keyOf q), rowD q]) (fun q hq => by simp [kof hu2 (hB q hq)]) ?_
                  refine ⟨_, pairs_map _, fun a b hab => ?_, ?_⟩
                  · obtain ⟨q, _, hq⟩ := List.mem_map.mp hab
                    cases hq
                    exact kD_key
                  · rw [merge_book, book_self ndk]
                    refine ⟨keys_sort bv hB, ?_⟩
                    simp only []
                    rw [sort_book]
                    refine wp_mapRE (g := fun q => kD (u.keyOf q)) (h := rowD) (fun q hq => ?_) ?_
                    · have hq : q ∈ rowsOf S st u.name ++ [moreR u m0 k] := (List.mergeSort_perm _ u.leR).mem_iff.mp hq
                      have ff := find_map (f := u.keyOf) (g := rowD) (k := u.keyOf q) (B := rowsOf S st u.name ++ [moreR u m0 k])
                      rw [find_key ndk hq] at ff
                      simp [-List.map_append, ff]
                    · exact ⟨by unfold SZ; omega, rfl⟩
                · simp [e, stD]
                  unfold SZ
                  omega
              · rintro ρ ⟨e11, e16, e20, e21, e22, rfl⟩
                have fold : (S.map fun u => if u.name = v.name then (rowsOf S st u.name ++ [moreR v m0 k]).mergeSort v.leR else rowsOf S st u.name) = moreS S st v (moreR v m0 k) := rfl
                rw [fold]
                have o' := moreS_ok hS o hv mok (by have := l4 v hv; omega)
                have g9 := h6 o'
                have hbx : D.tup [.str t.name, .int (x.2.1 : Nat), kD x.2.2] = bD x := by rw [← hn1]; rfl
                have hno : x ∉ srtB (brkList S (moreS S st v (moreR v m0 k))) := fun z => by
                  have ex : x = (t.name, x.2.1, t.keyOf r) := by rw [← hn1, ← hkey]
                  have z := (srtB_perm _).mem_iff.mp z
                  rw [ex] at z
                  exact mended hS o nd ht hv hu hr hw hk mkey z
                unfold k21Env
                simp [-in_tup, g9, hbx, in_bT, hno]
      · rintro ρ ⟨e4, e5, e6, e7, e8, e9, e10, e11, e12, e13, e14, e15, e16, e17, e18, e19, e20, e21, e22, rfl⟩
        simp [k21Env]
end Law
namespace HH
open PySem PySem.Spec PyProof.Rows L2 Law
def fs : Snd.Sig := {fs := ["names_of", "place_of", "table_of", "row_key", "compared", "holds", "key_of", "rows_of", "keys_in", "worths_in", "breaking_rows", "breaks", "_law_cell_at", "_law_mixed", "_law_drawn", "_law_names", "_law_table", "_law_key", "_law_worths", "_law_rows", "_law_test", "_law_bare", "_law_pairs", "_law_rule", "_law_schema", "_law_worth", "_law_row", "_law_loose", "_law_less", "law"], exs := [], told := false, news := [], trs := []}
def trs : List String := []
def lam : String → Bool := fun f => false
def top (i : Nat) : Stmt := PySem.Challenge.pw_dealtables_k21_whole_what_breaks.main.body.getD i (.Pass ⟨0, 0, 0, 0⟩)
def d_names_of : He.DefD := ⟨("names_of", none), "names_of", "names_of", defArgs (top 1), defBody (top 1), defScope (top 1), [], []⟩
def d_place_of : He.DefD := ⟨("place_of", none), "place_of", "place_of", defArgs (top 2), defBody (top 2), defScope (top 2), [], []⟩
def d_table_of : He.DefD := ⟨("table_of", none), "table_of", "table_of", defArgs (top 3), defBody (top 3), defScope (top 3), [], []⟩
def d_row_key : He.DefD := ⟨("row_key", none), "row_key", "row_key", defArgs (top 4), defBody (top 4), defScope (top 4), [], []⟩
def d_compared : He.DefD := ⟨("compared", none), "compared", "compared", defArgs (top 6), defBody (top 6), defScope (top 6), [], []⟩
def d_holds : He.DefD := ⟨("holds", none), "holds", "holds", defArgs (top 7), defBody (top 7), defScope (top 7), [], []⟩
def d_key_of : He.DefD := ⟨("key_of", none), "key_of", "key_of", defArgs (top 9), defBody (top 9), defScope (top 9), [], []⟩
def d_rows_of : He.DefD := ⟨("rows_of", none), "rows_of", "rows_of", defArgs (top 10), defBody (top 10), defScope (top 10), [], []⟩
def d_keys_in : He.DefD := ⟨("keys_in", none), "keys_in", "keys_in", defArgs (top 11), defBody (top 11), defScope (top 11), [], []⟩
def d_worths_in : He.DefD := ⟨("worths_in", none), "worths_in", "worths_in", defArgs (top 12), defBody (top 12), defScope (top 12), [], []⟩
def d_breaking_rows : He.DefD := ⟨("breaking_rows", none), "breaking_rows", "breaking_rows", defArgs (top 13), defBody (top 13), defScope (top 13), [], []⟩
def d_breaks : He.DefD := ⟨("breaks", none), "breaks", "breaks", defArgs (top 14), defBody (top 14), defScope (top 14), [], []⟩
def d__law_cell_at : He.DefD := ⟨("_law_cell_at", none), "_law_cell_at", "_law_cell_at", defArgs (top 16), defBody (top 16), defScope (top 16), [], []⟩
def d__law_mixed : He.DefD := ⟨("_law_mixed", none), "_law_mixed", "_law_mixed", defArgs (top 17), defBody (top 17), defScope (top 17), [], []⟩
def d__law_drawn : He.DefD := ⟨("_law_drawn", none), "_law_drawn", "_law_drawn", defArgs (top 18), defBody (top 18), defScope (top 18), [], []⟩
def d__law_names : He.DefD := ⟨("_law_names", none), "_law_names", "_law_names", defArgs (top 19), defBody (top 19), defScope (top 19), [], []⟩
def d__law_table : He.DefD := ⟨("_law_table", none), "_law_table", "_law_table", defArgs (top 20), defBody (top 20), defScope (top 20), [], []⟩
def d__law_key : He.DefD := ⟨("_law_key", none), "_law_key", "_law_key", defArgs (top 21), defBody (top 21), defScope (top 21), [], []⟩
def d__law_worths : He.DefD := ⟨("_law_worths", none), "_law_worths", "_law_worths", defArgs (top 22), defBody (top 22), defScope (top 22), [], []⟩
def d__law_rows : He.DefD := ⟨("_law_rows", none), "_law_rows", "_law_rows", defArgs (top 23), defBody (top 23), defScope (top 23), [], []⟩
def d__law_test : He.DefD := ⟨("_law_test", none), "_law_test", "_law_test", defArgs (top 24), defBody (top 24), defScope (top 24), [], []⟩
def d__law_bare : He.DefD := ⟨("_law_bare", none), "_law_bare", "_law_bare", defArgs (top 25), defBody (top 25), defScope (top 25), [], []⟩
def d__law_pairs : He.DefD := ⟨("_law_pairs", none), "_law_pairs", "_law_pairs", defArgs (top 26), defBody (top 26), defScope (top 26), [], []⟩
def d__law_rule : He.DefD := ⟨("_law_rule", none), "_law_rule", "_law_rule", defArgs (top 27), defBody (top 27), defScope (top 27), [], []⟩
def d__law_schema : He.DefD := ⟨("_law_schema", none), "_law_schema", "_law_schema", defArgs (top 28), defBody (top 28), defScope (top 28), [], []⟩
def d__law_worth : He.DefD := ⟨("_law_worth", none), "_law_worth", "_law_worth", defArgs (top 29), defBody (top 29), defScope (top 29), [], []⟩
def d__law_row : He.DefD := ⟨("_law_row", none), "_law_row", "_law_row", defArgs (top 30), defBody (top 30), defScope (top 30), [], []⟩
def d__law_loose : He.DefD := ⟨("_law_loose", none), "_law_loose", "_law_loose", defArgs (top 31), defBody (top 31), defScope (top 31), [], []⟩
def d__law_less : He.DefD := ⟨("_law_less", none), "_law_less", "_law_less", defArgs (top 32), defBody (top 32), defScope (top 32), [], []⟩
def d_law : He.DefD := ⟨("law", none), "law", "law", defArgs (top 33), defBody (top 33), defScope (top 33), [], []⟩
def fn : List He.DefD := [d_names_of, d_place_of, d_table_of, d_row_key, d_compared, d_holds, d_key_of, d_rows_of, d_keys_in, d_worths_in, d_breaking_rows, d_breaks, d__law_cell_at, d__law_mixed, d__law_drawn, d__law_names, d__law_table, d__law_key, d__law_worths, d__law_rows, d__law_test, d__law_bare, d__law_pairs, d__law_rule, d__law_schema, d__law_worth, d__law_row, d__law_loose, d__law_less, d_law]
def fa : List He.Fa := [.glo "names_of", .glo "place_of", .glo "table_of", .glo "row_key", .glo "compared", .glo "holds", .glo "key_of", .glo "rows_of", .glo "keys_in", .glo "worths_in", .glo "breaking_rows", .glo "breaks", .glo "_law_cell_at", .glo "_law_mixed", .glo "_law_drawn", .glo "_law_names", .glo "_law_table", .glo "_law_key", .glo "_law_worths", .glo "_law_rows", .glo "_law_test", .glo "_law_bare", .glo "_law_pairs", .glo "_law_rule", .glo "_law_schema", .glo "_law_worth", .glo "_law_row", .glo "_law_loose", .glo "_law_less", .glo "law", .free "len", .free "tuple", .free "list", .free "int", .free "str", .free "all", .free "any", .free "isinstance", .free "range", .free "enumerate", .free "zip", .free "bool", .free "min", .free "max", .free "sorted", .free "set", .free "dict", .free "sum", .free "ord", .free "ValueError"]
abbrev R : PySem.W.OpenRow := PySem.W.OpenLaw.row PySem.Challenge.rw_dealtables_k21_whole_what_breaks
def ex (K : PySem.W.Frag) : Bool := true
def tf : List He.Defn := []
def tabs (K : PySem.W.Frag) : List (Addr × Str) := []
theorem tabs_tf (K : PySem.W.Frag) : ∀ p ∈ tabs K, ∃ q ∈ tf, p.1 = (He.cT K q).2 := fun p hp => by cases hp
theorem lam_tf : ∀ f, lam f = true → (Str.ofString f, none) ∈ tf := fun f hf => by cases hf
abbrev hk : PySem.W.Hook := He.hookX 4 fa fn [] tf ex
def ob (s : PySem.W.SharedT) : He.AlX := He.obsX 4 fa fn [] tf ex (HandSHeadRun.getT s)
theorem ob_eq (s : PySem.W.SharedT) : ob s = hk.obs s.abs := He.obsX_eq (HandSHeadRun.getT_eq s)
def ls0 : List Str := ["names_of", "place_of", "table_of", "row_key", "compared", "holds", "key_of", "rows_of", "keys_in", "worths_in", "breaking_rows", "breaks", "_law_cell_at", "_law_mixed", "_law_drawn", "_law_names", "_law_table", "_law_key", "_law_worths", "_law_rows", "_law_test", "_law_bare", "_law_pairs", "_law_rule", "_law_schema", "_law_worth", "_law_row", "_law_loose", "_law_less"]
abbrev ls : List Str := ls0
theorem run (w : World) : HandSHeadRun.RunEq R (PySem.W.view R.prog [33]) hk ob 20000 ls w := by
  intro os
  kernel_rfl
abbrev N_names_of : List Str := ["table", "column"]
abbrev P_names_of : List Str := ["table"]
theorem sc_names_of : FnScope N_names_of P_names_of (defScope (top 1)) := ⟨by kernel_rfl, by kernel_rfl, by kernel_rfl, by decide +kernel, by kernel_rfl, by decide +kernel, by decide +kernel⟩
theorem ck_names_of : (Snd.chkS { fs with lam := lam "names_of" } N_names_of (defScope (top 1)) [] m_names_of.body (defBody (top 1))).isSome = true := by kernel_rfl
abbrev N_place_of : List Str := ["table", "name"]
abbrev P_place_of : List Str := ["table", "name"]
theorem sc_place_of : FnScope N_place_of P_place_of (defScope (top 2)) := ⟨by kernel_rfl, by kernel_rfl, by kernel_rfl, by decide +kernel, by kernel_rfl, by decide +kernel, by decide +kernel⟩
theorem ck_place_of : (Snd.chkS { fs with lam := lam "place_of" } N_place_of (defScope (top 2)) [] m_place_of.body (defBody (top 2))).isSome = true := by kernel_rfl
abbrev N_table_of : List Str := ["schema", "name", "table"]
abbrev P_table_of : List Str := ["schema", "name"]
theorem sc_table_of : FnScope N_table_of P_table_of (defScope (top 3)) := ⟨by kernel_rfl, by kernel_rfl, by kernel_rfl, by decide +kernel, by kernel_rfl, by decide +kernel, by decide +kernel⟩
theorem ck_table_of : (Snd.chkS { fs with lam := lam "table_of" } N_table_of (defScope (top 3)) [] m_table_of.body (defBody (top 3))).isSome = true := by kernel_rfl
abbrev N_row_key : List Str := ["table", "row", "name"]
abbrev P_row_key : List Str := ["table", "row"]
theorem sc_row_key : FnScope N_row_key P_row_key (defScope (top 4)) := ⟨by kernel_rfl, by kernel_rfl, by kernel_rfl, by decide +kernel, by kernel_rfl, by decide +kernel, by decide +kernel⟩
theorem ck_row_key : (Snd.chkS { fs with lam := lam "row_key" } N_row_key (defScope (top 4)) [] m_row_key.body (defBody (top 4))).isSome = true := by kernel_rfl
abbrev N_compared : List Str := ["word", "one", "other"]
abbrev P_compared : List Str := ["word", "one", "other"]
theorem sc_compared : FnScope N_compared P_compared (defScope (top 6)) := ⟨by kernel_rfl, by kernel_rfl, by kernel_rfl, by decide +kernel, by kernel_rfl, by decide +kernel, by decide +kernel⟩
theorem ck_compared : (Snd.chkS { fs with lam := lam "compared" } N_compared (defScope (top 6)) [] m_compared.body (defBody (top 6))).isSome = true := by kernel_rfl
abbrev N_holds : List Str := ["table", "test", "row", "word", "found", "some", "part", "worth"]
abbrev P_holds : List Str := ["table", "test", "row"]
theorem sc_holds : FnScope N_holds P_holds (defScope (top 7)) := ⟨by kernel_rfl, by kernel_rfl, by kernel_rfl, by decide +kernel, by kernel_rfl, by decide +kernel, by decide +kernel⟩
theorem ck_holds : (Snd.chkS { fs with lam := lam "holds" } N_holds (defScope (top 7)) [] m_holds.body (defBody (top 7))).isSome = true := by kernel_rfl
abbrev N_key_of : List Str := ["table", "row"]
abbrev P_key_of : List Str := ["table", "row"]
theorem sc_key_of : FnScope N_key_of P_key_of (defScope (top 9)) := ⟨by kernel_rfl, by kernel_rfl, by kernel_rfl, by decide +kernel, by kernel_rfl, by decide +kernel, by decide +kernel⟩
theorem ck_key_of : (Snd.chkS { fs with lam := lam "key_of" } N_key_of (defScope (top 9)) [] m_key_of.body (defBody (top 9))).isSome = true := by kernel_rfl
abbrev N_rows_of : List Str := ["schema", "store", "name", "table"]
abbrev P_rows_of : List Str := ["schema", "store", "name"]
theorem sc_rows_of : FnScope N_rows_of P_rows_of (defScope (top 10)) := ⟨by kernel_rfl, by kernel_rfl, by kernel_rfl, by decide +kernel, by kernel_rfl, by decide +kernel, by decide +kernel⟩
theorem ck_rows_of : (Snd.chkS { fs with lam := lam "rows_of" } N_rows_of (defScope (top 10)) [] m_rows_of.body (defBody (top 10))).isSome = true := by kernel_rfl
abbrev N_keys_in : List Str := ["schema", "store", "name", "table", "row"]
abbrev P_keys_in : List Str := ["schema", "store", "name"]
theorem sc_keys_in : FnScope N_keys_in P_keys_in (defScope (top 11)) := ⟨by kernel_rfl, by kernel_rfl, by kernel_rfl, by decide +kernel, by kernel_rfl, by decide +kernel, by decide +kernel⟩
theorem ck_keys_in : (Snd.chkS { fs with lam := lam "keys_in" } N_keys_in (defScope (top 11)) [] m_keys_in.body (defBody (top 11))).isSome = true := by kernel_rfl
abbrev N_worths_in : List Str := ["table", "row", "names", "found", "name", "worth"]
abbrev P_worths_in : List Str := ["table", "row", "names"]
theorem sc_worths_in : FnScope N_worths_in P_worths_in (defScope (top 12)) := ⟨by kernel_rfl, by kernel_rfl, by kernel_rfl, by decide +kernel, by kernel_rfl, by decide +kernel, by decide +kernel⟩
theorem ck_worths_in : (Snd.chkS { fs with lam := lam "worths_in" } N_worths_in (defScope (top 12)) [] m_worths_in.body (defBody (top 12))).isSome = true := by kernel_rfl
abbrev N_breaking_rows : List Str := ["schema", "store", "table", "rule", "rows", "row", "some", "worths", "keys"]
abbrev P_breaking_rows : List Str := ["schema", "store", "table", "rule"]
theorem sc_breaking_rows : FnScope N_breaking_rows P_breaking_rows (defScope (top 13)) := ⟨by kernel_rfl, by kernel_rfl, by kernel_rfl, by decide +kernel, by kernel_rfl, by decide +kernel, by decide +kernel⟩
theorem ck_breaking_rows : (Snd.chkS { fs with lam := lam "breaking_rows" } N_breaking_rows (defScope (top 13)) [] m_breaking_rows.body (defBody (top 13))).isSome = true := by kernel_rfl
abbrev N_breaks : List Str := ["schema", "store", "found", "table", "number", "rule", "row"]
abbrev P_breaks : List Str := ["schema", "store"]
theorem sc_breaks : FnScope N_breaks P_breaks (defScope (top 14)) := ⟨by kernel_rfl, by kernel_rfl, by kernel_rfl, by decide +kernel, by kernel_rfl, by decide +kernel, by decide +kernel⟩
theorem ck_breaks : (Snd.chkS { fs with lam := lam "breaks" } N_breaks (defScope (top 14)) [] m_breaks.body (defBody (top 14))).isSome = true := by kernel_rfl
abbrev N__law_cell_at : List Str := ["_law_script", "_law_k"]
abbrev P__law_cell_at : List Str := ["_law_script", "_law_k"]
theorem sc__law_cell_at : FnScope N__law_cell_at P__law_cell_at (defScope (top 16)) := ⟨by kernel_rfl, by kernel_rfl, by kernel_rfl, by decide +kernel, by kernel_rfl, by decide +kernel, by decide +kernel⟩
theorem ck__law_cell_at : (Snd.chkS { fs with lam := lam "_law_cell_at" } N__law_cell_at (defScope (top 16)) [] m__law_cell_at.body (defBody (top 16))).isSome = true := by kernel_rfl
abbrev N__law_mixed : List Str := ["_law_script", "_law_k", "_law_drawn_here"]
abbrev P__law_mixed : List Str := ["_law_script", "_law_k"]
theorem sc__law_mixed : FnScope N__law_mixed P__law_mixed (defScope (top 17)) := ⟨by kernel_rfl, by kernel_rfl, by kernel_rfl, by decide +kernel, by kernel_rfl, by decide +kernel, by decide +kernel⟩
theorem ck__law_mixed : (Snd.chkS { fs with lam := lam "_law_mixed" } N__law_mixed (defScope (top 17)) [] m__law_mixed.body (defBody (top 17))).isSome = true := by kernel_rfl
abbrev N__law_drawn : List Str := ["_law_number", "_law_k", "_law_drawn_here"]
abbrev P__law_drawn : List Str := ["_law_number", "_law_k"]
theorem sc__law_drawn : FnScope N__law_drawn P__law_drawn (defScope (top 18)) := ⟨by kernel_rfl, by kernel_rfl, by kernel_rfl, by decide +kernel, by kernel_rfl, by decide +kernel, by decide +kernel⟩
theorem ck__law_drawn : (Snd.chkS { fs with lam := lam "_law_drawn" } N__law_drawn (defScope (top 18)) [] m__law_drawn.body (defBody (top 18))).isSome = true := by kernel_rfl
abbrev N__law_names : List Str := ["_law_table_here", "_law_column"]
abbrev P__law_names : List Str := ["_law_table_here"]
theorem sc__law_names : FnScope N__law_names P__law_names (defScope (top 19)) := ⟨by kernel_rfl, by kernel_rfl, by kernel_rfl, by decide +kernel, by kernel_rfl, by decide +kernel, by decide +kernel⟩
theorem ck__law_names : (Snd.chkS { fs with lam := lam "_law_names" } N__law_names (defScope (top 19)) [] m__law_names.body (defBody (top 19))).isSome = true := by kernel_rfl
abbrev N__law_table : List Str := ["_law_schema_here", "_law_name", "_law_table_here"]
abbrev P__law_table : List Str := ["_law_schema_here", "_law_name"]
theorem sc__law_table : FnScope N__law_table P__law_table (defScope (top 20)) := ⟨by kernel_rfl, by kernel_rfl, by kernel_rfl, by decide +kernel, by kernel_rfl, by decide +kernel, by decide +kernel⟩
theorem ck__law_table : (Snd.chkS { fs with lam := lam "_law_table" } N__law_table (defScope (top 20)) [] m__law_table.body (defBody (top 20))).isSome = true := by kernel_rfl
abbrev N__law_key : List Str := ["_law_table_here", "_law_row_here", "_law_name"]
abbrev P__law_key : List Str := ["_law_table_here", "_law_row_here"]
theorem sc__law_key : FnScope N__law_key P__law_key (defScope (top 21)) := ⟨by kernel_rfl, by kernel_rfl, by kernel_rfl, by decide +kernel, by kernel_rfl, by decide +kernel, by decide +kernel⟩
theorem ck__law_key : (Snd.chkS { fs with lam := lam "_law_key" } N__law_key (defScope (top 21)) [] m__law_key.body (defBody (top 21))).isSome = true := by kernel_rfl
abbrev N__law_worths : List Str := ["_law_table_here", "_law_row_here", "_law_columns", "_law_found", "_law_name"]
abbrev P__law_worths : List Str := ["_law_table_here", "_law_row_here", "_law_columns"]
theorem sc__law_worths : FnScope N__law_worths P__law_worths (defScope (top 22)) := ⟨by kernel_rfl, by kernel_rfl, by kernel_rfl, by decide +kernel, by kernel_rfl, by decide +kernel, by decide +kernel⟩
theorem ck__law_worths : (Snd.chkS { fs with lam := lam "_law_worths" } N__law_worths (defScope (top 22)) [] m__law_worths.body (defBody (top 22))).isSome = true := by kernel_rfl
abbrev N__law_rows : List Str := ["_law_schema_here", "_law_store", "_law_name", "_law_table_here"]
abbrev P__law_rows : List Str := ["_law_schema_here", "_law_store", "_law_name"]
theorem sc__law_rows : FnScope N__law_rows P__law_rows (defScope (top 23)) := ⟨by kernel_rfl, by kernel_rfl, by kernel_rfl, by decide +kernel, by kernel_rfl, by decide +kernel, by decide +kernel⟩
theorem ck__law_rows : (Snd.chkS { fs with lam := lam "_law_rows" } N__law_rows (defScope (top 23)) [] m__law_rows.body (defBody (top 23))).isSome = true := by kernel_rfl
abbrev N__law_test : List Str := ["_law_table_here", "_law_number", "_law_deep", "_law_columns", "_law_column", "_law_kind", "_law_parts", "_law_k", "_law_alike", "_law_one", "_law_worths_here"]
abbrev P__law_test : List Str := ["_law_table_here", "_law_number", "_law_deep"]
theorem sc__law_test : FnScope N__law_test P__law_test (defScope (top 24)) := ⟨by kernel_rfl, by kernel_rfl, by kernel_rfl, by decide +kernel, by kernel_rfl, by decide +kernel, by decide +kernel⟩
theorem ck__law_test : (Snd.chkS { fs with lam := lam "_law_test" } N__law_test (defScope (top 24)) [] m__law_test.body (defBody (top 24))).isSome = true := by kernel_rfl
abbrev N__law_bare : List Str := ["_law_name", "_law_number", "_law_kinds", "_law_columns", "_law_k", "_law_other", "_law_drawn_here", "_law_plain", "_law_column", "_law_key_here", "_law_by"]
abbrev P__law_bare : List Str := ["_law_name", "_law_number"]
theorem sc__law_bare : FnScope N__law_bare P__law_bare (defScope (top 25)) := ⟨by kernel_rfl, by kernel_rfl, by kernel_rfl, by decide +kernel, by kernel_rfl, by decide +kernel, by decide +kernel⟩
theorem ck__law_bare : (Snd.chkS { fs with lam := lam "_law_bare" } N__law_bare (defScope (top 25)) [] m__law_bare.body (defBody (top 25))).isSome = true := by kernel_rfl
abbrev N__law_pairs : List Str := ["_law_table_here", "_law_kinds", "_law_found", "_law_kind", "_law_longer", "_law_row_here", "_law_one"]
abbrev P__law_pairs : List Str := ["_law_table_here", "_law_kinds"]
theorem sc__law_pairs : FnScope N__law_pairs P__law_pairs (defScope (top 26)) := ⟨by kernel_rfl, by kernel_rfl, by kernel_rfl, by decide +kernel, by kernel_rfl, by decide +kernel, by decide +kernel⟩
theorem ck__law_pairs : (Snd.chkS { fs with lam := lam "_law_pairs" } N__law_pairs (defScope (top 26)) [] m__law_pairs.body (defBody (top 26))).isSome = true := by kernel_rfl
abbrev N__law_rule : List Str := ["_law_bare_here", "_law_table_here", "_law_number", "_law_goal", "_law_kinds", "_law_column", "_law_name", "_law_some", "_law_columns", "_law_way", "_law_stiff", "_law_names_here", "_law_by"]
abbrev P__law_rule : List Str := ["_law_bare_here", "_law_table_here", "_law_number"]
theorem sc__law_rule : FnScope N__law_rule P__law_rule (defScope (top 27)) := ⟨by kernel_rfl, by kernel_rfl, by kernel_rfl, by decide +kernel, by kernel_rfl, by decide +kernel, by decide +kernel⟩
theorem ck__law_rule : (Snd.chkS { fs with lam := lam "_law_rule" } N__law_rule (defScope (top 27)) [] m__law_rule.body (defBody (top 27))).isSome = true := by kernel_rfl
abbrev N__law_schema : List Str := ["_law_number", "_law_names_here", "_law_by", "_law_bare_here", "_law_k", "_law_name", "_law_found", "_law_table_here", "_law_drawn_here", "_law_rules", "_law_j", "_law_some", "_law_rule_here"]
abbrev P__law_schema : List Str := ["_law_number"]
theorem sc__law_schema : FnScope N__law_schema P__law_schema (defScope (top 28)) := ⟨by kernel_rfl, by kernel_rfl, by kernel_rfl, by decide +kernel, by kernel_rfl, by decide +kernel, by decide +kernel⟩
theorem ck__law_schema : (Snd.chkS { fs with lam := lam "_law_schema" } N__law_schema (defScope (top 28)) [] m__law_schema.body (defBody (top 28))).isSome = true := by kernel_rfl
abbrev N__law_worth : List Str := ["_law_column", "_law_number"]
abbrev P__law_worth : List Str := ["_law_column", "_law_number"]
theorem sc__law_worth : FnScope N__law_worth P__law_worth (defScope (top 29)) := ⟨by kernel_rfl, by kernel_rfl, by kernel_rfl, by decide +kernel, by kernel_rfl, by decide +kernel, by decide +kernel⟩
theorem ck__law_worth : (Snd.chkS { fs with lam := lam "_law_worth" } N__law_worth (defScope (top 29)) [] m__law_worth.body (defBody (top 29))).isSome = true := by kernel_rfl
abbrev N__law_row : List Str := ["_law_table_here", "_law_number", "_law_k", "_law_column"]
abbrev P__law_row : List Str := ["_law_table_here", "_law_number"]
theorem sc__law_row : FnScope N__law_row P__law_row (defScope (top 30)) := ⟨by kernel_rfl, by kernel_rfl, by kernel_rfl, by decide +kernel, by kernel_rfl, by decide +kernel, by decide +kernel⟩
theorem ck__law_row : (Snd.chkS { fs with lam := lam "_law_row" } N__law_row (defScope (top 30)) [] m__law_row.body (defBody (top 30))).isSome = true := by kernel_rfl
abbrev N__law_loose : List Str := ["_law_schema_here", "_law_number", "_law_found", "_law_k", "_law_table_here", "_law_book", "_law_j", "_law_row_here", "_law_key_here"]
abbrev P__law_loose : List Str := ["_law_schema_here", "_law_number"]
theorem sc__law_loose : FnScope N__law_loose P__law_loose (defScope (top 31)) := ⟨by kernel_rfl, by kernel_rfl, by kernel_rfl, by decide +kernel, by kernel_rfl, by decide +kernel, by decide +kernel⟩
theorem ck__law_loose : (Snd.chkS { fs with lam := lam "_law_loose" } N__law_loose (defScope (top 31)) [] m__law_loose.body (defBody (top 31))).isSome = true := by kernel_rfl
abbrev N__law_less : List Str := ["_law_schema_here", "_law_store", "_law_name", "_law_key_here", "_law_found", "_law_table_here", "_law_rows_here", "_law_row_here"]
abbrev P__law_less : List Str := ["_law_schema_here", "_law_store", "_law_name", "_law_key_here"]
theorem sc__law_less : FnScope N__law_less P__law_less (defScope (top 32)) := ⟨by kernel_rfl, by kernel_rfl, by kernel_rfl, by decide +kernel, by kernel_rfl, by decide +kernel, by decide +kernel⟩
theorem ck__law_less : (Snd.chkS { fs with lam := lam "_law_less" } N__law_less (defScope (top 32)) [] m__law_less.body (defBody (top 32))).isSome = true := by kernel_rfl
abbrev N_law : List Str := ["_law_script", "_law_schema_here", "_law_store", "_law_some", "_law_sorts", "_law_name", "_law_number", "_law_key_here", "_law_rule_here", "_law_rest", "_law_checks", "_law_one", "_law_table_here", "_law_row_here", "_law_goal", "_law_more", "_law_book", "_law_column", "_law_worth_here", "_law_new", "_law_rows_here", "_law_its", "_law_place"]
abbrev P_law : List Str := ["_law_script"]
theorem sc_law : FnScope N_law P_law (defScope (top 33)) := ⟨by kernel_rfl, by kernel_rfl, by kernel_rfl, by decide +kernel, by kernel_rfl, by decide +kernel, by decide +kernel⟩
theorem ck_law : (Snd.chkS { fs with lam := lam "law" } N_law (defScope (top 33)) [] m_law.body (defBody (top 33))).isSome = true := by kernel_rfl
def pn : String → List Str
  | "names_of" => P_names_of
  | "place_of" => P_place_of
  | "table_of" => P_table_of
  | "row_key" => P_row_key
  | "compared" => P_compared
  | "holds" => P_holds
  | "key_of" => P_key_of
  | "rows_of" => P_rows_of
  | "keys_in" => P_keys_in
  | "worths_in" => P_worths_in
  | "breaking_rows" => P_breaking_rows
  | "breaks" => P_breaks
  | "_law_cell_at" => P__law_cell_at
  | "_law_mixed" => P__law_mixed
  | "_law_drawn" => P__law_drawn
  | "_law_names" => P__law_names
  | "_law_table" => P__law_table
  | "_law_key" => P__law_key
  | "_law_worths" => P__law_worths
  | "_law_rows" => P__law_rows
  | "_law_test" => P__law_test
  | "_law_bare" => P__law_bare
  | "_law_pairs" => P__law_pairs
  | "_law_rule" => P__law_rule
  | "_law_schema" => P__law_schema
  | "_law_worth" => P__law_worth
  | "_law_row" => P__law_row
  | "_law_loose" => P__law_loose
  | "_law_less" => P__law_less
  | "law" => P_law
  | _ => []
theorem prg [Snd.PrW] {K : PySem.W.Frag} {h : Heap} {mg : Str → Option Value} (hT : Snd.PrW.T = tabs K) (hR : Snd.PrW.R = trs) (X : K.In h) (Gn : h.Ns mainGlobals mg) (c : He.SaysD fa fn K) (ce : ex K = true) : Snd.Prg fs lam T pn G K mg := by
  have blt : ∀ b ∈ Snd.bltNames, mg (Str.ofString b) = none := fun b hb => by
    simp only [Snd.bltNames, List.mem_cons, List.not_mem_nil, or_false] at hb
    rcases hb with rfl | rfl | rfl | rfl | rfl | rfl | rfl | rfl | rfl | rfl | rfl | rfl | rfl | rfl | rfl | rfl | rfl | rfl | rfl | rfl
    · exact He.free_ok X Gn (c.fact 30 (f := .free "len") rfl)
    · exact He.free_ok X Gn (c.fact 31 (f := .free "tuple") rfl)
    · exact He.free_ok X Gn (c.fact 32 (f := .free "list") rfl)
    · exact He.free_ok X Gn (c.fact 33 (f := .free "int") rfl)
    · exact He.free_ok X Gn (c.fact 34 (f := .free "str") rfl)
    · exact He.free_ok X Gn (c.fact 35 (f := .free "all") rfl)
    · exact He.free_ok X Gn (c.fact 36 (f := .free "any") rfl)
    · exact He.free_ok X Gn (c.fact 37 (f := .free "isinstance") rfl)
    · exact He.free_ok X Gn (c.fact 38 (f := .free "range") rfl)
    · exact He.free_ok X Gn (c.fact 39 (f := .free "enumerate") rfl)
    · exact He.free_ok X Gn (c.fact 40 (f := .free "zip") rfl)
    · exact He.free_ok X Gn (c.fact 41 (f := .free "bool") rfl)
    · exact He.free_ok X Gn (c.fact 42 (f := .free "min") rfl)
    · exact He.free_ok X Gn (c.fact 43 (f := .free "max") rfl)
    · exact He.free_ok X Gn (c.fact 44 (f := .free "sorted") rfl)
    · exact He.free_ok X Gn (c.fact 45 (f := .free "set") rfl)
    · exact He.free_ok X Gn (c.fact 46 (f := .free "dict") rfl)
    · exact He.free_ok X Gn (c.fact 47 (f := .free "sum") rfl)
    · exact He.free_ok X Gn (c.fact 48 (f := .free "ord") rfl)
    · exact He.free_ok X Gn (c.fact 49 (f := .free "ValueError") rfl)
  refine ⟨fun f hf => ?_, by decide, blt, fun k d hd => ?_, fun cx hc => ?_, fun ht => ?_, fun r hr => ?_⟩
  · simp only [fs, List.mem_cons, List.not_mem_nil, or_false] at hf
    rcases hf with rfl | rfl | rfl | rfl | rfl | rfl | rfl | rfl | rfl | rfl | rfl | rfl | rfl | rfl | rfl | rfl | rfl | rfl | rfl | rfl | rfl | rfl | rfl | rfl | rfl | rfl | rfl | rfl | rfl | rfl
    · obtain ⟨fd, FD⟩ := c.def_ 0 (d := d_names_of) rfl
      exact ⟨_, fd, N_names_of, _, _, _, _, _, m_names_of, He.glo_ok X Gn (c.fact 0 (f := .glo "names_of") rfl), (fun _ _ _ _ _ _ us hl => match us, hl with | [_], _ => rfl), FD, sc_names_of, rfl, fun hn => absurd hn (show ¬ "names_of" ∈ fs.news by decide), rfl, rfl, ck_names_of, fun hl => absurd hl (show ¬ lam "names_of" = true by decide)⟩
    · obtain ⟨fd, FD⟩ := c.def_ 1 (d := d_place_of) rfl
      exact ⟨_, fd, N_place_of, _, _, _, _, _, m_place_of, He.glo_ok X Gn (c.fact 1 (f := .glo "place_of") rfl), (fun _ _ _ _ _ _ us hl => match us, hl with | [_, _], _ => rfl), FD, sc_place_of, rfl, fun hn => absurd hn (show ¬ "place_of" ∈ fs.news by decide), rfl, rfl, ck_place_of, fun hl => absurd hl (show ¬ lam "place_of" = true by decide)⟩
    · obtain ⟨fd, FD⟩ := c.def_ 2 (d := d_table_of) rfl
      exact ⟨_, fd, N_table_of, _, _, _, _, _, m_table_of, He.glo_ok X Gn (c.fact 2 (f := .glo "table_of") rfl), (fun _ _ _ _ _ _ us hl => match us, hl with | [_, _], _ => rfl), FD, sc_table_of, rfl, fun hn => absurd hn (show ¬ "table_of" ∈ fs.news by decide), rfl, rfl, ck_table_of, fun hl => absurd hl (show ¬ lam "table_of" = true by decide)⟩
    · obtain ⟨fd, FD⟩ := c.def_ 3 (d := d_row_key) rfl
      exact ⟨_, fd, N_row_key, _, _, _, _, _, m_row_key, He.glo_ok X Gn (c.fact 3 (f := .glo "row_key") rfl), (fun _ _ _ _ _ _ us hl => match us, hl with | [_, _], _ => rfl), FD, sc_row_key, rfl, fun hn => absurd hn (show ¬ "row_key" ∈ fs.news by decide), rfl, rfl, ck_row_key, fun hl => absurd hl (show ¬ lam "row_key" = true by decide)⟩
    · obtain ⟨fd, FD⟩ := c.def_ 4 (d := d_compared) rfl
      exact ⟨_, fd, N_compared, _, _, _, _, _, m_compared, He.glo_ok X Gn (c.fact 4 (f := .glo "compared") rfl), (fun _ _ _ _ _ _ us hl => match us, hl with | [_, _, _], _ => rfl), FD, sc_compared, rfl, fun hn => absurd hn (show ¬ "compared" ∈ fs.news by decide), rfl, rfl, ck_compared, fun hl => absurd hl (show ¬ lam "compared" = true by decide)⟩
    · obtain ⟨fd, FD⟩ := c.def_ 5 (d := d_holds) rfl
      exact ⟨_, fd, N_holds, _, _, _, _, _, m_holds, He.glo_ok X Gn (c.fact 5 (f := .glo "holds") rfl), (fun _ _ _ _ _ _ us hl => match us, hl with | [_, _, _], _ => rfl), FD, sc_holds, rfl, fun hn => absurd hn (show ¬ "holds" ∈ fs.news by decide), rfl, rfl, ck_holds, fun hl => absurd hl (show ¬ lam "holds" = true by decide)⟩
    · obtain ⟨fd, FD⟩ := c.def_ 6 (d := d_key_of) rfl
      exact ⟨_, fd, N_key_of, _, _, _, _, _, m_key_of, He.glo_ok X Gn (c.fact 6 (f := .glo "key_of") rfl), (fun _ _ _ _ _ _ us hl => match us, hl with | [_, _], _ => rfl), FD, sc_key_of, rfl, fun hn => absurd hn (show ¬ "key_of" ∈ fs.news by decide), rfl, rfl, ck_key_of, fun hl => absurd hl (show ¬ lam "key_of" = true by decide)⟩
    · obtain ⟨fd, FD⟩ := c.def_ 7 (d := d_rows_of) rfl
      exact ⟨_, fd, N_rows_of, _, _, _, _, _, m_rows_of, He.glo_ok X Gn (c.fact 7 (f := .glo "rows_of") rfl), (fun _ _ _ _ _ _ us hl => match us, hl with | [_, _, _], _ => rfl), FD, sc_rows_of, rfl, fun hn => absurd hn (show ¬ "rows_of" ∈ fs.news by decide), rfl, rfl, ck_rows_of, fun hl => absurd hl (show ¬ lam "rows_of" = true by decide)⟩
    · obtain ⟨fd, FD⟩ := c.def_ 8 (d := d_keys_in) rfl
      exact ⟨_, fd, N_keys_in, _, _, _, _, _, m_keys_in, He.glo_ok X Gn (c.fact 8 (f := .glo "keys_in") rfl), (fun _ _ _ _ _ _ us hl => match us, hl with | [_, _, _], _ => rfl), FD, sc_keys_in, rfl, fun hn => absurd hn (show ¬ "keys_in" ∈ fs.news by decide), rfl, rfl, ck_keys_in, fun hl => absurd hl (show ¬ lam "keys_in" = true by decide)⟩
    · obtain ⟨fd, FD⟩ := c.def_ 9 (d := d_worths_in) rfl
      exact ⟨_, fd, N_worths_in, _, _, _, _, _, m_worths_in, He.glo_ok X Gn (c.fact 9 (f := .glo "worths_in") rfl), (fun _ _ _ _ _ _ us hl => match us, hl with | [_, _, _], _ => rfl), FD, sc_worths_in, rfl, fun hn => absurd hn (show ¬ "worths_in" ∈ fs.news by decide), rfl, rfl, ck_worths_in, fun hl => absurd hl (show ¬ lam "worths_in" = true by decide)⟩
    · obtain ⟨fd, FD⟩ := c.def_ 10 (d := d_breaking_rows) rfl
      exact ⟨_, fd, N_breaking_rows, _, _, _, _, _, m_breaking_rows, He.glo_ok X Gn (c.fact 10 (f := .glo "breaking_rows") rfl), (fun _ _ _ _ _ _ us hl => match us, hl with | [_, _, _, _], _ => rfl), FD, sc_breaking_rows, rfl, fun hn => absurd hn (show ¬ "breaking_rows" ∈ fs.news by decide), rfl, rfl, ck_breaking_rows, fun hl => absurd hl (show ¬ lam "breaking_rows" = true by decide)⟩
    · obtain ⟨fd, FD⟩ := c.def_ 11 (d := d_breaks) rfl
      exact ⟨_, fd, N_breaks, _, _, _, _, _, m_breaks, He.glo_ok X Gn (c.fact 11 (f := .glo "breaks") rfl), (fun _ _ _ _ _ _ us hl => match us, hl with | [_, _], _ => rfl), FD, sc_breaks, rfl, fun hn => absurd hn (show ¬ "breaks" ∈ fs.news by decide), rfl, rfl, ck_breaks, fun hl => absurd hl (show ¬ lam "breaks" = true by decide)⟩
    · obtain ⟨fd, FD⟩ := c.def_ 12 (d := d__law_cell_at) rfl
      exact ⟨_, fd, N__law_cell_at, _, _, _, _, _, m__law_cell_at, He.glo_ok X Gn (c.fact 12 (f := .glo "_law_cell_at") rfl), (fun _ _ _ _ _ _ us hl => match us, hl with | [_, _], _ => rfl), FD, sc__law_cell_at, rfl, fun hn => absurd hn (show ¬ "_law_cell_at" ∈ fs.news by decide), rfl, rfl, ck__law_cell_at, fun hl => absurd hl (show ¬ lam "_law_cell_at" = true by decide)⟩
    · obtain ⟨fd, FD⟩ := c.def_ 13 (d := d__law_mixed) rfl
      exact ⟨_, fd, N__law_mixed, _, _, _, _, _, m__law_mixed, He.glo_ok X Gn (c.fact 13 (f := .glo "_law_mixed") rfl), (fun _ _ _ _ _ _ us hl => match us, hl with | [_, _], _ => rfl), FD, sc__law_mixed, rfl, fun hn => absurd hn (show ¬ "_law_mixed" ∈ fs.news by decide), rfl, rfl, ck__law_mixed, fun hl => absurd hl (show ¬ lam "_law_mixed" = true by decide)⟩
    · obtain ⟨fd, FD⟩ := c.def_ 14 (d := d__law_drawn) rfl
      exact ⟨_, fd, N__law_drawn, _, _, _, _, _, m__law_drawn, He.glo_ok X Gn (c.fact 14 (f := .glo "_law_drawn") rfl), (fun _ _ _ _ _ _ us hl => match us, hl with | [_, _], _ => rfl), FD, sc__law_drawn, rfl, fun hn => absurd hn (show ¬ "_law_drawn" ∈ fs.news by decide), rfl, rfl, ck__law_drawn, fun hl => absurd hl (show ¬ lam "_law_drawn" = true by decide)⟩
    · obtain ⟨fd, FD⟩ := c.def_ 15 (d := d__law_names) rfl
      exact ⟨_, fd, N__law_names, _, _, _, _, _, m__law_names, He.glo_ok X Gn (c.fact 15 (f := .glo "_law_names") rfl), (fun _ _ _ _ _ _ us hl => match us, hl with | [_], _ => rfl), FD, sc__law_names, rfl, fun hn => absurd hn (show ¬ "_law_names" ∈ fs.news by decide), rfl, rfl, ck__law_names, fun hl => absurd hl (show ¬ lam "_law_names" = true by decide)⟩
    · obtain ⟨fd, FD⟩ := c.def_ 16 (d := d__law_table) rfl
      exact ⟨_, fd, N__law_table, _, _, _, _, _, m__law_table, He.glo_ok X Gn (c.fact 16 (f := .glo "_law_table") rfl), (fun _ _ _ _ _ _ us hl => match us, hl with | [_, _], _ => rfl), FD, sc__law_table, rfl, fun hn => absurd hn (show ¬ "_law_table" ∈ fs.news by decide), rfl, rfl, ck__law_table, fun hl => absurd hl (show ¬ lam "_law_table" = true by decide)⟩
    · obtain ⟨fd, FD⟩ := c.def_ 17 (d := d__law_key) rfl
      exact ⟨_, fd, N__law_key, _, _, _, _, _, m__law_key, He.glo_ok X Gn (c.fact 17 (f := .glo "_law_key") rfl), (fun _ _ _ _ _ _ us hl => match us, hl with | [_, _], _ => rfl), FD, sc__law_key, rfl, fun hn => absurd hn (show ¬ "_law_key" ∈ fs.news by decide), rfl, rfl, ck__law_key, fun hl => absurd hl (show ¬ lam "_law_key" = true by decide)⟩
    · obtain ⟨fd, FD⟩ := c.def_ 18 (d := d__law_worths) rfl
      exact ⟨_, fd, N__law_worths, _, _, _, _, _, m__law_worths, He.glo_ok X Gn (c.fact 18 (f := .glo "_law_worths") rfl), (fun _ _ _ _ _ _ us hl => match us, hl with | [_, _, _], _ => rfl), FD, sc__law_worths, rfl, fun hn => absurd hn (show ¬ "_law_worths" ∈ fs.news by decide), rfl, rfl, ck__law_worths, fun hl => absurd hl (show ¬ lam "_law_worths" = true by decide)⟩
    · obtain ⟨fd, FD⟩ := c.def_ 19 (d := d__law_rows) rfl
      exact ⟨_, fd, N__law_rows, _, _, _, _, _, m__law_rows, He.glo_ok X Gn (c.fact 19 (f := .glo "_law_rows") rfl), (fun _ _ _ _ _ _ us hl => match us, hl with | [_, _, _], _ => rfl), FD, sc__law_rows, rfl, fun hn => absurd hn (show ¬ "_law_rows" ∈ fs.news by decide), rfl, rfl, ck__law_rows, fun hl => absurd hl (show ¬ lam "_law_rows" = true by decide)⟩
    · obtain ⟨fd, FD⟩ := c.def_ 20 (d := d__law_test) rfl
      exact ⟨_, fd, N__law_test, _, _, _, _, _, m__law_test, He.glo_ok X Gn (c.fact 20 (f := .glo "_law_test") rfl), (fun _ _ _ _ _ _ us hl => match us, hl with | [_, _, _], _ => rfl), FD, sc__law_test, rfl, fun hn => absurd hn (show ¬ "_law_test" ∈ fs.news by decide), rfl, rfl, ck__law_test, fun hl => absurd hl (show ¬ lam "_law_test" = true by decide)⟩
    · obtain ⟨fd, FD⟩ := c.def_ 21 (d := d__law_bare) rfl
      exact ⟨_, fd, N__law_bare, _, _, _, _, _, m__law_bare, He.glo_ok X Gn (c.fact 21 (f := .glo "_law_bare") rfl), (fun _ _ _ _ _ _ us hl => match us, hl with | [_, _], _ => rfl), FD, sc__law_bare, rfl, fun hn => absurd hn (show ¬ "_law_bare" ∈ fs.news by decide), rfl, rfl, ck__law_bare, fun hl => absurd hl (show ¬ lam "_law_bare" = true by decide)⟩
    · obtain ⟨fd, FD⟩ := c.def_ 22 (d := d__law_pairs) rfl
      exact ⟨_, fd, N__law_pairs, _, _, _, _, _, m__law_pairs, He.glo_ok X Gn (c.fact 22 (f := .glo "_law_pairs") rfl), (fun _ _ _ _ _ _ us hl => match us, hl with | [_, _], _ => rfl), FD, sc__law_pairs, rfl, fun hn => absurd hn (show ¬ "_law_pairs" ∈ fs.news by decide), rfl, rfl, ck__law_pairs, fun hl => absurd hl (show ¬ lam "_law_pairs" = true by decide)⟩
    · obtain ⟨fd, FD⟩ := c.def_ 23 (d := d__law_rule) rfl
      exact ⟨_, fd, N__law_rule, _, _, _, _, _, m__law_rule, He.glo_ok X Gn (c.fact 23 (f := .glo "_law_rule") rfl), (fun _ _ _ _ _ _ us hl => match us, hl with | [_, _, _], _ => rfl), FD, sc__law_rule, rfl, fun hn => absurd hn (show ¬ "_law_rule" ∈ fs.news by decide), rfl, rfl, ck__law_rule, fun hl => absurd hl (show ¬ lam "_law_rule" = true by decide)⟩
    · obtain ⟨fd, FD⟩ := c.def_ 24 (d := d__law_schema) rfl
      exact ⟨_, fd, N__law_schema, _, _, _, _, _, m__law_schema, He.glo_ok X Gn (c.fact 24 (f := .glo "_law_schema") rfl), (fun _ _ _ _ _ _ us hl => match us, hl with | [_], _ => rfl), FD, sc__law_schema, rfl, fun hn => absurd hn (show ¬ "_law_schema" ∈ fs.news by decide), rfl, rfl, ck__law_schema, fun hl => absurd hl (show ¬ lam "_law_schema" = true by decide)⟩
    · obtain ⟨fd, FD⟩ := c.def_ 25 (d := d__law_worth) rfl
      exact ⟨_, fd, N__law_worth, _, _, _, _, _, m__law_worth, He.glo_ok X Gn (c.fact 25 (f := .glo "_law_worth") rfl), (fun _ _ _ _ _ _ us hl => match us, hl with | [_, _], _ => rfl), FD, sc__law_worth, rfl, fun hn => absurd hn (show ¬ "_law_worth" ∈ fs.news by decide), rfl, rfl, ck__law_worth, fun hl => absurd hl (show ¬ lam "_law_worth" = true by decide)⟩
    · obtain ⟨fd, FD⟩ := c.def_ 26 (d := d__law_row) rfl
      exact ⟨_, fd, N__law_row, _, _, _, _, _, m__law_row, He.glo_ok X Gn (c.fact 26 (f := .glo "_law_row") rfl), (fun _ _ _ _ _ _ us hl => match us, hl with | [_, _], _ => rfl), FD, sc__law_row, rfl, fun hn => absurd hn (show ¬ "_law_row" ∈ fs.news by decide), rfl, rfl, ck__law_row, fun hl => absurd hl (show ¬ lam "_law_row" = true by decide)⟩
    · obtain ⟨fd, FD⟩ := c.def_ 27 (d := d__law_loose) rfl
      exact ⟨_, fd, N__law_loose, _, _, _, _, _, m__law_loose, He.glo_ok X Gn (c.fact 27 (f := .glo "_law_loose") rfl), (fun _ _ _ _ _ _ us hl => match us, hl with | [_, _], _ => rfl), FD, sc__law_loose, rfl, fun hn => absurd hn (show ¬ "_law_loose" ∈ fs.news by decide), rfl, rfl, ck__law_loose, fun hl => absurd hl (show ¬ lam "_law_loose" = true by decide)⟩
    · obtain ⟨fd, FD⟩ := c.def_ 28 (d := d__law_less) rfl
      exact ⟨_, fd, N__law_less, _, _, _, _, _, m__law_less, He.glo_ok X Gn (c.fact 28 (f := .glo "_law_less") rfl), (fun _ _ _ _ _ _ us hl => match us, hl with | [_, _, _, _], _ => rfl), FD, sc__law_less, rfl, fun hn => absurd hn (show ¬ "_law_less" ∈ fs.news by decide), rfl, rfl, ck__law_less, fun hl => absurd hl (show ¬ lam "_law_less" = true by decide)⟩
    · obtain ⟨fd, FD⟩ := c.def_ 29 (d := d_law) rfl
      exact ⟨_, fd, N_law, _, _, _, _, _, m_law, He.glo_ok X Gn (c.fact 29 (f := .glo "law") rfl), (fun _ _ _ _ _ _ us hl => match us, hl with | [_], _ => rfl), FD, sc_law, rfl, fun hn => absurd hn (show ¬ "law" ∈ fs.news by decide), rfl, rfl, ck_law, fun hl => absurd hl (show ¬ lam "law" = true by decide)⟩
  · cases hd
  · cases hc
  · cases ht
  · cases hr
end HH
open PySem PySem.W PySem.Calls PyProof.Rows
theorem PySem.Challenge.cw_dealtables_k21_whole_what_breaks_holds : PySem.Challenge.rw_dealtables_k21_whole_what_breaks.Holds := by
  w_on; o_law
  refine HandSHeadRun.head_any (r := OpenLaw.row PySem.Challenge.rw_dealtables_k21_whole_what_breaks) (q := view (OpenLaw.row PySem.Challenge.rw_dealtables_k21_whole_what_breaks).prog [33]) (H := HH.hk) (ob := HH.ob) (M := 20000) (loose := HH.ls) (d := HandSHeadRun.topDef (OpenLaw.row PySem.Challenge.rw_dealtables_k21_whole_what_breaks).prog 33) (kwd := []) HH.ob_eq
    (by kernel_rfl) (fun s => by kernel_rfl) HH.run (by kernel_rfl) (by kernel_rfl) (by kernel_rfl) (by rfl) (by first | assumption | decide +kernel) (by decide +kernel) ⟨rfl, rfl, rfl, rfl, rfl, by decide +kernel⟩ ?hw ?hc
  case hw => w_witness2
  case hc =>
    refine LamX.walk_ofTsE (l := PySem.Challenge.rw_dealtables_k21_whole_what_breaks) (n := 63) (k := Snd.lev Law.depth) (x := "_law_script") (CX := fun w => L2.CX (PySem.Challenge.rw_dealtables_k21_whole_what_breaks).prog w) rfl (by decide) (by kernel_rfl) ⟨rfl, by decide, by decide⟩ ?F ?CX
    case F =>
      intro w mg fa h Y G hmg0
      obtain ⟨K, KX, c⟩ := Y
      have hmg : mg ("law" : PySem.Str) = some (.ref fa) := by
        have e : (HandSHeadRun.topDef (OpenLaw.row PySem.Challenge.rw_dealtables_k21_whole_what_breaks).prog 33).name = ("law" : PySem.Str) := by kernel_rfl
        rw [← e]
        exact hmg0
      letI : Snd.PrW := ⟨(PySem.Challenge.rw_dealtables_k21_whole_what_breaks).prog, w, HH.tabs K, HH.trs⟩
      exact ⟨K, KX, Snd.law_endT (l := PySem.Challenge.rw_dealtables_k21_whole_what_breaks) (w := w) (tf := HH.tf) rfl rfl (HH.prg rfl rfl KX G c.t.d c.more) KX hmg (by decide) rfl (HH.tabs_tf K) HH.lam_tf c.hd c.out c.empty Law.holds⟩
    case CX => exact fun w => (letI : Snd.PrW := ⟨(PySem.Challenge.rw_dealtables_k21_whole_what_breaks).prog, w, [], []⟩; Snd.cx_none w)
