import PyProof.Rows.All
import Wide.All
import OpenK.AllK
import Wide.FinOn
import HandS.ForMost
import HandS.Exc
import HandS.ExcOwn
import HandS.TryOnly
import HandS.WordsExc
import HandS.TupAny
import HandS.TupMul
import KE.SortData
import KE.DataFind
import KE.DataMinMax
import KE.DataCmp
import KE.DataEq
import HandS.Style
import HandS.IsInst
import HandS.Flow
import HandS.Walk
import KE.GoesEnum
import KE.GoesNew
import KE.KDictZip
import HandS.Conv
import HandS.SetFor
import HandS.Strs
import PySem.Challenge.RW_evenpack_k17_the_first_that_does_not_fit
set_option Elab.async false
set_option linter.all false
set_option maxRecDepth 100000
namespace EV
open PySem
/-! A small evaluator over data. -/
abbrev D := PyData
/-- what a slot holds: data, or a list that this slot alone owns -/
inductive SV where
  | d (x : D)
  | own (xs : List D)
/-- a value on the way: data; the list of a slot; a list just made; a slot handed on to be changed -/
inductive W where
  | d (x : D)
  | al (i : Nat)
  | nw (xs : List D)
  | io (i : Nat)
abbrev Sl := List (Option SV)
inductive R (α : Type) where
  | ok (a : α) (s : Sl)
  | exc (c : Nat) (s : Sl)
  | stuck
/-- a call's end: the value, the slots handed on -/
inductive CR where
  | ok (w : W) (outs : Sl)
  | exc (c : Nat) (outs : Sl)
  | stuck
/-- built-ins -/
inductive Bi where
  | len | tuple | list | min2 | max2 | min1 | max1 | all | any | sum | abs | sorted | isInt | isBool | isTuple | isStr | isList | repr | int | str | divmod
  deriving DecidableEq
inductive Bop where
  | add | sub | mul | mod | fdiv | pow
  deriving DecidableEq
inductive Cop where
  | eq | ne | lt | le | gt | ge | is | isNot | inn | notIn
  deriving DecidableEq
mutual
inductive Tg where
  | nm (i : Nat)
  | tp (ts : Tgs)
inductive Tgs where
  | nil
  | cons (t : Tg) (ts : Tgs)
end
mutual
inductive Ex where
  | v (i : Nat)
  | fz (i : Nat)
  | io (i : Nat)
  | c (x : D)
  | g (k : Nat)
  | bin (op : Bop) (a b : Ex)
  | neg (a : Ex)
  | nott (a : Ex)
  | andd (as : Exs)
  | orr (as : Exs)
  | cmp (op : Cop) (a b : Ex)
  | chain (op op' : Cop) (a b c : Ex)
  | ite (c a b : Ex)
  | tup (as : Exs)
  | lst (as : Exs)
  | idx (a b : Ex)
  | cut (a : Ex) (lo hi : Exo)
  | rev (a : Ex)
  | call (f : Nat) (as : Exs)
  | callK (f : Nat) (as ks : Exs) (nm : List String) (pm : List Nat)
  | bi (f : Bi) (as : Exs)
  | comp (elt : Ex) (tg : Tg) (it : Iw) (own : List Nat) (ifs : Exs)
  | cnt (a b : Ex)
  | lrng (tp : Bool) (as : Exs)
  | dct (ks : List (Int × Int))
  | sset (a : Ex)
  | comp2 (elt : Ex) (tg : Tg) (it : Iw) (tg2 : Tg) (it2 : Iw) (own vs2 : List Nat)
  | nev
inductive Exs where
  | nil
  | cons (a : Ex) (as : Exs)
inductive Exo where
  | non
  | som (a : Ex)
inductive Iw where
  | seq (a : Ex)
  | rng (as : Exs)
  | zip (as : Exs)
  | enum (as : Exs)
  | enz (as : Exs)
end
mutual
inductive Sm where
  | set (i : Nat) (e : Ex)
  | seto (i : Nat) (e : Ex)
  | unp (tg : Tg) (e : Ex)
  | par (i j : Nat) (a b : Ex)
  | app (i : Nat) (e : Ex)
  | parn (ts : List (Nat × Bool)) (as : Exs)
  | ext (i : Nat) (e : Ex)
  | aug (i : Nat) (op : Bop) (e : Ex)
  | seti (i : Nat) (ix e : Ex)
  | iff (c : Ex) (a b : Sms)
  | forr (tg : Tg) (it : Iw) (b : Sms)
  | whl (c : Ex) (b : Sms)
  | ret (e : Ex)
  | retn
  | ex (e : Ex)
  | pass
  | cont
  | raise (c : Nat)
  | nev
inductive Sms where
  | nil
  | cons (a : Sm) (as : Sms)
end
/-! ### operations on data -/
def lim : Nat := 16777216
def lstW (xs : List D) : Option W := if xs.length ≤ lim then some (.nw xs) else none
def tupW (xs : List D) : Option W := if xs.length ≤ lim then some (.d (.tuple xs)) else none
def small64 (i : Int) : Bool := decide (-(2 ^ 64) < i ∧ i < 2 ^ 64)
def notNon : D → Bool
  | .none => false
  | _ => true
def tupNe : D → Bool
  | .tuple (_ :: _) => true
  | _ => false
def notTN : D → Bool
  | .none => false
  | .tuple _ => false
  | _ => true
/-- all of one kind, place by place -/
def alikeL (xs : List D) : Bool := xs.all fun x => xs.all fun y => PySem.W.alike x y
/-- in order: the library's merge sort, by structural recursion -/
def mgF {α : Type} (le : α → α → Bool) : Nat → List α → List α → List α
  | 0, _, _ => []
  | _ + 1, [], ys => ys
  | _ + 1, x :: xs, [] => x :: xs
  | n + 1, x :: xs, y :: ys => if le x y then x :: mgF le n xs (y :: ys) else y :: mgF le n (x :: xs) ys
def msF {α : Type} (le : α → α → Bool) : Nat → List α → List α
  | 0, xs => xs
  | _ + 1, [] => []
  | _ + 1, [a] => [a]
  | n + 1, a :: b :: r => mgF le (r.length + 3) (msF le n ((a :: b :: r).take ((r.length + 3) / 2))) (msF le n ((a :: b :: r).drop ((r.length + 3) / 2)))
theorem mgF_is {α : Type} (le : α → α → Bool) : ∀ (n : Nat) (xs ys : List α), xs.length + ys.length < n → mgF le n xs ys = List.merge xs ys le
  | 0, _, _, h => by omega
  | n + 1, [], ys, _ => by simp [mgF]
  | n + 1, x :: xs, [], _ => by simp [mgF]
  | n + 1, x :: xs, y :: ys, h => by
    simp only [List.length_cons] at h
    rw [mgF, List.merge.eq_def]
    simp only
    split
    · rw [mgF_is le n xs (y :: ys) (by simp only [List.length_cons]; omega)]
    · rw [mgF_is le n (x :: xs) ys (by simp only [List.length_cons]; omega)]
theorem msF_is {α : Type} (le : α → α → Bool) : ∀ (n : Nat) (xs : List α), xs.length ≤ n → msF le n xs = xs.mergeSort le
  | 0, xs, h => by
    cases xs with
    | nil => simp [msF]
    | cons x xs => simp at h
  | n + 1, [], _ => by simp [msF]
  | n + 1, [a], _ => by simp [msF]
  | n + 1, a :: b :: r, h => by
    simp only [List.length_cons] at h
    rw [msF, List.mergeSort.eq_def]
    simp only [List.MergeSort.Internal.splitInTwo, List.splitAt_eq, List.length_cons]
    rw [msF_is le n _ (by simp only [List.length_take, List.length_cons]; omega), msF_is le n _ (by simp only [List.length_drop, List.length_cons]; omega)]
    rw [mgF_is]
    simp only [List.length_mergeSort, List.length_take, List.length_drop, List.length_cons]
    omega
def sortD (xs : List D) : List D := msF (fun a b => !PySem.W.dataLt b a) xs.length xs
theorem sortD_ms (xs : List D) : sortD xs = xs.mergeSort fun a b => !PySem.W.dataLt b a := msF_is _ _ _ (Nat.le_refl _)
def minX : List D → D
  | [] => .none
  | x :: r => PySem.W.minD x r
def maxX : List D → D
  | [] => .none
  | x :: r => PySem.W.maxD x r
def repL (xs : List D) (k : Nat) : List D := (List.replicate k xs).flatten
def binD : Bop → D → D → Option W
  | .add, .int i, .int j => some (.d (.int (i + j)))
  | .add, .str x, .str y => if x.length + y.length ≤ lim then some (.d (.str (x ++ y))) else none
  | .add, .tuple xs, .tuple ys => tupW (xs ++ ys)
  | .add, .list xs, .list ys => lstW (xs ++ ys)
  | .sub, .int i, .int j => some (.d (.int (i - j)))
  | .mul, .int i, .int j => if small64 i || small64 j then some (.d (.int (i * j))) else none
  | .mul, .tuple xs, .int k => if !xs.isEmpty && decide (1 ≤ k ∧ k ≤ 1000 ∧ xs.length ≤ 1000) then some (.d (.tuple (repL xs k.toNat))) else none
  | .mul, .list xs, .int k => if decide (0 ≤ k ∧ k ≤ 1000 ∧ xs.length ≤ 1000) then some (.nw (repL xs k.toNat)) else none
  | .mod, .int i, .int j => if 0 < j then some (.d (.int (i % j))) else none
  | .fdiv, .int i, .int j => if 0 < j ∧ j < 1073741824 then some (.d (.int (i / j))) else none
  | .pow, .int i, .int j => if 0 ≤ j ∧ j ≤ 1000000 ∧ i.natAbs < 2 ^ 64 then some (.d (.int (i ^ j.toNat))) else none
  | _, _, _ => none
/-- depth at most n, no dict -/
def shp : Nat → D → Bool
  | _, .none => true
  | _, .bool _ => true
  | _, .int _ => true
  | _, .str s => s.cps.all (· < 0x110000)
  | n + 1, .list xs => xs.all (shp n)
  | n + 1, .tuple xs => xs.all (shp n)
  | _, _ => false
def flatKv : List (D × D) → Bool
  | [] => true
  | (.int _, .int _) :: r => flatKv r
  | _ => false
/-- depth at most n, tuples and flat dicts alone -/
def shq : Nat → D → Bool
  | _, .none => true
  | _, .bool _ => true
  | _, .int _ => true
  | _, .str s => s.cps.all (· < 0x110000)
  | n + 1, .tuple xs => xs.all (shq n)
  | _ + 1, .dict kvs => flatKv kvs
  | _, _ => false
def inD (x : D) (xs : List D) : Bool := xs.any fun y => PyData.eqv y x
def cmpD : Cop → D → D → Option Bool
  | .eq, .str x, .str y => some (x == y)
  | .ne, .str x, .str y => some (!(x == y))
  | .eq, x, y => if shp 60 x && shp 60 y then some (PyData.eqv x y) else none
  | .ne, x, y => if shp 60 x && shp 60 y then some (!PyData.eqv x y) else none
  | .lt, .int i, .int j => some (decide (i < j))
  | .le, .int i, .int j => some (decide (i ≤ j))
  | .gt, .int i, .int j => some (decide (j < i))
  | .ge, .int i, .int j => some (decide (j ≤ i))
  | .is, .none, .none => some true
  | .is, .bool _, .none => some false
  | .is, .int _, .none => some false
  | .is, .str _, .none => some false
  | .is, .list _, .none => some false
  | .is, .tuple _, .none => some false
  | .is, .dict _, .none => some false
  | .is, .bool a, .bool b => some (a == b)
  | .isNot, .none, .none => some false
  | .isNot, .bool _, .none => some true
  | .isNot, .int _, .none => some true
  | .isNot, .str _, .none => some true
  | .isNot, .list _, .none => some true
  | .isNot, .tuple _, .none => some true
  | .isNot, .dict _, .none => some true
  | .isNot, .bool a, .bool b => some (a != b)
  | .lt, x, y => if PySem.W.alike x y && notNon x && shp 60 x && shp 60 y then some (PySem.W.dataLt x y) else none
  | .gt, x, y => if PySem.W.alike x y && notNon x && shp 60 x && shp 60 y then some (PySem.W.dataLt y x) else none
  | .le, x, y => if PySem.W.alike x y && notNon x && shp 60 x && shp 60 y then some (!PySem.W.dataLt y x) else none
  | .ge, x, y => if PySem.W.alike x y && notNon x && shp 60 x && shp 60 y then some (!PySem.W.dataLt x y) else none
  | .inn, x, .list ys => if shp 60 x && shp 60 (.list ys) then some (inD x ys) else none
  | .inn, x, .tuple ys => if shp 60 x && shp 60 (.tuple ys) then some (inD x ys) else none
  | .notIn, x, .list ys => if shp 60 x && shp 60 (.list ys) then some (!inD x ys) else none
  | .notIn, x, .tuple ys => if shp 60 x && shp 60 (.tuple ys) then some (!inD x ys) else none
  | _, _, _ => none
def truD : D → Option Bool
  | .none => some false
  | .bool b => some b
  | .int i => some (i != 0)
  | .list xs => some (!xs.isEmpty)
  | .tuple xs => some (!xs.isEmpty)
  | _ => none
/-- the place that an index means -/
def ixD (n : Nat) (i : Int) : Option Nat := if 0 ≤ i then (if i < n then some i.toNat else none) else if -(n : Int) ≤ i then some (i + n).toNat else none
def atD (xs : List D) (i : Int) : Option D := (ixD xs.length i).bind fun j => xs[j]?
def idxD : D → D → Option D
  | .list xs, .int i => atD xs i
  | .tuple xs, .int i => atD xs i
  | _, _ => none
def bndD (n d : Nat) : Option Int → Nat
  | none => d
  | some v => if v < 0 then (v + n).toNat else min v.toNat n
def cutL (xs : List D) (lo hi : Option Int) : List D := (xs.drop (bndD xs.length 0 lo)).take (bndD xs.length xs.length hi - bndD xs.length 0 lo)
def cutD : D → Option Int → Option Int → Option W
  | .list xs, lo, hi => some (.nw (cutL xs lo hi))
  | .tuple xs, lo, hi => some (.d (.tuple (cutL xs lo hi)))
  | _, _, _ => none
def revD : D → Option W
  | .list xs => some (.nw xs.reverse)
  | .tuple xs => some (.d (.tuple xs.reverse))
  | _ => none
def intsD : List D → Option (List Int)
  | [] => some []
  | .int i :: r => (intsD r).map (i :: ·)
  | _ :: _ => none
def blsD : List D → Option (List Bool)
  | [] => some []
  | .bool b :: r => (blsD r).map (b :: ·)
  | _ :: _ => none
def minI : List Int → Int
  | [] => 0
  | x :: r => r.foldl (fun a b => if b < a then b else a) x
def maxI : List Int → Int
  | [] => 0
  | x :: r => r.foldl (fun a b => if a < b then b else a) x
/-- ints in order -/
def sortI (xs : List Int) : List Int := xs.mergeSort fun a b => decide (a ≤ b)
def seqD : D → Option (List D)
  | .list xs => some xs
  | .tuple xs => some xs
  | _ => none
def sortedD : List D → Option W
  | [.list xs] => if alikeL xs && (xs.all tupNe || xs.all notTN) && xs.all (shp 60) && decide (xs.length ≤ lim) then some (.nw (sortD xs)) else none
  | _ => none
def reprD : List D → Option W
  | [.list xs] => if shp 60 (.list xs) && PyData.showable (.list xs) && decide ((PyData.shown (.list xs)).length ≤ lim) then some (.d (.str (PyData.shown (.list xs)))) else none
  | [.tuple xs] => if (shp 60 (.tuple xs) || shq 60 (.tuple xs)) && PyData.showable (.tuple xs) && decide ((PyData.shown (.tuple xs)).length ≤ lim) then some (.d (.str (PyData.shown (.tuple xs)))) else none
  | [.dict xs] => if shq 60 (.dict xs) && PyData.showable (.dict xs) && decide ((PyData.shown (.dict xs)).length ≤ lim) then some (.d (.str (PyData.shown (.dict xs)))) else none
  | [.str x] => if decide ((PyData.shown (.str x)).length ≤ lim) then some (.d (.str (PyData.shown (.str x)))) else none
  | [.none] => some (.d (.str "None"))
  | [.bool b] => some (.d (.str (if b then "True" else "False")))
  | [.int i] => if decide (i.natAbs.log2 < 1920) then some (.d (.str (toString i))) else none
  | _ => none
def biD : Bi → List D → Option W
  | .len, [.list xs] => some (.d (.int xs.length))
  | .len, [.tuple xs] => some (.d (.int xs.length))
  | .tuple, [.list xs] => some (.d (.tuple xs))
  | .tuple, [.tuple xs] => some (.d (.tuple xs))
  | .list, [.list xs] => some (.nw xs)
  | .list, [.tuple xs] => some (.nw xs)
  | .min2, [.int i, .int j] => some (.d (.int (min i j)))
  | .max2, [.int i, .int j] => some (.d (.int (max i j)))
  | .min1, [x] => (seqD x).bind fun xs => match intsD xs with
    | some ns => if ns.isEmpty then none else some (.d (.int (minI ns)))
    | none => if alikeL xs && xs.all notNon && xs.all (shp 60) && !xs.isEmpty then some (.d (minX xs)) else none
  | .max1, [x] => (seqD x).bind fun xs => match intsD xs with
    | some ns => if ns.isEmpty then none else some (.d (.int (maxI ns)))
    | none => if alikeL xs && xs.all notNon && xs.all (shp 60) && !xs.isEmpty then some (.d (maxX xs)) else none
  | .all, [x] => (seqD x).bind fun xs => (blsD xs).bind fun bs => some (.d (.bool (bs.all id)))
  | .any, [x] => (seqD x).bind fun xs => (blsD xs).bind fun bs => some (.d (.bool (bs.any id)))
  | .sum, [x] => (seqD x).bind fun xs => (intsD xs).bind fun ns => some (.d (.int ns.sum))
  | .abs, [.int i] => some (.d (.int (if i < 0 then -i else i)))
  | .sorted, xs => sortedD xs
  | .repr, xs => reprD xs
  | .int, [.int i] => some (.d (.int i))
  | .int, [.bool b] => some (.d (.int (if b then 1 else 0)))
  | .str, [.int i] => if decide (i.natAbs.log2 < 1920) then some (.d (.str (toString i))) else none
  | .divmod, [.int i, .int j] => if 0 < j ∧ j < 1073741824 then some (.d (.tuple [.int (i / j), .int (i % j)])) else none
  | .isInt, [.int _] => some (.d (.bool true))
  | .isInt, [.bool _] => some (.d (.bool true))
  | .isInt, [_] => some (.d (.bool false))
  | .isBool, [.bool _] => some (.d (.bool true))
  | .isBool, [_] => some (.d (.bool false))
  | .isTuple, [.tuple _] => some (.d (.bool true))
  | .isTuple, [_] => some (.d (.bool false))
  | .isList, [.list _] => some (.d (.bool true))
  | .isList, [_] => some (.d (.bool false))
  | .isStr, [.str _] => some (.d (.bool true))
  | .isStr, [_] => some (.d (.bool false))
  | _, _ => none
/-- ints, each once, rising -/
def insI (k : Int) : List Int → List Int
  | [] => [k]
  | x :: xs => if k < x then k :: x :: xs else if k = x then x :: xs else x :: insI k xs
def ssI (ns : List Int) : List Int := ns.foldr insI []
def ssD : D → Option W
  | .tuple xs => (intsD xs).bind fun ns => if ns.length < 64 then some (.nw ((ssI ns).map .int)) else none
  | _ => none
/-- how often an int is in a list of ints -/
def cntD : D → D → Option W
  | .list xs, .int k => (intsD xs).bind fun ns => some (.d (.int (ns.count k : Nat)))
  | _, _ => none
def isLst : D → Option Unit
  | .list _ => some ()
  | _ => none
/-- a dict that is written out: none or one pair of ints -/
def dctW : List (Int × Int) → Option W
  | [] => some (.d (.dict []))
  | [(i, j)] => some (.d (.dict [(.int i, .int j)]))
  | _ => none
/-! ### slots -/
def den (s : Sl) : W → Option D
  | .d x => some x
  | .al i => match s[i]? with
    | some (some (.own xs)) => some (.list xs)
    | _ => none
  | .nw xs => some (.list xs)
  | .io _ => none
def dens (s : Sl) : List W → Option (List D)
  | [] => some []
  | w :: ws => (den s w).bind fun x => (dens s ws).bind fun xs => some (x :: xs)
/-- a value to be kept -/
def keep : W → Option D
  | .d x => some x
  | .nw xs => some (.list xs)
  | _ => none
def keeps : List W → Option (List D)
  | [] => some []
  | w :: ws => (keep w).bind fun x => (keeps ws).bind fun xs => some (x :: xs)
/-- the arguments of a call -/
def args (s : Sl) : List W → Option (List SV)
  | [] => some []
  | .io i :: ws => match s[i]? with
    | some (some (.own xs)) => (args s ws).bind fun r => some (.own xs :: r)
    | _ => none
  | w :: ws => (keep w).bind fun x => (args s ws).bind fun r => some (.d x :: r)
/-- the slots that are handed on; each once -/
def iosOf : List W → List Nat
  | [] => []
  | .io i :: ws => i :: iosOf ws
  | _ :: ws => iosOf ws
def ioNd (ws : List W) : Bool := decide (iosOf ws).Nodup
/-- what a call hands back is data, or a list just made -/
def retOk : W → Bool
  | .d _ => true
  | .nw _ => true
  | _ => false
/-- what was handed on is put back -/
def back : List W → Sl → Sl → Option Sl
  | [], _, s => some s
  | .io i :: ws, some (.own xs) :: os, s => back ws os (s.set i (some (.own xs)))
  | .io _ :: _, _, _ => none
  | _ :: ws, _ :: os, s => back ws os s
  | _ :: _, [], _ => none
def isIo : SV → Bool
  | .own _ => true
  | _ => false
/-- the slots handed on, at a call's end -/
def outsOf : List SV → Sl → Sl
  | [], _ => []
  | .own _ :: ws, x :: s => x :: outsOf ws s
  | .d _ :: ws, _ :: s => none :: outsOf ws s
  | _ :: ws, [] => none :: outsOf ws []
mutual
def bindT : Tg → D → Sl → Option Sl
  | .nm i, x, s => if i < s.length then some (s.set i (some (.d x))) else none
  | .tp ts, .tuple xs, s => bindTs ts xs s
  | .tp _, _, _ => none
def bindTs : Tgs → List D → Sl → Option Sl
  | .nil, [], s => some s
  | .cons t ts, x :: xs, s => (bindT t x s).bind fun s1 => bindTs ts xs s1
  | _, _, _ => none
end
/-- the slots of a comprehension's own names are forgotten -/
def wip (s : Sl) : List Nat → Sl
  | [] => s
  | v :: vs => (wip s vs).set v none
/-- which D a range tells -/
def rngL (lo : Int) (n : Nat) : List D := (List.range n).map fun (k : Nat) => .int (lo + (k : Int))
def rngB (lo : Int) (n : Nat) : List D := (List.range n).map fun (k : Nat) => .int (lo + (k : Int) * (-1))
def enumL : Nat → List D → List D
  | _, [] => []
  | k, x :: xs => .tuple [.int k, x] :: enumL (k + 1) xs
def zipL : List D → List D → List D
  | x :: xs, y :: ys => .tuple [x, y] :: zipL xs ys
  | _, _ => []
def zipL3 : List D → List D → List D → List D
  | x :: xs, y :: ys, z :: zs => .tuple [x, y, z] :: zipL3 xs ys zs
  | _, _, _ => []
def small62 (i : Int) : Bool := decide (-(2 ^ 62) ≤ i ∧ i < 2 ^ 62)
def rngD : List D → Option (List D)
  | [.int j] => if small62 j then some (rngL 0 j.toNat) else none
  | [.int i, .int j] => if small62 i && small62 j then some (rngL i (j - i).toNat) else none
  | [.int i, .int j, .int c] => if decide (c = -1) && small62 i && small62 j then some (rngB i (i - j).toNat) else none
  | _ => none
def zipD : List D → Option (List D)
  | [x, y] => (seqD x).bind fun xs => (seqD y).bind fun ys => some (zipL xs ys)
  | [x, y, z] => (seqD x).bind fun xs => (seqD y).bind fun ys => (seqD z).bind fun zs => some (zipL3 xs ys zs)
  | _ => none
def enumD : List D → Option (List D)
  | [x] => (seqD x).bind fun xs => some (enumL 0 xs)
  | _ => none
def enzD : List D → Option (List D)
  | [x, y] => (seqD x).bind fun xs => (seqD y).bind fun ys => some (enumL 0 (zipL xs ys))
  | _ => none
/-- two in a row -/
@[inline] def R.bind {α β : Type} (r : R α) (f : α → Sl → R β) : R β := match r with
  | .ok a s => f a s
  | .exc c s => .exc c s
  | .stuck => .stuck
def R.of {α : Type} (s : Sl) : Option α → R α
  | some a => .ok a s
  | none => .stuck
/-- as a test -/
@[inline] def R.tst (r : R W) : R Bool := r.bind fun x s1 => R.of s1 ((den s1 x).bind truD)
/-- a comprehension's turns: nothing may be raised within -/
def compL (bnd : D → Sl → Option Sl) (ifs : Sl → R Bool) (elt : Sl → R W) (own : List Nat) : List D → List D → Sl → R (List D)
  | [], acc, s => .ok acc s
  | x :: xs, acc, s => match bnd x s with
    | none => .stuck
    | some s1 => match ifs s1 with
      | .ok false s2 => compL bnd ifs elt own xs acc (wip s2 own)
      | .ok true s2 => match elt s2 with
        | .ok w s3 => match keep w with
          | some y => if acc.length < lim then compL bnd ifs elt own xs (acc ++ [y]) (wip s3 own) else .stuck
          | none => .stuck
        | _ => .stuck
      | _ => .stuck
/-- a call, its values in the parameters' order -/
def callW (C : Nat → List SV → CR) (f : Nat) (ws : List W) (s1 : Sl) : R W := if ioNd ws then (match args s1 ws with
    | none => .stuck
    | some vs => match C f vs with
      | .ok w outs => if retOk w then (match back ws outs s1 with
        | some s2 => .ok w s2
        | none => .stuck) else .stuck
      | .exc c outs => match back ws outs s1 with
        | some s2 => .exc c s2
        | none => .stuck
      | .stuck => .stuck) else .stuck
def permW {α : Type} (pm : List Nat) (ws : List α) : List α := pm.filterMap fun i => ws[i]?
/-- two for's, one within the other -/
def comp2L (bnd : D → Sl → Option Sl) (it2 : Sl → R (List D)) (bnd2 : D → Sl → Option Sl) (elt : Sl → R W) (own vs2 : List Nat) : List D → List D → Sl → R (List D)
  | [], acc, s => .ok acc s
  | x :: xs, acc, s => match bnd x s with
    | none => .stuck
    | some s1 => match it2 s1 with
      | .ok ys s2 => match compL bnd2 (fun s => .ok true s) elt vs2 ys acc (wip s2 vs2) with
        | .ok acc2 s3 => comp2L bnd it2 bnd2 elt own vs2 xs acc2 (wip s3 own)
        | _ => .stuck
      | _ => .stuck
section
variable (G : List D) (C : Nat → List SV → CR)
mutual
def evE : Ex → Sl → R W
  | .v i, s => match s[i]? with
    | some (some (.d x)) => .ok (.d x) s
    | some (some (.own _)) => .ok (.al i) s
    | _ => .stuck
  | .fz i, s => match s[i]? with
    | some (some (.own xs)) => .ok (.d (.list xs)) (s.set i (some (.d (.list xs))))
    | some (some (.d x)) => .ok (.d x) s
    | _ => .stuck
  | .io i, s => match s[i]? with
    | some (some (.own _)) => .ok (.io i) s
    | _ => .stuck
  | .c x, s => .ok (.d x) s
  | .g k, s => match G[k]? with
    | some x => .ok (.d x) s
    | none => .stuck
  | .bin op a b, s => (evE a s).bind fun x s1 => (evE b s1).bind fun y s2 => R.of s2 ((den s2 x).bind fun p => (den s2 y).bind fun q => binD op p q)
  | .neg a, s => (evE a s).bind fun x s1 => match den s1 x with
    | some (.int i) => .ok (.d (.int (-i))) s1
    | _ => .stuck
  | .nott a, s => (evE a s).tst.bind fun b s1 => .ok (.d (.bool !b)) s1
  | .andd as, s => evAnd as s
  | .orr as, s => evOr as s
  | .cmp op a b, s => (evE a s).bind fun x s1 => (evE b s1).bind fun y s2 => R.of s2 ((den s2 x).bind fun p => (den s2 y).bind fun q => (cmpD op p q).map fun r => .d (.bool r))
  | .chain op op' a b c, s => (evE a s).bind fun x s1 => (evE b s1).bind fun y s2 => (R.of s2 ((den s2 x).bind fun p => (den s2 y).bind fun q => cmpD op p q)).bind fun r s3 =>
      if r then (evE c s3).bind fun z s4 => R.of s4 ((den s4 y).bind fun p => (den s4 z).bind fun q => (cmpD op' p q).map fun r => .d (.bool r)) else .ok (.d (.bool false)) s3
  | .ite c a b, s => (evE c s).tst.bind fun k s1 => if k then evE a s1 else evE b s1
  | .tup as, s => (evEs as s).bind fun ws s1 => R.of s1 ((keeps ws).bind tupW)
  | .lst as, s => (evEs as s).bind fun ws s1 => R.of s1 ((keeps ws).bind lstW)
  | .idx a b, s => (evE a s).bind fun x s1 => (evE b s1).bind fun y s2 => R.of s2 ((den s2 x).bind fun p => (den s2 y).bind fun q => (idxD p q).map .d)
  | .cut a lo hi, s => (evE a s).bind fun x s1 => (evO lo s1).bind fun l s2 => (evO hi s2).bind fun h s3 => R.of s3 ((den s3 x).bind fun p => cutD p l h)
  | .rev a, s => (evE a s).bind fun x s1 => R.of s1 ((den s1 x).bind revD)
  | .call f as, s => (evEs as s).bind fun ws s1 => if ioNd ws then (match args s1 ws with
    | none => .stuck
    | some vs => match C f vs with
      | .ok w outs => if retOk w then (match back ws outs s1 with
        | some s2 => .ok w s2
        | none => .stuck) else .stuck
      | .exc c outs => match back ws outs s1 with
        | some s2 => .exc c s2
        | none => .stuck
      | .stuck => .stuck) else .stuck
  | .callK f as ks _ pm, s => (evEs as s).bind fun ws s1 => (evEs ks s1).bind fun zs s2 => callW C f (permW pm (ws ++ zs)) s2
  | .bi f as, s => (evEs as s).bind fun ws s1 => R.of s1 ((dens s1 ws).bind fun xs => biD f xs)
  | .cnt a b, s => (evE a s).bind fun x s1 => (R.of s1 ((den s1 x).bind isLst)).bind fun _ s2 => (evE b s2).bind fun y s3 => R.of s3 ((den s3 x).bind fun p => (den s3 y).bind fun q => cntD p q)
  | .lrng tp as, s => (evEs as s).bind fun ws s1 => R.of s1 ((dens s1 ws).bind fun xs => (rngD xs).bind fun ys => if tp then tupW ys else lstW ys)
  | .dct ks, s => R.of s (dctW ks)
  | .sset a, s => (evE a s).bind fun x s1 => R.of s1 ((den s1 x).bind ssD)
  | .comp elt tg it own ifs, s => (evI it s).bind fun xs s1 => match compL (bindT tg) (evIfs ifs) (evE elt) own xs [] (wip s1 own) with
    | .ok ys s2 => .ok (.nw ys) s2
    | _ => .stuck
  | .comp2 elt tg it tg2 it2 own vs2, s => (evI it s).bind fun xs s1 => match comp2L (bindT tg) (evI it2) (bindT tg2) (evE elt) own vs2 xs [] (wip s1 own) with
    | .ok ys s2 => .ok (.nw ys) s2
    | _ => .stuck
  | .nev, _ => .stuck
def evAnd : Exs → Sl → R W
  | .nil, _ => .stuck
  | .cons a .nil, s => evE a s
  | .cons a as, s => (evE a s).bind fun x s1 => match x with
    | .d (.bool true) => evAnd as s1
    | .d (.bool false) => .ok (.d (.bool false)) s1
    | _ => .stuck
def evOr : Exs → Sl → R W
  | .nil, _ => .stuck
  | .cons a .nil, s => evE a s
  | .cons a as, s => (evE a s).bind fun x s1 => match x with
    | .d (.bool true) => .ok (.d (.bool true)) s1
    | .d (.bool false) => evOr as s1
    | _ => .stuck
def evEs : Exs → Sl → R (List W)
  | .nil, s => .ok [] s
  | .cons a as, s => (evE a s).bind fun x s1 => (evEs as s1).bind fun xs s2 => .ok (x :: xs) s2
def evO : Exo → Sl → R (Option Int)
  | .non, s => .ok none s
  | .som a, s => (evE a s).bind fun x s1 => match den s1 x with
    | some (.int i) => .ok (some i) s1
    | _ => .stuck
/-- the tests of a comprehension -/
def evIfs : Exs → Sl → R Bool
  | .nil, s => .ok true s
  | .cons a .nil, s => (evE a s).tst
  | .cons _ _, _ => .stuck
/-- what is walked -/
def evI : Iw → Sl → R (List D)
  | .seq a, s => (evE a s).bind fun x s1 => R.of s1 ((keep x).bind seqD)
  | .rng as, s => (evEs as s).bind fun ws s1 => R.of s1 ((dens s1 ws).bind rngD)
  | .zip as, s => (evEs as s).bind fun ws s1 => R.of s1 ((keeps ws).bind zipD)
  | .enum as, s => (evEs as s).bind fun ws s1 => R.of s1 ((keeps ws).bind enumD)
  | .enz as, s => (evEs as s).bind fun ws s1 => R.of s1 ((keeps ws).bind enzD)
end
/-! ### statements -/
inductive Fl where
  | nx (s : Sl)
  | rt (w : W) (s : Sl)
  | ct (s : Sl)
  | exc (c : Nat) (s : Sl)
  | stuck
@[inline] def R.fl {α : Type} (r : R α) (f : α → Sl → Fl) : Fl := match r with
  | .ok a s => f a s
  | .exc c s => .exc c s
  | .stuck => .stuck
def forL (bnd : D → Sl → Option Sl) (body : Sl → Fl) : List D → Sl → Fl
  | [], s => .nx s
  | x :: xs, s => match bnd x s with
    | none => .stuck
    | some s1 => match body s1 with
      | .nx s2 => forL bnd body xs s2
      | .ct s2 => forL bnd body xs s2
      | r => r
def whlN (c : Sl → R Bool) (body : Sl → Fl) : Nat → Sl → Fl
  | 0, _ => .stuck
  | n + 1, s => (c s).fl fun k s1 => if k then (match body s1 with
      | .nx s2 => whlN c body n s2
      | .ct s2 => whlN c body n s2
      | r => r) else .nx s1
/-- slots stored together, the last one first -/
def putW (t : Nat × Bool) (w : W) (s : Sl) : Option Sl := if t.1 < s.length then (if t.2 then (match w with
    | .nw xs => some (s.set t.1 (some (.own xs)))
    | _ => none) else (keep w).map fun x => s.set t.1 (some (.d x))) else none
def parD : List (Nat × Bool) → List W → Sl → Option Sl
  | [], [], s => some s
  | t :: ts, w :: ws, s => (parD ts ws s).bind (putW t w)
  | _, _, _ => none
def augF : Bop → Int → Int → Option Int
  | .add, a, b => some (a + b)
  | .sub, a, b => some (a - b)
  | _, _, _ => none
/-- a slot is stored -/
def stD (s : Sl) (i : Nat) (x : SV) : Fl := if i < s.length then .nx (s.set i (some x)) else .stuck
mutual
def evS : Sm → Sl → Fl
  | .set i e, s => (evE G C e s).fl fun w s1 => match keep w with
    | some x => stD s1 i (.d x)
    | none => .stuck
  | .seto i e, s => (evE G C e s).fl fun w s1 => match w with
    | .nw xs => stD s1 i (.own xs)
    | _ => .stuck
  | .unp tg e, s => (evE G C e s).fl fun w s1 => match (keep w).bind fun x => bindT tg x s1 with
    | some s2 => .nx s2
    | none => .stuck
  | .par i j a b, s => (evE G C a s).fl fun x s1 => (evE G C b s1).fl fun y s2 => match keep x, keep y with
    | some p, some q => if i < s2.length ∧ j < s2.length then .nx ((s2.set i (some (.d p))).set j (some (.d q))) else .stuck
    | _, _ => .stuck
  | .app i e, s => match s[i]? with
    | some (some (.own _)) => (evE G C e s).fl fun w s1 => match keep w, s1[i]? with
      | some x, some (some (.own xs)) => if xs.length < lim then .nx (s1.set i (some (.own (xs ++ [x])))) else .stuck
      | _, _ => .stuck
    | _ => .stuck
  | .parn ts as, s => (evEs G C as s).fl fun ws s1 => match parD ts ws s1 with
    | some s2 => .nx s2
    | none => .stuck
  | .ext i e, s => match s[i]? with
    | some (some (.own _)) => (evE G C e s).fl fun w s1 => match w, s1[i]? with
      | .nw ys, some (some (.own xs)) => if xs.length + ys.length ≤ lim then .nx (s1.set i (some (.own (xs ++ ys)))) else .stuck
      | _, _ => .stuck
    | _ => .stuck
  | .aug i op e, s => match s[i]? with
    | some (some (.d (.int a))) => (evE G C e s).fl fun w s1 => match w with
      | .d (.int b) => match augF op a b with
        | some c => stD s1 i (.d (.int c))
        | none => .stuck
      | _ => .stuck
    | _ => .stuck
  | .seti i ix e, s => (evE G C e s).fl fun w s1 => match s1[i]? with
    | some (some (.own _)) => (evE G C ix s1).fl fun k s2 => match keep w, den s2 k, s2[i]? with
      | some x, some (.int j), some (some (.own xs)) => match ixD xs.length j with
        | some m => .nx (s2.set i (some (.own (xs.set m x))))
        | none => .stuck
      | _, _, _ => .stuck
    | _ => .stuck
  | .iff c a b, s => (evE G C c s).tst.fl fun k s1 => if k then evSs a s1 else evSs b s1
  | .forr tg it b, s => (evI G C it s).fl fun xs s1 => forL (bindT tg) (evSs b) xs s1
  | .whl c b, s => whlN (fun s => (evE G C c s).tst) (evSs b) 1000000 s
  | .ret e, s => (evE G C e s).fl fun w s1 => match w with
    | .d x => .rt (.d x) s1
    | .nw xs => .rt (.nw xs) s1
    | _ => .stuck
  | .retn, s => .rt (.d .none) s
  | .ex e, s => (evE G C e s).fl fun _ s1 => .nx s1
  | .pass, s => .nx s
  | .cont, s => .ct s
  | .raise c, s => .exc c s
  | .nev, _ => .stuck
def evSs : Sms → Sl → Fl
  | .nil, s => .nx s
  | .cons a as, s => match evS a s with
    | .nx s1 => evSs as s1
    | r => r
end
end
/-! ### functions -/
structure Fn where
  np : Nat
  ns : Nat
  io : List Nat
  body : Sms
/-- lists are handed on to the places io alone -/
def ioOk (io : List Nat) : Nat → List SV → Bool
  | _, [] => true
  | i, .own _ :: r => io.contains i && ioOk io (i + 1) r
  | i, .d _ :: r => ioOk io (i + 1) r
def endCR (ws : List SV) : Fl → CR
  | .nx s => .ok (.d .none) (outsOf ws s)
  | .rt w s => if retOk w then .ok w (outsOf ws s) else .stuck
  | .exc c s => .exc c (outsOf ws s)
  | _ => .stuck
def callF (G : List D) (F : List Fn) : Nat → Nat → List SV → CR
  | 0, _, _ => .stuck
  | n + 1, f, ws => match F[f]? with
    | none => .stuck
    | some fn => if ws.length = fn.np ∧ ioOk fn.io 0 ws = true then endCR ws (evSs G (callF G F n) fn.body (ws.map some ++ List.replicate (fn.ns - fn.np) none)) else .stuck
end EV

namespace EV
open PySem PySem.Spec PyProof.Rows L2
abbrev AS := Addr → Prop
abbrev VS := L2.St
/-- a tuple of the module's own -/
def KT (K : PySem.W.Frag) (a : Addr) (xs : List V) : Prop :=
  ∃ (o : Obj) (its : Array Value) (n : Nat), K.lookup a = some o ∧ o.cls = .type "tuple" ∧ o.data = .seq its n ∧ its.size ≤ sizeLine ∧ Vals xs its.toList
/-- a list of the module's own -/
def KL (K : PySem.W.Frag) (a : Addr) (xs : List V) : Prop :=
  ∃ (o : Obj) (its : Array Value) (n : Nat), K.lookup a = some o ∧ o.cls = .type "list" ∧ o.dict = none ∧ o.data = .seq its n ∧ its.size ≤ sizeLine ∧ Vals xs its.toList
/-- a flat dict's pairs -/
def kvD : List (D × D) → Option (List (Key × V))
  | [] => some []
  | (.int i, .int j) :: r => (kvD r).map ((.inl i, .int j) :: ·)
  | _ => none
mutual
/-- a value is data, and none of its lists stands in A -/
inductive RD (K : PySem.W.Frag) (H : Hp) (A : AS) : D → V → Prop
  | non : RD K H A .none .non
  | bl (b : Bool) : RD K H A (.bool b) (.bl b)
  | int (i : Int) : RD K H A (.int i) (.int i)
  | str (x : Str) : RD K H A (.str x) (.str x)
  | tup {a : Addr} {vs : List V} {xs : List D} : (Rd H a (.tup vs) ∧ ¬ A a) ∨ KT K a vs → RDs K H A xs vs → RD K H A (.tuple xs) (.ref a)
  | lst {a : Addr} {vs : List V} {xs : List D} : (Rd H a (.lst vs) ∧ ¬ A a) ∨ KL K a vs → RDs K H A xs vs → RD K H A (.list xs) (.ref a)
  | dct {a : Addr} {kvs : List (Key × V)} {ds : List (D × D)} : (Rd H a (.dK kvs) ∧ ¬ A a) → kvD ds = some kvs → RD K H A (.dict ds) (.ref a)
inductive RDs (K : PySem.W.Frag) (H : Hp) (A : AS) : List D → List V → Prop
  | nil : RDs K H A [] []
  | cons {x : D} {v : V} {xs : List D} {vs : List V} : RD K H A x v → RDs K H A xs vs → RDs K H A (x :: xs) (v :: vs)
end
section
variable {K : PySem.W.Frag} {H H' : Hp} {A A' : AS}
theorem rd_keep {a : Addr} {u : HO} (h : Rd H a u) (nA : ¬ A a) (k : ∀ a o, ¬ A a → H a = some o → H' a = some o) : Rd H' a u := by
  rcases h with h | ⟨o, h⟩
  · exact .inl (k _ _ nA h)
  · exact .inr ⟨o, k _ _ nA h⟩
theorem rd_there {a : Addr} {u : HO} (h : Rd H a u) : H a ≠ none := by
  rcases h with h | ⟨o, h⟩ <;> (rw [h]; intro z; cases z)
mutual
theorem RD.mono (k : ∀ a o, ¬ A a → H a = some o → H' a = some o) (hA : ∀ a, A' a → A a ∨ H a = none) : ∀ (x : D) (v : V), RD K H A x v → RD K H' A' x v
  | .none, v, h => by cases h; exact .non
  | .bool b, v, h => by cases h; exact .bl b
  | .int i, v, h => by cases h; exact .int i
  | .str s, v, h => by cases h; exact .str s
  | .tuple xs, v, h => by
    cases h with
    | tup h1 h2 =>
      refine .tup ?_ (RDs.mono k hA xs _ h2)
      rcases h1 with ⟨h1, h3⟩ | h1
      · exact .inl ⟨rd_keep h1 h3 k, fun z => (hA _ z).elim h3 fun e => rd_there h1 e⟩
      · exact .inr h1
  | .list xs, v, h => by
    cases h with
    | lst h1 h2 =>
      refine .lst ?_ (RDs.mono k hA xs _ h2)
      rcases h1 with ⟨h1, h3⟩ | h1
      · exact .inl ⟨rd_keep h1 h3 k, fun z => (hA _ z).elim h3 fun e => rd_there h1 e⟩
      · exact .inr h1
  | .dict kvs, v, h => by
    cases h with
    | dct h1 h2 => exact .dct ⟨rd_keep h1.1 h1.2 k, fun z => (hA _ z).elim h1.2 fun e => rd_there h1.1 e⟩ h2
theorem RDs.mono (k : ∀ a o, ¬ A a → H a = some o → H' a = some o) (hA : ∀ a, A' a → A a ∨ H a = none) : ∀ (xs : List D) (vs : List V), RDs K H A xs vs → RDs K H' A' xs vs
  | [], vs, h => by cases h; exact .nil
  | x :: xs, vs, h => by
    cases h with
    | cons h1 h2 => exact .cons (RD.mono k hA x _ h1) (RDs.mono k hA xs _ h2)
end
theorem RD.less (h : ∀ a, A' a → A a) {x : D} {v : V} (r : RD K H A x v) : RD K H A' x v := RD.mono (fun _ _ _ e => e) (fun a z => .inl (h a z)) x v r
theorem RDs.less (h : ∀ a, A' a → A a) {x : List D} {v : List V} (r : RDs K H A x v) : RDs K H A' x v := RDs.mono (fun _ _ _ e => e) (fun a z => .inl (h a z)) x v r
theorem RDs.len : ∀ {xs : List D} {vs : List V}, RDs K H A xs vs → xs.length = vs.length
  | [], _, .nil => rfl
  | _ :: xs, _, .cons _ t => by rw [List.length_cons, List.length_cons, RDs.len t]
theorem RDs.app : ∀ {xs ys : List D} {vs ws : List V}, RDs K H A xs vs → RDs K H A ys ws → RDs K H A (xs ++ ys) (vs ++ ws)
  | [], _, _, _, .nil, t => t
  | _ :: _, _, _, _, .cons r s, t => .cons r (RDs.app s t)
theorem RDs.take : ∀ {xs : List D} {vs : List V} (n : Nat), RDs K H A xs vs → RDs K H A (xs.take n) (vs.take n)
  | [], _, n, .nil => by rw [List.take_nil, List.take_nil]; exact .nil
  | _ :: _, _, 0, .cons _ _ => .nil
  | _ :: _, _, n + 1, .cons r s => .cons r (RDs.take n s)
theorem RDs.drop : ∀ {xs : List D} {vs : List V} (n : Nat), RDs K H A xs vs → RDs K H A (xs.drop n) (vs.drop n)
  | [], _, n, .nil => by rw [List.drop_nil, List.drop_nil]; exact .nil
  | _ :: _, _, 0, .cons r s => .cons r s
  | _ :: _, _, n + 1, .cons r s => RDs.drop n s
theorem RDs.rev {xs : List D} : ∀ {vs : List V}, RDs K H A xs vs → RDs K H A xs.reverse vs.reverse := by
  induction xs with
  | nil => intro vs h; cases h; exact .nil
  | cons x xs ih =>
    intro vs h
    cases h with
    | cons r s => rw [List.reverse_cons, List.reverse_cons]; exact (ih s).app (.cons r .nil)
theorem RDs.get : ∀ {xs : List D} {vs : List V} {i : Nat} {x : D}, RDs K H A xs vs → xs[i]? = some x → ∃ v, vs[i]? = some v ∧ RD K H A x v
  | [], _, _, _, .nil, e => by simp at e
  | _ :: _, _, 0, _, .cons r _, e => by simp at e; subst e; exact ⟨_, rfl, r⟩
  | _ :: _, _, i + 1, x, .cons _ s, e => by
    obtain ⟨v, h1, h2⟩ := RDs.get (i := i) (x := x) s (by simpa using e)
    exact ⟨v, by simpa using h1, h2⟩
theorem RDs.getV : ∀ {xs : List D} {vs : List V} {i : Nat} {v : V}, RDs K H A xs vs → vs[i]? = some v → ∃ x, xs[i]? = some x ∧ RD K H A x v
  | [], _, _, _, .nil, e => by simp at e
  | _ :: _, _, 0, _, .cons r _, e => by simp at e; subst e; exact ⟨_, rfl, r⟩
  | _ :: _, _, i + 1, v, .cons _ s, e => by
    obtain ⟨x, h1, h2⟩ := RDs.getV (i := i) (v := v) s (by simpa using e)
    exact ⟨x, by simpa using h1, h2⟩
theorem RDs.set {x : D} {v : V} (r : RD K H A x v) : ∀ {xs : List D} {vs : List V} (i : Nat), RDs K H A xs vs → RDs K H A (xs.set i x) (vs.set i v)
  | [], _, _, .nil => .nil
  | _ :: _, _, 0, .cons _ s => .cons r s
  | _ :: _, _, i + 1, .cons q s => .cons q (RDs.set r i s)
theorem KT.sq {a : Addr} {vs : List V} (h : KT K a vs) : SqT K H a vs := .inr h
theorem RD.sqT {a : Addr} {vs : List V} (h : (Rd H a (.tup vs) ∧ ¬ A a) ∨ KT K a vs) : SqT K H a vs := by
  rcases h with ⟨h, _⟩ | h
  · exact .inl h
  · exact .inr h
theorem RD.sqL {a : Addr} {vs : List V} (h : (Rd H a (.lst vs) ∧ ¬ A a) ∨ KL K a vs) : SqL K H a vs := by
  rcases h with ⟨h, _⟩ | h
  · exact .inl h
  · exact .inr h
mutual
theorem RD.dp : ∀ (x : D) (v : V) (n : Nat), shp n x = true → RD K H A x v → Dp K H v x
  | .none, v, n, _, h => by cases h; exact .non
  | .bool b, v, n, _, h => by cases h; exact .bl b
  | .int i, v, n, _, h => by cases h; exact .int i
  | .str s, v, n, _, h => by cases h; exact .str s
  | .tuple xs, v, 0, z, h => by simp [shp] at z
  | .list xs, v, 0, z, h => by simp [shp] at z
  | .tuple xs, v, n + 1, z, h => by
    simp only [shp] at z
    cases h with
    | tup h1 h2 => exact .tup (RD.sqT h1) (RDs.dp xs _ n z h2)
  | .list xs, v, n + 1, z, h => by
    simp only [shp] at z
    cases h with
    | lst h1 h2 => exact .lst (RD.sqL h1) (RDs.dp xs _ n z h2)
  | .dict kvs, v, n, z, h => by cases n <;> simp [shp] at z
theorem RDs.dp : ∀ (xs : List D) (vs : List V) (n : Nat), xs.all (shp n) = true → RDs K H A xs vs → DpAll K H vs xs
  | [], vs, n, _, h => by cases h; exact .nil
  | x :: xs, vs, n, z, h => by
    simp only [List.all_cons, Bool.and_eq_true] at z
    cases h with
    | cons h1 h2 => exact .cons (RD.dp x _ n z.1 h1) (RDs.dp xs _ n z.2 h2)
end
/-- readable now; the list itself may be owned -/
def RW (K : PySem.W.Frag) (H : Hp) (A : AS) (x : D) (v : V) : Prop :=
  RD K H A x v ∨ ∃ (a : Addr) (vs : List V) (xs : List D), x = .list xs ∧ v = .ref a ∧ H a = some (.lst vs) ∧ RDs K H A xs vs
theorem RW.lst {xs : List D} {v : V} (h : RW K H A (.list xs) v) : ∃ (a : Addr) (vs : List V), v = .ref a ∧ SqL K H a vs ∧ RDs K H A xs vs := by
  rcases h with h | ⟨a, vs, ys, e, rfl, h1, h2⟩
  · cases h with
    | lst h1 h2 => exact ⟨_, _, rfl, RD.sqL h1, h2⟩
  · cases e; exact ⟨a, vs, rfl, .inl (.inl h1), h2⟩
theorem RW.tup {xs : List D} {v : V} (h : RW K H A (.tuple xs) v) : ∃ (a : Addr) (vs : List V), v = .ref a ∧ ((Rd H a (.tup vs) ∧ ¬ A a) ∨ KT K a vs) ∧ RDs K H A xs vs := by
  rcases h with h | ⟨a, vs, ys, e, _⟩
  · cases h with
    | tup h1 h2 => exact ⟨_, _, rfl, h1, h2⟩
  · cases e
theorem RW.int {i : Int} {v : V} (h : RW K H A (.int i) v) : v = .int i := by
  rcases h with h | ⟨a, vs, ys, e, _⟩
  · cases h; rfl
  · cases e
theorem RW.bl {i : Bool} {v : V} (h : RW K H A (.bool i) v) : v = .bl i := by
  rcases h with h | ⟨a, vs, ys, e, _⟩
  · cases h; rfl
  · cases e
theorem RW.str {i : Str} {v : V} (h : RW K H A (.str i) v) : v = .str i := by
  rcases h with h | ⟨a, vs, ys, e, _⟩
  · cases h; rfl
  · cases e
theorem RW.non {v : V} (h : RW K H A .none v) : v = .non := by
  rcases h with h | ⟨a, vs, ys, e, _⟩
  · cases h; rfl
  · cases e
theorem RW.dp {x : D} {v : V} {n : Nat} (z : shp n x = true) (h : RW K H A x v) : Dp K H v x := by
  rcases h with h | ⟨a, vs, xs, rfl, rfl, h1, h2⟩
  · exact h.dp _ _ n z
  · cases n with
    | zero => simp [shp] at z
    | succ n => exact .lst (.inl (.inl h1)) (h2.dp _ _ n (by simpa only [shp] using z))
theorem RW.dct {ds : List (D × D)} {v : V} (h : RW K H A (.dict ds) v) : ∃ (a : Addr) (kvs : List (Key × V)), v = .ref a ∧ Rd H a (.dK kvs) ∧ ¬ A a ∧ kvD ds = some kvs := by
  rcases h with h | ⟨a, vs, ys, e, _⟩
  · cases h with
    | dct h1 h2 => exact ⟨_, _, rfl, h1.1, h1.2, h2⟩
  · cases e
end
/-! ### steps of the heap -/
structure Stp (M : AS) (H : Hp) (M' : AS) (H' : Hp) : Prop where
  keep : ∀ a o, ¬ M a → H a = some o → H' a = some o
  live : ∀ a, H a ≠ none → H' a ≠ none
  new : ∀ a, M' a → M a ∨ H a = none
theorem Stp.refl (M : AS) (H : Hp) : Stp M H M H := ⟨fun _ _ _ e => e, fun _ e => e, fun _ e => .inl e⟩
theorem Stp.trans {M M1 M2 : AS} {H H1 H2 : Hp} (a : Stp M H M1 H1) (b : Stp M1 H1 M2 H2) : Stp M H M2 H2 where
  keep := fun x o n e => b.keep x o (fun z => (a.new x z).elim n fun q => by rw [e] at q; cases q) (a.keep x o n e)
  live := fun x e => b.live x (a.live x e)
  new := fun x z => (b.new x z).elim (a.new x) fun q => .inr (Classical.byContradiction fun e => a.live x e q)
/-- what is avoided -/
abbrev Av (M B : AS) : AS := fun a => M a ∨ B a
structure RF (K : PySem.W.Frag) (H : Hp) (M B : AS) (s : Sl) (σ : VS) : Prop where
  len : s.length = σ.length
  dat : ∀ (i : Nat) x, s[i]? = some (some (.d x)) → ∃ v, σ[i]? = some (some v) ∧ RD K H (Av M B) x v
  own : ∀ (i : Nat) xs, s[i]? = some (some (.own xs)) → ∃ a vs, σ[i]? = some (some (.ref a)) ∧ M a ∧ H a = some (.lst vs) ∧ RDs K H (Av M B) xs vs
  sep : ∀ (i j : Nat) a xs ys, i ≠ j → s[i]? = some (some (.own xs)) → s[j]? = some (some (.own ys)) → σ[i]? = some (some (.ref a)) → σ[j]? = some (some (.ref a)) → False
  liv : ∀ a, M a ∨ B a → H a ≠ none
  dis : ∀ a, M a → B a → False
section
variable {K : PySem.W.Frag} {H H' : Hp} {M M' B B' : AS} {s s' : Sl} {σ : VS}
theorem Stp.rd (t : Stp M H M' H') (lv : ∀ a, B a → H a ≠ none) {x : D} {v : V} (r : RD K H (Av M B) x v) : RD K H' (Av M' B) x v :=
  RD.mono (fun a o n e => t.keep a o (fun z => n (.inl z)) e) (fun a z => z.elim (fun z => (t.new a z).elim (fun q => .inl (.inl q)) .inr) fun z => .inl (.inr z)) x v r
theorem Stp.rds (t : Stp M H M' H') (lv : ∀ a, B a → H a ≠ none) {x : List D} {v : List V} (r : RDs K H (Av M B) x v) : RDs K H' (Av M' B) x v :=
  RDs.mono (fun a o n e => t.keep a o (fun z => n (.inl z)) e) (fun a z => z.elim (fun z => (t.new a z).elim (fun q => .inl (.inl q)) .inr) fun z => .inl (.inr z)) x v r
/-- a new object is laid, nothing else -/
theorem Stp.laid {p : Addr} {o : HO} (n : H p = none) : Stp M H M (upd H p o) where
  keep := fun a u _ e => by rw [upd_ne (ne_of_none e n)]; exact e
  live := fun a e => by
    by_cases h : a = p
    · rw [h, upd_same]; intro z; cases z
    · rw [upd_ne h]; exact e
  new := fun _ z => .inl z
/-- the slots stay related where the heap grows by a new object -/
theorem RF.laid {p : Addr} {o : HO} (f : RF K H M B s σ) (n : H p = none) : RF K (upd H p o) M B s σ where
  len := f.len
  dat := fun i x e => let ⟨v, h1, h2⟩ := f.dat i x e; ⟨v, h1, (Stp.laid n).rd (fun a z => f.liv a (.inr z)) h2⟩
  own := fun i xs e => let ⟨a, vs, h1, h2, h3, h4⟩ := f.own i xs e
    ⟨a, vs, h1, h2, by rw [upd_ne (ne_of_none h3 n)]; exact h3, (Stp.laid n).rds (fun a z => f.liv a (.inr z)) h4⟩
  sep := f.sep
  liv := fun a e => (Stp.laid (M := M) n).live a (f.liv a e)
  dis := f.dis
/-- .. and that is known as avoided -/
theorem RF.laidB {p : Addr} {o : HO} (f : RF K H M B s σ) (n : H p = none) : RF K (upd H p o) M (fun a => B a ∨ a = p) s σ where
  len := f.len
  dat := fun i x e => let ⟨v, h1, h2⟩ := f.dat i x e
    ⟨v, h1, RD.mono (fun a u _ e => by rw [upd_ne (ne_of_none e n)]; exact e) (fun a z => by rcases z with z | z | rfl; exact .inl (.inl z); exact .inl (.inr z); exact .inr n) _ _ h2⟩
  own := fun i xs e => let ⟨a, vs, h1, h2, h3, h4⟩ := f.own i xs e
    ⟨a, vs, h1, h2, by rw [upd_ne (ne_of_none h3 n)]; exact h3, RDs.mono (fun a u _ e => by rw [upd_ne (ne_of_none e n)]; exact e) (fun a z => by rcases z with z | z | rfl; exact .inl (.inl z); exact .inl (.inr z); exact .inr n) _ _ h4⟩
  sep := f.sep
  liv := fun a e => by
    by_cases h : a = p
    · rw [h, upd_same]; intro z; cases z
    · rw [upd_ne h]
      refine f.liv a ?_
      rcases e with e | e | e
      · exact .inl e
      · exact .inr e
      · exact absurd e h
  dis := fun a h1 h2 => by
    rcases h2 with h2 | rfl
    · exact f.dis a h1 h2
    · exact f.liv a (.inl h1) n
/-- what is avoided may be less -/
theorem RF.lessB (f : RF K H M B s σ) (h : ∀ a, B' a → B a) : RF K H M B' s σ where
  len := f.len
  dat := fun i x e => let ⟨v, h1, h2⟩ := f.dat i x e; ⟨v, h1, h2.less fun a z => z.imp id (h a)⟩
  own := fun i xs e => let ⟨a, vs, h1, h2, h3, h4⟩ := f.own i xs e; ⟨a, vs, h1, h2, h3, h4.less fun a z => z.imp id (h a)⟩
  sep := f.sep
  liv := fun a e => f.liv a (e.imp id (h a))
  dis := fun a h1 h2 => f.dis a h1 (h a h2)
/-- a value on the way stands for v -/
def RH (K : PySem.W.Frag) (H : Hp) (A : AS) (σ : VS) : W → V → Prop
  | .d x, v => RD K H A x v
  | .nw xs, v => RD K H A (.list xs) v
  | .al i, v => σ[i]? = some (some v)
  | .io i, v => σ[i]? = some (some v)
theorem RH.step (t : Stp M H M' H') (lv : ∀ a, B a → H a ≠ none) : ∀ {w : W} {v : V}, RH K H (Av M B) σ w v → RH K H' (Av M' B) σ w v
  | .d _, _, h => t.rd lv h
  | .nw _, _, h => t.rd lv h
  | .al _, _, h => h
  | .io _, _, h => h
theorem den_al {s : Sl} {i : Nat} {x : D} (e : EV.den s (.al i) = some x) : ∃ xs, s[i]? = some (some (.own xs)) ∧ x = .list xs := by
  simp only [EV.den] at e
  split at e
  · rename_i xs h
    exact ⟨xs, h, (Option.some.inj e).symm⟩
  · cases e
theorem RH.den (f : RF K H M B s σ) {w : W} {v : V} {x : D} (r : RH K H (Av M B) σ w v) (e : den s w = some x) : RW K H (Av M B) x v := by
  cases w with
  | d y => cases e; exact .inl r
  | nw xs => cases e; exact .inl r
  | al i =>
    obtain ⟨xs, h, rfl⟩ := den_al e
    obtain ⟨a, vs, h1, h2, h3, h4⟩ := f.own i xs h
    have r' : σ[i]? = some (some v) := r
    rw [h1] at r'
    cases r'
    exact .inr ⟨a, vs, xs, rfl, rfl, h3, h4⟩
  | io i => cases e
theorem RH.keep {w : W} {v : V} {x : D} (r : RH K H (Av M B) σ w v) (e : keep w = some x) : RD K H (Av M B) x v := by
  cases w with
  | d y => cases e; exact r
  | nw xs => cases e; exact r
  | al i => cases e
  | io i => cases e
/-- a list just made: nobody else knows it -/
structure NW (K : PySem.W.Frag) (H₀ H : Hp) (M B : AS) (s : Sl) (σ : VS) (xs : List D) (v : V) : Prop where
  ex : ∃ a vs, v = .ref a ∧ H₀ a = none ∧ ¬ M a ∧ ¬ B a ∧ H a = some (.lst vs) ∧ RF K H M (fun b => B b ∨ b = a) s σ ∧ RDs K H (Av M fun b => B b ∨ b = a) xs vs
theorem NW.rd {H₀ : Hp} {xs : List D} {v : V} (h : NW K H₀ H M B s σ xs v) : RD K H (Av M B) (.list xs) v := by
  obtain ⟨a, vs, rfl, _, h1, h2, h3, _, h4⟩ := h.ex
  exact .lst (.inl ⟨.inl h3, fun z => z.elim h1 h2⟩) (h4.less fun b z => z.imp id .inl)
/-- .. when it has just been made -/
def RT (K : PySem.W.Frag) (H₀ H : Hp) (M B : AS) (s : Sl) (σ : VS) : W → V → Prop
  | .nw xs, v => NW K H₀ H M B s σ xs v
  | .d x, v => RH K H (Av M B) σ (.d x) v
  | .al i, v => RH K H (Av M B) σ (.al i) v
  | .io i, v => RH K H (Av M B) σ (.io i) v
theorem RT.rh {H₀ : Hp} : ∀ {w : W} {v : V}, RT K H₀ H M B s σ w v → RH K H (Av M B) σ w v
  | .d _, _, h => h
  | .nw _, _, h => NW.rd h
  | .al _, _, h => h
  | .io _, _, h => h
theorem RT.back {H₀ H₁ : Hp} (l : ∀ a, H₀ a ≠ none → H₁ a ≠ none) : ∀ {w : W} {v : V}, RT K H₁ H M B s σ w v → RT K H₀ H M B s σ w v
  | .d _, _, h => h
  | .nw _, _, ⟨a, vs, h0, h1, h2⟩ => ⟨a, vs, h0, Classical.byContradiction fun e => l a e h1, h2⟩
  | .al _, _, h => h
  | .io _, _, h => h
end
/-- the end of an expression's evaluation is as wished -/
def OKE (K : PySem.W.Frag) (Cl : Nat → Value) (Wx : WX) (σ : VS) (H : Hp) (M B : AS) (r : R W) (Q : VK) : Prop := match r with
  | .ok w s' => ∀ v H' M', Stp M H M' H' → RF K H' M' B s' σ → RT K H H' M' B s' σ w v → Q v H'
  | .exc c s' => ∀ H' M', Stp M H M' H' → RF K H' M' B s' σ → Wx (Cl c) none σ H'
  | .stuck => False
/-- likewise where another thing is told -/
def OKX {α : Type} (T : Hp → AS → Sl → α → Prop) (K : PySem.W.Frag) (Cl : Nat → Value) (Wx : WX) (σ : VS) (H : Hp) (M B : AS) (r : R α) : Prop := match r with
  | .ok w s' => ∀ H' M', Stp M H M' H' → RF K H' M' B s' σ → T H' M' s' w
  | .exc c s' => ∀ H' M', Stp M H M' H' → RF K H' M' B s' σ → Wx (Cl c) none σ H'
  | .stuck => False
section
variable {K : PySem.W.Frag} {Cl : Nat → Value} {Wx : WX} {σ : VS} {H H' : Hp} {M M' B : AS} {s : Sl}
theorem OKE.later {r : R W} {Q : VK} (t : Stp M H M' H') (h : OKE K Cl Wx σ H M B r Q) : OKE K Cl Wx σ H' M' B r Q := by
  cases r with
  | ok w s' => exact fun v H2 M2 t2 f rt => h v H2 M2 (t.trans t2) f (rt.back t.live)
  | exc c s' => exact fun H2 M2 t2 f => h H2 M2 (t.trans t2) f
  | stuck => exact h
theorem OKX.later {α : Type} {T : Hp → AS → Sl → α → Prop} {r : R α} (t : Stp M H M' H') (h : OKX T K Cl Wx σ H M B r) : OKX T K Cl Wx σ H' M' B r := by
  cases r with
  | ok w s' => exact fun H2 M2 t2 f => h H2 M2 (t.trans t2) f
  | exc c s' => exact fun H2 M2 t2 f => h H2 M2 (t.trans t2) f
  | stuck => exact h
/-- one expression, then the rest -/
theorem OKE.bind {r : R W} {f : W → Sl → R W} {Q : VK} {P : VK} (h : OKE K Cl Wx σ H M B (r.bind f) Q)
    (hp : ∀ w s' v H' M', Stp M H M' H' → RF K H' M' B s' σ → RH K H' (Av M' B) σ w v → OKE K Cl Wx σ H' M' B (f w s') Q → P v H') : OKE K Cl Wx σ H M B r P := by
  cases r with
  | ok w s' => exact fun v H2 M2 t2 f rt => hp w s' v H2 M2 t2 f rt.rh (OKE.later t2 h)
  | exc c s' => exact h
  | stuck => exact h
theorem OKE.bindX {α : Type} {T : Hp → AS → Sl → α → Prop} {r : R W} {f : W → Sl → R α} {P : VK} (h : OKX T K Cl Wx σ H M B (r.bind f))
    (hp : ∀ w s' v H' M', Stp M H M' H' → RF K H' M' B s' σ → RH K H' (Av M' B) σ w v → OKX T K Cl Wx σ H' M' B (f w s') → P v H') : OKE K Cl Wx σ H M B r P := by
  cases r with
  | ok w s' => exact fun v H2 M2 t2 f rt => hp w s' v H2 M2 t2 f rt.rh (OKX.later t2 h)
  | exc c s' => exact h
  | stuck => exact h
theorem OKX.bind {α : Type} {r : R α} {f : α → Sl → R W} {Q : VK} {T : Hp → AS → Sl → α → Prop} (h : OKE K Cl Wx σ H M B (r.bind f) Q)
    (hp : ∀ w s' H' M', Stp M H M' H' → RF K H' M' B s' σ → OKE K Cl Wx σ H' M' B (f w s') Q → T H' M' s' w) : OKX T K Cl Wx σ H M B r := by
  cases r with
  | ok w s' => exact fun H2 M2 t2 f => hp w s' H2 M2 t2 f (OKE.later t2 h)
  | exc c s' => exact h
  | stuck => exact h
/-- the end is there -/
theorem OKE.now {w : W} {v : V} {Q : VK} (h : OKE K Cl Wx σ H M B (.ok w s) Q) (f : RF K H M B s σ) (t : RT K H H M B s σ w v) : Q v H := h v H M (Stp.refl _ _) f t
theorem OKE.of {o : Option W} {Q : VK} (h : OKE K Cl Wx σ H M B (R.of s o) Q) : ∃ w, o = some w ∧ OKE K Cl Wx σ H M B (.ok w s) Q := by
  cases o with
  | none => exact h.elim
  | some w => exact ⟨w, rfl, h⟩
/-- a new tuple, a new list -/
theorem OKE.tup {xs : List D} {vs : List V} {p : Addr} {Q : VK} (h : OKE K Cl Wx σ H M B (.ok (.d (.tuple xs)) s) Q) (f : RF K H M B s σ) (r : RDs K H (Av M B) xs vs) (n : H p = none) : Q (.ref p) (upd H p (.tup vs)) :=
  h _ _ M (Stp.laid n) (f.laid n) (show RD _ _ _ _ _ from .tup (.inl ⟨.inl upd_same, fun z => f.liv p z n⟩) ((Stp.laid n).rds (fun a z => f.liv a (.inr z)) r))
theorem OKE.lst {xs : List D} {vs : List V} {p : Addr} {Q : VK} (h : OKE K Cl Wx σ H M B (.ok (.nw xs) s) Q) (f : RF K H M B s σ) (r : RDs K H (Av M B) xs vs) (n : H p = none) : Q (.ref p) (upd H p (.lst vs)) :=
  h _ _ M (Stp.laid n) (f.laid n) ⟨p, vs, rfl, n, fun z => f.liv p (.inl z) n, fun z => f.liv p (.inr z) n, upd_same, f.laidB n,
    RDs.mono (fun a u _ e => by rw [upd_ne (ne_of_none e n)]; exact e) (fun a z => by rcases z with z | z | rfl; exact .inl (.inl z); exact .inl (.inr z); exact .inr n) _ _ r⟩
theorem OKE.flat {x : D} {v : V} {Q : VK} (h : OKE K Cl Wx σ H M B (.ok (.d x) s) Q) (f : RF K H M B s σ) (r : RD K H (Av M B) x v) : Q v H := h.now f r
end
end EV

namespace EV
open PySem PySem.Spec PyProof.Rows L2
/-! ### more operations -/
section
variable {X : Cx}
theorem tuple_mul1 (l : Addr) (items : Array Value) (n : Nat) (dd : Option Addr) (sl : Array (Option Value)) (u : Tok) :
    Meets (Builtin.«tuple.__mul__» ⟨[.ref l, .int 1 u], []⟩) (fun _ R s => s.heap.get? l = some { cls := .type "tuple", dict := dd, data := .seq items n, slots := sl } ∧ R (.ok (.ret (Value.ref l))) s) :=
  .of_wp fun prog w A R s h => by
    obtain ⟨hp, g, d, tk, os⟩ := s
    obtain ⟨hl, h⟩ := h
    have f1 := AutoSeq1.idx_int
    have c1 : (items.isEmpty || (1 : Int) == 1) = true := by simp
    wp_walk using wpAny_loadPart' hl
    repeat (first
      | (refine wpAny_ite_false (decide_eq_false (by decide)) ?_; wp_walk using wpAny_loadPart' hl)
      | (refine wpAny_ite_true (decide_eq_true c1) ?_; wp_walk using wpAny_loadPart' hl))
    exact ⟨_, rfl, h⟩
def rRepT1 (K : PySem.W.Frag) : R2 := fun x y H Q => ∃ l xs, x = .ref l ∧ y = .int 1 ∧ SqT K H l xs ∧ Q (.ref l) H
theorem op_repT1 : OpR X (binaryOp .Mult) (rRepT1 X.K) := by
  intro pins s σ H x y v u Q I rx ry h
  obtain ⟨l, xs, rfl, rfl, hT, q⟩ := h
  cases rx
  obtain ⟨t, rfl⟩ := ry
  obtain ⟨its, r, ⟨⟨cls, dd, data, sl⟩, ho, hc, n, hd⟩, hs⟩ := I.tuple hT
  simp only at hc hd
  subst hc hd
  refine wpAny_binaryOp_repeat_ref (T := "tuple") (U := "int") (by decide) ⟨_, ho, rfl⟩ (fun s' => typeIs_int s' 1 t) noFill_tuple_mul F.fills_int_mul F.slot_int_rmul repeat_tuple F.slot_int_index.lookup
    (call_meets F.slot_int_rmul (typeIs_int s 1 t) F.entry_int_rmul (F.args_int_rmul_2 _ _) (int_rmul_tuple 1 t l its.toArray n dd sl)
      ⟨ho, rfl, ⟨_, ho, rfl⟩, call_meets F.slot_tuple_mul ⟨_, ho, rfl⟩ F.entry_tuple_mul (F.args_tuple_mul_2 _ _) (tuple_mul1 l its.toArray n dd sl t) ⟨ho, ?_⟩⟩)
  exact ⟨.ref l, H, I.tok s.toks, rfl, q⟩
theorem list_mulW (l : Addr) (items : Array Value) (n : Nat) (dd : Option Addr) (sl : Array (Option Value)) (x : Int) (u : Tok) (hc0 : ¬(!Builtin.List.listFitsIndex x) = true) (hc1 : ¬items.size * x.toNat > (2 ^ 63 - 1) / 8) (hc2 : ¬Builtin.List.listTooLong (items.size * x.toNat) = true) :
    Meets (Builtin.«list.__mul__» ⟨[.ref l, .int x u], []⟩) (fun _ R s => s.heap.get? l = some { cls := .type "list", dict := dd, data := .seq items n, slots := sl } ∧ R (.ok (.ret (Value.ref s.heap.objs.size))) { s with heap := s.heap.push { cls := Value.type "list", data := Data.seq (List.foldl (fun x1 x2 => x1 ++ x2) #[] (List.replicate (if items.isEmpty = true then 0 else x.toNat) items)) }, toks := s.toks }) :=
  .of_wp fun prog w A R s h => by
    obtain ⟨hp, g, d, tk, os⟩ := s; obtain ⟨hl, h⟩ := h
    have hsz := AutoListH.joined_fits hc2
    wp_walk; refine wpAny_ite_false (decide_eq_false (Nat.not_lt.mpr hsz)) ?_; wp_walk; exact ⟨_, rfl, h⟩
theorem int_rmul_listW (a : Int) (t : Tok) (l : Addr) (items : Array Value) (n : Nat) (dd : Option Addr) (sl : Array (Option Value)) :
    Meets (Builtin.«int.__rmul__» ⟨[.int a t, .ref l], []⟩) (fun _ R s => s.heap.get? l = some { cls := .type "list", dict := dd, data := .seq items n, slots := sl } ∧ R (.ok (.ret Value.notImplemented)) s) :=
  .of_wp fun prog w A R s h => by obtain ⟨hp, g, d, tk, os⟩ := s; obtain ⟨hl, h⟩ := h; wp_walk using wpAny_loadPart' hl; exact ⟨_, rfl, h⟩
def rRepL (K : PySem.W.Frag) : R2 := fun x y H Q => ∃ l k xs, x = .ref l ∧ y = .int k ∧ SqL K H l xs ∧ 0 ≤ k ∧ k ≤ 1000 ∧ xs.length ≤ 1000 ∧ ∀ p, H p = none → Q (.ref p) (upd H p (.lst (List.replicate k.toNat xs).flatten))
theorem op_repL : OpR X (binaryOp .Mult) (rRepL X.K) := by
  intro pins s σ H x y v u Q I rx ry h
  obtain ⟨l, k, xs, rfl, rfl, hT, h1, h2, hz, q⟩ := h
  cases rx
  obtain ⟨t, rfl⟩ := ry
  obtain ⟨its, r, ⟨⟨cls, dd, data, sl⟩, n, ho, hc, hd, hw⟩, hs⟩ := I.list hT
  simp only at hc hd hw
  subst hc hd hw
  have hle : its.length = xs.length := r.length.symm
  have hmul : k.toNat * xs.length ≤ 1000 * 1000 := Nat.mul_le_mul (by omega) hz
  have hlen : its.toArray.size * k.toNat ≤ sizeLine := by
    rw [List.size_toArray, hle, sizeLine_eq, Nat.mul_comm]
    omega
  have hcap : ¬ its.toArray.size * k.toNat > (2 ^ 63 - 1) / 8 := by
    have : (sizeLine : Nat) ≤ (2 ^ 63 - 1) / 8 := by decide
    omega
  have hfit : ¬ (!Builtin.List.listFitsIndex k) = true := by
    rw [fitsIndex_both (by omega) (by omega)]
    exact Bool.false_ne_true
  have hlong : ¬ Builtin.List.listTooLong (its.toArray.size * k.toNat) = true := by
    rw [notLongL hlen]
    exact Bool.false_ne_true
  have hnew : List.foldl (fun x1 x2 => x1 ++ x2) #[] (List.replicate (if its.toArray.isEmpty = true then 0 else k.toNat) its.toArray) = (List.replicate k.toNat its).flatten.toArray := by
    have f0 : ∀ m : Nat, List.foldl (fun x1 x2 => x1 ++ x2) #[] (List.replicate m its.toArray) = (List.replicate m its).flatten.toArray := fun m => by
      have := foldl_rep its m []
      rw [List.nil_append] at this
      exact this
    rw [f0]
    cases its with
    | nil => simp
    | cons a r' => rw [if_neg (by simp)]
  refine wpAny_binaryOp_repeat_ref (T := "list") (U := "int") (by decide) ⟨_, ho, rfl⟩ (fun s' => typeIs_int s' k t) noFill_list_mul F.fills_int_mul F.slot_int_rmul repeat_list F.slot_int_index.lookup
    (call_meets F.slot_int_rmul (typeIs_int s k t) F.entry_int_rmul (F.args_int_rmul_2 _ _) (int_rmul_listW k t l its.toArray n none sl)
      ⟨ho, rfl, ⟨_, ho, rfl⟩, call_meets F.slot_list_mul ⟨_, ho, rfl⟩ F.entry_list_mul (F.args_list_mul_2 _ _) (list_mulW l its.toArray n none sl k t hfit hcap hlong) ⟨ho, ?_⟩⟩)
  rw [hnew]
  exact ⟨.ref _, _, I.lnew (t' := s.toks) (r.rep k.toNat) (by rw [PyProof.Rows.lm_len_rep_flat, sizeLine_eq]; omega), rfl, q _ I.fresh⟩
/-- the order of data -/
def rLtX (K : PySem.W.Frag) (f : D → D → Bool) : R2 := fun x y H Q => ∃ d e, Dp K H x d ∧ Dp K H y e ∧ PySem.W.alike d e = true ∧ d ≠ .none ∧ d.depth ≤ 60 ∧ Q (.bl (f d e)) H
theorem op_ltX (hu : X.A.units + 64 < cLine) : OpR X (compareOp .Lt) (rLtX X.K fun d e => PySem.W.dataLt d e) := by
  intro pins s σ H x y v u Q I rx ry h
  obtain ⟨d, e, hd, he, sd, nn, dp, q⟩ := h
  obtain ⟨as, r1⟩ := Dp.reads I d x v hd rx
  obtain ⟨bs, r2⟩ := Dp.reads I e y u he ry
  exact PySem.W.lt_data r1 r2 sd nn (by omega) ⟨.bl _, H, I, rfl, q⟩
theorem op_gtX (hu : X.A.units + 64 < cLine) : OpR X (compareOp .Gt) (rLtX X.K fun d e => PySem.W.dataLt e d) := by
  intro pins s σ H x y v u Q I rx ry h
  obtain ⟨d, e, hd, he, sd, nn, dp, q⟩ := h
  obtain ⟨as, r1⟩ := Dp.reads I d x v hd rx
  obtain ⟨bs, r2⟩ := Dp.reads I e y u he ry
  exact PySem.W.gt_data r1 r2 sd nn (by omega) ⟨.bl _, H, I, rfl, q⟩
theorem op_leX (hu : X.A.units + 64 < cLine) : OpR X (compareOp .LtE) (rLtX X.K fun d e => !PySem.W.dataLt e d) := by
  intro pins s σ H x y v u Q I rx ry h
  obtain ⟨d, e, hd, he, sd, nn, dp, q⟩ := h
  obtain ⟨as, r1⟩ := Dp.reads I d x v hd rx
  obtain ⟨bs, r2⟩ := Dp.reads I e y u he ry
  exact PySem.W.le_data r1 r2 sd nn (by omega) ⟨.bl _, H, I, rfl, q⟩
theorem op_geX (hu : X.A.units + 64 < cLine) : OpR X (compareOp .GtE) (rLtX X.K fun d e => !PySem.W.dataLt d e) := by
  intro pins s σ H x y v u Q I rx ry h
  obtain ⟨d, e, hd, he, sd, nn, dp, q⟩ := h
  obtain ⟨as, r1⟩ := Dp.reads I d x v hd rx
  obtain ⟨bs, r2⟩ := Dp.reads I e y u he ry
  exact PySem.W.ge_data r1 r2 sd nn (by omega) ⟨.bl _, H, I, rfl, q⟩
/-- in, not in -/
def rInX (K : PySem.W.Frag) (f : Bool → Bool) : R2 := fun x y H Q => ∃ d e xs, Dp K H x d ∧ Dp K H y e ∧ (e = .list xs ∨ e = .tuple xs) ∧ PyData.plainAll xs = true ∧ d.plain = true ∧ PyData.depthAll xs ≤ 60 ∧ Q (.bl (f (inD d xs))) H
theorem op_inX (hu : X.A.units + 64 < cLine) : OpR X (compareOp .In) (rInX X.K id) := by
  intro pins s σ H x y v u Q I rx ry h
  obtain ⟨d, e, xs, hd, he, hc, hp, hq, hz, q⟩ := h
  obtain ⟨as, r1⟩ := Dp.reads I d x v hd rx
  obtain ⟨bs, r2⟩ := Dp.reads I e y u he ry
  rcases hc with rfl | rfl
  · exact PySem.SeqAt.in_list_data r2 r1 hp hq (by omega) ⟨.bl _, H, I, rfl, q⟩
  · exact PySem.SeqAt.in_tuple_data r2 r1 hp hq (by omega) ⟨.bl _, H, I, rfl, q⟩
theorem op_notInX (hu : X.A.units + 64 < cLine) : OpR X (compareOp .NotIn) (rInX X.K fun b => !b) := by
  intro pins s σ H x y v u Q I rx ry h
  obtain ⟨d, e, xs, hd, he, hc, hp, hq, hz, q⟩ := h
  obtain ⟨as, r1⟩ := Dp.reads I d x v hd rx
  obtain ⟨bs, r2⟩ := Dp.reads I e y u he ry
  rcases hc with rfl | rfl
  · exact PySem.SeqAt.notIn_list_data r2 r1 hp hq (by omega) ⟨.bl _, H, I, rfl, q⟩
  · exact PySem.SeqAt.notIn_tuple_data r2 r1 hp hq (by omega) ⟨.bl _, H, I, rfl, q⟩
end
end EV

namespace EV
open PySem PySem.Spec PyProof.Rows L2
/-! ### operations: what the evaluator tells is what the model does -/
/-- the end (w, in these slots) is as wished -/
def Fin (K : PySem.W.Frag) (H : Hp) (A : AS) (w : W) (Q : VK) : Prop :=
  ∃ (M B : AS) (s : Sl) (σ : VS) (Cl : Nat → Value) (Wx : WX), A = Av M B ∧ RF K H M B s σ ∧ OKE K Cl Wx σ H M B (.ok w s) Q
section
variable {K : PySem.W.Frag} {H : Hp} {A : AS} {Q : VK}
theorem Fin.flat {x : D} {v : V} (h : Fin K H A (.d x) Q) (r : RD K H A x v) : Q v H := by
  obtain ⟨M, B, s, σ, Cl, Wx, rfl, f, h⟩ := h
  exact h.flat f r
theorem Fin.tup {xs : List D} {vs : List V} {p : Addr} (h : Fin K H A (.d (.tuple xs)) Q) (r : RDs K H A xs vs) (n : H p = none) : Q (.ref p) (upd H p (.tup vs)) := by
  obtain ⟨M, B, s, σ, Cl, Wx, rfl, f, h⟩ := h
  exact h.tup f r n
theorem Fin.lst {xs : List D} {vs : List V} {p : Addr} (h : Fin K H A (.nw xs) Q) (r : RDs K H A xs vs) (n : H p = none) : Q (.ref p) (upd H p (.lst vs)) := by
  obtain ⟨M, B, s, σ, Cl, Wx, rfl, f, h⟩ := h
  exact h.lst f r n
theorem Fin.int {i : Int} (h : Fin K H A (.d (.int i)) Q) : Q (.int i) H := h.flat (.int i)
theorem Fin.bl {i : Bool} (h : Fin K H A (.d (.bool i)) Q) : Q (.bl i) H := h.flat (.bl i)
theorem Fin.str {i : Str} (h : Fin K H A (.d (.str i)) Q) : Q (.str i) H := h.flat (.str i)
end
theorem lim_eq : lim = sizeLine := by rw [sizeLine_eq]; rfl
theorem CallR.imp {X : Cx} {f : Value} {r r' : List V → Hp → VK → Prop} (h : CallR X f r) (i : ∀ vs H Q, r' vs H Q → r vs H Q) : CallR X f r' :=
  fun pins s σ H xs us Q I rv q => h pins s σ H xs us Q I rv (i xs H Q q)
theorem OpR.imp {X : Cx} {f : Value → Value → Sem Value} {r r' : R2} (h : OpR X f r) (i : ∀ x y H Q, r' x y H Q → r x y H Q) : OpR X f r' :=
  fun pins s σ H x y v u Q I rx ry q => h pins s σ H x y v u Q I rx ry (i x y H Q q)
theorem IxR.imp {X : Cx} {r r' : R2} (h : IxR X r) (i : ∀ x y H Q, r' x y H Q → r x y H Q) : IxR X r' :=
  fun value slice pins s σ H x y v u Q I rx ry q => h value slice pins s σ H x y v u Q I rx ry (i x y H Q q)
/-- two data, an operation on them -/
def r2D (K : PySem.W.Frag) (F : D → D → Option W) : R2 := fun x y H Q => ∃ (A : AS) (p q : D) (w : W), RW K H A p x ∧ RW K H A q y ∧ F p q = some w ∧ Fin K H A w Q
section
variable {X : Cx}
/-- list + list, both to be read -/
def rCatR (K : PySem.W.Frag) : R2 := fun x y H Q => ∃ l b xs zs, x = .ref l ∧ y = .ref b ∧ SqL K H l xs ∧ SqL K H b zs ∧ xs.length + zs.length ≤ sizeLine ∧ ∀ p, H p = none → Q (.ref p) (upd H p (.lst (xs ++ zs)))
theorem op_catR : OpR X (binaryOp .Add) (rCatR X.K) := by
  intro pins s σ H x y v u Q I rx ry h
  obtain ⟨l, b, xs, zs, rfl, rfl, h1, h2, hz, q⟩ := h
  cases rx
  cases ry
  obtain ⟨i1, r1, ⟨⟨c1, d1, g1, sl1⟩, n1, e1, f1, t1, w1⟩, _⟩ := I.list h1
  obtain ⟨i2, r2, ⟨⟨c2, d2, g2, sl2⟩, n2, e2, f2, t2, w2⟩, _⟩ := I.list h2
  simp only at f1 t1 w1 f2 t2 w2
  subst f1 t1 w1 f2 t2 w2
  refine concat_meets ⟨_, e1, rfl⟩ ⟨_, e2, rfl⟩ noFill_list_add seq_list_add F.slot_list_add F.entry_list_add (F.args_list_add_2 _ _) (list_addW l b i1.toArray i2.toArray n1 n2 none none sl1 sl2 (by rw [List.size_toArray, List.size_toArray, ← r1.length, ← r2.length]; exact hz)) ⟨e1, e2, ?_⟩
  rw [show i1.toArray ++ i2.toArray = (i1 ++ i2).toArray by simp]
  exact ⟨.ref _, _, I.lnew (t' := s.toks) (r1.append r2) (by rw [List.length_append]; exact hz), rfl, q _ I.fresh⟩
theorem lstW_some {xs : List D} {w : W} (h : lstW xs = some w) : w = .nw xs ∧ xs.length ≤ sizeLine := by
  unfold lstW at h
  split at h
  · cases h; exact ⟨rfl, by rw [← lim_eq]; assumption⟩
  · cases h
theorem tupW_some {xs : List D} {w : W} (h : tupW xs = some w) : w = .d (.tuple xs) ∧ xs.length ≤ sizeLine := by
  unfold tupW at h
  split at h
  · cases h; exact ⟨rfl, by rw [← lim_eq]; assumption⟩
  · cases h
theorem len_app {α : Type} {xs ys : List α} {n : Nat} (h : (xs ++ ys).length ≤ n) : xs.length + ys.length ≤ n := by rw [List.length_append] at h; exact h
theorem nil_iff {K : PySem.W.Frag} {H : Hp} {A : AS} {xs : List D} {vs : List V} (r : RDs K H A xs vs) : vs = [] ↔ xs = [] := by
  cases r with
  | nil => simp
  | cons _ _ => simp
theorem str_len (x y : Str) : (x ++ y).length = x.length + y.length := by
  show (x.cps ++ y.cps).size = x.cps.size + y.cps.size
  exact Array.size_append
theorem ok_add : OpR X (binaryOp .Add) (r2D X.K (binD .add)) := by
  refine OpR.imp (OpR.or (op_add (X := X)) (OpR.or (OpR.or op_add_str op_catA) op_catR)) fun x y H Q h => ?_
  obtain ⟨A, p, q, w, rp, rq, e, f⟩ := h
  cases p <;> cases q <;> first
    | (cases e; done)
    | skip
  · cases e
    exact .inl ⟨_, _, rp.int, rq.int, f.int⟩
  · simp only [binD] at e
    split at e
    · rename_i hz
      cases e
      exact .inr (.inl (.inl ⟨_, _, rp.str, rq.str, by rw [← lim_eq]; exact hz, f.str⟩))
    · cases e
  · obtain ⟨rfl, hz⟩ := lstW_some e
    obtain ⟨a, vs, rfl, h1, h2⟩ := rp.lst
    obtain ⟨b, ws, rfl, h3, h4⟩ := rq.lst
    have hz := len_app hz
    rw [h2.len, h4.len] at hz
    exact .inr (.inr ⟨a, b, vs, ws, rfl, rfl, h1, h3, hz, fun p n => f.lst (h2.app h4) n⟩)
  · obtain ⟨rfl, hz⟩ := tupW_some e
    obtain ⟨a, vs, rfl, h1, h2⟩ := rp.tup
    obtain ⟨b, ws, rfl, h3, h4⟩ := rq.tup
    have hz := len_app hz
    rw [h2.len, h4.len] at hz
    refine .inr (.inl (.inr ⟨a, b, vs, ws, rfl, rfl, RD.sqT h1, RD.sqT h3, hz, fun e => ?_, fun _ e => ?_, fun _ _ p n => f.tup (h2.app h4) n⟩))
    · have e' := (nil_iff h2).mp e
      subst e'
      exact f.flat (.tup h3 h4)
    · have e' := (nil_iff h4).mp e
      subst e'
      rw [List.append_nil] at f
      exact f.flat (.tup h1 h2)
theorem ok_sub : OpR X (binaryOp .Sub) (r2D X.K (binD .sub)) := by
  refine OpR.imp (op_sub (X := X)) fun x y H Q h => ?_
  obtain ⟨A, p, q, w, rp, rq, e, f⟩ := h
  cases p <;> cases q <;> first
    | (cases e; done)
    | skip
  cases e
  exact ⟨_, _, rp.int, rq.int, f.int⟩
theorem RDs.rep {K : PySem.W.Frag} {H : Hp} {A : AS} {xs : List D} {vs : List V} (r : RDs K H A xs vs) : ∀ k : Nat, RDs K H A (repL xs k) (List.replicate k vs).flatten
  | 0 => .nil
  | k + 1 => by
    unfold repL
    rw [List.replicate_succ, List.replicate_succ, List.flatten_cons, List.flatten_cons]
    exact r.app (RDs.rep r k)
theorem ok_mul : OpR X (binaryOp .Mult) (r2D X.K (binD .mul)) := by
  refine OpR.imp (OpR.or (OpR.or (op_mul (X := X)) (op_repL (X := X))) (OpR.or (op_repT (X := X)) (op_repT1 (X := X)))) fun x y H Q h => ?_
  obtain ⟨A, p, q, w, rp, rq, e, f⟩ := h
  cases p <;> cases q <;> first
    | (cases e; done)
    | skip
  · simp only [binD] at e
    split at e
    · rename_i hz
      cases e
      refine .inl (.inl ⟨_, _, rp.int, rq.int, ?_, f.int⟩)
      simp only [Bool.or_eq_true, small64, decide_eq_true_eq] at hz
      exact hz
    · cases e
  · simp only [binD, decide_eq_true_eq] at e
    split at e
    · rename_i hz
      cases e
      obtain ⟨a, vs, rfl, h1, h2⟩ := rp.lst
      exact .inl (.inr ⟨a, _, vs, rfl, rq.int, h1, hz.1, hz.2.1, by rw [← h2.len]; exact hz.2.2, fun p n => f.lst (h2.rep _) n⟩)
    · cases e
  · simp only [binD, Bool.and_eq_true, decide_eq_true_eq, Bool.not_eq_true', List.isEmpty_eq_false_iff] at e
    split at e
    · rename_i hz
      cases e
      obtain ⟨a, vs, rfl, h1, h2⟩ := rp.tup
      obtain ⟨hne, h3, h4, h5⟩ := hz
      have hne' : vs ≠ [] := fun z => hne ((nil_iff h2).mp z)
      rename_i xs k
      by_cases hk : k = 1
      · subst hk
        refine .inr (.inr ⟨a, vs, rfl, rq.int, RD.sqT h1, ?_⟩)
        have e1 : repL xs (1 : Int).toNat = xs := by simp [repL]
        rw [e1] at f
        exact f.flat (.tup h1 h2)
      · exact .inr (.inl ⟨a, k, vs, rfl, rq.int, RD.sqT h1, hne', by omega, h4, by rw [← h2.len]; exact h5, fun p n => f.tup (h2.rep _) n⟩)
    · cases e
theorem ok_mod : OpR X (binaryOp .Mod) (r2D X.K (binD .mod)) := by
  refine OpR.imp (op_mod (X := X)) fun x y H Q h => ?_
  obtain ⟨A, p, q, w, rp, rq, e, f⟩ := h
  cases p <;> cases q <;> first
    | (cases e; done)
    | skip
  simp only [binD] at e
  split at e
  · rename_i hz
    cases e
    exact ⟨_, _, rp.int, rq.int, hz, f.int⟩
  · cases e
theorem ok_fdiv : OpR X (binaryOp .FloorDiv) (r2D X.K (binD .fdiv)) := by
  refine OpR.imp (op_fdiv (X := X)) fun x y H Q h => ?_
  obtain ⟨A, p, q, w, rp, rq, e, f⟩ := h
  cases p <;> cases q <;> first
    | (cases e; done)
    | skip
  simp only [binD] at e
  split at e
  · rename_i hz
    cases e
    exact ⟨_, _, rp.int, rq.int, hz, f.int⟩
  · cases e
theorem ok_pow : OpR X (binaryOp .Pow) (r2D X.K (binD .pow)) := by
  refine OpR.imp (op_pow (X := X)) fun x y H Q h => ?_
  obtain ⟨A, p, q, w, rp, rq, e, f⟩ := h
  cases p <;> cases q <;> first
    | (cases e; done)
    | skip
  simp only [binD] at e
  split at e
  · rename_i hz
    cases e
    exact ⟨_, _, rp.int, rq.int, hz, f.int⟩
  · cases e
def pyBop : Bop → Operator
  | .add => .Add | .sub => .Sub | .mul => .Mult | .mod => .Mod | .fdiv => .FloorDiv | .pow => .Pow
theorem ok_bin : ∀ op : Bop, OpR X (binaryOp (pyBop op)) (r2D X.K (binD op))
  | .add => ok_add | .sub => ok_sub | .mul => ok_mul | .mod => ok_mod | .fdiv => ok_fdiv | .pow => ok_pow
/-! comparisons -/
mutual
theorem shp_ok : ∀ (n : Nat) (d : D), shp n d = true → d.canLay0 = true ∧ d.depth ≤ n
  | n, .none, _ => ⟨by simp only [PyData.canLay0], by simp only [PyData.depth]; exact Nat.zero_le n⟩
  | n, .bool _, _ => ⟨by simp only [PyData.canLay0], by simp only [PyData.depth]; exact Nat.zero_le n⟩
  | n, .int _, _ => ⟨by simp only [PyData.canLay0], by simp only [PyData.depth]; exact Nat.zero_le n⟩
  | n, .str s, h => ⟨by simp only [PyData.canLay0, PyData.strOk]; cases n <;> exact h, by simp only [PyData.depth]; exact Nat.zero_le n⟩
  | n + 1, .list xs, h => by
    simp only [shp] at h
    have := shps_ok n xs h
    simp only [PyData.depth, PyData.canLay0]
    exact ⟨this.1, by omega⟩
  | n + 1, .tuple xs, h => by
    simp only [shp] at h
    have := shps_ok n xs h
    simp only [PyData.depth, PyData.canLay0]
    exact ⟨this.1, by omega⟩
  | 0, .list xs, h => by simp [shp] at h
  | 0, .tuple xs, h => by simp [shp] at h
  | 0, .dict xs, h => by simp [shp] at h
  | n + 1, .dict xs, h => by simp [shp] at h
theorem shps_ok : ∀ (n : Nat) (ds : List D), ds.all (shp n) = true → PyData.canLayAll0 ds = true ∧ PyData.depthAll ds ≤ n
  | n, [], _ => ⟨by simp only [PyData.canLayAll0], by simp only [PyData.depthAll]; exact Nat.zero_le n⟩
  | n, x :: xs, h => by
    simp only [List.all_cons, Bool.and_eq_true] at h
    have h3 := shp_ok n x h.1
    have h4 := shps_ok n xs h.2
    simp only [PyData.canLayAll0, PyData.depthAll, Bool.and_eq_true]
    exact ⟨⟨h3.1, h4.1⟩, by omega⟩
end
theorem shp_shaped {d : D} (h : shp 60 d = true) : SeqAt.shaped d = true := by
  have q := shp_ok 60 d h
  unfold SeqAt.shaped
  rw [q.1, Bool.true_and]
  exact decide_eq_true (by omega)
theorem RW.isNon {K : PySem.W.Frag} {H : Hp} {A : AS} {p : D} {v : V} (r : RW K H A p v) : (v = .non ↔ p = .none) := by
  rcases r with r | ⟨a, vs, xs, rfl, rfl, _⟩
  · cases r <;> simp
  · simp
theorem ok_eq (hu : X.A.units + 64 < cLine) : OpR X (compareOp .Eq) (r2D X.K fun p q => (cmpD .eq p q).map fun r => .d (.bool r)) := by
  refine OpR.imp (OpR.or (op_eqD (X := X) hu) (op_eq (X := X))) fun x y H Q h => ?_
  obtain ⟨A, p, q, w, rp, rq, e, f⟩ := h
  obtain ⟨k, e', rfl⟩ := Option.map_eq_some_iff.mp e
  clear e
  rename cmpD _ p q = some k => e
  by_cases hs : ∃ s t, p = .str s ∧ q = .str t
  · obtain ⟨s, t, rfl, rfl⟩ := hs
    cases e
    have h1 := rp.str
    have h2 := rq.str
    subst h1 h2
    refine .inr ⟨rfl, ?_⟩
    rw [dec_str]
    exact f.bl
  · have e2 : (if (shp 60 p && shp 60 q) = true then some (PyData.eqv p q) else none) = some k := by
      rw [← e]
      cases p <;> cases q <;> first
        | rfl
        | exact absurd ⟨_, _, rfl, rfl⟩ hs
    split at e2
    · rename_i hz
      rw [Bool.and_eq_true] at hz
      cases e2
      exact .inl ⟨p, q, rp.dp hz.1, rq.dp hz.2, shp_shaped hz.1, shp_shaped hz.2, f.bl⟩
    · cases e2
theorem ok_ne (hu : X.A.units + 64 < cLine) : OpR X (compareOp .NotEq) (r2D X.K fun p q => (cmpD .ne p q).map fun r => .d (.bool r)) := by
  refine OpR.imp (OpR.or (op_neD (X := X) hu) (op_ne (X := X))) fun x y H Q h => ?_
  obtain ⟨A, p, q, w, rp, rq, e, f⟩ := h
  obtain ⟨k, e', rfl⟩ := Option.map_eq_some_iff.mp e
  clear e
  rename cmpD _ p q = some k => e
  by_cases hs : ∃ s t, p = .str s ∧ q = .str t
  · obtain ⟨s, t, rfl, rfl⟩ := hs
    cases e
    have h1 := rp.str
    have h2 := rq.str
    subst h1 h2
    refine .inr ⟨rfl, ?_⟩
    rw [dec_str]
    exact f.bl
  · have e2 : (if (shp 60 p && shp 60 q) = true then some (!PyData.eqv p q) else none) = some k := by
      rw [← e]
      cases p <;> cases q <;> first
        | rfl
        | exact absurd ⟨_, _, rfl, rfl⟩ hs
    split at e2
    · rename_i hz
      rw [Bool.and_eq_true] at hz
      cases e2
      exact .inl ⟨p, q, rp.dp hz.1, rq.dp hz.2, shp_shaped hz.1, shp_shaped hz.2, f.bl⟩
    · cases e2
theorem ok_lt (hu : X.A.units + 64 < cLine) : OpR X (compareOp .Lt) (r2D X.K fun p q => (cmpD .lt p q).map fun r => .d (.bool r)) := by
  refine OpR.imp (OpR.or (op_lt (X := X)) (op_ltX hu)) fun x y H Q h => ?_
  obtain ⟨A, p, q, w, rp, rq, e, f⟩ := h
  obtain ⟨k, e', rfl⟩ := Option.map_eq_some_iff.mp e
  clear e
  by_cases hi : ∃ i j, p = .int i ∧ q = .int j
  · obtain ⟨i, j, rfl, rfl⟩ := hi
    cases e'
    exact .inl ⟨_, _, rp.int, rq.int, f.bl⟩
  · have e2 : (if (PySem.W.alike p q && notNon p && shp 60 p && shp 60 q) = true then some (PySem.W.dataLt p q) else none) = some k := by
      rw [← e']
      cases p <;> cases q <;> first
        | rfl
        | exact absurd ⟨_, _, rfl, rfl⟩ hi
    split at e2
    · rename_i hz
      simp only [Bool.and_eq_true] at hz
      cases e2
      exact .inr ⟨p, q, rp.dp hz.1.2, rq.dp hz.2, hz.1.1.1, fun z => by rw [z] at hz; simp [notNon] at hz, (shp_ok 60 p hz.1.2).2, f.bl⟩
    · cases e2
theorem ok_le (hu : X.A.units + 64 < cLine) : OpR X (compareOp .LtE) (r2D X.K fun p q => (cmpD .le p q).map fun r => .d (.bool r)) := by
  refine OpR.imp (OpR.or (op_le (X := X)) (op_leX hu)) fun x y H Q h => ?_
  obtain ⟨A, p, q, w, rp, rq, e, f⟩ := h
  obtain ⟨k, e', rfl⟩ := Option.map_eq_some_iff.mp e
  clear e
  by_cases hi : ∃ i j, p = .int i ∧ q = .int j
  · obtain ⟨i, j, rfl, rfl⟩ := hi
    cases e'
    exact .inl ⟨_, _, rp.int, rq.int, f.bl⟩
  · have e2 : (if (PySem.W.alike p q && notNon p && shp 60 p && shp 60 q) = true then some (!PySem.W.dataLt q p) else none) = some k := by
      rw [← e']
      cases p <;> cases q <;> first
        | rfl
        | exact absurd ⟨_, _, rfl, rfl⟩ hi
    split at e2
    · rename_i hz
      simp only [Bool.and_eq_true] at hz
      cases e2
      exact .inr ⟨p, q, rp.dp hz.1.2, rq.dp hz.2, hz.1.1.1, fun z => by rw [z] at hz; simp [notNon] at hz, (shp_ok 60 p hz.1.2).2, f.bl⟩
    · cases e2
theorem ok_gt (hu : X.A.units + 64 < cLine) : OpR X (compareOp .Gt) (r2D X.K fun p q => (cmpD .gt p q).map fun r => .d (.bool r)) := by
  refine OpR.imp (OpR.or (op_gt (X := X)) (op_gtX hu)) fun x y H Q h => ?_
  obtain ⟨A, p, q, w, rp, rq, e, f⟩ := h
  obtain ⟨k, e', rfl⟩ := Option.map_eq_some_iff.mp e
  clear e
  by_cases hi : ∃ i j, p = .int i ∧ q = .int j
  · obtain ⟨i, j, rfl, rfl⟩ := hi
    cases e'
    exact .inl ⟨_, _, rp.int, rq.int, f.bl⟩
  · have e2 : (if (PySem.W.alike p q && notNon p && shp 60 p && shp 60 q) = true then some (PySem.W.dataLt q p) else none) = some k := by
      rw [← e']
      cases p <;> cases q <;> first
        | rfl
        | exact absurd ⟨_, _, rfl, rfl⟩ hi
    split at e2
    · rename_i hz
      simp only [Bool.and_eq_true] at hz
      cases e2
      exact .inr ⟨p, q, rp.dp hz.1.2, rq.dp hz.2, hz.1.1.1, fun z => by rw [z] at hz; simp [notNon] at hz, (shp_ok 60 p hz.1.2).2, f.bl⟩
    · cases e2
theorem ok_ge (hu : X.A.units + 64 < cLine) : OpR X (compareOp .GtE) (r2D X.K fun p q => (cmpD .ge p q).map fun r => .d (.bool r)) := by
  refine OpR.imp (OpR.or (op_ge (X := X)) (op_geX hu)) fun x y H Q h => ?_
  obtain ⟨A, p, q, w, rp, rq, e, f⟩ := h
  obtain ⟨k, e', rfl⟩ := Option.map_eq_some_iff.mp e
  clear e
  by_cases hi : ∃ i j, p = .int i ∧ q = .int j
  · obtain ⟨i, j, rfl, rfl⟩ := hi
    cases e'
    exact .inl ⟨_, _, rp.int, rq.int, f.bl⟩
  · have e2 : (if (PySem.W.alike p q && notNon p && shp 60 p && shp 60 q) = true then some (!PySem.W.dataLt p q) else none) = some k := by
      rw [← e']
      cases p <;> cases q <;> first
        | rfl
        | exact absurd ⟨_, _, rfl, rfl⟩ hi
    split at e2
    · rename_i hz
      simp only [Bool.and_eq_true] at hz
      cases e2
      exact .inr ⟨p, q, rp.dp hz.1.2, rq.dp hz.2, hz.1.1.1, fun z => by rw [z] at hz; simp [notNon] at hz, (shp_ok 60 p hz.1.2).2, f.bl⟩
    · cases e2
theorem lay_plain {d : D} (h : shp 60 d = true) : d.plain = true ∧ d.depth ≤ 60 := by
  have q := shp_ok 60 d h
  exact ⟨PyData.plain_of_canLay0 d q.1, q.2⟩
theorem lay_list {xs : List D} (h : shp 60 (.list xs) = true) : PyData.plainAll xs = true ∧ PyData.depthAll xs ≤ 60 := by
  have q := lay_plain h
  simp only [PyData.plain, PyData.depth] at q
  exact ⟨q.1, by omega⟩
theorem lay_tup {xs : List D} (h : shp 60 (.tuple xs) = true) : PyData.plainAll xs = true ∧ PyData.depthAll xs ≤ 60 := by
  have q := lay_plain h
  simp only [PyData.plain, PyData.depth] at q
  exact ⟨q.1, by omega⟩
theorem ok_inn (hu : X.A.units + 64 < cLine) : OpR X (compareOp .In) (r2D X.K fun p q => (cmpD .inn p q).map fun r => .d (.bool r)) := by
  refine OpR.imp (op_inX hu) fun x y H Q h => ?_
  obtain ⟨A, p, q, w, rp, rq, e, f⟩ := h
  obtain ⟨k, e', rfl⟩ := Option.map_eq_some_iff.mp e
  clear e
  cases q with
  | list ys =>
    simp only [cmpD] at e'
    split at e'
    · rename_i hz
      simp only [Bool.and_eq_true] at hz
      cases e'
      exact ⟨p, _, ys, rp.dp hz.1, rq.dp hz.2, .inl rfl, (lay_list hz.2).1, (lay_plain hz.1).1, (lay_list hz.2).2, f.bl⟩
    · cases e'
  | tuple ys =>
    simp only [cmpD] at e'
    split at e'
    · rename_i hz
      simp only [Bool.and_eq_true] at hz
      cases e'
      exact ⟨p, _, ys, rp.dp hz.1, rq.dp hz.2, .inr rfl, (lay_tup hz.2).1, (lay_plain hz.1).1, (lay_tup hz.2).2, f.bl⟩
    · cases e'
  | _ => cases p <;> cases e'
theorem ok_notIn (hu : X.A.units + 64 < cLine) : OpR X (compareOp .NotIn) (r2D X.K fun p q => (cmpD .notIn p q).map fun r => .d (.bool r)) := by
  refine OpR.imp (op_notInX hu) fun x y H Q h => ?_
  obtain ⟨A, p, q, w, rp, rq, e, f⟩ := h
  obtain ⟨k, e', rfl⟩ := Option.map_eq_some_iff.mp e
  clear e
  cases q with
  | list ys =>
    simp only [cmpD] at e'
    split at e'
    · rename_i hz
      simp only [Bool.and_eq_true] at hz
      cases e'
      exact ⟨p, _, ys, rp.dp hz.1, rq.dp hz.2, .inl rfl, (lay_list hz.2).1, (lay_plain hz.1).1, (lay_list hz.2).2, f.bl⟩
    · cases e'
  | tuple ys =>
    simp only [cmpD] at e'
    split at e'
    · rename_i hz
      simp only [Bool.and_eq_true] at hz
      cases e'
      exact ⟨p, _, ys, rp.dp hz.1, rq.dp hz.2, .inr rfl, (lay_tup hz.2).1, (lay_plain hz.1).1, (lay_tup hz.2).2, f.bl⟩
    · cases e'
  | _ => cases p <;> cases e'
theorem ok_is : OpR X (compareOp .Is) (r2D X.K fun p q => (cmpD .is p q).map fun r => .d (.bool r)) := by
  refine OpR.imp (OpR.or (op_isN (X := X)) op_isBl) fun x y H Q h => ?_
  obtain ⟨A, p, q, w, rp, rq, e, f⟩ := h
  obtain ⟨k, e', rfl⟩ := Option.map_eq_some_iff.mp e
  clear e
  rename cmpD _ p q = some k => e
  cases q <;> first
    | (cases p <;> cases e; done)
    | skip
  · refine .inl ⟨rq.non, ?_⟩
    have h1 := rp.isNon
    cases p <;> (cases e; first
      | (rw [decide_eq_true (h1.mpr rfl)]; exact f.bl)
      | (rw [decide_eq_false (fun z => by cases h1.mp z)]; exact f.bl))
  · cases p <;> first
      | (cases e; done)
      | skip
    cases e
    exact .inr ⟨_, _, rp.bl, rq.bl, by rw [← Bool.beq_eq_decide_eq]; exact f.bl⟩
theorem ok_isNot : OpR X (compareOp .IsNot) (r2D X.K fun p q => (cmpD .isNot p q).map fun r => .d (.bool r)) := by
  refine OpR.imp (OpR.or (op_notN (X := X)) op_notBl) fun x y H Q h => ?_
  obtain ⟨A, p, q, w, rp, rq, e, f⟩ := h
  obtain ⟨k, e', rfl⟩ := Option.map_eq_some_iff.mp e
  clear e
  rename cmpD _ p q = some k => e
  cases q <;> first
    | (cases p <;> cases e; done)
    | skip
  · refine .inl ⟨rq.non, ?_⟩
    have h1 := rp.isNon
    cases p <;> (cases e; first
      | (rw [decide_eq_true (h1.mpr rfl)]; exact f.bl)
      | (rw [decide_eq_false (fun z => by cases h1.mp z)]; exact f.bl))
  · cases p <;> first
      | (cases e; done)
      | skip
    cases e
    exact .inr ⟨_, _, rp.bl, rq.bl, by rw [← Bool.beq_eq_decide_eq]; exact f.bl⟩
def pyCop : Cop → CmpOp
  | .eq => .Eq | .ne => .NotEq | .lt => .Lt | .le => .LtE | .gt => .Gt | .ge => .GtE | .is => .Is | .isNot => .IsNot | .inn => .In | .notIn => .NotIn
theorem ok_cmp (hu : X.A.units + 64 < cLine) : ∀ op : Cop, OpR X (compareOp (pyCop op)) (r2D X.K fun p q => (cmpD op p q).map fun r => .d (.bool r))
  | .eq => ok_eq hu | .ne => ok_ne hu | .lt => ok_lt hu | .le => ok_le hu | .gt => ok_gt hu | .ge => ok_ge hu | .is => ok_is | .isNot => ok_isNot
  | .inn => ok_inn hu | .notIn => ok_notIn hu
/-! an item, a part -/
theorem ixD_eq (n : Nat) (i : Int) : ixD n i = ixN n i := rfl
theorem ok_idx : IxR X (r2D X.K fun p q => (idxD p q).map .d) := by
  refine IxR.imp (ix_seq (X := X)) fun x y H Q h => ?_
  obtain ⟨A, p, q, w, rp, rq, e, f⟩ := h
  obtain ⟨k, e', rfl⟩ := Option.map_eq_some_iff.mp e
  clear e
  rename idxD p q = some k => e
  have key : ∀ (xs : List D) (vs : List V) (i : Int), RDs X.K H A xs vs → atD xs i = some k → ∃ v, atI vs i = some v ∧ RD X.K H A k v := fun xs vs i r e => by
    unfold atD at e
    obtain ⟨j, h1, h2⟩ := Option.bind_eq_some_iff.mp e
    obtain ⟨v, h3, h4⟩ := r.get h2
    exact ⟨v, by unfold atI; rw [← r.len, ← ixD_eq, h1]; exact h3, h4⟩
  cases p <;> cases q <;> first
    | (cases e; done)
    | skip
  · obtain ⟨a, vs, rfl, h1, h2⟩ := rp.lst
    obtain ⟨v, h3, h4⟩ := key _ _ _ h2 e
    exact .inl ⟨a, vs, _, v, rfl, rq.int, h1, h3, f.flat h4⟩
  · obtain ⟨a, vs, rfl, h1, h2⟩ := rp.tup
    obtain ⟨v, h3, h4⟩ := key _ _ _ h2 e
    exact .inr (.inl ⟨a, vs, _, v, rfl, rq.int, RD.sqT h1, h3, f.flat h4⟩)
theorem bnd_eq (n d : Nat) : ∀ o : Option Int, bndD n d o = HT.sIx n d o
  | none => rfl
  | some v => by
    unfold bndD HT.sIx
    rfl
theorem cut_rel {K : PySem.W.Frag} {H : Hp} {A : AS} {xs : List D} {vs : List V} (r : RDs K H A xs vs) (lo hi : Option Int) : RDs K H A (cutL xs lo hi) (cutV vs lo hi) := by
  unfold cutL cutV
  rw [bnd_eq, bnd_eq, r.len]
  exact (r.drop _).take _
theorem SlR.imp {r r' : V → Option Int → Option Int → Hp → VK → Prop} (h : SlR X r) (i : ∀ x l u H Q, r' x l u H Q → r x l u H Q) : SlR X r' :=
  fun pins s σ H x v vl vu lo hi sl Q I rx hs pl pu q => h pins s σ H x v vl vu lo hi sl Q I rx hs pl pu (i x lo hi H Q q)
theorem ok_cut : SlR X (fun x lo hi H Q => ∃ (A : AS) (p : D) (w : W), RW X.K H A p x ∧ cutD p lo hi = some w ∧ Fin X.K H A w Q) := by
  refine SlR.imp (SlR.or (sl_list (X := X)) sl_tupA) fun x lo hi H Q h => ?_
  obtain ⟨A, p, w, rp, e, f⟩ := h
  cases p <;> first
    | (cases e; done)
    | skip
  · cases e
    obtain ⟨a, vs, rfl, h1, h2⟩ := rp.lst
    exact .inl ⟨a, vs, rfl, h1, fun p n => f.lst (cut_rel h2 lo hi) n⟩
  · cases e
    obtain ⟨a, vs, rfl, h1, h2⟩ := rp.tup
    refine .inr ⟨a, vs, rfl, RD.sqT h1, fun hw => ?_, fun _ p n => f.tup (cut_rel h2 lo hi) n⟩
    have r := cut_rel h2 lo hi
    have e : cutV vs lo hi = vs := by
      unfold cutV
      rw [hw.1, hw.2]
      simp
    rw [e] at r
    exact f.flat (.tup h1 r)
end
end EV

namespace EV
open PySem PySem.Spec PyProof.Rows L2
/-! ### sum, min, max, all, any of a tuple -/
section
variable {prog : Program} {w : World} {A : Around} {E : Value → Shared → Prop} {s : Shared} {l : Addr}
theorem iterT {its : Array Value} {Q : Value → Shared → Prop} (hl : s.heap.IsTuple l its)
    (h : ∀ s₂ : Shared, s₂ = { s with heap := s.heap.push { cls := .type "tuple_iterator", data := .fields #[.ref l, .int 0 0] } } → s₂.heap.IsTupleIter s.heap.objs.size l 0 → s₂.heap.IsTuple l its → (∀ b ∈ [s.heap.objs.size, l], b < s₂.heap.objs.size) → l ≠ s.heap.objs.size →
      Q (.ref s.heap.objs.size) s₂) : wpAny (model prog w) A (pyIter (.ref l)) Q E s := by
  have hlt : l < s.heap.objs.size := by obtain ⟨_, e, _⟩ := hl; exact Heap.lt_size e
  refine wpAny_pyIter_tuple hl (h _ rfl ⟨_, Heap.get?_push_size _ rfl, rfl, rfl⟩ (hl.at fun o e => Heap.get?_push_of_some _ e) (fun b hb => ?_) (Nat.ne_of_lt hlt))
  show b < (s.heap.push _).objs.size
  rw [Heap.size_push]
  simp only [List.mem_cons, List.not_mem_nil, or_false] at hb
  rcases hb with rfl | rfl
  · exact Nat.lt_succ_self _
  · exact Nat.lt_succ_of_lt hlt
theorem keptT {h' : Heap} (hk : ∀ b o, b ∉ [s.heap.objs.size] → (s.heap.push { cls := .type "tuple_iterator", data := .fields #[.ref l, .int 0 0] }).get? b = some o → h'.get? b = some o) : ∀ b o, s.heap.get? b = some o → h'.get? b = some o := by
  intro b o e
  refine hk b o (fun hm => ?_) (Heap.get?_push_of_some _ e)
  have : b = s.heap.objs.size := by simpa using hm
  exact absurd (this ▸ Heap.lt_size e) (Nat.lt_irrefl _)
theorem sumT {xs : Array (Int × Tok)} {Q : Value → Shared → Prop} (hh : A.handled = none) (hl : s.heap.IsTuple l (intItems xs)) (h : ∀ h' tk t', (∀ b o, s.heap.get? b = some o → h'.get? b = some o) → Q (.int (preSum (numAt xs) xs.size) t') { s with heap := h', toks := tk }) :
    wpAny (model prog w) A (call (.builtin "sum") [.ref l]) Q E s := by
  refine call_sum_walkG (iterT hl fun s₂ e st p hfp hlI => ?_)
  subst e
  refine ⟨_, _, _, _, _, _, numAt xs, rfl, Walks.tuple (A := A.in1) hh _ l hlI (intItems xs), ⟨st, p⟩, hfp, (fun _ _ => intItems_at), fun h' tk t' hk => ?_⟩
  have := h h' tk t' (keptT hk)
  simpa [intItems] using this
theorem maxT {xs : Array (Int × Tok)} {Q : Value → Shared → Prop} (hh : A.handled = none) (hl : s.heap.IsTuple l (intItems xs)) (hne : 0 < xs.size)
    (h : ∀ v h' tk, (intItems xs)[argBest (fun i j => decide (numAt xs i > numAt xs j)) (xs.size - 1)]? = some v → (∀ b o, s.heap.get? b = some o → h'.get? b = some o) → Q v { s with heap := h', toks := tk }) : wpAny (model prog w) A (call (.builtin "max") [.ref l]) Q E s := by
  refine call_max_walk (iterT hl fun s₂ e st p hfp hlI => ?_)
  subst e
  refine ⟨_, _, _, _, _, _, _, rfl, Walks.tuple (A := A.in1) hh _ l hlI (intItems xs), ⟨st, p⟩, hfp, by simpa [intItems] using hne, CmpOf.ints_gt (numAt xs) (fun _ _ => intItems_at), fun v h' tk hP hk => ?_⟩
  exact h v h' tk (by simpa [intItems] using hP) (keptT hk)
theorem minT {xs : Array (Int × Tok)} {Q : Value → Shared → Prop} (hh : A.handled = none) (hl : s.heap.IsTuple l (intItems xs)) (hne : 0 < xs.size)
    (h : ∀ v h' tk, (intItems xs)[argBest (fun i j => decide (numAt xs i < numAt xs j)) (xs.size - 1)]? = some v → (∀ b o, s.heap.get? b = some o → h'.get? b = some o) → Q v { s with heap := h', toks := tk }) : wpAny (model prog w) A (call (.builtin "min") [.ref l]) Q E s := by
  refine call_min_walk (iterT hl fun s₂ e st p hfp hlI => ?_)
  subst e
  refine ⟨_, _, _, _, _, _, _, rfl, Walks.tuple (A := A.in1) hh _ l hlI (intItems xs), ⟨st, p⟩, hfp, by simpa [intItems] using hne, CmpOf.ints_lt (numAt xs) (fun _ _ => intItems_at), fun v h' tk hP hk => ?_⟩
  exact h v h' tk (by simpa [intItems] using hP) (keptT hk)
end
section
variable {X : Cx}
theorem cr_sumT (hc : X.calm = true) : CallR X (.builtin "sum") (fun vs H Q => ∃ (a : Addr) (ns : List Int), vs = [V.ref a] ∧ SqT X.K H a (ns.map V.int) ∧ Q (.int ns.sum) H) := by
  intro pins s σ H vs us Q I r h
  obtain ⟨a, ns, rfl, hs, q⟩ := h
  obtain ⟨its, rv, hl, _⟩ := I.tuple hs
  rw [Vals.ref1 r]
  obtain ⟨xs, e⟩ := rv.ints.allInts.items
  have hn : numsOf (intItems xs).toList = ns := by rw [← e]; exact rv.ints.numsOf
  rw [nums_intItems] at hn
  rw [e] at hl
  refine sumT (I.ok.hd hc) hl fun h' tk t' hk => ⟨.int ns.sum, H, I.kept hk, ⟨t', ?_⟩, q⟩
  rw [preSum_eq, List.take_of_length_le (by simp), hn]
theorem cr_maxT (hc : X.calm = true) : CallR X (.builtin "max") (fun vs H Q => ∃ (a : Addr) (ns : List Int), vs = [V.ref a] ∧ SqT X.K H a (ns.map V.int) ∧ 0 < ns.length ∧ ∀ m, m ∈ ns → (∀ y, y ∈ ns → y ≤ m) → Q (.int m) H) := by
  intro pins s σ H vs us Q I r h
  obtain ⟨a, ns, rfl, hs, hne, q⟩ := h
  obtain ⟨its, rv, hl, _⟩ := I.tuple hs
  rw [Vals.ref1 r]
  obtain ⟨xs, e⟩ := rv.ints.allInts.items
  have hn : numsOf (intItems xs).toList = ns := by rw [← e]; exact rv.ints.numsOf
  rw [nums_intItems] at hn
  subst hn
  rw [e] at hl
  have hsz : 0 < xs.size := by simpa using hne
  refine maxT (I.ok.hd hc) hl hsz fun v h' tk hv hk => ?_
  obtain ⟨t, rfl⟩ := intItems_at hv
  obtain ⟨h1, h2⟩ := argBest_gt (numAt xs) (xs.size - 1)
  refine ⟨.int _, H, I.kept hk, ⟨t, rfl⟩, q _ ?_ fun y hy => ?_⟩
  · rw [numAt_eq]
    exact PySem.getD_mem (by rw [List.length_map, Array.length_toList]; omega)
  · obtain ⟨j, hj, rfl⟩ := mem_getD hy
    rw [List.length_map, Array.length_toList] at hj
    rw [← numAt_eq]
    exact h2 j (by omega)
theorem cr_minT (hc : X.calm = true) : CallR X (.builtin "min") (fun vs H Q => ∃ (a : Addr) (ns : List Int), vs = [V.ref a] ∧ SqT X.K H a (ns.map V.int) ∧ 0 < ns.length ∧ ∀ m, m ∈ ns → (∀ y, y ∈ ns → m ≤ y) → Q (.int m) H) := by
  intro pins s σ H vs us Q I r h
  obtain ⟨a, ns, rfl, hs, hne, q⟩ := h
  obtain ⟨its, rv, hl, _⟩ := I.tuple hs
  rw [Vals.ref1 r]
  obtain ⟨xs, e⟩ := rv.ints.allInts.items
  have hn : numsOf (intItems xs).toList = ns := by rw [← e]; exact rv.ints.numsOf
  rw [nums_intItems] at hn
  subst hn
  rw [e] at hl
  have hsz : 0 < xs.size := by simpa using hne
  refine minT (I.ok.hd hc) hl hsz fun v h' tk hv hk => ?_
  obtain ⟨t, rfl⟩ := intItems_at hv
  obtain ⟨h1, h2⟩ := argBest_lt (numAt xs) (xs.size - 1)
  refine ⟨.int _, H, I.kept hk, ⟨t, rfl⟩, q _ ?_ fun y hy => ?_⟩
  · rw [numAt_eq]
    exact PySem.getD_mem (by rw [List.length_map, Array.length_toList]; omega)
  · obtain ⟨j, hj, rfl⟩ := mem_getD hy
    rw [List.length_map, Array.length_toList] at hj
    rw [← numAt_eq]
    exact h2 j (by omega)
theorem cr_allT (hc : X.calm = true) : CallR X (.builtin "all") (fun vs H Q => ∃ (a : Addr) (bs : List Bool), vs = [V.ref a] ∧ SqT X.K H a (bs.map V.bl) ∧ Q (.bl (bs.all id)) H) := by
  intro pins s σ H vs us Q I r h
  obtain ⟨a, bs, rfl, hs, q⟩ := h
  obtain ⟨its, rv, hl, _⟩ := I.tuple hs
  rw [Vals.ref1 r]
  have hb := rv.bls
  refine call_all_walk (iterT hl fun s₂ e2 st p hfp hne => ?_)
  subst e2
  refine ⟨_, _, _, _, _, _, _, rfl, Walks.tuple (A := X.A.in1) (I.ok.hd hc) _ a hne its.toArray, ⟨st, p⟩, truth_bools hb, fun h' tk hk => ⟨.bl _, H, I.kept (keptT hk), ?_, q⟩⟩
  show Value.bool _ = Value.bool _
  rw [← L2.all_range, hb, List.size_toArray, List.length_map]
theorem cr_anyT (hc : X.calm = true) : CallR X (.builtin "any") (fun vs H Q => ∃ (a : Addr) (bs : List Bool), vs = [V.ref a] ∧ SqT X.K H a (bs.map V.bl) ∧ Q (.bl (bs.any id)) H) := by
  intro pins s σ H vs us Q I r h
  obtain ⟨a, bs, rfl, hs, q⟩ := h
  obtain ⟨its, rv, hl, _⟩ := I.tuple hs
  rw [Vals.ref1 r]
  have hb := rv.bls
  refine call_any_walk (iterT hl fun s₂ e2 st p hfp hne => ?_)
  subst e2
  refine ⟨_, _, _, _, _, _, _, rfl, Walks.tuple (A := X.A.in1) (I.ok.hd hc) _ a hne its.toArray, ⟨st, p⟩, truth_bools hb, fun h' tk hk => ⟨.bl _, H, I.kept (keptT hk), ?_, q⟩⟩
  show Value.bool _ = Value.bool _
  rw [← L2.any_range, hb, List.size_toArray, List.length_map]
end
end EV

namespace EV
open PySem PySem.Spec PyProof.Rows L2
/-! ### built-ins over data -/
section
variable {X : Cx} {pins : List (Addr × Obj)} {σ : VS} {H : Hp} {s : Shared} {A : AS}
theorem rds_reads (I : Inv X pins σ H s) {n : Nat} : ∀ {xs : List D} {vs : List V} {us : List Value}, xs.all (shp n) = true → RDs X.K H A xs vs → Vals vs us → ∃ as, ReadsAll s.heap us xs as
  | [], _, _, _, .nil, .nil => ⟨_, .nil⟩
  | x :: xs, _, _, z, .cons r t, .cons q u => by
    simp only [List.all_cons, Bool.and_eq_true] at z
    obtain ⟨as, h1⟩ := Dp.reads I _ _ _ (r.dp _ _ n z.1) q
    obtain ⟨bs, h2⟩ := rds_reads I z.2 t u
    exact ⟨_, .cons h1 h2⟩
theorem vals_at : ∀ {vs : List V} {us : List Value} {i : Nat} {u : Value}, Vals vs us → us[i]? = some u → ∃ v, vs[i]? = some v ∧ RelV v u
  | _, _, i, u, .nil, e => by simp at e
  | _, _, 0, u, .cons h t, e => by simp at e; subst e; exact ⟨_, rfl, h⟩
  | _, _, i + 1, u, .cons h t, e => by
    obtain ⟨v, h1, h2⟩ := vals_at (i := i) t (by simpa using e)
    exact ⟨v, by simpa using h1, h2⟩
theorem minD_mem (x : D) (r : List D) : PySem.W.minD x r ∈ x :: r := by
  unfold PySem.W.minD
  induction r generalizing x with
  | nil => simp
  | cons y r ih =>
    rw [List.foldl_cons]
    have := ih (if PySem.W.dataLt y x then y else x)
    rcases List.mem_cons.mp this with e | e
    · rw [e]; split <;> simp
    · exact List.mem_cons_of_mem _ (List.mem_cons_of_mem _ e)
theorem maxD_mem (x : D) (r : List D) : PySem.W.maxD x r ∈ x :: r := by
  unfold PySem.W.maxD
  induction r generalizing x with
  | nil => simp
  | cons y r ih =>
    rw [List.foldl_cons]
    have := ih (if PySem.W.dataLt x y then y else x)
    rcases List.mem_cons.mp this with e | e
    · rw [e]; split <;> simp
    · exact List.mem_cons_of_mem _ (List.mem_cons_of_mem _ e)
theorem alikeL_all {xs : List D} (h : alikeL xs = true) (h2 : xs.all notNon = true) : PySem.W.AlikeAll xs := by
  simp only [alikeL, List.all_eq_true] at h h2
  exact ⟨fun x hx y hy => h x hx y hy, fun x hx z => by have := h2 x hx; rw [z] at this; cases this⟩
theorem all_depth {xs : List D} (h : xs.all (shp 60) = true) : PyData.depthAll xs ≤ 60 := (shps_ok 60 xs h).2
def rMinX (K : PySem.W.Frag) (sel : D → List D → D) : List V → Hp → VK → Prop := (fun us H Q => ∃ (A : AS) (a : Addr) (vs : List V) (x : D) (r : List D), us = [.ref a] ∧ (SqL K H a vs ∨ SqT K H a vs) ∧ RDs K H A (x :: r) vs ∧ alikeL (x :: r) = true ∧ (x :: r).all notNon = true ∧ (x :: r).all (shp 60) = true ∧ ∀ v, RD K H A (sel x r) v → Q v H)
/-- min, max of alike data: a thing of the list -/
theorem cr_minX {f : String} {sel : D → List D → D} (hsel : ∀ x r, sel x r ∈ x :: r)
    (hl : ∀ {A' : Around} {E : Value → Shared → Prop} {s : Shared} {l : Addr} {vs : Array Value} {x : PyData} {xs : List PyData} {as : List Addr} {Q : Value → Shared → Prop}, A'.handled = none → s.heap.IsList l vs → ReadsAll s.heap vs.toList (x :: xs) as → PySem.W.AlikeAll (x :: xs) → A'.units + 1 + PyData.depthAll (x :: xs) < cLine →
      (∀ (i : Nat) v h' tk bs, vs[i]? = some v → Reads h' v (sel x xs) bs → (∀ b o, s.heap.get? b = some o → h'.get? b = some o) → Q v { s with heap := h', toks := tk }) → wpAny (model X.prog X.w) A' (PySem.call (.builtin f) [.ref l]) Q E s)
    (ht : ∀ {A' : Around} {E : Value → Shared → Prop} {s : Shared} {l : Addr} {vs : Array Value} {x : PyData} {xs : List PyData} {as : List Addr} {Q : Value → Shared → Prop}, A'.handled = none → s.heap.IsTuple l vs → ReadsAll s.heap vs.toList (x :: xs) as → PySem.W.AlikeAll (x :: xs) → A'.units + 1 + PyData.depthAll (x :: xs) < cLine →
      (∀ (i : Nat) v h' tk bs, vs[i]? = some v → Reads h' v (sel x xs) bs → (∀ b o, s.heap.get? b = some o → h'.get? b = some o) → Q v { s with heap := h', toks := tk }) → wpAny (model X.prog X.w) A' (PySem.call (.builtin f) [.ref l]) Q E s)
    (hc : X.calm = true) (hu : X.A.units + 64 < cLine) : CallR X (.builtin f) (rMinX X.K sel) := by
  intro pins s σ H us ws Q I r0 h
  obtain ⟨A, a, vs, x, r, rfl, hs, rd, h1, h2, h3, q⟩ := h
  rw [Vals.ref1 r0]
  have al := alikeL_all h1 h2
  have dp := all_depth h3
  have fin : ∀ (its : List Value) (rv : Vals vs its) (i : Nat) v h' tk bs, its.toArray[i]? = some v → Reads h' v (sel x r) bs → (∀ b o, s.heap.get? b = some o → h'.get? b = some o) → EP X pins σ Q v { s with heap := h', toks := tk } := by
    intro its rv i v h' tk bs hi hr hk
    obtain ⟨u, hu1, hu2⟩ := vals_at rv (i := i) (by simpa using hi)
    obtain ⟨d, hd1, hd2⟩ := rd.getV hu1
    have I' : Inv X pins σ H { s with heap := h', toks := tk } := I.kept hk
    have hm : d ∈ x :: r := List.mem_of_getElem? hd1
    obtain ⟨cs, hr2⟩ := Dp.reads I' d u v (hd2.dp _ _ 60 (List.all_eq_true.mp h3 d hm)) hu2
    have e : d = sel x r := PySem.W.alike_unique d _ v cs bs (al.1 d hm _ (hsel x r)) hr2 hr
    exact ⟨u, H, I', hu2, q u (e ▸ hd2)⟩
  rcases hs with hs | hs
  · obtain ⟨its, rv, pl, _⟩ := I.list hs
    obtain ⟨as, ra⟩ := rds_reads I h3 rd rv
    exact hl (I.ok.hd hc) pl.isList (by simpa using ra) al (by omega) (fin its rv)
  · obtain ⟨its, rv, pl, _⟩ := I.tuple hs
    obtain ⟨as, ra⟩ := rds_reads I h3 rd rv
    exact ht (I.ok.hd hc) pl (by simpa using ra) al (by omega) (fin its rv)
theorem cr_minD (hc : X.calm = true) (hu : X.A.units + 64 < cLine) : CallR X (.builtin "min") (rMinX X.K PySem.W.minD) := cr_minX (X := X) (f := "min") (sel := PySem.W.minD) minD_mem (fun a b c d e f => PySem.W.min_list_data a b c d e f) (fun a b c d e f => PySem.W.min_tuple_data a b c d e f) hc hu
theorem cr_maxD (hc : X.calm = true) (hu : X.A.units + 64 < cLine) : CallR X (.builtin "max") (rMinX X.K PySem.W.maxD) := cr_minX (X := X) (f := "max") (sel := PySem.W.maxD) maxD_mem (fun a b c d e f => PySem.W.max_list_data a b c d e f) (fun a b c d e f => PySem.W.max_tuple_data a b c d e f) hc hu
/-- sorted of alike data -/
theorem each_pairs : ∀ {xs : List D} {vs : List V} {us : List Value}, RDs X.K H A xs vs → Vals vs us → PySem.W.EachIs (fun (u : Value) (p : D × V) => RelV p.2 u ∧ RD X.K H A p.1 p.2) us (xs.zip vs)
  | [], _, _, .nil, .nil => .nil
  | x :: xs, _, _, .cons r t, .cons q u => .cons ⟨q, r⟩ (each_pairs t u)
theorem each_pairs3 {n : Nat} : ∀ {xs : List D} {vs : List V} {us : List Value}, xs.all (shp n) = true → RDs X.K H A xs vs → Vals vs us → PySem.W.EachIs (fun (u : Value) (p : D × V) => RelV p.2 u ∧ RD X.K H A p.1 p.2 ∧ shp n p.1 = true) us (xs.zip vs)
  | [], _, _, _, .nil, .nil => .nil
  | x :: xs, _, _, z, .cons r t, .cons q u => by
    simp only [List.all_cons, Bool.and_eq_true] at z
    exact .cons ⟨q, r, z.1⟩ (each_pairs3 z.2 t u)
theorem pairs_back {A : AS} : ∀ {us : List Value} {ps : List (D × V)}, PySem.W.EachIs (fun (u : Value) (p : D × V) => RelV p.2 u ∧ RD X.K H A p.1 p.2) us ps → Vals (ps.map (·.2)) us ∧ RDs X.K H A (ps.map (·.1)) (ps.map (·.2))
  | _, _, .nil => ⟨.nil, .nil⟩
  | _, _, .cons h t => by
    obtain ⟨h1, h2⟩ := pairs_back t
    exact ⟨.cons h.1 h1, .cons h.2 h2⟩
theorem zip_fst {α β : Type} : ∀ {xs : List α} {ys : List β}, xs.length = ys.length → (xs.zip ys).map (·.1) = xs
  | [], [], _ => rfl
  | x :: xs, y :: ys, h => by simp [zip_fst (xs := xs) (ys := ys) (by simpa using h)]
  | [], y :: ys, h => by simp at h
  | x :: xs, [], h => by simp at h
theorem cr_sortD (hu : X.A.units + 64 < cLine) : CallR X (.builtin "sorted") (fun us H Q => ∃ (A : AS) (a : Addr) (vs : List V) (xs : List D), us = [.ref a] ∧ SqL X.K H a vs ∧ RDs X.K H A xs vs ∧ alikeL xs = true ∧ (xs.all tupNe || xs.all notTN) = true ∧ xs.all (shp 60) = true ∧ xs.length ≤ sizeLine ∧
    ∀ p ys, H p = none → RDs X.K H A (sortD xs) ys → Q (.ref p) (upd H p (.lst ys))) := by
  intro pins s σ H us ws Q I r0 h
  obtain ⟨A, a, vs, xs, rfl, hs, rd, h1, h2, h3, h4, q⟩ := h
  rw [Vals.ref1 r0]
  obtain ⟨its, rv, pl, _⟩ := I.list hs
  have hl := rd.len
  have hm : (xs.zip vs).map (·.1) = xs := zip_fst hl
  have e0 := each_pairs rd rv
  have er : PySem.W.EachIs (fun (v : Value) (b : D × V) => ∃ as, Reads s.heap v b.1 as) its (xs.zip vs) := (each_pairs3 h3 rd rv).mono fun u p hp => by
    obtain ⟨as, h⟩ := Dp.reads I _ _ _ (hp.2.1.dp _ _ 60 hp.2.2) hp.1
    exact ⟨as, h⟩
  have hal : PySem.W.AllAlike ((xs.zip vs).map (·.1)) := by
    rw [hm]
    simp only [alikeL, List.all_eq_true] at h1
    exact fun d hd d' hd' => h1 d hd d' hd'
  have hk : PySem.W.Sortable ((xs.zip vs).map (·.1)) := by
    rw [hm]
    rw [Bool.or_eq_true, List.all_eq_true, List.all_eq_true] at h2
    rcases h2 with h2 | h2
    · refine .inl fun d hd => ?_
      have := h2 d hd
      cases d <;> simp only [tupNe] at this <;> try (cases this; done)
      rename_i ys
      cases ys with
      | nil => cases this
      | cons y ys => exact ⟨y, ys, rfl⟩
    · refine .inr fun d hd => ?_
      have := h2 d hd
      cases d <;> simp only [notTN] at this <;> first
        | (cases this; done)
        | exact ⟨(fun z => by cases z), (fun _ z => by cases z)⟩
  refine PySem.W.sorted_data (enc := fun b : D × V => b.1) (bs := xs.zip vs) (R := fun (u : Value) (p : D × V) => RelV p.2 u ∧ RD X.K H A p.1 p.2) pl.isList e0 er hal hk (by rw [List.length_zip]; omega) (fun b hb => ?_) fun out ho hz => ?_
  · have hx : b.1 ∈ xs := by rw [← hm]; exact List.mem_map.mpr ⟨b, hb, rfl⟩
    have := (shp_ok 60 b.1 (List.all_eq_true.mp h3 _ hx)).2
    omega
  · obtain ⟨k1, k2⟩ := pairs_back hz
    obtain ⟨ep, he'⟩ := PyProof.Rows.sortedAll_at s.heap its out.toArray
    have hs2 : ((xs.zip vs).mergeSort (PySem.W.dataLe false fun b => b.1)).map (·.1) = sortD xs := by
      have := List.map_mergeSort (f := fun b : D × V => b.1) (r := PySem.W.dataLe false fun b : D × V => b.1) (s := fun a b => !PySem.W.dataLt b a) (l := xs.zip vs) (fun a _ b _ => rfl)
      rw [this, hm, sortD_ms]
    rw [hs2] at k2
    have hlen : (((xs.zip vs).mergeSort (PySem.W.dataLe false fun b => b.1)).map (·.2)).length ≤ sizeLine := by
      rw [List.length_map, List.length_mergeSort, List.length_zip]
      omega
    exact ⟨.ref _, upd H (s.heap.objs.size + 1) (.lst _), I.laid (t' := s.toks) (fun _ _ => PyProof.Rows.sortedAll_old) (Nat.le_succ _) ⟨hlen, out, ep, k1, he'⟩, rfl, q _ _ (I.hok.fresh (Nat.le_succ _)) k2⟩
/-- repr of data -/
theorem cr_reprD (hg : X.A.guards = some []) (hu : X.A.units + 64 < cLine) : CallR X (.builtin "repr") (fun us H Q => ∃ (a : Addr) (d : D), us = [.ref a] ∧ Dp X.K H (.ref a) d ∧ shp 60 d = true ∧ PyData.showable d = true ∧ (PyData.shown d).length ≤ sizeLine ∧ Q (.str (PyData.shown d)) H) := by
  intro pins s σ H us ws Q I r0 h
  obtain ⟨a, d, rfl, hd, h1, h2, h3, q⟩ := h
  rw [Vals.ref1 r0]
  obtain ⟨as, r1⟩ := Dp.reads I d (.ref a) (.ref a) hd rfl
  have l := shp_ok 60 d h1
  exact PySem.repr_of_reads' r1 h2 (PyData.noDict_hsm (PyData.hasDict_of_canLay d l.1)) hg (by omega) (fun _ _ e => e) (fun h' u tk hk => ⟨.str _, H, I.kept hk, ⟨_, rfl⟩, q⟩) h3
/-! data with flat dicts -/
theorem flat_reads {h : Heap} : ∀ {ds : List (D × D)} {kvs : List (Key × V)} {vs : List (Key × Value)} {es : List DictEntry}, kvD ds = some kvs → KV kvs vs → Pairs (mixKind X.prog X.w) es vs → ReadsAll h (es.map (·.key)) (ds.map (·.1)) [] ∧ ReadsAll h (es.map (·.val)) (ds.map (·.2)) []
  | [], _, _, _, e, k, p => by
    cases e
    cases k
    cases p
    exact ⟨.nil, .nil⟩
  | (.int i, .int j) :: r, _, _, _, e, k, p => by
    obtain ⟨kr, e1, rfl⟩ := Option.map_eq_some_iff.mp e
    cases k with
    | @cons _ q _ qs k1 k2 =>
      cases p with
      | @cons e0 _ es _ p1 p2 p3 =>
        obtain ⟨h1, h2⟩ := flat_reads e1 k2 p3
        obtain ⟨q1, q2⟩ := q
        simp only at k1 p1 p2
        obtain ⟨k3, k4⟩ := k1
        subst k3
        obtain ⟨t, ht⟩ := Value.isInt_shape (show Value.isInt i e0.key = true from p1)
        obtain ⟨t2, ht2⟩ := k4
        refine ⟨?_, ?_⟩
        · rw [List.map_cons, List.map_cons, ht]
          exact .cons (.int i t) h1
        · rw [List.map_cons, List.map_cons, p2, ht2]
          exact .cons (.int j t2) h2
mutual
theorem rdq (I : Inv X pins σ H s) {A : AS} : ∀ (x : D) (n : Nat) (v : V) (u : Value), shq n x = true → RD X.K H A x v → RelV v u → ∃ as, Reads s.heap u x as ∧ sysModules ∉ as
  | .none, n, _, _, z, h, r => by cases h; cases r; exact ⟨_, Reads.none, by simp⟩
  | .bool b, n, _, _, z, h, r => by cases h; cases r; exact ⟨_, Reads.bool b, by simp⟩
  | .int i, n, _, _, z, h, r => by cases h; obtain ⟨t, rfl⟩ := r; exact ⟨_, Reads.int i t, by simp⟩
  | .str x, n, _, _, z, h, r => by cases h; obtain ⟨t, rfl⟩ := r; exact ⟨_, Reads.str x t, by simp⟩
  | .list xs, n, _, _, z, h, r => by cases n <;> simp [shq] at z
  | .tuple xs, 0, _, _, z, h, r => by simp [shq] at z
  | .tuple xs, n + 1, _, _, z, h, r => by
    simp only [shq] at z
    cases h with
    | tup h1 h2 =>
      cases r
      obtain ⟨its, rv, ⟨o, ho, hc, m, hd⟩, _⟩ := I.tuple (RD.sqT h1)
      obtain ⟨as, hr, hn⟩ := rdqs I xs n _ its z h2 rv
      exact ⟨_, Reads.tuple ho hc hd hr, hn⟩
  | .dict ds, n, _, _, z, h, r => by
    cases h with
    | @dct a kvs _ h1 h2 =>
      cases r
      obtain ⟨_, hz, vs, rel, o, es, ep, ho, hex, hd, hko, hpr, hnd⟩ := dk_rd I.hok h1.1
      obtain ⟨k1, k2⟩ := flat_reads (h := s.heap) h2 rel hpr
      refine ⟨_, Reads.dict ho hex.1 hd k1 k2, fun hm => ?_⟩
      rw [beq_eq_false_iff_ne] at hz
      simp only [List.cons_append, List.append_nil, List.mem_cons, List.not_mem_nil, or_false] at hm
      exact hz hm.symm
theorem rdqs (I : Inv X pins σ H s) {A : AS} : ∀ (xs : List D) (n : Nat) (vs : List V) (us : List Value), xs.all (shq n) = true → RDs X.K H A xs vs → Vals vs us → ∃ as, ReadsAll s.heap us xs as ∧ sysModules ∉ as
  | [], n, _, _, z, h, r => by cases h; cases r; exact ⟨_, .nil, by simp⟩
  | x :: xs, n, _, _, z, h, r => by
    simp only [List.all_cons, Bool.and_eq_true] at z
    cases h with
    | cons h1 h2 =>
      cases r with
      | cons r1 r2 =>
        obtain ⟨as, p1, p2⟩ := rdq I x n _ _ z.1 h1 r1
        obtain ⟨bs, q1, q2⟩ := rdqs I xs n _ _ z.2 h2 r2
        exact ⟨_, .cons p1 q1, fun hm => (List.mem_append.mp hm).elim p2 q2⟩
end
theorem flat_depth : ∀ ks : List (D × D), flatKv ks = true → PyData.depthKv ks = 0
  | [], _ => rfl
  | (.int i, .int j) :: r, h => by
    simp only [flatKv] at h
    simp only [PyData.depthKv, PyData.depth, flat_depth r h]
    rfl
mutual
theorem shq_depth : ∀ (n : Nat) (d : D), shq n d = true → d.depth ≤ n
  | n, .none, _ => by simp only [PyData.depth]; exact Nat.zero_le n
  | n, .bool _, _ => by simp only [PyData.depth]; exact Nat.zero_le n
  | n, .int _, _ => by simp only [PyData.depth]; exact Nat.zero_le n
  | n, .str s, _ => by simp only [PyData.depth]; exact Nat.zero_le n
  | n, .list xs, h => by cases n <;> simp [shq] at h
  | 0, .tuple xs, h => by simp [shq] at h
  | n + 1, .tuple xs, h => by
    simp only [shq] at h
    have := shqs_depth n xs h
    simp only [PyData.depth]
    omega
  | 0, .dict xs, h => by simp [shq] at h
  | n + 1, .dict ks, h => by
    simp only [shq] at h
    simp only [PyData.depth, flat_depth ks h]
    omega
theorem shqs_depth : ∀ (n : Nat) (ds : List D), ds.all (shq n) = true → PyData.depthAll ds ≤ n
  | n, [], _ => by simp only [PyData.depthAll]; exact Nat.zero_le n
  | n, x :: xs, h => by
    simp only [List.all_cons, Bool.and_eq_true] at h
    have h3 := shq_depth n x h.1
    have h4 := shqs_depth n xs h.2
    simp only [PyData.depthAll]
    omega
end
theorem cr_reprQ (hg : X.A.guards = some []) (hu : X.A.units + 64 < cLine) : CallR X (.builtin "repr") (fun us H Q => ∃ (A : AS) (a : Addr) (d : D), us = [.ref a] ∧ RD X.K H A d (.ref a) ∧ shq 60 d = true ∧ PyData.showable d = true ∧ (PyData.shown d).length ≤ sizeLine ∧ Q (.str (PyData.shown d)) H) := by
  intro pins s σ H us ws Q I r0 h
  obtain ⟨A, a, d, rfl, hd, h1, h2, h3, q⟩ := h
  rw [Vals.ref1 r0]
  obtain ⟨as, r1, hn⟩ := rdq I d 60 (.ref a) (.ref a) h1 hd rfl
  have l := shq_depth 60 d h1
  exact PySem.repr_of_reads' r1 h2 (fun _ => hn) hg (by omega) (fun _ _ e => e) (fun h' u tk hk => ⟨.str _, H, I.kept hk, ⟨_, rfl⟩, q⟩) h3
theorem cr_reprS : CallR X (.builtin "repr") (fun us H Q => ∃ x : Str, us = [.str x] ∧ (PyData.shown (.str x)).length ≤ sizeLine ∧ Q (.str (PyData.shown (.str x))) H) := by
  intro pins s σ H us ws Q I r0 h
  obtain ⟨x, rfl, hz, q⟩ := h
  obtain ⟨u, rfl, t, rfl⟩ := vals1 r0
  simp only [PyData.shown] at hz q
  exact PySem.P.repr_of_str ⟨.str _, H, I.tok _, ⟨_, rfl⟩, q⟩ hz
theorem cr_repr0 : CallR X (.builtin "repr") (fun us H Q => us = [.non] ∧ Q (.str "None") H) := by
  intro pins s σ H us ws Q I r0 h
  obtain ⟨rfl, q⟩ := h
  obtain ⟨u, rfl, rfl⟩ := vals1 r0
  exact PySem.P.repr_of_none ⟨.str _, H, I.tok _, ⟨_, rfl⟩, q⟩
theorem cr_reprB : CallR X (.builtin "repr") (fun us H Q => ∃ b : Bool, us = [.bl b] ∧ Q (.str (if b then "True" else "False")) H) := by
  intro pins s σ H us ws Q I r0 h
  obtain ⟨b, rfl, q⟩ := h
  obtain ⟨u, rfl, rfl⟩ := vals1 r0
  exact PySem.P.repr_of_bool ⟨.str _, H, I.tok _, ⟨_, rfl⟩, q⟩
theorem cr_reprI : CallR X (.builtin "repr") (fun xs H Q => ∃ i, xs = [.int i] ∧ i.natAbs.log2 < 1920 ∧ Q (.str (toString i)) H) := by
  intro pins s σ H xs us Q I r h
  obtain ⟨i, rfl, hz, q⟩ := h
  obtain ⟨u, rfl, t, rfl⟩ := vals1 r
  exact PySem.P.repr_of_int hz ⟨.str _, H, I.tok _, ⟨_, rfl⟩, q⟩
end
end EV

namespace EV
open PySem PySem.Spec PyProof.Rows L2
inductive RWs (K : PySem.W.Frag) (H : Hp) (A : AS) : List D → List V → Prop
  | nil : RWs K H A [] []
  | cons {x : D} {v : V} {xs : List D} {vs : List V} : RW K H A x v → RWs K H A xs vs → RWs K H A (x :: xs) (v :: vs)
/-- a built-in of data -/
def rBi (K : PySem.W.Frag) (f : Bi) : List V → Hp → VK → Prop := fun vs H Q => ∃ (A : AS) (ps : List D) (w : W), RWs K H A ps vs ∧ biD f ps = some w ∧ Fin K H A w Q
section
variable {X : Cx} {K : PySem.W.Frag} {H : Hp} {A : AS}
theorem RWs.one {p : D} {vs : List V} (h : RWs K H A [p] vs) : ∃ v, vs = [v] ∧ RW K H A p v := by
  cases h with
  | cons r t => cases t; exact ⟨_, rfl, r⟩
theorem RWs.two {p q : D} {vs : List V} (h : RWs K H A [p, q] vs) : ∃ v u, vs = [v, u] ∧ RW K H A p v ∧ RW K H A q u := by
  cases h with
  | cons r t =>
    obtain ⟨u, rfl, r2⟩ := t.one
    exact ⟨_, u, rfl, r, r2⟩
theorem ints_rel : ∀ {xs : List D} {ns : List Int} {vs : List V}, RDs K H A xs vs → intsD xs = some ns → vs = ns.map V.int
  | [], ns, _, .nil, e => by cases e; rfl
  | x :: xs, ns, _, .cons r t, e => by
    cases x <;> first
      | (cases e; done)
      | skip
    simp only [intsD] at e
    obtain ⟨k, e1, rfl⟩ := Option.map_eq_some_iff.mp e
    cases r
    rw [ints_rel t e1]
    rfl
theorem bls_rel : ∀ {xs : List D} {ns : List Bool} {vs : List V}, RDs K H A xs vs → blsD xs = some ns → vs = ns.map V.bl
  | [], ns, _, .nil, e => by cases e; rfl
  | x :: xs, ns, _, .cons r t, e => by
    cases x <;> first
      | (cases e; done)
      | skip
    simp only [blsD] at e
    obtain ⟨k, e1, rfl⟩ := Option.map_eq_some_iff.mp e
    cases r
    rw [bls_rel t e1]
    rfl
theorem foldMin : ∀ (r : List Int) (x : Int), (r.foldl (fun a b => if b < a then b else a) x ∈ x :: r) ∧ (∀ y ∈ x :: r, r.foldl (fun a b => if b < a then b else a) x ≤ y)
  | [], x => by simp
  | b :: r, x => by
    obtain ⟨h1, h2⟩ := foldMin r (if b < x then b else x)
    rw [List.foldl_cons]
    generalize r.foldl _ (if b < x then b else x) = z at h1 h2 ⊢
    refine ⟨?_, fun y hy => ?_⟩
    · rcases List.mem_cons.mp h1 with e | e
      · rw [e]
        split
        · exact List.mem_cons_of_mem _ List.mem_cons_self
        · exact List.mem_cons_self
      · exact List.mem_cons_of_mem _ (List.mem_cons_of_mem _ e)
    · have h3 := h2 _ List.mem_cons_self
      rcases List.mem_cons.mp hy with rfl | hy
      · split at h3 <;> omega
      · rcases List.mem_cons.mp hy with rfl | hy
        · split at h3 <;> omega
        · exact h2 y (List.mem_cons_of_mem _ hy)
theorem foldMax : ∀ (r : List Int) (x : Int), (r.foldl (fun a b => if a < b then b else a) x ∈ x :: r) ∧ (∀ y ∈ x :: r, y ≤ r.foldl (fun a b => if a < b then b else a) x)
  | [], x => by simp
  | b :: r, x => by
    obtain ⟨h1, h2⟩ := foldMax r (if x < b then b else x)
    rw [List.foldl_cons]
    generalize r.foldl _ (if x < b then b else x) = z at h1 h2 ⊢
    refine ⟨?_, fun y hy => ?_⟩
    · rcases List.mem_cons.mp h1 with e | e
      · rw [e]
        split
        · exact List.mem_cons_of_mem _ List.mem_cons_self
        · exact List.mem_cons_self
      · exact List.mem_cons_of_mem _ (List.mem_cons_of_mem _ e)
    · have h3 := h2 _ List.mem_cons_self
      rcases List.mem_cons.mp hy with rfl | hy
      · split at h3 <;> omega
      · rcases List.mem_cons.mp hy with rfl | hy
        · split at h3 <;> omega
        · exact h2 y (List.mem_cons_of_mem _ hy)
theorem minI_is {ns : List Int} (h : ns.isEmpty = false) {m : Int} (h1 : m ∈ ns) (h2 : ∀ y ∈ ns, m ≤ y) : m = minI ns := by
  cases ns with
  | nil => cases h
  | cons x r =>
    obtain ⟨h3, h4⟩ := foldMin r x
    exact Int.le_antisymm (h2 _ h3) (h4 _ h1)
theorem maxI_is {ns : List Int} (h : ns.isEmpty = false) {m : Int} (h1 : m ∈ ns) (h2 : ∀ y ∈ ns, y ≤ m) : m = maxI ns := by
  cases ns with
  | nil => cases h
  | cons x r =>
    obtain ⟨h3, h4⟩ := foldMax r x
    exact Int.le_antisymm (h4 _ h1) (h2 _ h3)
theorem ok_len : CallR X (.builtin "len") (rBi X.K .len) := by
  refine CallR.imp (call_len_seq (X := X)) fun vs H Q h => ?_
  obtain ⟨A, ps, w, r, e, f⟩ := h
  match ps, e with
  | [.list xs], e =>
    cases e
    obtain ⟨v, rfl, r1⟩ := r.one
    obtain ⟨a, vs, rfl, h1, h2⟩ := r1.lst
    rw [h2.len] at f
    exact ⟨a, vs, rfl, .inl h1, f.int⟩
  | [.tuple xs], e =>
    cases e
    obtain ⟨v, rfl, r1⟩ := r.one
    obtain ⟨a, vs, rfl, h1, h2⟩ := r1.tup
    rw [h2.len] at f
    exact ⟨a, vs, rfl, .inr (RD.sqT h1), f.int⟩
theorem ok_tuple : CallR X (.type "tuple") (rBi X.K .tuple) := by
  refine CallR.imp (call_tuple_of (X := X)) fun vs H Q h => ?_
  obtain ⟨A, ps, w, r, e, f⟩ := h
  match ps, e with
  | [.list xs], e =>
    cases e
    obtain ⟨v, rfl, r1⟩ := r.one
    obtain ⟨a, vs, rfl, h1, h2⟩ := r1.lst
    exact ⟨a, vs, rfl, .inl ⟨h1, fun l n => f.tup h2 n⟩⟩
  | [.tuple xs], e =>
    cases e
    obtain ⟨v, rfl, r1⟩ := r.one
    obtain ⟨a, vs, rfl, h1, h2⟩ := r1.tup
    exact ⟨a, vs, rfl, .inr ⟨RD.sqT h1, f.flat (.tup h1 h2)⟩⟩
theorem ok_list : CallR X (.type "list") (rBi X.K .list) := by
  refine CallR.imp (call_list_of (X := X)) fun vs H Q h => ?_
  obtain ⟨A, ps, w, r, e, f⟩ := h
  match ps, e with
  | [.list xs], e =>
    cases e
    obtain ⟨v, rfl, r1⟩ := r.one
    obtain ⟨a, vs, rfl, h1, h2⟩ := r1.lst
    exact ⟨a, vs, rfl, .inl h1, fun l n => f.lst h2 n⟩
  | [.tuple xs], e =>
    cases e
    obtain ⟨v, rfl, r1⟩ := r.one
    obtain ⟨a, vs, rfl, h1, h2⟩ := r1.tup
    exact ⟨a, vs, rfl, .inr (RD.sqT h1), fun l n => f.lst h2 n⟩
theorem ok_min2 (hc : X.calm = true) : CallR X (.builtin "min") (rBi X.K .min2) := by
  refine CallR.imp (call_min2 (X := X) hc) fun vs H Q h => ?_
  obtain ⟨A, ps, w, r, e, f⟩ := h
  match ps, e with
  | [.int i, .int j], e =>
    cases e
    obtain ⟨v, u, rfl, r1, r2⟩ := r.two
    refine ⟨i, j, by rw [r1.int, r2.int], ?_⟩
    rw [show (if j < i then j else i) = min i j by rw [Int.min_def]; split <;> split <;> omega]
    exact f.int
theorem ok_max2 (hc : X.calm = true) : CallR X (.builtin "max") (rBi X.K .max2) := by
  refine CallR.imp (call_max2 (X := X) hc) fun vs H Q h => ?_
  obtain ⟨A, ps, w, r, e, f⟩ := h
  match ps, e with
  | [.int i, .int j], e =>
    cases e
    obtain ⟨v, u, rfl, r1, r2⟩ := r.two
    refine ⟨i, j, by rw [r1.int, r2.int], ?_⟩
    rw [show (if j > i then j else i) = max i j by rw [Int.max_def]; split <;> split <;> omega]
    exact f.int
/-- where the things of a sequence are, now -/
theorem RW.sqN {x : D} {v : V} {xs : List D} (r : RW K H A x v) (e : seqD x = some xs) : ∃ (a : Addr) (vs : List V), v = .ref a ∧ (SqL K H a vs ∨ SqT K H a vs) ∧ RDs K H A xs vs := by
  cases x with
  | list ys =>
    cases e
    obtain ⟨a, vs, rfl, h1, h2⟩ := r.lst
    exact ⟨a, vs, rfl, .inl h1, h2⟩
  | tuple ys =>
    cases e
    obtain ⟨a, vs, rfl, h1, h2⟩ := r.tup
    exact ⟨a, vs, rfl, .inr (RD.sqT h1), h2⟩
  | _ => cases e
theorem ok_min1 (hc : X.calm = true) (hu : X.A.units + 64 < cLine) : CallR X (.builtin "min") (rBi X.K .min1) := by
  refine CallR.imp (CallR.or (CallR.or (cr_min (X := X) hc) (cr_minT hc)) (cr_minD hc hu)) fun vs H Q h => ?_
  obtain ⟨A, ps, w, r, e, f⟩ := h
  match ps, e with
  | [x], e =>
    simp only [biD] at e
    obtain ⟨xs, e0, e⟩ := Option.bind_eq_some_iff.mp e
    split at e
    · rename_i ns e1
      split at e
      · cases e
      · rename_i hz
        cases e
        obtain ⟨v, rfl, r1⟩ := r.one
        obtain ⟨a, vs, rfl, h1, h2⟩ := r1.sqN e0
        rw [ints_rel h2 e1] at h1
        have hz' : ns.isEmpty = false := by simpa using hz
        have key : 0 < ns.length ∧ ∀ m, m ∈ ns → (∀ y, y ∈ ns → m ≤ y) → Q (.int m) H := by
          refine ⟨?_, fun m hm hle => ?_⟩
          · cases ns with
            | nil => cases hz'
            | cons _ _ => exact Nat.zero_lt_succ _
          · rw [minI_is hz' hm hle]
            exact f.int
        rcases h1 with h1 | h1
        · exact .inl (.inl ⟨a, ns, rfl, h1, key⟩)
        · exact .inl (.inr ⟨a, ns, rfl, h1, key⟩)
    · split at e
      · rename_i hz
        cases e
        simp only [Bool.and_eq_true, Bool.not_eq_true'] at hz
        obtain ⟨v, rfl, r1⟩ := r.one
        obtain ⟨a, vs, rfl, h1, h2⟩ := r1.sqN e0
        cases xs with
        | nil => cases hz.2
        | cons y ys => exact .inr ⟨A, a, vs, y, ys, rfl, h1, h2, hz.1.1.1, hz.1.1.2, hz.1.2, fun v hv => f.flat hv⟩
      · cases e
theorem ok_max1 (hc : X.calm = true) (hu : X.A.units + 64 < cLine) : CallR X (.builtin "max") (rBi X.K .max1) := by
  refine CallR.imp (CallR.or (CallR.or (cr_max (X := X) hc) (cr_maxT hc)) (cr_maxD hc hu)) fun vs H Q h => ?_
  obtain ⟨A, ps, w, r, e, f⟩ := h
  match ps, e with
  | [x], e =>
    simp only [biD] at e
    obtain ⟨xs, e0, e⟩ := Option.bind_eq_some_iff.mp e
    split at e
    · rename_i ns e1
      split at e
      · cases e
      · rename_i hz
        cases e
        obtain ⟨v, rfl, r1⟩ := r.one
        obtain ⟨a, vs, rfl, h1, h2⟩ := r1.sqN e0
        rw [ints_rel h2 e1] at h1
        have hz' : ns.isEmpty = false := by simpa using hz
        have key : 0 < ns.length ∧ ∀ m, m ∈ ns → (∀ y, y ∈ ns → y ≤ m) → Q (.int m) H := by
          refine ⟨?_, fun m hm hle => ?_⟩
          · cases ns with
            | nil => cases hz'
            | cons _ _ => exact Nat.zero_lt_succ _
          · rw [maxI_is hz' hm hle]
            exact f.int
        rcases h1 with h1 | h1
        · exact .inl (.inl ⟨a, ns, rfl, h1, key⟩)
        · exact .inl (.inr ⟨a, ns, rfl, h1, key⟩)
    · split at e
      · rename_i hz
        cases e
        simp only [Bool.and_eq_true, Bool.not_eq_true'] at hz
        obtain ⟨v, rfl, r1⟩ := r.one
        obtain ⟨a, vs, rfl, h1, h2⟩ := r1.sqN e0
        cases xs with
        | nil => cases hz.2
        | cons y ys => exact .inr ⟨A, a, vs, y, ys, rfl, h1, h2, hz.1.1.1, hz.1.1.2, hz.1.2, fun v hv => f.flat hv⟩
      · cases e
theorem ok_sorted (hu : X.A.units + 64 < cLine) : CallR X (.builtin "sorted") (rBi X.K .sorted) := by
  refine CallR.imp (cr_sortD hu) fun vs H Q h => ?_
  obtain ⟨A, ps, w, r, e, f⟩ := h
  match ps, e with
  | [.list xs], e =>
    simp only [biD, sortedD, reprD] at e
    split at e
    · rename_i hz
      simp only [Bool.and_eq_true, decide_eq_true_eq] at hz
      cases e
      obtain ⟨v, rfl, r1⟩ := r.one
      obtain ⟨a, vs, rfl, h1, h2⟩ := r1.lst
      exact ⟨A, a, vs, xs, rfl, h1, h2, hz.1.1.1, hz.1.1.2, hz.1.2, by rw [← lim_eq]; exact hz.2, fun p ys n hy => f.lst hy n⟩
    · cases e
theorem ok_repr (hg : X.A.guards = some []) (hu : X.A.units + 64 < cLine) : CallR X (.builtin "repr") (rBi X.K .repr) := by
  refine CallR.imp (CallR.or (CallR.or (CallR.or (cr_reprD hg hu) cr_reprI) (CallR.or cr_repr0 cr_reprB)) (CallR.or (cr_reprQ hg hu) cr_reprS)) fun vs H Q h => ?_
  obtain ⟨A, ps, w, r, e, f⟩ := h
  match ps, e with
  | [.list xs], e =>
    simp only [biD, sortedD, reprD] at e
    split at e
    · rename_i hz
      simp only [Bool.and_eq_true, decide_eq_true_eq] at hz
      cases e
      obtain ⟨v, rfl, r1⟩ := r.one
      have dp := r1.dp hz.1.1
      obtain ⟨a, vs, rfl, h1, h2⟩ := r1.lst
      exact .inl (.inl (.inl ⟨a, _, rfl, dp, hz.1.1, hz.1.2, by rw [← lim_eq]; exact hz.2, f.str⟩))
    · cases e
  | [.tuple xs], e =>
    simp only [biD, sortedD, reprD] at e
    split at e
    · rename_i hz
      simp only [Bool.and_eq_true, Bool.or_eq_true, decide_eq_true_eq] at hz
      cases e
      obtain ⟨v, rfl, r1⟩ := r.one
      rcases hz.1.1 with hz1 | hz1
      · have dp := r1.dp hz1
        obtain ⟨a, vs, rfl, h1, h2⟩ := r1.tup
        exact .inl (.inl (.inl ⟨a, _, rfl, dp, hz1, hz.1.2, by rw [← lim_eq]; exact hz.2, f.str⟩))
      · obtain ⟨a, vs, rfl, h1, h2⟩ := r1.tup
        exact .inr (.inl ⟨A, a, _, rfl, .tup h1 h2, hz1, hz.1.2, by rw [← lim_eq]; exact hz.2, f.str⟩)
    · cases e
  | [.dict xs], e =>
    simp only [biD, sortedD, reprD] at e
    split at e
    · rename_i hz
      simp only [Bool.and_eq_true, decide_eq_true_eq] at hz
      cases e
      obtain ⟨v, rfl, r1⟩ := r.one
      obtain ⟨a, kvs, rfl, h1, h2, h3⟩ := r1.dct
      exact .inr (.inl ⟨A, a, _, rfl, .dct ⟨h1, h2⟩ h3, hz.1.1, hz.1.2, by rw [← lim_eq]; exact hz.2, f.str⟩)
    · cases e
  | [.str x], e =>
    simp only [biD, sortedD, reprD] at e
    split at e
    · rename_i hz
      simp only [decide_eq_true_eq] at hz
      cases e
      obtain ⟨v, rfl, r1⟩ := r.one
      exact .inr (.inr ⟨x, by rw [r1.str], by rw [← lim_eq]; exact hz, f.str⟩)
    · cases e
  | [.int i], e =>
    simp only [biD, reprD, decide_eq_true_eq] at e
    split at e
    · rename_i hz
      cases e
      obtain ⟨v, rfl, r1⟩ := r.one
      exact .inl (.inl (.inr ⟨i, by rw [r1.int], hz, f.str⟩))
    · cases e
  | [.none], e =>
    cases e
    obtain ⟨v, rfl, r1⟩ := r.one
    exact .inl (.inr (.inl ⟨by rw [r1.non], f.str⟩))
  | [.bool b], e =>
    cases e
    obtain ⟨v, rfl, r1⟩ := r.one
    exact .inl (.inr (.inr ⟨b, by rw [r1.bl], f.str⟩))
theorem ok_int : CallR X (.type "int") (rBi X.K .int) := by
  refine CallR.imp (call_int1 (X := X)) fun vs H Q h => ?_
  obtain ⟨A, ps, w, r, e, f⟩ := h
  match ps, e with
  | [.int i], e =>
    cases e
    obtain ⟨v, rfl, r1⟩ := r.one
    exact .inl ⟨i, by rw [r1.int], f.int⟩
  | [.bool b], e =>
    cases e
    obtain ⟨v, rfl, r1⟩ := r.one
    exact .inr ⟨b, by rw [r1.bl], f.int⟩
theorem ok_str : CallR X (.type "str") (rBi X.K .str) := by
  refine CallR.imp (call_str_int (X := X)) fun vs H Q h => ?_
  obtain ⟨A, ps, w, r, e, f⟩ := h
  match ps, e with
  | [.int i], e =>
    simp only [biD, decide_eq_true_eq] at e
    split at e
    · rename_i hz
      cases e
      obtain ⟨v, rfl, r1⟩ := r.one
      exact ⟨i, by rw [r1.int], hz, f.str⟩
    · cases e
theorem ok_divmod : CallR X (.builtin "divmod") (rBi X.K .divmod) := by
  refine CallR.imp (call_divmod (X := X)) fun vs H Q h => ?_
  obtain ⟨A, ps, w, r, e, f⟩ := h
  match ps, e with
  | [.int i, .int j], e =>
    simp only [biD] at e
    split at e
    · rename_i hz
      cases e
      obtain ⟨v, u, rfl, r1, r2⟩ := r.two
      exact ⟨i, j, by rw [r1.int, r2.int], hz, fun p n => f.tup (.cons (.int _) (.cons (.int _) .nil)) n⟩
    · cases e
theorem ok_sum (hc : X.calm = true) : CallR X (.builtin "sum") (rBi X.K .sum) := by
  refine CallR.imp (CallR.or (cr_sum (X := X) hc) (cr_sumT hc)) fun vs H Q h => ?_
  obtain ⟨A, ps, w, r, e, f⟩ := h
  match ps, e with
  | [x], e =>
    simp only [biD] at e
    obtain ⟨xs, e0, e⟩ := Option.bind_eq_some_iff.mp e
    obtain ⟨ns, e1, e2⟩ := Option.bind_eq_some_iff.mp e
    cases e2
    obtain ⟨v, rfl, r1⟩ := r.one
    obtain ⟨a, vs, rfl, h1, h2⟩ := r1.sqN e0
    rw [ints_rel h2 e1] at h1
    rcases h1 with h1 | h1
    · exact .inl ⟨a, ns, rfl, h1, f.int⟩
    · exact .inr ⟨a, ns, rfl, h1, f.int⟩
theorem ok_all (hc : X.calm = true) : CallR X (.builtin "all") (rBi X.K .all) := by
  refine CallR.imp (CallR.or (cr_all (X := X) hc) (cr_allT hc)) fun vs H Q h => ?_
  obtain ⟨A, ps, w, r, e, f⟩ := h
  match ps, e with
  | [x], e =>
    simp only [biD] at e
    obtain ⟨xs, e0, e⟩ := Option.bind_eq_some_iff.mp e
    obtain ⟨ns, e1, e2⟩ := Option.bind_eq_some_iff.mp e
    cases e2
    obtain ⟨v, rfl, r1⟩ := r.one
    obtain ⟨a, vs, rfl, h1, h2⟩ := r1.sqN e0
    rw [bls_rel h2 e1] at h1
    rcases h1 with h1 | h1
    · exact .inl ⟨a, ns, rfl, h1, f.bl⟩
    · exact .inr ⟨a, ns, rfl, h1, f.bl⟩
theorem ok_any (hc : X.calm = true) : CallR X (.builtin "any") (rBi X.K .any) := by
  refine CallR.imp (CallR.or (cr_any (X := X) hc) (cr_anyT hc)) fun vs H Q h => ?_
  obtain ⟨A, ps, w, r, e, f⟩ := h
  match ps, e with
  | [x], e =>
    simp only [biD] at e
    obtain ⟨xs, e0, e⟩ := Option.bind_eq_some_iff.mp e
    obtain ⟨ns, e1, e2⟩ := Option.bind_eq_some_iff.mp e
    cases e2
    obtain ⟨v, rfl, r1⟩ := r.one
    obtain ⟨a, vs, rfl, h1, h2⟩ := r1.sqN e0
    rw [bls_rel h2 e1] at h1
    rcases h1 with h1 | h1
    · exact .inl ⟨a, ns, rfl, h1, f.bl⟩
    · exact .inr ⟨a, ns, rfl, h1, f.bl⟩
theorem ok_abs : CallR X (.builtin "abs") (rBi X.K .abs) := by
  refine CallR.imp (call_abs (X := X)) fun vs H Q h => ?_
  obtain ⟨A, ps, w, r, e, f⟩ := h
  match ps, e with
  | [.int i], e =>
    cases e
    obtain ⟨v, rfl, r1⟩ := r.one
    exact ⟨i, by rw [r1.int], f.int⟩
/-! isinstance: the class is a built-in one -/
def tyN : D → String
  | .none => "NoneType" | .bool _ => "bool" | .int _ => "int" | .str _ => "str" | .list _ => "list" | .tuple _ => "tuple" | .dict _ => "dict"
theorem ty_of {p : D} {v : V} (r : RW K H A p v) : TyX K H v (.type (tyN p)) := by
  rcases r with r | ⟨a, vs, xs, rfl, rfl, h, _⟩
  · cases r with
    | non => exact .base .non
    | bl b => exact .base (.bl b)
    | int i => exact .base (.int i)
    | str x => exact .base (.str x)
    | tup h _ =>
      rcases h with ⟨h | ⟨o, h⟩, _⟩ | ⟨o, its, n, h, hc, _⟩
      · exact .base (.tup h)
      · exact .fTuple h
      · exact .kTuple h hc
    | lst h _ =>
      rcases h with ⟨h | ⟨o, h⟩, _⟩ | ⟨o, its, n, h, hc, _⟩
      · exact .base (.lst h)
      · exact .base (.frz h)
      · exact .kList h hc
    | dct h _ =>
      rcases h with ⟨h | ⟨o, h⟩, _⟩
      · exact .base (.dK h)
      · exact .fDict h
  · exact .base (.lst h)
def isiTy : Bi → Option String
  | .isInt => some "int" | .isBool => some "bool" | .isTuple => some "tuple" | .isStr => some "str" | .isList => some "list" | _ => none
theorem isi_kit : ∀ (f : Bi) (T : String) (p : D) (w : W), isiTy f = some T → biD f [p] = some w → ∃ b, w = .d (.bool b) ∧ kitB (tyN p) T = some b := by
  intro f T p w h e
  cases f <;> first
    | (cases h; done)
    | (cases h; cases p <;> first
        | (cases e; exact ⟨_, rfl, by simp only [tyN]; decide +kernel⟩))
end
end EV

namespace EV
open PySem PySem.Spec PyProof.Rows L2
/-! ### the text, by a look -/
/-- the names of the tables -/
structure Gam where
  G : List D
  F : List Fn
  gnm : List Str
  fnm : List Str
  fps : List (List Str)
  cnm : List Str
  kws : List (Nat × Nat × List Str × List Nat)
/-- a block of code: its slots' names, its scope, which cells are its own, the slots handed on to it -/
structure Cv where
  N : List Str
  sc : Scope
  st : Str → Bool
  io : List Nat
def nmOk (x : Str) : Bool := !(x == ("__debug__" : Str)) && !(x == ("__classdict__" : Str)) && !(x == ("__name__" : Str))
def isLocal : Option NameKind → Bool
  | some .local => true
  | _ => false
def isCell : Option NameKind → Bool
  | some .cell => true
  | _ => false
def isFree : Option NameKind → Bool
  | some .free => true
  | _ => false
def isGlob : Option NameKind → Bool
  | some .globalImplicit => true
  | _ => false
def visB (cv : Cv) (x : Str) : Bool := isLocal (cv.sc.names.lookup x) || isCell (cv.sc.names.lookup x) || isFree (cv.sc.names.lookup x)
def locB (cv : Cv) (x : Str) : Bool := isLocal (cv.sc.names.lookup x) || (isCell (cv.sc.names.lookup x) && cv.st x)
def glB (cv : Cv) (x : Str) : Bool := nmOk x && isGlob (cv.sc.names.lookup x)
def slB (cv : Cv) (i : Nat) (x : Str) : Bool := nmOk x && decide (cv.N[i]? = some x) && visB cv x
def stB (cv : Cv) (i : Nat) (x : Str) : Bool := decide (cv.N[i]? = some x) && locB cv x
def chkC : D → Const → Bool
  | .none, .none => true
  | .bool b, .bool c => b == c
  | .int i, .int j => i == j
  | .str x, .str y => decide (x = y)
  | _, _ => false
def bopB : Bop → Operator → Bool
  | .add, .Add => true | .sub, .Sub => true | .mul, .Mult => true | .mod, .Mod => true | .fdiv, .FloorDiv => true | .pow, .Pow => true | _, _ => false
def copB : Cop → CmpOp → Bool
  | .eq, .Eq => true | .ne, .NotEq => true | .lt, .Lt => true | .le, .LtE => true | .gt, .Gt => true | .ge, .GtE => true | .is, .Is => true | .isNot, .IsNot => true | .inn, .In => true | .notIn, .NotIn => true | _, _ => false
/-- a built-in's name, how many values, and whether it is a type -/
def biNm : Bi → Option (String × Bool)
  | .len => some ("len", false) | .tuple => some ("tuple", true) | .list => some ("list", true) | .min2 => some ("min", false) | .max2 => some ("max", false)
  | .min1 => some ("min", false) | .max1 => some ("max", false) | .all => some ("all", false) | .any => some ("any", false) | .sum => some ("sum", false) | .abs => some ("abs", false)
  | .sorted => some ("sorted", false) | .repr => some ("repr", false) | .divmod => some ("divmod", false) | .int => some ("int", true) | .str => some ("str", true) | _ => none
theorem bop_of {o : Bop} {p : Operator} (h : bopB o p = true) : p = pyBop o := by cases o <;> cases p <;> first | rfl | cases h
theorem cop_of {o : Cop} {p : CmpOp} (h : copB o p = true) : p = pyCop o := by cases o <;> cases p <;> first | rfl | cases h
theorem loc_some {o : Option NameKind} (h : isLocal o = true) : o = some .local := by
  rcases o with _ | (_ | _ | _ | _ | _) <;> first | rfl | cases h
theorem cell_some {o : Option NameKind} (h : isCell o = true) : o = some .cell := by
  rcases o with _ | (_ | _ | _ | _ | _) <;> first | rfl | cases h
theorem free_some {o : Option NameKind} (h : isFree o = true) : o = some .free := by
  rcases o with _ | (_ | _ | _ | _ | _) <;> first | rfl | cases h
theorem glob_some {o : Option NameKind} (h : isGlob o = true) : o = some .globalImplicit := by
  rcases o with _ | (_ | _ | _ | _ | _) <;> first | rfl | cases h
/-! ### a def, with room and no guards about -/
structure FnG (P : Program) (w : World) (K : PySem.W.Frag) (mg : Str → Option Value) (base : Heap) (k : Nat) (f : Addr) (fd : FuncData) (ps : List Str) (sp : Sp) : Prop where
  len : ∀ vs H Q E, sp vs H Q E → vs.length = ps.length
  run : ∀ (A : Around) (outer : List PySem.Env) (s : Shared) (H : Hp) (ar : Args) (us : List Value) (vs : List V) (Q : VK) (E : XK), Room k A → A.guards = some [] → Env0 P w K mg base A outer s H →
    BindsTo s fd ar (ps.zip us) → Vals vs us → sp vs H Q E → codeAny (model P w) A (.call (.ref f) ar) (L2.CR (L2.CX P w) outer P w H s Q E) s
/-- what the evaluator says of a def, as a promise -/
def spF (K : PySem.W.Frag) (Cl : Nat → Value) (Γ : Gam) (n f : Nat) : Sp := fun vs H Q E => ∃ (ws : List SV) (M B : AS), RF K H M B (ws.map some) (vs.map some) ∧
  (∃ fn ps, Γ.F[f]? = some fn ∧ Γ.fps[f]? = some ps ∧ vs.length = ps.length) ∧
  (match callF Γ.G Γ.F n f ws with
    | .ok w outs => ∀ v H' M', Stp M H M' H' → RF K H' M' B outs (vs.map some) → RT K H H' M' B outs (vs.map some) w v → Q v H'
    | .exc c outs => ∀ H' M', Stp M H M' H' → RF K H' M' B outs (vs.map some) → E (Cl c) none H'
    | .stuck => False)
/-- the world of a law's run -/
structure Wd where
  P : Program
  w : World
  K : PySem.W.Frag
  mg : Str → Option Value
  base : Heap
  Γ : Gam
  Cl : Nat → Value
def bltN : List String := ["len", "tuple", "list", "min", "max", "all", "any", "sum", "abs", "isinstance", "int", "bool", "str", "range", "zip", "enumerate", "sorted", "repr", "set", "dict", "divmod"]
/-- how a call with keywords binds -/
def KB (fd : FuncData) (ps : List Str) (n1 : Nat) (ks : List Str) (pm : List Nat) : Prop := ∀ us ws : List Value, us.length = n1 → ws.length = ks.length → bindArgs fd ⟨us, ks.zip ws⟩ = pure (ps.zip (permW pm (us ++ ws)))
/-- the tables are what the module holds -/
structure Wd.Ok (U : Wd) (n : Nat) : Prop where
  fn : ∀ (f : Nat) (x : Str), U.Γ.fnm[f]? = some x → ∃ (a : Addr) (fd : FuncData) (ps : List Str), U.Γ.fps[f]? = some ps ∧ FnG U.P U.w U.K U.mg U.base n a fd ps (spF U.K U.Cl U.Γ n f) ∧ U.mg x = some (.ref a) ∧ PySem.W.keepIn U.K (.ref a) = true ∧ Binds U.K fd ps []
  gl : ∀ (k : Nat) (x : Str) (d : D), U.Γ.gnm[k]? = some x → U.Γ.G[k]? = some d → ∃ (u : Value) (v : V), U.mg x = some u ∧ RelV v u ∧ ∀ H A, RD U.K H A d v
  bl : ∀ x : String, x ∈ bltN → U.mg (Str.ofString x) = none
  np : ∀ (f : Nat) (fn : Fn) (ps : List Str), U.Γ.F[f]? = some fn → U.Γ.fps[f]? = some ps → fn.np = ps.length
  kw : ∀ (f n1 : Nat) (ks : List Str) (pm : List Nat) (x : Str), (f, n1, ks, pm) ∈ U.Γ.kws → U.Γ.fnm[f]? = some x → ∃ (a : Addr) (fd : FuncData) (ps : List Str), U.Γ.fps[f]? = some ps ∧ FnG U.P U.w U.K U.mg U.base n a fd ps (spF U.K U.Cl U.Γ n f) ∧ U.mg x = some (.ref a) ∧ PySem.W.keepIn U.K (.ref a) = true ∧ KB fd ps n1 ks pm
structure Fit (U : Wd) (n : Nat) (cv : Cv) (X : Cx) : Prop where
  P : X.prog = U.P
  w : X.w = U.w
  K : X.K = U.K
  mg : X.mg = U.mg
  base : X.base = U.base
  N : X.N = cv.N
  nd : X.N.Nodup
  sc : X.env.scope = cv.sc
  st : ∀ x, cv.st x = true → X.fn x = true
  calm : X.calm = true
  room : Room n X.A
  guards : X.A.guards = some []
section
variable {U : Wd} {n : Nat} {cv : Cv} {X : Cx}
theorem Fit.vis (h : Fit U n cv X) {x : Str} (e : visB cv x = true) : Vis X.env.scope x := by
  rw [h.sc]
  unfold visB at e
  rw [Bool.or_eq_true, Bool.or_eq_true] at e
  rcases e with (e | e) | e
  · exact .inl (loc_some e)
  · exact .inr (.inl (cell_some e))
  · exact .inr (.inr (free_some e))
theorem Fit.loc (h : Fit U n cv X) {x : Str} (e : locB cv x = true) : Loc X.env.scope x ∧ (X.fn x = true ∨ X.env.scope.names.lookup x = some .local) := by
  rw [h.sc]
  unfold locB at e
  rw [Bool.or_eq_true, Bool.and_eq_true] at e
  rcases e with e | ⟨e, e2⟩
  · exact ⟨.inl (loc_some e), .inr (loc_some e)⟩
  · exact ⟨.inr (cell_some e), .inl (h.st x e2)⟩
theorem nm_ok {x : Str} (e : nmOk x = true) : (x == ("__debug__" : Str)) = false ∧ (x == ("__classdict__" : Str)) = false ∧ x ≠ "__name__" := by
  unfold nmOk at e
  simp only [Bool.and_eq_true, Bool.not_eq_true'] at e
  exact ⟨e.1.1, e.1.2, fun z => by rw [z] at e; simp at e⟩
theorem Fit.gl (h : Fit U n cv X) {x : Str} (e : glB cv x = true) : Gl X x ∧ (x == ("__debug__" : Str)) = false ∧ x ≠ "__name__" := by
  unfold glB at e
  rw [Bool.and_eq_true] at e
  obtain ⟨e1, e2⟩ := e
  obtain ⟨h1, h2, h3⟩ := nm_ok e1
  refine ⟨?_, h1, h3⟩
  show X.env.scope.names.lookup x = _
  rw [h.sc]
  exact glob_some e2
end
/-! ### the evaluator's readings -/
def TEv (U : Wd) (n : Nat) (Wx : WX) (e : Ex) : TE := fun σ H Q => ∃ s M B, RF U.K H M B s σ ∧ OKE U.K U.Cl Wx σ H M B (evE U.Γ.G (callF U.Γ.G U.Γ.F n) e s) Q
def TTv (U : Wd) (n : Nat) (Wx : WX) (e : Ex) : TT := fun σ H Q => ∃ s M B, RF U.K H M B s σ ∧ OKX (fun H' _ _ b => Q b H') U.K U.Cl Wx σ H M B (evE U.Γ.G (callF U.Γ.G U.Γ.F n) e s).tst
/-- values on the way, one by one -/
inductive RHs (K : PySem.W.Frag) (H : Hp) (A : AS) (σ : VS) : List W → List V → Prop
  | nil : RHs K H A σ [] []
  | cons {w : W} {v : V} {ws : List W} {vs : List V} : RH K H A σ w v → RHs K H A σ ws vs → RHs K H A σ (w :: ws) (v :: vs)
/-- a list of values has come -/
def OKs (K : PySem.W.Frag) (Cl : Nat → Value) (Wx : WX) (σ : VS) (H : Hp) (M B : AS) (r : R (List W)) (Q : List V → Hp → Prop) : Prop := match r with
  | .ok ws s' => ∀ vs H' M', Stp M H M' H' → RF K H' M' B s' σ → RHs K H' (Av M' B) σ ws vs → Q vs H'
  | .exc c s' => ∀ H' M', Stp M H M' H' → RF K H' M' B s' σ → Wx (Cl c) none σ H'
  | .stuck => False
def TAv (U : Wd) (n : Nat) (Wx : WX) (as : Exs) : TA := fun σ H Q => ∃ s M B, RF U.K H M B s σ ∧ OKs U.K U.Cl Wx σ H M B (evEs U.Γ.G (callF U.Γ.G U.Γ.F n) as s) Q
theorem PE.imp {X : Cx} {e : Expr} {t t' : TE} (h : PE X e t) (i : ∀ σ H Q, t' σ H Q → t σ H Q) : PE X e t' := ⟨fun pins s σ H Q I q => h.run pins s σ H Q I (i σ H Q q)⟩
theorem PT.imp {X : Cx} {e : Expr} {t t' : TT} (h : PT X e t) (i : ∀ σ H Q, t' σ H Q → t σ H Q) : PT X e t' := ⟨fun pins s σ H Q I q => h.run pins s σ H Q I (i σ H Q q)⟩
theorem PW.imp {X : Cx} {e : Expr} {t t' : TT} (h : PW X e t) (i : ∀ σ H Q, t' σ H Q → t σ H Q) : PW X e t' := ⟨fun wh pins s σ H Q I q => h.run wh pins s σ H Q I (i σ H Q q)⟩
theorem PA.imp {X : Cx} {e : List Expr} {t t' : TA} (h : PA X e t) (i : ∀ σ H Q, t' σ H Q → t σ H Q) : PA X e t' := ⟨fun po pins s σ H Q I q => h.run po pins s σ H Q I (i σ H Q q)⟩
section
variable {K : PySem.W.Frag} {Cl : Nat → Value} {Wx : WX} {σ : VS} {H H' : Hp} {M M' B : AS} {s : Sl}
theorem RHs.step (t : Stp M H M' H') (lv : ∀ a, B a → H a ≠ none) : ∀ {ws : List W} {vs : List V}, RHs K H (Av M B) σ ws vs → RHs K H' (Av M' B) σ ws vs
  | _, _, .nil => .nil
  | _, _, .cons r q => .cons (r.step t lv) (RHs.step t lv q)
theorem OKs.later {r : R (List W)} {Q : List V → Hp → Prop} (t : Stp M H M' H') (h : OKs K Cl Wx σ H M B r Q) : OKs K Cl Wx σ H' M' B r Q := by
  cases r with
  | ok w s' => exact fun v H2 M2 t2 f rt => h v H2 M2 (t.trans t2) f rt
  | exc c s' => exact fun H2 M2 t2 f => h H2 M2 (t.trans t2) f
  | stuck => exact h
theorem OKs.bind {r : R (List W)} {f : List W → Sl → R W} {Q : VK} {P : List V → Hp → Prop} (h : OKE K Cl Wx σ H M B (r.bind f) Q)
    (hp : ∀ ws s' vs H' M', Stp M H M' H' → RF K H' M' B s' σ → RHs K H' (Av M' B) σ ws vs → OKE K Cl Wx σ H' M' B (f ws s') Q → P vs H') : OKs K Cl Wx σ H M B r P := by
  cases r with
  | ok w s' => exact fun v H2 M2 t2 f rt => hp w s' v H2 M2 t2 f rt (OKE.later t2 h)
  | exc c s' => exact h
  | stuck => exact h
theorem RHs.dens (f : RF K H M B s σ) : ∀ {ws : List W} {vs : List V} {xs : List D}, RHs K H (Av M B) σ ws vs → dens s ws = some xs → RWs K H (Av M B) xs vs
  | [], _, xs, .nil, e => by cases e; exact .nil
  | w :: ws, _, xs, .cons r q, e => by
    simp only [EV.dens] at e
    obtain ⟨x, e1, e⟩ := Option.bind_eq_some_iff.mp e
    obtain ⟨ys, e2, e⟩ := Option.bind_eq_some_iff.mp e
    cases e
    exact .cons (r.den f e1) (RHs.dens f q e2)
theorem RHs.keeps : ∀ {ws : List W} {vs : List V} {xs : List D}, RHs K H (Av M B) σ ws vs → keeps ws = some xs → RDs K H (Av M B) xs vs
  | [], _, xs, .nil, e => by cases e; exact .nil
  | w :: ws, _, xs, .cons r q, e => by
    simp only [EV.keeps] at e
    obtain ⟨x, e1, e⟩ := Option.bind_eq_some_iff.mp e
    obtain ⟨ys, e2, e⟩ := Option.bind_eq_some_iff.mp e
    cases e
    exact .cons (r.keep e1) (RHs.keeps q e2)
end
section
variable {U : Wd} {n : Nat} {cv : Cv} {X : Cx} {Wx : WX} {pos : Pos}
/-! names, constants -/
theorem s_v (h : Fit U n cv X) {i : Nat} {x : Str} (c : slB cv i x = true) : PE X (.Name x pos) (TEv U n Wx (.v i)) := by
  unfold slB at c
  simp only [Bool.and_eq_true, decide_eq_true_eq] at c
  obtain ⟨⟨c1, c2⟩, c3⟩ := c
  obtain ⟨n1, n2, _⟩ := nm_ok c1
  refine PE.imp (pe_var (i := i) (by rw [h.N]; exact c2) (h.vis c3) n1 n2) fun σ H Q ⟨s, M, B, f, q⟩ => ?_
  simp only [evE] at q
  split at q
  · rename_i y e
    obtain ⟨v, h1, h2⟩ := f.dat i y e
    exact ⟨v, h1, q.flat f h2⟩
  · rename_i ys e
    obtain ⟨a, vs, h1, h2, h3, h4⟩ := f.own i ys e
    exact ⟨_, h1, q.now f h1⟩
  · exact q.elim
theorem RF.frz {K : PySem.W.Frag} {H : Hp} {M B : AS} {s : Sl} {σ : VS} {i : Nat} {xs : List D} {a : Addr} (f : RF K H M B s σ) (e : s[i]? = some (some (.own xs))) (ea : σ[i]? = some (some (.ref a))) :
    RF K H (fun b => M b ∧ b ≠ a) B (s.set i (some (.d (.list xs)))) σ := by
  obtain ⟨a', vs, h1, h2, h3, h4⟩ := f.own i xs e
  rw [ea] at h1
  cases h1
  have hl : i < s.length := (List.getElem?_eq_some_iff.mp e).1
  have less : ∀ b, (M b ∧ b ≠ a) ∨ B b → M b ∨ B b := fun b z => z.imp (·.1) id
  refine ⟨by rw [List.length_set]; exact f.len, fun j x q => ?_, fun j ys q => ?_, fun j k b ys zs hjk q1 q2 q3 q4 => ?_, fun b z => f.liv b (less b z), fun b z1 z2 => f.dis b z1.1 z2⟩
  · by_cases hj : i = j
    · subst hj
      rw [List.getElem?_set_self hl] at q
      cases q
      exact ⟨_, ea, .lst (.inl ⟨.inl h3, fun z => z.elim (fun z => z.2 rfl) (f.dis _ h2)⟩) (h4.less less)⟩
    · rw [List.getElem?_set_ne hj] at q
      obtain ⟨v, q1, q2⟩ := f.dat j x q
      exact ⟨v, q1, q2.less less⟩
  · by_cases hj : i = j
    · subst hj
      rw [List.getElem?_set_self hl] at q
      cases q
    · rw [List.getElem?_set_ne hj] at q
      obtain ⟨b, ws, q1, q2, q3, q4⟩ := f.own j ys q
      exact ⟨b, ws, q1, ⟨q2, fun z => f.sep i j a xs ys hj e q ea (by rw [q1, z])⟩, q3, q4.less less⟩
  · by_cases hj : i = j
    · subst hj
      rw [List.getElem?_set_self hl] at q1
      cases q1
    · by_cases hk : i = k
      · subst hk
        rw [List.getElem?_set_self hl] at q2
        cases q2
      · rw [List.getElem?_set_ne hj] at q1
        rw [List.getElem?_set_ne hk] at q2
        exact f.sep j k b ys zs hjk q1 q2 q3 q4
theorem s_fz (h : Fit U n cv X) {i : Nat} {x : Str} (c : slB cv i x = true) : PE X (.Name x pos) (TEv U n Wx (.fz i)) := by
  unfold slB at c
  simp only [Bool.and_eq_true, decide_eq_true_eq] at c
  obtain ⟨⟨c1, c2⟩, c3⟩ := c
  obtain ⟨n1, n2, _⟩ := nm_ok c1
  refine PE.imp (pe_var (i := i) (by rw [h.N]; exact c2) (h.vis c3) n1 n2) fun σ H Q ⟨s, M, B, f, q⟩ => ?_
  simp only [evE] at q
  split at q
  · rename_i xs e
    obtain ⟨a, vs, h1, h2, h3, h4⟩ := f.own i xs e
    have f2 := f.frz e h1
    have hl : i < s.length := (List.getElem?_eq_some_iff.mp e).1
    obtain ⟨v, q1, q2⟩ := f2.dat i (.list xs) (List.getElem?_set_self hl)
    rw [h1] at q1
    cases q1
    exact ⟨_, h1, q _ H (fun b => M b ∧ b ≠ a) ⟨fun _ _ _ e => e, fun _ e => e, fun _ z => .inl z.1⟩ f2 q2⟩
  · rename_i y e
    obtain ⟨v, h1, h2⟩ := f.dat i y e
    exact ⟨v, h1, q.flat f h2⟩
  · exact q.elim
theorem s_io (h : Fit U n cv X) {i : Nat} {x : Str} (c : slB cv i x = true) : PE X (.Name x pos) (TEv U n Wx (.io i)) := by
  unfold slB at c
  simp only [Bool.and_eq_true, decide_eq_true_eq] at c
  obtain ⟨⟨c1, c2⟩, c3⟩ := c
  obtain ⟨n1, n2, _⟩ := nm_ok c1
  refine PE.imp (pe_var (i := i) (by rw [h.N]; exact c2) (h.vis c3) n1 n2) fun σ H Q ⟨s, M, B, f, q⟩ => ?_
  simp only [evE] at q
  split at q
  · rename_i xs e
    obtain ⟨a, vs, h1, h2, h3, h4⟩ := f.own i xs e
    exact ⟨_, h1, q.now f h1⟩
  · exact q.elim
theorem s_c {x : D} {k : Const} {j : Nat} (c : chkC x k = true) : PE X (.Constant k j pos) (TEv U n Wx (.c x)) := by
  cases x <;> cases k <;> first
    | (cases c; done)
    | skip
  · exact PE.imp pe_non fun σ H Q ⟨s, M, B, f, q⟩ => q.flat f .non
  · have e := beq_iff_eq.mp c
    subst e
    exact PE.imp pe_bl fun σ H Q ⟨s, M, B, f, q⟩ => q.flat f (.bl _)
  · have e := beq_iff_eq.mp c
    subst e
    exact PE.imp pe_int fun σ H Q ⟨s, M, B, f, q⟩ => q.flat f (.int _)
  · have e := of_decide_eq_true c
    subst e
    exact PE.imp pe_str fun σ H Q ⟨s, M, B, f, q⟩ => q.flat f (.str _)
theorem s_g (W : U.Ok n) (h : Fit U n cv X) {k : Nat} {x : Str} (c : glB cv x = true) (c2 : U.Γ.gnm[k]? = some x) : PE X (.Name x pos) (TEv U n Wx (.g k)) := by
  obtain ⟨g1, g2, _⟩ := h.gl c
  cases e : U.Γ.G[k]? with
  | none =>
    refine ⟨fun pins s σ H Q I ⟨s', M, B, f, q⟩ => ?_⟩
    simp only [evE, e] at q
    exact q.elim
  | some d =>
    obtain ⟨u, v, h1, h2, h3⟩ := W.gl k x d c2 e
    refine PE.imp (pe_glob g1 (by rw [h.mg]; exact h1) h2 g2) fun σ H Q ⟨s, M, B, f, q⟩ => ?_
    simp only [evE, e] at q
    exact q.flat f (h3 _ _)
/-! operators -/
variable {a b c : Ex} {l r t : Expr}
theorem s_bin {op : Bop} (h : Fit U n cv X) (ha : PE X l (TEv U n Wx a)) (hb : PE X r (TEv U n Wx b)) : PE X (.BinOp l (pyBop op) r pos) (TEv U n Wx (.bin op a b)) := by
  refine PE.imp (pe_op (ok_bin op) ha hb) fun σ H Q ⟨s, M, B, f, q⟩ => ?_
  simp only [evE] at q
  refine ⟨s, M, B, f, q.bind fun w1 s1 v1 H1 M1 t1 f1 r1 q1 => ⟨s1, M1, B, f1, q1.bind fun w2 s2 v2 H2 M2 t2 f2 r2 q2 => ?_⟩⟩
  obtain ⟨w, e, q3⟩ := q2.of
  obtain ⟨x, e1, e⟩ := Option.bind_eq_some_iff.mp e
  obtain ⟨y, e2, e⟩ := Option.bind_eq_some_iff.mp e
  rw [h.K]
  exact ⟨Av M2 B, x, y, w, (r1.step t2 fun b z => f1.liv b (.inr z)).den f2 e1, r2.den f2 e2, e, M2, B, s2, σ, U.Cl, Wx, rfl, f2, q3⟩
theorem s_cmp {op : Cop} (h : Fit U n cv X) (hm : behindInMarks (pyCop op) r = false) (ha : PE X l (TEv U n Wx a)) (hb : PE X r (TEv U n Wx b)) : PE X (.Compare l [pyCop op] [r] pos) (TEv U n Wx (.cmp op a b)) := by
  refine PE.imp (pe_cmpR (ok_cmp h.room.units op) ha hb hm) fun σ H Q ⟨s, M, B, f, q⟩ => ?_
  simp only [evE] at q
  refine ⟨s, M, B, f, q.bind fun w1 s1 v1 H1 M1 t1 f1 r1 q1 => ⟨s1, M1, B, f1, q1.bind fun w2 s2 v2 H2 M2 t2 f2 r2 q2 => ?_⟩⟩
  obtain ⟨w, e, q3⟩ := q2.of
  obtain ⟨x, e1, e⟩ := Option.bind_eq_some_iff.mp e
  obtain ⟨y, e2, e⟩ := Option.bind_eq_some_iff.mp e
  rw [h.K]
  exact ⟨Av M2 B, x, y, w, (r1.step t2 fun b z => f1.liv b (.inr z)).den f2 e1, r2.den f2 e2, e, M2, B, s2, σ, U.Cl, Wx, rfl, f2, q3⟩
theorem s_idx (h : Fit U n cv X) (hp : PlainIx r) (ha : PE X l (TEv U n Wx a)) (hb : PE X r (TEv U n Wx b)) : PE X (.Subscript l r pos) (TEv U n Wx (.idx a b)) := by
  refine PE.imp (pe_ix ok_idx ha hb hp) fun σ H Q ⟨s, M, B, f, q⟩ => ?_
  simp only [evE] at q
  refine ⟨s, M, B, f, q.bind fun w1 s1 v1 H1 M1 t1 f1 r1 q1 => ⟨s1, M1, B, f1, q1.bind fun w2 s2 v2 H2 M2 t2 f2 r2 q2 => ?_⟩⟩
  obtain ⟨w, e, q3⟩ := q2.of
  obtain ⟨x, e1, e⟩ := Option.bind_eq_some_iff.mp e
  obtain ⟨y, e2, e⟩ := Option.bind_eq_some_iff.mp e
  rw [h.K]
  exact ⟨Av M2 B, x, y, w, (r1.step t2 fun b z => f1.liv b (.inr z)).den f2 e1, r2.den f2 e2, e, M2, B, s2, σ, U.Cl, Wx, rfl, f2, q3⟩
end
end EV

namespace EV
open PySem PySem.Spec PyProof.Rows L2
theorem tru_rel {K : PySem.W.Frag} {H : Hp} {A : AS} {x : D} {v : V} {k : Bool} (r : RW K H A x v) (e : truD x = some k) : TruV K v H k := by
  cases x <;> first
    | (cases e; done)
    | skip
  · cases e; rw [r.non]; exact rfl
  · cases e; rw [r.bl]; exact rfl
  · cases e; rw [r.int]; exact rfl
  · cases e
    obtain ⟨a, vs, rfl, h1, h2⟩ := r.lst
    exact .inl ⟨vs, h1, by cases h2 <;> rfl⟩
  · cases e
    obtain ⟨a, vs, rfl, h1, h2⟩ := r.tup
    exact .inr (.inl ⟨vs, RD.sqT h1, by cases h2 <;> rfl⟩)
theorem R.tst_eq (r : R W) : r.tst = r.bind fun x s1 => R.of s1 ((den s1 x).bind truD) := rfl
theorem OKX.of {α : Type} {T : Hp → AS → Sl → α → Prop} {K : PySem.W.Frag} {Cl : Nat → Value} {Wx : WX} {σ : VS} {H : Hp} {M B : AS} {s : Sl} {o : Option α} (h : OKX T K Cl Wx σ H M B (R.of s o)) (f : RF K H M B s σ) : ∃ x, o = some x ∧ T H M s x := by
  cases o with
  | none => exact h.elim
  | some x => exact ⟨x, rfl, h H M (Stp.refl _ _) f⟩
section
variable {U : Wd} {n : Nat} {cv : Cv} {X : Cx} {Wx : WX} {pos : Pos} {a b c : Ex} {l r t : Expr}
/-- an expression as a test, by its value's truth -/
theorem t_val (h : Fit U n cv X) (ha : PE X l (TEv U n Wx a)) (he : ∀ whole, isTrue l X.env whole = (do let v ← whole; standAt l.pos; holding [v] (truthy v))) : PT X l (TTv U n Wx a) := by
  refine PT.imp (pt_truth ha he) fun σ H Q ⟨s, M, B, f, q⟩ => ⟨s, M, B, f, ?_⟩
  rw [R.tst_eq] at q
  refine OKE.bindX q fun w s1 v H1 M1 t1 f1 r1 q1 => ?_
  obtain ⟨k, e, q2⟩ := q1.of f1
  obtain ⟨x, e1, e⟩ := Option.bind_eq_some_iff.mp e
  rw [h.K]
  exact ⟨k, tru_rel (r1.den f1 e1) e, q2⟩
theorem t_of_bool {r : R W} {K : PySem.W.Frag} {Cl : Nat → Value} {σ : VS} {H : Hp} {M B : AS} {Q : Bool → Hp → Prop} (h : OKX (fun H' _ _ b => Q b H') K Cl Wx σ H M B r.tst) (hb : ∀ w s, r = .ok w s → ∃ k, w = .d (.bool k)) :
    OKE K Cl Wx σ H M B r fun v H' => ∃ k, v = .bl k ∧ Q k H' := by
  rw [R.tst_eq] at h
  cases r with
  | exc c s => exact h
  | stuck => exact h
  | ok w s =>
    obtain ⟨k, rfl⟩ := hb w s rfl
    intro v H' M' t f rt
    have q : Q k H' := h H' M' t f
    cases (show RD _ _ _ _ _ from rt)
    exact ⟨k, rfl, q⟩
theorem s_neg (h : Fit U n cv X) (ha : PE X l (TEv U n Wx a)) : PE X (.UnaryOp .USub l pos) (TEv U n Wx (.neg a)) := by
  refine PE.imp (pe_un un_neg ha) fun σ H Q ⟨s, M, B, f, q⟩ => ?_
  simp only [evE] at q
  refine ⟨s, M, B, f, q.bind fun w1 s1 v1 H1 M1 t1 f1 r1 q1 => ?_⟩
  split at q1
  · rename_i i e
    exact ⟨i, (r1.den f1 e).int, q1.flat f1 (.int _)⟩
  · exact q1.elim
theorem s_not (h : Fit U n cv X) (ha : PE X l (TEv U n Wx a)) : PE X (.UnaryOp .Not l pos) (TEv U n Wx (.nott a)) := by
  refine PE.imp (pe_notT ha) fun σ H Q ⟨s, M, B, f, q⟩ => ?_
  simp only [evE] at q
  refine ⟨s, M, B, f, ?_⟩
  have q' : OKE U.K U.Cl Wx σ H M B ((evE U.Γ.G (callF U.Γ.G U.Γ.F n) a s).bind fun x s1 => (R.of s1 ((den s1 x).bind truD)).bind fun b s1 => .ok (.d (.bool !b)) s1) Q := by
    cases e : evE U.Γ.G (callF U.Γ.G U.Γ.F n) a s with
    | ok w s' => rw [e] at q; exact q
    | exc c s' => rw [e] at q; exact q
    | stuck => rw [e] at q; exact q
  refine q'.bind fun w1 s1 v1 H1 M1 t1 f1 r1 q1 => ?_
  cases e : (den s1 w1).bind truD with
  | none => rw [e] at q1; exact q1.elim
  | some k =>
    rw [e] at q1
    obtain ⟨x, e1, e2⟩ := Option.bind_eq_some_iff.mp e
    rw [h.K]
    exact ⟨k, tru_rel (r1.den f1 e1) e2, OKE.flat q1 f1 (.bl _)⟩
theorem t_not (h : Fit U n cv X) (ha : PT X l (TTv U n Wx a)) : PT X (.UnaryOp .Not l pos) (TTv U n Wx (.nott a)) := by
  refine PT.imp (pt_not ha) fun σ H Q ⟨s, M, B, f, q⟩ => ⟨s, M, B, f, ?_⟩
  simp only [evE] at q
  cases e : (evE U.Γ.G (callF U.Γ.G U.Γ.F n) a s).tst with
  | ok w s' => rw [e] at q; exact q
  | exc c s' => rw [e] at q; exact q
  | stuck => rw [e] at q; exact q
theorem s_ite (h : Fit U n cv X) (hc : PT X t (TTv U n Wx c)) (ha : PE X l (TEv U n Wx a)) (hb : PE X r (TEv U n Wx b)) : PE X (.IfExp t l r pos) (TEv U n Wx (.ite c a b)) := by
  refine PE.imp (pe_ifExp hc ha hb) fun σ H Q ⟨s, M, B, f, q⟩ => ⟨s, M, B, f, ?_⟩
  simp only [evE] at q
  refine OKX.bind q fun k s1 H1 M1 t1 f1 q1 => ?_
  cases k with
  | true => exact iteT ⟨s1, M1, B, f1, q1⟩
  | false => exact iteF ⟨s1, M1, B, f1, q1⟩
theorem t_ite (h : Fit U n cv X) (hc : PT X t (TTv U n Wx c)) (ha : PT X l (TTv U n Wx a)) (hb : PT X r (TTv U n Wx b)) : PT X (.IfExp t l r pos) (TTv U n Wx (.ite c a b)) := by
  refine ⟨fun pins s σ H Q I ⟨s0, M, B, f, q⟩ => isTrue_IfExp (thn (hc.run pins s σ H (fun k H1 => if k = true then TTv U n Wx a σ H1 Q else TTv U n Wx b σ H1 Q) I ⟨s0, M, B, f, ?_⟩) fun k s1 ⟨H1, I1, q1⟩ => ?_)⟩
  · simp only [evE] at q
    cases e : (evE U.Γ.G (callF U.Γ.G U.Γ.F n) c s0).tst with
    | ok k s' =>
      rw [e] at q
      intro H' M' t f'
      cases k with
      | true => exact iteT ⟨s', M', B, f', OKX.later t q⟩
      | false => exact iteF ⟨s', M', B, f', OKX.later t q⟩
    | exc c s' => rw [e] at q; exact q
    | stuck => rw [e] at q; exact q
  · cases k with
    | true => exact ha.run pins s1 σ H1 Q I1 q1
    | false => exact hb.run pins s1 σ H1 Q I1 q1
theorem cmp_bool {op : Cop} {s s' : Sl} {w : W} (e : evE U.Γ.G (callF U.Γ.G U.Γ.F n) (.cmp op a b) s = .ok w s') : ∃ k, w = .d (.bool k) := by
  simp only [evE] at e
  cases e1 : evE U.Γ.G (callF U.Γ.G U.Γ.F n) a s with
  | exc c s1 => rw [e1] at e; cases e
  | stuck => rw [e1] at e; cases e
  | ok w1 s1 =>
    rw [e1] at e
    simp only [R.bind] at e
    cases e2 : evE U.Γ.G (callF U.Γ.G U.Γ.F n) b s1 with
    | exc c s2 => rw [e2] at e; cases e
    | stuck => rw [e2] at e; cases e
    | ok w2 s2 =>
      rw [e2] at e
      simp only [] at e
      cases e3 : ((den s2 w1).bind fun p => (den s2 w2).bind fun q => (cmpD op p q).map fun r => W.d (.bool r)) with
      | none => rw [e3] at e; cases e
      | some w3 =>
        rw [e3] at e
        cases e
        obtain ⟨x, _, e4⟩ := Option.bind_eq_some_iff.mp e3
        obtain ⟨y, _, e5⟩ := Option.bind_eq_some_iff.mp e4
        obtain ⟨k, _, rfl⟩ := Option.map_eq_some_iff.mp e5
        exact ⟨k, rfl⟩
theorem t_cmp {op : Cop} (h : Fit U n cv X) (hm : behindInMarks (pyCop op) r = false) (ha : PE X l (TEv U n Wx a)) (hb : PE X r (TEv U n Wx b)) : PT X (.Compare l [pyCop op] [r] pos) (TTv U n Wx (.cmp op a b)) := by
  refine PT.imp (pt_cmpR (ok_cmp h.room.units op) ha hb hm) fun σ H Q ⟨s, M, B, f, q⟩ => ?_
  have q := t_of_bool q fun w s' e => cmp_bool e
  simp only [evE] at q
  refine ⟨s, M, B, f, q.bind fun w1 s1 v1 H1 M1 t1 f1 r1 q1 => ⟨s1, M1, B, f1, q1.bind fun w2 s2 v2 H2 M2 t2 f2 r2 q2 => ?_⟩⟩
  obtain ⟨w, e, q3⟩ := q2.of
  obtain ⟨x, e1, e⟩ := Option.bind_eq_some_iff.mp e
  obtain ⟨y, e2, e⟩ := Option.bind_eq_some_iff.mp e
  rw [h.K]
  exact ⟨Av M2 B, x, y, w, (r1.step t2 fun b z => f1.liv b (.inr z)).den f2 e1, r2.den f2 e2, e, M2, B, s2, σ, U.Cl, Wx, rfl, f2, q3⟩
/-- a < b < c -/
theorem chain_read {op op' : Cop} (h : Fit U n cv X) {σ : VS} {H : Hp} {Q : VK} (q : TEv U n Wx (.chain op op' a b c) σ H Q) :
    tChain (r2D X.K fun p q => (cmpD op p q).map fun r => .d (.bool r)) (r2D X.K fun p q => (cmpD op' p q).map fun r => .d (.bool r)) (TEv U n Wx a) (TEv U n Wx b) (TEv U n Wx c) σ H Q := by
  obtain ⟨s, M, B, f, q⟩ := q
  simp only [evE] at q
  refine ⟨s, M, B, f, q.bind fun w1 s1 v1 H1 M1 t1 f1 r1 q1 => ⟨s1, M1, B, f1, q1.bind fun w2 s2 v2 H2 M2 t2 f2 r2 q2 => ?_⟩⟩
  cases e : ((den s2 w1).bind fun p => (den s2 w2).bind fun q => cmpD op p q) with
  | none => rw [e] at q2; exact q2.elim
  | some k =>
    rw [e] at q2
    obtain ⟨x, e1, e3⟩ := Option.bind_eq_some_iff.mp e
    obtain ⟨y, e2, e4⟩ := Option.bind_eq_some_iff.mp e3
    rw [h.K]
    refine ⟨Av M2 B, x, y, .d (.bool k), (r1.step t2 fun b z => f1.liv b (.inr z)).den f2 e1, r2.den f2 e2, by show (cmpD op x y).map _ = _; rw [e4]; rfl, M2, B, s2, σ, U.Cl, Wx, rfl, f2, fun v H3 M3 t3 f3 rt => ?_⟩
    cases (show RD _ _ _ _ _ from rt)
    refine ⟨k, rfl, ?_⟩
    have q3 := OKE.later t3 q2
    cases k with
    | false => exact iteF (OKE.flat (by simpa [R.of, R.bind] using q3) f3 (.bl false))
    | true =>
      refine iteT ⟨s2, M3, B, f3, OKE.bind (by simpa [R.of, R.bind] using q3) fun w4 s4 v4 H4 M4 t4 f4 r4 q4 => ?_⟩
      obtain ⟨w, e5, q5⟩ := q4.of
      obtain ⟨y', e6, e7⟩ := Option.bind_eq_some_iff.mp e5
      obtain ⟨z', e8, e9⟩ := Option.bind_eq_some_iff.mp e7
      exact ⟨Av M4 B, y', z', w, (r2.step (t3.trans t4) fun b z => f2.liv b (.inr z)).den f4 e6, r4.den f4 e8, e9, M4, B, s4, σ, U.Cl, Wx, rfl, f4, q5⟩
theorem s_chain {op op' : Cop} (h : Fit U n cv X) (hm : lastMarks [pyCop op, pyCop op'] [r, t] = false) (ha : PE X l (TEv U n Wx a)) (hb : PE X r (TEv U n Wx b)) (hc : PE X t (TEv U n Wx c)) :
    PE X (.Compare l [pyCop op, pyCop op'] [r, t] pos) (TEv U n Wx (.chain op op' a b c)) :=
  PE.imp (pe_chain (ok_cmp h.room.units op) (ok_cmp h.room.units op') ha hb hc hm) fun σ H Q q => chain_read h q
theorem chain_bool {op op' : Cop} {s s' : Sl} {w : W} (e : evE U.Γ.G (callF U.Γ.G U.Γ.F n) (.chain op op' a b c) s = .ok w s') : ∃ k, w = .d (.bool k) := by
  simp only [evE] at e
  cases e1 : evE U.Γ.G (callF U.Γ.G U.Γ.F n) a s with
  | exc c s1 => rw [e1] at e; cases e
  | stuck => rw [e1] at e; cases e
  | ok w1 s1 =>
    rw [e1] at e
    simp only [R.bind] at e
    cases e2 : evE U.Γ.G (callF U.Γ.G U.Γ.F n) b s1 with
    | exc c s2 => rw [e2] at e; cases e
    | stuck => rw [e2] at e; cases e
    | ok w2 s2 =>
      rw [e2] at e
      simp only [] at e
      cases e3 : ((den s2 w1).bind fun p => (den s2 w2).bind fun q => cmpD op p q) with
      | none => rw [e3] at e; cases e
      | some k =>
        rw [e3] at e
        simp only [R.of] at e
        cases k with
        | false => cases e; exact ⟨_, rfl⟩
        | true =>
          simp only [if_true] at e
          cases e4 : evE U.Γ.G (callF U.Γ.G U.Γ.F n) c s2 with
          | exc c s2 => rw [e4] at e; cases e
          | stuck => rw [e4] at e; cases e
          | ok w4 s4 =>
            rw [e4] at e
            simp only [] at e
            cases e5 : ((den s4 w2).bind fun p => (den s4 w4).bind fun q => (cmpD op' p q).map fun r => W.d (.bool r)) with
            | none => rw [e5] at e; cases e
            | some w3 =>
              rw [e5] at e
              cases e
              obtain ⟨x, _, e6⟩ := Option.bind_eq_some_iff.mp e5
              obtain ⟨y, _, e7⟩ := Option.bind_eq_some_iff.mp e6
              obtain ⟨k, _, rfl⟩ := Option.map_eq_some_iff.mp e7
              exact ⟨k, rfl⟩
theorem t_chain {op op' : Cop} (h : Fit U n cv X) (hm : lastMarks [pyCop op, pyCop op'] [r, t] = false) (ha : PE X l (TEv U n Wx a)) (hb : PE X r (TEv U n Wx b)) (hc : PE X t (TEv U n Wx c)) :
    PT X (.Compare l [pyCop op, pyCop op'] [r, t] pos) (TTv U n Wx (.chain op op' a b c)) :=
  PT.imp (pt_chain (ok_cmp h.room.units op) (ok_cmp h.room.units op') ha hb hc hm) fun σ H Q ⟨s, M, B, f, q⟩ => chain_read h ⟨s, M, B, f, t_of_bool q fun w s' e => chain_bool e⟩
/-! displays, parts, calls of built-ins -/
theorem s_tup {as : Exs} {es : List Expr} {k : Nat} (ha : PA X es (TAv U n Wx as)) : PE X (.Tuple es k pos) (TEv U n Wx (.tup as)) := by
  refine PE.imp (pe_tup ha) fun σ H Q ⟨s, M, B, f, q⟩ => ⟨s, M, B, f, ?_⟩
  simp only [evE] at q
  refine OKs.bind q fun ws s1 vs H1 M1 t1 f1 r1 q1 => ?_
  obtain ⟨w, e, q2⟩ := q1.of
  obtain ⟨xs, e1, e2⟩ := Option.bind_eq_some_iff.mp e
  obtain ⟨rfl, hz⟩ := tupW_some e2
  have r2 := r1.keeps e1
  exact ⟨by rw [← r2.len]; exact hz, fun p n => q2.tup f1 r2 n⟩
theorem s_lst {as : Exs} {es : List Expr} (ha : PA X es (TAv U n Wx as)) : PE X (.List es pos) (TEv U n Wx (.lst as)) := by
  refine PE.imp (pe_lst ha) fun σ H Q ⟨s, M, B, f, q⟩ => ⟨s, M, B, f, ?_⟩
  simp only [evE] at q
  refine OKs.bind q fun ws s1 vs H1 M1 t1 f1 r1 q1 => ?_
  obtain ⟨w, e, q2⟩ := q1.of
  obtain ⟨xs, e1, e2⟩ := Option.bind_eq_some_iff.mp e
  obtain ⟨rfl, hz⟩ := lstW_some e2
  have r2 := r1.keeps e1
  exact ⟨by rw [← r2.len]; exact hz, fun p n => q2.lst f1 r2 n⟩
/-- an optional part of a slice -/
def TOv (U : Wd) (n : Nat) (Wx : WX) (o : Exo) : TO := fun σ H Q => ∃ s M B, RF U.K H M B s σ ∧ OKX (fun H' _ _ i => Q i H') U.K U.Cl Wx σ H M B (evO U.Γ.G (callF U.Γ.G U.Γ.F n) o s)
theorem s_o0 : PO X none (TOv U n Wx .non) := ⟨fun pins s σ H Q I ⟨s0, M, B, f, q⟩ => po_none.run pins s σ H Q I (by simp only [evO] at q; exact q H M (Stp.refl _ _) f)⟩
theorem s_o1 (ha : PE X l (TEv U n Wx a)) : PO X (some l) (TOv U n Wx (.som a)) := ⟨fun pins s σ H Q I ⟨s0, M, B, f, q⟩ => (po_some ha).run pins s σ H Q I ⟨s0, M, B, f, by
  simp only [evO] at q
  refine OKE.bindX q fun w s1 v H1 M1 t1 f1 r1 q1 => ?_
  split at q1
  · rename_i i e
    exact ⟨i, (r1.den f1 e).int, q1 H1 M1 (Stp.refl _ _) f1⟩
  · exact q1.elim⟩⟩
theorem OKX.bindE {α : Type} {r : R α} {f : α → Sl → R W} {Q : VK} {K : PySem.W.Frag} {Cl : Nat → Value} {σ : VS} {H : Hp} {M B : AS} {P : α → Hp → Prop} (h : OKE K Cl Wx σ H M B (r.bind f) Q)
    (hp : ∀ x s' H' M', Stp M H M' H' → RF K H' M' B s' σ → OKE K Cl Wx σ H' M' B (f x s') Q → P x H') : OKX (fun H' _ _ x => P x H') K Cl Wx σ H M B r := OKX.bind h fun w s' H' M' t f q => hp w s' H' M' t f q
theorem s_cut {lo hi : Exo} {pl pu : Option Expr} {p2 : Pos} (h : Fit U n cv X) (ha : PE X l (TEv U n Wx a)) (hl : PO X pl (TOv U n Wx lo)) (hu : PO X pu (TOv U n Wx hi)) : PE X (.Subscript l (.Slice pl pu none p2) pos) (TEv U n Wx (.cut a lo hi)) := by
  refine PE.imp (pe_slice ok_cut ha hl hu) fun σ H Q ⟨s, M, B, f, q⟩ => ?_
  simp only [evE] at q
  refine ⟨s, M, B, f, q.bind fun w1 s1 v1 H1 M1 t1 f1 r1 q1 => ⟨s1, M1, B, f1, OKX.bindE q1 fun i s2 H2 M2 t2 f2 q2 => ⟨s2, M2, B, f2, OKX.bindE q2 fun j s3 H3 M3 t3 f3 q3 => ?_⟩⟩⟩
  obtain ⟨w, e, q4⟩ := q3.of
  obtain ⟨x, e1, e2⟩ := Option.bind_eq_some_iff.mp e
  rw [h.K]
  exact ⟨Av M3 B, x, w, (r1.step (t2.trans t3) fun b z => f1.liv b (.inr z)).den f3 e1, e2, M3, B, s3, σ, U.Cl, Wx, rfl, f3, q4⟩
theorem s_pa0 : PA X [] (TAv U n Wx .nil) := PA.imp pa_nil fun σ H Q ⟨s, M, B, f, q⟩ => by simp only [evEs] at q; exact q [] H M (Stp.refl _ _) f .nil
theorem s_pa1 {as : Exs} {es : List Expr} (hs : starEach (l :: es) X.env = (false, eval l X.env) :: starEach es X.env) (ha : PE X l (TEv U n Wx a)) (hb : PA X es (TAv U n Wx as)) : PA X (l :: es) (TAv U n Wx (.cons a as)) := by
  refine PA.imp (pa_cons ha hb hs) fun σ H Q ⟨s, M, B, f, q⟩ => ⟨s, M, B, f, ?_⟩
  simp only [evEs] at q
  have q' : OKs U.K U.Cl Wx σ H M B ((evE U.Γ.G (callF U.Γ.G U.Γ.F n) a s).bind fun x s1 => (evEs U.Γ.G (callF U.Γ.G U.Γ.F n) as s1).bind fun xs s2 => .ok (x :: xs) s2) Q := q
  cases e : evE U.Γ.G (callF U.Γ.G U.Γ.F n) a s with
  | exc c s' => rw [e] at q'; exact q'
  | stuck => rw [e] at q'; exact q'
  | ok w s1 =>
    rw [e] at q'
    intro v H1 M1 t1 f1 rt
    refine ⟨s1, M1, B, f1, ?_⟩
    have q2 := OKs.later t1 q'
    cases e2 : evEs U.Γ.G (callF U.Γ.G U.Γ.F n) as s1 with
    | exc c s' => simp only [R.bind, e2] at q2; exact q2
    | stuck => simp only [R.bind, e2] at q2; exact q2
    | ok ws s2 =>
      simp only [R.bind, e2] at q2
      intro vs H2 M2 t2 f2 rs
      exact q2 (v :: vs) H2 M2 t2 f2 (.cons (rt.rh.step t2 fun b z => f1.liv b (.inr z)) rs)
/-- a call of a built-in -/
theorem bi_read {f : Bi} {as : Exs} (h : Fit U n cv X) {σ : VS} {H : Hp} {Q : VK} (q : TEv U n Wx (.bi f as) σ H Q) : tCB (rBi X.K f) (TAv U n Wx as) σ H Q := by
  obtain ⟨s, M, B, f', q⟩ := q
  simp only [evE] at q
  refine ⟨s, M, B, f', OKs.bind q fun ws s1 vs H1 M1 t1 f1 r1 q1 => ?_⟩
  obtain ⟨w, e, q2⟩ := q1.of
  obtain ⟨xs, e1, e2⟩ := Option.bind_eq_some_iff.mp e
  rw [h.K]
  exact ⟨Av M1 B, xs, w, r1.dens f1 e1, e2, M1, B, s1, σ, U.Cl, Wx, rfl, f1, q2⟩
theorem ok_biB (hg : X.A.guards = some []) (hu : X.A.units + 64 < cLine) : ∀ (f : Bi) (x : String), biNm f = some (x, false) → X.calm = true → CallR X (.builtin x) (rBi X.K f)
  | .len, x, e, hc => by cases e; exact ok_len
  | .min2, x, e, hc => by cases e; exact ok_min2 hc
  | .max2, x, e, hc => by cases e; exact ok_max2 hc
  | .min1, x, e, hc => by cases e; exact ok_min1 hc hu
  | .max1, x, e, hc => by cases e; exact ok_max1 hc hu
  | .all, x, e, hc => by cases e; exact ok_all hc
  | .any, x, e, hc => by cases e; exact ok_any hc
  | .sum, x, e, hc => by cases e; exact ok_sum hc
  | .abs, x, e, hc => by cases e; exact ok_abs
  | .tuple, x, e, hc => by cases e
  | .list, x, e, hc => by cases e
  | .sorted, x, e, hc => by cases e; exact ok_sorted hu
  | .isInt, x, e, hc => by cases e
  | .isBool, x, e, hc => by cases e
  | .isTuple, x, e, hc => by cases e
  | .isStr, x, e, hc => by cases e
  | .isList, x, e, hc => by cases e
  | .repr, x, e, hc => by cases e; exact ok_repr hg hu
  | .int, x, e, hc => by cases e
  | .str, x, e, hc => by cases e
  | .divmod, x, e, hc => by cases e; exact ok_divmod
theorem ok_biT : ∀ (f : Bi) (x : String), biNm f = some (x, true) → CallR X (.type x) (rBi X.K f)
  | .tuple, x, e => by cases e; exact ok_tuple
  | .list, x, e => by cases e; exact ok_list
  | .len, x, e => by cases e
  | .min2, x, e => by cases e
  | .max2, x, e => by cases e
  | .min1, x, e => by cases e
  | .max1, x, e => by cases e
  | .all, x, e => by cases e
  | .any, x, e => by cases e
  | .sum, x, e => by cases e
  | .abs, x, e => by cases e
  | .sorted, x, e => by cases e
  | .isInt, x, e => by cases e
  | .isBool, x, e => by cases e
  | .isTuple, x, e => by cases e
  | .isStr, x, e => by cases e
  | .isList, x, e => by cases e
  | .repr, x, e => by cases e
  | .int, x, e => by cases e; exact ok_int
  | .str, x, e => by cases e; exact ok_str
  | .divmod, x, e => by cases e
theorem boot_bi (f : Bi) (x : String) (b : Bool) (e : biNm f = some (x, b)) : bootBuiltins (Str.ofString x) = some (if b then .type x else .builtin x) ∧ x ∈ bltN := by
  cases f <;> cases e <;> exact ⟨by decide +kernel, by decide⟩
theorem s_bi {f : Bi} {x : String} {ty : Bool} {as : Exs} {es : List Expr} {p : Pos} (W : U.Ok n) (h : Fit U n cv X) (e : biNm f = some (x, ty)) (c : glB cv (Str.ofString x) = true) (ha : PA X (l :: es) (TAv U n Wx as))
    (hs : starEach (l :: es) X.env = (false, eval l X.env) :: starEach es X.env) (hpl : (backTo pos (starEach es X.env)).any (·.1) = false) : PE X (.Call (.Name (Str.ofString x) p) (l :: es) [] pos) (TEv U n Wx (.bi f as)) := by
  obtain ⟨g1, g2, g3⟩ := h.gl c
  obtain ⟨b1, b2⟩ := boot_bi f x ty e
  have hm : X.mg (Str.ofString x) = none := by rw [h.mg]; exact W.bl x b2
  cases ty with
  | false => exact PE.imp (pe_callB (ok_biB h.guards h.room.units f x e h.calm) g1 hm b1 ha g3 g2 hs hpl) fun σ H Q q => bi_read h q
  | true => exact PE.imp (pe_callTy (ok_biT f x e) g1 hm b1 ha g3 g2 hs hpl) fun σ H Q q => bi_read h q
end
end EV

namespace EV
open PySem PySem.Spec PyProof.Rows L2
/-! ### [::-1] -/
theorem fm_congr {α β : Type} {f g : α → Option β} : ∀ {l : List α}, (∀ a ∈ l, f a = g a) → l.filterMap f = l.filterMap g
  | [], _ => rfl
  | a :: l, h => by
    rw [List.filterMap_cons, List.filterMap_cons, h a List.mem_cons_self, fm_congr fun b hb => h b (List.mem_cons_of_mem _ hb)]
theorem pick_rev (xs : Array Value) : ((List.range xs.size).filterMap fun (m : Nat) => xs[(((xs.size : Nat) : Int) - 1 + (m : Int) * (-1)).toNat]?).toArray = xs.toList.reverse.toArray := by
  congr 1
  have key : ∀ (l : List Value), (List.range l.length).filterMap (fun (m : Nat) => l[(((l.length : Nat) : Int) - 1 + (m : Int) * (-1)).toNat]?) = l.reverse := by
    intro l
    have e : (List.range l.length).filterMap (fun (m : Nat) => l[(((l.length : Nat) : Int) - 1 + (m : Int) * (-1)).toNat]?) = (List.range l.length).filterMap (fun (m : Nat) => l.reverse[m]?) := by
      apply fm_congr
      intro m hm
      have hm := List.mem_range.mp hm
      rw [List.getElem?_reverse hm]
      congr 1
      omega
    rw [e]
    have := pick_run l.reverse.toArray 0 l.length
    rw [List.filterMap_map] at this
    simp only [Nat.zero_add, List.drop_zero] at this
    have e2 : ((fun x => l.reverse.toArray[x]?) ∘ fun x => 0 + x) = fun m => l.reverse[m]? := by
      funext m
      simp
    simp only [Function.comp_def, List.getElem?_toArray] at this
    rw [this, List.take_of_length_le (by simp)]
  have := key xs.toList
  simpa using this
theorem sliceApplied_rev {prog : Program} {w : World} {A : Around} {E : Value → Shared → Prop} {s : Shared} {sl : Addr} {n : Nat} {t : Tok} {Q : Int × Int × Nat → Shared → Prop} (hs : s.heap.IsSliceOf sl .none .none (.int (-1) t))
    (h : Q (((n : Nat) : Int) - 1, -1, n) s) : wpAny (model prog w) A (Builtin.Slice.sliceApplied (.ref sl) (pure (n : Int))) Q E s := by
  obtain ⟨os, hos, hcs, hds⟩ := id hs
  unfold Builtin.Slice.sliceApplied Builtin.Slice.sliceFields
  refine wpAny_bind (wpAny_bind (wpAny_field hos hds (x := .none) rfl (wpAny_bind (wpAny_field hos hds (x := .none) rfl (wpAny_bind (wpAny_field hos hds (x := .int (-1) t) rfl (wpAny_pure ?_)))))))
  refine wpAny_bind (HT.slicePart_ (.int (-1) t) ?_)
  show wpAny _ _ (if ((-1 : Int) == 0) = true then _ else _) _ _ s
  rw [if_neg (by decide)]
  refine wpAny_bind (HT.slicePart_ .none (wpAny_bind (HT.slicePart_ .none (wpAny_bind (wpAny_pure ?_)))))
  show wpAny _ _ (pure (((n : Nat) : Int) - 1, (-1 : Int), Builtin.Slice.slicePlaces (((n : Nat) : Int) - 1) (-1) (-1))) _ _ s
  have e : Builtin.Slice.slicePlaces (((n : Nat) : Int) - 1) (-1) (-1) = n := by
    unfold Builtin.Slice.slicePlaces
    simp only [show ¬ ((-1 : Int) > 0) by omega, if_false]
    rw [show (-(-1) : Int) = 1 by rfl, Int.ediv_one]
    split <;> omega
  rw [e]
  exact wpAny_pure h
theorem getItem_tuple_rev {prog : Program} {w : World} {A : Around} {E : Value → Shared → Prop} {s : Shared} {t sl : Addr} {items : Array Value} {tk : Tok} {Q : Value → Shared → Prop} (ht : IsTup s.heap t items) (hs : s.heap.IsSliceOf sl .none .none (.int (-1) tk))
    (h : Q (.ref s.heap.objs.size) { s with heap := s.heap.push { cls := .type "tuple", data := .seq items.toList.reverse.toArray } })
    (hsz : items.size ≤ sizeLine) : wpAny (model prog w) A (getItem (.ref t) (.ref sl)) Q E s := by
  have htake : sizeOk (.seq items.toList.reverse.toArray) := by
    show items.toList.reverse.toArray.size ≤ sizeLine
    rw [List.size_toArray, List.length_reverse, Array.length_toList]
    exact hsz
  obtain ⟨os, hos, hcs, hds⟩ := id hs
  have hTs : s.TypeIs (.ref sl) "slice" := ⟨os, hos, hcs⟩
  unfold getItem
  try with_reducible refine wpAny_holding ?_
  first | refine wpAny_bind (wpAny_pure ?_) | skip
  refine wpAny_bind (wpAny_sequenceKey ht.typeIs (by decide) ?_)
  refine wpAny_bind (wpAny_callSpecial?_slot (name := Str.ofString "__getitem__") ht.typeIs PyProof.Rows.slot_tuple_getitem
    (wpAny_call_entry PyProof.Rows.slot_tuple_getitem ht.typeIs entry_tuple_getitem ?_ (args_tuple_getitem _ _)))
  show wpAny _ _ (Builtin.Tuple.tupleItemsOf (.ref t) >>= _) _ _ s
  refine wpAny_bind (tupleItemsOf_ ht ?_)
  refine wpAny_bind (wpAny_typeOf hTs ?_)
  rw [if_pos (by decide)]
  refine wpAny_bind (sliceApplied_rev hs ?_)
  have hno : ¬ ((((items.size : Nat) : Int) - 1 == 0 && (-1 : Int) == 1 && items.size == items.size) = true) := by
    intro q
    rw [Bool.and_eq_true, Bool.and_eq_true] at q
    exact absurd q.1.2 (by decide)
  show wpAny _ _ (if (((items.size : Nat) : Int) - 1 == 0 && (-1 : Int) == 1 && items.size == items.size) = true then _ else _) _ _ s
  rw [if_neg hno, pick_rev]
  first
    | exact wpAny_bind (m := Builtin.Tuple.tupleExact _) (wpAny_newObj_type (wpAny_pure ⟨_, rfl, wpAny_pure h⟩) htake)
    | exact wpAny_bind (m := Builtin.Tuple.tupleExact _) (wpAny_newObj_type (wpAny_bind (wpAny_pure (wpAny_pure ⟨_, rfl, wpAny_pure h⟩))) htake)
    | exact wpAny_bind (wpAny_bind (m := Builtin.Tuple.tupleExact _) (wpAny_newObj_type (wpAny_pure (wpAny_pure ⟨_, rfl, wpAny_pure h⟩)) htake))
    | exact wpAny_bind (wpAny_bind (m := Builtin.Tuple.tupleExact _) (wpAny_newObj_type (wpAny_pure ⟨_, rfl, wpAny_pure h⟩) htake))
theorem slicePick_rev (items : Array Value) : slicePick items none none (some (-1)) = items.toList.reverse.toArray := by
  rw [← pick_rev]
  unfold slicePick sliceBounds sliceRange
  simp only [Option.getD_some, show ¬ ((-1 : Int) > 0) by omega, if_false]
  congr 1
  have e : (if ((items.size : Nat) : Int) - 1 > -1 then (((items.size : Nat) : Int) - 1 - -1 - -1 - 1) / (- -1) else 0).toNat = items.size := by
    simp only [Int.neg_neg, Int.ediv_one]
    split <;> omega
  rw [e, List.filterMap_map]
  apply fm_congr
  intro m _
  simp only [Function.comp]
  congr 1
  omega
def tRev (r : V → Hp → VK → Prop) (te : TE) : TE := fun σ H Q => te σ H fun x H1 => r x H1 Q
section
variable {X : Cx} {e : Expr} {te : TE} {p2 pos p3 p4 : Pos} {j : Nat}
def rRev (K : PySem.W.Frag) : V → Hp → VK → Prop := fun x H Q => ∃ a xs, x = .ref a ∧ ((SqL K H a xs ∧ ∀ p, H p = none → Q (.ref p) (upd H p (.lst xs.reverse))) ∨ (SqT K H a xs ∧ ∀ p, H p = none → Q (.ref p) (upd H p (.tup xs.reverse))))
theorem Vals.rev : ∀ {vs : List V} {us : List Value}, Vals vs us → Vals vs.reverse us.reverse
  | _, _, .nil => .nil
  | _, _, .cons h t => by
    rw [List.reverse_cons, List.reverse_cons]
    exact (Vals.rev t).append (.cons h .nil)
/-- x[::-1] -/
theorem pe_rev (he : PE X e te) : PE X (.Subscript e (.Slice none none (some (.UnaryOp .USub (.Constant (.int 1) j p4) p3)) p2) pos) (tRev (rRev X.K) te) := by
  refine ⟨fun pins s σ H Q I h => ?_⟩
  refine Subscript_ (thn (he.run pins s σ H _ I h) fun v s1 ⟨x, H1, I1, r1, q1⟩ => ?_)
  refine wpAny_Slice ?_
  rw [evalPart_none]
  refine wpAny_pure (wpAny_pure ?_)
  rw [evalPart_some]
  have hu : PE X (.UnaryOp .USub (.Constant (.int 1) j p4) p3) (fun σ H Q => Q (.int (-1)) H) := PE.imp (pe_un un_neg pe_int) fun σ H Q q => ⟨1, rfl, q⟩
  refine thn (hu.run pins s1 σ H1 (fun v' H' => v' = .int (-1) ∧ H' = H1) I1 ⟨rfl, rfl⟩) fun vs s2 ⟨z, H2, I2, rz, hz, hH⟩ => ?_
  subst hz hH
  obtain ⟨tk, rfl⟩ := (show ∃ t, vs = Value.int (-1) t from rz)
  have I4 : Inv X pins σ H2 { s2 with heap := s2.heap.push { cls := .type "slice", data := .fields #[.none, .none, .int (-1) tk] } } := I2.kept (t' := s2.toks) fun b ob q => Heap.get?_push_of_some _ q
  show wpAny (model X.prog X.w) X.A (subscriptTail e (.Slice none none (some (.UnaryOp .USub (.Constant (.int 1) j p4) p3)) p2) v (.ref s2.heap.objs.size)) (EP X pins σ Q) X.xe { s2 with heap := s2.heap.push { cls := .type "slice", data := .fields #[.none, .none, .int (-1) tk] } }
  obtain ⟨a, xs, rfl, hc⟩ := q1
  cases r1
  have hsl := Heap.IsSliceOf.new s2.heap .none .none (.int (-1) tk)
  rcases hc with ⟨hx, q⟩ | ⟨hx, q⟩
  · obtain ⟨its, r, ht, hz⟩ := I4.list hx
    have hlen := r.length
    refine tail_any (ops := [.ref a, .ref s2.heap.objs.size]) ht.isList.typeIs slot_list_getitem.lookup (wpAny_getItem_list_slice ht.isList hsl .none .none (.int (-1) tk) (by simp) ?_ (by rw [List.size_toArray] <;> omega)) (by with_unfolding_all rfl)
    rw [slicePick_rev]
    exact ⟨.ref _, _, I4.laid (t' := s2.toks) (o := .lst xs.reverse) (fun b ob q => Heap.get?_push_of_some _ q) (Nat.le_refl _) ⟨by rw [List.length_reverse]; exact hz, _, 0, Vals.rev r, Heap.get?_push_size _ rfl⟩, rfl, q _ (I4.hok.fresh (Nat.le_refl _))⟩
  · obtain ⟨its, r, ht, hz⟩ := I4.tuple hx
    have hlen : its.toArray.size = xs.length := by rw [List.size_toArray]; exact r.length.symm
    refine tail_any (ops := [.ref a, .ref s2.heap.objs.size]) ht.typeIs PyProof.Rows.slot_tuple_getitem.lookup (getItem_tuple_rev ht hsl ?_ (by rw [hlen]; exact hz)) (by with_unfolding_all rfl)
    exact ⟨.ref _, _, I4.laid (t' := s2.toks) (o := .tup xs.reverse) (fun b ob q => Heap.get?_push_of_some _ q) (Nat.le_refl _) ⟨by rw [List.length_reverse]; exact hz, _, Vals.rev r, IsTup.new _ _⟩, rfl, q _ (I4.hok.fresh (Nat.le_refl _))⟩
theorem s_rev {U : Wd} {n : Nat} {cv : Cv} {Wx : WX} {a : Ex} (h : Fit U n cv X) (ha : PE X e (TEv U n Wx a)) : PE X (.Subscript e (.Slice none none (some (.UnaryOp .USub (.Constant (.int 1) j p4) p3)) p2) pos) (TEv U n Wx (.rev a)) := by
  refine PE.imp (pe_rev ha) fun σ H Q ⟨s, M, B, f, q⟩ => ?_
  simp only [evE] at q
  refine ⟨s, M, B, f, q.bind fun w1 s1 v1 H1 M1 t1 f1 r1 q1 => ?_⟩
  obtain ⟨w, e1, q2⟩ := q1.of
  obtain ⟨x, e2, e3⟩ := Option.bind_eq_some_iff.mp e1
  have rx := r1.den f1 e2
  rw [h.K]
  cases x with
  | list xs =>
    cases e3
    obtain ⟨b, vs, rfl, h1, h2⟩ := rx.lst
    exact ⟨b, vs, rfl, .inl ⟨h1, fun p n => q2.lst f1 h2.rev n⟩⟩
  | tuple xs =>
    cases e3
    obtain ⟨b, vs, rfl, h1, h2⟩ := rx.tup
    exact ⟨b, vs, rfl, .inr ⟨RD.sqT h1, fun p n => q2.tup f1 h2.rev n⟩⟩
  | _ => cases e3
end
end EV

namespace EV
open PySem PySem.Spec PyProof.Rows L2
/-! ### a call of an own def -/
section
variable {K : PySem.W.Frag} {H H' : Hp} {M B : AS} {s s2 : Sl} {σ : VS}
/-- the addresses of what is handed on -/
def ioAt (ws : List SV) (vs : List V) : AS := fun a => ∃ (k : Nat) (xs : List D), ws[k]? = some (.own xs) ∧ vs[k]? = some (.ref a)
/-- the places of the arguments that are handed on -/
theorem args_io : ∀ {ws : List W} {vs : List SV} (k : Nat) (xs : List D), args s ws = some vs → vs[k]? = some (.own xs) → ∃ i, ws[k]? = some (.io i) ∧ s[i]? = some (some (.own xs))
  | [], vs, k, xs, e, h => by cases e; simp at h
  | w :: ws, vs, k, xs, e, h => by
    cases w with
    | io i =>
      simp only [args] at e
      split at e
      · rename_i ys ey
        obtain ⟨r, e1, e2⟩ := Option.bind_eq_some_iff.mp e
        cases e2
        cases k with
        | zero =>
          simp at h
          subst h
          exact ⟨i, rfl, ey⟩
        | succ k => exact args_io (ws := ws) k xs e1 (by simpa using h)
      · cases e
    | d x =>
      simp only [args] at e
      obtain ⟨y, e0, e⟩ := Option.bind_eq_some_iff.mp e
      obtain ⟨r, e1, e2⟩ := Option.bind_eq_some_iff.mp e
      cases e2
      cases k with
      | zero => simp at h
      | succ k => exact args_io (ws := ws) k xs e1 (by simpa using h)
    | nw x =>
      simp only [args] at e
      obtain ⟨y, e0, e⟩ := Option.bind_eq_some_iff.mp e
      obtain ⟨r, e1, e2⟩ := Option.bind_eq_some_iff.mp e
      cases e2
      cases k with
      | zero => simp at h
      | succ k => exact args_io (ws := ws) k xs e1 (by simpa using h)
    | al x =>
      simp only [args] at e
      obtain ⟨y, e0, e⟩ := Option.bind_eq_some_iff.mp e
      cases e0
theorem args_len : ∀ {ws : List W} {vs : List SV}, args s ws = some vs → vs.length = ws.length
  | [], vs, e => by cases e; rfl
  | w :: ws, vs, e => by
    cases w with
    | io i =>
      simp only [args] at e
      split at e
      · obtain ⟨r, e1, e2⟩ := Option.bind_eq_some_iff.mp e
        cases e2
        simp [args_len e1]
      · cases e
    | d x =>
      simp only [args] at e
      obtain ⟨y, e0, e⟩ := Option.bind_eq_some_iff.mp e
      obtain ⟨r, e1, e2⟩ := Option.bind_eq_some_iff.mp e
      cases e2
      simp [args_len e1]
    | nw x =>
      simp only [args] at e
      obtain ⟨y, e0, e⟩ := Option.bind_eq_some_iff.mp e
      obtain ⟨r, e1, e2⟩ := Option.bind_eq_some_iff.mp e
      cases e2
      simp [args_len e1]
    | al x =>
      simp only [args] at e
      obtain ⟨y, e0, e⟩ := Option.bind_eq_some_iff.mp e
      cases e0
theorem args_d : ∀ {ws : List W} {vs : List SV} (k : Nat) (x : D), args s ws = some vs → vs[k]? = some (.d x) → ∃ w, ws[k]? = some w ∧ keep w = some x
  | [], vs, k, xs, e, h => by cases e; simp at h
  | w :: ws, vs, k, x, e, h => by
    cases w with
    | io i =>
      simp only [args] at e
      split at e
      · obtain ⟨r, e1, e2⟩ := Option.bind_eq_some_iff.mp e
        cases e2
        cases k with
        | zero => simp at h
        | succ k => exact args_d (ws := ws) k x e1 (by simpa using h)
      · cases e
    | d z =>
      simp only [args] at e
      obtain ⟨y, e0, e⟩ := Option.bind_eq_some_iff.mp e
      obtain ⟨r, e1, e2⟩ := Option.bind_eq_some_iff.mp e
      cases e2
      cases k with
      | zero => simp at h; subst h; exact ⟨_, rfl, e0⟩
      | succ k => exact args_d (ws := ws) k x e1 (by simpa using h)
    | nw z =>
      simp only [args] at e
      obtain ⟨y, e0, e⟩ := Option.bind_eq_some_iff.mp e
      obtain ⟨r, e1, e2⟩ := Option.bind_eq_some_iff.mp e
      cases e2
      cases k with
      | zero => simp at h; subst h; exact ⟨_, rfl, e0⟩
      | succ k => exact args_d (ws := ws) k x e1 (by simpa using h)
    | al z =>
      simp only [args] at e
      obtain ⟨y, e0, e⟩ := Option.bind_eq_some_iff.mp e
      cases e0
theorem RHs.get {A : AS} : ∀ {ws : List W} {vs : List V} {k : Nat} {w : W}, RHs K H A σ ws vs → ws[k]? = some w → ∃ v, vs[k]? = some v ∧ RH K H A σ w v
  | _, _, _, _, .nil, e => by simp at e
  | _, _, 0, _, .cons r _, e => by simp at e; subst e; exact ⟨_, rfl, r⟩
  | _, _, k + 1, w, .cons _ t, e => by
    obtain ⟨v, h1, h2⟩ := RHs.get (k := k) t (by simpa using e)
    exact ⟨v, by simpa using h1, h2⟩
theorem RHs.len {A : AS} : ∀ {ws : List W} {vs : List V}, RHs K H A σ ws vs → ws.length = vs.length
  | _, _, .nil => rfl
  | _, _, .cons _ t => by rw [List.length_cons, List.length_cons, RHs.len t]
theorem ios_mem : ∀ {ws : List W} {k i : Nat}, ws[k]? = some (.io i) → i ∈ iosOf ws
  | [], k, i, e => by simp at e
  | w :: ws, 0, i, e => by
    simp at e
    subst e
    exact List.mem_cons_self
  | w :: ws, k + 1, i, e => by
    have h := ios_mem (ws := ws) (k := k) (by simpa using e)
    cases w with
    | io j => exact List.mem_cons_of_mem _ h
    | _ => exact h
theorem ios_once : ∀ {ws : List W} {k j i : Nat}, (iosOf ws).Nodup → ws[k]? = some (.io i) → ws[j]? = some (.io i) → k = j
  | [], k, j, i, _, e, _ => by simp at e
  | w :: ws, 0, 0, i, _, _, _ => rfl
  | w :: ws, 0, j + 1, i, nd, e1, e2 => by
    simp at e1
    subst e1
    exact absurd (ios_mem (ws := ws) (k := j) (by simpa using e2)) (List.nodup_cons.mp nd).1
  | w :: ws, k + 1, 0, i, nd, e1, e2 => by
    simp at e2
    subst e2
    exact absurd (ios_mem (ws := ws) (k := k) (by simpa using e1)) (List.nodup_cons.mp nd).1
  | w :: ws, k + 1, j + 1, i, nd, e1, e2 => by
    have nd' : (iosOf ws).Nodup := by
      cases w with
      | io j => exact (List.nodup_cons.mp nd).2
      | _ => exact nd
    rw [ios_once nd' (k := k) (j := j) (by simpa using e1) (by simpa using e2)]
theorem ioAt_M {ws : List W} {vs : List V} {as : List SV} {A : AS} (f : RF K H M B s σ) (r : RHs K H A σ ws vs) (e : args s ws = some as) {a : Addr} (h : ioAt as vs a) : M a := by
  obtain ⟨k, xs, h1, h2⟩ := h
  obtain ⟨i, h3, h4⟩ := args_io k xs e h1
  obtain ⟨v, h5, h6⟩ := r.get h3
  obtain ⟨b, ws', h7, h8, _⟩ := f.own i xs h4
  have h6 : σ[i]? = some (some v) := h6
  rw [h2] at h5
  cases h5
  rw [h6] at h7
  cases h7
  exact h8
/-- at a call's start -/
theorem call_start {ws : List W} {vs : List V} {as : List SV} (f : RF K H M B s σ) (r : RHs K H (Av M B) σ ws vs) (nd : ioNd ws = true) (e : args s ws = some as) :
    RF K H (ioAt as vs) (fun a => (M a ∧ ¬ ioAt as vs a) ∨ B a) (as.map some) (vs.map some) := by
  have inM := fun {a} h => ioAt_M f r e (a := a) h
  have less : ∀ b, ioAt as vs b ∨ ((M b ∧ ¬ ioAt as vs b) ∨ B b) → M b ∨ B b := fun b z => z.elim (fun z => .inl (inM z)) fun z => z.imp (·.1) id
  refine ⟨by rw [List.length_map, List.length_map, args_len e, r.len], fun k x h => ?_, fun k xs h => ?_, fun k j a xs ys hkj h1 h2 h3 h4 => ?_, fun a z => f.liv a (less a z), fun a z1 z2 => ?_⟩
  · rw [List.getElem?_map] at h
    obtain ⟨w', h1, h2⟩ := Option.map_eq_some_iff.mp h
    cases h2
    obtain ⟨w, h3, h4⟩ := args_d k x e h1
    obtain ⟨v, h5, h6⟩ := r.get h3
    exact ⟨v, by rw [List.getElem?_map, h5]; rfl, (h6.keep h4).less less⟩
  · rw [List.getElem?_map] at h
    obtain ⟨w', h1, h2⟩ := Option.map_eq_some_iff.mp h
    cases h2
    obtain ⟨i, h3, h4⟩ := args_io k xs e h1
    obtain ⟨v, h5, h6⟩ := r.get h3
    obtain ⟨a, us, h7, h8, h9, h10⟩ := f.own i xs h4
    have h6 : σ[i]? = some (some v) := h6
    rw [h6] at h7
    cases h7
    exact ⟨a, us, by rw [List.getElem?_map, h5]; rfl, ⟨k, xs, h1, h5⟩, h9, h10.less less⟩
  · rw [List.getElem?_map] at h1 h2 h3 h4
    obtain ⟨w1, h1, e1⟩ := Option.map_eq_some_iff.mp h1
    obtain ⟨w2, h2, e2⟩ := Option.map_eq_some_iff.mp h2
    obtain ⟨v1, h3, e3⟩ := Option.map_eq_some_iff.mp h3
    obtain ⟨v2, h4, e4⟩ := Option.map_eq_some_iff.mp h4
    cases e1; cases e2; cases e3; cases e4
    obtain ⟨i1, p1, p2⟩ := args_io k xs e h1
    obtain ⟨i2, p3, p4⟩ := args_io j ys e h2
    obtain ⟨u1, p5, p6⟩ := r.get p1
    obtain ⟨u2, p7, p8⟩ := r.get p3
    rw [h3] at p5; cases p5
    rw [h4] at p7; cases p7
    by_cases hi : i1 = i2
    · subst hi
      exact hkj (ios_once (of_decide_eq_true nd) p1 p3)
    · exact f.sep i1 i2 a xs ys hi p2 p4 p6 p8
  · rcases z2 with ⟨_, z2⟩ | z2
    · exact z2 z1
    · exact f.dis a (inM z1) z2
/-- what is put back -/
theorem back_len : ∀ {ws : List W} {os s s2 : Sl}, back ws os s = some s2 → s2.length = s.length
  | [], os, s, s2, e => by cases e; rfl
  | w :: ws, [], s, s2, e => by cases w <;> cases e
  | w :: ws, o :: os, s, s2, e => by
    cases w with
    | io i =>
      cases o with
      | none => cases e
      | some o =>
        cases o with
        | d x => cases e
        | own xs =>
          simp only [back] at e
          rw [back_len e, List.length_set]
    | _ => simp only [back] at e; exact back_len e
theorem back_out : ∀ {ws : List W} {os s s2 : Sl} {i : Nat}, back ws os s = some s2 → i ∉ iosOf ws → s2[i]? = s[i]?
  | [], os, s, s2, i, e, _ => by cases e; rfl
  | w :: ws, [], s, s2, i, e, _ => by cases w <;> cases e
  | w :: ws, o :: os, s, s2, i, e, h => by
    cases w with
    | io j =>
      cases o with
      | none => cases e
      | some o =>
        cases o with
        | d x => cases e
        | own xs =>
          simp only [back] at e
          have h1 : j ≠ i := fun z => h (by rw [z]; exact List.mem_cons_self)
          rw [back_out e fun z => h (List.mem_cons_of_mem _ z), List.getElem?_set_ne h1]
    | _ => simp only [back] at e; exact back_out e h
theorem back_in : ∀ {ws : List W} {os s s2 : Sl} {k i : Nat}, back ws os s = some s2 → (iosOf ws).Nodup → ws[k]? = some (.io i) → i < s.length → ∃ xs, os[k]? = some (some (.own xs)) ∧ s2[i]? = some (some (.own xs))
  | [], os, s, s2, k, i, e, _, h, _ => by simp at h
  | w :: ws, [], s, s2, k, i, e, _, _, _ => by cases w <;> cases e
  | w :: ws, o :: os, s, s2, 0, i, e, nd, h, hl => by
    simp at h
    subst h
    cases o with
    | none => cases e
    | some o =>
      cases o with
      | d x => cases e
      | own xs =>
        simp only [back] at e
        refine ⟨xs, rfl, ?_⟩
        rw [back_out e (List.nodup_cons.mp nd).1, List.getElem?_set_self hl]
  | w :: ws, o :: os, s, s2, k + 1, i, e, nd, h, hl => by
    cases w with
    | io j =>
      cases o with
      | none => cases e
      | some o =>
        cases o with
        | d x => cases e
        | own xs =>
          simp only [back] at e
          exact back_in (k := k) (i := i) e (List.nodup_cons.mp nd).2 (by simpa using h) (by rw [List.length_set]; exact hl)
    | _ =>
      simp only [back] at e
      exact back_in (k := k) (i := i) e nd (by simpa using h) hl
theorem mem_ios : ∀ {ws : List W} {i : Nat}, i ∈ iosOf ws → ∃ k : Nat, ws[k]? = some (.io i)
  | [], i, h => by cases h
  | w :: ws, i, h => by
    cases w with
    | io j =>
      rcases List.mem_cons.mp h with rfl | h
      · exact ⟨0, rfl⟩
      · obtain ⟨k, e⟩ := mem_ios h
        exact ⟨k + 1, by simpa using e⟩
    | _ =>
      obtain ⟨k, e⟩ := mem_ios (ws := ws) h
      exact ⟨k + 1, by simpa using e⟩
theorem args_has : ∀ {ws : List W} {vs : List SV} (k i : Nat), args s ws = some vs → ws[k]? = some (.io i) → ∃ xs, s[i]? = some (some (.own xs)) ∧ vs[k]? = some (.own xs)
  | [], vs, k, i, e, h => by simp at h
  | w :: ws, vs, k, i, e, h => by
    cases w with
    | io j =>
      simp only [args] at e
      split at e
      · rename_i ys ey
        obtain ⟨r, e1, e2⟩ := Option.bind_eq_some_iff.mp e
        cases e2
        cases k with
        | zero => simp at h; subst h; exact ⟨ys, ey, rfl⟩
        | succ k => exact args_has (ws := ws) k i e1 (by simpa using h)
      · cases e
    | d x =>
      simp only [args] at e
      obtain ⟨y, e0, e⟩ := Option.bind_eq_some_iff.mp e
      obtain ⟨r, e1, e2⟩ := Option.bind_eq_some_iff.mp e
      cases e2
      cases k with
      | zero => simp at h
      | succ k => exact args_has (ws := ws) k i e1 (by simpa using h)
    | nw x =>
      simp only [args] at e
      obtain ⟨y, e0, e⟩ := Option.bind_eq_some_iff.mp e
      obtain ⟨r, e1, e2⟩ := Option.bind_eq_some_iff.mp e
      cases e2
      cases k with
      | zero => simp at h
      | succ k => exact args_has (ws := ws) k i e1 (by simpa using h)
    | al x =>
      simp only [args] at e
      obtain ⟨y, e0, e⟩ := Option.bind_eq_some_iff.mp e
      cases e0
/-- what is owned behind a call -/
abbrev MB (M : AS) (Mc M' : AS) : AS := fun a => (M a ∧ ¬ Mc a) ∨ M' a
theorem call_stp {M' : AS} {as : List SV} {vs : List V} (inM : ∀ a, ioAt as vs a → M a) (t : Stp (ioAt as vs) H M' H') : Stp M H (MB M (ioAt as vs) M') H' :=
  ⟨fun a o n e => t.keep a o (fun z => n (inM a z)) e, t.live, fun a z => z.elim (fun z => .inl z.1) fun z => (t.new a z).imp (inM a) id⟩
theorem call_end {ws : List W} {vs : List V} {as : List SV} {outs : Sl} {M' B2 : AS} (f : RF K H M B s σ) (r : RHs K H (Av M B) σ ws vs) (nd : ioNd ws = true) (e : args s ws = some as) (eb : back ws outs s = some s2)
    (t : Stp (ioAt as vs) H M' H') (hB : ∀ b, B b → B2 b) (hB2 : ∀ b, B2 b → B b ∨ H b = none)
    (g : RF K H' M' (fun a => (M a ∧ ¬ ioAt as vs a) ∨ B2 a) outs (vs.map some)) : RF K H' (MB M (ioAt as vs) M') B2 s2 σ := by
  have inM := fun {a} h => ioAt_M f r e (a := a) h
  have nd' := of_decide_eq_true nd
  have cover : ∀ b, MB M (ioAt as vs) M' b ∨ B2 b → M' b ∨ ((M b ∧ ¬ ioAt as vs b) ∨ B2 b) := fun b z => by
    rcases z with (z | z) | z
    · exact .inr (.inl z)
    · exact .inl z
    · exact .inr (.inr z)
  have kp : ∀ a o, ¬ (M a ∨ B a) → H a = some o → H' a = some o := fun a o n q => t.keep a o (fun z => n (.inl (inM z))) q
  have av : ∀ a, MB M (ioAt as vs) M' a ∨ B2 a → (M a ∨ B a) ∨ H a = none := fun a z => by
    rcases z with (z | z) | z
    · exact .inl (.inl z.1)
    · rcases t.new a z with z | z
      · exact .inl (.inl (inM z))
      · exact .inr z
    · rcases hB2 a z with z | z
      · exact .inl (.inr z)
      · exact .inr z
  -- a slot of s2 is of s, or was handed on
  have slot : ∀ (i : Nat) x, s2[i]? = some x → (i ∉ iosOf ws ∧ s[i]? = some x) ∨ ∃ (k : Nat) (xs ys : List D), ws[k]? = some (.io i) ∧ x = some (.own xs) ∧ outs[k]? = some (some (.own xs)) ∧ s[i]? = some (some (.own ys)) ∧ as[k]? = some (.own ys) := fun i x q => by
    by_cases hi : i ∈ iosOf ws
    · obtain ⟨k, hk⟩ := mem_ios hi
      obtain ⟨ys, h1, h2⟩ := args_has k i e hk
      obtain ⟨xs, h3, h4⟩ := back_in eb nd' hk (List.getElem?_eq_some_iff.mp h1).1
      rw [q] at h4
      cases h4
      exact .inr ⟨k, xs, ys, hk, rfl, h3, h1, h2⟩
    · exact .inl ⟨hi, by rw [← back_out eb hi]; exact q⟩
  have wasOwn : ∀ (i : Nat) xs, s2[i]? = some (some (.own xs)) → ∃ ys, s[i]? = some (some (.own ys)) := fun i xs q => by
    rcases slot i _ q with ⟨_, h⟩ | ⟨_, _, ys, _, _, _, h, _⟩
    · exact ⟨xs, h⟩
    · exact ⟨ys, h⟩
  refine ⟨by rw [back_len eb]; exact f.len, fun i x q => ?_, fun i xs q => ?_, fun i j a xs ys hij q1 q2 q3 q4 => ?_, fun a z => ?_, fun a z1 z2 => ?_⟩
  · rcases slot i _ q with ⟨_, h⟩ | ⟨_, _, ys, _, z, _⟩
    · obtain ⟨v, h1, h2⟩ := f.dat i x h
      exact ⟨v, h1, RD.mono kp av _ _ h2⟩
    · cases z
  · rcases slot i _ q with ⟨hi, h⟩ | ⟨k, zs, ys, hk, z, ho, hs, ha⟩
    · obtain ⟨a, us, h1, h2, h3, h4⟩ := f.own i xs h
      have na : ¬ ioAt as vs a := fun ⟨k, zs, p1, p2⟩ => by
        obtain ⟨j, p3, p4⟩ := args_io k zs e p1
        obtain ⟨v, p5, p6⟩ := r.get p3
        rw [p2] at p5
        cases p5
        exact f.sep i j a xs zs (fun z => hi (z ▸ ios_mem p3)) h p4 h1 p6
      exact ⟨a, us, h1, .inl ⟨h2, na⟩, t.keep a _ na h3, RDs.mono kp av _ _ h4⟩
    · cases z
      obtain ⟨a, us, h1, h2, h3, h4⟩ := g.own k xs ho
      obtain ⟨v, p5, p6⟩ := r.get hk
      rw [List.getElem?_map, p5] at h1
      cases h1
      exact ⟨a, us, p6, .inr h2, h3, h4.less cover⟩
  · obtain ⟨xs', p1⟩ := wasOwn i xs q1
    obtain ⟨ys', p2⟩ := wasOwn j ys q2
    exact f.sep i j a xs' ys' hij p1 p2 q3 q4
  · rcases cover a z with z | z | z
    · exact g.liv a (.inl z)
    · exact t.live a (f.liv a (.inl z.1))
    · exact g.liv a (.inr (.inr z))
  · rcases z1 with z1 | z1
    · rcases hB2 a z2 with z | z
      · exact f.dis a z1.1 z
      · exact f.liv a (.inl z1.1) z
    · exact g.dis a z1 (.inr z2)
end
section
variable {U : Wd} {n : Nat} {cv : Cv} {X : Cx} {Wx : WX} {pos p : Pos} {as : Exs} {x : Str} {f : Nat} {l : Expr} {es : List Expr}
theorem call_core (W : U.Ok n) (hp : ∃ ps, U.Γ.fps[f]? = some ps) {σ : VS} {H1 : Hp} {M1 B : AS} {s1 : Sl} {ws : List EV.W} {vs : List V} {Q : VK} (f1 : RF U.K H1 M1 B s1 σ) (r1 : RHs U.K H1 (Av M1 B) σ ws vs)
    (q1 : OKE U.K U.Cl Wx σ H1 M1 B (callW (callF U.Γ.G U.Γ.F n) f ws s1) Q) : spF U.K U.Cl U.Γ n f vs H1 Q (WE Wx σ) := by
  unfold callW at q1
  split at q1
  · rename_i nd
    split at q1
    · exact q1.elim
    · rename_i as' ea
      have inM : ∀ a, ioAt as' vs a → M1 a := fun a h => ioAt_M f1 r1 ea h
      refine ⟨as', ioAt as' vs, _, call_start f1 r1 nd ea, ?_, ?_⟩
      · cases n with
        | zero => simp only [callF] at q1; exact q1.elim
        | succ n =>
          simp only [callF] at q1
          cases eF : U.Γ.F[f]? with
          | none => simp only [eF] at q1; exact q1.elim
          | some fn =>
            simp only [eF] at q1
            by_cases hl : as'.length = fn.np ∧ ioOk fn.io 0 as' = true
            · obtain ⟨ps, eP⟩ := hp
              exact ⟨fn, ps, rfl, eP, by rw [← r1.len, ← args_len ea, hl.1]; exact W.np f fn ps eF eP⟩
            · rw [if_neg hl] at q1
              exact q1.elim
      · cases ec : callF U.Γ.G U.Γ.F n f as' with
        | stuck => rw [ec] at q1; exact q1.elim
        | exc c outs =>
          rw [ec] at q1
          simp only [] at q1
          split at q1
          · rename_i s2 eb
            exact fun H' M' t g => q1 H' _ (call_stp inM t) (call_end f1 r1 nd ea eb t (fun _ z => z) (fun _ z => .inl z) g)
          · exact q1.elim
        | ok w outs =>
          rw [ec] at q1
          simp only [] at q1
          split at q1
          · rename_i hr
            split at q1
            · rename_i s2 eb
              intro v H' M' t g rt
              have g2 := call_end f1 r1 nd ea eb t (fun _ z => z) (fun _ z => .inl z) g
              refine q1 v H' _ (call_stp inM t) g2 ?_
              have cover : ∀ b, MB M1 (ioAt as' vs) M' b ∨ B b → M' b ∨ ((M1 b ∧ ¬ ioAt as' vs b) ∨ B b) := fun b z => by
                rcases z with (z | z) | z
                · exact .inr (.inl z)
                · exact .inl z
                · exact .inr (.inr z)
              cases w with
              | d y => exact (show RD _ _ _ _ _ from rt).less cover
              | nw xs =>
                obtain ⟨a, us, rfl, h0, h1, h2, h3, h4, h5⟩ := NW.ex rt
                refine ⟨a, us, rfl, h0, fun z => ?_, fun z => h2 (.inr z), h3, ?_, h5.less fun b z => ?_⟩
                · rcases z with z | z
                  · exact f1.liv a (.inl z.1) h0
                  · exact h1 z
                · refine call_end f1 r1 nd ea eb t (fun _ z => .inl z) (fun b z => z.imp id fun z => by rw [z]; exact h0) (h4.lessB fun b z => ?_)
                  rcases z with z | z | z
                  · exact .inl (.inl z)
                  · exact .inl (.inr z)
                  · exact .inr z
                · rcases z with (z | z) | z | z
                  · exact .inr (.inl (.inl z))
                  · exact .inl z
                  · exact .inr (.inl (.inr z))
                  · exact .inr (.inr z)
              | al i => cases hr
              | io i => cases hr
            · exact q1.elim
          · exact q1.elim
  · exact q1.elim
theorem call_read (W : U.Ok n) (hp : ∃ ps, U.Γ.fps[f]? = some ps) {σ : VS} {H : Hp} {Q : VK} (q : TEv U n Wx (.call f as) σ H Q) : TAv U n Wx as σ H fun vs H1 => spF U.K U.Cl U.Γ n f vs H1 Q (WE Wx σ) := by
  obtain ⟨s, M, B, f', q⟩ := q
  simp only [evE] at q
  exact ⟨s, M, B, f', OKs.bind q fun ws s1 vs H1 M1 t1 f1 r1 q1 => call_core W hp f1 r1 (show OKE U.K U.Cl Wx σ H1 M1 B (callW (callF U.Γ.G U.Γ.F n) f ws s1) Q from q1)⟩
def Exs.len : Exs → Nat
  | .nil => 0
  | .cons _ as => as.len + 1
theorem evEs_len {G : List D} {C : Nat → List SV → CR} : ∀ {as : Exs} {s s' : Sl} {ws : List EV.W}, evEs G C as s = .ok ws s' → ws.length = as.len
  | .nil, s, s', ws, e => by simp only [evEs] at e; cases e; rfl
  | .cons a as, s, s', ws, e => by
    simp only [evEs] at e
    cases e1 : evE G C a s with
    | exc c s1 => rw [e1] at e; cases e
    | stuck => rw [e1] at e; cases e
    | ok w s1 =>
      rw [e1] at e
      simp only [R.bind] at e
      cases e2 : evEs G C as s1 with
      | exc c s1 => rw [e2] at e; cases e
      | stuck => rw [e2] at e; cases e
      | ok ws2 s2 =>
        rw [e2] at e
        cases e
        rw [List.length_cons, evEs_len e2]
        rfl
theorem RHs.app {K : PySem.W.Frag} {H : Hp} {A : AS} {σ : VS} : ∀ {ws zs : List W} {vs us : List V}, RHs K H A σ ws vs → RHs K H A σ zs us → RHs K H A σ (ws ++ zs) (vs ++ us)
  | _, _, _, _, .nil, h => h
  | _, _, _, _, .cons r t, h => .cons r (RHs.app t h)
theorem RHs.perm {K : PySem.W.Frag} {H : Hp} {A : AS} {σ : VS} {ws : List W} {vs : List V} (r : RHs K H A σ ws vs) : ∀ pm : List Nat, RHs K H A σ (permW pm ws) (permW pm vs)
  | [] => .nil
  | i :: pm => by
    unfold permW
    rw [List.filterMap_cons, List.filterMap_cons]
    have ih := RHs.perm r pm
    unfold permW at ih
    cases e : ws[i]? with
    | none =>
      have : vs[i]? = none := by
        rw [List.getElem?_eq_none_iff] at e ⊢
        rw [← r.len]; exact e
      rw [this]
      exact ih
    | some w =>
      obtain ⟨v, h1, h2⟩ := r.get e
      rw [h1]
      exact .cons h2 ih
theorem vals_perm {vs : List V} {us : List Value} (r : Vals vs us) : ∀ pm : List Nat, Vals (permW pm vs) (permW pm us)
  | [] => .nil
  | i :: pm => by
    unfold permW
    rw [List.filterMap_cons, List.filterMap_cons]
    have ih := vals_perm r pm
    unfold permW at ih
    cases e : us[i]? with
    | none =>
      have : vs[i]? = none := by
        rw [List.getElem?_eq_none_iff] at e ⊢
        rw [r.length]; exact e
      rw [this]
      exact ih
    | some u =>
      have hi : i < vs.length := by
        have := (List.getElem?_eq_some_iff.mp e).1
        rw [r.length]; exact this
      obtain ⟨v, h1, h2⟩ := vals_at r e
      rw [h1]
      exact .cons h2 ih
theorem callK_read (W : U.Ok n) (hp : ∃ ps, U.Γ.fps[f]? = some ps) {ks : Exs} {nm : List String} {pm : List Nat} {σ : VS} {H : Hp} {Q : VK} (q : TEv U n Wx (.callK f as ks nm pm) σ H Q) :
    TAv U n Wx as σ H fun vs H1 => TAv U n Wx ks σ H1 fun us H2 => spF U.K U.Cl U.Γ n f (permW pm (vs ++ us)) H2 Q (WE Wx σ) := by
  obtain ⟨s, M, B, f', q⟩ := q
  simp only [evE] at q
  exact ⟨s, M, B, f', OKs.bind q fun ws s1 vs H1 M1 t1 f1 r1 q1 => ⟨s1, M1, B, f1, OKs.bind q1 fun zs s2 us H2 M2 t2 f2 r2 q2 => call_core W hp f2 (((r1.step t2 fun b z => f1.liv b (.inr z)).app r2).perm pm) q2⟩⟩
/-- the callee runs -/
theorem run_G {k : Nat} {a : Addr} {fd : FuncData} {ps : List Str} {sp : Sp} {pins : List (Addr × Obj)} {σ : VS} {H : Hp} {s : Shared} {Q : VK} {us : List Value} {vs : List V} (F : FnG X.prog X.w X.K X.mg X.base k a fd ps sp) (hr : Room k X.A) (hg : X.A.guards = some [])
    (hb : Binds X.K fd ps []) (tk : Takes X Wx) (I : Inv X pins σ H s) (r : Vals vs us) (h : sp vs H Q (WE Wx σ)) : wpAny (model X.prog X.w) X.A (PySem.call (.ref a) us) (EP X pins σ Q) X.xe s := by
  have ln : us.length = ps.length := by rw [← r.length]; exact F.len _ _ _ _ h
  have bd := hb s us I.kIn (by rw [List.append_nil]; exact ln)
  rw [List.append_nil] at bd
  refine wpAny_call (codeAny_mono (F.run X.A X.stack s H ⟨us, []⟩ us vs Q (WE Wx σ) hr hg I.env0 bd r h) fun out s' hq => ?_)
  cases out with
  | error e => exact passAt tk σ pins H s e s' I hq
  | ok fl =>
    cases fl with
    | ret u => exact I.after hq
    | next => exact False.elim hq
    | brk => exact False.elim hq
    | cont => exact False.elim hq
theorem s_call (W : U.Ok n) (h : Fit U n cv X) (tk : Takes X Wx) (c : glB cv x = true) (c2 : U.Γ.fnm[f]? = some x) (ha : PA X (l :: es) (TAv U n Wx as))
    (hs : starEach (l :: es) X.env = (false, eval l X.env) :: starEach es X.env) (hpl : (backTo pos (starEach es X.env)).any (·.1) = false) : PE X (.Call (.Name x p) (l :: es) [] pos) (TEv U n Wx (.call f as)) := by
  obtain ⟨g1, g2, _⟩ := h.gl c
  obtain ⟨a, fd, ps, h1, h2, h3, h4, h5⟩ := W.fn f x c2
  rw [← h.P, ← h.w, ← h.K, ← h.mg, ← h.base] at h2
  rw [← h.mg] at h3
  rw [← h.K] at h4 h5
  refine ⟨fun pins s σ H Q I q => ?_⟩
  refine wpAny_Call_Name_kw (ld_glob I g1 h3 ?_ g2)
  refine PySem.W.callWith_K (h₀ := X.base) I.ok.mod.kin h4 (thn (ha.run pos pins s σ H _ I (call_read W ⟨ps, h1⟩ q)) fun us s1 ⟨vs, H1, I1, r, q1⟩ => ⟨I1.kIn, ?_⟩) hs hpl
  refine run_G h2 h.room h.guards h5 tk I1 r ?_
  rw [h.K]
  exact q1
theorem s_call0 (W : U.Ok n) (h : Fit U n cv X) (tk : Takes X Wx) (c : glB cv x = true) (c2 : U.Γ.fnm[f]? = some x) : PE X (.Call (.Name x p) [] [] pos) (TEv U n Wx (.call f .nil)) := by
  obtain ⟨g1, g2, _⟩ := h.gl c
  obtain ⟨a, fd, ps, h1, h2, h3, h4, h5⟩ := W.fn f x c2
  rw [← h.P, ← h.w, ← h.K, ← h.mg, ← h.base] at h2
  rw [← h.mg] at h3
  rw [← h.K] at h4 h5
  refine ⟨fun pins s σ H Q I q => ?_⟩
  refine wpAny_Call_Name_kw (ld_glob I g1 h3 ?_ g2)
  obtain ⟨s0, M, B, f0, q1⟩ := call_read W ⟨ps, h1⟩ q
  simp only [evEs] at q1
  refine PySem.W.callWith_K0 I.kIn h4 (run_G (us := []) (vs := []) h2 h.room h.guards h5 tk I .nil ?_)
  rw [h.K]
  exact q1 [] H M (Stp.refl _ _) f0 .nil
/-- the values of the keywords -/
theorem PK.imp {X : Cx} {kws : List Keyword} {t t' : TA} (h : PK X kws t) (i : ∀ σ H Q, t' σ H Q → t σ H Q) : PK X kws t' := ⟨fun pos pins s σ H Q I q => h.run pos pins s σ H Q I (i σ H Q q)⟩
theorem s_pk0 : PK X [] (TAv U n Wx .nil) := PK.imp pk_nil fun σ H Q ⟨s, M, B, f, q⟩ => by simp only [evEs] at q; exact q [] H M (Stp.refl _ _) f .nil
theorem s_pk1 {as : Exs} {a : Ex} {kws : List Keyword} {nm : Option Str} {kp : Pos} (ha : PE X l (TEv U n Wx a)) (hb : PK X kws (TAv U n Wx as)) : PK X (⟨nm, l, kp⟩ :: kws) (TAv U n Wx (.cons a as)) := by
  refine PK.imp (pk_cons ha hb) fun σ H Q ⟨s, M, B, f, q⟩ => ⟨s, M, B, f, ?_⟩
  simp only [evEs] at q
  have q' : OKs U.K U.Cl Wx σ H M B ((evE U.Γ.G (callF U.Γ.G U.Γ.F n) a s).bind fun x s1 => (evEs U.Γ.G (callF U.Γ.G U.Γ.F n) as s1).bind fun xs s2 => .ok (x :: xs) s2) Q := q
  cases e : evE U.Γ.G (callF U.Γ.G U.Γ.F n) a s with
  | exc c s' => rw [e] at q'; exact q'
  | stuck => rw [e] at q'; exact q'
  | ok w s1 =>
    rw [e] at q'
    intro v H1 M1 t1 f1 rt
    refine ⟨s1, M1, B, f1, ?_⟩
    have q2 := OKs.later t1 q'
    cases e2 : evEs U.Γ.G (callF U.Γ.G U.Γ.F n) as s1 with
    | exc c s' => simp only [R.bind, e2] at q2; exact q2
    | stuck => simp only [R.bind, e2] at q2; exact q2
    | ok ws s2 =>
      simp only [R.bind, e2] at q2
      intro vs H2 M2 t2 f2 rs
      exact q2 (v :: vs) H2 M2 t2 f2 (.cons (rt.rh.step t2 fun b z => f1.liv b (.inr z)) rs)
theorem run_GK {k : Nat} {a : Addr} {fd : FuncData} {ps : List Str} {sp : Sp} {pins : List (Addr × Obj)} {σ : VS} {H : Hp} {s : Shared} {Q : VK} {us ws : List Value} {vs : List V} {ks : List Str} {pm : List Nat} (F : FnG X.prog X.w X.K X.mg X.base k a fd ps sp) (hr : Room k X.A) (hg : X.A.guards = some [])
    (hb : bindArgs fd ⟨us, ks.zip ws⟩ = pure (ps.zip (permW pm (us ++ ws)))) (tk : Takes X Wx) (I : Inv X pins σ H s) (r : Vals vs (permW pm (us ++ ws))) (h : sp vs H Q (WE Wx σ)) : wpAny (model X.prog X.w) X.A (PySem.call (.ref a) us (ks.zip ws)) (EP X pins σ Q) X.xe s := by
  refine wpAny_call (codeAny_mono (F.run X.A X.stack s H ⟨us, ks.zip ws⟩ (permW pm (us ++ ws)) vs Q (WE Wx σ) hr hg I.env0 (BindsTo.of_eq hb) r h) fun out s' hq => ?_)
  cases out with
  | error e => exact passAt tk σ pins H s e s' I hq
  | ok fl =>
    cases fl with
    | ret u => exact I.after hq
    | next => exact False.elim hq
    | brk => exact False.elim hq
    | cont => exact False.elim hq
theorem tav_len {as : Exs} {σ : VS} {H : Hp} {Q : List V → Hp → Prop} (h : TAv U n Wx as σ H Q) : TAv U n Wx as σ H fun vs H1 => vs.length = as.len ∧ Q vs H1 := by
  obtain ⟨s, M, B, f, q⟩ := h
  refine ⟨s, M, B, f, ?_⟩
  cases e : evEs U.Γ.G (callF U.Γ.G U.Γ.F n) as s with
  | exc c s' => rw [e] at q; exact q
  | stuck => rw [e] at q; exact q
  | ok ws s' =>
    rw [e] at q
    exact fun vs H1 M1 t1 f1 r1 => ⟨by rw [← r1.len, evEs_len e], q vs H1 M1 t1 f1 r1⟩
theorem s_callK (W : U.Ok n) (h : Fit U n cv X) (tk : Takes X Wx) (c : glB cv x = true) (c2 : U.Γ.fnm[f]? = some x) {ks : Exs} {nm : List String} {pm : List Nat} {kws : List Keyword} (c3 : (f, es.length + 1, nm.map Str.ofString, pm) ∈ U.Γ.kws) (ha : PA X (l :: es) (TAv U n Wx as)) (hk : PK X kws (TAv U n Wx ks))
    (hall : (backToKw pos (keywordEach kws X.env)).all (·.1.isSome) = true) (hks : (backToKw pos (keywordEach kws X.env)).filterMap (·.1) = nm.map Str.ofString) (hl1 : as.len = es.length + 1) (hl2 : ks.len = nm.length)
    (hs : starEach (l :: es) X.env = (false, eval l X.env) :: starEach es X.env) (hpl : ((backTo pos (starEach (l :: es) X.env)).any (·.1) || (backToKw pos (keywordEach kws X.env)).any (·.1.isNone)) = false) : PE X (.Call (.Name x p) (l :: es) kws pos) (TEv U n Wx (.callK f as ks nm pm)) := by
  obtain ⟨g1, g2, _⟩ := h.gl c
  obtain ⟨a, fd, ps, h1, h2, h3, h4, h5⟩ := W.kw f _ _ pm x c3 c2
  rw [← h.P, ← h.w, ← h.K, ← h.mg, ← h.base] at h2
  rw [← h.mg] at h3
  rw [← h.K] at h4
  refine ⟨fun pins s σ H Q I q => ?_⟩
  refine wpAny_Call_Name_kw (ld_glob I g1 h3 ?_ g2)
  refine PySem.W.callWith_KW (h₀ := X.base) I.ok.mod.kin h4 hall (thn (ha.run pos pins s σ H _ I (tav_len (callK_read W ⟨ps, h1⟩ q))) fun us s1 ⟨vs, H1, I1, r, ln1, q1⟩ => ?_) hpl hs
  refine thn (hk.run pos pins s1 σ H1 _ I1 (tav_len q1)) fun ws s2 ⟨zs, H2, I2, rz, ln2, q2⟩ => ⟨I2.kIn, ?_⟩
  rw [hks]
  refine run_GK h2 h.room h.guards (h5 us ws (by rw [← r.length, ln1, hl1]) (by rw [← rz.length, ln2, hl2, List.length_map])) tk I2 (vals_perm (r.append rz) pm) ?_
  rw [h.K]
  exact q2
theorem s_callK0 (W : U.Ok n) (h : Fit U n cv X) (tk : Takes X Wx) (c : glB cv x = true) (c2 : U.Γ.fnm[f]? = some x) {ks : Exs} {nm : List String} {pm : List Nat} {kws : List Keyword} (c3 : (f, 0, nm.map Str.ofString, pm) ∈ U.Γ.kws) (hk : PK X kws (TAv U n Wx ks))
    (hall : (backToKw pos (keywordEach kws X.env)).all (·.1.isSome) = true) (hks : (backToKw pos (keywordEach kws X.env)).filterMap (·.1) = nm.map Str.ofString) (hl2 : ks.len = nm.length)
    (hpl : ((backTo pos (starEach [] X.env)).any (·.1) || (backToKw pos (keywordEach kws X.env)).any (·.1.isNone)) = false) : PE X (.Call (.Name x p) [] kws pos) (TEv U n Wx (.callK f .nil ks nm pm)) := by
  obtain ⟨g1, g2, _⟩ := h.gl c
  obtain ⟨a, fd, ps, h1, h2, h3, h4, h5⟩ := W.kw f _ _ pm x c3 c2
  rw [← h.P, ← h.w, ← h.K, ← h.mg, ← h.base] at h2
  rw [← h.mg] at h3
  rw [← h.K] at h4
  refine ⟨fun pins s σ H Q I q => ?_⟩
  refine wpAny_Call_Name_kw (ld_glob I g1 h3 ?_ g2)
  obtain ⟨s0, M, B, f0, q1⟩ := callK_read W ⟨ps, h1⟩ q
  simp only [evEs] at q1
  have q2 := q1 [] H M (Stp.refl _ _) f0 .nil
  refine PySem.W.callWith_KW0 (h₀ := X.base) I.ok.mod.kin h4 hall (thn (hk.run pos pins s σ H _ I (tav_len q2)) fun ws s2 ⟨zs, H2, I2, rz, ln2, q3⟩ => ⟨I2.kIn, ?_⟩) hpl
  rw [hks]
  refine run_GK (us := []) h2 h.room h.guards (h5 [] ws rfl (by rw [← rz.length, ln2, hl2, List.length_map])) tk I2 (vals_perm (show Vals ([] ++ zs) ([] ++ ws) from rz) pm) ?_
  rw [h.K]
  exact q3
/-- isinstance(e, T) -/
theorem s_isi {g : Bi} {T : String} {a : Ex} {p2 : Pos} (W : U.Ok n) (h : Fit U n cv X) (e : isiTy g = some T) (c : glB cv "isinstance" = true) (c2 : glB cv (Str.ofString T) = true) (ha : PE X l (TEv U n Wx a))
    (hs : starEach [l, .Name (Str.ofString T) p2] X.env = (false, eval l X.env) :: starEach [.Name (Str.ofString T) p2] X.env) :
    PE X (.Call (.Name "isinstance" p) [l, .Name (Str.ofString T) p2] [] pos) (TEv U n Wx (.bi g (.cons a .nil))) := by
  obtain ⟨g1, g2, g3⟩ := h.gl c
  obtain ⟨k1, k2, k3⟩ := h.gl c2
  have b1 : bootBuiltins (Str.ofString T) = some (.type T) ∧ T ∈ bltN := by
    cases g <;> first
      | (cases e; done)
      | (cases e; exact ⟨by decide +kernel, by decide⟩)
  have m1 : X.mg (Str.ofString T) = none := by rw [h.mg]; exact W.bl T b1.2
  have m2 : X.mg ("isinstance" : Str) = none := by rw [h.mg]; exact W.bl "isinstance" (by decide)
  have pt : PE X (.Name (Str.ofString T) p2) (tC (.ty T)) := pe_bltn k1 m1 b1.1 rfl k3 k2
  refine PE.imp (pe_callB call_isi g1 m2 PyProof.Rows.boot_isinstance (pa_cons ha (pa_cons pt pa_nil (by rfl)) hs) g3 g2 hs (by rfl)) fun σ H Q ⟨s, M, B, f, q⟩ => ?_
  simp only [evE, evEs] at q
  have q' : OKE U.K U.Cl Wx σ H M B ((evE U.Γ.G (callF U.Γ.G U.Γ.F n) a s).bind fun x s1 => R.of s1 ((dens s1 [x]).bind fun xs => biD g xs)) Q := by
    cases e : evE U.Γ.G (callF U.Γ.G U.Γ.F n) a s with
    | ok w s' => rw [e] at q; exact q
    | exc c s' => rw [e] at q; exact q
    | stuck => rw [e] at q; exact q
  refine ⟨s, M, B, f, q'.bind fun w1 s1 v1 H1 M1 t1 f1 r1 q1 => ?_⟩
  obtain ⟨w, e1, q2⟩ := q1.of
  obtain ⟨xs, e2, e3⟩ := Option.bind_eq_some_iff.mp e1
  simp only [dens] at e2
  obtain ⟨y, e4, e5⟩ := Option.bind_eq_some_iff.mp e2
  cases e5
  obtain ⟨b, rfl, hk⟩ := isi_kit g T y w e e3
  have rw1 := r1.den f1 e4
  rw [h.K]
  exact ⟨v1, .ty T, _, _, b, rfl, .ty T, ty_of rw1, kit_ty hk, q2.flat f1 (.bl b)⟩
end
end EV

namespace EV
open PySem PySem.Spec PyProof.Rows L2
/-! ### and, or -/
def TAn (U : Wd) (n : Nat) (Wx : WX) (as : Exs) : TE := fun σ H Q => ∃ s M B, RF U.K H M B s σ ∧ OKE U.K U.Cl Wx σ H M B (evAnd U.Γ.G (callF U.Γ.G U.Γ.F n) as s) Q
def TOr (U : Wd) (n : Nat) (Wx : WX) (as : Exs) : TE := fun σ H Q => ∃ s M B, RF U.K H M B s σ ∧ OKE U.K U.Cl Wx σ H M B (evOr U.Γ.G (callF U.Γ.G U.Γ.F n) as s) Q
def TAnT (U : Wd) (n : Nat) (Wx : WX) (as : Exs) : TT := fun σ H Q => ∃ s M B, RF U.K H M B s σ ∧ OKX (fun H' _ _ b => Q b H') U.K U.Cl Wx σ H M B (evAnd U.Γ.G (callF U.Γ.G U.Γ.F n) as s).tst
def TOrT (U : Wd) (n : Nat) (Wx : WX) (as : Exs) : TT := fun σ H Q => ∃ s M B, RF U.K H M B s σ ∧ OKX (fun H' _ _ b => Q b H') U.K U.Cl Wx σ H M B (evOr U.Γ.G (callF U.Γ.G U.Γ.F n) as s).tst
section
variable {U : Wd} {n : Nat} {cv : Cv} {X : Cx} {Wx : WX} {pos : Pos} {a b : Ex} {bs : Exs} {l r : Expr} {rest : List Expr}
theorem s_and1 (ha : PE X l (TEv U n Wx a)) : PE X (.BoolOp .And [l] pos) (TAn U n Wx (.cons a .nil)) := PE.imp (pe_one ha) fun σ H Q ⟨s, M, B, f, q⟩ => ⟨s, M, B, f, by simpa only [evAnd] using q⟩
theorem s_or1 (ha : PE X l (TEv U n Wx a)) : PE X (.BoolOp .Or [l] pos) (TOr U n Wx (.cons a .nil)) := PE.imp (pe_one ha) fun σ H Q ⟨s, M, B, f, q⟩ => ⟨s, M, B, f, by simpa only [evOr] using q⟩
theorem t_and1 (ha : PT X l (TTv U n Wx a)) : PW X (.BoolOp .And [l] pos) (TAnT U n Wx (.cons a .nil)) := PW.imp (pw_and1 ha) fun σ H Q ⟨s, M, B, f, q⟩ => ⟨s, M, B, f, by simpa only [evAnd] using q⟩
theorem t_or1 (ha : PT X l (TTv U n Wx a)) : PW X (.BoolOp .Or [l] pos) (TOrT U n Wx (.cons a .nil)) := PW.imp (pw_or1 ha) fun σ H Q ⟨s, M, B, f, q⟩ => ⟨s, M, B, f, by simpa only [evOr] using q⟩
theorem bool_cases {w : W} {x : R W} {y : R W} {K : PySem.W.Frag} {Cl : Nat → Value} {σ : VS} {H : Hp} {M B : AS} {Q : VK} (q : OKE K Cl Wx σ H M B (match w with
    | .d (.bool true) => x
    | .d (.bool false) => y
    | _ => .stuck) Q) : (w = .d (.bool true) ∧ OKE K Cl Wx σ H M B x Q) ∨ (w = .d (.bool false) ∧ OKE K Cl Wx σ H M B y Q) := by
  split at q
  · exact .inl ⟨rfl, q⟩
  · exact .inr ⟨rfl, q⟩
  · exact q.elim
theorem s_and (h : Fit U n cv X) (ha : PE X l (TEv U n Wx a)) (hb : PE X (.BoolOp .And (r :: rest) pos) (TAn U n Wx (.cons b bs))) : PE X (.BoolOp .And (l :: r :: rest) pos) (TAn U n Wx (.cons a (.cons b bs))) := by
  refine PE.imp (pe_andT ha hb) fun σ H Q ⟨s, M, B, f, q⟩ => ?_
  simp only [evAnd] at q
  refine ⟨s, M, B, f, OKE.bind q fun w s1 v H1 M1 t1 f1 r1 q1 => ?_⟩
  rw [h.K]
  rcases bool_cases q1 with ⟨rfl, q2⟩ | ⟨rfl, q2⟩
  · cases (show RD _ _ _ _ _ from r1)
    exact ⟨true, rfl, iteT ⟨s1, M1, B, f1, q2⟩⟩
  · cases (show RD _ _ _ _ _ from r1)
    exact ⟨false, rfl, iteF (q2.flat f1 (.bl false))⟩
theorem s_or (h : Fit U n cv X) (ha : PE X l (TEv U n Wx a)) (hb : PE X (.BoolOp .Or (r :: rest) pos) (TOr U n Wx (.cons b bs))) : PE X (.BoolOp .Or (l :: r :: rest) pos) (TOr U n Wx (.cons a (.cons b bs))) := by
  refine PE.imp (pe_orT ha hb) fun σ H Q ⟨s, M, B, f, q⟩ => ?_
  simp only [evOr] at q
  refine ⟨s, M, B, f, OKE.bind q fun w s1 v H1 M1 t1 f1 r1 q1 => ?_⟩
  rw [h.K]
  rcases bool_cases q1 with ⟨rfl, q2⟩ | ⟨rfl, q2⟩
  · cases (show RD _ _ _ _ _ from r1)
    exact ⟨true, rfl, iteT (q2.flat f1 (.bl true))⟩
  · cases (show RD _ _ _ _ _ from r1)
    exact ⟨false, rfl, iteF ⟨s1, M1, B, f1, q2⟩⟩
theorem tst_and {s : Sl} : (evAnd U.Γ.G (callF U.Γ.G U.Γ.F n) (.cons a (.cons b bs)) s).tst = (evE U.Γ.G (callF U.Γ.G U.Γ.F n) a s).bind fun x s1 => match x with
    | .d (.bool true) => (evAnd U.Γ.G (callF U.Γ.G U.Γ.F n) (.cons b bs) s1).tst
    | .d (.bool false) => .ok false s1
    | _ => .stuck := by
  simp only [evAnd]
  cases evE U.Γ.G (callF U.Γ.G U.Γ.F n) a s with
  | ok w s' =>
    simp only [R.bind]
    cases w with
    | d x =>
      cases x with
      | bool b => cases b <;> rfl
      | _ => rfl
    | _ => rfl
  | exc c s' => rfl
  | stuck => rfl
theorem tst_or {s : Sl} : (evOr U.Γ.G (callF U.Γ.G U.Γ.F n) (.cons a (.cons b bs)) s).tst = (evE U.Γ.G (callF U.Γ.G U.Γ.F n) a s).bind fun x s1 => match x with
    | .d (.bool true) => .ok true s1
    | .d (.bool false) => (evOr U.Γ.G (callF U.Γ.G U.Γ.F n) (.cons b bs) s1).tst
    | _ => .stuck := by
  simp only [evOr]
  cases evE U.Γ.G (callF U.Γ.G U.Γ.F n) a s with
  | ok w s' =>
    simp only [R.bind]
    cases w with
    | d x =>
      cases x with
      | bool b => cases b <;> rfl
      | _ => rfl
    | _ => rfl
  | exc c s' => rfl
  | stuck => rfl
theorem bool_casesX {α : Type} {T : Hp → AS → Sl → α → Prop} {w : W} {x : R α} {y : R α} {K : PySem.W.Frag} {Cl : Nat → Value} {σ : VS} {H : Hp} {M B : AS} (q : OKX T K Cl Wx σ H M B (match w with
    | .d (.bool true) => x
    | .d (.bool false) => y
    | _ => .stuck)) : (w = .d (.bool true) ∧ OKX T K Cl Wx σ H M B x) ∨ (w = .d (.bool false) ∧ OKX T K Cl Wx σ H M B y) := by
  split at q
  · exact .inl ⟨rfl, q⟩
  · exact .inr ⟨rfl, q⟩
  · exact q.elim
/-- from a bool's value to its test -/
theorem tst_d {r : R W} {k : W → Sl → R Bool} {T : Hp → AS → Sl → Bool → Prop} {K : PySem.W.Frag} {Cl : Nat → Value} {σ : VS} {H : Hp} {M B : AS} {P : Bool → Hp → Prop} (q : OKX T K Cl Wx σ H M B (r.bind k))
    (hk : ∀ w s1, OKX T K Cl Wx σ H M B (k w s1) → ∃ b, w = .d (.bool b))
    (hp : ∀ b s1 H1 M1, Stp M H M1 H1 → RF K H1 M1 B s1 σ → OKX T K Cl Wx σ H1 M1 B (k (.d (.bool b)) s1) → P b H1) : OKX (fun H' _ _ b => P b H') K Cl Wx σ H M B r.tst := by
  rw [R.tst_eq]
  cases r with
  | exc c s => exact q
  | stuck => exact q
  | ok w s1 =>
    obtain ⟨b, rfl⟩ := hk w s1 q
    intro H1 M1 t1 f1
    exact hp b s1 H1 M1 t1 f1 (OKX.later t1 q)
theorem t_and (ha : PT X l (TTv U n Wx a)) (hb : PW X (.BoolOp .And (r :: rest) pos) (TAnT U n Wx (.cons b bs))) : PW X (.BoolOp .And (l :: r :: rest) pos) (TAnT U n Wx (.cons a (.cons b bs))) := by
  refine PW.imp (pw_and ha hb) fun σ H Q ⟨s, M, B, f, q⟩ => ⟨s, M, B, f, ?_⟩
  rw [tst_and] at q
  refine tst_d q (fun w s1 q1 => ?_) fun k s1 H1 M1 t1 f1 q1 => ?_
  · rcases bool_casesX q1 with ⟨rfl, _⟩ | ⟨rfl, _⟩
    · exact ⟨_, rfl⟩
    · exact ⟨_, rfl⟩
  · cases k with
    | true => exact iteT ⟨s1, M1, B, f1, q1⟩
    | false => exact iteF (q1 H1 M1 (Stp.refl _ _) f1)
theorem t_or (ha : PT X l (TTv U n Wx a)) (hb : PW X (.BoolOp .Or (r :: rest) pos) (TOrT U n Wx (.cons b bs))) : PW X (.BoolOp .Or (l :: r :: rest) pos) (TOrT U n Wx (.cons a (.cons b bs))) := by
  refine PW.imp (pw_or ha hb) fun σ H Q ⟨s, M, B, f, q⟩ => ⟨s, M, B, f, ?_⟩
  rw [tst_or] at q
  refine tst_d q (fun w s1 q1 => ?_) fun k s1 H1 M1 t1 f1 q1 => ?_
  · rcases bool_casesX q1 with ⟨rfl, _⟩ | ⟨rfl, _⟩
    · exact ⟨_, rfl⟩
    · exact ⟨_, rfl⟩
  · cases k with
    | true => exact iteT (q1 H1 M1 (Stp.refl _ _) f1)
    | false => exact iteF ⟨s1, M1, B, f1, q1⟩
theorem s_andd {as : Exs} {es : List Expr} (ha : PE X (.BoolOp .And es pos) (TAn U n Wx as)) : PE X (.BoolOp .And es pos) (TEv U n Wx (.andd as)) := PE.imp ha fun σ H Q ⟨s, M, B, f, q⟩ => ⟨s, M, B, f, by simpa only [evE] using q⟩
theorem s_orr {as : Exs} {es : List Expr} (ha : PE X (.BoolOp .Or es pos) (TOr U n Wx as)) : PE X (.BoolOp .Or es pos) (TEv U n Wx (.orr as)) := PE.imp ha fun σ H Q ⟨s, M, B, f, q⟩ => ⟨s, M, B, f, by simpa only [evE] using q⟩
theorem t_andd {as : Exs} {es : List Expr} (ha : PW X (.BoolOp .And es pos) (TAnT U n Wx as)) : PT X (.BoolOp .And es pos) (TTv U n Wx (.andd as)) := PT.imp ha.pt fun σ H Q ⟨s, M, B, f, q⟩ => ⟨s, M, B, f, by simpa only [evE] using q⟩
theorem t_orr {as : Exs} {es : List Expr} (ha : PW X (.BoolOp .Or es pos) (TOrT U n Wx as)) : PT X (.BoolOp .Or es pos) (TTv U n Wx (.orr as)) := PT.imp ha.pt fun σ H Q ⟨s, M, B, f, q⟩ => ⟨s, M, B, f, by simpa only [evE] using q⟩
end
/-! ### targets -/
section
variable {K : PySem.W.Frag} {H H' : Hp} {M M' B : AS} {s s' : Sl} {σ : VS}
/-- a slot holds data -/
theorem RF.put {i : Nat} {x : D} {v : V} (f : RF K H M B s σ) (r : RD K H (Av M B) x v) : RF K H M B (s.set i (some (.d x))) (σ.set i (some v)) := by
  refine ⟨by rw [List.length_set, List.length_set]; exact f.len, fun j y q => ?_, fun j ys q => ?_, fun j k a xs ys hjk q1 q2 q3 q4 => ?_, f.liv, f.dis⟩
  · by_cases hj : i = j
    · subst hj
      have hl : i < s.length := by
        have := (List.getElem?_eq_some_iff.mp q).1
        rwa [List.length_set] at this
      rw [List.getElem?_set_self hl] at q
      cases q
      exact ⟨v, List.getElem?_set_self (by rw [← f.len]; exact hl), r⟩
    · rw [List.getElem?_set_ne hj] at q ⊢
      exact f.dat j y q
  · by_cases hj : i = j
    · subst hj
      have hl : i < s.length := by
        have := (List.getElem?_eq_some_iff.mp q).1
        rwa [List.length_set] at this
      rw [List.getElem?_set_self hl] at q
      cases q
    · rw [List.getElem?_set_ne hj] at q ⊢
      exact f.own j ys q
  · have ne : ∀ (m : Nat) (z : List D), (s.set i (some (SV.d x)))[m]? = some (some (.own z)) → i ≠ m := fun m z q e => by
      subst e
      have hl : i < s.length := by
        have := (List.getElem?_eq_some_iff.mp q).1
        rwa [List.length_set] at this
      rw [List.getElem?_set_self hl] at q
      cases q
    have n1 := ne j xs q1
    have n2 := ne k ys q2
    rw [List.getElem?_set_ne n1] at q1 q3
    rw [List.getElem?_set_ne n2] at q2 q4
    exact f.sep j k a xs ys hjk q1 q2 q3 q4
end
/-! the slots of a target -/
mutual
def Tg.sl : Tg → List Nat
  | .nm i => [i]
  | .tp ts => ts.sl
def Tgs.sl : Tgs → List Nat
  | .nil => []
  | .cons t ts => t.sl ++ ts.sl
end
/-- a target takes data -/
def OKT (K : PySem.W.Frag) (H : Hp) (M B : AS) (ch : List Nat) (σ : VS) (o : Option Sl) (Q : VS → Hp → Prop) : Prop := match o with
  | some s' => ∀ σ', RF K H M B s' σ' → (∀ i, i ∉ ch → σ'[i]? = σ[i]?) → Q σ' H
  | none => False
def TGv (K : PySem.W.Frag) (tg : Tg) : TG := fun v σ H Q => ∃ s M B x, RF K H M B s σ ∧ RD K H (Av M B) x v ∧ OKT K H M B tg.sl σ (bindT tg x s) Q
def TGsv (K : PySem.W.Frag) (tg : Tgs) : TGs := fun vs σ H Q => ∃ s M B xs, RF K H M B s σ ∧ RDs K H (Av M B) xs vs ∧ OKT K H M B tg.sl σ (bindTs tg xs s) Q
theorem PG.imp {X : Cx} {e : Expr} {t t' : TG} (h : PG X e t) (i : ∀ v σ H Q, t' v σ H Q → t v σ H Q) : PG X e t' := ⟨fun pins s σ H v u Q I r q => h.run pins s σ H v u Q I r (i v σ H Q q)⟩
theorem PGs.imp {X : Cx} {e : List Expr} {t t' : TGs} (h : PGs X e t) (i : ∀ v σ H Q, t' v σ H Q → t v σ H Q) : PGs X e t' := ⟨fun pins s σ H v u Q I r q => h.run pins s σ H v u Q I r (i v σ H Q q)⟩
section
variable {U : Wd} {n : Nat} {cv : Cv} {X : Cx} {pos : Pos}
theorem g_nm (h : Fit U n cv X) {i : Nat} {x : Str} (c : stB cv i x = true) : PG X (.Name x pos) (TGv U.K (.nm i)) := by
  unfold stB at c
  simp only [Bool.and_eq_true, decide_eq_true_eq] at c
  obtain ⟨l1, l2⟩ := h.loc c.2
  refine PG.imp (pg_name (i := i) h.nd (by rw [h.N]; exact c.1) l1 l2) fun v σ H Q ⟨s, M, B, x, f, r, q⟩ => ?_
  simp only [bindT] at q
  split at q
  · exact q _ (f.put r) fun j hj => by rw [List.getElem?_set_ne (fun e => hj (by rw [← e]; exact List.mem_singleton.mpr rfl))]
  · exact q.elim
theorem g_tp (h : Fit U n cv X) {ts : Tgs} {es : List Expr} {k m : Nat} (hg : PGs X es (TGsv U.K ts)) (hn : (assignEach es X.env).length = m) (hm : ∀ xs s s', bindTs ts xs s = some s' → xs.length = m) (hst : (assignEach es X.env).findIdx? (·.1) = none) :
    PG X (.Tuple es k pos) (TGv U.K (.tp ts)) := by
  refine PG.imp (pg_tup h.calm hg hn hst) fun v σ H Q ⟨s, M, B, x, f, r, q⟩ => ?_
  cases x with
  | tuple xs =>
    simp only [bindT] at q
    cases r with
    | tup h1 h2 =>
      rw [h.K]
      refine ⟨_, _, rfl, RD.sqT h1, ?_, s, M, B, xs, f, h2, q⟩
      cases e : bindTs ts xs s with
      | none => rw [e] at q; exact q.elim
      | some s' => rw [← h2.len]; exact hm xs s s' e
  | _ => exact q.elim
theorem gs_nil : PGs X [] (TGsv U.K .nil) := by
  refine PGs.imp pgs_nil fun vs σ H Q ⟨s, M, B, xs, f, r, q⟩ => ?_
  cases r with
  | nil =>
    simp only [bindTs] at q
    exact ⟨rfl, q σ f fun _ _ => rfl⟩
  | cons _ _ => exact q.elim
theorem gs_cons {t : Tg} {ts : Tgs} {l : Expr} {es : List Expr} (hg : PG X l (TGv U.K t)) (hs : PGs X es (TGsv U.K ts)) (ha : (assignEach (l :: es) X.env).map (·.2) = assign l X.env :: (assignEach es X.env).map (·.2)) :
    PGs X (l :: es) (TGsv U.K (.cons t ts)) := by
  refine PGs.imp (pgs_cons hg hs ha) fun vs σ H Q ⟨s, M, B, xs, f, r, q⟩ => ?_
  cases r with
  | nil => exact q.elim
  | @cons x v xs vs r1 r2 =>
    simp only [bindTs] at q
    refine ⟨v, vs, rfl, s, M, B, x, f, r1, ?_⟩
    cases e : bindT t x s with
    | none => rw [e] at q; exact q.elim
    | some s1 =>
      rw [e] at q
      intro σ1 f1 k1
      refine ⟨s1, M, B, xs, f1, r2, ?_⟩
      have q : OKT U.K H M B (t.sl ++ ts.sl) σ (bindTs ts xs s1) Q := q
      cases e2 : bindTs ts xs s1 with
      | none => rw [e2] at q; exact q.elim
      | some s2 =>
        rw [e2] at q
        exact fun σ2 f2 k2 => q σ2 f2 fun i hi => (k2 i fun z => hi (List.mem_append_right _ z)).trans (k1 i fun z => hi (List.mem_append_left _ z))
end
end EV

namespace EV
open PySem PySem.Spec PyProof.Rows L2
/-! ### what is walked: lists and tuples, side by side, numbered -/
inductive SK where
  | lst | tup
def SqK (K : PySem.W.Frag) : SK → Hp → Addr → List V → Prop
  | .lst, H, a, xs => SqL K H a xs
  | .tup, H, a, xs => SqT K H a xs
def itO : SK → Addr → Obj
  | .lst, a => { cls := .type "list_iterator", data := .fields #[.ref a, .int 0 0] }
  | .tup, a => { cls := .type "tuple_iterator", data := .fields #[.ref a, .int 0 0] }
def IsIt : SK → Heap → Addr → Addr → Nat → Prop
  | .lst, h, it, a, i => h.IsListIter it a i
  | .tup, h, it, a, i => h.IsTupleIter it a i
def IsSq : SK → Heap → Addr → Array Value → Prop
  | .lst, h, a, its => h.IsList a its
  | .tup, h, a, its => h.IsTuple a its
theorem IsIt.obj {k : SK} {h : Heap} {it a : Addr} {i : Nat} (x : IsIt k h it a i) : ∃ o vs, h.get? it = some o ∧ o.data = .fields vs := by
  cases k with
  | lst => obtain ⟨o, e, _, d⟩ := x; exact ⟨o, _, e, d⟩
  | tup => obtain ⟨o, e, _, d⟩ := x; exact ⟨o, _, e, d⟩
theorem IsIt.keep {k : SK} {h h' : Heap} {it a : Addr} {i : Nat} (x : IsIt k h it a i) (e : ∀ o, h.get? it = some o → h'.get? it = some o) : IsIt k h' it a i := by
  cases k with
  | lst => obtain ⟨o, q, r⟩ := x; exact ⟨o, e o q, r⟩
  | tup => obtain ⟨o, q, r⟩ := x; exact ⟨o, e o q, r⟩
theorem IsIt.new (k : SK) {h : Heap} {it a : Addr} (e : h.get? it = some (itO k a)) : IsIt k h it a 0 := by
  cases k with
  | lst => exact ⟨_, e, rfl, rfl⟩
  | tup => exact ⟨_, e, rfl, rfl⟩
def stOf (k : SK) (it a : Addr) (its : Array Value) : Nat → Heap → Prop := fun i h => IsIt k h it a i ∧ IsSq k h a its
theorem draws (k : SK) {prog : Program} {w : World} {A : Around} (hh : A.handled = none) (it a : Addr) (hne : a ≠ it) (its : Array Value) : Draws prog w A it [it, a] its.size (fun i v => its[i]? = some v) (stOf k it a its) := by
  cases k with
  | lst => exact Draws.list hh it a hne its
  | tup => exact Draws.tuple hh it a hne its
theorem begins (k : SK) (a : Addr) (its : Array Value) : Begins (.ref a) (itO k a) fun h => IsSq k h a its := by
  cases k with
  | lst => exact begins_list a its
  | tup => exact begins_tuple a its
section
variable {X : Cx} {pins : List (Addr × Obj)} {σ : VS} {H : Hp} {s : Shared} {a : Addr} {xs ys : List V} {k : SK}
theorem Inv.sq (I : Inv X pins σ H s) (h : SqK X.K k H a xs) : ∃ its : List Value, Vals xs its ∧ IsSq k s.heap a its.toArray := by
  cases k with
  | lst => obtain ⟨its, r, p, _⟩ := I.list h; exact ⟨its, r, p.isList⟩
  | tup => obtain ⟨its, r, p, _⟩ := I.tuple h; exact ⟨its, r, p⟩
theorem Inv.sqInj (I : Inv X pins σ H s) (h : SqK X.K k H a xs) (h' : SqK X.K k H a ys) : xs = ys := by
  cases k with
  | lst => exact I.list_inj h h'
  | tup => exact I.tuple_inj h h'
theorem IsSq.at {h : Heap} {its : Array Value} (x : IsSq k h a its) : ∃ o, h.get? a = some o := by
  cases k with
  | lst => obtain ⟨o, e, _⟩ := x; exact ⟨o, e⟩
  | tup => obtain ⟨o, e, _⟩ := x; exact ⟨o, e⟩
theorem IsSq.nf {h : Heap} {its : Array Value} (x : IsSq k h a its) {o : Obj} (e : h.get? a = some o) : ∀ vs, o.data ≠ .fields vs := by
  cases k with
  | lst => obtain ⟨o', e', _, n, d⟩ := x; rw [e] at e'; cases e'; intro vs z; rw [d] at z; cases z
  | tup => obtain ⟨o', e', _, n, d⟩ := x; rw [e] at e'; cases e'; intro vs z; rw [d] at z; cases z
end

/-! a new tuple at each turn -/
def ItT (good : Hp → Prop) (n : Nat) (row : Nat → List V) : It :=
  ⟨fun i H => good H ∧ i < n, fun i H v H' => ∃ T, v = .ref T ∧ H T = none ∧ H' = upd H T (.tup (row i)), fun i H => good H ∧ i = n⟩
/-- what a walk by GoesN must tell -/
def Src (P : Program) (w : World) (K : PySem.W.Frag) (tgt : Expr) (z : Addr) (ch : List Addr) (good : Hp → Prop) (n : Nat) (row : Nat → List V) (tn : Nat → Heap → Prop) : Prop :=
  ∀ (X : Cx), X.prog = P → X.w = w → X.K = K → X.calm = true → ∀ (pins : List (Addr × Obj)) (s : Shared) (σ : VS) (H : Hp), Inv X pins σ H s → good H →
    ∃ (fp wr : List Addr) (Y : Nat → Heap → Value → Heap → Prop) (St : Nat → Heap → Prop), GoesN P w X.A tgt z fp wr n Y St ∧ (∀ b ∈ wr, b ∈ ch) ∧ (∀ i, tn i s.heap → St i s.heap) ∧ (∀ i h, St i h → tn i h) ∧
      ∀ i h0 v h, i < n → Y i h0 v h → ∃ (T : Addr) (us : List Value), v = .ref T ∧ h0.objs.size ≤ T ∧ Vals (row i) us ∧ (row i).length ≤ sizeLine ∧ h.IsTuple T us.toArray
theorem turnT {P : Program} {w : World} {K : PySem.W.Frag} {elts : List Expr} {kk : Nat} {tpos : Pos} {z : Addr} {ch : List Addr} {good : Hp → Prop} {n : Nat} {row : Nat → List V} {tn : Nat → Heap → Prop}
    (mem : z ∈ ch) (obj : ∀ i h, tn i h → ∀ b ∈ ch, ∃ o, h.get? b = some o ∧ ∀ v, o.data ≠ .cell v) (keep : ∀ i h h', tn i h → (∀ b ∈ ch, ∀ o, h.get? b = some o → h'.get? b = some o) → tn i h')
    (src : Src P w K (.Tuple elts kk tpos) z ch good n row tn)
    (self : ∀ (A : Around) (i : Nat) (s : Shared) (Q : Value → Shared → Prop) (E : Value → Shared → Prop), tn i s.heap → Q (.ref z) s → wpAny (model P w) A (pyIter (.ref z)) Q E s) : Turn P w K (.Tuple elts kk tpos) (ItT good n row) ch z tn where
  mem := mem
  obj := obj
  keep := keep
  item := by
    intro X hP hw hK hc i pins s σ H E I hf st hg
    obtain ⟨fp, wr, Y, St, G, sub, to, fro, tell⟩ := src X hP hw hK hc pins s σ H I hg.1
    subst hP hw hK
    refine G.goes i s _ E hg.2 (to i st) fun v h' tk hY st' hk htk => ?_
    obtain ⟨T, us, rfl, hT, rv, hz, hTt⟩ := tell i _ _ _ hg.2 hY
    have nT : H T = none := I.hok.fresh hT
    have new : ObjOk X.prog X.w (upd H T (.tup (row i))) h' T (.tup (row i)) := ⟨hz, us, rv, hTt⟩
    have I1 : Inv X pins σ (upd H T (.tup (row i))) { s with heap := h', toks := tk } := I.turnedNew (ch := ch) (fun c o hb q => hk c o (fun w' => hb (sub c w')) q) hf hT new
    refine ⟨.ref T, _, I1, rfl, ⟨T, rfl, nT, rfl⟩, fro _ _ st', fun c hcm => ?_⟩
    obtain ⟨o, e, _⟩ := obj i s.heap st c hcm
    rw [upd_ne (fun q => absurd (Nat.lt_of_lt_of_le (Heap.lt_size e) (by rw [q]; exact hT)) (Nat.lt_irrefl _))]
    exact (hf c hcm).1
  done := by
    intro X hP hw hK hc i pins s σ H E I hf st hg
    obtain ⟨fp, wr, Y, St, G, sub, to, fro, tell⟩ := src X hP hw hK hc pins s σ H I hg.1
    obtain ⟨_, e⟩ := hg
    subst hP hw hK e
    refine thn (G.stops s (fun s1 => Inv X pins σ H s1) E (to _ st) fun h' tk hk htk => ?_) fun r s1 q => q
    exact I.turnedL (ch := ch) (fun c o hb q => hk c o (fun w' => hb (sub c w')) q) hf
  self := self

theorem ltN {n m : Addr} (h : n < m) : n ≠ m := Nat.ne_of_lt h
/-! side by side, two and three -/
abbrev good2 (K : PySem.W.Frag) (k1 k2 : SK) (a b : Addr) (xs ys : List V) : Hp → Prop := fun H => SqK K k1 H a xs ∧ SqK K k2 H b ys
abbrev row2 (xs ys : List V) : Nat → List V := fun i => [xs.getD i .non, ys.getD i .non]
abbrev tn2 (k1 k2 : SK) (a b z TI TO i1 i2 : Addr) : Nat → Heap → Prop := fun i h => IsZip h z TI TO .none ∧ IsTupOf2 h TI (.ref i1) (.ref i2) ∧ (∃ x y, IsTupOf2 h TO x y) ∧ IsIt k1 h i1 a i ∧ IsIt k2 h i2 b i
theorem getD_at {xs : List V} {i : Nat} {v : V} (h : xs[i]? = some v) : xs.getD i .non = v := by rw [List.getD_eq_getElem?_getD, h]; rfl
theorem valAt {xs : List V} {is : List Value} (r : Vals xs is) {i : Nat} {u : Value} (e : is.toArray[i]? = some u) : RelV (xs.getD i .non) u := by
  rw [List.getElem?_toArray] at e
  have hl : i < xs.length := by rw [r.length]; exact (List.getElem?_eq_some_iff.mp e).1
  obtain ⟨u', e1, q1⟩ := r.get (List.getElem?_eq_getElem hl)
  rw [e] at e1
  cases e1
  rw [getD_at (List.getElem?_eq_getElem hl)]
  exact q1
theorem src2 {P : Program} {w : World} {K : PySem.W.Frag} {elts : List Expr} {kk : Nat} {tpos : Pos} {k1 k2 : SK} {a b z TI TO i1 i2 : Addr} {xs ys : List V} (D : ZipSep2 z TI TO i1 i2 [i1, a] [i2, b]) (n1 : a ≠ i1) (n2 : b ≠ i2) :
    Src P w K (.Tuple elts kk tpos) z [z, TI, TO, i1, i2] (good2 K k1 k2 a b xs ys) (min xs.length ys.length) (row2 xs ys) (tn2 k1 k2 a b z TI TO i1 i2) := by
  intro X hP hw hK hc pins s σ H I hg
  subst hP hw hK
  obtain ⟨is1, r1, p1⟩ := Inv.sq I hg.1
  obtain ⟨is2, r2, p2⟩ := Inv.sq I hg.2
  have hh := I.ok.hd hc
  have G := GoesN.zip2 (prog := X.prog) (w := X.w) (A := X.A) (elts := elts) (x1 := kk) (pos := tpos) D (draws k1 (A := X.A.in1) hh i1 a n1 is1.toArray) (draws k2 (A := X.A.in1) hh i2 b n2 is2.toArray)
  rw [List.size_toArray, List.size_toArray, ← r1.length, ← r2.length] at G
  refine ⟨_, _, _, _, G, by simp, fun i ⟨c1, c2, c3, c4, c5⟩ => ⟨c1, c2, c3, ⟨c4, p1⟩, c5, p2⟩, fun i h ⟨c1, c2, c3, c4, c5⟩ => ⟨c1, c2, c3, c4.1, c5.1⟩, ?_⟩
  rintro i h0 v h hi ⟨T, x, y, rfl, hT, e1, e2, hTt⟩
  exact ⟨T, [x, y], rfl, hT, .cons (valAt r1 e1) (.cons (valAt r2 e2) .nil), by show 2 ≤ sizeLine; decide, hTt⟩
theorem turn2 {P : Program} {w : World} {K : PySem.W.Frag} {elts : List Expr} {kk : Nat} {tpos : Pos} {k1 k2 : SK} {a b z TI TO i1 i2 : Addr} {xs ys : List V} (D : ZipSep2 z TI TO i1 i2 [i1, a] [i2, b]) (n1 : a ≠ i1) (n2 : b ≠ i2) :
    Turn P w K (.Tuple elts kk tpos) (ItT (good2 K k1 k2 a b xs ys) (min xs.length ys.length) (row2 xs ys)) [z, TI, TO, i1, i2] z (tn2 k1 k2 a b z TI TO i1 i2) := by
  refine turnT (by simp) (fun i h st c hc => ?_) (fun i h h' st k => ?_) (src2 D n1 n2) fun A i s Q E st h => wpAny_pyIter_zip st.1 h
  · obtain ⟨hz, hTI, ⟨x, y, hTO⟩, h1, h2⟩ := st
    simp only [List.mem_cons, List.not_mem_nil, or_false] at hc
    rcases hc with q | q | q | q | q
    · rw [q]; exact ⟨_, hz, fun v q => nomatch q⟩
    · rw [q]; exact ⟨_, hTI, fun v q => nomatch q⟩
    · rw [q]; exact ⟨_, hTO, fun v q => nomatch q⟩
    · rw [q]; obtain ⟨o, vs, e, d⟩ := h1.obj; exact ⟨o, e, fun v q => by rw [d] at q; cases q⟩
    · rw [q]; obtain ⟨o, vs, e, d⟩ := h2.obj; exact ⟨o, e, fun v q => by rw [d] at q; cases q⟩
  · obtain ⟨hz, hTI, ⟨x, y, hTO⟩, h1, h2⟩ := st
    exact ⟨k z (by simp) _ hz, k TI (by simp) _ hTI, ⟨x, y, k TO (by simp) _ hTO⟩, h1.keep fun o q => k i1 (by simp) o q, h2.keep fun o q => k i2 (by simp) o q⟩
abbrev good3 (K : PySem.W.Frag) (k1 k2 k3 : SK) (a b c : Addr) (xs ys zs : List V) : Hp → Prop := fun H => SqK K k1 H a xs ∧ SqK K k2 H b ys ∧ SqK K k3 H c zs
abbrev row3 (xs ys zs : List V) : Nat → List V := fun i => [xs.getD i .non, ys.getD i .non, zs.getD i .non]
abbrev tn3 (k1 k2 k3 : SK) (a b c z TI TO i1 i2 i3 : Addr) : Nat → Heap → Prop := fun i h =>
  IsZip h z TI TO .none ∧ IsTupOf3 h TI (.ref i1) (.ref i2) (.ref i3) ∧ (∃ x y u, IsTupOf3 h TO x y u) ∧ IsIt k1 h i1 a i ∧ IsIt k2 h i2 b i ∧ IsIt k3 h i3 c i
theorem turn3 {P : Program} {w : World} {K : PySem.W.Frag} {elts : List Expr} {kk : Nat} {tpos : Pos} {k1 k2 k3 : SK} {a b c z TI TO i1 i2 i3 : Addr} {xs ys zs : List V}
    (D : ZipSep3 z TI TO i1 i2 i3 [i1, a] [i2, b] [i3, c]) (n1 : a ≠ i1) (n2 : b ≠ i2) (n3 : c ≠ i3) :
    Turn P w K (.Tuple elts kk tpos) (ItT (good3 K k1 k2 k3 a b c xs ys zs) (min (min xs.length ys.length) zs.length) (row3 xs ys zs)) [z, TI, TO, i1, i2, i3] z (tn3 k1 k2 k3 a b c z TI TO i1 i2 i3) := by
  refine turnT (by simp) (fun i h st c hc => ?_) (fun i h h' st k => ?_) ?_ fun A i s Q E st h => wpAny_pyIter_zip st.1 h
  · obtain ⟨hz, hTI, ⟨x, y, u, hTO⟩, h1, h2, h3⟩ := st
    simp only [List.mem_cons, List.not_mem_nil, or_false] at hc
    rcases hc with q | q | q | q | q | q
    · rw [q]; exact ⟨_, hz, fun v q => nomatch q⟩
    · rw [q]; exact ⟨_, hTI, fun v q => nomatch q⟩
    · rw [q]; exact ⟨_, hTO, fun v q => nomatch q⟩
    · rw [q]; obtain ⟨o, vs, e, d⟩ := h1.obj; exact ⟨o, e, fun v q => by rw [d] at q; cases q⟩
    · rw [q]; obtain ⟨o, vs, e, d⟩ := h2.obj; exact ⟨o, e, fun v q => by rw [d] at q; cases q⟩
    · rw [q]; obtain ⟨o, vs, e, d⟩ := h3.obj; exact ⟨o, e, fun v q => by rw [d] at q; cases q⟩
  · obtain ⟨hz, hTI, ⟨x, y, u, hTO⟩, h1, h2, h3⟩ := st
    exact ⟨k z (by simp) _ hz, k TI (by simp) _ hTI, ⟨x, y, u, k TO (by simp) _ hTO⟩, h1.keep fun o q => k i1 (by simp) o q, h2.keep fun o q => k i2 (by simp) o q, h3.keep fun o q => k i3 (by simp) o q⟩
  · intro X hP hw hK hc pins s σ H I hg
    subst hP hw hK
    obtain ⟨is1, r1, p1⟩ := Inv.sq I hg.1
    obtain ⟨is2, r2, p2⟩ := Inv.sq I hg.2.1
    obtain ⟨is3, r3, p3⟩ := Inv.sq I hg.2.2
    have hh := I.ok.hd hc
    have G := GoesN.zip3 (prog := X.prog) (w := X.w) (A := X.A) (elts := elts) (x1 := kk) (pos := tpos) D (draws k1 (A := X.A.in1) hh i1 a n1 is1.toArray) (draws k2 (A := X.A.in1) hh i2 b n2 is2.toArray) (draws k3 (A := X.A.in1) hh i3 c n3 is3.toArray)
    rw [List.size_toArray, List.size_toArray, List.size_toArray, ← r1.length, ← r2.length, ← r3.length] at G
    refine ⟨_, _, _, _, G, by simp, fun i ⟨c1, c2, c3, c4, c5, c6⟩ => ⟨c1, c2, c3, ⟨c4, p1⟩, ⟨c5, p2⟩, c6, p3⟩, fun i h ⟨c1, c2, c3, c4, c5, c6⟩ => ⟨c1, c2, c3, c4.1, c5.1, c6.1⟩, ?_⟩
    rintro i h0 v h hi ⟨T, x, y, u, rfl, hT, e1, e2, e3, hTt⟩
    exact ⟨T, [x, y, u], rfl, hT, .cons (valAt r1 e1) (.cons (valAt r2 e2) (.cons (valAt r3 e3) .nil)), by show 3 ≤ sizeLine; decide, hTt⟩
/-! numbered -/
abbrev rowE (xs : List V) : Nat → List V := fun i => [.int (i : Nat), xs.getD i .non]
abbrev tnE (k : SK) (a e it : Addr) : Nat → Heap → Prop := fun i h => (∃ old, IsEnum h e it ((0 : Int) + ((i : Nat) : Int)) old) ∧ IsIt k h it a i
theorem turnE {P : Program} {w : World} {K : PySem.W.Frag} {elts : List Expr} {kk : Nat} {tpos : Pos} {k : SK} {a e it : Addr} {xs : List V} (n1 : a ≠ it) (n2 : e ≠ it) (n3 : e ≠ a) :
    Turn P w K (.Tuple elts kk tpos) (ItT (fun H => SqK K k H a xs) xs.length (rowE xs)) [e, it] e (tnE k a e it) := by
  refine turnT (by simp) (fun i h st c hc => ?_) (fun i h h' st k => ?_) ?_ fun A i s Q E st h => by
    obtain ⟨⟨old, he⟩, _⟩ := st
    exact wpAny_pyIter_enum he h
  · obtain ⟨⟨old, he⟩, h1⟩ := st
    simp only [List.mem_cons, List.not_mem_nil, or_false] at hc
    rcases hc with q | q
    · rw [q]; exact ⟨_, he, fun v q => nomatch q⟩
    · rw [q]; obtain ⟨o, vs, e, d⟩ := h1.obj; exact ⟨o, e, fun v q => by rw [d] at q; cases q⟩
  · obtain ⟨⟨old, he⟩, h1⟩ := st
    exact ⟨⟨old, k e (by simp) _ he⟩, h1.keep fun o q => k it (by simp) o q⟩
  · intro X hP hw hK hc pins s σ H I hg
    subst hP hw hK
    obtain ⟨is1, r1, p1⟩ := Inv.sq I hg
    have hh := I.ok.hd hc
    have G := GoesN.enumFrom (prog := X.prog) (w := X.w) (A := X.A) (elts := elts) (x1 := kk) (pos := tpos) 0 (draws k (A := X.A.in1) hh it a n1 is1.toArray) e n2 (by simp [n2, n3]) (by simp)
    rw [List.size_toArray, ← r1.length] at G
    refine ⟨_, _, _, _, G, by simp, fun i ⟨c1, c2⟩ => ⟨c1, c2, p1⟩, fun i h ⟨c1, c2⟩ => ⟨c1, c2.1⟩, ?_⟩
    rintro i h0 v h hi ⟨T, t, x, rfl, hT, e1, hTt⟩
    exact ⟨T, [.int ((0 : Int) + (i : Int)) t, x], rfl, hT, .cons ⟨t, by rw [Int.zero_add]⟩ (.cons (valAt r1 e1) .nil), by show 2 ≤ sizeLine; decide, hTt⟩
end EV

namespace EV
open PySem PySem.Spec PyProof.Rows L2
open Sem (wp)
open AutoSeq1 (wpAny_loadPart')
/-! iterators come -/
theorem PI.imp {X : Cx} {tg e : Expr} {t t' : TI} (h : PI X tg e t) (i : ∀ σ H R, t' σ H R → t σ H R) : PI X tg e t' := ⟨fun pins s σ H Q I q => h.run pins s σ H Q I (i σ H Q q)⟩
def itJ (K : PySem.W.Frag) : SK → Addr → It
  | .lst, a => Itl K a
  | .tup, a => Itt K a
theorem itJ_walk {K : PySem.W.Frag} {k : SK} {a : Addr} {xs : List V} : Walk (itJ K k a) xs.length (fun H => SqK K k H a xs) (YAt xs) := by
  cases k with
  | lst => exact walk_list
  | tup => exact walk_tup
section
variable {X : Cx} {tg : Expr}
theorem pi_any {l : Expr} {tl : TE} (hl : PE X l tl) : PI X tg l (fun σ H R => tl σ H fun x H1 => ∃ (a : Addr) (k : SK) (xs : List V), x = .ref a ∧ SqK X.K k H1 a xs ∧ R (itJ X.K k a) H1) := by
  constructor
  intro pins s σ H R I h
  refine thn (hl.run pins s σ H _ I h) fun v s1 ⟨x, H1, I1, r1, a, k, xs, ex, hq, q⟩ => ?_
  subst ex
  cases r1
  obtain ⟨is, rv, p⟩ := Inv.sq I1 hq
  have fr : ∀ b ∈ [s1.heap.objs.size], FpOk X pins H1 b := fun b hb => by
    rw [List.mem_singleton.mp hb]
    exact I1.fpOk (Nat.le_refl _) (I1.hok.fresh (Nat.le_refl _))
  have I2 : ∀ o : Obj, Inv X pins σ H1 { s1 with heap := s1.heap.push o } := fun o => I1.kept (t' := s1.toks) fun b o e => Heap.get?_push_of_some _ e
  cases k with
  | lst => exact wpAny_pyIter_list p ⟨_, _, _, _, H1, rfl, I2 _, turn_list a _, ⟨_, Heap.get?_push_size _ rfl, rfl, rfl⟩, fr, q⟩
  | tup => exact wpAny_pyIter_tuple p ⟨_, _, _, _, H1, rfl, I2 _, turn_tuple a _, ⟨_, Heap.get?_push_size _ rfl, rfl, rfl⟩, fr, q⟩
theorem mem_lt {a N : Addr} (h : a < N) : ∀ b ∈ [a], b < N := fun b hb => by rw [List.mem_singleton.mp hb]; exact h
theorem IsSq.lt {k : SK} {h : Heap} {a : Addr} {its : Array Value} (x : IsSq k h a its) : a < h.objs.size := by
  obtain ⟨o, e⟩ := x.at
  exact Heap.lt_size e
theorem pi_z2 {e e2 : Expr} {ta : TA} {p pos tpos : Pos} {elts : List Expr} {kk : Nat} (hg : Gl X "zip") (hm : X.mg "zip" = none) (ha : PA X [e, e2] ta) (hs : starEach [e, e2] X.env = (false, eval e X.env) :: starEach [e2] X.env)
    (hpl : (backTo pos (starEach [e2] X.env)).any (·.1) = false) : PI X (.Tuple elts kk tpos) (.Call (.Name "zip" p) [e, e2] [] pos)
      (fun σ H R => ta σ H fun vs H1 => ∃ (a b : Addr) (k1 k2 : SK) (xs ys : List V), vs = [.ref a, .ref b] ∧ SqK X.K k1 H1 a xs ∧ SqK X.K k2 H1 b ys ∧ R (ItT (good2 X.K k1 k2 a b xs ys) (min xs.length ys.length) (row2 xs ys)) H1) := by
  constructor
  intro pins s σ H R I h
  refine Call_ (ld_blt I hg hm PyProof.Rows.boot_zip (PyProof.Rows.callWith_type1 (thn (ha.run pos pins s σ H _ I h) fun us s1 ⟨vs, H1, I1, r1, a, b, k1, k2, xs, ys, ex, q1, q2, q⟩ => ?_) hs hpl))
  subst ex
  cases r1 with
  | cons r rr =>
    cases rr with
    | cons r' rr =>
      cases rr
      cases r
      cases r'
      obtain ⟨is1, _, p1⟩ := Inv.sq I1 q1
      obtain ⟨is2, _, p2⟩ := Inv.sq I1 q2
      have l1 := p1.lt
      have l2 := p2.lt
      refine zip_begins2 (begins k1 a is1.toArray) (begins k2 b is2.toArray) p1 p2 fun h' hz hTI hTO g1 g2 hsz hk => wpAny_pyIter_zip hz ?_
      have I2 : Inv X pins σ H1 { s1 with heap := h' } := I1.kept (t' := s1.toks) hk
      refine ⟨_, _, _, _, H1, rfl, I2, turn2 (k1 := k1) (k2 := k2) (zip_sep2 (mem_lt l1) (mem_lt l2)) (ltN l1) (ltN (Nat.lt_succ_of_lt l2)), ⟨hz, hTI, ⟨_, _, hTO⟩, IsIt.new k1 g1, IsIt.new k2 g2⟩, fun c hc => ?_, q⟩
      have hle : s1.heap.objs.size ≤ c := by
        simp only [List.mem_cons, List.not_mem_nil, or_false] at hc
        rcases hc with z | z | z | z | z <;> (rw [z]; first | exact Nat.le_refl _ | exact Nat.le_add_right _ _)
      exact I1.fpOk hle (I1.hok.fresh hle)
theorem pi_z3 {e e2 e3 : Expr} {ta : TA} {p pos tpos : Pos} {elts : List Expr} {kk : Nat} (hg : Gl X "zip") (hm : X.mg "zip" = none) (ha : PA X [e, e2, e3] ta) (hs : starEach [e, e2, e3] X.env = (false, eval e X.env) :: starEach [e2, e3] X.env)
    (hpl : (backTo pos (starEach [e2, e3] X.env)).any (·.1) = false) : PI X (.Tuple elts kk tpos) (.Call (.Name "zip" p) [e, e2, e3] [] pos)
      (fun σ H R => ta σ H fun vs H1 => ∃ (a b c : Addr) (k1 k2 k3 : SK) (xs ys zs : List V), vs = [.ref a, .ref b, .ref c] ∧ SqK X.K k1 H1 a xs ∧ SqK X.K k2 H1 b ys ∧ SqK X.K k3 H1 c zs ∧
        R (ItT (good3 X.K k1 k2 k3 a b c xs ys zs) (min (min xs.length ys.length) zs.length) (row3 xs ys zs)) H1) := by
  constructor
  intro pins s σ H R I h
  refine Call_ (ld_blt I hg hm PyProof.Rows.boot_zip (PyProof.Rows.callWith_type1 (thn (ha.run pos pins s σ H _ I h) fun us s1 ⟨vs, H1, I1, r1, a, b, c, k1, k2, k3, xs, ys, zs, ex, q1, q2, q3, q⟩ => ?_) hs hpl))
  subst ex
  cases r1 with
  | cons r rr =>
    cases rr with
    | cons r' rr =>
      cases rr with
      | cons r'' rr =>
        cases rr
        cases r
        cases r'
        cases r''
        obtain ⟨is1, _, p1⟩ := Inv.sq I1 q1
        obtain ⟨is2, _, p2⟩ := Inv.sq I1 q2
        obtain ⟨is3, _, p3⟩ := Inv.sq I1 q3
        have l1 := p1.lt
        have l2 := p2.lt
        have l3 := p3.lt
        refine zip_begins3 (begins k1 a is1.toArray) (begins k2 b is2.toArray) (begins k3 c is3.toArray) p1 p2 p3 fun h' hz hTI hTO g1 g2 g3 hsz hk => wpAny_pyIter_zip hz ?_
        have I2 : Inv X pins σ H1 { s1 with heap := h' } := I1.kept (t' := s1.toks) hk
        refine ⟨_, _, _, _, H1, rfl, I2, turn3 (k1 := k1) (k2 := k2) (k3 := k3) (zip_sep3 (mem_lt l1) (mem_lt l2) (mem_lt l3)) (ltN l1) (ltN (Nat.lt_succ_of_lt l2)) (ltN (Nat.lt_succ_of_lt (Nat.lt_succ_of_lt l3))),
          ⟨hz, hTI, ⟨_, _, _, hTO⟩, IsIt.new k1 g1, IsIt.new k2 g2, IsIt.new k3 g3⟩, fun c hc => ?_, q⟩
        have hle : s1.heap.objs.size ≤ c := by
          simp only [List.mem_cons, List.not_mem_nil, or_false] at hc
          rcases hc with z | z | z | z | z | z <;> (rw [z]; first | exact Nat.le_refl _ | exact Nat.le_add_right _ _)
        exact I1.fpOk hle (I1.hok.fresh hle)
set_option maxHeartbeats 1000000 in
theorem enum1 {v : Value} {o : Obj} {Hh : Heap → Prop} (B : Begins v o Hh) : Meets (Builtin.«enumerate.__new__» ⟨[.type "enumerate", v], []⟩) (fun _ R s => Hh s.heap ∧
    R (.ok (.ret (.ref (s.heap.push o).objs.size))) { s with heap := (s.heap.push o).push { cls := .type "enumerate", data := .fields #[.none, .bool false, .ref s.heap.objs.size, rawInt 0, .none, .none] } }) := by
  refine .of_wp fun prog w A R s h => ?_
  obtain ⟨hp, g, d, tk, os⟩ := s
  obtain ⟨h1, h⟩ := h
  have hsub := sub_enumerate
  have q1 : ∀ {A' : Around} {E : Value → Shared → Prop} {Q : Value → Shared → Prop}, Q (.ref hp.objs.size) ⟨hp.push o, g, d, tk, os⟩ → wpAny (model prog w) A' (pyIter v) Q E ⟨hp, g, d, tk, os⟩ := fun q => B.iter prog w _ _ ⟨hp, g, d, tk, os⟩ _ h1 q
  wp_walk using q1
  refine wpAny_stack_any fun st => wpAny_pure ?_
  split
  · rename_i c _ _ _ _ _
    cases (c == Value.type "enumerate")
    · wp_walk using q1
      exact ⟨_, rfl, h⟩
    · wp_walk using q1
      exact ⟨_, rfl, h⟩
  · wp_walk using q1
    exact ⟨_, rfl, h⟩
theorem enum1_call {prog : Program} {w : World} {A : Around} {E : Value → Shared → Prop} {s : Shared} {v : Value} {o : Obj} {Hh : Heap → Prop} {Q : Value → Shared → Prop} (B : Begins v o Hh) (h1 : Hh s.heap)
    (h : ∀ h', IsEnum h' (s.heap.objs.size + 1) s.heap.objs.size 0 .none → h'.get? s.heap.objs.size = some o → (∀ b o, s.heap.get? b = some o → h'.get? b = some o) → Q (.ref (s.heap.objs.size + 1)) { s with heap := h' }) :
    wpAny (model prog w) A (call (.type "enumerate") [v]) Q E s := by
  refine callType_new F.called_enumerate (by decide) (F.typeCall_enumerate_1 _) (F.newCall_enumerate_1 _) (fun obj => F.args_object_init_2 obj _) F.entry_enumerate_new (enum1 B) ⟨h1, ?_⟩
  have hz : (s.heap.push o).objs.size = s.heap.objs.size + 1 := Heap.size_push ..
  have he : ∀ x : Obj, x.isFreed = false → ((s.heap.push o).push x).get? (s.heap.objs.size + 1) = some x := fun x hx => by
    rw [← hz]
    exact Heap.get?_push_size (s.heap.push o) hx
  show _ ∧ _
  rw [hz]
  exact ⟨⟨_, he _ rfl, rfl⟩, h _ (he _ rfl) (Heap.get?_push_of_some _ (Heap.get?_push_size _ B.free)) fun b o x => Heap.get?_push_of_some _ (Heap.get?_push_of_some _ x)⟩
theorem pi_e {e : Expr} {ta : TA} {p pos tpos : Pos} {elts : List Expr} {kk : Nat} (hg : Gl X "enumerate") (hm : X.mg "enumerate" = none) (ha : PA X [e] ta) (hs : starEach [e] X.env = [(false, eval e X.env)]) :
    PI X (.Tuple elts kk tpos) (.Call (.Name "enumerate" p) [e] [] pos) (fun σ H R => ta σ H fun vs H1 => ∃ (a : Addr) (k : SK) (xs : List V), vs = [.ref a] ∧ SqK X.K k H1 a xs ∧ R (ItT (fun H => SqK X.K k H a xs) xs.length (rowE xs)) H1) := by
  constructor
  intro pins s σ H R I h
  refine Call_ (ld_blt I hg hm boot_enumerate (PyProof.Rows.callWith_type1 (thn (ha.run pos pins s σ H _ I h) fun us s1 ⟨vs, H1, I1, r1, a, k, xs, ex, q1, q⟩ => ?_) hs rfl))
  subst ex
  cases r1 with
  | cons r rr =>
    cases rr
    cases r
    obtain ⟨is1, _, p1⟩ := Inv.sq I1 q1
    have l1 := p1.lt
    refine enum1_call (begins k a is1.toArray) p1 fun h' he g1 hk => wpAny_pyIter_enum he ?_
    have I2 : Inv X pins σ H1 { s1 with heap := h' } := I1.kept (t' := s1.toks) hk
    refine ⟨_, _, _, _, H1, rfl, I2, turnE (k := k) (ltN l1) (Nat.succ_ne_self _) (Ne.symm (ltN (Nat.lt_succ_of_lt l1))), ⟨⟨.none, he⟩, IsIt.new k g1⟩, fun c hc => ?_, q⟩
    have hle : s1.heap.objs.size ≤ c := by
      simp only [List.mem_cons, List.not_mem_nil, or_false] at hc
      rcases hc with z | z <;> (rw [z]; first | exact Nat.le_refl _ | exact Nat.le_add_right _ _)
    exact I1.fpOk hle (I1.hok.fresh hle)
end
abbrev rowZ (U : Addr) (i : Nat) : List V := [.int ((i : Nat) : Int), .ref U]
/-- the turn's pair lies in a tuple of its own -/
def ItZ (good : Hp → Prop) (n : Nat) (row : Nat → List V) : It :=
  ⟨fun i H => good H ∧ i < n, fun i H v H' => ∃ T U, v = .ref T ∧ H U = none ∧ upd H U (.tup (row i)) T = none ∧ H' = upd (upd H U (.tup (row i))) T (.tup (rowZ U i)), fun i H => good H ∧ i = n⟩
/-! walks of data -/
/-- the heap as it was, or one new thing more -/
inductive Gro : Hp → Hp → Prop where
  | same (H : Hp) : Gro H H
  | more {H H2 : Hp} {p : Addr} {o : HO} : Gro H H2 → H2 p = none → Gro H (upd H2 p o)
/-- what is not avoided stays -/
def KA (A : AS) (H H' : Hp) : Prop := ∀ a o, ¬ A a → H a = some o → H' a = some o
theorem Stp.av {H H' : Hp} {M M' B B' : AS} (t : Stp M H M' H') (hb : ∀ a, B' a → B a ∨ H a = none) : Stp (Av M B) H (Av M' B') H' := ⟨fun a o n e => t.keep a o (fun z => n (.inl z)) e, t.live, fun a z => z.elim (fun z => (t.new a z).imp .inl id) fun z => (hb a z).imp .inr id⟩
def WkD (K : PySem.W.Frag) (H : Hp) (M B : AS) (xs : List D) (J : It) : Prop :=
  ∃ G Y, Walk J xs.length G Y ∧ ∀ H' M' (B' : AS), Stp (Av M B) H (Av M' B') H' → (∀ a, M' a ∨ B' a → H' a ≠ none) → G H' ∧ ∀ i v H2 x, Y i H' v H2 → xs[i]? = some x → Gro H' H2 ∧ RD K H2 (Av M' B') x v
theorem Stp.rdsB {K : PySem.W.Frag} {H H' : Hp} {M M' B B' : AS} (t : Stp (Av M B) H (Av M' B') H') {x : List D} {v : List V} (r : RDs K H (Av M B) x v) : RDs K H' (Av M' B') x v :=
  RDs.mono t.keep t.new x v r
section
variable {K : PySem.W.Frag} {H H' H2 : Hp} {M M' B : AS} {s : Sl} {σ : VS}
theorem Gro.stp (g : Gro H H2) : Stp M H M H2 := by
  induction g with
  | same => exact .refl _ _
  | more g n ih => exact ih.trans (.laid n)
theorem Gro.rf (g : Gro H H2) (f : RF K H M B s σ) : RF K H2 M B s σ := by
  induction g with
  | same => exact f
  | more g n ih => exact RF.laid ih n
/-- where the things of a sequence are -/
theorem RD.sq {x : D} {v : V} {xs : List D} (r : RD K H (Av M B) x v) (e : seqD x = some xs) :
    ∃ (a : Addr) (k : SK) (vs : List V), v = .ref a ∧ RDs K H (Av M B) xs vs ∧ ∀ H', KA (Av M B) H H' → SqK K k H' a vs := by
  cases x with
  | tuple ys =>
    cases e
    cases r with
    | tup h1 h2 =>
      refine ⟨_, .tup, _, rfl, h2, fun H' t => ?_⟩
      rcases h1 with ⟨h1, n⟩ | h1
      · exact .inl (rd_keep h1 n t)
      · exact .inr h1
  | list ys =>
    cases e
    cases r with
    | lst h1 h2 =>
      refine ⟨_, .lst, _, rfl, h2, fun H' t => ?_⟩
      rcases h1 with ⟨h1, n⟩ | h1
      · exact .inl (rd_keep h1 n t)
      · exact .inr h1
  | _ => cases e
theorem SqK.now {k : SK} {a : Addr} {vs : List V} (h : ∀ H', KA (Av M B) H H' → SqK K k H' a vs) : SqK K k H a vs := h H fun _ _ _ e => e
theorem RDs.gets {A : AS} {xs : List D} {vs : List V} {i : Nat} {x : D} {v : V} (r : RDs K H A xs vs) (e : xs[i]? = some x) (e2 : vs[i]? = some v) : RD K H A x v := by
  obtain ⟨u, h1, h2⟩ := r.get e
  rw [e2] at h1
  cases h1
  exact h2
theorem RDs.getD {A : AS} {xs : List D} {vs : List V} {i : Nat} {x : D} (r : RDs K H A xs vs) (e : xs[i]? = some x) : RD K H A x (vs.getD i .non) := by
  obtain ⟨u, h1, h2⟩ := r.get e
  rw [getD_at h1]
  exact h2
theorem wk_seq (f : RF K H M B s σ) {k : SK} {a : Addr} {xs : List D} {vs : List V} (r : RDs K H (Av M B) xs vs) (h : ∀ H', KA (Av M B) H H' → SqK K k H' a vs) : WkD K H M B xs (itJ K k a) := by
  refine ⟨_, _, by rw [r.len]; exact itJ_walk (xs := vs), fun H' M' B' t lv => ⟨h H' t.keep, fun i v H2 x y e => ?_⟩⟩
  obtain ⟨rfl, ev⟩ := y
  exact ⟨.same _, (t.rdsB r).gets e ev⟩
/-- a row laid anew -/
theorem wk_row {n : Nat} {xs : List D} {good : Hp → Prop} {row : Nat → List V} (hn : n = xs.length) (hg : ∀ H', KA (Av M B) H H' → good H')
    (hr : ∀ i x H' M' (B' : AS), Stp (Av M B) H (Av M' B') H' → xs[i]? = some x → ∃ ys, x = .tuple ys ∧ RDs K H' (Av M' B') ys (row i)) : WkD K H M B xs (ItT good n row) := by
  subst hn
  refine ⟨good, fun i H v H' => ∃ T, v = .ref T ∧ H T = none ∧ H' = upd H T (.tup (row i)), ⟨fun i H hi g => ⟨g, hi⟩, fun H g => ⟨g, rfl⟩, fun i H x H' _ _ y => y⟩, fun H' M' B' t lv => ⟨hg H' t.keep, fun i v H2 x y e => ?_⟩⟩
  obtain ⟨T, rfl, hT, rfl⟩ := y
  obtain ⟨ys, rfl, rr⟩ := hr i x H' M' B' t e
  exact ⟨.more (.same _) hT, .tup (.inl ⟨.inl upd_same, fun z => lv T z hT⟩) (RDs.mono (fun a u _ e => by rw [upd_ne (ne_of_none e hT)]; exact e) (fun a z => .inl z) _ _ rr)⟩
theorem zipL_at : ∀ {xs ys : List D} {i : Nat} {x : D}, (zipL xs ys)[i]? = some x → ∃ a b, x = .tuple [a, b] ∧ xs[i]? = some a ∧ ys[i]? = some b
  | [], ys, i, x, e => by simp [zipL] at e
  | a :: xs, [], i, x, e => by simp [zipL] at e
  | a :: xs, b :: ys, 0, x, e => by simp [zipL] at e; exact ⟨a, b, e.symm, rfl, rfl⟩
  | a :: xs, b :: ys, i + 1, x, e => by
    obtain ⟨c, d, h⟩ := zipL_at (xs := xs) (ys := ys) (i := i) (by simpa [zipL] using e)
    exact ⟨c, d, by simpa using h⟩
theorem zipL_len : ∀ (xs ys : List D), (zipL xs ys).length = min xs.length ys.length
  | [], ys => by simp [zipL]
  | a :: xs, [] => by simp [zipL]
  | a :: xs, b :: ys => by simp only [zipL, List.length_cons, zipL_len xs ys]; omega
theorem zipL3_at : ∀ {xs ys zs : List D} {i : Nat} {x : D}, (zipL3 xs ys zs)[i]? = some x → ∃ a b c, x = .tuple [a, b, c] ∧ xs[i]? = some a ∧ ys[i]? = some b ∧ zs[i]? = some c
  | [], ys, zs, i, x, e => by simp [zipL3] at e
  | a :: xs, [], zs, i, x, e => by simp [zipL3] at e
  | a :: xs, b :: ys, [], i, x, e => by simp [zipL3] at e
  | a :: xs, b :: ys, c :: zs, 0, x, e => by simp [zipL3] at e; exact ⟨a, b, c, e.symm, rfl, rfl, rfl⟩
  | a :: xs, b :: ys, c :: zs, i + 1, x, e => by
    obtain ⟨a', b', c', h⟩ := zipL3_at (xs := xs) (ys := ys) (zs := zs) (i := i) (by simpa [zipL3] using e)
    exact ⟨a', b', c', by simpa using h⟩
theorem zipL3_len : ∀ (xs ys zs : List D), (zipL3 xs ys zs).length = min (min xs.length ys.length) zs.length
  | [], ys, zs => by simp [zipL3]
  | a :: xs, [], zs => by simp [zipL3]
  | a :: xs, b :: ys, [] => by simp [zipL3]
  | a :: xs, b :: ys, c :: zs => by simp only [zipL3, List.length_cons, zipL3_len xs ys zs]; omega
theorem enumL_at : ∀ {xs : List D} {k i : Nat} {x : D}, (enumL k xs)[i]? = some x → ∃ a, x = .tuple [.int ((k + i : Nat) : Int), a] ∧ xs[i]? = some a
  | [], k, i, x, e => by simp [enumL] at e
  | a :: xs, k, 0, x, e => by simp [enumL] at e; exact ⟨a, by rw [← e]; rfl, rfl⟩
  | a :: xs, k, i + 1, x, e => by
    obtain ⟨b, h1, h2⟩ := enumL_at (xs := xs) (k := k + 1) (i := i) (by simpa [enumL] using e)
    exact ⟨b, by rw [h1, show k + 1 + i = k + (i + 1) by omega], by simpa using h2⟩
theorem enumL_len : ∀ (k : Nat) (xs : List D), (enumL k xs).length = xs.length
  | k, [] => rfl
  | k, a :: xs => by simp only [enumL, List.length_cons, enumL_len (k + 1) xs]
theorem rngL_at {lo : Int} {n i : Nat} {x : D} (e : (rngL lo n)[i]? = some x) : x = .int (lo + i) := by
  unfold rngL at e
  rw [List.getElem?_map] at e
  obtain ⟨k, h1, h2⟩ := Option.map_eq_some_iff.mp e
  obtain ⟨h3, h4⟩ := List.getElem?_eq_some_iff.mp h1
  rw [List.getElem_range] at h4
  rw [← h2, ← h4]
theorem rngL_len {lo : Int} {n : Nat} : (rngL lo n).length = n := by unfold rngL; simp
theorem wk_rng {lo : Int} {n : Nat} : WkD K H M B (rngL lo n) (Itr lo n) := by
  refine ⟨_, _, by rw [rngL_len]; exact walk_range, fun H' M' B' t lv => ⟨trivial, fun i v H2 x y e => ?_⟩⟩
  obtain ⟨rfl, rfl⟩ := y
  rw [rngL_at e]
  exact ⟨.same _, .int _⟩
theorem rngB_at {lo : Int} {n i : Nat} {x : D} (e : (rngB lo n)[i]? = some x) : x = .int (lo + (i : Int) * (-1)) := by
  unfold rngB at e
  rw [List.getElem?_map] at e
  obtain ⟨k, h1, h2⟩ := Option.map_eq_some_iff.mp e
  obtain ⟨h3, h4⟩ := List.getElem?_eq_some_iff.mp h1
  rw [List.getElem_range] at h4
  rw [← h2, ← h4]
theorem rngB_len {lo : Int} {n : Nat} : (rngB lo n).length = n := by unfold rngB; simp
theorem wk_rngB {lo : Int} {n : Nat} : WkD K H M B (rngB lo n) (Itc lo (-1) n) := by
  refine ⟨fun _ => True, fun i H v H' => H' = H ∧ v = .int (lo + (i : Int) * (-1)), ⟨fun i H hi g => by rw [rngB_len] at hi; exact hi, fun H g => ?_, fun i H x H' _ _ y => y⟩, fun H' M' B' t lv => ⟨trivial, fun i v H2 x y e => ?_⟩⟩
  · show n ≤ (rngB lo n).length
    exact Nat.le_of_eq rngB_len.symm
  · obtain ⟨rfl, rfl⟩ := y
    rw [rngB_at e]
    exact ⟨.same _, .int _⟩
/-- a pair in a new tuple, numbered in another -/
theorem wk_rowZ {n : Nat} {xs : List D} {good : Hp → Prop} {row : Nat → List V} (hn : n = xs.length) (hg : ∀ H', KA (Av M B) H H' → good H')
    (hr : ∀ i x H' M' (B' : AS), Stp (Av M B) H (Av M' B') H' → xs[i]? = some x → ∃ ys, x = .tuple [.int ((i : Nat) : Int), .tuple ys] ∧ RDs K H' (Av M' B') ys (row i)) : WkD K H M B xs (ItZ good n row) := by
  subst hn
  refine ⟨good, fun i H v H' => ∃ T U, v = .ref T ∧ H U = none ∧ upd H U (.tup (row i)) T = none ∧ H' = upd (upd H U (.tup (row i))) T (.tup (rowZ U i)), ⟨fun i H hi g => ⟨g, hi⟩, fun H g => ⟨g, rfl⟩, fun i H x H' _ _ y => y⟩, fun H' M' B' t lv => ⟨hg H' t.keep, fun i v H2 x y e => ?_⟩⟩
  obtain ⟨T, U, rfl, hU, hT, rfl⟩ := y
  obtain ⟨ys, rfl, rr⟩ := hr i x H' M' B' t e
  have ne : U ≠ T := fun z => by rw [← z, upd_same] at hT; cases hT
  have hT' : H' T = none := by rw [upd_ne (Ne.symm ne)] at hT; exact hT
  have r2 := RDs.mono (H' := upd (upd H' U (.tup (row i))) T (.tup (rowZ U i))) (fun a u _ e => by rw [upd_ne (ne_of_none e hT'), upd_ne (ne_of_none e hU)]; exact e) (fun a z => .inl z) _ _ rr
  exact ⟨.more (.more (.same _) hU) hT, .tup (.inl ⟨.inl upd_same, fun z => lv T z hT'⟩) (.cons (.int _) (.cons (.tup (.inl ⟨.inl ((upd_ne ne).trans upd_same), fun z => lv U z hU⟩) r2) .nil))⟩
end
def TIv (U : Wd) (n : Nat) (Wx : WX) (it : Iw) : TI := fun σ H R => ∃ s M B, RF U.K H M B s σ ∧
  OKX (fun H' M' _ xs => ∀ J, WkD U.K H' M' B xs J → R J H') U.K U.Cl Wx σ H M B (evI U.Γ.G (callF U.Γ.G U.Γ.F n) it s)
theorem OKs.bindX {α : Type} {T : Hp → AS → Sl → α → Prop} {K : PySem.W.Frag} {Cl : Nat → Value} {Wx : WX} {σ : VS} {H : Hp} {M B : AS} {r : R (List W)} {f : List W → Sl → R α} {P : List V → Hp → Prop} (h : OKX T K Cl Wx σ H M B (r.bind f))
    (hp : ∀ ws s' vs H' M', r = .ok ws s' → Stp M H M' H' → RF K H' M' B s' σ → RHs K H' (Av M' B) σ ws vs → OKX T K Cl Wx σ H' M' B (f ws s') → P vs H') : OKs K Cl Wx σ H M B r P := by
  cases r with
  | ok w s' => exact fun v H2 M2 t2 f rt => hp w s' v H2 M2 rfl t2 f rt (OKX.later t2 h)
  | exc c s' => exact h
  | stuck => exact h
theorem OKX.ofN {α : Type} {T : Hp → AS → Sl → α → Prop} {K : PySem.W.Frag} {Cl : Nat → Value} {Wx : WX} {σ : VS} {H : Hp} {M B : AS} {s : Sl} {o : Option α} (h : OKX T K Cl Wx σ H M B (R.of s o)) (f : RF K H M B s σ) : ∃ w, o = some w ∧ T H M s w := by
  cases o with
  | none => exact h.elim
  | some w => exact ⟨w, rfl, h H M (.refl _ _) f⟩
theorem RWs.len {K : PySem.W.Frag} {H : Hp} {A : AS} : ∀ {xs : List D} {vs : List V}, RWs K H A xs vs → xs.length = vs.length
  | _, _, .nil => rfl
  | _, _, .cons _ t => by rw [List.length_cons, List.length_cons, RWs.len t]
section
variable {U : Wd} {n : Nat} {cv : Cv} {X : Cx} {Wx : WX} {pos : Pos} {l tg : Expr} {a : Ex} {as : Exs} {elts : List Expr} {kk : Nat} {tpos : Pos} {p : Pos}
theorem i_seq (h : Fit U n cv X) (ha : PE X l (TEv U n Wx a)) : PI X tg l (TIv U n Wx (.seq a)) := by
  refine PI.imp (pi_any ha) fun σ H R ⟨s, M, B, f, q⟩ => ⟨s, M, B, f, ?_⟩
  simp only [evI] at q
  refine OKE.bindX q fun w s1 v H1 M1 t1 f1 r1 q1 => ?_
  obtain ⟨xs, e, k⟩ := q1.ofN f1
  obtain ⟨x, e1, e2⟩ := Option.bind_eq_some_iff.mp e
  obtain ⟨a, kd, vs, rfl, rs, hs⟩ := (r1.keep e1).sq e2
  rw [h.K]
  exact ⟨a, kd, vs, rfl, SqK.now hs, k _ (wk_seq f1 rs hs)⟩
theorem small62_of {i : Int} (h : small62 i = true) : -(2 ^ 62) ≤ i ∧ i < 2 ^ 62 := of_decide_eq_true h
theorem i_rng1 (W : U.Ok n) (h : Fit U n cv X) (c : glB cv "range" = true) (ha : PA X [l] (TAv U n Wx as)) (hs : starEach [l] X.env = [(false, eval l X.env)]) (hl : as.len = 1) : PI X tg (.Call (.Name "range" p) [l] [] pos) (TIv U n Wx (.rng as)) := by
  obtain ⟨g1, g2, g3⟩ := h.gl c
  have hm : X.mg "range" = none := by rw [h.mg]; exact W.bl "range" (by decide)
  refine PI.imp (pi_range1 g1 hm ha hs) fun σ H R ⟨s, M, B, f, q⟩ => ⟨s, M, B, f, ?_⟩
  simp only [evI] at q
  refine OKs.bindX q fun ws s1 vs H1 M1 ee t1 f1 r1 q1 => ?_
  obtain ⟨xs, e, k⟩ := q1.ofN f1
  obtain ⟨ys, e1, e2⟩ := Option.bind_eq_some_iff.mp e
  have rr := r1.dens f1 e1
  have le : ys.length = 1 := by rw [rr.len, ← r1.len, evEs_len ee, hl]
  unfold rngD at e2
  split at e2
  · rename_i j
    split at e2
    · rename_i sm
      cases e2
      obtain ⟨v, rfl, r2⟩ := rr.one
      rw [r2.int]
      obtain ⟨b1, b2⟩ := small62_of sm
      exact ⟨j, rfl, b1, b2, k _ wk_rng⟩
    · cases e2
  · simp at le
  · simp at le
  · cases e2
theorem i_rng2 (W : U.Ok n) (h : Fit U n cv X) {r : Expr} (c : glB cv "range" = true) (ha : PA X [l, r] (TAv U n Wx as)) (hs : starEach [l, r] X.env = [(false, eval l X.env), (false, eval r X.env)]) (hs2 : starEach [r] X.env = [(false, eval r X.env)]) (hl : as.len = 2) :
    PI X tg (.Call (.Name "range" p) [l, r] [] pos) (TIv U n Wx (.rng as)) := by
  obtain ⟨g1, g2, g3⟩ := h.gl c
  have hm : X.mg "range" = none := by rw [h.mg]; exact W.bl "range" (by decide)
  refine PI.imp (pi_range2 g1 hm ha hs hs2) fun σ H R ⟨s, M, B, f, q⟩ => ⟨s, M, B, f, ?_⟩
  simp only [evI] at q
  refine OKs.bindX q fun ws s1 vs H1 M1 ee t1 f1 r1 q1 => ?_
  obtain ⟨xs, e, k⟩ := q1.ofN f1
  obtain ⟨ys, e1, e2⟩ := Option.bind_eq_some_iff.mp e
  have rr := r1.dens f1 e1
  have le : ys.length = 2 := by rw [rr.len, ← r1.len, evEs_len ee, hl]
  unfold rngD at e2
  split at e2
  · simp at le
  · rename_i i j
    split at e2
    · rename_i sm
      cases e2
      rw [Bool.and_eq_true] at sm
      obtain ⟨v, u, rfl, r2, r3⟩ := rr.two
      rw [r2.int, r3.int]
      obtain ⟨b1, b2⟩ := small62_of sm.1
      obtain ⟨b3, b4⟩ := small62_of sm.2
      exact ⟨i, j, rfl, ⟨b1, b2, b3, b4⟩, k _ wk_rng⟩
    · cases e2
  · simp at le
  · cases e2
theorem i_rng3 (W : U.Ok n) (h : Fit U n cv X) {r r' : Expr} (c : glB cv "range" = true) (ha : PA X [l, r, r'] (TAv U n Wx as)) (hs : starEach [l, r, r'] X.env = (false, eval l X.env) :: starEach [r, r'] X.env) (hpl : (backTo pos (starEach [r, r'] X.env)).any (·.1) = false) (hl : as.len = 3) :
    PI X tg (.Call (.Name "range" p) [l, r, r'] [] pos) (TIv U n Wx (.rng as)) := by
  obtain ⟨g1, g2, g3⟩ := h.gl c
  have hm : X.mg "range" = none := by rw [h.mg]; exact W.bl "range" (by decide)
  refine PI.imp (pi_range3 g1 hm ha hs hpl) fun σ H R ⟨s, M, B, f, q⟩ => ⟨s, M, B, f, ?_⟩
  simp only [evI] at q
  refine OKs.bindX q fun ws s1 vs H1 M1 ee t1 f1 r1 q1 => ?_
  obtain ⟨xs, e, k⟩ := q1.ofN f1
  obtain ⟨ys, e1, e2⟩ := Option.bind_eq_some_iff.mp e
  have rr := r1.dens f1 e1
  have le : ys.length = 3 := by rw [rr.len, ← r1.len, evEs_len ee, hl]
  unfold rngD at e2
  split at e2
  · simp at le
  · simp at le
  · rename_i i j c
    split at e2
    · rename_i sm
      cases e2
      rw [Bool.and_eq_true, Bool.and_eq_true] at sm
      obtain ⟨⟨sc, s2⟩, s3⟩ := sm
      have sc : c = -1 := of_decide_eq_true sc
      cases rr with
      | cons r2 rr =>
        obtain ⟨u, w, rfl, r3, r4⟩ := rr.two
        rw [r2.int, r3.int, r4.int, sc]
        obtain ⟨b1, b2⟩ := small62_of s2
        obtain ⟨b3, b4⟩ := small62_of s3
        exact ⟨i, j, -1, _, rfl, .neg b1 b2 b3 b4, k _ wk_rngB⟩
    · cases e2
  · cases e2
theorem i_zip2 (W : U.Ok n) (h : Fit U n cv X) {r : Expr} (c : glB cv "zip" = true) (ha : PA X [l, r] (TAv U n Wx as)) (hs : starEach [l, r] X.env = (false, eval l X.env) :: starEach [r] X.env) (hpl : (backTo pos (starEach [r] X.env)).any (·.1) = false) (hl : as.len = 2) :
    PI X (.Tuple elts kk tpos) (.Call (.Name "zip" p) [l, r] [] pos) (TIv U n Wx (.zip as)) := by
  obtain ⟨g1, g2, g3⟩ := h.gl c
  have hm : X.mg "zip" = none := by rw [h.mg]; exact W.bl "zip" (by decide)
  refine PI.imp (pi_z2 g1 hm ha hs hpl) fun σ H R ⟨s, M, B, f, q⟩ => ⟨s, M, B, f, ?_⟩
  simp only [evI] at q
  refine OKs.bindX q fun ws s1 vs H1 M1 ee t1 f1 r1 q1 => ?_
  obtain ⟨xs, e, k⟩ := q1.ofN f1
  obtain ⟨ys, e1, e2⟩ := Option.bind_eq_some_iff.mp e
  have rr := r1.keeps e1
  have le : ys.length = 2 := by rw [rr.len, ← r1.len, evEs_len ee, hl]
  unfold zipD at e2
  split at e2
  · obtain ⟨us, e3, e2⟩ := Option.bind_eq_some_iff.mp e2
    obtain ⟨ws2, e4, e2⟩ := Option.bind_eq_some_iff.mp e2
    cases e2
    cases rr with
    | cons x1 rr =>
      cases rr with
      | cons x2 rr =>
        cases rr
        obtain ⟨a, k1, v1, rfl, rs1, hs1⟩ := x1.sq e3
        obtain ⟨b, k2, v2, rfl, rs2, hs2⟩ := x2.sq e4
        rw [h.K]
        refine ⟨a, b, k1, k2, v1, v2, rfl, SqK.now hs1, SqK.now hs2, k _ (wk_row (by rw [zipL_len, rs1.len, rs2.len]) (fun H' t => ⟨hs1 H' t, hs2 H' t⟩) fun i x H' M' B' t e => ?_)⟩
        obtain ⟨c, d, rfl, g1, g2⟩ := zipL_at e
        exact ⟨_, rfl, .cons ((t.rdsB rs1).getD g1) (.cons ((t.rdsB rs2).getD g2) .nil)⟩
  · simp at le
  · cases e2
theorem i_zip3 (W : U.Ok n) (h : Fit U n cv X) {r r' : Expr} (c : glB cv "zip" = true) (ha : PA X [l, r, r'] (TAv U n Wx as)) (hs : starEach [l, r, r'] X.env = (false, eval l X.env) :: starEach [r, r'] X.env) (hpl : (backTo pos (starEach [r, r'] X.env)).any (·.1) = false) (hl : as.len = 3) :
    PI X (.Tuple elts kk tpos) (.Call (.Name "zip" p) [l, r, r'] [] pos) (TIv U n Wx (.zip as)) := by
  obtain ⟨g1, g2, g3⟩ := h.gl c
  have hm : X.mg "zip" = none := by rw [h.mg]; exact W.bl "zip" (by decide)
  refine PI.imp (pi_z3 g1 hm ha hs hpl) fun σ H R ⟨s, M, B, f, q⟩ => ⟨s, M, B, f, ?_⟩
  simp only [evI] at q
  refine OKs.bindX q fun ws s1 vs H1 M1 ee t1 f1 r1 q1 => ?_
  obtain ⟨xs, e, k⟩ := q1.ofN f1
  obtain ⟨ys, e1, e2⟩ := Option.bind_eq_some_iff.mp e
  have rr := r1.keeps e1
  have le : ys.length = 3 := by rw [rr.len, ← r1.len, evEs_len ee, hl]
  unfold zipD at e2
  split at e2
  · simp at le
  · obtain ⟨us, e3, e2⟩ := Option.bind_eq_some_iff.mp e2
    obtain ⟨ws2, e4, e2⟩ := Option.bind_eq_some_iff.mp e2
    obtain ⟨ws3, e5, e2⟩ := Option.bind_eq_some_iff.mp e2
    cases e2
    cases rr with
    | cons x1 rr =>
      cases rr with
      | cons x2 rr =>
        cases rr with
        | cons x3 rr =>
          cases rr
          obtain ⟨a, k1, v1, rfl, rs1, hs1⟩ := x1.sq e3
          obtain ⟨b, k2, v2, rfl, rs2, hs2⟩ := x2.sq e4
          obtain ⟨c, k3, v3, rfl, rs3, hs3⟩ := x3.sq e5
          rw [h.K]
          refine ⟨a, b, c, k1, k2, k3, v1, v2, v3, rfl, SqK.now hs1, SqK.now hs2, SqK.now hs3, k _ (wk_row (by rw [zipL3_len, rs1.len, rs2.len, rs3.len]) (fun H' t => ⟨hs1 H' t, hs2 H' t, hs3 H' t⟩) fun i x H' M' B' t e => ?_)⟩
          obtain ⟨c, d, d', rfl, g1, g2, g3⟩ := zipL3_at e
          exact ⟨_, rfl, .cons ((t.rdsB rs1).getD g1) (.cons ((t.rdsB rs2).getD g2) (.cons ((t.rdsB rs3).getD g3) .nil))⟩
  · cases e2
theorem i_enum (W : U.Ok n) (h : Fit U n cv X) (c : glB cv "enumerate" = true) (ha : PA X [l] (TAv U n Wx as)) (hs : starEach [l] X.env = [(false, eval l X.env)]) : PI X (.Tuple elts kk tpos) (.Call (.Name "enumerate" p) [l] [] pos) (TIv U n Wx (.enum as)) := by
  obtain ⟨g1, g2, g3⟩ := h.gl c
  have hm : X.mg "enumerate" = none := by rw [h.mg]; exact W.bl "enumerate" (by decide)
  refine PI.imp (pi_e g1 hm ha hs) fun σ H R ⟨s, M, B, f, q⟩ => ⟨s, M, B, f, ?_⟩
  simp only [evI] at q
  refine OKs.bindX q fun ws s1 vs H1 M1 ee t1 f1 r1 q1 => ?_
  obtain ⟨xs, e, k⟩ := q1.ofN f1
  obtain ⟨ys, e1, e2⟩ := Option.bind_eq_some_iff.mp e
  have rr := r1.keeps e1
  unfold enumD at e2
  split at e2
  · obtain ⟨us, e3, e2⟩ := Option.bind_eq_some_iff.mp e2
    cases e2
    cases rr with
    | cons x1 rr =>
      cases rr
      obtain ⟨a, k1, v1, rfl, rs1, hs1⟩ := x1.sq e3
      rw [h.K]
      refine ⟨a, k1, v1, rfl, SqK.now hs1, k _ (wk_row (by rw [enumL_len, rs1.len]) (fun H' t => hs1 H' t) fun i x H' M' B' t e => ?_)⟩
      obtain ⟨c, rfl, g1⟩ := enumL_at e
      rw [Nat.zero_add]
      exact ⟨_, rfl, .cons (.int _) (.cons ((t.rdsB rs1).getD g1) .nil)⟩
  · cases e2
end
end EV

namespace EV
open PySem PySem.Spec PyProof.Rows L2
/-! ### a zip of two whatever it has handed out before -/
def ZObj (h : Heap) (z TI TO : Addr) (v0 v1 : Value) : Prop := h.get? z = some { cls := .type "zip", dict := none, data := .fields #[v0, v1, .bool false, .ref TI, .ref TO], slots := #[] }
def ZFields (v0 v1 : Value) : Prop := (v0 = .none ∨ ∃ T : Addr, v0 = rawInt T) ∧ ∃ f, v1 = .bool f
/-- a zip between two turns -/
def ZAny (h : Heap) (z TI TO : Addr) : Prop := (∃ v0 v1, ZObj h z TI TO v0 v1 ∧ ZFields v0 v1) ∧ ∃ a1 a2, IsTupOf2 h TO a1 a2
theorem ZAny.keep {h h' : Heap} {z TI TO : Addr} (x : ZAny h z TI TO) (k1 : ∀ o, h.get? z = some o → h'.get? z = some o) (k2 : ∀ o, h.get? TO = some o → h'.get? TO = some o) : ZAny h' z TI TO := by
  obtain ⟨⟨v0, v1, e, f⟩, a1, a2, e2⟩ := x
  exact ⟨⟨v0, v1, k1 _ e, f⟩, a1, a2, k2 _ e2⟩
section
variable {prog : Program} {w : World} {A : Around} {E : Value → Shared → Prop} {s : Shared} {z TI TO i1 i2 : Addr} {fp1 fp2 : List Addr} {n1 n2 i : Nat} {P1 P2 : Nat → Value → Prop} {St1 St2 : Nat → Heap → Prop}
theorem wp_dead {a : Addr} {Q : Option Obj → Shared → Prop} (h : s.heap.get? a = none) (q : Q none s) : wpAny (model prog w) A (loadIfAlive a) Q E s := by
  have q' : Q (s.heap.get? a) s := by rw [h]; exact q
  exact fun _ _ _ => q'
/-- its own tuple may be used again -/
def ZFree (prog : Program) (w : World) (A : Around) (E : Value → Shared → Prop) (s : Shared) (z : Addr) : Prop := ∀ Q : Bool → Shared → Prop, Q true s → wpAny (model prog w) A (Builtin.SmallTypes.ownedTupleIsFree (.ref z)) Q E s
theorem zfree_none {v1 : Value} (e : ZObj s.heap z TI TO .none v1) : ZFree prog w A E s z := fun Q q => by
  unfold Builtin.SmallTypes.ownedTupleIsFree; exact wpAny_bind (wpAny_field e rfl (x := Value.none) rfl (wpAny_pure q))
theorem zfree_dead {v1 : Value} {T : Addr} (e : ZObj s.heap z TI TO (rawInt T) v1) (d : s.heap.get? T = none) : ZFree prog w A E s z := fun Q q => by
  unfold Builtin.SmallTypes.ownedTupleIsFree; refine wpAny_bind (wpAny_field e rfl (x := rawInt ((T : Nat) : Int)) rfl ?_)
  show wpAny (model prog w) A (loadIfAlive ((T : Int).toNat) >>= _) _ _ _; rw [Int.toNat_natCast]
  exact wpAny_bind (wp_dead d (wpAny_pure q))
/-- what a turn of the zip leaves -/
def ZTurn (P1 P2 : Nat → Value → Prop) (St1 St2 : Nat → Heap → Prop) (z TI TO i1 i2 : Addr) (i : Nat) (s : Shared) (Q : Value → Shared → Prop) : Prop :=
  ∀ x1 x2 h' tk, P1 i x1 → P2 i x2 → ZAny h' z TI TO → St1 (i + 1) h' → St2 (i + 1) h' → IsTupOf2 h' s.heap.objs.size x1 x2 → h'.objs.size = s.heap.objs.size + 1 →
    (∀ c o, c ≠ z → c ≠ TO → c ≠ i1 → c ≠ i2 → s.heap.get? c = some o → h'.get? c = some o) → Q (.ref s.heap.objs.size) { s with heap := h', toks := tk }
def ZStop (z TO i1 i2 : Addr) (s : Shared) (E : Value → Shared → Prop) : Prop :=
  ∀ h' tk e, (∀ c o, c ≠ z → c ≠ TO → c ≠ i1 → c ≠ i2 → s.heap.get? c = some o → h'.get? c = some o) → (∃ o, h'.get? e = some o ∧ o.cls = .type "StopIteration") → E (.ref e) { s with heap := h', toks := tk }
theorem zfree_item {v0 v1 a1 a2 : Value} {Q : Value → Shared → Prop} (S : ZipSep2 z TI TO i1 i2 fp1 fp2) (D1 : Draws prog w A i1 fp1 n1 P1 St1) (D2 : Draws prog w A i2 fp2 n2 P2 St2)
    (ez : ZObj s.heap z TI TO v0 v1) (fr : ZFree prog w A E s z) (eI : IsTupOf2 s.heap TI (.ref i1) (.ref i2)) (eO : IsTupOf2 s.heap TO a1 a2) (t1 : St1 i s.heap) (t2 : St2 i s.heap) (l1 : i < n1) (l2 : i < n2) (hQ : ZTurn P1 P2 St1 St2 z TI TO i1 i2 i s Q) :
    wpAny (model prog w) A (Builtin.«zip.__next__» ⟨[.ref z], []⟩) (fun fin s' => ∃ v, fin = .done (.ret v) ∧ Q v s') E s := by
  obtain ⟨H0, gg, dd, k0, oo⟩ := s
  show wpAny (model prog w) A (field (.ref z) 2 >>= _) _ _ _; refine wpAny_bind (wpAny_field ez rfl (x := Value.bool false) rfl ?_)
  show wpAny (model prog w) A (field (.ref z) 3 >>= _) _ _ _; refine wpAny_bind (wpAny_field ez rfl (x := Value.ref TI) rfl ?_); refine wpAny_bind (wpAny_seqItems eI rfl ?_)
  show wpAny (model prog w) A (Builtin.SmallTypes.ownedTupleIsFree (.ref z) >>= _) _ _ _; refine wpAny_bind (fr _ ?_); simp only [if_true]
  refine wpAny_bind (wpAny_rule ?_); refine wpAny_bind (wpAny_field ez rfl (x := Value.ref TO) rfl ?_)
  refine wpAny_bind (wpAny_setField_rec ez (by simp) fun G0 e0 b0 => ?_)
  have e0 : ZObj G0 z TI TO .ellipsis v1 := e0
  have b0 : Heap.SameBut z H0 G0 := b0
  refine wpAny_bind ?_; simp only [List.zipIdx_cons, List.zipIdx_nil, List.forIn_cons, List.forIn_nil]; refine wpAny_bind (wpAny_bind (wpAny_onRaise ?_))
  show wpAny (model prog w) A (Builtin.SmallTypes.nextOf (.ref i1) >>= _) _ _ ⟨G0, gg, dd, k0, oo⟩
  refine wpAny_bind (D1.item i _ _ _ l1 (D1.over t1 b0 S.zf1) fun x1 G1 k1 p1 u1 b1 => wpAny_pure ?_)
  have b1 : Heap.SameBut i1 G0 G1 := b1
  have f1 : IsTupOf2 G1 TO a1 a2 := b1.extBut _ _ S.Ti1 (b0.extBut _ _ S.TOz eO)
  refine wpAny_bind (wpAny_seqItems (s := ⟨G1, gg, dd, k1, oo⟩) f1 rfl ?_); refine wpAny_bind (updateSeq_IsTupOf2 (s := ⟨G1, gg, dd, k1, oo⟩) f1 fun G2 f2 b2 => ?_)
  have f2 : IsTupOf2 G2 TO x1 a2 := f2
  have b2 : Heap.SameBut TO G1 G2 := b2
  refine wpAny_bind (wpAny_letGo (wpAny_pure ?_)); refine wpAny_bind (wpAny_bind (wpAny_onRaise ?_))
  show wpAny (model prog w) A (Builtin.SmallTypes.nextOf (.ref i2) >>= _) _ _ ⟨G2, gg, dd, k1, oo⟩
  refine wpAny_bind (D2.item i _ _ _ l2 (D2.over (D2.over (D2.over t2 b0 S.zf2) b1 S.sep1_2) b2 S.Tf2) fun x2 G3 k2 p2 u2 b3 => wpAny_pure ?_)
  have b3 : Heap.SameBut i2 G2 G3 := b3
  have f3 : IsTupOf2 G3 TO x1 a2 := b3.extBut _ _ S.Ti2 f2
  refine wpAny_bind (wpAny_seqItems (s := ⟨G3, gg, dd, k2, oo⟩) f3 rfl ?_); refine wpAny_bind (updateSeq_IsTupOf2 (s := ⟨G3, gg, dd, k2, oo⟩) f3 fun G4 f4 b4 => ?_)
  have f4 : IsTupOf2 G4 TO x1 x2 := f4
  have b4 : Heap.SameBut TO G3 G4 := b4
  refine wpAny_bind (wpAny_letGo (wpAny_pure (wpAny_pure ?_))); refine wpAny_bind (wpAny_seqItems (s := ⟨G4, gg, dd, k2, oo⟩) f4 rfl ?_); refine wpAny_bind (wpAny_newTuple ?_)
  have sz : G4.objs.size = H0.objs.size := by rw [b4.1, b3.1, b2.1, b1.1, b0.1]
  have ez4 : ZObj G4 z TI TO .ellipsis v1 := b4.extBut _ _ S.TOz.symm (b3.extBut _ _ S.zi2 (b2.extBut _ _ S.TOz.symm (b1.extBut _ _ S.zi1 e0)))
  have kp : ∀ c o, c ≠ z → c ≠ TO → c ≠ i1 → c ≠ i2 → H0.get? c = some o → G4.get? c = some o := fun c o c0 cT c1 c2 e => b4.extBut _ _ cT (b3.extBut _ _ c2 (b2.extBut _ _ cT (b1.extBut _ _ c1 (b0.extBut _ _ c0 e))))
  have w1 : St1 (i + 1) G4 := D1.over (D1.over (D1.over u1 b2 S.Tf1) b3 S.sep2_1) b4 S.Tf1
  have w2 : St2 (i + 1) G4 := D2.over u2 b4 S.Tf2
  have lz : z < G4.objs.size := Heap.lt_size ez4
  show wpAny (model prog w) A (Builtin.SmallTypes.ownedTupleHandOut (.ref z) (.ref G4.objs.size) >>= _) _ _ ⟨G4.push { cls := .type "tuple", data := .seq #[x1, x2] }, gg, dd, k2, oo⟩
  refine wpAny_bind ?_; unfold Builtin.SmallTypes.ownedTupleHandOut
  have ez5 : ZObj (G4.push { cls := .type "tuple", data := .seq #[x1, x2] }) z TI TO .ellipsis v1 := Heap.get?_push_of_some _ ez4
  refine wpAny_bind (wpAny_setField_rec ez5 (by simp) fun G6 e6 b6 => ?_)
  have e6 : ZObj G6 z TI TO (rawInt G4.objs.size) v1 := e6
  refine wpAny_setField_rec e6 (by simp) fun G7 e7 b7 => ?_
  have e7 : ZObj G7 z TI TO (rawInt G4.objs.size) (.bool false) := e7
  have b6 : Heap.SameBut z (G4.push { cls := .type "tuple", data := .seq #[x1, x2] }) G6 := b6
  have b7 : Heap.SameBut z G6 G7 := b7
  have up : ∀ c o, c ≠ z → G4.get? c = some o → G7.get? c = some o := fun c o c1 e => b7.extBut _ _ c1 (b6.extBut _ _ c1 (Heap.get?_push_of_some _ e))
  have nz : G4.objs.size ≠ z := Nat.ne_of_gt lz
  have tn : IsTupOf2 G7 G4.objs.size x1 x2 := b7.extBut _ _ nz (b6.extBut _ _ nz (Heap.get?_push_size _ rfl))
  have s7 : G7.objs.size = G4.objs.size + 1 := by rw [b7.1, b6.1, Heap.size_push]
  rw [sz] at tn s7
  refine wpAny_pure ⟨_, rfl, ?_⟩; show Q (.ref G4.objs.size) ⟨G7, gg, dd, k2, oo⟩; rw [sz]
  exact hQ x1 x2 G7 k2 p1 p2 ⟨⟨_, _, e7, .inr ⟨_, rfl⟩, _, rfl⟩, x1, x2, up _ _ S.TOz f4⟩ (D1.frame _ _ _ w1 fun b hb o e => up b o (fun q => S.zf1 (q ▸ hb)) e) (D2.frame _ _ _ w2 fun b hb o e => up b o (fun q => S.zf2 (q ▸ hb)) e) tn s7 fun c o c0 cT c1 c2 e => up c o c0 (kp c o c0 cT c1 c2 e)
theorem zfree_end {v0 v1 a1 a2 : Value} {Q : PySem.Fin → Shared → Prop} (S : ZipSep2 z TI TO i1 i2 fp1 fp2) (D1 : Draws prog w A i1 fp1 n1 P1 St1) (D2 : Draws prog w A i2 fp2 n2 P2 St2)
    (ez : ZObj s.heap z TI TO v0 v1) (fr : ZFree prog w A E s z) (eI : IsTupOf2 s.heap TI (.ref i1) (.ref i2)) (eO : IsTupOf2 s.heap TO a1 a2) (t1 : St1 i s.heap) (t2 : St2 i s.heap) (l1 : i ≤ n1) (l2 : i ≤ n2) (le : i = n1 ∨ i = n2) (hE : ZStop z TO i1 i2 s E) :
    wpAny (model prog w) A (Builtin.«zip.__next__» ⟨[.ref z], []⟩) Q E s := by
  obtain ⟨H0, gg, dd, k0, oo⟩ := s
  show wpAny (model prog w) A (field (.ref z) 2 >>= _) _ _ _; refine wpAny_bind (wpAny_field ez rfl (x := Value.bool false) rfl ?_)
  show wpAny (model prog w) A (field (.ref z) 3 >>= _) _ _ _; refine wpAny_bind (wpAny_field ez rfl (x := Value.ref TI) rfl ?_); refine wpAny_bind (wpAny_seqItems eI rfl ?_)
  show wpAny (model prog w) A (Builtin.SmallTypes.ownedTupleIsFree (.ref z) >>= _) _ _ _; refine wpAny_bind (fr _ ?_); simp only [if_true]
  refine wpAny_bind (wpAny_rule ?_); refine wpAny_bind (wpAny_field ez rfl (x := Value.ref TO) rfl ?_)
  refine wpAny_bind (wpAny_setField_rec ez (by simp) fun G0 e0 b0 => ?_)
  have e0 : ZObj G0 z TI TO .ellipsis v1 := e0
  have b0 : Heap.SameBut z H0 G0 := b0
  refine wpAny_bind ?_; simp only [List.zipIdx_cons, List.zipIdx_nil, List.forIn_cons, List.forIn_nil]; refine wpAny_bind (wpAny_bind (wpAny_onRaise ?_))
  show wpAny (model prog w) A (Builtin.SmallTypes.nextOf (.ref i1) >>= _) _ _ ⟨G0, gg, dd, k0, oo⟩
  have fin : ∀ (G : Heap) (k : Nat) (er : Addr), ZObj G z TI TO .ellipsis v1 → (∃ o, G.get? er = some o ∧ o.cls = .type "StopIteration") → (∀ c o, c ≠ z → c ≠ TO → c ≠ i1 → c ≠ i2 → H0.get? c = some o → G.get? c = some o) → wpAny (model prog w) A (setField (.ref z) 0 .none) (fun _ => E (.ref er)) E ⟨G, gg, dd, k, oo⟩ := fun G k er eG ⟨oe, ge, ce⟩ kp => by
    have ne : er ≠ z := fun q => by
      subst q
      have eG' : G.get? er = some _ := eG
      rw [eG'] at ge
      cases ge
      simp at ce
    refine wpAny_setField_rec (s := ⟨G, gg, dd, k, oo⟩) eG (by simp) fun G' _ b' => ?_
    have b' : Heap.SameBut z G G' := b'
    exact hE G' k er (fun c o c0 cT c1 c2 e => b'.extBut _ _ c0 (kp c o c0 cT c1 c2 e)) ⟨oe, b'.extBut _ _ ne ge, ce⟩
  by_cases lt1 : i < n1
  · refine wpAny_bind (D1.item i _ _ _ lt1 (D1.over t1 b0 S.zf1) fun x1 G1 k1 p1 u1 b1 => wpAny_pure ?_)
    have b1 : Heap.SameBut i1 G0 G1 := b1
    have f1 : IsTupOf2 G1 TO a1 a2 := b1.extBut _ _ S.Ti1 (b0.extBut _ _ S.TOz eO)
    refine wpAny_bind (wpAny_seqItems (s := ⟨G1, gg, dd, k1, oo⟩) f1 rfl ?_); refine wpAny_bind (updateSeq_IsTupOf2 (s := ⟨G1, gg, dd, k1, oo⟩) f1 fun G2 f2 b2 => ?_)
    have b2 : Heap.SameBut TO G1 G2 := b2
    refine wpAny_bind (wpAny_letGo (wpAny_pure ?_)); refine wpAny_bind (wpAny_bind (wpAny_onRaise ?_))
    show wpAny (model prog w) A (Builtin.SmallTypes.nextOf (.ref i2) >>= _) _ _ ⟨G2, gg, dd, k1, oo⟩
    have e2 : i = n2 := by omega
    refine wpAny_bind (D2.done ⟨G2, gg, dd, k1, oo⟩ _ _ (by rw [← e2]; exact D2.over (D2.over (D2.over t2 b0 S.zf2) b1 S.sep1_2) b2 S.Tf2) fun G er b he => ?_)
    have b : Heap.ExtBut i2 G2 G := b
    exact fin G k1 er (b _ _ S.zi2 (b2.extBut _ _ S.TOz.symm (b1.extBut _ _ S.zi1 e0))) he fun c o c0 cT c1 c2 e => b _ _ c2 (b2.extBut _ _ cT (b1.extBut _ _ c1 (b0.extBut _ _ c0 e)))
  · have e1 : i = n1 := by omega
    refine wpAny_bind (D1.done ⟨G0, gg, dd, k0, oo⟩ _ _ (by rw [← e1]; exact D1.over t1 b0 S.zf1) fun G er b he => ?_)
    have b : Heap.ExtBut i1 G0 G := b
    exact fin G k0 er (b _ _ S.zi1 e0) he fun c o c0 cT c1 c2 e => b _ _ c1 (b0.extBut _ _ c0 e)
/-- the tuple handed out is still there: a new one is made -/
theorem zheld_item {T : Addr} {f : Bool} {oT : Obj} {a1 a2 : Value} {Q : Value → Shared → Prop} (S : ZipSep2 z TI TO i1 i2 fp1 fp2) (D1 : Draws prog w A i1 fp1 n1 P1 St1) (D2 : Draws prog w A i2 fp2 n2 P2 St2)
    (ez : ZObj s.heap z TI TO (rawInt T) (.bool f)) (al : s.heap.get? T = some oT) (eI : IsTupOf2 s.heap TI (.ref i1) (.ref i2)) (eO : IsTupOf2 s.heap TO a1 a2) (t1 : St1 i s.heap) (t2 : St2 i s.heap) (l1 : i < n1) (l2 : i < n2) (hQ : ZTurn P1 P2 St1 St2 z TI TO i1 i2 i s Q) :
    wpAny (model prog w) A (Builtin.«zip.__next__» ⟨[.ref z], []⟩) (fun fin s' => ∃ v, fin = .done (.ret v) ∧ Q v s') E s := by
  obtain ⟨H0, gg, dd, k0, oo⟩ := s
  show wpAny (model prog w) A (field (.ref z) 2 >>= _) _ _ _; refine wpAny_bind (wpAny_field ez rfl (x := Value.bool false) rfl ?_)
  show wpAny (model prog w) A (field (.ref z) 3 >>= _) _ _ _; refine wpAny_bind (wpAny_field ez rfl (x := Value.ref TI) rfl ?_); refine wpAny_bind (wpAny_seqItems eI rfl ?_)
  show wpAny (model prog w) A (Builtin.SmallTypes.ownedTupleIsFree (.ref z) >>= _) _ _ _; refine wpAny_bind (wpAny_tupleHeld_zip ez al fun G0 e0 b0 => ?_)
  have e0 : ZObj G0 z TI TO (rawInt T) (.bool true) := e0
  have b0 : Heap.SameBut z H0 G0 := b0
  simp only [Bool.false_eq_true, if_false]; refine wpAny_bind ?_; rw [← Array.forIn_toList]; simp only [List.forIn_cons, List.forIn_nil]; refine wpAny_bind (wpAny_bind (wpAny_holding ?_))
  show wpAny (model prog w) A (Builtin.SmallTypes.nextOf (.ref i1) >>= _) _ _ ⟨G0, gg, dd, k0, oo⟩
  refine wpAny_bind (D1.item i _ _ _ l1 (D1.over t1 b0 S.zf1) fun x1 G1 k1 p1 u1 b1 => wpAny_pure ?_)
  have b1 : Heap.SameBut i1 G0 G1 := b1
  refine wpAny_pure ?_; refine wpAny_bind (wpAny_bind (wpAny_holding ?_))
  show wpAny (model prog w) A (Builtin.SmallTypes.nextOf (.ref i2) >>= _) _ _ ⟨G1, gg, dd, k1, oo⟩
  refine wpAny_bind (D2.item i _ _ _ l2 (D2.over (D2.over t2 b0 S.zf2) b1 S.sep1_2) fun x2 G2 k2 p2 u2 b2 => wpAny_pure ?_)
  have b2 : Heap.SameBut i2 G1 G2 := b2
  refine wpAny_pure (wpAny_pure ?_); show wpAny (model prog w) A (newTuple [x1, x2] >>= _) _ _ ⟨G2, gg, dd, k2, oo⟩; refine wpAny_bind (wpAny_newTuple ?_)
  have sz : G2.objs.size = H0.objs.size := by rw [b2.1, b1.1, b0.1]
  have e2 : ZObj G2 z TI TO (rawInt T) (.bool true) := b2.extBut _ _ S.zi2 (b1.extBut _ _ S.zi1 e0)
  have eO2 : IsTupOf2 G2 TO a1 a2 := b2.extBut _ _ S.Ti2 (b1.extBut _ _ S.Ti1 (b0.extBut _ _ S.TOz eO))
  have up : ∀ c o, G2.get? c = some o → (G2.push { cls := .type "tuple", data := .seq #[x1, x2] }).get? c = some o := fun c o e => Heap.get?_push_of_some _ e
  refine wpAny_pure ⟨_, rfl, ?_⟩; show Q (.ref G2.objs.size) _
  have tn : IsTupOf2 (G2.push { cls := .type "tuple", data := .seq #[x1, x2] }) G2.objs.size x1 x2 := Heap.get?_push_size _ rfl
  have s7 : (G2.push { cls := .type "tuple", data := .seq #[x1, x2] }).objs.size = G2.objs.size + 1 := Heap.size_push ..
  rw [sz] at tn s7 ⊢
  exact hQ x1 x2 _ k2 p1 p2 ⟨⟨_, _, up _ _ e2, .inr ⟨_, rfl⟩, _, rfl⟩, a1, a2, up _ _ eO2⟩ (D1.frame _ _ _ (D1.over u1 b2 S.sep2_1) fun b _ o e => up b o e) (D2.frame _ _ _ u2 fun b _ o e => up b o e) tn s7 fun c o c0 cT c1 c2 e => up c o (b2.extBut _ _ c2 (b1.extBut _ _ c1 (b0.extBut _ _ c0 e)))
theorem zheld_end {T : Addr} {f : Bool} {oT : Obj} {Q : PySem.Fin → Shared → Prop} (S : ZipSep2 z TI TO i1 i2 fp1 fp2) (D1 : Draws prog w A i1 fp1 n1 P1 St1) (D2 : Draws prog w A i2 fp2 n2 P2 St2)
    (ez : ZObj s.heap z TI TO (rawInt T) (.bool f)) (al : s.heap.get? T = some oT) (eI : IsTupOf2 s.heap TI (.ref i1) (.ref i2)) (t1 : St1 i s.heap) (t2 : St2 i s.heap) (l1 : i ≤ n1) (l2 : i ≤ n2) (le : i = n1 ∨ i = n2) (hE : ZStop z TO i1 i2 s E) :
    wpAny (model prog w) A (Builtin.«zip.__next__» ⟨[.ref z], []⟩) Q E s := by
  obtain ⟨H0, gg, dd, k0, oo⟩ := s
  show wpAny (model prog w) A (field (.ref z) 2 >>= _) _ _ _; refine wpAny_bind (wpAny_field ez rfl (x := Value.bool false) rfl ?_)
  show wpAny (model prog w) A (field (.ref z) 3 >>= _) _ _ _; refine wpAny_bind (wpAny_field ez rfl (x := Value.ref TI) rfl ?_); refine wpAny_bind (wpAny_seqItems eI rfl ?_)
  show wpAny (model prog w) A (Builtin.SmallTypes.ownedTupleIsFree (.ref z) >>= _) _ _ _; refine wpAny_bind (wpAny_tupleHeld_zip ez al fun G0 e0 b0 => ?_)
  have b0 : Heap.SameBut z H0 G0 := b0
  simp only [Bool.false_eq_true, if_false]; refine wpAny_bind ?_; rw [← Array.forIn_toList]; simp only [List.forIn_cons, List.forIn_nil]; refine wpAny_bind (wpAny_bind (wpAny_holding ?_))
  show wpAny (model prog w) A (Builtin.SmallTypes.nextOf (.ref i1) >>= _) _ _ ⟨G0, gg, dd, k0, oo⟩
  by_cases lt1 : i < n1
  · refine wpAny_bind (D1.item i _ _ _ lt1 (D1.over t1 b0 S.zf1) fun x1 G1 k1 p1 u1 b1 => wpAny_pure ?_)
    have b1 : Heap.SameBut i1 G0 G1 := b1
    have e2 : i = n2 := by omega
    refine wpAny_pure ?_; refine wpAny_bind (wpAny_bind (wpAny_holding ?_))
    show wpAny (model prog w) A (Builtin.SmallTypes.nextOf (.ref i2) >>= _) _ _ ⟨G1, gg, dd, k1, oo⟩
    refine wpAny_bind (D2.done ⟨G1, gg, dd, k1, oo⟩ _ _ (by rw [← e2]; exact D2.over (D2.over t2 b0 S.zf2) b1 S.sep1_2) fun G er b he => ?_)
    have b : Heap.ExtBut i2 G1 G := b
    exact hE G k1 er (fun c o c0 _ c1 c2 x => b _ _ c2 (b1.extBut _ _ c1 (b0.extBut _ _ c0 x))) he
  · have e1 : i = n1 := by omega
    refine wpAny_bind (D1.done ⟨G0, gg, dd, k0, oo⟩ _ _ (by rw [← e1]; exact D1.over t1 b0 S.zf1) fun G er b he => ?_)
    have b : Heap.ExtBut i1 G0 G := b
    exact hE G k0 er (fun c o c0 _ c1 _ x => b _ _ c1 (b0.extBut _ _ c0 x)) he
/-- whatever was handed out -/
theorem zany_item {Q : Value → Shared → Prop} (S : ZipSep2 z TI TO i1 i2 fp1 fp2) (D1 : Draws prog w A i1 fp1 n1 P1 St1) (D2 : Draws prog w A i2 fp2 n2 P2 St2)
    (ez : ZAny s.heap z TI TO) (eI : IsTupOf2 s.heap TI (.ref i1) (.ref i2)) (t1 : St1 i s.heap) (t2 : St2 i s.heap) (l1 : i < n1) (l2 : i < n2) (hQ : ZTurn P1 P2 St1 St2 z TI TO i1 i2 i s Q) :
    wpAny (model prog w) A (Builtin.«zip.__next__» ⟨[.ref z], []⟩) (fun fin s' => ∃ v, fin = .done (.ret v) ∧ Q v s') E s := by
  obtain ⟨⟨v0, v1, e, fo, f, rfl⟩, a1, a2, eO⟩ := ez
  rcases fo with rfl | ⟨T, rfl⟩
  · exact zfree_item S D1 D2 e (zfree_none e) eI eO t1 t2 l1 l2 hQ
  · cases al : s.heap.get? T with
    | none => exact zfree_item S D1 D2 e (zfree_dead e al) eI eO t1 t2 l1 l2 hQ
    | some oT => exact zheld_item S D1 D2 e al eI eO t1 t2 l1 l2 hQ
theorem zany_end {Q : PySem.Fin → Shared → Prop} (S : ZipSep2 z TI TO i1 i2 fp1 fp2) (D1 : Draws prog w A i1 fp1 n1 P1 St1) (D2 : Draws prog w A i2 fp2 n2 P2 St2)
    (ez : ZAny s.heap z TI TO) (eI : IsTupOf2 s.heap TI (.ref i1) (.ref i2)) (t1 : St1 i s.heap) (t2 : St2 i s.heap) (l1 : i ≤ n1) (l2 : i ≤ n2) (le : i = n1 ∨ i = n2) (hE : ZStop z TO i1 i2 s E) :
    wpAny (model prog w) A (Builtin.«zip.__next__» ⟨[.ref z], []⟩) Q E s := by
  obtain ⟨⟨v0, v1, e, fo, f, rfl⟩, a1, a2, eO⟩ := ez
  rcases fo with rfl | ⟨T, rfl⟩
  · exact zfree_end S D1 D2 e (zfree_none e) eI eO t1 t2 l1 l2 le hE
  · cases al : s.heap.get? T with
    | none => exact zfree_end S D1 D2 e (zfree_dead e al) eI eO t1 t2 l1 l2 le hE
    | some oT => exact zheld_end S D1 D2 e al eI t1 t2 l1 l2 le hE
end
end EV

namespace EV
open PySem PySem.Spec PyProof.Rows L2
/-! ### enumerate of such a zip -/
section
variable {prog : Program} {w : World} {A : Around} {E : Value → Shared → Prop} {s : Shared} {z TI TO i1 i2 : Addr} {fp1 fp2 : List Addr} {n1 n2 i : Nat} {P1 P2 : Nat → Value → Prop} {St1 St2 : Nat → Heap → Prop}
theorem ZAny.ty (x : ZAny s.heap z TI TO) : s.TypeIs (.ref z) "zip" := let ⟨⟨_, _, e, _⟩, _⟩ := x; ⟨_, e, rfl⟩
theorem zn_item {Q : Value → Shared → Prop} (S : ZipSep2 z TI TO i1 i2 fp1 fp2) (D1 : Draws prog w A.in1 i1 fp1 n1 P1 St1) (D2 : Draws prog w A.in1 i2 fp2 n2 P2 St2)
    (ez : ZAny s.heap z TI TO) (eI : IsTupOf2 s.heap TI (.ref i1) (.ref i2)) (t1 : St1 i s.heap) (t2 : St2 i s.heap) (l1 : i < n1) (l2 : i < n2) (hQ : ZTurn P1 P2 St1 St2 z TI TO i1 i2 i s Q) :
    wpAny (model prog w) A (Builtin.SmallTypes.nextOf (.ref z)) Q E s := by
  unfold Builtin.SmallTypes.nextOf; refine wpAny_bind (wpAny_callSpecial?_slot (name := Str.ofString "__next__") ez.ty F.slot_zip_next (wpAny_call_entry F.slot_zip_next ez.ty F.entry_zip_next ?_ (F.args_zip_next_1 _)))
  exact zany_item S D1 D2 ez eI t1 t2 l1 l2 fun x1 x2 h' tk a b c d e f g k => wpAny_pure (hQ x1 x2 h' tk a b c d e f g k)
theorem zn_end {Q : Value → Shared → Prop} (S : ZipSep2 z TI TO i1 i2 fp1 fp2) (D1 : Draws prog w A.in1 i1 fp1 n1 P1 St1) (D2 : Draws prog w A.in1 i2 fp2 n2 P2 St2)
    (ez : ZAny s.heap z TI TO) (eI : IsTupOf2 s.heap TI (.ref i1) (.ref i2)) (t1 : St1 i s.heap) (t2 : St2 i s.heap) (l1 : i ≤ n1) (l2 : i ≤ n2) (le : i = n1 ∨ i = n2) (hE : ZStop z TO i1 i2 s E) :
    wpAny (model prog w) A (Builtin.SmallTypes.nextOf (.ref z)) Q E s := by
  unfold Builtin.SmallTypes.nextOf; refine wpAny_bind (wpAny_callSpecial?_slot (name := Str.ofString "__next__") ez.ty F.slot_zip_next (wpAny_call_entry F.slot_zip_next ez.ty F.entry_zip_next ?_ (F.args_zip_next_1 _)))
  exact zany_end S D1 D2 ez eI t1 t2 l1 l2 le hE
/-- the enumerate's own cell lies apart from the zip's -/
structure EApart (e z TI TO i1 i2 : Addr) (fp1 fp2 : List Addr) : Prop where
  z : e ≠ z
  I : e ≠ TI
  O : e ≠ TO
  c1 : e ≠ i1
  c2 : e ≠ i2
  f1 : e ∉ fp1
  f2 : e ∉ fp2
/-- what a turn leaves: the zip's tuple at the first new place, the enumerate's behind it -/
def ETurn (P1 P2 : Nat → Value → Prop) (St1 St2 : Nat → Heap → Prop) (e z TI TO i1 i2 : Addr) (c : Int) (i : Nat) (s : Shared) (Q : Value → Shared → Prop) : Prop :=
  ∀ x1 x2 h' tk, P1 i x1 → P2 i x2 → IsEnumOut h' e z (c + 1) (.ref s.heap.objs.size) (s.heap.objs.size + 1) → ZAny h' z TI TO → St1 (i + 1) h' → St2 (i + 1) h' → IsTupOf2 h' s.heap.objs.size x1 x2 →
    IsTupOf2 h' (s.heap.objs.size + 1) (.int c tk) (.ref s.heap.objs.size) → (∀ b o, b ≠ e → b ≠ z → b ≠ TO → b ≠ i1 → b ≠ i2 → s.heap.get? b = some o → h'.get? b = some o) → Q (.ref (s.heap.objs.size + 1)) { s with heap := h', toks := tk + 1 }
theorem en_item {e : Addr} {c : Int} {old : Value} {Q : Value → Shared → Prop} (S : ZipSep2 z TI TO i1 i2 fp1 fp2) (Ap : EApart e z TI TO i1 i2 fp1 fp2) (D1 : Draws prog w A.in1 i1 fp1 n1 P1 St1) (D2 : Draws prog w A.in1 i2 fp2 n2 P2 St2)
    (ee : IsEnum s.heap e z c old) (ez : ZAny s.heap z TI TO) (eI : IsTupOf2 s.heap TI (.ref i1) (.ref i2)) (t1 : St1 i s.heap) (t2 : St2 i s.heap) (l1 : i < n1) (l2 : i < n2) (hQ : ETurn P1 P2 St1 St2 e z TI TO i1 i2 c i s Q) :
    wpAny (model prog w) A (Builtin.«enumerate.__next__» ⟨[.ref e], []⟩) (fun fin s' => ∃ v, fin = .done (.ret v) ∧ Q v s') E s := by
  obtain ⟨H0, gg, dd, k0, oo⟩ := s
  show wpAny (model prog w) A (field (.ref e) 2 >>= _) _ _ _; refine wpAny_bind (wpAny_field ee rfl (x := Value.ref z) rfl ?_)
  refine wpAny_bind (zn_item S D1 D2 ez eI t1 t2 l1 l2 fun x1 x2 G1 k1 p1 p2 ez1 u1 u2 tz1 sz1 kp1 => ?_)
  have sz1 : G1.objs.size = H0.objs.size + 1 := sz1
  have tz1 : IsTupOf2 G1 H0.objs.size x1 x2 := tz1
  have kp1 : ∀ c o, c ≠ z → c ≠ TO → c ≠ i1 → c ≠ i2 → H0.get? c = some o → G1.get? c = some o := kp1
  have el : e < H0.objs.size := Heap.lt_size ee
  have ee1 : IsEnum G1 e z c old := kp1 e _ Ap.z Ap.O Ap.c1 Ap.c2 ee
  show wpAny (model prog w) A (field (.ref e) 3 >>= _) _ _ ⟨G1, gg, dd, k1, oo⟩; refine wpAny_bind (wpAny_field ee1 rfl (x := rawInt c) rfl ?_)
  show wpAny (model prog w) A (field (.ref e) 4 >>= _) _ _ ⟨G1, gg, dd, k1, oo⟩; refine wpAny_bind (wpAny_field ee1 rfl (x := Value.none) rfl ?_)
  show wpAny (model prog w) A (mkInt c >>= _) _ _ ⟨G1, gg, dd, k1, oo⟩; refine wpAny_bind (wpAny_mkInt ?_)
  show wpAny (model prog w) A (setField (.ref e) 3 (rawInt (c + 1)) >>= _) _ _ ⟨G1, gg, dd, k1 + 1, oo⟩; refine wpAny_bind (wpAny_setField_rec ee1 (by simp) fun G2 e2 b2 => ?_)
  have b2 : Heap.SameBut e G1 G2 := b2
  have e2 : IsEnum G2 e z (c + 1) old := e2
  show wpAny (model prog w) A (setField (.ref e) 4 .none >>= _) _ _ ⟨G2, gg, dd, k1 + 1, oo⟩; refine wpAny_bind (wpAny_setField_rec e2 (by simp) fun G3 e3 b3 => ?_)
  have b3 : Heap.SameBut e G2 G3 := b3
  have e3 : IsEnum G3 e z (c + 1) old := e3
  have sz3 : G3.objs.size = H0.objs.size + 1 := by rw [b3.1, b2.1, sz1]
  show wpAny (model prog w) A (newTuple [.int c k1, .ref H0.objs.size] >>= _) _ _ ⟨G3, gg, dd, k1 + 1, oo⟩; refine wpAny_bind (wpAny_newTuple ?_)
  have e4 : IsEnum (G3.push { cls := .type "tuple", data := .seq #[.int c k1, .ref H0.objs.size] }) e z (c + 1) old := Heap.get?_push_of_some _ e3
  have t4 : IsTupOf2 (G3.push { cls := .type "tuple", data := .seq #[.int c k1, .ref H0.objs.size] }) G3.objs.size (.int c k1) (.ref H0.objs.size) := Heap.get?_push_size _ rfl
  have up : ∀ b o, b ≠ e → G1.get? b = some o → (G3.push { cls := .type "tuple", data := .seq #[.int c k1, .ref H0.objs.size] }).get? b = some o := fun b o n x => Heap.get?_push_of_some _ (b3.extBut _ _ n (b2.extBut _ _ n x))
  show wpAny (model prog w) A (Builtin.SmallTypes.ownedTupleIsFree (.ref e) >>= _) _ _ ⟨G3.push { cls := .type "tuple", data := .seq #[.int c k1, .ref H0.objs.size] }, gg, dd, k1 + 1, oo⟩
  rw [sz3] at t4 ⊢
  generalize G3.push { cls := .type "tuple", data := .seq #[.int c k1, .ref H0.objs.size] } = G4 at e4 t4 up
  refine wpAny_bind ?_; unfold Builtin.SmallTypes.ownedTupleIsFree; refine wpAny_bind (wpAny_field e4 rfl (x := Value.none) rfl (wpAny_pure ?_)); simp only [if_true]
  refine wpAny_bind (wpAny_rule ?_); refine wpAny_bind (wpAny_field e4 rfl (x := old) rfl ?_); refine wpAny_bind (wpAny_setField_rec e4 (by simp) fun G5 e5 b5 => ?_)
  have b5 : Heap.SameBut e G4 G5 := b5
  have e5 : IsEnum G5 e z (c + 1) (.ref H0.objs.size) := e5
  show wpAny (model prog w) A (Builtin.SmallTypes.ownedTupleHandOut (.ref e) (.ref (H0.objs.size + 1)) >>= _) _ _ ⟨G5, gg, dd, k1 + 1, oo⟩
  refine wpAny_bind ?_; unfold Builtin.SmallTypes.ownedTupleHandOut; refine wpAny_bind (wpAny_setField_rec e5 (by simp) fun G6 e6 b6 => ?_)
  have b6 : Heap.SameBut e G5 G6 := b6
  have e6 : IsEnumOut G6 e z (c + 1) (.ref H0.objs.size) (H0.objs.size + 1) := e6
  refine wpAny_setField_rec e6 (by simp) fun G7 e7 b7 => ?_
  have b7 : Heap.SameBut e G6 G7 := b7
  have e7 : IsEnumOut G7 e z (c + 1) (.ref H0.objs.size) (H0.objs.size + 1) := e7
  have on : ∀ b o, b ≠ e → G4.get? b = some o → G7.get? b = some o := fun b o n x => b7.extBut _ _ n (b6.extBut _ _ n (b5.extBut _ _ n x))
  have ne0 : H0.objs.size ≠ e := Nat.ne_of_gt el
  have ne1 : H0.objs.size + 1 ≠ e := Nat.ne_of_gt (Nat.lt_succ_of_lt el)
  refine wpAny_bind (wpAny_letGo (wpAny_pure ⟨_, rfl, ?_⟩))
  exact hQ x1 x2 G7 k1 p1 p2 e7 (ez1.keep (fun o x => on _ _ (Ne.symm Ap.z) (up _ _ (Ne.symm Ap.z) x)) fun o x => on _ _ (Ne.symm Ap.O) (up _ _ (Ne.symm Ap.O) x))
    (D1.frame _ _ _ u1 fun b hb o x => on b o (fun q => Ap.f1 (q ▸ hb)) (up b o (fun q => Ap.f1 (q ▸ hb)) x)) (D2.frame _ _ _ u2 fun b hb o x => on b o (fun q => Ap.f2 (q ▸ hb)) (up b o (fun q => Ap.f2 (q ▸ hb)) x))
    (on _ _ ne0 (up _ _ ne0 tz1)) (on _ _ ne1 t4) fun b o be bz bO b1 b2' x => on b o be (up b o be (kp1 b o bz bO b1 b2' x))
theorem pn_item {e : Addr} {c : Int} {old : Value} {Q : Option Value → Shared → Prop} (S : ZipSep2 z TI TO i1 i2 fp1 fp2) (Ap : EApart e z TI TO i1 i2 fp1 fp2) (D1 : Draws prog w A.in1.in1 i1 fp1 n1 P1 St1) (D2 : Draws prog w A.in1.in1 i2 fp2 n2 P2 St2)
    (ee : IsEnum s.heap e z c old) (ez : ZAny s.heap z TI TO) (eI : IsTupOf2 s.heap TI (.ref i1) (.ref i2)) (t1 : St1 i s.heap) (t2 : St2 i s.heap) (l1 : i < n1) (l2 : i < n2) (hQ : ETurn P1 P2 St1 St2 e z TI TO i1 i2 c i s fun v s' => Q (some v) s') :
    wpAny (model prog w) A (pyNext (.ref e)) Q E s := by
  have ty : s.TypeIs (.ref e) "enumerate" := ⟨_, ee, rfl⟩
  unfold pyNext; refine wpAny_bind (wpAny_attempt (wpAny_callSpecial?_slot (name := Str.ofString "__next__") ty F.slot_enumerate_next (wpAny_call_entry F.slot_enumerate_next ty F.entry_enumerate_next ?_ (F.args_enumerate_next_1 _))))
  exact en_item S Ap D1 D2 ee ez eI t1 t2 l1 l2 fun x1 x2 h' tk a b f g m n p q k => wpAny_pure (hQ x1 x2 h' tk a b f g m n p q k)
theorem pn_end {e : Addr} {c : Int} {old : Value} {Q : Option Value → Shared → Prop} (S : ZipSep2 z TI TO i1 i2 fp1 fp2) (D1 : Draws prog w A.in1.in1 i1 fp1 n1 P1 St1) (D2 : Draws prog w A.in1.in1 i2 fp2 n2 P2 St2)
    (ee : IsEnum s.heap e z c old) (ez : ZAny s.heap z TI TO) (eI : IsTupOf2 s.heap TI (.ref i1) (.ref i2)) (t1 : St1 i s.heap) (t2 : St2 i s.heap) (l1 : i ≤ n1) (l2 : i ≤ n2) (le : i = n1 ∨ i = n2)
    (hQ : ∀ h' tk, (∀ b o, b ≠ z → b ≠ TO → b ≠ i1 → b ≠ i2 → s.heap.get? b = some o → h'.get? b = some o) → Q none { s with heap := h', toks := tk }) : wpAny (model prog w) A (pyNext (.ref e)) Q E s := by
  have ty : s.TypeIs (.ref e) "enumerate" := ⟨_, ee, rfl⟩
  unfold pyNext; refine wpAny_bind (wpAny_attempt (wpAny_callSpecial?_slot (name := Str.ofString "__next__") ty F.slot_enumerate_next (wpAny_call_entry F.slot_enumerate_next ty F.entry_enumerate_next ?_ (F.args_enumerate_next_1 _))))
  show wpAny (model prog w) A.in1 (field (.ref e) 2 >>= _) _ _ _; refine wpAny_bind (wpAny_field ee rfl (x := Value.ref z) rfl ?_)
  refine wpAny_bind (zn_end S D1 D2 ez eI t1 t2 l1 l2 le fun h' tk er kp ⟨oe, ge, ce⟩ => ?_)
  refine wpAny_bind (wpAny_isInstance (T := "StopIteration") (b := true) ⟨oe, ge, ce⟩ isSubtype_stop ?_); exact wpAny_pure (hQ h' tk kp)
end
end EV

namespace EV
open PySem PySem.Spec PyProof.Rows L2
/-! ### a walk over enumerate(zip(a, b)): two new tuples at each turn -/
section
variable {X : Cx} {pins : List (Addr × Obj)} {σ : VS} {H : Hp} {s : Shared} {h' : Heap} {t' : Nat} {ch : List Addr} {T U : Addr} {p q : HO}
theorem upd2_ne {b : Addr} (h1 : b ≠ T) (h2 : b ≠ U) : upd (upd H U q) T p b = H b := (upd_ne h1).trans (upd_ne h2)
theorem two_new (I : Inv X pins σ H s) (k : ∀ b o, b ∉ ch → s.heap.get? b = some o → h'.get? b = some o) (hf : ∀ b ∈ ch, FpOk X pins H b) (lT : s.heap.objs.size ≤ T) (lU : s.heap.objs.size ≤ U)
    (new1 : ObjOk X.prog X.w (upd (upd H U q) T p) h' T p) (new2 : ObjOk X.prog X.w (upd (upd H U q) T p) h' U q) (ne : T ≠ U) : Inv X pins σ (upd (upd H U q) T p) { s with heap := h', toks := t' } := by
  have nT : H T = none := I.hok.fresh lT
  have nU : H U = none := I.hok.fresh lU
  have out : ∀ b u, H b = some u → b ∉ ch := fun b u e z => by have := (hf b z).1; rw [this] at e; cases e
  have same : ∀ b u, H b = some u → upd (upd H U q) T p b = some u := fun b u e => (upd2_ne (ne_of_none e nT) (ne_of_none e nU)).trans e
  have old : ∀ b o, s.heap.get? b = some o → b ≠ T ∧ b ≠ U := fun b o e => ⟨Nat.ne_of_lt (Nat.lt_of_lt_of_le (Heap.lt_size e) lT), Nat.ne_of_lt (Nat.lt_of_lt_of_le (Heap.lt_size e) lU)⟩
  refine I.step (g' := s.gens) (d' := s.drawn) (ch := ch) (fun b hb => ⟨(hf b hb).2.2.2.1, (hf b hb).2.1, (hf b hb).2.2.2.2.1, (hf b hb).2.2.2.2.2⟩) (fun b o _ _ c e _ => k b o c e) (fun b o _ _ c e _ => ⟨o.slots, k b o c e⟩)
    (fun b o _ e n => (upd2_ne (old b o e).1 (old b o e).2).trans n) (fun b o c e => ⟨o, k b o c e⟩) (fun b xs e => same b _ e) (fun b o u e => same b _ e) (fun b ps e => ⟨#[], (same b _ e).trans (by simp)⟩) (fun m hm => ?_) (fun b u e => ?_) I.bare
  · obtain ⟨o, es, ep, ho, r⟩ := hm; exact ⟨o, es, ep, k _ o (fun z => (hf _ z).2.1 rfl) ho, r⟩
  · by_cases hT : b = T
    · subst hT; rw [upd_same] at e; cases e; exact new1
    · rw [upd_ne hT] at e
      by_cases hU : b = U
      · subst hU; rw [upd_same] at e; cases e; exact new2
      · rw [upd_ne hU] at e
        refine (I.hok b u e).stay (fun c v hc x => k c v ?_ x) (fun c x => same c _ x) fun c xs x => same c _ x
        rcases hc with z | z
        · exact z ▸ out b u e
        · exact out c _ z
end
abbrev tnZ (k1 k2 : SK) (a b e z TI TO i1 i2 : Addr) : Nat → Heap → Prop := fun i h =>
  (∃ old, IsEnum h e z ((0 : Int) + ((i : Nat) : Int)) old) ∧ ZAny h z TI TO ∧ IsTupOf2 h TI (.ref i1) (.ref i2) ∧ IsIt k1 h i1 a i ∧ IsIt k2 h i2 b i
section
variable {P : Program} {w : World} {K : PySem.W.Frag} {elts : List Expr} {kk : Nat} {tpos : Pos} {k1 k2 : SK} {a b e z TI TO i1 i2 : Addr} {xs ys : List V}
theorem tnZ_in {i : Nat} {h : Heap} (st : tnZ k1 k2 a b e z TI TO i1 i2 i h) : ∀ c ∈ [e, z, TI, TO, i1, i2], ∃ o, h.get? c = some o ∧ ∀ v, o.data ≠ .cell v := by
  obtain ⟨⟨old, he⟩, ⟨⟨v0, v1, hz, _⟩, x, y, hTO⟩, hTI, h1, h2⟩ := st
  intro c hc
  simp only [List.mem_cons, List.not_mem_nil, or_false] at hc
  rcases hc with q | q | q | q | q | q <;> rw [q]
  · exact ⟨_, he, nofun⟩
  · exact ⟨_, hz, nofun⟩
  · exact ⟨_, hTI, nofun⟩
  · exact ⟨_, hTO, nofun⟩
  · obtain ⟨o, vs, g, d⟩ := h1.obj; exact ⟨o, g, fun v t => by rw [d] at t; cases t⟩
  · obtain ⟨o, vs, g, d⟩ := h2.obj; exact ⟨o, g, fun v t => by rw [d] at t; cases t⟩
theorem turnZ (D : ZipSep2 z TI TO i1 i2 [i1, a] [i2, b]) (Ap : EApart e z TI TO i1 i2 [i1, a] [i2, b]) (n1 : a ≠ i1) (n2 : b ≠ i2) :
    Turn P w K (.Tuple elts kk tpos) (ItZ (good2 K k1 k2 a b xs ys) (min xs.length ys.length) (row2 xs ys)) [e, z, TI, TO, i1, i2] e (tnZ k1 k2 a b e z TI TO i1 i2) where
  mem := by simp
  obj := fun i h st c hc => tnZ_in st c hc
  keep := fun i h h' st k => by
    obtain ⟨⟨old, he⟩, hz, hTI, h1, h2⟩ := st
    exact ⟨⟨old, k e (by simp) _ he⟩, hz.keep (fun o x => k z (by simp) o x) fun o x => k TO (by simp) o x, k TI (by simp) _ hTI, h1.keep fun o x => k i1 (by simp) o x, h2.keep fun o x => k i2 (by simp) o x⟩
  item := by
    intro X hP hw hK hc i pins s σ H E I hf st ⟨⟨g1, g2⟩, hi⟩
    subst hP hw hK
    have inn := tnZ_in st
    obtain ⟨⟨old, he⟩, hz, hTI, h1, h2⟩ := st
    obtain ⟨is1, r1, p1⟩ := Inv.sq I g1
    obtain ⟨is2, r2, p2⟩ := Inv.sq I g2
    have hh := I.ok.hd hc
    have l1 : i < is1.toArray.size := by rw [List.size_toArray, ← r1.length]; omega
    have l2 : i < is2.toArray.size := by rw [List.size_toArray, ← r2.length]; omega
    refine pn_item D Ap (draws k1 (A := X.A.in1.in1) hh i1 a n1 is1.toArray) (draws k2 (A := X.A.in1.in1) hh i2 b n2 is2.toArray) he hz hTI ⟨h1, p1⟩ ⟨h2, p2⟩ l1 l2 ?_
    intro x1 x2 G tk e1 e2 ee ez ⟨u1, v1⟩ ⟨u2, v2⟩ tz te kp
    refine ⟨_, rfl, wpAny_letOwnedTupleGo_enum (s := { s with heap := G, toks := tk + 1 }) ee fun G2 ee2 sb => ?_⟩
    have sb : Heap.SameBut e G G2 := sb
    have el : e < s.heap.objs.size := Heap.lt_size he
    have up : ∀ c o, c ≠ e → G.get? c = some o → G2.get? c = some o := fun c o ne x => sb.extBut _ _ ne x
    have ne0 : s.heap.objs.size ≠ e := Nat.ne_of_gt el
    have ne1 : s.heap.objs.size + 1 ≠ e := Nat.ne_of_gt (Nat.lt_succ_of_lt el)
    have eTI : IsTupOf2 G TI (.ref i1) (.ref i2) := kp TI _ (Ne.symm Ap.I) D.TIz D.TITO D.TIi1 D.TIi2 hTI
    have nU : H s.heap.objs.size = none := I.hok.fresh (Nat.le_refl _)
    have I1 : Inv X pins σ (upd (upd H s.heap.objs.size (.tup (row2 xs ys i))) (s.heap.objs.size + 1) (.tup (rowZ s.heap.objs.size i))) { s with heap := G2, toks := tk + 1 } := by
      refine two_new (ch := [e, z, TI, TO, i1, i2]) I (fun c o hc x => ?_) hf (Nat.le_succ _) (Nat.le_refl _) ⟨by show 2 ≤ sizeLine; decide, [.int ((0 : Int) + (i : Int)) tk, .ref s.heap.objs.size], .cons ⟨tk, by rw [Int.zero_add]⟩ (.cons rfl .nil), _, up _ _ ne1 te, rfl, _, rfl⟩
        ⟨by show 2 ≤ sizeLine; decide, [x1, x2], .cons (valAt r1 e1) (.cons (valAt r2 e2) .nil), _, up _ _ ne0 tz, rfl, _, rfl⟩ (Nat.succ_ne_self _)
      simp only [List.mem_cons, List.not_mem_nil, or_false, not_or] at hc
      exact up _ _ hc.1 (kp c o hc.1 hc.2.1 hc.2.2.2.1 hc.2.2.2.2.1 hc.2.2.2.2.2 x)
    refine ⟨.ref (s.heap.objs.size + 1), _, I1, rfl, ⟨_, _, rfl, nU, ?_, rfl⟩, ⟨⟨.ref s.heap.objs.size, ?_⟩, ez.keep (fun o x => up _ _ (Ne.symm Ap.z) x) fun o x => up _ _ (Ne.symm Ap.O) x, up _ _ (Ne.symm Ap.I) eTI, u1.keep fun o x => up _ _ (Ne.symm Ap.c1) x, u2.keep fun o x => up _ _ (Ne.symm Ap.c2) x⟩, fun c hc => ?_⟩
    · rw [upd_ne (Nat.succ_ne_self _)]; exact I.hok.fresh (Nat.le_succ _)
    · rw [show ((0 : Int) + ((i + 1 : Nat) : Int)) = (0 : Int) + (i : Int) + 1 by omega]; exact ee2
    · obtain ⟨o, g, _⟩ := inn c hc
      have lc := Heap.lt_size g
      rw [upd2_ne (Nat.ne_of_lt (Nat.lt_succ_of_lt lc)) (Nat.ne_of_lt lc)]; exact (hf c hc).1
  done := by
    intro X hP hw hK hc i pins s σ H E I hf st ⟨⟨g1, g2⟩, hi⟩
    subst hP hw hK
    obtain ⟨⟨old, he⟩, hz, hTI, h1, h2⟩ := st
    obtain ⟨is1, r1, p1⟩ := Inv.sq I g1
    obtain ⟨is2, r2, p2⟩ := Inv.sq I g2
    have hh := I.ok.hd hc
    have q1 := r1.length
    have q2 := r2.length
    refine pn_end D (draws k1 (A := X.A.in1.in1) hh i1 a n1 is1.toArray) (draws k2 (A := X.A.in1.in1) hh i2 b n2 is2.toArray) he hz hTI (i := i) ⟨h1, p1⟩ ⟨h2, p2⟩ (by rw [List.size_toArray]; omega) (by rw [List.size_toArray]; omega) (by rw [List.size_toArray, List.size_toArray]; omega) fun h' tk kp => ⟨rfl, ?_⟩
    refine I.turnedL (ch := [e, z, TI, TO, i1, i2]) (fun c o hc x => ?_) hf
    simp only [List.mem_cons, List.not_mem_nil, or_false, not_or] at hc
    exact kp c o hc.2.1 hc.2.2.2.1 hc.2.2.2.2.1 hc.2.2.2.2.2 x
  self := fun A i s Q E st h => by obtain ⟨⟨old, he⟩, _⟩ := st; exact wpAny_pyIter_enum he h
end
/-! such a walk begins -/
set_option maxHeartbeats 1000000 in
theorem enum_z {z TI TO : Addr} {f0 : Value} : Meets (Builtin.«enumerate.__new__» ⟨[.type "enumerate", .ref z], []⟩) (fun _ R s => IsZip s.heap z TI TO f0 ∧
    R (.ok (.ret (.ref s.heap.objs.size))) { s with heap := s.heap.push { cls := .type "enumerate", data := .fields #[.none, .bool false, .ref z, rawInt 0, .none, .none] } }) := by
  refine .of_wp fun prog w A R s h => ?_
  obtain ⟨hp, g, d, tk, os⟩ := s
  obtain ⟨hz, h⟩ := h
  have sub := sub_enumerate
  have q1 : ∀ {A' : Around} {E : Value → Shared → Prop} {Q : Value → Shared → Prop}, Q (.ref z) ⟨hp, g, d, tk, os⟩ → wpAny (model prog w) A' (pyIter (.ref z)) Q E ⟨hp, g, d, tk, os⟩ := fun q => wpAny_pyIter_zip hz q
  wp_walk using q1
  refine wpAny_stack_any fun st => wpAny_pure ?_
  split
  · rename_i c _ _ _ _ _
    cases (c == Value.type "enumerate") <;> (wp_walk using q1; exact ⟨_, rfl, h⟩)
  · wp_walk using q1
    exact ⟨_, rfl, h⟩
theorem enum_zc {prog : Program} {w : World} {A : Around} {E : Value → Shared → Prop} {s : Shared} {z TI TO : Addr} {f0 : Value} {Q : Value → Shared → Prop} (hz : IsZip s.heap z TI TO f0)
    (h : ∀ h', IsEnum h' s.heap.objs.size z 0 .none → (∀ b o, s.heap.get? b = some o → h'.get? b = some o) → Q (.ref s.heap.objs.size) { s with heap := h' }) : wpAny (model prog w) A (call (.type "enumerate") [.ref z]) Q E s := by
  refine callType_new F.called_enumerate (by decide) (F.typeCall_enumerate_1 _) (F.newCall_enumerate_1 _) (fun obj => F.args_object_init_2 obj _) F.entry_enumerate_new enum_z ⟨hz, ⟨_, Heap.get?_push_size s.heap rfl, rfl⟩, h _ (Heap.get?_push_size s.heap rfl) fun b o x => Heap.get?_push_of_some _ x⟩
theorem apart_new {N a b : Nat} (h1 : a < N) (h2 : b < N) : EApart (N + 5) (N + 4) (N + 2) (N + 3) N (N + 1) [N, a] [N + 1, b] where
  z := show (N + 5 : Nat) ≠ N + 4 by omega
  I := show (N + 5 : Nat) ≠ N + 2 by omega
  O := show (N + 5 : Nat) ≠ N + 3 by omega
  c1 := show (N + 5 : Nat) ≠ N by omega
  c2 := show (N + 5 : Nat) ≠ N + 1 by omega
  f1 := fun q => by simp only [List.mem_cons, List.not_mem_nil, or_false] at q; rcases q with q | q <;> (have : (N + 5 : Nat) = _ := q; have : (a : Nat) < N := h1; omega)
  f2 := fun q => by simp only [List.mem_cons, List.not_mem_nil, or_false] at q; rcases q with q | q <;> (have : (N + 5 : Nat) = _ := q; have : (b : Nat) < N := h2; omega)
section
variable {X : Cx}
theorem pi_ez {e e2 : Expr} {ta : TA} {p p2 pos pos2 tpos : Pos} {elts : List Expr} {kk : Nat} (hg0 : Gl X "enumerate") (hm0 : X.mg "enumerate" = none) (hg : Gl X "zip") (hm : X.mg "zip" = none) (ha : PA X [e, e2] ta)
    (hs : starEach [e, e2] X.env = (false, eval e X.env) :: starEach [e2] X.env) (hpl : (backTo pos2 (starEach [e2] X.env)).any (·.1) = false) : PI X (.Tuple elts kk tpos) (.Call (.Name "enumerate" p) [.Call (.Name "zip" p2) [e, e2] [] pos2] [] pos)
      (fun σ H R => ta σ H fun vs H1 => ∃ (a b : Addr) (k1 k2 : SK) (xs ys : List V), vs = [.ref a, .ref b] ∧ SqK X.K k1 H1 a xs ∧ SqK X.K k2 H1 b ys ∧ R (ItZ (good2 X.K k1 k2 a b xs ys) (min xs.length ys.length) (row2 xs ys)) H1) := by
  constructor
  intro pins s σ H R I h
  refine Call_ (ld_blt I hg0 hm0 boot_enumerate (PySem.callWith_type1 ?_))
  refine Call_ (ld_blt I hg hm PyProof.Rows.boot_zip (PyProof.Rows.callWith_type1 (thn (ha.run pos2 pins s σ H _ I h) fun us s1 ⟨vs, H1, I1, r1, a, b, k1, k2, xs, ys, ex, q1, q2, q⟩ => ?_) hs hpl))
  subst ex
  cases r1 with
  | cons r rr =>
  cases rr with
  | cons r' rr =>
  cases rr; cases r; cases r'
  obtain ⟨is1, _, p1⟩ := Inv.sq I1 q1
  obtain ⟨is2, _, p2⟩ := Inv.sq I1 q2
  have l1 := p1.lt
  have l2 := p2.lt
  refine zip_begins2 (begins k1 a is1.toArray) (begins k2 b is2.toArray) p1 p2 fun h' hz hTI hTO g1 g2 hsz hk => enum_zc (s := { s1 with heap := h' }) hz fun h2 he hk2 => ?_
  have hsz : h'.objs.size = s1.heap.objs.size + 5 := hsz
  have he : IsEnum h2 h'.objs.size (s1.heap.objs.size + 4) 0 .none := he
  have hk2 : ∀ b o, h'.get? b = some o → h2.get? b = some o := hk2
  show wpAny _ _ (pyIter (.ref h'.objs.size)) _ _ { s1 with heap := h2 }
  rw [hsz] at he ⊢
  refine wpAny_pyIter_enum he ?_
  have I2 : Inv X pins σ H1 { s1 with heap := h2 } := I1.kept (t' := s1.toks) fun b o x => hk2 b o (hk b o x)
  refine ⟨_, _, _, _, H1, rfl, I2, turnZ (k1 := k1) (k2 := k2) (zip_sep2 (mem_lt l1) (mem_lt l2)) (apart_new l1 l2) (ltN l1) (ltN (Nat.lt_succ_of_lt l2)), ⟨⟨.none, he⟩, ⟨⟨_, _, hk2 _ _ hz, .inl rfl, _, rfl⟩, _, _, hk2 _ _ hTO⟩, hk2 _ _ hTI, IsIt.new k1 (hk2 _ _ g1), IsIt.new k2 (hk2 _ _ g2)⟩, fun c hc => ?_, q⟩
  have hle : s1.heap.objs.size ≤ c := by
    simp only [List.mem_cons, List.not_mem_nil, or_false] at hc
    rcases hc with z | z | z | z | z | z <;> (rw [z]; first | exact Nat.le_refl _ | exact Nat.le_add_right _ _)
  exact I1.fpOk hle (I1.hok.fresh hle)
end
section
variable {U : Wd} {n : Nat} {cv : Cv} {X : Cx} {Wx : WX} {pos pos2 : Pos} {l r : Expr} {as : Exs} {elts : List Expr} {kk : Nat} {tpos : Pos} {p p2 : Pos}
theorem i_enz (W : U.Ok n) (h : Fit U n cv X) (c0 : glB cv "enumerate" = true) (c : glB cv "zip" = true) (ha : PA X [l, r] (TAv U n Wx as)) (hs : starEach [l, r] X.env = (false, eval l X.env) :: starEach [r] X.env) (hpl : (backTo pos2 (starEach [r] X.env)).any (·.1) = false) :
    PI X (.Tuple elts kk tpos) (.Call (.Name "enumerate" p) [.Call (.Name "zip" p2) [l, r] [] pos2] [] pos) (TIv U n Wx (.enz as)) := by
  obtain ⟨g1, _, _⟩ := h.gl c
  obtain ⟨g0, _, _⟩ := h.gl c0
  have hm : X.mg "zip" = none := by rw [h.mg]; exact W.bl "zip" (by decide)
  have hm0 : X.mg "enumerate" = none := by rw [h.mg]; exact W.bl "enumerate" (by decide)
  refine PI.imp (pi_ez g0 hm0 g1 hm ha hs hpl) fun σ H R ⟨s, M, B, f, q⟩ => ⟨s, M, B, f, ?_⟩
  simp only [evI] at q
  refine OKs.bindX q fun ws s1 vs H1 M1 ee t1 f1 r1 q1 => ?_
  obtain ⟨xs, e, k⟩ := q1.ofN f1
  obtain ⟨ys, e1, e2⟩ := Option.bind_eq_some_iff.mp e
  have rr := r1.keeps e1
  unfold enzD at e2
  split at e2
  · obtain ⟨us, e3, e2⟩ := Option.bind_eq_some_iff.mp e2
    obtain ⟨ws2, e4, e2⟩ := Option.bind_eq_some_iff.mp e2
    cases e2
    cases rr with
    | cons x1 rr =>
    cases rr with
    | cons x2 rr =>
    cases rr
    obtain ⟨a, k1, v1, rfl, rs1, hs1⟩ := x1.sq e3
    obtain ⟨b, k2, v2, rfl, rs2, hs2⟩ := x2.sq e4
    rw [h.K]
    refine ⟨a, b, k1, k2, v1, v2, rfl, SqK.now hs1, SqK.now hs2, k _ (wk_rowZ (by rw [enumL_len, zipL_len, rs1.len, rs2.len]) (fun H' t => ⟨hs1 H' t, hs2 H' t⟩) fun i x H' M' B' t e => ?_)⟩
    obtain ⟨y, rfl, e5⟩ := enumL_at e
    obtain ⟨c, d, rfl, g1, g2⟩ := zipL_at e5
    rw [Nat.zero_add]
    exact ⟨_, rfl, .cons ((t.rdsB rs1).getD g1) (.cons ((t.rdsB rs2).getD g2) .nil)⟩
  · cases e2
end
end EV

namespace EV
open PySem PySem.Spec PyProof.Rows L2
/-! ### x.count(k), list(range(..)), tuple(range(..)), {}, {i: j} -/
section
variable {U : Wd} {n : Nat} {cv : Cv} {Wx : WX} {X : Cx} {l r l0 : Expr} {a b : Ex} {pos p p2 pa pc px : Pos}
theorem s_cnt (h : Fit U n cv X) {x : Str} (ho : PE X (.Name x px) (TEv U n Wx a)) (he : PE X l (TEv U n Wx b)) (hl : (pa.endLine == pc.line) = true) (hs : starEach [l] X.env = [(false, eval l X.env)]) :
    PE X (.Call (.Attribute (.Name x px) "count" pa) [l] [] pc) (TEv U n Wx (.cnt a b)) := by
  have ha : PA X [l] (TAv U n Wx (.cons b .nil)) := s_pa1 (by rw [hs]; rfl) he s_pa0
  refine PE.imp (pe_bm F.plainAttrs_list PySem.F.slot_list_count PySem.F.type_list_count mt_lcount ho ha (by rfl) (by rw [hs]; rfl) hl (by rw [hs]; rfl) (by rfl)) fun σ H Q ⟨s, M, B, f, q⟩ => ?_
  simp only [evE] at q
  refine ⟨s, M, B, f, q.bind fun w1 s1 v1 H1 M1 t1 f1 r1 q1 => ?_⟩
  cases e0 : den s1 w1 with
  | none => rw [e0] at q1; exact q1.elim
  | some d =>
    rw [e0] at q1
    cases d with
    | list xs =>
      obtain ⟨ad, vs, rfl, h1, h2⟩ := (r1.den f1 e0).lst
      refine ⟨.inl ⟨rfl, vs, by rw [h.K]; exact h1⟩, s1, M1, B, f1, ?_⟩
      have q2 : OKE U.K U.Cl Wx σ H1 M1 B ((evE U.Γ.G (callF U.Γ.G U.Γ.F n) b s1).bind fun y s3 => R.of s3 ((den s3 w1).bind fun p => (den s3 y).bind fun q => cntD p q)) Q := q1
      simp only [evEs]
      cases e1 : evE U.Γ.G (callF U.Γ.G U.Γ.F n) b s1 with
      | exc c s' => rw [e1] at q2; exact q2
      | stuck => rw [e1] at q2; exact q2
      | ok w2 s2 =>
        rw [e1] at q2
        intro us H2 M2 t2 f2 rs
        cases rs with
        | cons r2 rs =>
          cases rs
          obtain ⟨w, e, q3⟩ := (OKE.later t2 q2).of
          obtain ⟨d1, e2, e3⟩ := Option.bind_eq_some_iff.mp e
          obtain ⟨d2, e4, e5⟩ := Option.bind_eq_some_iff.mp e3
          have k1 := (r1.step t2 fun b z => f1.liv b (.inr z)).den f2 e2
          have k2 := r2.den f2 e4
          cases d1 with
          | list ys =>
            cases d2 with
            | int k =>
              obtain ⟨ns, e6, e7⟩ := Option.bind_eq_some_iff.mp e5
              cases e7
              obtain ⟨a2, vs2, ea, h3, h4⟩ := k1.lst
              cases ea
              rw [h.K]
              rw [ints_rel h4 e6] at h3
              rw [k2.int]
              exact ⟨_, ns, k, rfl, rfl, h3, q3.flat f2 (.int _)⟩
            | _ => cases e5
          | _ => cases e5
    | _ => exact q1.elim
theorem rds_rng {K : PySem.W.Frag} {H : Hp} {A : AS} (lo : Int) (m : Nat) : RDs K H A (rngL lo m) ((List.range m).map fun i => V.int (lo + (i : Nat))) := by
  unfold rngL
  induction (List.range m) with
  | nil => exact .nil
  | cons x xs ih => exact .cons (.int _) ih
theorem one_read {s s' : Sl} {F : List D → Option W} {σ : VS} {H : Hp} {M B : AS} {Q : VK} (q : OKE U.K U.Cl Wx σ H M B ((evEs U.Γ.G (callF U.Γ.G U.Γ.F n) (.cons a .nil) s).bind fun ws s1 => R.of s1 ((dens s1 ws).bind F)) Q) :
    OKE U.K U.Cl Wx σ H M B ((evE U.Γ.G (callF U.Γ.G U.Γ.F n) a s).bind fun x s1 => R.of s1 ((dens s1 [x]).bind F)) Q := by
  simp only [evEs] at q
  cases e : evE U.Γ.G (callF U.Γ.G U.Γ.F n) a s with
  | ok w s' => rw [e] at q; exact q
  | exc c s' => rw [e] at q; exact q
  | stuck => rw [e] at q; exact q
theorem two_read {s : Sl} {F : List D → Option W} {σ : VS} {H : Hp} {M B : AS} {Q : VK} (q : OKE U.K U.Cl Wx σ H M B ((evEs U.Γ.G (callF U.Γ.G U.Γ.F n) (.cons a (.cons b .nil)) s).bind fun ws s1 => R.of s1 ((dens s1 ws).bind F)) Q) :
    OKE U.K U.Cl Wx σ H M B ((evE U.Γ.G (callF U.Γ.G U.Γ.F n) a s).bind fun x s1 => (evE U.Γ.G (callF U.Γ.G U.Γ.F n) b s1).bind fun y s2 => R.of s2 ((dens s2 [x, y]).bind F)) Q := by
  simp only [evEs] at q
  cases e : evE U.Γ.G (callF U.Γ.G U.Γ.F n) a s with
  | exc c s' => rw [e] at q; exact q
  | stuck => rw [e] at q; exact q
  | ok w s' =>
    rw [e] at q
    simp only [R.bind] at q ⊢
    cases e2 : evE U.Γ.G (callF U.Γ.G U.Γ.F n) b s' with
    | ok w2 s2 => rw [e2] at q; exact q
    | exc c s2 => rw [e2] at q; exact q
    | stuck => rw [e2] at q; exact q
def LrgOk (i j : Int) (K : PySem.W.Frag) (σ : VS) (Cl : Nat → Value) (Wx : WX) (tp : Bool) (H : Hp) (Q : VK) : Prop := RgOk i j ∧ ∀ q, H q = none → Q (.ref q) (upd H q (if tp then .tup (rgV i j) else .lst (rgV i j)))
theorem lrg_end {tp : Bool} {i j : Int} {s : Sl} {σ : VS} {H : Hp} {M B : AS} {Q : VK} {w : W} (f : RF U.K H M B s σ) (s1 : small62 i = true) (s2 : small62 j = true) (e : (if tp then tupW (rngL i (j - i).toNat) else lstW (rngL i (j - i).toNat)) = some w) (q : OKE U.K U.Cl Wx σ H M B (.ok w s) Q) :
    LrgOk i j U.K σ U.Cl Wx tp H Q := by
  obtain ⟨b1, b2⟩ := small62_of s1
  obtain ⟨b3, b4⟩ := small62_of s2
  have hl : (rngL i (j - i).toNat).length = (j - i).toNat := by unfold rngL; rw [List.length_map, List.length_range]
  cases tp with
  | true =>
    obtain ⟨rfl, hz⟩ := tupW_some e
    rw [hl, sizeLine_eq] at hz
    exact ⟨⟨b1, b2, b3, b4, hz⟩, fun p n => q.tup f (rds_rng i _) n⟩
  | false =>
    obtain ⟨rfl, hz⟩ := lstW_some e
    rw [hl, sizeLine_eq] at hz
    exact ⟨⟨b1, b2, b3, b4, hz⟩, fun p n => q.lst f (rds_rng i _) n⟩
def lrN (tp : Bool) : String := if tp then "tuple" else "list"
theorem s_lrng1 (W : U.Ok n) (h : Fit U n cv X) {tp : Bool} (c : glB cv (Str.ofString (lrN tp)) = true) (c2 : glB cv "range" = true) (he : PE X l (TEv U n Wx a)) (hs : starEach [l] X.env = (false, eval l X.env) :: starEach [] X.env) :
    PE X (.Call (.Name (Str.ofString (lrN tp)) p) [.Call (.Name "range" p2) [l] [] pc] [] pos) (TEv U n Wx (.lrng tp (.cons a .nil))) := by
  obtain ⟨g1, g2, g3⟩ := h.gl c
  obtain ⟨k1, k2, k3⟩ := h.gl c2
  have hm2 : X.mg "range" = none := by rw [h.mg]; exact W.bl "range" (by decide)
  have rg := prg_1 (pos := pc) (p := p2) k1 hm2 he hs
  have rd : ∀ σ H Q, TEv U n Wx (.lrng tp (.cons a .nil)) σ H Q → tRg1 (TEv U n Wx a) σ H fun i j H1 => LrgOk i j U.K σ U.Cl Wx tp H1 Q := fun σ H Q ⟨s, M, B, f, q⟩ => by
    simp only [evE] at q
    refine ⟨s, M, B, f, (one_read (s' := s) q).bind fun w1 s1 v1 H1 M1 t1 f1 r1 q1 => ?_⟩
    obtain ⟨w, e, q2⟩ := q1.of
    obtain ⟨xs, e1, e2⟩ := Option.bind_eq_some_iff.mp e
    simp only [dens] at e1
    obtain ⟨d, e3, e4⟩ := Option.bind_eq_some_iff.mp e1
    cases e4
    obtain ⟨ys, e5, e6⟩ := Option.bind_eq_some_iff.mp e2
    cases d with
    | int j =>
      simp only [rngD] at e5
      split at e5
      · rename_i sm
        cases e5
        rw [(r1.den f1 e3).int]
        exact ⟨j, rfl, lrg_end f1 (by decide) sm (by rw [show (j - 0).toNat = j.toNat by omega]; exact e6) q2⟩
      · cases e5
    | _ => cases e5
  cases tp with
  | true =>
    have hm : X.mg "tuple" = none := by rw [h.mg]; exact W.bl "tuple" (by decide)
    refine PE.imp (pe_tupRg h.calm g1 hm rg (by rfl)) fun σ H Q q => ?_
    obtain ⟨s, M, B, f, q2⟩ := rd σ H Q q
    exact ⟨s, M, B, f, q2⟩
  | false =>
    have hm : X.mg "list" = none := by rw [h.mg]; exact W.bl "list" (by decide)
    refine PE.imp (pe_listRg h.calm g1 hm rg (by rfl)) fun σ H Q q => ?_
    obtain ⟨s, M, B, f, q2⟩ := rd σ H Q q
    exact ⟨s, M, B, f, q2⟩
theorem s_lrng2 (W : U.Ok n) (h : Fit U n cv X) {tp : Bool} (c : glB cv (Str.ofString (lrN tp)) = true) (c2 : glB cv "range" = true) (he : PE X l (TEv U n Wx a)) (he2 : PE X r (TEv U n Wx b)) (hs : starEach [l, r] X.env = (false, eval l X.env) :: starEach [r] X.env) (hs2 : starEach [r] X.env = (false, eval r X.env) :: starEach [] X.env)
    (hp : (backTo pc (starEach [r] X.env)).any (·.1) = false) :
    PE X (.Call (.Name (Str.ofString (lrN tp)) p) [.Call (.Name "range" p2) [l, r] [] pc] [] pos) (TEv U n Wx (.lrng tp (.cons a (.cons b .nil)))) := by
  obtain ⟨g1, g2, g3⟩ := h.gl c
  obtain ⟨k1, k2, k3⟩ := h.gl c2
  have hm2 : X.mg "range" = none := by rw [h.mg]; exact W.bl "range" (by decide)
  have rg := prg_2 (pos := pc) (p := p2) k1 hm2 he he2 hs hs2 hp
  have rd : ∀ σ H Q, TEv U n Wx (.lrng tp (.cons a (.cons b .nil))) σ H Q → tRg2 (TEv U n Wx a) (TEv U n Wx b) σ H fun i j H1 => LrgOk i j U.K σ U.Cl Wx tp H1 Q := fun σ H Q ⟨s, M, B, f, q⟩ => by
    simp only [evE] at q
    refine ⟨s, M, B, f, (two_read q).bind fun w1 s1 v1 H1 M1 t1 f1 r1 q1 => ⟨s1, M1, B, f1, q1.bind fun w2 s2 v2 H2 M2 t2 f2 r2 q2 => ?_⟩⟩
    obtain ⟨w, e, q3⟩ := q2.of
    obtain ⟨xs, e1, e2⟩ := Option.bind_eq_some_iff.mp e
    simp only [dens] at e1
    obtain ⟨d, e3, e4⟩ := Option.bind_eq_some_iff.mp e1
    obtain ⟨zs, e7, e8⟩ := Option.bind_eq_some_iff.mp e4
    obtain ⟨d2, e9, e10⟩ := Option.bind_eq_some_iff.mp e7
    cases e10
    cases e8
    obtain ⟨ys, e5, e6⟩ := Option.bind_eq_some_iff.mp e2
    cases d with
    | int i =>
      cases d2 with
      | int j =>
        simp only [rngD] at e5
        split at e5
        · rename_i sm
          rw [Bool.and_eq_true] at sm
          cases e5
          rw [((r1.step t2 fun b z => f1.liv b (.inr z)).den f2 e3).int, (r2.den f2 e9).int]
          exact ⟨i, j, rfl, rfl, lrg_end f2 sm.1 sm.2 e6 q3⟩
        · cases e5
      | _ => cases e5
    | _ => cases e5
  cases tp with
  | true =>
    have hm : X.mg "tuple" = none := by rw [h.mg]; exact W.bl "tuple" (by decide)
    refine PE.imp (pe_tupRg h.calm g1 hm rg (by rfl)) fun σ H Q q => ?_
    obtain ⟨s, M, B, f, q2⟩ := rd σ H Q q
    exact ⟨s, M, B, f, q2⟩
  | false =>
    have hm : X.mg "list" = none := by rw [h.mg]; exact W.bl "list" (by decide)
    refine PE.imp (pe_listRg h.calm g1 hm rg (by rfl)) fun σ H Q q => ?_
    obtain ⟨s, M, B, f, q2⟩ := rd σ H Q q
    exact ⟨s, M, B, f, q2⟩
/-- a new dict -/
theorem OKE.dct {ds : List (D × D)} {kvs : List (Key × V)} {pp : Addr} {σ : VS} {H : Hp} {M B : AS} {s : Sl} {Q : VK} (h : OKE U.K U.Cl Wx σ H M B (.ok (.d (.dict ds)) s) Q) (f : RF U.K H M B s σ) (r : kvD ds = some kvs) (n : H pp = none) : Q (.ref pp) (upd H pp (.dK kvs)) :=
  h _ _ M (Stp.laid n) (f.laid n) (show RD _ _ _ _ _ from .dct ⟨.inl upd_same, fun z => f.liv pp z n⟩ r)
theorem s_dct0 : PE X (.Dict [] [] pos) (TEv U n Wx (.dct [])) := PE.imp pe_dnewK fun σ H Q ⟨s, M, B, f, q⟩ => by
  simp only [evE] at q
  exact fun p np => OKE.dct q f rfl np
theorem s_dct1 {i j : Int} {k1 k2 : Nat} {p3 p4 : Pos} : PE X (.Dict [some (.Constant (.int i) k1 p3)] [.Constant (.int j) k2 p4] pos) (TEv U n Wx (.dct [(i, j)])) := by
  refine PE.imp (pe_disp (pps_cons pe_int pe_int pps_nil) (by rfl) (by rfl) (by simp) (by simp)) fun σ H Q ⟨s, M, B, f, q⟩ => ?_
  simp only [evE] at q
  intro p np
  refine ⟨upd_same, [(.inl i, .int j)], rfl, by simp, ?_⟩
  rw [upd_upd]
  exact OKE.dct q f rfl np
end
end EV

namespace EV
open PySem PySem.Spec PyProof.Rows L2
/-! ### sorted(set(xs)), xs a tuple of ints -/
theorem mem_insI (j k : Int) : ∀ l : List Int, j ∈ insI k l ↔ j = k ∨ j ∈ l
  | [] => by simp [insI]
  | x :: xs => by
    unfold insI
    split
    · simp
    · split
      · rename_i h
        subst h
        simp
      · rw [List.mem_cons, mem_insI j k xs, List.mem_cons]
        constructor
        · rintro (h | h | h)
          · exact .inr (.inl h)
          · exact .inl h
          · exact .inr (.inr h)
        · rintro (h | h | h)
          · exact .inr (.inl h)
          · exact .inl h
          · exact .inr (.inr h)
theorem pw_insI (k : Int) : ∀ l : List Int, l.Pairwise (· < ·) → (insI k l).Pairwise (· < ·)
  | [], _ => by simp [insI]
  | x :: xs, h => by
    obtain ⟨h1, h2⟩ := List.pairwise_cons.mp h
    unfold insI
    split
    · rename_i hk
      refine List.pairwise_cons.mpr ⟨fun y hy => ?_, h⟩
      rcases List.mem_cons.mp hy with rfl | hy
      · exact hk
      · exact Int.lt_trans hk (h1 y hy)
    · split
      · exact h
      · refine List.pairwise_cons.mpr ⟨fun y hy => ?_, pw_insI k xs h2⟩
        rcases (mem_insI y k xs).mp hy with rfl | hy
        · omega
        · exact h1 y hy
theorem mem_ssI (j : Int) (ns : List Int) : j ∈ ssI ns ↔ j ∈ ns := by
  unfold ssI
  induction ns with
  | nil => simp
  | cons x xs ih => rw [List.foldr_cons, mem_insI, ih, List.mem_cons]
theorem pw_ssI (ns : List Int) : (ssI ns).Pairwise (· < ·) := by
  unfold ssI
  induction ns with
  | nil => exact .nil
  | cons x xs ih => rw [List.foldr_cons]; exact pw_insI x _ ih
theorem pw_uniq : ∀ {l m : List Int}, l.Pairwise (· < ·) → m.Pairwise (· < ·) → (∀ k, k ∈ l ↔ k ∈ m) → l = m
  | [], [], _, _, _ => rfl
  | [], y :: ys, _, _, h => absurd ((h y).mpr List.mem_cons_self) (by simp)
  | x :: xs, [], _, _, h => absurd ((h x).mp List.mem_cons_self) (by simp)
  | x :: xs, y :: ys, hl, hm, h => by
    obtain ⟨a1, a2⟩ := List.pairwise_cons.mp hl
    obtain ⟨b1, b2⟩ := List.pairwise_cons.mp hm
    have e : x = y := by
      rcases List.mem_cons.mp ((h x).mp List.mem_cons_self) with z | z
      · exact z
      · rcases List.mem_cons.mp ((h y).mpr List.mem_cons_self) with w | w
        · exact w.symm
        · have := b1 x z
          have := a1 y w
          omega
    subst e
    rw [pw_uniq a2 b2 fun k => ?_]
    constructor
    · intro hk
      rcases List.mem_cons.mp ((h k).mp (List.mem_cons_of_mem _ hk)) with z | z
      · have := a1 k hk
        omega
      · exact z
    · intro hk
      rcases List.mem_cons.mp ((h k).mpr (List.mem_cons_of_mem _ hk)) with z | z
      · have := b1 k hk
        omega
      · exact z
section
variable {X : Cx}
/-- set(xs) of a tuple of ints -/
def rSetTI (K : PySem.W.Frag) (w : World) : List V → Hp → VK → Prop := fun xs H Q => ∃ (l : Addr) (ns : List Int), xs = [.ref l] ∧ SqT K H l (ns.map V.int) ∧ ns.length < 64 ∧ ∀ p c, H p = none → c ≤ ns.length → Q (.ref p) (upd H p (SetO w p (fun j => decide (j ∈ ns)) c))
theorem cr_setTI (hc : X.calm = true) : CallR X (.type "set") (rSetTI X.K X.w) := by
  intro pins s σ H vs us Q I r ⟨l, ns, e, hs, hl, q⟩
  subst e
  have eu := Vals.ref1 r
  subst eu
  obtain ⟨is, rv, pl, _⟩ := I.tuple hs
  have hi : IntsAre is.toArray.toList ns := by simpa using rv.ints
  refine call_set_tupI ns (I.ok.hd hc) pl hi (by unfold scanBound; omega) fun h2 tk c R le k => ?_
  have fr := I.hok.fresh (Nat.le_refl s.heap.objs.size)
  exact ⟨V.ref s.heap.objs.size, _, I.laid k (Nat.le_refl _) (setO_new R), rfl, q s.heap.objs.size c fr le⟩
/-- sorted of such a set -/
def rSortSI (w : World) : List V → Hp → VK → Prop := fun xs H Q => ∃ (a : Addr) (S : Int → Bool) (n : Nat), xs = [.ref a] ∧ H a = some (SetO w a S n) ∧ n < 64 ∧ ∀ p (ms : List Int), H p = none → ms.Pairwise (· < ·) → (∀ k, k ∈ ms ↔ S k = true) → ms.length = n → Q (.ref p) (upd H p (.lst (ms.map V.int)))
theorem cr_sortSI (hc : X.calm = true) : CallR X (.builtin "sorted") (rSortSI X.w) := by
  intro pins s σ H vs us Q I r ⟨a, S, n, e, ha, hn, q⟩
  subst e
  have eu := Vals.ref1 r
  subst eu
  refine sorted_set (setO_get I ha) (I.ok.hd hc) hn fun s2 p out c ms k g o hp hg hi pw mem len => ?_
  have hz : (ms.map V.int).length ≤ sizeLine := by rw [List.length_map, len, sizeLine_eq]; omega
  have fr : H p = none := I.hok.fresh hp
  have new : HOk X.prog X.w (upd H p (.lst (ms.map V.int))) s2.heap := I.hok.laid k hp ⟨hz, out.toList, c, vals_of_ints hi, by simpa using hg⟩
  have I2 : Inv X pins σ (upd H p (.lst (ms.map V.int))) ⟨s2.heap, s2.gens, s2.drawn, s2.toks, s.os⟩ := I.call (ch := []) (Un.laid k hp fr) new (by rw [g]; exact I.bare) (by simp)
  have es : s2 = ⟨s2.heap, s2.gens, s2.drawn, s2.toks, s.os⟩ := by rw [← o]
  rw [es]
  exact ⟨V.ref p, _, I2, rfl, q p ms fr pw mem len⟩
theorem s_sset {U : Wd} {n : Nat} {cv : Cv} {Wx : WX} {l : Expr} {a : Ex} {p p2 pc pos : Pos} (W : U.Ok n) (h : Fit U n cv X) (c : glB cv (Str.ofString "sorted") = true) (c2 : glB cv (Str.ofString "set") = true) (he : PE X l (TEv U n Wx a)) (hs : starEach [l] X.env = (false, eval l X.env) :: starEach [] X.env) :
    PE X (.Call (.Name (Str.ofString "sorted") p) [.Call (.Name (Str.ofString "set") p2) [l] [] pc] [] pos) (TEv U n Wx (.sset a)) := by
  obtain ⟨g1, g2, g3⟩ := h.gl c
  obtain ⟨k1, k2, k3⟩ := h.gl c2
  have m1 : X.mg (Str.ofString "sorted") = none := by rw [h.mg]; exact W.bl "sorted" (by decide)
  have m2 : X.mg (Str.ofString "set") = none := by rw [h.mg]; exact W.bl "set" (by decide)
  have b1 : bootBuiltins (Str.ofString "sorted") = some (.builtin "sorted") := by decide +kernel
  have inner := pe_callTy (pos := pc) (p := p2) (cr_setTI h.calm) k1 m2 PyProof.Rows.boot_set (pa_cons he pa_nil hs) k3 k2 hs (by rfl)
  refine PE.imp (pe_callB (cr_sortSI h.calm) g1 m1 b1 (pa_cons inner pa_nil (by rfl)) g3 g2 (by rfl) (by rfl)) fun σ H Q ⟨s, M, B, f, q⟩ => ?_
  simp only [evE] at q
  refine ⟨s, M, B, f, q.bind fun w1 s1 v1 H1 M1 t1 f1 r1 q1 => ?_⟩
  obtain ⟨w, e1, q2⟩ := q1.of
  obtain ⟨d, e2, e3⟩ := Option.bind_eq_some_iff.mp e1
  have rx := r1.den f1 e2
  rw [h.K]
  cases d with
  | tuple xs =>
    obtain ⟨ns, e4, e5⟩ := Option.bind_eq_some_iff.mp e3
    split at e5
    · rename_i hl
      cases e5
      obtain ⟨b, vs, rfl, h1, h2⟩ := rx.tup
      have hi := ints_rel h2 e4
      subst hi
      refine ⟨b, ns, rfl, RD.sqT h1, hl, fun p1 c1 n1 le => ⟨p1, _, c1, rfl, upd_same, by omega, fun p3 ms n3 pw mem len => ?_⟩⟩
      have e6 : ms = ssI ns := pw_uniq pw (pw_ssI ns) fun k => by rw [mem, mem_ssI, decide_eq_true_eq]
      rw [e6]
      exact (OKE.later (Stp.laid n1) q2).lst (f1.laid n1) (by
        generalize ssI ns = zs
        induction zs with
        | nil => exact .nil
        | cons z zs ih => exact .cons (.int z) ih) n3
    · cases e5
  | _ => cases e3
end
end EV

namespace EV
open PySem PySem.Spec PyProof.Rows L2
/-! ### comprehensions -/
/-- nothing is let out -/
def W0 : WX := fun _ _ _ _ => False
theorem takesW0 {X : Cx} : Takes X W0 := fun u s' ⟨_, _, _, _, _, _, _, _, _, _, _, _, _, _, _, _, w⟩ => w.elim
/-! slots forgotten -/
theorem wipe_in {σ : VS} {i : Nat} : ∀ {vs : List Nat}, i ∈ vs → i < σ.length → (wipe σ vs)[i]? = some none
  | v :: vs, h, hl => by
    unfold wipe
    by_cases hv : v = i
    · rw [hv, List.getElem?_set_self (by rw [wipe_length]; exact hl)]
    · rw [List.getElem?_set_ne hv]
      exact wipe_in ((List.mem_cons.mp h).resolve_left fun z => hv z.symm) hl
theorem wipe_out {σ : VS} {i : Nat} : ∀ {vs : List Nat}, i ∉ vs → (wipe σ vs)[i]? = σ[i]?
  | [], _ => rfl
  | v :: vs, h => by
    unfold wipe
    rw [List.getElem?_set_ne (fun z => h (by rw [z]; exact List.mem_cons_self)), wipe_out fun z => h (List.mem_cons_of_mem _ z)]
theorem wip_len {s : Sl} : ∀ {vs : List Nat}, (wip s vs).length = s.length
  | [] => rfl
  | v :: vs => by unfold wip; rw [List.length_set, wip_len]
theorem wip_some {s : Sl} {i : Nat} {x : SV} : ∀ {vs : List Nat}, (wip s vs)[i]? = some (some x) → s[i]? = some (some x) ∧ i ∉ vs
  | [], h => ⟨h, by simp⟩
  | v :: vs, h => by
    unfold wip at h
    by_cases hv : v = i
    · subst hv
      by_cases hl : v < (wip s vs).length
      · rw [List.getElem?_set_self hl] at h; cases h
      · rw [List.getElem?_eq_none (by rw [List.length_set]; omega)] at h; cases h
    · rw [List.getElem?_set_ne hv] at h
      obtain ⟨h1, h2⟩ := wip_some h
      exact ⟨h1, fun z => (List.mem_cons.mp z).elim (fun z => hv z.symm) h2⟩
theorem wipe_eq {σ σ' : VS} {vs : List Nat} (hl : σ'.length = σ.length) (h : ∀ i, i ∉ vs → σ'[i]? = σ[i]?) : wipe σ' vs = wipe σ vs := by
  apply List.ext_getElem?
  intro i
  by_cases hi : i ∈ vs
  · by_cases hl' : i < σ.length
    · rw [wipe_in hi hl', wipe_in hi (by rw [hl]; exact hl')]
    · rw [List.getElem?_eq_none (by rw [wipe_length]; omega), List.getElem?_eq_none (by rw [wipe_length]; omega)]
  · rw [wipe_out hi, wipe_out hi]
    exact h i hi
section
variable {K : PySem.W.Frag} {H H' : Hp} {M M' B : AS} {s : Sl} {σ σ' : VS} {vs : List Nat}
/-- slots known may be less -/
theorem RF.sub {s' : Sl} (f : RF K H M B s σ) (hl : s'.length = σ'.length) (h : ∀ (i : Nat) x, s'[i]? = some (some x) → s[i]? = some (some x) ∧ σ'[i]? = σ[i]?) : RF K H M B s' σ' where
  len := hl
  dat := fun i x e => by
    obtain ⟨h1, h2⟩ := h i _ e
    rw [h2]
    exact f.dat i x h1
  own := fun i x e => by
    obtain ⟨h1, h2⟩ := h i _ e
    rw [h2]
    exact f.own i x h1
  sep := fun i j a xs ys hij e1 e2 e3 e4 => by
    obtain ⟨h1, h2⟩ := h i _ e1
    obtain ⟨h3, h4⟩ := h j _ e2
    rw [h2] at e3
    rw [h4] at e4
    exact f.sep i j a xs ys hij h1 h3 e3 e4
  liv := f.liv
  dis := f.dis
theorem RF.wip (f : RF K H M B s σ) : RF K H M B (wip s vs) (wipe σ vs) := f.sub (by rw [wip_len, wipe_length]; exact f.len) fun i x e => by
  obtain ⟨h1, h2⟩ := wip_some e
  exact ⟨h1, wipe_out h2⟩
/-- back behind the block -/
theorem RF.unwip (f : RF K H M B (EV.wip s vs) (wipe σ vs)) : RF K H M B (EV.wip s vs) σ := f.sub (by rw [f.len, wipe_length]) fun i x e => ⟨e, (wipe_out (wip_some e).2).symm⟩
end
/-- what is avoided may be written -/
theorem RF.wr {K : PySem.W.Frag} {H : Hp} {M B : AS} {s : Sl} {σ : VS} {D : Addr} {o : HO} (f : RF K H M B s σ) (hD : B D) : RF K (upd H D o) M B s σ := by
  have kp : ∀ a u, ¬ Av M B a → H a = some u → (upd H D o) a = some u := fun a u n q => by
    rw [upd_ne (fun z => n (.inr (by rw [z]; exact hD)))]
    exact q
  refine ⟨f.len, fun i x e => ?_, fun i xs e => ?_, f.sep, fun a z => ?_, f.dis⟩
  · obtain ⟨v, h1, h2⟩ := f.dat i x e
    exact ⟨v, h1, RD.mono kp (fun a z => .inl z) _ _ h2⟩
  · obtain ⟨a, vs, h1, h2, h3, h4⟩ := f.own i xs e
    exact ⟨a, vs, h1, h2, by rw [upd_ne (fun z => f.dis a h2 (by rw [z]; exact hD))]; exact h3, RDs.mono kp (fun a z => .inl z) _ _ h4⟩
  · by_cases ha : a = D
    · rw [ha, upd_same]; intro z; cases z
    · rw [upd_ne ha]; exact f.liv a z
mutual
theorem bindT_len : ∀ {tg : Tg} {x : D} {s s' : Sl}, bindT tg x s = some s' → s'.length = s.length
  | .nm i, x, s, s', e => by
    simp only [bindT] at e
    split at e
    · cases e; rw [List.length_set]
    · cases e
  | .tp ts, x, s, s', e => by
    cases x with
    | tuple xs => simp only [bindT] at e; exact bindTs_len e
    | _ => cases e
theorem bindTs_len : ∀ {tg : Tgs} {x : List D} {s s' : Sl}, bindTs tg x s = some s' → s'.length = s.length
  | .nil, [], s, s', e => by simp only [bindTs] at e; cases e; rfl
  | .nil, _ :: _, s, s', e => by cases e
  | .cons t ts, [], s, s', e => by cases e
  | .cons t ts, x :: xs, s, s', e => by
    simp only [bindTs] at e
    obtain ⟨s1, h1, h2⟩ := Option.bind_eq_some_iff.mp e
    rw [bindTs_len h2, bindT_len h1]
end
/-- the block's promise -/
structure BlkP (U : Wd) (n : Nat) (cv : Cv) (X : Cx) (scope : Scope) (own : List (Str × Nat)) : Prop where
  ok : BlkOk X.N X.env.scope scope own
  fit : ∀ (s : Shared) (H : Hp) (C : Addr) (cl : List (Str × Addr)) (fp : List Addr), Fit U n { cv with sc := relS scope cv.sc, st := fun x => scope.names.lookup x == some .cell } (X.blk s H scope (compEnvC scope cl C X.env) fp)
section
variable {U : Wd} {n : Nat} {cv : Cv} {X : Cx} {Wx : WX}
theorem blk_p (h : Fit U n cv X) {scope : Scope} {own : List (Str × Nat)} (c : blkC cv.N cv.sc scope own = true) : BlkP U n cv X scope own := by
  refine ⟨by rw [h.N, h.sc]; exact blkOk_by c, fun s H C cl fp => ⟨h.P, h.w, h.K, h.mg, h.base, h.N, h.nd, ?_, fun x e => e, h.calm, h.room, h.guards⟩⟩
  show relS scope X.env.scope = relS scope cv.sc
  rw [h.sc]
/-- the tests of a comprehension -/
def TIfs (U : Wd) (n : Nat) (Wx : WX) (as : Exs) : TT := fun σ H Q => ∃ s M B, RF U.K H M B s σ ∧ OKX (fun H' M' s' b => RF U.K H' M' B s' σ → Q b H') U.K U.Cl Wx σ H M B (evIfs U.Γ.G (callF U.Γ.G U.Γ.F n) as s)
/-- a test that tells the slots too -/
def TTs (U : Wd) (n : Nat) (Wx : WX) (e : Ex) : TT := fun σ H Q => ∃ s M B, RF U.K H M B s σ ∧ OKX (fun H' _ _ b => Q b H') U.K U.Cl Wx σ H M B (evE U.Γ.G (callF U.Γ.G U.Γ.F n) e s).tst
theorem if0 : PTs X [] (TIfs U n Wx .nil) := ⟨fun pins s σ H Q I ⟨s0, M, B, f, q⟩ => pts_nil.run pins s σ H Q I (by simp only [evIfs] at q; exact q H M (.refl _ _) f f)⟩
theorem if1 {l : Expr} {a : Ex} (ha : PT X l (TTv U n Wx a)) : PTs X [l] (TIfs U n Wx (.cons a .nil)) := ⟨fun pins s σ H Q I ⟨s0, M, B, f, q⟩ => (pts_one ha).run pins s σ H Q I ⟨s0, M, B, f, by
  simp only [evIfs] at q
  cases e : (evE U.Γ.G (callF U.Γ.G U.Γ.F n) a s0).tst with
  | ok w s' => rw [e] at q; exact fun H' M' t f' => q H' M' t f' f'
  | exc c s' => rw [e] at q; exact q
  | stuck => rw [e] at q; exact q⟩⟩
theorem lim_ok {n : Nat} (h : n < lim) : n < sizeLine := h
/-- one turn after the other -/
theorem lc_turns {bnd : D → Sl → Option Sl} {ifs : Sl → R Bool} {elt : Sl → R W} {own : List Nat} {xs acc ys : List D} {s s' : Sl} {x : D} (e : compL bnd ifs elt own (x :: xs) acc s = .ok ys s') :
    ∃ s1, bnd x s = some s1 ∧ ((∃ s2, ifs s1 = .ok false s2 ∧ compL bnd ifs elt own xs acc (wip s2 own) = .ok ys s') ∨
      ∃ s2 w s3 y, ifs s1 = .ok true s2 ∧ elt s2 = .ok w s3 ∧ keep w = some y ∧ acc.length < lim ∧ compL bnd ifs elt own xs (acc ++ [y]) (wip s3 own) = .ok ys s') := by
  simp only [compL] at e
  split at e
  · cases e
  · rename_i s1 e1
    refine ⟨s1, e1, ?_⟩
    split at e
    · rename_i s2 e2
      exact .inl ⟨s2, e2, e⟩
    · rename_i s2 e2
      split at e
      · rename_i w s3 e3
        split at e
        · rename_i y e4
          split at e
          · rename_i hl
            exact .inr ⟨s2, w, s3, y, e2, e3, e4, hl, e⟩
          · cases e
        · cases e
      · cases e
    · cases e
/-- a list comprehension -/
theorem lc_read (h : Fit U n cv X) {elt : Ex} {tg : Tg} {it : Iw} {ifs : Exs} {own : List (Str × Nat)} (ht : ∀ i ∈ tg.sl, i ∈ own.map (·.2)) {σ : VS} {H : Hp} {Q : VK} (q : TEv U n Wx (.comp elt tg it (own.map (·.2)) ifs) σ H Q) :
    tLc (TIv U n Wx it) (TGv U.K tg) (TIfs U n W0 ifs) (TEv U n W0 elt) (own.map (·.2)) σ H Q := by
  obtain ⟨s, M, B, f, q⟩ := q
  generalize own.map (·.2) = vs at *
  simp only [evE] at q
  refine ⟨s, M, B, f, ?_⟩
  cases eI : evI U.Γ.G (callF U.Γ.G U.Γ.F n) it s with
  | exc c s' => rw [eI] at q; exact q
  | stuck => rw [eI] at q; exact q
  | ok xs s1 =>
    rw [eI] at q
    intro H1 M1 t1 f1 J wk D hD
    have q1 := OKE.later t1 q
    simp only [R.bind] at q1
    cases eL : compL (bindT tg) (evIfs U.Γ.G (callF U.Γ.G U.Γ.F n) ifs) (evE U.Γ.G (callF U.Γ.G U.Γ.F n) elt) vs xs [] (wip s1 vs) with
    | exc c s' => rw [eL] at q1; exact q1.elim
    | stuck => rw [eL] at q1; exact q1.elim
    | ok ys s2 =>
      rw [eL] at q1
      obtain ⟨G, Y, wl, wy⟩ := wk
      -- the new list is avoided
      have tD : Stp M1 H1 M1 (upd H1 D (.lst [])) := .laid hD
      have fD : RF U.K (upd H1 D (.lst [])) M1 (fun a => B a ∨ a = D) (wip s1 vs) (wipe σ vs) := (f1.laidB hD).wip
      have nM : ¬ M1 D := fun z => f1.liv D (.inl z) hD
      have nB : ¬ B D := fun z => f1.liv D (.inr z) hD
      let Pv : Nat → Hp → Prop := fun i H => ∃ M' s' acc vl, Stp M1 H1 M' H ∧ ¬ M' D ∧ RF U.K H M' (fun a => B a ∨ a = D) s' (wipe σ vs) ∧ H D = some (.lst vl) ∧ RDs U.K H (Av M' fun a => B a ∨ a = D) acc vl ∧ (∃ s0, s' = wip s0 vs) ∧
        compL (bindT tg) (evIfs U.Γ.G (callF U.Γ.G U.Γ.F n) ifs) (evE U.Γ.G (callF U.Γ.G U.Γ.F n) elt) vs (xs.drop i) acc s' = .ok ys s2
      refine lc_it wl Pv ⟨M1, _, [], [], tD, nM, fD, upd_same, .nil, ⟨_, rfl⟩, eL⟩ (fun i H hi ⟨M', s', acc, vl, t, nm, f', _, _, _, _⟩ => (wy H M' B (t.av fun a z => .inl z) fun a z => f'.liv a (z.imp id .inl)).1) ?_ ?_
      · rintro i v H2 H3 hi ⟨M2, s', acc, vl, t2, nm2, f2, hv, ra, _, e⟩ hY
        rw [List.drop_eq_getElem_cons hi] at e
        obtain ⟨sb, eb, rest⟩ := lc_turns e
        obtain ⟨gr, rd3⟩ := (wy H2 M2 (fun a => B a ∨ a = D) (t2.av fun a z => z.imp id fun z => by rw [z]; exact hD) f2.liv).2 i v H3 xs[i] hY (List.getElem?_eq_getElem hi)
        have t3 := gr.stp (M := M2)
        have f3 := gr.rf f2
        have hv3 : H3 D = some (.lst vl) := t3.keep D _ nm2 hv
        have ra3 := t3.rds (fun a z => f2.liv a (.inr z)) ra
        refine ⟨s', M2, _, xs[i], f3, rd3, ?_⟩
        rw [eb]
        intro σ2 fb kb
        have e2 : wipe σ2 vs = wipe σ vs := by
          refine wipe_eq ?_ fun j hj => by rw [kb j (fun z => hj (ht j z)), wipe_out hj]
          rw [← fb.len, bindT_len eb, f2.len, wipe_length]
        refine ⟨e2, ?_⟩
        rcases rest with ⟨s2', er, ec⟩ | ⟨s2', w, s3, y, er, ew, ek, hl, ec⟩
        · refine ⟨sb, M2, _, fb, ?_⟩
          rw [er]
          intro H4 M4 t4 f4 _
          have hv4 := t4.keep D _ nm2 hv3
          refine iteF ⟨M4, wip s2' vs, acc, vl, (t2.trans t3).trans t4, fun z => ?_, by rw [← e2]; exact f4.wip, hv4, t4.rds (fun a z => fb.liv a (.inr z)) ra3, ⟨_, rfl⟩, ec⟩
          rcases t4.new D z with z | z
          · exact nm2 z
          · rw [hv3] at z; cases z
        · refine ⟨sb, M2, _, fb, ?_⟩
          rw [er]
          intro H4 M4 t4 f4 _
          have hv4 := t4.keep D _ nm2 hv3
          have nm4 : ¬ M4 D := fun z => by
            rcases t4.new D z with z | z
            · exact nm2 z
            · rw [hv3] at z; cases z
          have ra4 := t4.rds (fun a z => fb.liv a (.inr z)) ra3
          refine iteT ⟨s2', M4, _, f4, ?_⟩
          rw [ew]
          intro v5 H5 M5 t5 f5 rt
          have hv5 := t5.keep D _ nm4 hv4
          have ra5 := t5.rds (fun a z => f4.liv a (.inr z)) ra4
          have rw5 := rt.rh.keep ek
          have nm5 : ¬ M5 D := fun z => by
            rcases t5.new D z with z | z
            · exact nm4 z
            · rw [hv4] at z; cases z
          refine ⟨vl, hv5, by rw [← ra.len]; exact lim_ok hl, M5, wip s3 vs, acc ++ [y], vl ++ [v5], ?_, nm5, ?_, upd_same, ?_, ⟨_, rfl⟩, ec⟩
          · have t6 := ((t2.trans t3).trans t4).trans t5
            refine ⟨fun a o n q => ?_, fun a q => ?_, t6.new⟩
            · rw [upd_ne (fun z => by rw [z, hD] at q; cases q)]
              exact t6.keep a o n q
            · by_cases ha : a = D
              · rw [ha, upd_same]; intro z; cases z
              · rw [upd_ne ha]; exact t6.live a q
          · rw [← e2]
            exact (f5.wr (.inr rfl)).wip
          · exact RDs.mono (fun a u n q => by rw [upd_ne (fun z => n (.inr (.inr z)))]; exact q) (fun a z => .inl z) _ _ (ra5.app (.cons rw5 .nil))
      · rintro H2 ⟨M2, s', acc, vl, t2, nm2, f2, hv, ra, ⟨s0, rfl⟩, e⟩
        rw [List.drop_length] at e
        simp only [compL] at e
        cases e
        refine q1 (.ref D) H2 M2 t2 (f2.unwip.lessB fun a z => .inl z) ⟨D, vl, rfl, hD, nm2, nB, hv, f2.unwip, ra⟩
theorem s_lc (h : Fit U n cv X) {elt : Ex} {tg : Tg} {it : Iw} {ifs : Exs} {own : List (Str × Nat)} {vs : List Nat} {scope : Scope} {el tge ite : Expr} {ts : List Expr} {pos : Pos} (hv : vs = own.map (·.2)) (ht : ∀ i ∈ tg.sl, i ∈ vs) (hi : PI X tge ite (TIv U n Wx it)) (ok : BlkP U n cv X scope own)
    (hg : ∀ X', Fit U n { cv with sc := relS scope cv.sc, st := fun x => scope.names.lookup x == some .cell } X' → PG X' tge (TGv U.K tg))
    (hf : ∀ X', Fit U n { cv with sc := relS scope cv.sc, st := fun x => scope.names.lookup x == some .cell } X' → Takes X' W0 → PTs X' ts (TIfs U n W0 ifs))
    (he : ∀ X', Fit U n { cv with sc := relS scope cv.sc, st := fun x => scope.names.lookup x == some .cell } X' → Takes X' W0 → PE X' el (TEv U n W0 elt)) (hs : ∀ x, foldedSetIterable ite X.env x = pure x) :
    PE X (.ListComp el [⟨tge, ite, ts, 0⟩] scope pos) (TEv U n Wx (.comp elt tg it vs ifs)) := by
  subst hv
  exact PE.imp (pe_lc h.calm h.nd hi ok.ok (fun s H C cl fp => hg _ (ok.fit s H C cl fp)) (fun s H C cl fp => hf _ (ok.fit s H C cl fp) takesW0) (fun s H C cl fp => he _ (ok.fit s H C cl fp) takesW0) hs) fun σ H Q q => lc_read h ht q
/-- the inner walk of two -/
theorem lc_in {J : It} {n : Nat} {G : Hp → Prop} {Y : Nat → Hp → V → Hp → Prop} (w : Walk J n G Y) {g : TG} {te : TE} {vs : List Nat} {σ : VS} {H1 : Hp} {D : Addr} {Nx : Hp → Prop} (Pv : Nat → Hp → Prop) (h0 : Pv 0 H1) (hG : ∀ i H, i ≤ n → Pv i H → G H)
    (hs : ∀ i x H H', i < n → Pv i H → Y i H x H' → g x (wipe σ vs) H' fun σ2 H2 => wipe σ2 vs = wipe σ vs ∧ te σ2 H2 fun y H4 => ∃ acc, H4 D = some (.lst acc) ∧ acc.length < sizeLine ∧ Pv (i + 1) (upd H4 D (.lst (acc ++ [y])))) (hd : ∀ H, Pv n H → Nx H)
    (gm : ∀ x σ H Q Q', (∀ σ H, Q σ H → Q' σ H) → g x σ H Q → g x σ H Q') :
    ∃ W1 : Nat → Nat → Hp → Prop, (∃ m, W1 0 m H1) ∧ ∀ j k H, W1 j k H →
      (J.stop j H ∧ Nx H) ∨ (J.go j H ∧ ∃ Nx1 : Hp → Prop, (∀ H', Nx1 H' → ∃ k', k' < k ∧ W1 (j + 1) k' H') ∧ ∀ x H', J.yld j H x H' → g x (wipe σ vs) H' fun σ3 H5 => wipe σ3 vs = wipe σ vs ∧ tYes σ3 H5 fun b H6 =>
        if b = true then te σ3 H6 fun y H7 => ∃ acc, H7 D = some (.lst acc) ∧ acc.length < sizeLine ∧ Nx1 (upd H7 D (.lst (acc ++ [y]))) else Nx1 H6) := by
  refine ⟨fun i m H => m = n - i ∧ i ≤ n ∧ Pv i H, ⟨n, by simp, Nat.zero_le _, h0⟩, ?_⟩
  rintro i m H ⟨rfl, hi, p⟩
  have q := hG i H hi p
  by_cases hlt : i < n
  · refine .inr ⟨w.goes i H hlt q, Pv (i + 1), fun H' p' => ⟨n - (i + 1), by omega, rfl, hlt, p'⟩, fun x H' y => gm _ _ _ _ _ (fun σ H ⟨h1, h2⟩ => ⟨h1, (show (if true = true then _ else Pv (i + 1) H) from iteT h2)⟩) (hs i x H H' hlt p (w.yields i H x H' hlt q y))⟩
  · have e : i = n := by omega
    subst e
    exact .inl ⟨w.stops H q, hd H p⟩
theorem tgv_mono {tg : Tg} (x : V) (σ : VS) (H : Hp) (Q Q' : VS → Hp → Prop) (i : ∀ σ H, Q σ H → Q' σ H) (h : TGv U.K tg x σ H Q) : TGv U.K tg x σ H Q' := by
  obtain ⟨s, M, B, d, f, r, q⟩ := h
  refine ⟨s, M, B, d, f, r, ?_⟩
  cases e : bindT tg d s with
  | none => rw [e] at q; exact q
  | some s' => rw [e] at q; exact fun σ' f' k => i _ _ (q σ' f' k)
theorem lc2_read (h : Fit U n cv X) {elt : Ex} {tg tg2 : Tg} {it it2 : Iw} {own : List (Str × Nat)} {vs2 : List Nat} (ht : ∀ i ∈ tg.sl, i ∈ own.map (·.2)) (ht2 : ∀ i ∈ tg2.sl, i ∈ vs2) (hv : ∀ i ∈ vs2, i ∈ own.map (·.2)) {σ : VS} {H : Hp} {Q : VK} (q : TEv U n Wx (.comp2 elt tg it tg2 it2 (own.map (·.2)) vs2) σ H Q) :
    tLc2 (TIv U n Wx it) (TGv U.K tg) tYes (TIv U n W0 it2) (TGv U.K tg2) tYes (TEv U n W0 elt) (own.map (·.2)) vs2 σ H Q := by
  obtain ⟨s, M, B, f, q⟩ := q
  generalize own.map (·.2) = vs at *
  simp only [evE] at q
  refine ⟨s, M, B, f, ?_⟩
  cases eI : evI U.Γ.G (callF U.Γ.G U.Γ.F n) it s with
  | exc c s' => rw [eI] at q; exact q
  | stuck => rw [eI] at q; exact q
  | ok xs s1 =>
    rw [eI] at q
    intro H1 M1 t1 f1 J wk D hD
    have q1 := OKE.later t1 q
    simp only [R.bind] at q1
    cases eL : comp2L (bindT tg) (evI U.Γ.G (callF U.Γ.G U.Γ.F n) it2) (bindT tg2) (evE U.Γ.G (callF U.Γ.G U.Γ.F n) elt) vs vs2 xs [] (wip s1 vs) with
    | exc c s' => rw [eL] at q1; exact q1.elim
    | stuck => rw [eL] at q1; exact q1.elim
    | ok ys s2 =>
      rw [eL] at q1
      obtain ⟨G, Y, wl, wy⟩ := wk
      have tD : Stp M1 H1 M1 (upd H1 D (.lst [])) := .laid hD
      have fD : RF U.K (upd H1 D (.lst [])) M1 (fun a => B a ∨ a = D) (wip s1 vs) (wipe σ vs) := (f1.laidB hD).wip
      have nM : ¬ M1 D := fun z => f1.liv D (.inl z) hD
      have nB : ¬ B D := fun z => f1.liv D (.inr z) hD
      let Pv : Nat → Hp → Prop := fun i H => ∃ M' s' acc vl, Stp M1 H1 M' H ∧ ¬ M' D ∧ RF U.K H M' (fun a => B a ∨ a = D) s' (wipe σ vs) ∧ H D = some (.lst vl) ∧ RDs U.K H (Av M' fun a => B a ∨ a = D) acc vl ∧ (∃ s0, s' = wip s0 vs) ∧
        comp2L (bindT tg) (evI U.Γ.G (callF U.Γ.G U.Γ.F n) it2) (bindT tg2) (evE U.Γ.G (callF U.Γ.G U.Γ.F n) elt) vs vs2 (xs.drop i) acc s' = .ok ys s2
      have updD : ∀ {Ma Mb : AS} {Ha Hb : Hp} {o : HO}, Stp Ma Ha Mb Hb → Ha D = none → Stp Ma Ha Mb (upd Hb D o) := fun t6 hn => ⟨fun a o n q => by
          rw [upd_ne (fun z => by rw [z, hn] at q; cases q)]
          exact t6.keep a o n q, fun a q => by
          by_cases ha : a = D
          · rw [ha, upd_same]; intro z; cases z
          · rw [upd_ne ha]; exact t6.live a q, t6.new⟩
      refine ⟨fun i m H => m = xs.length - i ∧ i ≤ xs.length ∧ Pv i H, ⟨_, rfl, Nat.zero_le _, M1, _, [], [], tD, nM, fD, upd_same, .nil, ⟨_, rfl⟩, eL⟩, ?_⟩
      rintro i m H2 ⟨rfl, hi, p⟩
      obtain ⟨M2, s', acc, vl, t2, nm2, f2, hv2, ra, ⟨s0, hs0⟩, e⟩ := p
      have g2 := (wy H2 M2 B (t2.av fun a z => .inl z) fun a z => f2.liv a (z.imp id .inl)).1
      by_cases hlt : i < xs.length
      · refine .inr ⟨wl.goes i H2 hlt g2, Pv (i + 1), fun H' p' => ⟨xs.length - (i + 1), by omega, rfl, hlt, p'⟩, fun v H3 y => ?_⟩
        have hY := wl.yields i H2 v H3 hlt g2 y
        rw [List.drop_eq_getElem_cons hlt] at e
        simp only [comp2L] at e
        obtain ⟨gr, rd3⟩ := (wy H2 M2 (fun a => B a ∨ a = D) (t2.av fun a z => z.imp id fun z => by rw [z]; exact hD) f2.liv).2 i v H3 xs[i] hY (List.getElem?_eq_getElem hlt)
        have t3 := gr.stp (M := M2)
        have f3 := gr.rf f2
        have hv3 : H3 D = some (.lst vl) := t3.keep D _ nm2 hv2
        have ra3 := t3.rds (fun a z => f2.liv a (.inr z)) ra
        refine ⟨s', M2, _, xs[i], f3, rd3, ?_⟩
        cases eb : bindT tg xs[i] s' with
        | none => rw [eb] at e; cases e
        | some sb =>
          rw [eb] at e
          simp only at e ⊢
          intro σ2 fb kb
          have e2 : wipe σ2 vs = wipe σ vs := by
            refine wipe_eq ?_ fun j hj => by rw [kb j (fun z => hj (ht j z)), wipe_out hj]
            rw [← fb.len, bindT_len eb, f2.len, wipe_length]
          refine ⟨e2, (show (if true = true then _ else Pv (i + 1) H3) from iteT ?_)⟩
          cases eI2 : evI U.Γ.G (callF U.Γ.G U.Γ.F n) it2 sb with
          | exc c s' => rw [eI2] at e; cases e
          | stuck => rw [eI2] at e; cases e
          | ok zs s4 =>
            rw [eI2] at e
            simp only at e
            cases eC : compL (bindT tg2) (fun s => .ok true s) (evE U.Γ.G (callF U.Γ.G U.Γ.F n) elt) vs2 zs acc (wip s4 vs2) with
            | exc c s' => rw [eC] at e; cases e
            | stuck => rw [eC] at e; cases e
            | ok acc2 s5 =>
              rw [eC] at e
              simp only at e
              refine ⟨sb, M2, _, fb, ?_⟩
              rw [eI2]
              intro H4 M4 t4 f4 J1 wk1
              have hv4 := t4.keep D _ nm2 hv3
              have nm4 : ¬ M4 D := fun z => by
                rcases t4.new D z with z | z
                · exact nm2 z
                · rw [hv3] at z; cases z
              have ra4 := t4.rds (fun a z => fb.liv a (.inr z)) ra3
              have t14 := (t2.trans t3).trans t4
              obtain ⟨G1, Y1, wl1, wy1⟩ := wk1
              let Pv1 : Nat → Hp → Prop := fun j H => ∃ M' s' acc vl, Stp M1 H1 M' H ∧ Stp (Av M4 fun a => B a ∨ a = D) H4 (Av M' fun a => B a ∨ a = D) H ∧ ¬ M' D ∧ RF U.K H M' (fun a => B a ∨ a = D) s' (wipe σ2 vs2) ∧ H D = some (.lst vl) ∧ RDs U.K H (Av M' fun a => B a ∨ a = D) acc vl ∧ (∃ s0, s' = wip s0 vs2) ∧
                compL (bindT tg2) (fun s => .ok true s) (evE U.Γ.G (callF U.Γ.G U.Γ.F n) elt) vs2 (zs.drop j) acc s' = .ok acc2 s5
              refine lc_in wl1 Pv1 ⟨M4, _, acc, vl, t14, .refl _ _, nm4, f4.wip, hv4, ra4, ⟨_, rfl⟩, eC⟩ (fun j H hj ⟨M', s', acc, vl, _, t, nm, f', _, _, _, _⟩ => (wy1 H M' (fun a => B a ∨ a = D) t f'.liv).1) ?_ ?_ tgv_mono
              · rintro j v5 H5 H6 hj ⟨M5, s6, acc5, vl5, t15, t5, nm5, f5, hv5, ra5, _, e5⟩ hY5
                rw [List.drop_eq_getElem_cons hj] at e5
                obtain ⟨sb2, eb2, rest⟩ := lc_turns e5
                obtain ⟨gr6, rd6⟩ := (wy1 H5 M5 (fun a => B a ∨ a = D) t5 f5.liv).2 j v5 H6 zs[j] hY5 (List.getElem?_eq_getElem hj)
                have t6 := gr6.stp (M := M5)
                have f6 := gr6.rf f5
                have hv6 : H6 D = some (.lst vl5) := t6.keep D _ nm5 hv5
                have ra6 := t6.rds (fun a z => f5.liv a (.inr z)) ra5
                refine ⟨s6, M5, _, zs[j], f6, rd6, ?_⟩
                rw [eb2]
                intro σ7 fb7 kb7
                have e7 : wipe σ7 vs2 = wipe σ2 vs2 := by
                  refine wipe_eq ?_ fun m hm => by rw [kb7 m (fun z => hm (ht2 m z)), wipe_out hm]
                  rw [← fb7.len, bindT_len eb2, f5.len, wipe_length]
                refine ⟨e7, ?_⟩
                rcases rest with ⟨s2', er, ec⟩ | ⟨s2', w, s8, y8, er, ew, ek, hl, ec⟩
                · cases er
                · cases er
                  refine ⟨sb2, M5, _, fb7, ?_⟩
                  rw [ew]
                  intro v8 H8 M8 t8 f8 rt
                  have hv8 := t8.keep D _ nm5 hv6
                  have ra8 := t8.rds (fun a z => fb7.liv a (.inr z)) ra6
                  have rw8 := rt.rh.keep ek
                  have nm8 : ¬ M8 D := fun z => by
                    rcases t8.new D z with z | z
                    · exact nm5 z
                    · rw [hv6] at z; cases z
                  refine ⟨vl5, hv8, by rw [← ra5.len]; exact lim_ok hl, M8, wip s8 vs2, acc5 ++ [y8], vl5 ++ [v8], updD ((t15.trans t6).trans t8) hD, ?_, nm8, ?_, upd_same, ?_, ⟨_, rfl⟩, ec⟩
                  · have t9 := (t5.trans (t6.av fun a z => .inl z)).trans (t8.av fun a z => .inl z)
                    refine ⟨fun a o n q => ?_, fun a q => ?_, t9.new⟩
                    · rw [upd_ne (fun z => n (.inr (.inr z)))]; exact t9.keep a o n q
                    · by_cases ha : a = D
                      · rw [ha, upd_same]; intro z; cases z
                      · rw [upd_ne ha]; exact t9.live a q
                  · rw [← e7]
                    exact (f8.wr (.inr rfl)).wip
                  · exact RDs.mono (fun a u n q => by rw [upd_ne (fun z => n (.inr (.inr z)))]; exact q) (fun a z => .inl z) _ _ (ra8.app (.cons rw8 .nil))
              · rintro H9 ⟨M9, s9, acc9, vl9, t19, t9, nm9, f9, hv9, ra9, ⟨s0', rfl⟩, e9⟩
                rw [List.drop_length] at e9
                simp only [compL] at e9
                cases e9
                exact ⟨M9, _, acc2, vl9, t19, nm9, e2 ▸ f9.unwip.wip, hv9, ra9, ⟨_, rfl⟩, e⟩
      · have e0 : i = xs.length := by omega
        subst e0
        refine .inl ⟨wl.stops H2 g2, ?_⟩
        subst hs0
        rw [List.drop_length] at e
        simp only [comp2L] at e
        cases e
        exact q1 (.ref D) H2 M2 t2 (f2.unwip.lessB fun a z => .inl z) ⟨D, vl, rfl, hD, nm2, nB, hv2, f2.unwip, ra⟩
theorem s_lc2 (h : Fit U n cv X) {elt : Ex} {tg tg2 : Tg} {it it2 : Iw} {own : List (Str × Nat)} {vs vs2 : List Nat} {scope : Scope} {el tge ite tge2 ite2 : Expr} {pos : Pos} (hv : vs = own.map (·.2)) (ht : ∀ i ∈ tg.sl, i ∈ vs) (ht2 : ∀ i ∈ tg2.sl, i ∈ vs2) (hv2 : ∀ i ∈ vs2, i ∈ vs) (hi : PI X tge ite (TIv U n Wx it)) (ok : BlkP U n cv X scope own)
    (hg : ∀ X', Fit U n { cv with sc := relS scope cv.sc, st := fun x => scope.names.lookup x == some .cell } X' → PG X' tge (TGv U.K tg))
    (hi2 : ∀ X', Fit U n { cv with sc := relS scope cv.sc, st := fun x => scope.names.lookup x == some .cell } X' → Takes X' W0 → PI X' tge2 ite2 (TIv U n W0 it2))
    (hg2 : ∀ X', Fit U n { cv with sc := relS scope cv.sc, st := fun x => scope.names.lookup x == some .cell } X' → PG X' tge2 (TGv U.K tg2))
    (he : ∀ X', Fit U n { cv with sc := relS scope cv.sc, st := fun x => scope.names.lookup x == some .cell } X' → Takes X' W0 → PE X' el (TEv U n W0 elt)) (hs : ∀ x, foldedSetIterable ite X.env x = pure x) (hs2 : ∀ env x, foldedSetIterable ite2 env x = pure x) :
    PE X (.ListComp el [⟨tge, ite, [], 0⟩, ⟨tge2, ite2, [], 0⟩] scope pos) (TEv U n Wx (.comp2 elt tg it tg2 it2 vs vs2)) := by
  subst hv
  exact PE.imp (pe_lc2 h.calm h.nd hi ok.ok hv2 (fun s H C cl fp => hg _ (ok.fit s H C cl fp)) (fun s H C cl fp => pts_nil) (fun s H C cl fp => hi2 _ (ok.fit s H C cl fp) takesW0) (fun s H C cl fp => hg2 _ (ok.fit s H C cl fp)) (fun s H C cl fp => pts_nil) (fun s H C cl fp => he _ (ok.fit s H C cl fp) takesW0) hs hs2) fun σ H Q q => lc2_read h ht ht2 hv2 q
end
end EV

namespace EV
open PySem PySem.Spec PyProof.Rows L2
/-! ### statements -/
/-- a statement's end is as wished; what was handed on stays where it is -/
def OKS (K : PySem.W.Frag) (Cl : Nat → Value) (Wx : WX) (io : List Nat) (σ : VS) (H : Hp) (M B : AS) (r : Fl) (D : Ends) : Prop := match r with
  | .nx s' => ∀ σ' H' M', Stp M H M' H' → RF K H' M' B s' σ' → (∀ i ∈ io, σ'[i]? = σ[i]?) → D.nx σ' H'
  | .ct s' => ∀ σ' H' M', Stp M H M' H' → RF K H' M' B s' σ' → (∀ i ∈ io, σ'[i]? = σ[i]?) → D.ct σ' H'
  | .rt w s' => ∀ v σ' H' M', Stp M H M' H' → RF K H' M' B s' σ' → (∀ i ∈ io, σ'[i]? = σ[i]?) → RT K H H' M' B s' σ' w v → D.rt v H'
  | .exc c s' => ∀ σ' H' M', Stp M H M' H' → RF K H' M' B s' σ' → (∀ i ∈ io, σ'[i]? = σ[i]?) → Wx (Cl c) none σ' H'
  | .stuck => False
section
variable {K : PySem.W.Frag} {Cl : Nat → Value} {Wx : WX} {io : List Nat} {σ σ' : VS} {H H' : Hp} {M M' B : AS} {s : Sl} {Ed : Ends}
theorem OKS.later {r : Fl} (t : Stp M H M' H') (e : ∀ i ∈ io, σ'[i]? = σ[i]?) (h : OKS K Cl Wx io σ H M B r Ed) : OKS K Cl Wx io σ' H' M' B r Ed := by
  cases r with
  | nx s' => exact fun σ2 H2 M2 t2 f2 e2 => h σ2 H2 M2 (t.trans t2) f2 fun i hi => (e2 i hi).trans (e i hi)
  | ct s' => exact fun σ2 H2 M2 t2 f2 e2 => h σ2 H2 M2 (t.trans t2) f2 fun i hi => (e2 i hi).trans (e i hi)
  | rt w s' => exact fun v σ2 H2 M2 t2 f2 e2 rt => h v σ2 H2 M2 (t.trans t2) f2 (fun i hi => (e2 i hi).trans (e i hi)) (rt.back t.live)
  | exc c s' => exact fun σ2 H2 M2 t2 f2 e2 => h σ2 H2 M2 (t.trans t2) f2 fun i hi => (e2 i hi).trans (e i hi)
  | stuck => exact h
theorem OKS.bind {r : R W} {f : W → Sl → Fl} {Q : VK} (h : OKS K Cl Wx io σ H M B (r.fl f) Ed)
    (hp : ∀ w s' v H' M', Stp M H M' H' → RF K H' M' B s' σ → RT K H H' M' B s' σ w v → OKS K Cl Wx io σ H' M' B (f w s') Ed → Q v H') : OKE K Cl Wx σ H M B r Q := by
  cases r with
  | ok w s' => exact fun v H2 M2 t2 f2 rt => hp w s' v H2 M2 t2 f2 rt (OKS.later t2 (fun _ _ => rfl) h)
  | exc c s' => exact fun H2 M2 t2 f2 => h σ H2 M2 t2 f2 fun _ _ => rfl
  | stuck => exact h
theorem OKS.bindX {α : Type} {T : Hp → AS → Sl → α → Prop} {r : R α} {f : α → Sl → Fl} (h : OKS K Cl Wx io σ H M B (r.fl f) Ed)
    (hp : ∀ w s' H' M', Stp M H M' H' → RF K H' M' B s' σ → OKS K Cl Wx io σ H' M' B (f w s') Ed → T H' M' s' w) : OKX T K Cl Wx σ H M B r := by
  cases r with
  | ok w s' => exact fun H2 M2 t2 f2 => hp w s' H2 M2 t2 f2 (OKS.later t2 (fun _ _ => rfl) h)
  | exc c s' => exact fun H2 M2 t2 f2 => h σ H2 M2 t2 f2 fun _ _ => rfl
  | stuck => exact h
theorem Stp.own {a : Addr} (t : Stp M H M' H') (n : H a = none) : Stp M H (fun b => M' b ∨ b = a) H' := ⟨t.keep, t.live, fun b z => z.elim (t.new b) fun z => .inr (by rw [z]; exact n)⟩
theorem Stp.wr {a : Addr} {o : HO} (h : M a) : Stp M H M (upd H a o) := by
  refine ⟨fun b u n e => by rw [upd_ne (fun z => n (by rw [z]; exact h))]; exact e, fun b e => ?_, fun b z => .inl z⟩
  by_cases hb : b = a
  · rw [hb, upd_same]; intro z; cases z
  · rw [upd_ne hb]; exact e
/-- a slot owns a list just made -/
theorem RF.putO {i : Nat} {a : Addr} {vs : List V} {xs : List D} (f : RF K H M (fun b => B b ∨ b = a) s σ) (nB : ¬ B a) (e : H a = some (.lst vs)) (r : RDs K H (Av M fun b => B b ∨ b = a) xs vs) :
    RF K H (fun b => M b ∨ b = a) B (s.set i (some (.own xs))) (σ.set i (some (.ref a))) := by
  have cover : ∀ b, (M b ∨ b = a) ∨ B b → M b ∨ B b ∨ b = a := fun b z => by
    rcases z with (z | z) | z
    · exact .inl z
    · exact .inr (.inr z)
    · exact .inr (.inl z)
  have nM : ¬ M a := fun z => f.dis a z (.inr rfl)
  have at_i : ∀ (j : Nat) x, (s.set i (some (SV.own xs)))[j]? = some (some x) → (i = j ∧ x = .own xs ∧ (σ.set i (some (.ref a)))[j]? = some (some (.ref a))) ∨ (i ≠ j ∧ s[j]? = some (some x) ∧ (σ.set i (some (.ref a)))[j]? = σ[j]?) := fun j x q => by
    by_cases hj : i = j
    · subst hj
      have hl : i < s.length := by
        have := (List.getElem?_eq_some_iff.mp q).1
        rwa [List.length_set] at this
      rw [List.getElem?_set_self hl] at q
      cases q
      exact .inl ⟨rfl, rfl, List.getElem?_set_self (by rw [← f.len]; exact hl)⟩
    · rw [List.getElem?_set_ne hj] at q
      exact .inr ⟨hj, q, List.getElem?_set_ne hj⟩
  refine ⟨by rw [List.length_set, List.length_set]; exact f.len, fun j y q => ?_, fun j ys q => ?_, fun j k b ys zs hjk q1 q2 q3 q4 => ?_, fun b z => f.liv b (cover b z), fun b z1 z2 => ?_⟩
  · rcases at_i j _ q with ⟨_, z, _⟩ | ⟨_, q1, q2⟩
    · cases z
    · rw [q2]
      obtain ⟨v, h1, h2⟩ := f.dat j y q1
      exact ⟨v, h1, h2.less cover⟩
  · rcases at_i j _ q with ⟨_, z, q2⟩ | ⟨_, q1, q2⟩
    · cases z
      exact ⟨a, vs, q2, .inr rfl, e, r.less cover⟩
    · rw [q2]
      obtain ⟨b, us, h1, h2, h3, h4⟩ := f.own j ys q1
      exact ⟨b, us, h1, .inl h2, h3, h4.less cover⟩
  · rcases at_i j _ q1 with ⟨e1, z1, p1⟩ | ⟨e1, r1, p1⟩
    · rcases at_i k _ q2 with ⟨e2, z2, p2⟩ | ⟨e2, r2, p2⟩
      · exact hjk (e1.symm.trans e2)
      · rw [p1] at q3
        cases q3
        rw [p2] at q4
        obtain ⟨b, us, h1, h2, _⟩ := f.own k zs r2
        rw [q4] at h1
        cases h1
        exact nM h2
    · rcases at_i k _ q2 with ⟨e2, z2, p2⟩ | ⟨e2, r2, p2⟩
      · rw [p2] at q4
        cases q4
        rw [p1] at q3
        obtain ⟨b, us, h1, h2, _⟩ := f.own j ys r1
        rw [q3] at h1
        cases h1
        exact nM h2
      · rw [p1] at q3
        rw [p2] at q4
        exact f.sep j k b ys zs hjk r1 r2 q3 q4
  · rcases z1 with z1 | rfl
    · exact f.dis b z1 (.inl z2)
    · exact nB z2
/-- an owned list is written -/
theorem RF.setl {i : Nat} {a : Addr} {xs ys : List D} {vs : List V} (f : RF K H M B s σ) (e : s[i]? = some (some (.own xs))) (ea : σ[i]? = some (some (.ref a))) (r : RDs K H (Av M B) ys vs) :
    RF K (upd H a (.lst vs)) M B (s.set i (some (.own ys))) σ := by
  obtain ⟨a', us, h1, hM, h3, h4⟩ := f.own i xs e
  rw [ea] at h1
  cases h1
  have kp : ∀ b o, ¬ Av M B b → H b = some o → (upd H a (.lst vs)) b = some o := fun b o n q => by
    rw [upd_ne (fun z => n (.inl (by rw [z]; exact hM)))]
    exact q
  have hl : i < s.length := (List.getElem?_eq_some_iff.mp e).1
  have own_of : ∀ (j : Nat) zs, (s.set i (some (SV.own ys)))[j]? = some (some (.own zs)) → ∃ zs', s[j]? = some (some (.own zs')) := fun j zs q => by
    by_cases hj : i = j
    · exact ⟨xs, by rw [← hj]; exact e⟩
    · rw [List.getElem?_set_ne hj] at q
      exact ⟨zs, q⟩
  refine ⟨by rw [List.length_set]; exact f.len, fun j y q => ?_, fun j zs q => ?_, fun j k b us zs hjk q1 q2 q3 q4 => ?_, fun b z => (Stp.wr hM).live b (f.liv b z), f.dis⟩
  · by_cases hj : i = j
    · subst hj
      rw [List.getElem?_set_self hl] at q
      cases q
    · rw [List.getElem?_set_ne hj] at q
      obtain ⟨v, p1, p2⟩ := f.dat j y q
      exact ⟨v, p1, RD.mono kp (fun a z => .inl z) _ _ p2⟩
  · by_cases hj : i = j
    · subst hj
      rw [List.getElem?_set_self hl] at q
      cases q
      exact ⟨a, vs, ea, hM, upd_same, RDs.mono kp (fun a z => .inl z) _ _ r⟩
    · rw [List.getElem?_set_ne hj] at q
      obtain ⟨b, us, p1, p2, p3, p4⟩ := f.own j zs q
      exact ⟨b, us, p1, p2, by rw [upd_ne (fun z => f.sep i j a xs zs hj e q ea (by rw [p1, z]))]; exact p3, RDs.mono kp (fun a z => .inl z) _ _ p4⟩
  · obtain ⟨us', r1⟩ := own_of j us q1
    obtain ⟨zs', r2⟩ := own_of k zs q2
    exact f.sep j k b us' zs' hjk r1 r2 q3 q4
end
def TSv (U : Wd) (n : Nat) (Wx : WX) (io : List Nat) (a : Sm) : TS := fun D σ H => ∃ s M B, RF U.K H M B s σ ∧ OKS U.K U.Cl Wx io σ H M B (evS U.Γ.G (callF U.Γ.G U.Γ.F n) a s) D
def TSsv (U : Wd) (n : Nat) (Wx : WX) (io : List Nat) (a : Sms) : TS := fun D σ H => ∃ s M B, RF U.K H M B s σ ∧ OKS U.K U.Cl Wx io σ H M B (evSs U.Γ.G (callF U.Γ.G U.Γ.F n) a s) D
theorem PS.imp {X : Cx} {st : Stmt} {t t' : TS} (h : PS X st t) (i : ∀ D σ H, t' D σ H → t D σ H) : PS X st t' := ⟨fun pins s σ H D I q => h.run pins s σ H D I (i D σ H q)⟩
theorem PSs.imp {X : Cx} {st : List Stmt} {t t' : TS} (h : PSs X st t) (i : ∀ D σ H, t' D σ H → t D σ H) : PSs X st t' := ⟨fun pins s σ H D I q => h.run pins s σ H D I (i D σ H q)⟩
section
variable {U : Wd} {n : Nat} {cv : Cv} {X : Cx} {Wx : WX} {io : List Nat} {pos : Pos} {l : Expr} {e : Ex}
theorem RT.nwOf {K : PySem.W.Frag} {H₀ H : Hp} {M B : AS} {s : Sl} {σ : VS} {w : W} {v : V} {xs : List D} (r : RT K H₀ H M B s σ w v) (e : w = .nw xs) : NW K H₀ H M B s σ xs v := by subst e; exact r
/-- a slot takes data -/
theorem st_set {st : Stmt} {i : Nat} (ni : i ∉ io) (h : PS X st (tAsg (TEv U n Wx e) (gName i))) : PS X st (TSv U n Wx io (.set i e)) := by
  refine PS.imp h fun D σ H ⟨s, M, B, f, q⟩ => ⟨s, M, B, f, ?_⟩
  simp only [evS] at q
  refine OKS.bind q fun w s1 v H1 M1 t1 f1 rt q1 => ?_
  split at q1
  · rename_i x ek
    unfold stD at q1
    split at q1
    · exact q1 _ H1 M1 (.refl _ _) (f1.put (rt.rh.keep ek)) fun j hj => List.getElem?_set_ne fun z => ni (by rw [z]; exact hj)
    · exact q1.elim
  · exact q1.elim
/-- a slot takes a list just made, to change it -/
theorem st_seto {st : Stmt} {i : Nat} (ni : i ∉ io) (h : PS X st (tAsg (TEv U n Wx e) (gName i))) : PS X st (TSv U n Wx io (.seto i e)) := by
  refine PS.imp h fun D σ H ⟨s, M, B, f, q⟩ => ⟨s, M, B, f, ?_⟩
  simp only [evS] at q
  have t0 : Stp M H M H := .refl _ _
  have key : OKE U.K U.Cl Wx σ H M B (evE U.Γ.G (callF U.Γ.G U.Γ.F n) e s) fun x H1 => gName i x σ H1 D.nx := by
    cases er : evE U.Γ.G (callF U.Γ.G U.Γ.F n) e s with
    | exc c s' => rw [er] at q; exact fun H2 M2 t2 f2 => q σ H2 M2 t2 f2 fun _ _ => rfl
    | stuck => rw [er] at q; exact q
    | ok w s1 =>
      rw [er] at q
      intro v H1 M1 t1 f1 rt
      cases w with
      | nw xs =>
        have q : OKS U.K U.Cl Wx io σ H M B (stD s1 i (.own xs)) D := q
        unfold stD at q
        split at q
        · obtain ⟨a, vs, rfl, h0, h1, h2, h3, h4, h5⟩ := NW.ex rt
          exact q _ H1 _ (t1.own h0) (h4.putO h2 h3 h5) fun j hj => List.getElem?_set_ne fun z => ni (by rw [z]; exact hj)
        · exact q.elim
      | d x => exact q.elim
      | al j => exact q.elim
      | io j => exact q.elim
  exact key
/-- name = e -/
theorem as_name (h : Fit U n cv X) {i : Nat} {x : Str} {px : Pos} {te : TE} (c : stB cv i x = true) (he : PE X l te) (hs : swapsWith l (some (.Name x px)) pos.line X.env = pure false) : PS X (.Assign [.Name x px] l pos) (tAsg te (gName i)) := by
  unfold stB at c
  simp only [Bool.and_eq_true, decide_eq_true_eq] at c
  obtain ⟨l1, l2⟩ := h.loc c.2
  exact ps_set h.nd (by rw [h.N]; exact c.1) l1 he hs l2
/-- a, (b, c) = e -/
theorem st_unp {tg : Tg} {tge : Expr} (ni : ∀ i ∈ tg.sl, i ∉ io) (he : PE X l (TEv U n Wx e)) (hg : PG X tge (TGv U.K tg)) (hs : swapsWithSole [tge] l pos.line X.env = pure false) (hw : swappedStores [tge] l X.env = pure none)
    (h1 : (assignEach [tge] X.env).map (·.2) = [assign tge X.env]) : PS X (.Assign [tge] l pos) (TSv U n Wx io (.unp tg e)) := by
  refine PS.imp (ps_asg he hg hs hw h1) fun D σ H ⟨s, M, B, f, q⟩ => ⟨s, M, B, f, ?_⟩
  simp only [evS] at q
  refine OKS.bind q fun w s1 v H1 M1 t1 f1 rt q1 => ?_
  cases ek : keep w with
  | none => rw [ek] at q1; exact q1.elim
  | some x =>
    rw [ek] at q1
    refine ⟨s1, M1, B, x, f1, rt.rh.keep ek, ?_⟩
    cases eb : bindT tg x s1 with
    | none => simp only [Option.bind_some, eb] at q1; exact q1.elim
    | some s2 =>
      simp only [Option.bind_some, eb] at q1
      exact fun σ' f' k => q1 σ' H1 M1 (.refl _ _) f' fun i hi => k i fun z => ni i z hi
/-- a, b = c, d -/
theorem st_par (h : Fit U n cv X) {i j : Nat} {x y : Str} {a b : Ex} {la lb : Expr} {px py pt pt2 : Pos} {kt k2 : Nat} (ni : i ∉ io) (nj : j ∉ io) (hij : i ≠ j) (hi : cv.N[i]? = some x) (hj : cv.N[j]? = some y) (hx : cv.sc.names.lookup x = some .local) (hy : cv.sc.names.lookup y = some .local)
    (ha : PA X [la, lb] (TAv U n Wx (.cons a (.cons b .nil)))) (hw : swappedStores [.Tuple [.Name x px, .Name y py] kt pt] (.Tuple [la, lb] k2 pt2) X.env = pure (some [x, y]))
    (hs : swapsWithSole [.Tuple [.Name x px, .Name y py] kt pt] (.Tuple [la, lb] k2 pt2) pos.line X.env = pure false) : PS X (.Assign [.Tuple [.Name x px, .Name y py] kt pt] (.Tuple [la, lb] k2 pt2) pos) (TSv U n Wx io (.par i j a b)) := by
  refine PS.imp (ps_par h.calm h.nd (by rw [h.N]; exact hi) (by rw [h.N]; exact hj) hij (by rw [h.sc]; exact hx) (by rw [h.sc]; exact hy) ha hw hs) fun D σ H ⟨s, M, B, f, q⟩ => ⟨s, M, B, f, ?_⟩
  simp only [evS] at q
  simp only [evEs]
  cases e1 : evE U.Γ.G (callF U.Γ.G U.Γ.F n) a s with
  | exc c s' => rw [e1] at q; exact fun H2 M2 t2 f2 => q σ H2 M2 t2 f2 fun _ _ => rfl
  | stuck => rw [e1] at q; exact q
  | ok w1 s1 =>
    rw [e1] at q
    simp only [R.bind]
    cases e2 : evE U.Γ.G (callF U.Γ.G U.Γ.F n) b s1 with
    | exc c s' => simp only [R.fl, e2] at q; exact fun H2 M2 t2 f2 => q σ H2 M2 t2 f2 fun _ _ => rfl
    | stuck => simp only [R.fl, e2] at q; exact q
    | ok w2 s2 =>
      simp only [R.fl, e2] at q
      intro vs H1 M1 t1 f1 rs
      split at q
      · rename_i p1 p2 k1 k2
        split at q
        · cases rs with
          | cons r1 rs =>
            cases rs with
            | cons r2 rs =>
              cases rs
              refine ⟨_, _, rfl, q _ H1 M1 t1 ((f1.put (r1.keep k1)).put (r2.keep k2)) fun m hm => ?_⟩
              rw [List.getElem?_set_ne (fun z => nj (by rw [z]; exact hm)), List.getElem?_set_ne (fun z => ni (by rw [z]; exact hm))]
        · exact q.elim
      · exact q.elim
/-- x.append(e) -/
theorem st_app (h : Fit U n cv X) {i : Nat} {x : Str} {px pa pc : Pos} (c : slB cv i x = true) (he : PE X l (TEv U n Wx e)) (hl : (pa.endLine == pc.line) = true) (hs : starEach [l] X.env = [(false, eval l X.env)])
    (hsw : swapsWith (.Call (.Attribute (.Name x px) "append" pa) [l] [] pc) none pos.line X.env = pure false) : PS X (.Expr (.Call (.Attribute (.Name x px) "append" pa) [l] [] pc) pos) (TSv U n Wx io (.app i e)) := by
  unfold slB at c
  simp only [Bool.and_eq_true, decide_eq_true_eq] at c
  obtain ⟨⟨c1, c2⟩, c3⟩ := c
  obtain ⟨n1, n2, _⟩ := nm_ok c1
  have ho : PE X (.Name x px) _ := pe_var (i := i) (by rw [h.N]; exact c2) (h.vis c3) n1 n2
  have ha : PA X [l] (TAv U n Wx (.cons e .nil)) := s_pa1 (by rw [hs]; rfl) he s_pa0
  refine PS.imp (ps_expr (pe_bm F.plainAttrs_list F.slot_list_append F.type_list_append mt_append ho ha (by rfl) (by rw [hs]; rfl) hl (by rw [hs]; rfl) (by rfl)) hsw) fun D σ H ⟨s, M, B, f, q⟩ => ?_
  simp only [evS] at q
  split at q
  · rename_i ys e0
    obtain ⟨a, vs, ea, hM, hv, _⟩ := f.own i ys e0
    refine ⟨_, ea, .inl ⟨rfl, vs, .inl (.inl hv)⟩, s, M, B, f, ?_⟩
    simp only [evEs]
    cases e1 : evE U.Γ.G (callF U.Γ.G U.Γ.F n) e s with
    | exc c s' => rw [e1] at q; exact fun H2 M2 t2 f2 => q σ H2 M2 t2 f2 fun _ _ => rfl
    | stuck => rw [e1] at q; exact q
    | ok w1 s1 =>
      rw [e1] at q
      intro us H1 M1 t1 f1 rs
      simp only [R.fl] at q
      split at q
      · rename_i x2 xs ek es
        split at q
        · rename_i hz
          cases rs with
          | cons r1 rs =>
            cases rs
            obtain ⟨a', vs', ea', hM', hv', rv'⟩ := f1.own i xs es
            rw [ea] at ea'
            cases ea'
            refine ⟨a, vs', _, rfl, rfl, hv', by rw [← rv'.len]; exact lim_ok hz, q σ _ M1 (t1.trans (Stp.wr hM')) (f1.setl es ea (rv'.app (.cons (r1.keep ek) .nil))) fun _ _ => rfl⟩
        · exact q.elim
      · exact q.elim
  · exact q.elim
/-- x[ix] = e -/
theorem st_seti (h : Fit U n cv X) {i : Nat} {x : Str} {px pt : Pos} {ix : Ex} {lx : Expr} (c : slB cv i x = true) (he : PE X l (TEv U n Wx e)) (hx : PE X lx (TEv U n Wx ix)) (hsl : ∀ v, assign (.Subscript (.Name x px) lx pt) X.env v = (do
      let ov ← holding [v] (eval (.Name x px) X.env)
      let iv ← holding [v, ov] (eval lx X.env)
      standAt pt
      holding [v, ov, iv] (setItem ov iv v)
      release [v, ov, iv] []))
    (hs : swapsWithSole [.Subscript (.Name x px) lx pt] l pos.line X.env = pure false) (hw : swappedStores [.Subscript (.Name x px) lx pt] l X.env = pure none) :
    PS X (.Assign [.Subscript (.Name x px) lx pt] l pos) (TSv U n Wx io (.seti i ix e)) := by
  unfold slB at c
  simp only [Bool.and_eq_true, decide_eq_true_eq] at c
  obtain ⟨⟨c1, c2⟩, c3⟩ := c
  obtain ⟨n1, n2, _⟩ := nm_ok c1
  have ho : PE X (.Name x px) _ := pe_var (i := i) (by rw [h.N]; exact c2) (h.vis c3) n1 n2
  refine PS.imp (ps_asg he (pg_sub ho hx set_list hsl) hs hw (by rfl)) fun D σ H ⟨s, M, B, f, q⟩ => ⟨s, M, B, f, ?_⟩
  simp only [evS] at q
  refine OKS.bind q fun w s1 v H1 M1 t1 f1 rt q1 => ?_
  split at q1
  · rename_i ys e0
    obtain ⟨a, vs, ea, hM, hv, _⟩ := f1.own i ys e0
    refine ⟨_, ea, s1, M1, B, f1, OKS.bind q1 fun k s2 kv H2 M2 t2 f2 rk q2 => ?_⟩
    split at q2
    · rename_i x2 j xs ek ed es
      split at q2
      · rename_i m em
        obtain ⟨a', vs', ea', hM', hv', rv'⟩ := f2.own i xs es
        rw [ea] at ea'
        cases ea'
        refine ⟨a, vs', j, m, rfl, (rk.rh.den f2 ed).int, hv', by rw [← rv'.len, ← ixD_eq]; exact em, q2 σ _ M2 (Stp.wr hM') (f2.setl es ea (RDs.set ?_ m rv')) fun _ _ => rfl⟩
        exact (rt.rh.step t2 fun b z => f1.liv b (.inr z)).keep ek
      · exact q2.elim
    · exact q2.elim
  · exact q1.elim
/-! flow -/
theorem st_iff (h : Fit U n cv X) {c : Ex} {a b : Sms} {lc : Expr} {la lb : List Stmt} (hc : PT X lc (TTv U n Wx c)) (ha : PSs X la (TSsv U n Wx io a)) (hb : PSs X lb (TSsv U n Wx io b)) : PS X (.If lc la lb pos) (TSv U n Wx io (.iff c a b)) := by
  refine PS.imp (ps_if hc ha hb) fun D σ H ⟨s, M, B, f, q⟩ => ⟨s, M, B, f, ?_⟩
  simp only [evS] at q
  refine OKS.bindX q fun k s1 H1 M1 t1 f1 q1 => ?_
  cases k with
  | true => exact iteT ⟨s1, M1, B, f1, q1⟩
  | false => exact iteF ⟨s1, M1, B, f1, q1⟩
theorem st_ret (he : PE X l (TEv U n Wx e)) : PS X (.Return (some l) pos) (TSv U n Wx io (.ret e)) := by
  refine PS.imp (ps_ret he) fun D σ H ⟨s, M, B, f, q⟩ => ⟨s, M, B, f, ?_⟩
  simp only [evS] at q
  cases e1 : evE U.Γ.G (callF U.Γ.G U.Γ.F n) e s with
  | exc c s' => rw [e1] at q; exact fun H2 M2 t2 f2 => q σ H2 M2 t2 f2 fun _ _ => rfl
  | stuck => rw [e1] at q; exact q
  | ok w1 s1 =>
    rw [e1] at q
    intro v H1 M1 t1 f1 rt
    cases w1 with
    | d x => exact q v σ H1 M1 t1 f1 (fun _ _ => rfl) rt
    | nw xs => exact q v σ H1 M1 t1 f1 (fun _ _ => rfl) rt
    | al j => exact q.elim
    | io j => exact q.elim
theorem st_retn : PS X (.Return none pos) (TSv U n Wx io .retn) := PS.imp ps_retN fun D σ H ⟨s, M, B, f, q⟩ => by
  simp only [evS] at q
  exact q .non σ H M (.refl _ _) f (fun _ _ => rfl) RD.non
theorem st_ex (he : PE X l (TEv U n Wx e)) (hs : swapsWith l none pos.line X.env = pure false) : PS X (.Expr l pos) (TSv U n Wx io (.ex e)) := by
  refine PS.imp (ps_expr he hs) fun D σ H ⟨s, M, B, f, q⟩ => ⟨s, M, B, f, ?_⟩
  simp only [evS] at q
  exact OKS.bind q fun w s1 v H1 M1 t1 f1 rt q1 => q1 σ H1 M1 (.refl _ _) f1 fun _ _ => rfl
theorem st_pass : PS X (.Pass pos) (TSv U n Wx io .pass) := PS.imp ps_pass fun D σ H ⟨s, M, B, f, q⟩ => by
  simp only [evS] at q
  exact q σ H M (.refl _ _) f fun _ _ => rfl
theorem st_doc {x : Str} {j : Nat} {p2 : Pos} : PS X (.Expr (.Constant (.str x) j p2) pos) (TSv U n Wx io .pass) := PS.imp ps_doc fun D σ H ⟨s, M, B, f, q⟩ => by
  simp only [evS] at q
  exact q σ H M (.refl _ _) f fun _ _ => rfl
theorem st_cont : PS X (.Continue pos) (TSv U n Wx io .cont) := PS.imp ps_continue fun D σ H ⟨s, M, B, f, q⟩ => by
  simp only [evS] at q
  exact q σ H M (.refl _ _) f fun _ _ => rfl
theorem st_nev {st : Stmt} : PS X st (TSv U n Wx io .nev) := PS.imp ps_never fun D σ H ⟨s, M, B, f, q⟩ => by
  simp only [evS] at q
  exact q
theorem s_nev : PE X l (TEv U n Wx .nev) := ⟨fun pins s σ H Q I ⟨s0, M, B, f, q⟩ => by simp only [evE] at q; exact q.elim⟩
theorem ss_nil : PSs X [] (TSsv U n Wx io .nil) := PSs.imp pss_nil fun D σ H ⟨s, M, B, f, q⟩ => by
  simp only [evSs] at q
  exact q σ H M (.refl _ _) f fun _ _ => rfl
theorem ss_cons {st : Stmt} {rest : List Stmt} {a : Sm} {as : Sms} (h1 : PS X st (TSv U n Wx io a)) (h2 : PSs X rest (TSsv U n Wx io as)) : PSs X (st :: rest) (TSsv U n Wx io (.cons a as)) := by
  refine PSs.imp (pss_cons h1 h2) fun D σ H ⟨s, M, B, f, q⟩ => ⟨s, M, B, f, ?_⟩
  simp only [evSs] at q
  cases e : evS U.Γ.G (callF U.Γ.G U.Γ.F n) a s with
  | nx s1 =>
    rw [e] at q
    exact fun σ1 H1 M1 t1 f1 k1 => ⟨s1, M1, B, f1, OKS.later t1 k1 q⟩
  | ct s1 => rw [e] at q; exact q
  | rt w s1 => rw [e] at q; exact q
  | exc c s1 => rw [e] at q; exact q
  | stuck => rw [e] at q; exact q
/-- for tg in it: .. -/
theorem st_for (h : Fit U n cv X) {tg : Tg} {it : Iw} {b : Sms} {tge ite : Expr} {lb : List Stmt} (ni : ∀ i ∈ tg.sl, i ∉ io) (hp : PassesOwn (model X.prog X.w) X.A X.env X.xe) (hi : PI X tge ite (TIv U n Wx it)) (hg : PG X tge (TGv U.K tg)) (hb : PSs X lb (TSsv U n Wx io b))
    (hs : ∀ x, foldedSetIterable ite X.env x = pure x) : PS X (.For tge ite lb [] pos) (TSv U n Wx io (.forr tg it b)) := by
  refine PS.imp (ps_for hp h.calm hi hg hb hs) fun D σ H ⟨s, M, B, f, q⟩ => ⟨s, M, B, f, ?_⟩
  simp only [evS] at q
  refine OKS.bindX q fun xs s1 H1 M1 t1 f1 q1 J ⟨G, Y, wl, wy⟩ => ?_
  let Pv : Nat → VS → Hp → Prop := fun i σ' H' => ∃ M' s', Stp M1 H1 M' H' ∧ RF U.K H' M' B s' σ' ∧ (∀ i ∈ io, σ'[i]? = σ[i]?) ∧ OKS U.K U.Cl Wx io σ' H' M' B (forL (bindT tg) (evSs U.Γ.G (callF U.Γ.G U.Γ.F n) b) (xs.drop i) s') D
  refine for_it wl Pv ⟨M1, s1, .refl _ _, f1, fun _ _ => rfl, q1⟩ (fun i σ' H' hi ⟨M', s', t, f', _, _⟩ => (wy H' M' B (t.av fun a z => .inl z) f'.liv).1) ?_ ?_
  · rintro i v σ' H2 H3 hi ⟨M2, s2, t2, f2, k2, o2⟩ hY
    rw [List.drop_eq_getElem_cons hi] at o2
    obtain ⟨gr, rd⟩ := (wy H2 M2 B (t2.av fun a z => .inl z) f2.liv).2 i v H3 xs[i] hY (List.getElem?_eq_getElem hi)
    have t3 := gr.stp (M := M2)
    have f3 := gr.rf f2
    refine ⟨s2, M2, B, xs[i], f3, rd, ?_⟩
    simp only [forL] at o2
    cases eb : bindT tg xs[i] s2 with
    | none => rw [eb] at o2; exact o2.elim
    | some sb =>
      rw [eb] at o2
      intro σ4 f4 k4
      have k4' : ∀ i ∈ io, σ4[i]? = σ'[i]? := fun i hi => k4 i fun z => ni i z hi
      have o4 := OKS.later t3 k4' o2
      refine ⟨sb, M2, B, f4, ?_⟩
      simp only [] at o4
      cases er : evSs U.Γ.G (callF U.Γ.G U.Γ.F n) b sb with
      | nx s5 =>
        rw [er] at o4
        exact fun σ5 H5 M5 t5 f5 k5 => ⟨M5, s5, (t2.trans t3).trans t5, f5, fun i hi => ((k5 i hi).trans (k4' i hi)).trans (k2 i hi), OKS.later t5 k5 o4⟩
      | ct s5 =>
        rw [er] at o4
        exact fun σ5 H5 M5 t5 f5 k5 => ⟨M5, s5, (t2.trans t3).trans t5, f5, fun i hi => ((k5 i hi).trans (k4' i hi)).trans (k2 i hi), OKS.later t5 k5 o4⟩
      | rt w s5 => rw [er] at o4; exact o4
      | exc c s5 => rw [er] at o4; exact o4
      | stuck => rw [er] at o4; exact o4
  · rintro σ' H2 ⟨M2, s2, t2, f2, k2, o2⟩
    rw [List.drop_length] at o2
    simp only [forL] at o2
    exact o2 σ' H2 M2 (.refl _ _) f2 fun _ _ => rfl
/-- while c: .. -/
theorem st_whl (h : Fit U n cv X) {c : Ex} {b : Sms} {lc : Expr} {lb : List Stmt} (hp : PassesOwn (model X.prog X.w) X.A X.env X.xe) (hc : PT X lc (TTv U n Wx c)) (hb : PSs X lb (TSsv U n Wx io b)) : PS X (.While lc lb [] pos) (TSv U n Wx io (.whl c b)) := by
  refine PS.imp (ps_while hp hc hb) fun D σ H ⟨s, M, B, f, q⟩ => ?_
  simp only [evS] at q
  generalize (1000000 : Nat) = k at q
  refine ⟨fun m σ' H' => ∃ M' s', RF U.K H' M' B s' σ' ∧ OKS U.K U.Cl Wx io σ' H' M' B (whlN (fun s => (evE U.Γ.G (callF U.Γ.G U.Γ.F n) c s).tst) (evSs U.Γ.G (callF U.Γ.G U.Γ.F n) b) m s') D, ⟨k, M, s, f, q⟩, ?_⟩
  rintro m σ1 H1 ⟨M1, s1, f1, o1⟩
  cases m with
  | zero => exact o1.elim
  | succ m =>
    simp only [whlN] at o1
    refine ⟨s1, M1, B, f1, OKS.bindX o1 fun k s2 H2 M2 t2 f2 o2 => ?_⟩
    cases k with
    | false => exact iteF (o2 σ1 H2 M2 (.refl _ _) f2 fun _ _ => rfl)
    | true =>
      simp only [if_true] at o2
      refine iteT ⟨fun σ' H' => ∃ M' s', RF U.K H' M' B s' σ' ∧ OKS U.K U.Cl Wx io σ' H' M' B (whlN (fun s => (evE U.Γ.G (callF U.Γ.G U.Γ.F n) c s).tst) (evSs U.Γ.G (callF U.Γ.G U.Γ.F n) b) m s') D, fun σ' H' w => ⟨m, Nat.lt_succ_self m, w⟩, s2, M2, B, f2, ?_⟩
      cases er : evSs U.Γ.G (callF U.Γ.G U.Γ.F n) b s2 with
      | nx s5 =>
        rw [er] at o2
        exact fun σ5 H5 M5 t5 f5 k5 => ⟨M5, s5, f5, OKS.later t5 k5 o2⟩
      | ct s5 =>
        rw [er] at o2
        exact fun σ5 H5 M5 t5 f5 k5 => ⟨M5, s5, f5, OKS.later t5 k5 o2⟩
      | rt w s5 => rw [er] at o2; exact o2
      | exc c s5 => rw [er] at o2; exact o2
      | stuck => rw [er] at o2; exact o2
end
/-! ### several stores at once -/
def setAll : List (Nat × Bool) → List V → VS → VS
  | t :: ts, v :: vs, σ => (setAll ts vs σ).set t.1 (some v)
  | _, _, σ => σ
theorem setAll_ne {k : Nat} : ∀ (ts : List (Nat × Bool)) (vs : List V) (σ : VS), (∀ t ∈ ts, t.1 ≠ k) → (setAll ts vs σ)[k]? = σ[k]?
  | [], _, σ, _ => rfl
  | t :: ts, [], σ, _ => rfl
  | t :: ts, v :: vs, σ, h => by
    rw [setAll, List.getElem?_set_ne (h t List.mem_cons_self)]
    exact setAll_ne ts vs σ fun u hu => h u (List.mem_cons_of_mem _ hu)
def OKp (K : PySem.W.Frag) (Cl : Nat → Value) (Wx : WX) (ts : List (Nat × Bool)) (σ : VS) (H : Hp) (M B : AS) (r : R (List W)) (Q : List V → Hp → Prop) : Prop := match r with
  | .ok ws s' => (parD ts ws s').isSome = true ∧ ∀ vs H' M' s3, Stp M H M' H' → parD ts ws s' = some s3 → vs.length = ts.length → RF K H' M' B s3 (setAll ts vs σ) → Q vs H'
  | .exc c s' => ∀ H' M', Stp M H M' H' → RF K H' M' B s' σ → Wx (Cl c) none σ H'
  | .stuck => False
def TAs (U : Wd) (n : Nat) (Wx : WX) : Exs → TA
  | .nil => tNil
  | .cons a as => tCons (TEv U n Wx a) (TAs U n Wx as)
theorem par_ta {U : Wd} {n : Nat} {Wx : WX} : ∀ (as : Exs) (ts : List (Nat × Bool)) (σ : VS) (H : Hp) (M B : AS) (s : Sl) (Q : List V → Hp → Prop), RF U.K H M B s σ → OKp U.K U.Cl Wx ts σ H M B (evEs U.Γ.G (callF U.Γ.G U.Γ.F n) as s) Q → TAs U n Wx as σ H Q
  | .nil, ts, σ, H, M, B, s, Q, f, q => by
    simp only [evEs] at q
    obtain ⟨q1, q2⟩ := q
    cases ts with
    | cons t ts => cases q1
    | nil => exact q2 [] H M s (.refl _ _) rfl rfl f
  | .cons a as, ts, σ, H, M, B, s, Q, f, q => by
    simp only [evEs] at q
    refine ⟨s, M, B, f, ?_⟩
    cases ea : evE U.Γ.G (callF U.Γ.G U.Γ.F n) a s with
    | exc c s' => rw [ea] at q; exact q
    | stuck => rw [ea] at q; exact q
    | ok w s1 =>
      rw [ea] at q
      simp only [R.bind] at q
      intro v H1 M1 t1 f1 rt
      cases eb : evEs U.Γ.G (callF U.Γ.G U.Γ.F n) as s1 with
      | stuck => rw [eb] at q; exact q.elim
      | exc c s' =>
        rw [eb] at q
        refine par_ta as [] σ H1 M1 B s1 _ f1 ?_
        rw [eb]
        exact fun H2 M2 t2 f2 => q H2 M2 (t1.trans t2) f2
      | ok ws s2 =>
        rw [eb] at q
        obtain ⟨q1, q2⟩ := q
        cases ts with
        | nil => cases q1
        | cons t ts =>
          simp only [parD] at q1 q2
          cases ep : parD ts ws s2 with
          | none => rw [ep] at q1; cases q1
          | some s3 =>
            rw [ep] at q1 q2
            simp only [Option.bind_some] at q1 q2
            unfold putW at q1 q2
            split at q1
            · rename_i hl
              rw [if_pos hl] at q2
              by_cases ht : t.2 = true
              · rw [if_pos ht] at q1 q2
                cases w with
                | nw xs =>
                  obtain ⟨a', us, rfl, h0, h1, h2, h3, h4, h5⟩ := NW.ex rt
                  refine par_ta as ts σ H1 M1 _ s1 _ h4 ?_
                  rw [eb]
                  refine ⟨by rw [ep]; rfl, fun vs H2 M2 s3' t2 e2 hn f2 => ?_⟩
                  rw [ep] at e2
                  cases e2
                  have e3 : H2 a' = some (.lst us) := t2.keep _ _ h1 h3
                  exact q2 (_ :: vs) H2 _ _ ((t1.trans t2).own h0) rfl (by rw [List.length_cons, List.length_cons, hn]) (f2.putO h2 e3 (t2.rds (fun b z => h4.liv b (.inr z)) h5))
                | d x => cases q1
                | al j => cases q1
                | io j => cases q1
              · rw [if_neg ht] at q1 q2
                cases ek : keep w with
                | none => rw [ek] at q1; cases q1
                | some x =>
                  rw [ek] at q2
                  refine par_ta as ts σ H1 M1 B s1 _ f1 ?_
                  rw [eb]
                  refine ⟨by rw [ep]; rfl, fun vs H2 M2 s3' t2 e2 hn f2 => ?_⟩
                  rw [ep] at e2
                  cases e2
                  exact q2 (v :: vs) H2 M2 _ (t1.trans t2) rfl (by rw [List.length_cons, List.length_cons, hn]) (f2.put (t2.rd (fun b z => f1.liv b (.inr z)) (rt.rh.keep ek)))
            · cases q1
theorem parn_ta {U : Wd} {n : Nat} {Wx : WX} {io : List Nat} {ts : List (Nat × Bool)} {as : Exs} {D : Ends} {σ : VS} {H : Hp} {Q : List V → Hp → Prop} (ni : ∀ t ∈ ts, t.1 ∉ io) (h : TSv U n Wx io (.parn ts as) D σ H) (hQ : ∀ vs H1, vs.length = ts.length → D.nx (setAll ts vs σ) H1 → (∀ p o, H1 p = none → D.nx (setAll ts vs σ) (upd H1 p o)) → Q vs H1) : TAs U n Wx as σ H Q := by
  obtain ⟨s, M, B, f, q⟩ := h
  simp only [evS] at q
  refine par_ta as ts σ H M B s _ f ?_
  cases ea : evEs U.Γ.G (callF U.Γ.G U.Γ.F n) as s with
  | exc c s' => rw [ea] at q; exact fun H2 M2 t2 f2 => q σ H2 M2 t2 f2 fun _ _ => rfl
  | stuck => rw [ea] at q; exact q
  | ok ws s' =>
    rw [ea] at q
    simp only [R.fl] at q
    cases ep : parD ts ws s' with
    | none => rw [ep] at q; exact q.elim
    | some s3 =>
      rw [ep] at q
      refine ⟨by rw [ep]; rfl, fun vs H' M' s4 t e hn f' => by
        rw [ep] at e
        cases e
        have io : ∀ i ∈ io, (setAll ts vs σ)[i]? = σ[i]? := fun i hi => setAll_ne ts vs σ fun t ht z => ni t ht (by rw [z]; exact hi)
        exact hQ vs H' hn (q _ H' M' t f' io) fun p o n => q _ _ M' (t.trans (Stp.laid n)) (f'.laid n) io⟩
section
variable {U : Wd} {n : Nat} {cv : Cv} {X : Cx} {Wx : WX} {io : List Nat} {pos : Pos} {l : Expr} {e : Ex}
theorem st_parn2 (h : Fit U n cv X) {i j : Nat} {o1 o2 : Bool} {x y : Str} {a b : Ex} {la lb : Expr} {px py pt pt2 : Pos} {kt k2 : Nat} (ni : i ∉ io) (nj : j ∉ io) (hij : i ≠ j) (hi : cv.N[i]? = some x) (hj : cv.N[j]? = some y) (hx : cv.sc.names.lookup x = some .local) (hy : cv.sc.names.lookup y = some .local)
    (ha : PA X [la, lb] (TAs U n Wx (.cons a (.cons b .nil)))) (hw : swappedStores [.Tuple [.Name x px, .Name y py] kt pt] (.Tuple [la, lb] k2 pt2) X.env = pure (some [x, y]))
    (hs : swapsWithSole [.Tuple [.Name x px, .Name y py] kt pt] (.Tuple [la, lb] k2 pt2) pos.line X.env = pure false) : PS X (.Assign [.Tuple [.Name x px, .Name y py] kt pt] (.Tuple [la, lb] k2 pt2) pos) (TSv U n Wx io (.parn [(i, o1), (j, o2)] (.cons a (.cons b .nil)))) := by
  refine PS.imp (ps_par (ta := TAs U n Wx (.cons a (.cons b .nil))) h.calm h.nd (by rw [h.N]; exact hi) (by rw [h.N]; exact hj) hij (by rw [h.sc]; exact hx) (by rw [h.sc]; exact hy) ha hw hs) fun D σ H q => ?_
  refine parn_ta (by intro t ht; simp at ht; rcases ht with rfl | rfl <;> assumption) q fun vs H1 hn q _ => ?_
  match vs, hn with
  | [v, w], _ => exact ⟨v, w, rfl, by rw [List.set_comm _ _ hij]; exact q⟩
theorem st_parn3 (h : Fit U n cv X) {i j m : Nat} {o1 o2 o3 : Bool} {x y z : Str} {a b c : Ex} {la lb lc : Expr} {px py pz pt pt2 : Pos} {kt k2 : Nat} (ni : i ∉ io) (nj : j ∉ io) (nm : m ∉ io) (hij : i ≠ j) (him : i ≠ m) (hjm : j ≠ m) (hi : cv.N[i]? = some x) (hj : cv.N[j]? = some y) (hm : cv.N[m]? = some z) (hx : cv.sc.names.lookup x = some .local) (hy : cv.sc.names.lookup y = some .local) (hz : cv.sc.names.lookup z = some .local)
    (ha : PA X [la, lb, lc] (TAs U n Wx (.cons a (.cons b (.cons c .nil))))) (hw : swappedStores [.Tuple [.Name x px, .Name y py, .Name z pz] kt pt] (.Tuple [la, lb, lc] k2 pt2) X.env = pure (some [x, y, z]))
    (hs : swapsWithSole [.Tuple [.Name x px, .Name y py, .Name z pz] kt pt] (.Tuple [la, lb, lc] k2 pt2) pos.line X.env = pure false) : PS X (.Assign [.Tuple [.Name x px, .Name y py, .Name z pz] kt pt] (.Tuple [la, lb, lc] k2 pt2) pos) (TSv U n Wx io (.parn [(i, o1), (j, o2), (m, o3)] (.cons a (.cons b (.cons c .nil))))) := by
  refine PS.imp (ps_par3 (ta := TAs U n Wx (.cons a (.cons b (.cons c .nil)))) h.calm h.nd (by rw [h.N]; exact hi) (by rw [h.N]; exact hj) (by rw [h.N]; exact hm) hij him hjm (by rw [h.sc]; exact hx) (by rw [h.sc]; exact hy) (by rw [h.sc]; exact hz) ha hw hs) fun D σ H q => ?_
  refine parn_ta (by intro t ht; simp at ht; rcases ht with rfl | rfl | rfl <;> assumption) q fun vs H1 hn q _ => ?_
  match vs, hn with
  | [u, v, w], _ =>
    refine ⟨u, v, w, rfl, ?_⟩
    have e : ((σ.set i (some u)).set j (some v)).set m (some w) = setAll [(i, o1), (j, o2), (m, o3)] [u, v, w] σ := by
      simp only [setAll]
      rw [List.set_comm (i := m) (j := j) _ _ (Ne.symm hjm), List.set_comm (i := m) (j := i) _ _ (Ne.symm him), List.set_comm (i := j) (j := i) _ _ (Ne.symm hij)]
    rw [e]
    exact q
/-- likewise where a name is seen from within: the tuple is made, then taken apart -/
theorem st_parnC2 (h : Fit U n cv X) {i j : Nat} {o1 o2 : Bool} {x y : Str} {a b : Ex} {la lb : Expr} {px py pt pt2 : Pos} {kt k2 : Nat} (ni : i ∉ io) (nj : j ∉ io) (hij : i ≠ j) (hi : stB cv i x = true) (hj : stB cv j y = true)
    (ha : PA X [la, lb] (TAs U n Wx (.cons a (.cons b .nil)))) (hw : swappedStores [.Tuple [.Name x px, .Name y py] kt pt] (.Tuple [la, lb] k2 pt2) X.env = pure none)
    (hs : swapsWithSole [.Tuple [.Name x px, .Name y py] kt pt] (.Tuple [la, lb] k2 pt2) pos.line X.env = pure false) : PS X (.Assign [.Tuple [.Name x px, .Name y py] kt pt] (.Tuple [la, lb] k2 pt2) pos) (TSv U n Wx io (.parn [(i, o1), (j, o2)] (.cons a (.cons b .nil)))) := by
  unfold stB at hi hj
  simp only [Bool.and_eq_true, decide_eq_true_eq] at hi hj
  obtain ⟨l1, l2⟩ := h.loc hi.2
  obtain ⟨m1, m2⟩ := h.loc hj.2
  refine PS.imp (ps_asg (pe_tup (x1 := k2) (pos := pt2) ha) (pg_tup (k := kt) (pos := pt) h.calm (pgs_cons (pg_name (pos := px) h.nd (by rw [h.N]; exact hi.1) l1 l2) (pgs_cons (pg_name (pos := py) h.nd (by rw [h.N]; exact hj.1) m1 m2) pgs_nil rfl) rfl) (by rfl) (by rfl)) hs hw rfl) fun D σ H q => ?_
  refine parn_ta (by intro t ht; simp at ht; rcases ht with rfl | rfl <;> assumption) q fun vs H1 hn q q2 => ?_
  match vs, hn with
  | [v, w], _ =>
    refine ⟨by show 2 ≤ sizeLine; decide, fun p hp => ⟨p, [v, w], rfl, .inl (.inl upd_same), rfl, v, [w], rfl, w, [], rfl, rfl, ?_⟩⟩
    have := q2 p (.tup [v, w]) hp
    simp only [setAll] at this
    rw [List.set_comm _ _ (Ne.symm hij)] at this
    exact this
theorem st_parnC3 (h : Fit U n cv X) {i j m : Nat} {o1 o2 o3 : Bool} {x y z : Str} {a b c : Ex} {la lb lc : Expr} {px py pz pt pt2 : Pos} {kt k2 : Nat} (ni : i ∉ io) (nj : j ∉ io) (nm : m ∉ io) (hij : i ≠ j) (him : i ≠ m) (hjm : j ≠ m) (hi : stB cv i x = true) (hj : stB cv j y = true) (hm : stB cv m z = true)
    (ha : PA X [la, lb, lc] (TAs U n Wx (.cons a (.cons b (.cons c .nil))))) (hw : swappedStores [.Tuple [.Name x px, .Name y py, .Name z pz] kt pt] (.Tuple [la, lb, lc] k2 pt2) X.env = pure none)
    (hs : swapsWithSole [.Tuple [.Name x px, .Name y py, .Name z pz] kt pt] (.Tuple [la, lb, lc] k2 pt2) pos.line X.env = pure false) : PS X (.Assign [.Tuple [.Name x px, .Name y py, .Name z pz] kt pt] (.Tuple [la, lb, lc] k2 pt2) pos) (TSv U n Wx io (.parn [(i, o1), (j, o2), (m, o3)] (.cons a (.cons b (.cons c .nil))))) := by
  unfold stB at hi hj hm
  simp only [Bool.and_eq_true, decide_eq_true_eq] at hi hj hm
  obtain ⟨l1, l2⟩ := h.loc hi.2
  obtain ⟨m1, m2⟩ := h.loc hj.2
  obtain ⟨n1, n2⟩ := h.loc hm.2
  refine PS.imp (ps_asg (pe_tup (x1 := k2) (pos := pt2) ha) (pg_tup (k := kt) (pos := pt) h.calm (pgs_cons (pg_name (pos := px) h.nd (by rw [h.N]; exact hi.1) l1 l2) (pgs_cons (pg_name (pos := py) h.nd (by rw [h.N]; exact hj.1) m1 m2) (pgs_cons (pg_name (pos := pz) h.nd (by rw [h.N]; exact hm.1) n1 n2) pgs_nil rfl) rfl) rfl) (by rfl) (by rfl)) hs hw rfl) fun D σ H q => ?_
  refine parn_ta (by intro t ht; simp at ht; rcases ht with rfl | rfl | rfl <;> assumption) q fun vs H1 hn q q2 => ?_
  match vs, hn with
  | [u, v, w], _ =>
    refine ⟨by show 3 ≤ sizeLine; decide, fun p hp => ⟨p, [u, v, w], rfl, .inl (.inl upd_same), rfl, u, [v, w], rfl, v, [w], rfl, w, [], rfl, rfl, ?_⟩⟩
    have e : ((σ.set i (some u)).set j (some v)).set m (some w) = setAll [(i, o1), (j, o2), (m, o3)] [u, v, w] σ := by
      simp only [setAll]
      rw [List.set_comm (i := m) (j := j) _ _ (Ne.symm hjm), List.set_comm (i := m) (j := i) _ _ (Ne.symm him), List.set_comm (i := j) (j := i) _ _ (Ne.symm hij)]
    have := q2 p (.tup [u, v, w]) hp
    rw [← e] at this
    exact this
/-- x.extend(e) -/
theorem st_ext (h : Fit U n cv X) {i : Nat} {x : Str} {px pa pc : Pos} (c : slB cv i x = true) (he : PE X l (TEv U n Wx e)) (hl : (pa.endLine == pc.line) = true) (hs : starEach [l] X.env = [(false, eval l X.env)])
    (hsw : swapsWith (.Call (.Attribute (.Name x px) "extend" pa) [l] [] pc) none pos.line X.env = pure false) : PS X (.Expr (.Call (.Attribute (.Name x px) "extend" pa) [l] [] pc) pos) (TSv U n Wx io (.ext i e)) := by
  unfold slB at c
  simp only [Bool.and_eq_true, decide_eq_true_eq] at c
  obtain ⟨⟨c1, c2⟩, c3⟩ := c
  obtain ⟨n1, n2, _⟩ := nm_ok c1
  have ho : PE X (.Name x px) _ := pe_var (i := i) (by rw [h.N]; exact c2) (h.vis c3) n1 n2
  have ha : PA X [l] (tCons (TEv U n Wx e) tNil) := pa_cons he pa_nil (by rw [hs]; rfl)
  refine PS.imp (ps_expr (pe_bm F.plainAttrs_list F.slot_list_extend F.type_list_extend mt_extend ho ha (by rfl) (by rw [hs]; rfl) hl (by rw [hs]; rfl) (by rfl)) hsw) fun D σ H ⟨s, M, B, f, q⟩ => ?_
  simp only [evS] at q
  split at q
  · rename_i ys e0
    obtain ⟨a, vs, ea, hM, hv, _⟩ := f.own i ys e0
    refine ⟨_, ea, .inl ⟨rfl, vs, .inl (.inl hv)⟩, s, M, B, f, ?_⟩
    refine OKS.bind q fun w1 s1 v H1 M1 t1 f1 rt q1 => ?_
    split at q1
    · rename_i zs xs es
      split at q1
      · rename_i hz
        obtain ⟨a2, us, rfl, h0, h1, h2, h3, h4, h5⟩ := NW.ex rt
        obtain ⟨a', vs', ea', hM', hv', rv'⟩ := f1.own i xs es
        rw [ea] at ea'
        cases ea'
        exact ⟨a, a2, vs', us, rfl, rfl, hv', h3, by rw [← rv'.len, ← h5.len]; rw [← lim_eq]; exact hz, q1 σ _ M1 (Stp.wr hM') (f1.setl es ea (rv'.app (h5.less fun b z => z.imp id .inl))) fun _ _ => rfl⟩
      · exact q1.elim
    · exact q1.elim
  · exact q.elim
/-- x += e, x -= e -/
theorem st_aug (h : Fit U n cv X) {i : Nat} {x : Str} {px : Pos} {op : Bop} {o : Operator} (hop : (op = .add ∧ o = .Add) ∨ (op = .sub ∧ o = .Sub)) (ni : i ∉ io) (c : stB cv i x = true) (he : PE X l (TEv U n Wx e)) : PS X (.AugAssign (.Name x px) o l pos) (TSv U n Wx io (.aug i op e)) := by
  unfold stB at c
  simp only [Bool.and_eq_true, decide_eq_true_eq] at c
  obtain ⟨l1, l2⟩ := h.loc c.2
  have key : ∀ {fn : Int → Int → Int}, (∀ a b, augF op a b = some (fn a b)) → ∀ D σ H, TSv U n Wx io (.aug i op e) D σ H → tAug i (TEv U n Wx e) (ipI fn) D σ H := by
    intro fn hf D σ H ⟨s, M, B, f, q⟩
    simp only [evS, hf] at q
    split at q
    · rename_i a e0
      obtain ⟨v, ev, rv⟩ := f.dat i _ e0
      cases rv
      refine ⟨_, ev, s, M, B, f, OKS.bind q fun w s1 v H1 M1 t1 f1 rt q1 => ?_⟩
      split at q1
      · rename_i b
        cases rt
        unfold stD at q1
        split at q1
        · exact ⟨_, _, rfl, rfl, q1 _ H1 M1 (.refl _ _) (f1.put (.int _)) fun j hj => List.getElem?_set_ne fun z => ni (by rw [z]; exact hj)⟩
        · exact q1.elim
      · exact q1.elim
    · exact q.elim
  rcases hop with ⟨rfl, rfl⟩ | ⟨rfl, rfl⟩
  · exact PS.imp (ps_aug h.nd (by rw [h.N]; exact c.1) l1 he ip_add l2) (key fun a b => rfl)
  · exact PS.imp (ps_aug h.nd (by rw [h.N]; exact c.1) l1 he ip_sub l2) (key fun a b => rfl)
end
end EV

namespace EV
open PySem PySem.Spec PyProof.Rows L2
/-! ### does a text match a term: looks at the text's form -/
def notStar : Expr → Bool
  | .Starred _ _ => false
  | _ => true
def notSet : Expr → Bool
  | .Set _ _ _ => false
  | _ => true
def notLc : Expr → Bool
  | .ListComp _ _ _ _ => false
  | .SetComp _ _ _ _ => false
  | .DictComp _ _ _ _ _ => false
  | _ => true
def notTup : Expr → Bool
  | .Tuple _ _ _ => false
  | _ => true
def isTupE : Expr → Bool
  | .Tuple _ _ _ => true
  | _ => false
def notSlice : Expr → Bool
  | .Slice _ _ _ _ => false
  | _ => true
def plainT : Expr → Bool
  | .UnaryOp .Not _ _ => false
  | .BoolOp _ _ _ => false
  | .IfExp _ _ _ _ => false
  | .Compare _ _ _ _ => false
  | _ => true
theorem star_cons {l : Expr} (h : notStar l = true) (es : List Expr) (env : Env) : starEach (l :: es) env = (false, eval l env) :: starEach es env := by
  cases l <;> first
    | rfl
    | cases h
theorem test_plain {l : Expr} (h : plainT l = true) (env : Env) (whole : Sem Value) : isTrue l env whole = (do let v ← whole; standAt l.pos; holding [v] (truthy v)) := by
  cases l with
  | UnaryOp op _ _ => cases op <;> first
      | rfl
      | cases h
  | _ => first
      | rfl
      | cases h
theorem ix_plain {r : Expr} (h : notSlice r = true) : PlainIx r := by
  intro o i
  cases r <;> first
    | rfl
    | cases h
theorem set_plain' {l : Expr} (h : notSet l = true) (env : Env) (x : Value) : foldedSetIterable l env x = pure x := by
  cases l <;> first
    | rfl
    | cases h
theorem sw_not {l : Expr} (h : notLc l = true) (t : Option Expr) (k : Nat) (env : Env) : swapsWith l t k env = pure false := by
  cases l <;> first
    | rfl
    | cases h
def allNS : List Expr → Bool
  | [] => true
  | l :: es => notStar l && allNS es
theorem stars_none (pos : Pos) (env : Env) : ∀ {es : List Expr}, allNS es = true → (backTo pos (starEach es env)).any (·.1) = false
  | [], _ => rfl
  | l :: es, h => by
    rw [allNS, Bool.and_eq_true] at h
    have ih := stars_none pos env h.2
    rw [star_cons h.1]
    exact ih
def usubB : UnaryOp → Bool
  | .USub => true
  | _ => false
def notB : UnaryOp → Bool
  | .Not => true
  | _ => false
def andB : BoolOp → Bool
  | .And => true
  | _ => false
def orB : BoolOp → Bool
  | .Or => true
  | _ => false
theorem usub_of {o : UnaryOp} (h : usubB o = true) : o = .USub := by cases o <;> first | rfl | cases h
theorem not_of {o : UnaryOp} (h : notB o = true) : o = .Not := by cases o <;> first | rfl | cases h
theorem and_of {o : BoolOp} (h : andB o = true) : o = .And := by cases o <;> first | rfl | cases h
theorem or_of {o : BoolOp} (h : orB o = true) : o = .Or := by cases o <;> first | rfl | cases h
/-- the scope within a comprehension -/
def Cv.blk (cv : Cv) (scope : Scope) : Cv := { cv with sc := relS scope cv.sc, st := fun x => scope.names.lookup x == some .cell }
def ownP (cv : Cv) (own : List Nat) : List (Str × Nat) := own.map fun i => (cv.N.getD i "", i)
theorem ownP_snd (cv : Cv) (own : List Nat) : own = (ownP cv own).map (·.2) := by
  unfold ownP
  rw [List.map_map]
  exact (List.map_id own).symm
mutual
def chkT : Cv → Tg → Expr → Bool
  | cv, .nm i, l => match l with
    | .Name x _ => stB cv i x
    | _ => false
  | cv, .tp ts, l => match l with
    | .Tuple es _ _ => chkTs cv ts es
    | _ => false
def chkTs : Cv → Tgs → List Expr → Bool
  | _, .nil, es => es.isEmpty
  | cv, .cons t ts, es => match es with
    | l :: rest => notStar l && chkT cv t l && chkTs cv ts rest
    | [] => false
end
mutual
def chkE (Γ : Gam) : Cv → Ex → Expr → Bool
  | cv, .v i, l => match l with
    | .Name x _ => slB cv i x
    | _ => false
  | cv, .fz i, l => match l with
    | .Name x _ => slB cv i x
    | _ => false
  | cv, .io i, l => match l with
    | .Name x _ => slB cv i x
    | _ => false
  | _, .c x, l => match l with
    | .Constant k _ _ => chkC x k
    | _ => false
  | cv, .g k, l => match l with
    | .Name x _ => glB cv x && decide (Γ.gnm[k]? = some x)
    | _ => false
  | cv, .bin op a b, l => match l with
    | .BinOp p o q _ => bopB op o && chkE Γ cv a p && chkE Γ cv b q
    | _ => false
  | cv, .neg a, l => match l with
    | .UnaryOp o p _ => usubB o && chkE Γ cv a p
    | _ => false
  | cv, .nott a, l => match l with
    | .UnaryOp o p _ => notB o && chkE Γ cv a p
    | _ => false
  | cv, .andd as, l => match l with
    | .BoolOp o es _ => andB o && !es.isEmpty && chkEs Γ cv as es
    | _ => false
  | cv, .orr as, l => match l with
    | .BoolOp o es _ => orB o && !es.isEmpty && chkEs Γ cv as es
    | _ => false
  | cv, .cmp op a b, l => match l with
    | .Compare p ops qs _ => match ops, qs with
      | [o], [q] => copB op o && !behindInMarks (pyCop op) q && chkE Γ cv a p && chkE Γ cv b q
      | _, _ => false
    | _ => false
  | cv, .chain op op' a b c, l => match l with
    | .Compare p ops qs _ => match ops, qs with
      | [o, o'], [q, r] => copB op o && copB op' o' && !lastMarks [pyCop op, pyCop op'] [q, r] && chkE Γ cv a p && chkE Γ cv b q && chkE Γ cv c r
      | _, _ => false
    | _ => false
  | cv, .ite c a b, l => match l with
    | .IfExp t p q _ => chkE Γ cv c t && chkE Γ cv a p && chkE Γ cv b q
    | _ => false
  | cv, .tup as, l => match l with
    | .Tuple es _ _ => chkEs Γ cv as es
    | _ => false
  | cv, .lst as, l => match l with
    | .List es _ => chkEs Γ cv as es
    | _ => false
  | cv, .idx a b, l => match l with
    | .Subscript p q _ => notSlice q && chkE Γ cv a p && chkE Γ cv b q
    | _ => false
  | cv, .cut a lo hi, l => match l with
    | .Subscript p q _ => match q with
      | .Slice pl pu ps _ => ps.isNone && chkE Γ cv a p && chkO Γ cv lo pl && chkO Γ cv hi pu
      | _ => false
    | _ => false
  | cv, .rev a, l => match l with
    | .Subscript p q _ => match q with
      | .Slice pl pu ps _ => pl.isNone && pu.isNone && (match ps with
        | some (.UnaryOp o (.Constant (.int 1) _ _) _) => usubB o
        | _ => false) && chkE Γ cv a p
      | _ => false
    | _ => false
  | cv, .callK f as ks nm pm, l => match l with
    | .Call g es kws _ => match g with
      | .Name x _ => glB cv x && decide (Γ.fnm[f]? = some x) && decide ((f, es.length, nm.map Str.ofString, pm) ∈ Γ.kws) && decide (kws.map (·.arg) = nm.map fun y => some (Str.ofString y)) && chkEs Γ cv as es && chkKs Γ cv ks kws
      | _ => false
    | _ => false
  | cv, .call f as, l => match l with
    | .Call g es ks _ => match g with
      | .Name x _ => ks.isEmpty && glB cv x && decide (Γ.fnm[f]? = some x) && chkEs Γ cv as es
      | _ => false
    | _ => false
  | cv, .bi f as, l => match l with
    | .Call g es ks _ => match g with
      | .Name x _ => ks.isEmpty && (match biNm f with
        | some nm => !es.isEmpty && decide (x = Str.ofString nm.1) && glB cv x && chkEs Γ cv as es
        | none => match isiTy f, es with
          | some T, [p, y] => (match y with
            | .Name z _ => decide (x = Str.ofString "isinstance") && glB cv x && decide (z = Str.ofString T) && glB cv z && notStar p && chkEs Γ cv as [p]
            | _ => false)
          | _, _ => false)
      | _ => false
    | _ => false
  | cv, .cnt a b, l => match l with
    | .Call g es ks pc => match g with
      | .Attribute o nm pa => match o with
        | .Name x px => match es with
          | [y] => ks.isEmpty && decide (nm = Str.ofString "count") && (pa.endLine == pc.line) && notStar y && chkE Γ cv a (.Name x px) && chkE Γ cv b y
          | _ => false
        | _ => false
      | _ => false
    | _ => false
  | cv, .lrng tp as, l => match l with
    | .Call g es ks _ => match g with
      | .Name x _ => match es with
        | [.Call g2 es2 ks2 _] => match g2 with
          | .Name y _ => ks.isEmpty && ks2.isEmpty && decide (x = Str.ofString (lrN tp)) && glB cv x && decide (y = Str.ofString "range") && glB cv y && (es2.length == 1 || es2.length == 2) && chkEs Γ cv as es2
          | _ => false
        | _ => false
      | _ => false
    | _ => false
  | cv, .sset a, l => match l with
    | .Call g es ks _ => match g with
      | .Name x _ => match es with
        | [.Call g2 es2 ks2 _] => match g2 with
          | .Name y _ => match es2 with
            | [e] => ks.isEmpty && ks2.isEmpty && decide (x = Str.ofString "sorted") && glB cv x && decide (y = Str.ofString "set") && glB cv y && notStar e && chkE Γ cv a e
            | _ => false
          | _ => false
        | _ => false
      | _ => false
    | _ => false
  | _, .dct ks, l => match l with
    | .Dict keys vals _ => match ks, keys, vals with
      | [], [], [] => true
      | [(i, j)], [some (.Constant (.int i') _ _)], [.Constant (.int j') _ _] => decide (i = i') && decide (j = j')
      | _, _, _ => false
    | _ => false
  | cv, .comp elt tg it own ifs, l => match l with
    | .ListComp el gens scope _ => match gens with
      | [⟨tge, ite, ts, asy⟩] => asy == 0 && tg.sl.all (own.contains ·) && blkC cv.N cv.sc scope (ownP cv own) && notSet ite && chkI Γ cv it tge ite && chkT (cv.blk scope) tg tge && chkEs Γ (cv.blk scope) ifs ts && decide (ts.length ≤ 1) && chkE Γ (cv.blk scope) elt el
      | _ => false
    | _ => false
  | cv, .comp2 elt tg it tg2 it2 own vs2, l => match l with
    | .ListComp el gens scope _ => match gens with
      | [⟨tge, ite, ts, asy⟩, ⟨tge2, ite2, ts2, asy2⟩] => asy == 0 && asy2 == 0 && ts.isEmpty && ts2.isEmpty && tg.sl.all (own.contains ·) && tg2.sl.all (vs2.contains ·) && vs2.all (own.contains ·) && blkC cv.N cv.sc scope (ownP cv own) && notSet ite && notSet ite2 && chkI Γ cv it tge ite && chkT (cv.blk scope) tg tge && chkI Γ (cv.blk scope) it2 tge2 ite2 && chkT (cv.blk scope) tg2 tge2 && chkE Γ (cv.blk scope) elt el
      | _ => false
    | _ => false
  | _, .nev, l => notStar l
def chkEs (Γ : Gam) : Cv → Exs → List Expr → Bool
  | _, .nil, es => es.isEmpty
  | cv, .cons a as, es => match es with
    | l :: rest => notStar l && chkE Γ cv a l && chkEs Γ cv as rest
    | [] => false
def chkKs (Γ : Gam) : Cv → Exs → List Keyword → Bool
  | _, .nil, es => es.isEmpty
  | cv, .cons a as, es => match es with
    | k :: rest => chkE Γ cv a k.value && chkKs Γ cv as rest
    | [] => false
def chkO (Γ : Gam) : Cv → Exo → Option Expr → Bool
  | _, .non, l => l.isNone
  | cv, .som a, l => match l with
    | some l => chkE Γ cv a l
    | none => false
def chkI (Γ : Gam) : Cv → Iw → Expr → Expr → Bool
  | cv, .seq a, _, l => chkE Γ cv a l
  | cv, .rng as, _, l => match l with
    | .Call g es ks _ => match g with
      | .Name x _ => ks.isEmpty && decide (x = Str.ofString "range") && glB cv x && (es.length == 1 || es.length == 2 || es.length == 3) && chkEs Γ cv as es
      | _ => false
    | _ => false
  | cv, .zip as, tg, l => match l with
    | .Call g es ks _ => match g with
      | .Name x _ => isTupE tg && ks.isEmpty && decide (x = Str.ofString "zip") && glB cv x && (es.length == 2 || es.length == 3) && chkEs Γ cv as es
      | _ => false
    | _ => false
  | cv, .enum as, tg, l => match l with
    | .Call g es ks _ => match g with
      | .Name x _ => isTupE tg && ks.isEmpty && decide (x = Str.ofString "enumerate") && glB cv x && es.length == 1 && chkEs Γ cv as es
      | _ => false
    | _ => false
  | cv, .enz as, tg, l => match l with
    | .Call g es ks _ => match g with
      | .Name x _ => match es with
        | [.Call g2 es2 ks2 _] => match g2 with
          | .Name y _ => isTupE tg && ks.isEmpty && decide (x = Str.ofString "enumerate") && glB cv x && ks2.isEmpty && decide (y = Str.ofString "zip") && glB cv y && es2.length == 2 && chkEs Γ cv as es2
          | _ => false
        | _ => false
      | _ => false
    | _ => false
end
theorem chkEs_len {Γ : Gam} {cv : Cv} : ∀ {as : Exs} {es : List Expr}, chkEs Γ cv as es = true → as.len = es.length
  | .nil, es, h => by
    simp only [chkEs] at h
    cases es with
    | nil => rfl
    | cons _ _ => cases h
  | .cons a as, es, h => by
    simp only [chkEs] at h
    cases es with
    | nil => cases h
    | cons l rest =>
      simp only [Bool.and_eq_true] at h
      rw [Exs.len, chkEs_len h.2]
      rfl
theorem chkKs_len {Γ : Gam} {cv : Cv} : ∀ {as : Exs} {es : List Keyword}, chkKs Γ cv as es = true → as.len = es.length
  | .nil, [], h => rfl
  | .nil, _ :: _, h => by simp [chkKs] at h
  | .cons a as, [], h => by simp [chkKs] at h
  | .cons a as, l :: rest, h => by
    simp only [chkKs, Bool.and_eq_true] at h
    rw [Exs.len, chkKs_len h.2]
    rfl
theorem kw_all {kws : List Keyword} {nm : List String} (h : kws.map (·.arg) = nm.map fun y => some (Str.ofString y)) (pos : Pos) (env : Env) : (backToKw pos (keywordEach kws env)).all (·.1.isSome) = true ∧ (backToKw pos (keywordEach kws env)).filterMap (·.1) = nm.map Str.ofString ∧ (backToKw pos (keywordEach kws env)).any (·.1.isNone) = false := by
  induction kws generalizing nm with
  | nil =>
    cases nm with
    | nil => exact ⟨rfl, rfl, rfl⟩
    | cons y ys => cases h
  | cons k kws ih =>
    cases nm with
    | nil => cases h
    | cons y ys =>
      simp only [List.map_cons, List.cons.injEq] at h
      obtain ⟨h1, h2, h3⟩ := ih h.2
      obtain ⟨ka, kv, kp⟩ := k
      simp only at h
      unfold backToKw at h1 h2 h3 ⊢
      simp only [keywordEach, List.map_cons, List.all_cons, List.filterMap_cons, List.any_cons, h.1, h1, h2, h3, Option.isSome_some, Option.isNone_some, Bool.and_self, Bool.or_self]
      exact ⟨trivial, trivial, trivial⟩
theorem chkEs_ns {Γ : Gam} {cv : Cv} : ∀ {as : Exs} {es : List Expr}, chkEs Γ cv as es = true → allNS es = true
  | .nil, es, h => by
    simp only [chkEs] at h
    cases es with
    | nil => rfl
    | cons _ _ => cases h
  | .cons a as, es, h => by
    simp only [chkEs] at h
    cases es with
    | nil => cases h
    | cons l rest =>
      simp only [Bool.and_eq_true] at h
      rw [allNS, h.1.1, chkEs_ns h.2]
      rfl
/-! targets -/
def Tgs.len : Tgs → Nat
  | .nil => 0
  | .cons _ ts => ts.len + 1
theorem bindTs_ln : ∀ {ts : Tgs} {xs : List D} {s s' : Sl}, bindTs ts xs s = some s' → xs.length = ts.len
  | .nil, [], s, s', e => rfl
  | .nil, _ :: _, s, s', e => by cases e
  | .cons t ts, [], s, s', e => by cases e
  | .cons t ts, x :: xs, s, s', e => by
    simp only [bindTs] at e
    obtain ⟨s1, h1, h2⟩ := Option.bind_eq_some_iff.mp e
    rw [List.length_cons, bindTs_ln h2]
    rfl
theorem asg_cons {l : Expr} (h : notStar l = true) (es : List Expr) (env : Env) : assignEach (l :: es) env = (false, assign l env) :: assignEach es env := by
  cases l <;> first
    | rfl
    | cases h
theorem asg_all {cv : Cv} (env : Env) : ∀ {ts : Tgs} {es : List Expr}, chkTs cv ts es = true → (assignEach es env).length = ts.len ∧ (assignEach es env).findIdx? (·.1) = none
  | .nil, es, h => by
    simp only [chkTs] at h
    cases es with
    | nil => exact ⟨rfl, rfl⟩
    | cons _ _ => cases h
  | .cons t ts, es, h => by
    simp only [chkTs] at h
    cases es with
    | nil => cases h
    | cons l rest =>
      simp only [Bool.and_eq_true] at h
      obtain ⟨h1, h2⟩ := asg_all env h.2
      rw [asg_cons h.1.1]
      refine ⟨by rw [List.length_cons, h1]; rfl, ?_⟩
      rw [List.findIdx?_cons, h2]
      rfl
section
variable {U : Wd} {n : Nat}
mutual
theorem snd_t : ∀ (tg : Tg) (l : Expr) (cv : Cv) (X : Cx), Fit U n cv X → chkT cv tg l = true → PG X l (TGv U.K tg)
  | .nm i, l, cv, X, h, c => by
    simp only [chkT] at c
    split at c
    · exact g_nm h c
    · cases c
  | .tp ts, l, cv, X, h, c => by
    simp only [chkT] at c
    split at c
    · obtain ⟨h1, h2⟩ := asg_all X.env c
      exact g_tp h (snd_ts ts _ cv X h c) h1 (fun xs s s' e => bindTs_ln e) h2
    · cases c
theorem snd_ts : ∀ (ts : Tgs) (es : List Expr) (cv : Cv) (X : Cx), Fit U n cv X → chkTs cv ts es = true → PGs X es (TGsv U.K ts)
  | .nil, es, cv, X, h, c => by
    simp only [chkTs] at c
    cases es with
    | nil => exact gs_nil
    | cons _ _ => cases c
  | .cons t ts, es, cv, X, h, c => by
    simp only [chkTs] at c
    cases es with
    | nil => cases c
    | cons l rest =>
      simp only [Bool.and_eq_true] at c
      exact gs_cons (snd_t t l cv X h c.1.2) (snd_ts ts rest cv X h c.2) (by rw [asg_cons c.1.1]; rfl)
end
end
end EV

namespace EV
open PySem PySem.Spec PyProof.Rows L2
/-! ### a text that matches a term does what the evaluator says -/
theorem len1 {α : Type} {es : List α} (h : (es.length == 1) = true) : ∃ a, es = [a] := by
  match es, h with
  | [a], _ => exact ⟨a, rfl⟩
theorem len12 {α : Type} {es : List α} (h : (es.length == 1 || es.length == 2) = true) : (∃ a, es = [a]) ∨ ∃ a b, es = [a, b] := by
  match es, h with
  | [a], _ => exact .inl ⟨a, rfl⟩
  | [a, b], _ => exact .inr ⟨a, b, rfl⟩
theorem len23 {α : Type} {es : List α} (h : (es.length == 2 || es.length == 3) = true) : (∃ a b, es = [a, b]) ∨ ∃ a b c, es = [a, b, c] := by
  match es, h with
  | [a, b], _ => exact .inl ⟨a, b, rfl⟩
  | [a, b, c], _ => exact .inr ⟨a, b, c, rfl⟩
theorem len123 {α : Type} {es : List α} (h : (es.length == 1 || es.length == 2 || es.length == 3) = true) : (∃ a, es = [a]) ∨ (∃ a b, es = [a, b]) ∨ ∃ a b c, es = [a, b, c] := by
  match es, h with
  | [a], _ => exact .inl ⟨a, rfl⟩
  | [a, b], _ => exact .inr (.inl ⟨a, b, rfl⟩)
  | [a, b, c], _ => exact .inr (.inr ⟨a, b, c, rfl⟩)
theorem len2 {α : Type} {es : List α} (h : (es.length == 2) = true) : ∃ a b, es = [a, b] := by
  match es, h with
  | [a, b], _ => exact ⟨a, b, rfl⟩
theorem ne_cons {α : Type} {es : List α} (h : (!es.isEmpty) = true) : ∃ a as, es = a :: as := by
  cases es with
  | nil => cases h
  | cons a as => exact ⟨a, as, rfl⟩
theorem tupE {l : Expr} (h : isTupE l = true) : ∃ es k p, l = .Tuple es k p := by
  cases l <;> first
    | exact ⟨_, _, _, rfl⟩
    | cases h
section
variable {U : Wd} {n : Nat}
theorem snd_val {a : Ex} {l : Expr} {cv : Cv} {X : Cx} {Wx : WX} (h : Fit U n cv X) (he : PE X l (TEv U n Wx a)) (c : plainT l = true) : PT X l (TTv U n Wx a) := t_val h he (test_plain c X.env)
theorem slot_plain {l : Expr} {Γ : Gam} {cv : Cv} {a : Ex} (c : chkE Γ cv a l = true) (h : ∀ as, a ≠ .andd as) (h2 : ∀ as, a ≠ .orr as) (h3 : ∀ x, a ≠ .nott x) (h4 : ∀ o x y, a ≠ .cmp o x y) (h5 : ∀ o o' x y z, a ≠ .chain o o' x y z) (h6 : ∀ x y z, a ≠ .ite x y z) (h7 : a ≠ .nev) : plainT l = true := by
  cases a with
  | andd as => exact absurd rfl (h as)
  | orr as => exact absurd rfl (h2 as)
  | nott x => exact absurd rfl (h3 x)
  | cmp o x y => exact absurd rfl (h4 o x y)
  | chain o o' x y z => exact absurd rfl (h5 o o' x y z)
  | ite x y z => exact absurd rfl (h6 x y z)
  | nev => exact absurd rfl h7
  | neg x =>
    simp only [chkE] at c
    split at c
    · rw [Bool.and_eq_true] at c
      rw [usub_of c.1]
      rfl
    · cases c
  | _ =>
    simp only [chkE] at c
    first
      | cases c
      | (split at c <;> first
          | rfl
          | cases c)
theorem t_nev {l : Expr} {X : Cx} {Wx : WX} : PT X l (TTv U n Wx .nev) := ⟨fun pins s σ H Q I ⟨s0, M, B, f, q⟩ => by simp only [evE] at q; exact q.elim⟩
set_option maxHeartbeats 0 in
mutual
theorem snd_e (W : U.Ok n) : ∀ (a : Ex) (l : Expr) (cv : Cv) (X : Cx) (Wx : WX), Fit U n cv X → Takes X Wx → chkE U.Γ cv a l = true → PE X l (TEv U n Wx a)
  | .v i, l, cv, X, Wx, h, tk, c => by
    simp only [chkE] at c
    split at c
    · exact s_v h c
    · cases c
  | .fz i, l, cv, X, Wx, h, tk, c => by
    simp only [chkE] at c
    split at c
    · exact s_fz h c
    · cases c
  | .io i, l, cv, X, Wx, h, tk, c => by
    simp only [chkE] at c
    split at c
    · exact s_io h c
    · cases c
  | .c x, l, cv, X, Wx, h, tk, c => by
    simp only [chkE] at c
    split at c
    · exact s_c c
    · cases c
  | .g k, l, cv, X, Wx, h, tk, c => by
    simp only [chkE] at c
    split at c
    · simp only [Bool.and_eq_true, decide_eq_true_eq] at c
      exact s_g W h c.1 c.2
    · cases c
  | .bin op a b, l, cv, X, Wx, h, tk, c => by
    simp only [chkE] at c
    split at c
    · simp only [Bool.and_eq_true] at c
      rw [bop_of c.1.1]
      exact s_bin h (snd_e W a _ cv X Wx h tk c.1.2) (snd_e W b _ cv X Wx h tk c.2)
    · cases c
  | .neg a, l, cv, X, Wx, h, tk, c => by
    simp only [chkE] at c
    split at c
    · simp only [Bool.and_eq_true] at c
      rw [usub_of c.1]
      exact s_neg h (snd_e W a _ cv X Wx h tk c.2)
    · cases c
  | .nott a, l, cv, X, Wx, h, tk, c => by
    simp only [chkE] at c
    split at c
    · simp only [Bool.and_eq_true] at c
      rw [not_of c.1]
      exact s_not h (snd_e W a _ cv X Wx h tk c.2)
    · cases c
  | .andd as, l, cv, X, Wx, h, tk, c => by
    simp only [chkE] at c
    split at c
    · simp only [Bool.and_eq_true] at c
      rw [and_of c.1.1]
      exact s_andd (snd_an W as _ cv X Wx h tk c.1.2 c.2 _)
    · cases c
  | .orr as, l, cv, X, Wx, h, tk, c => by
    simp only [chkE] at c
    split at c
    · simp only [Bool.and_eq_true] at c
      rw [or_of c.1.1]
      exact s_orr (snd_or W as _ cv X Wx h tk c.1.2 c.2 _)
    · cases c
  | .cmp op a b, l, cv, X, Wx, h, tk, c => by
    simp only [chkE] at c
    split at c
    · split at c
      · simp only [Bool.and_eq_true, Bool.not_eq_true'] at c
        rw [cop_of c.1.1.1]
        exact s_cmp h c.1.1.2 (snd_e W a _ cv X Wx h tk c.1.2) (snd_e W b _ cv X Wx h tk c.2)
      · cases c
    · cases c
  | .chain op op' a b d, l, cv, X, Wx, h, tk, c => by
    simp only [chkE] at c
    split at c
    · split at c
      · simp only [Bool.and_eq_true, Bool.not_eq_true'] at c
        rw [cop_of c.1.1.1.1.1, cop_of c.1.1.1.1.2]
        exact s_chain h c.1.1.1.2 (snd_e W a _ cv X Wx h tk c.1.1.2) (snd_e W b _ cv X Wx h tk c.1.2) (snd_e W d _ cv X Wx h tk c.2)
      · cases c
    · cases c
  | .ite t a b, l, cv, X, Wx, h, tk, c => by
    simp only [chkE] at c
    split at c
    · simp only [Bool.and_eq_true] at c
      exact s_ite h (snd_tt W t _ cv X Wx h tk c.1.1) (snd_e W a _ cv X Wx h tk c.1.2) (snd_e W b _ cv X Wx h tk c.2)
    · cases c
  | .tup as, l, cv, X, Wx, h, tk, c => by
    simp only [chkE] at c
    split at c
    · exact s_tup (snd_es W as _ cv X Wx h tk c)
    · cases c
  | .lst as, l, cv, X, Wx, h, tk, c => by
    simp only [chkE] at c
    split at c
    · exact s_lst (snd_es W as _ cv X Wx h tk c)
    · cases c
  | .idx a b, l, cv, X, Wx, h, tk, c => by
    simp only [chkE] at c
    split at c
    · simp only [Bool.and_eq_true] at c
      exact s_idx h (ix_plain c.1.1) (snd_e W a _ cv X Wx h tk c.1.2) (snd_e W b _ cv X Wx h tk c.2)
    · cases c
  | .cut a lo hi, l, cv, X, Wx, h, tk, c => by
    simp only [chkE] at c
    split at c
    · split at c
      · simp only [Bool.and_eq_true, Option.isNone_iff_eq_none] at c
        obtain ⟨⟨⟨rfl, c1⟩, c2⟩, c3⟩ := c
        exact s_cut h (snd_e W a _ cv X Wx h tk c1) (snd_o W lo _ cv X Wx h tk c2) (snd_o W hi _ cv X Wx h tk c3)
      · cases c
    · cases c
  | .rev a, l, cv, X, Wx, h, tk, c => by
    simp only [chkE] at c
    split at c
    · split at c
      · rename_i pl pu ps p2
        simp only [Bool.and_eq_true, Option.isNone_iff_eq_none] at c
        obtain ⟨⟨⟨rfl, rfl⟩, c2⟩, c3⟩ := c
        split at c2
        · rw [usub_of c2]
          exact s_rev h (snd_e W a _ cv X Wx h tk c3)
        · cases c2
      · cases c
    · cases c
  | .callK f as ks nm pm, l, cv, X, Wx, h, tk, c => by
    simp only [chkE] at c
    split at c
    · split at c
      · rename_i es kws pos g x p
        simp only [Bool.and_eq_true, decide_eq_true_eq] at c
        obtain ⟨⟨⟨⟨⟨c1, c2⟩, c3⟩, c4⟩, c5⟩, c6⟩ := c
        obtain ⟨k1, k2, k3⟩ := kw_all c4 pos X.env
        have hk := snd_ks W ks kws cv X Wx h tk c6
        have l2 : ks.len = nm.length := by
          have := congrArg List.length c4
          rw [List.length_map, List.length_map] at this
          rw [chkKs_len c6, this]
        cases es with
        | nil =>
          have e := chkEs_len c5
          cases as with
          | nil => exact s_callK0 W h tk c1 c2 c3 hk k1 k2 l2 (by rw [k3]; rfl)
          | cons _ _ => cases e
        | cons l es =>
          have ns := chkEs_ns c5
          have e := chkEs_len c5
          have n0 := stars_none pos X.env ns
          rw [allNS, Bool.and_eq_true] at ns
          exact s_callK W h tk c1 c2 c3 (snd_es W as _ cv X Wx h tk c5) hk k1 k2 e l2 (star_cons ns.1 es X.env) (by rw [n0, k3]; rfl)
      · cases c
    · cases c
  | .call f as, l, cv, X, Wx, h, tk, c => by
    simp only [chkE] at c
    split at c
    · split at c
      · rename_i es ks pos g x p
        simp only [Bool.and_eq_true, decide_eq_true_eq, List.isEmpty_iff] at c
        obtain ⟨⟨⟨rfl, c1⟩, c2⟩, c3⟩ := c
        cases es with
        | nil =>
          have e := chkEs_len c3
          cases as with
          | nil => exact s_call0 W h tk c1 c2
          | cons _ _ => cases e
        | cons l es =>
          have ns := chkEs_ns c3
          rw [allNS, Bool.and_eq_true] at ns
          exact s_call W h tk c1 c2 (snd_es W as _ cv X Wx h tk c3) (star_cons ns.1 es X.env) (stars_none pos X.env ns.2)
      · cases c
    · cases c
  | .bi f as, l, cv, X, Wx, h, tk, c => by
    simp only [chkE] at c
    split at c
    · split at c
      · rename_i es ks pos g x p
        simp only [Bool.and_eq_true, List.isEmpty_iff] at c
        obtain ⟨rfl, c⟩ := c
        split at c
        · rename_i nm en
          simp only [Bool.and_eq_true, decide_eq_true_eq] at c
          obtain ⟨⟨⟨c1, rfl⟩, c2⟩, c3⟩ := c
          obtain ⟨l, rest, rfl⟩ := ne_cons c1
          have ns := chkEs_ns c3
          rw [allNS, Bool.and_eq_true] at ns
          exact s_bi (x := nm.1) (ty := nm.2) W h en c2 (snd_es W as _ cv X Wx h tk c3) (star_cons ns.1 rest X.env) (stars_none pos X.env ns.2)
        · split at c
          · rename_i T p y en
            split at c
            · rename_i z pz
              simp only [Bool.and_eq_true, decide_eq_true_eq] at c
              obtain ⟨⟨⟨⟨⟨rfl, c2⟩, rfl⟩, c3⟩, c4⟩, c5⟩ := c
              cases as with
              | nil => cases chkEs_len c5
              | cons a as =>
                cases as with
                | cons _ _ => cases chkEs_len c5
                | nil =>
                  simp only [chkEs, Bool.and_eq_true] at c5
                  exact s_isi W h en c2 c3 (snd_e W a _ cv X Wx h tk c5.1.2) (star_cons c4 _ X.env)
            · cases c
          · cases c
      · cases c
    · cases c
  | .cnt a b, l, cv, X, Wx, h, tk, c => by
    simp only [chkE] at c
    split at c
    · split at c
      · split at c
        · split at c
          · simp only [Bool.and_eq_true, decide_eq_true_eq, List.isEmpty_iff] at c
            obtain ⟨⟨⟨⟨⟨rfl, rfl⟩, c1⟩, c2⟩, c3⟩, c4⟩ := c
            exact s_cnt h (snd_e W a _ cv X Wx h tk c3) (snd_e W b _ cv X Wx h tk c4) c1 (star_cons c2 [] X.env)
          · cases c
        · cases c
      · cases c
    · cases c
  | .lrng tp as, l, cv, X, Wx, h, tk, c => by
    simp only [chkE] at c
    split at c
    · split at c
      · split at c
        · split at c
          · rename_i es2 ks2 pc g2 y p2
            simp only [Bool.and_eq_true, Bool.or_eq_true, beq_iff_eq, decide_eq_true_eq, List.isEmpty_iff] at c
            obtain ⟨⟨⟨⟨⟨⟨⟨rfl, rfl⟩, rfl⟩, c1⟩, rfl⟩, c2⟩, c3⟩, c4⟩ := c
            cases es2 with
            | nil => simp at c3
            | cons l1 r1 =>
              cases r1 with
              | nil =>
                cases as with
                | nil => cases chkEs_len c4
                | cons a as =>
                  cases as with
                  | cons _ _ => cases chkEs_len c4
                  | nil =>
                    simp only [chkEs, Bool.and_eq_true] at c4
                    exact s_lrng1 W h c1 c2 (snd_e W a _ cv X Wx h tk c4.1.2) (star_cons c4.1.1 [] X.env)
              | cons l2 r2 =>
                cases r2 with
                | cons _ _ => simp at c3
                | nil =>
                  cases as with
                  | nil => cases chkEs_len c4
                  | cons a as =>
                    cases as with
                    | nil => cases chkEs_len c4
                    | cons b bs =>
                      cases bs with
                      | cons _ _ => cases chkEs_len c4
                      | nil =>
                        simp only [chkEs, Bool.and_eq_true] at c4
                        refine s_lrng2 W h c1 c2 (snd_e W a _ cv X Wx h tk c4.1.2) (snd_e W b _ cv X Wx h tk c4.2.1.2) (star_cons c4.1.1 [l2] X.env) (star_cons c4.2.1.1 [] X.env) ?_
                        exact stars_none pc X.env (by simp only [allNS, c4.2.1.1, Bool.and_self])
          · cases c
        · cases c
      · cases c
    · cases c
  | .sset a, l, cv, X, Wx, h, tk, c => by
    simp only [chkE] at c
    split at c
    · split at c
      · split at c
        · split at c
          · split at c
            · simp only [Bool.and_eq_true, decide_eq_true_eq, List.isEmpty_iff] at c
              obtain ⟨⟨⟨⟨⟨⟨⟨rfl, rfl⟩, rfl⟩, c1⟩, rfl⟩, c2⟩, c3⟩, c4⟩ := c
              exact s_sset W h c1 c2 (snd_e W a _ cv X Wx h tk c4) (star_cons c3 [] X.env)
            · cases c
          · cases c
        · cases c
      · cases c
    · cases c
  | .dct ks, l, cv, X, Wx, h, tk, c => by
    simp only [chkE] at c
    split at c
    · split at c
      · exact s_dct0
      · simp only [Bool.and_eq_true, decide_eq_true_eq] at c
        obtain ⟨rfl, rfl⟩ := c
        exact s_dct1
      · cases c
    · cases c
  | .comp elt tg it own ifs, l, cv, X, Wx, h, tk, c => by
    simp only [chkE] at c
    split at c
    · rename_i el gens scope pos
      split at c
      · rename_i tge ite ts asy
        simp only [Bool.and_eq_true, beq_iff_eq, List.all_eq_true, List.contains_eq_mem, decide_eq_true_eq] at c
        obtain ⟨⟨⟨⟨⟨⟨⟨⟨rfl, c1⟩, c2⟩, c3⟩, c4⟩, c5⟩, c6⟩, c7⟩, c8⟩ := c
        refine s_lc h (ownP_snd cv own) c1 (snd_i W it tge ite cv X Wx h tk c4) (blk_p h c2) (fun X' h' => snd_t tg tge _ X' h' c5) (fun X' h' tk' => ?_) (fun X' h' tk' => snd_e W elt el _ X' W0 h' tk' c8) (set_plain' c3 X.env)
        cases ifs with
        | nil =>
          have e := chkEs_len c6
          cases ts with
          | nil => exact if0
          | cons _ _ => cases e
        | cons a as =>
          have e := chkEs_len c6
          cases ts with
          | nil => cases e
          | cons t ts =>
            cases ts with
            | cons _ _ => simp at c7
            | nil =>
              cases as with
              | cons _ _ => cases e
              | nil =>
                simp only [chkEs, Bool.and_eq_true] at c6
                exact if1 (snd_tt W a t _ X' W0 h' tk' c6.1.2)
      · cases c
    · cases c
  | .comp2 elt tg it tg2 it2 own vs2, l, cv, X, Wx, h, tk, c => by
    simp only [chkE] at c
    split at c
    · rename_i el gens scope pos
      split at c
      · rename_i tge ite ts asy tge2 ite2 ts2 asy2
        simp only [Bool.and_eq_true, beq_iff_eq, List.all_eq_true, List.contains_eq_mem, decide_eq_true_eq, List.isEmpty_iff] at c
        obtain ⟨⟨⟨⟨⟨⟨⟨⟨⟨⟨⟨⟨⟨⟨rfl, rfl⟩, rfl⟩, rfl⟩, c1⟩, c2⟩, c3⟩, c4⟩, c5⟩, c6⟩, c7⟩, c8⟩, c9⟩, c10⟩, c11⟩ := c
        exact s_lc2 h (ownP_snd cv own) c1 c2 c3 (snd_i W it tge ite cv X Wx h tk c7) (blk_p h c4) (fun X' h' => snd_t tg tge _ X' h' c8) (fun X' h' tk' => snd_i W it2 tge2 ite2 _ X' W0 h' tk' c9) (fun X' h' => snd_t tg2 tge2 _ X' h' c10) (fun X' h' tk' => snd_e W elt el _ X' W0 h' tk' c11) (set_plain' c5 X.env) (fun env x => set_plain' c6 env x)
      · cases c
    · cases c
  | .nev, l, cv, X, Wx, h, tk, c => s_nev
theorem snd_tt (W : U.Ok n) : ∀ (a : Ex) (l : Expr) (cv : Cv) (X : Cx) (Wx : WX), Fit U n cv X → Takes X Wx → chkE U.Γ cv a l = true → PT X l (TTv U n Wx a)
  | .nott a, l, cv, X, Wx, h, tk, c => by
    simp only [chkE] at c
    split at c
    · simp only [Bool.and_eq_true] at c
      rw [not_of c.1]
      exact t_not h (snd_tt W a _ cv X Wx h tk c.2)
    · cases c
  | .andd as, l, cv, X, Wx, h, tk, c => by
    simp only [chkE] at c
    split at c
    · simp only [Bool.and_eq_true] at c
      rw [and_of c.1.1]
      exact t_andd (snd_ant W as _ cv X Wx h tk c.1.2 c.2 _)
    · cases c
  | .orr as, l, cv, X, Wx, h, tk, c => by
    simp only [chkE] at c
    split at c
    · simp only [Bool.and_eq_true] at c
      rw [or_of c.1.1]
      exact t_orr (snd_ort W as _ cv X Wx h tk c.1.2 c.2 _)
    · cases c
  | .cmp op a b, l, cv, X, Wx, h, tk, c => by
    simp only [chkE] at c
    split at c
    · split at c
      · simp only [Bool.and_eq_true, Bool.not_eq_true'] at c
        rw [cop_of c.1.1.1]
        exact t_cmp h c.1.1.2 (snd_e W a _ cv X Wx h tk c.1.2) (snd_e W b _ cv X Wx h tk c.2)
      · cases c
    · cases c
  | .chain op op' a b d, l, cv, X, Wx, h, tk, c => by
    simp only [chkE] at c
    split at c
    · split at c
      · simp only [Bool.and_eq_true, Bool.not_eq_true'] at c
        rw [cop_of c.1.1.1.1.1, cop_of c.1.1.1.1.2]
        exact t_chain h c.1.1.1.2 (snd_e W a _ cv X Wx h tk c.1.1.2) (snd_e W b _ cv X Wx h tk c.1.2) (snd_e W d _ cv X Wx h tk c.2)
      · cases c
    · cases c
  | .ite t a b, l, cv, X, Wx, h, tk, c => by
    simp only [chkE] at c
    split at c
    · simp only [Bool.and_eq_true] at c
      exact t_ite h (snd_tt W t _ cv X Wx h tk c.1.1) (snd_tt W a _ cv X Wx h tk c.1.2) (snd_tt W b _ cv X Wx h tk c.2)
    · cases c
  | .nev, l, cv, X, Wx, h, tk, c => t_nev
  | .v i, l, cv, X, Wx, h, tk, c => snd_val h (snd_e W (.v i) l cv X Wx h tk c) (slot_plain c (by simp) (by simp) (by simp) (by simp) (by simp) (by simp) (by simp))
  | .fz i, l, cv, X, Wx, h, tk, c => snd_val h (snd_e W (.fz i) l cv X Wx h tk c) (slot_plain c (by simp) (by simp) (by simp) (by simp) (by simp) (by simp) (by simp))
  | .io i, l, cv, X, Wx, h, tk, c => snd_val h (snd_e W (.io i) l cv X Wx h tk c) (slot_plain c (by simp) (by simp) (by simp) (by simp) (by simp) (by simp) (by simp))
  | .c i, l, cv, X, Wx, h, tk, c => snd_val h (snd_e W (.c i) l cv X Wx h tk c) (slot_plain c (by simp) (by simp) (by simp) (by simp) (by simp) (by simp) (by simp))
  | .g i, l, cv, X, Wx, h, tk, c => snd_val h (snd_e W (.g i) l cv X Wx h tk c) (slot_plain c (by simp) (by simp) (by simp) (by simp) (by simp) (by simp) (by simp))
  | .bin o a b, l, cv, X, Wx, h, tk, c => snd_val h (snd_e W (.bin o a b) l cv X Wx h tk c) (slot_plain c (by simp) (by simp) (by simp) (by simp) (by simp) (by simp) (by simp))
  | .neg a, l, cv, X, Wx, h, tk, c => snd_val h (snd_e W (.neg a) l cv X Wx h tk c) (slot_plain c (by simp) (by simp) (by simp) (by simp) (by simp) (by simp) (by simp))
  | .tup a, l, cv, X, Wx, h, tk, c => snd_val h (snd_e W (.tup a) l cv X Wx h tk c) (slot_plain c (by simp) (by simp) (by simp) (by simp) (by simp) (by simp) (by simp))
  | .lst a, l, cv, X, Wx, h, tk, c => snd_val h (snd_e W (.lst a) l cv X Wx h tk c) (slot_plain c (by simp) (by simp) (by simp) (by simp) (by simp) (by simp) (by simp))
  | .idx a b, l, cv, X, Wx, h, tk, c => snd_val h (snd_e W (.idx a b) l cv X Wx h tk c) (slot_plain c (by simp) (by simp) (by simp) (by simp) (by simp) (by simp) (by simp))
  | .cut a b d, l, cv, X, Wx, h, tk, c => snd_val h (snd_e W (.cut a b d) l cv X Wx h tk c) (slot_plain c (by simp) (by simp) (by simp) (by simp) (by simp) (by simp) (by simp))
  | .rev a, l, cv, X, Wx, h, tk, c => snd_val h (snd_e W (.rev a) l cv X Wx h tk c) (slot_plain c (by simp) (by simp) (by simp) (by simp) (by simp) (by simp) (by simp))
  | .callK f as ks nm pm, l, cv, X, Wx, h, tk, c => snd_val h (snd_e W (.callK f as ks nm pm) l cv X Wx h tk c) (slot_plain c (by simp) (by simp) (by simp) (by simp) (by simp) (by simp) (by simp))
  | .call f as, l, cv, X, Wx, h, tk, c => snd_val h (snd_e W (.call f as) l cv X Wx h tk c) (slot_plain c (by simp) (by simp) (by simp) (by simp) (by simp) (by simp) (by simp))
  | .bi f as, l, cv, X, Wx, h, tk, c => snd_val h (snd_e W (.bi f as) l cv X Wx h tk c) (slot_plain c (by simp) (by simp) (by simp) (by simp) (by simp) (by simp) (by simp))
  | .cnt a b, l, cv, X, Wx, h, tk, c => snd_val h (snd_e W (.cnt a b) l cv X Wx h tk c) (slot_plain c (by simp) (by simp) (by simp) (by simp) (by simp) (by simp) (by simp))
  | .lrng a b, l, cv, X, Wx, h, tk, c => snd_val h (snd_e W (.lrng a b) l cv X Wx h tk c) (slot_plain c (by simp) (by simp) (by simp) (by simp) (by simp) (by simp) (by simp))
  | .sset a, l, cv, X, Wx, h, tk, c => snd_val h (snd_e W (.sset a) l cv X Wx h tk c) (slot_plain c (by simp) (by simp) (by simp) (by simp) (by simp) (by simp) (by simp))
  | .dct a, l, cv, X, Wx, h, tk, c => snd_val h (snd_e W (.dct a) l cv X Wx h tk c) (slot_plain c (by simp) (by simp) (by simp) (by simp) (by simp) (by simp) (by simp))
  | .comp2 a b d e f g k, l, cv, X, Wx, h, tk, c => snd_val h (snd_e W (.comp2 a b d e f g k) l cv X Wx h tk c) (slot_plain c (by simp) (by simp) (by simp) (by simp) (by simp) (by simp) (by simp))
  | .comp a b d e f, l, cv, X, Wx, h, tk, c => snd_val h (snd_e W (.comp a b d e f) l cv X Wx h tk c) (slot_plain c (by simp) (by simp) (by simp) (by simp) (by simp) (by simp) (by simp))
theorem snd_an (W : U.Ok n) : ∀ (as : Exs) (es : List Expr) (cv : Cv) (X : Cx) (Wx : WX), Fit U n cv X → Takes X Wx → (!es.isEmpty) = true → chkEs U.Γ cv as es = true → ∀ (pos : Pos), PE X (.BoolOp .And es pos) (TAn U n Wx as)
  | .nil, es, cv, X, Wx, h, tk, ne, c, pos => by
    simp only [chkEs] at c
    rw [c] at ne
    cases ne
  | .cons a as, es, cv, X, Wx, h, tk, ne, c, pos => by
    simp only [chkEs] at c
    cases es with
    | nil => cases c
    | cons l rest =>
      simp only [Bool.and_eq_true] at c
      have ha := snd_e W a l cv X Wx h tk c.1.2
      cases rest with
      | nil =>
        cases as with
        | nil => exact s_and1 ha
        | cons _ _ => cases chkEs_len c.2
      | cons r rest =>
        have hb := snd_an W as (r :: rest) cv X Wx h tk rfl c.2 pos
        cases as with
        | nil => cases chkEs_len c.2
        | cons b bs => exact s_and h ha hb
theorem snd_or (W : U.Ok n) : ∀ (as : Exs) (es : List Expr) (cv : Cv) (X : Cx) (Wx : WX), Fit U n cv X → Takes X Wx → (!es.isEmpty) = true → chkEs U.Γ cv as es = true → ∀ (pos : Pos), PE X (.BoolOp .Or es pos) (TOr U n Wx as)
  | .nil, es, cv, X, Wx, h, tk, ne, c, pos => by
    simp only [chkEs] at c
    rw [c] at ne
    cases ne
  | .cons a as, es, cv, X, Wx, h, tk, ne, c, pos => by
    simp only [chkEs] at c
    cases es with
    | nil => cases c
    | cons l rest =>
      simp only [Bool.and_eq_true] at c
      have ha := snd_e W a l cv X Wx h tk c.1.2
      cases rest with
      | nil =>
        cases as with
        | nil => exact s_or1 ha
        | cons _ _ => cases chkEs_len c.2
      | cons r rest =>
        have hb := snd_or W as (r :: rest) cv X Wx h tk rfl c.2 pos
        cases as with
        | nil => cases chkEs_len c.2
        | cons b bs => exact s_or h ha hb
theorem snd_ant (W : U.Ok n) : ∀ (as : Exs) (es : List Expr) (cv : Cv) (X : Cx) (Wx : WX), Fit U n cv X → Takes X Wx → (!es.isEmpty) = true → chkEs U.Γ cv as es = true → ∀ (pos : Pos), PW X (.BoolOp .And es pos) (TAnT U n Wx as)
  | .nil, es, cv, X, Wx, h, tk, ne, c, pos => by
    simp only [chkEs] at c
    rw [c] at ne
    cases ne
  | .cons a as, es, cv, X, Wx, h, tk, ne, c, pos => by
    simp only [chkEs] at c
    cases es with
    | nil => cases c
    | cons l rest =>
      simp only [Bool.and_eq_true] at c
      have ha := snd_tt W a l cv X Wx h tk c.1.2
      cases rest with
      | nil =>
        cases as with
        | nil => exact t_and1 ha
        | cons _ _ => cases chkEs_len c.2
      | cons r rest =>
        have hb := snd_ant W as (r :: rest) cv X Wx h tk rfl c.2 pos
        cases as with
        | nil => cases chkEs_len c.2
        | cons b bs => exact t_and ha hb
theorem snd_ort (W : U.Ok n) : ∀ (as : Exs) (es : List Expr) (cv : Cv) (X : Cx) (Wx : WX), Fit U n cv X → Takes X Wx → (!es.isEmpty) = true → chkEs U.Γ cv as es = true → ∀ (pos : Pos), PW X (.BoolOp .Or es pos) (TOrT U n Wx as)
  | .nil, es, cv, X, Wx, h, tk, ne, c, pos => by
    simp only [chkEs] at c
    rw [c] at ne
    cases ne
  | .cons a as, es, cv, X, Wx, h, tk, ne, c, pos => by
    simp only [chkEs] at c
    cases es with
    | nil => cases c
    | cons l rest =>
      simp only [Bool.and_eq_true] at c
      have ha := snd_tt W a l cv X Wx h tk c.1.2
      cases rest with
      | nil =>
        cases as with
        | nil => exact t_or1 ha
        | cons _ _ => cases chkEs_len c.2
      | cons r rest =>
        have hb := snd_ort W as (r :: rest) cv X Wx h tk rfl c.2 pos
        cases as with
        | nil => cases chkEs_len c.2
        | cons b bs => exact t_or ha hb
theorem snd_es (W : U.Ok n) : ∀ (as : Exs) (es : List Expr) (cv : Cv) (X : Cx) (Wx : WX), Fit U n cv X → Takes X Wx → chkEs U.Γ cv as es = true → PA X es (TAv U n Wx as)
  | .nil, es, cv, X, Wx, h, tk, c => by
    simp only [chkEs] at c
    cases es with
    | nil => exact s_pa0
    | cons _ _ => cases c
  | .cons a as, es, cv, X, Wx, h, tk, c => by
    simp only [chkEs] at c
    cases es with
    | nil => cases c
    | cons l rest =>
      simp only [Bool.and_eq_true] at c
      exact s_pa1 (star_cons c.1.1 rest X.env) (snd_e W a l cv X Wx h tk c.1.2) (snd_es W as rest cv X Wx h tk c.2)
theorem snd_ks (W : U.Ok n) : ∀ (as : Exs) (es : List Keyword) (cv : Cv) (X : Cx) (Wx : WX), Fit U n cv X → Takes X Wx → chkKs U.Γ cv as es = true → PK X es (TAv U n Wx as)
  | .nil, es, cv, X, Wx, h, tk, c => by
    cases es with
    | nil => exact s_pk0
    | cons _ _ => simp [chkKs] at c
  | .cons a as, es, cv, X, Wx, h, tk, c => by
    cases es with
    | nil => simp [chkKs] at c
    | cons l rest =>
      simp only [chkKs, Bool.and_eq_true] at c
      obtain ⟨ka, kv, kp⟩ := l
      exact s_pk1 (snd_e W a kv cv X Wx h tk c.1) (snd_ks W as rest cv X Wx h tk c.2)
theorem snd_o (W : U.Ok n) : ∀ (o : Exo) (l : Option Expr) (cv : Cv) (X : Cx) (Wx : WX), Fit U n cv X → Takes X Wx → chkO U.Γ cv o l = true → PO X l (TOv U n Wx o)
  | .non, l, cv, X, Wx, h, tk, c => by
    simp only [chkO, Option.isNone_iff_eq_none] at c
    rw [c]
    exact s_o0
  | .som a, l, cv, X, Wx, h, tk, c => by
    simp only [chkO] at c
    split at c
    · exact s_o1 (snd_e W a _ cv X Wx h tk c)
    · cases c
theorem snd_i (W : U.Ok n) : ∀ (it : Iw) (tg l : Expr) (cv : Cv) (X : Cx) (Wx : WX), Fit U n cv X → Takes X Wx → chkI U.Γ cv it tg l = true → PI X tg l (TIv U n Wx it)
  | .seq a, tg, l, cv, X, Wx, h, tk, c => by
    simp only [chkI] at c
    exact i_seq h (snd_e W a l cv X Wx h tk c)
  | .rng as, tg, l, cv, X, Wx, h, tk, c => by
    simp only [chkI] at c
    split at c
    · split at c
      · simp only [Bool.and_eq_true, decide_eq_true_eq, List.isEmpty_iff] at c
        obtain ⟨⟨⟨⟨rfl, rfl⟩, c1⟩, c2⟩, c3⟩ := c
        have ha := snd_es W as _ cv X Wx h tk c3
        have ns := chkEs_ns c3
        have ln := chkEs_len c3
        rcases len123 c2 with ⟨a, rfl⟩ | ⟨a, b, rfl⟩ | ⟨a, b, d, rfl⟩
        · simp only [allNS, Bool.and_eq_true] at ns
          exact i_rng1 W h c1 ha (star_cons ns.1 [] X.env) ln
        · simp only [allNS, Bool.and_eq_true] at ns
          exact i_rng2 W h c1 ha (by rw [star_cons ns.1, star_cons ns.2.1]; rfl) (star_cons ns.2.1 [] X.env) ln
        · rw [allNS, Bool.and_eq_true] at ns
          exact i_rng3 W h c1 ha (star_cons ns.1 _ X.env) (stars_none _ X.env ns.2) ln
      · cases c
    · cases c
  | .zip as, tg, l, cv, X, Wx, h, tk, c => by
    simp only [chkI] at c
    split at c
    · split at c
      · simp only [Bool.and_eq_true, decide_eq_true_eq, List.isEmpty_iff] at c
        obtain ⟨⟨⟨⟨⟨c0, rfl⟩, rfl⟩, c1⟩, c2⟩, c3⟩ := c
        obtain ⟨ts, k, p, rfl⟩ := tupE c0
        have ha := snd_es W as _ cv X Wx h tk c3
        have ns := chkEs_ns c3
        have ln := chkEs_len c3
        rcases len23 c2 with ⟨a, b, rfl⟩ | ⟨a, b, d, rfl⟩
        · rw [allNS, Bool.and_eq_true] at ns
          exact i_zip2 W h c1 ha (star_cons ns.1 _ X.env) (stars_none _ X.env ns.2) ln
        · rw [allNS, Bool.and_eq_true] at ns
          exact i_zip3 W h c1 ha (star_cons ns.1 _ X.env) (stars_none _ X.env ns.2) ln
      · cases c
    · cases c
  | .enum as, tg, l, cv, X, Wx, h, tk, c => by
    simp only [chkI] at c
    split at c
    · split at c
      · simp only [Bool.and_eq_true, decide_eq_true_eq, List.isEmpty_iff] at c
        obtain ⟨⟨⟨⟨⟨c0, rfl⟩, rfl⟩, c1⟩, c2⟩, c3⟩ := c
        obtain ⟨ts, k, p, rfl⟩ := tupE c0
        have ha := snd_es W as _ cv X Wx h tk c3
        have ns := chkEs_ns c3
        obtain ⟨a, rfl⟩ := len1 c2
        simp only [allNS, Bool.and_eq_true] at ns
        exact i_enum W h c1 ha (star_cons ns.1 [] X.env)
      · cases c
    · cases c
  | .enz as, tg, l, cv, X, Wx, h, tk, c => by
    simp only [chkI] at c
    split at c
    · split at c
      · split at c
        · split at c
          · simp only [Bool.and_eq_true, decide_eq_true_eq, List.isEmpty_iff] at c
            obtain ⟨⟨⟨⟨⟨⟨⟨⟨c0, rfl⟩, rfl⟩, c1⟩, rfl⟩, rfl⟩, c2⟩, c3⟩, c4⟩ := c
            obtain ⟨ts, k, p, rfl⟩ := tupE c0
            have ha := snd_es W as _ cv X Wx h tk c4
            have ns := chkEs_ns c4
            obtain ⟨a, b, rfl⟩ := len2 c3
            rw [allNS, Bool.and_eq_true] at ns
            exact i_enz W h c1 c2 ha (star_cons ns.1 _ X.env) (stars_none _ X.env ns.2)
          · cases c
        · cases c
      · cases c
    · cases c
end
end
end EV

namespace EV
open PySem PySem.Spec PyProof.Rows L2
/-! ### does a text match a statement -/
def kindF (sc : Scope) : Bool := match sc.kind with
  | .function => true
  | _ => false
theorem kind_of {sc : Scope} (h : kindF sc = true) : sc.kind = .function := by
  unfold kindF at h
  split at h
  · assumption
  · cases h
/-- name = [..] with the store inside the comprehension -/
def lcNow (cv : Cv) (x : Str) (px : Pos) : Expr → Bool
  | .ListComp _ _ scope pos => kindF cv.sc && isLocal (cv.sc.names.lookup x) && (px.line == pos.line) && !(scope.names.any fun (n, k) => n == x && (k == .local || k == .cell))
  | _ => false
def lcNot (cv : Cv) (x : Str) : Expr → Bool
  | .ListComp _ _ _ _ => isCell (cv.sc.names.lookup x)
  | l => notLc l
/-- a, b = c, d: the stores swapped -/
def parB (cv : Cv) (i j : Nat) (x y : Str) (px py : Pos) (a b : Expr) : Bool :=
  kindF cv.sc && decide (cv.N[i]? = some x) && decide (cv.N[j]? = some y) && isLocal (cv.sc.names.lookup x) && isLocal (cv.sc.names.lookup y) && (py.line == px.line) && !(x == y) && !(y == x) && decide (i ≠ j) && notStar a && notStar b &&
    !(foldedForSure 8 a && foldedForSure 8 b) && !(constantsAlone 8 a && constantsAlone 8 b)
/-- a, b, c = d, e, f -/
def parB3 (cv : Cv) (i j m : Nat) (x y z : Str) (px py pz : Pos) (a b c : Expr) : Bool :=
  kindF cv.sc && decide (cv.N[i]? = some x) && decide (cv.N[j]? = some y) && decide (cv.N[m]? = some z) && isLocal (cv.sc.names.lookup x) && isLocal (cv.sc.names.lookup y) && isLocal (cv.sc.names.lookup z) && (py.line == px.line) && (pz.line == px.line) && decide ([x, y, z].eraseDups = [x, y, z]) && decide (i ≠ j) && decide (i ≠ m) && decide (j ≠ m) && notStar a && notStar b && notStar c &&
    !([a, b, c].all (foldedForSure 8)) && !([a, b, c].all (constantsAlone 8))
/-- a name of several is seen from within -/
def parC (cv : Cv) (ts : List (Nat × Str)) (es : List Expr) : Bool :=
  ts.all (fun t => stB cv t.1 t.2) && (ts.any (fun t => isCell (cv.sc.names.lookup t.2)) || es.all (foldedForSure 8)) && decide (ts.map (·.1)).Nodup && es.all notStar
mutual
def chkS (Γ : Gam) (cv : Cv) : Sm → Stmt → Bool
  | .set i e, st => match st with
    | .Assign ts l _ => match ts with
      | [t] => match t with
        | .Name x px => stB cv i x && !cv.io.contains i && chkE Γ cv e l && (lcNot cv x l || lcNow cv x px l)
        | _ => false
      | _ => false
    | _ => false
  | .seto i e, st => match st with
    | .Assign ts l _ => match ts with
      | [t] => match t with
        | .Name x px => stB cv i x && !cv.io.contains i && chkE Γ cv e l && (lcNot cv x l || lcNow cv x px l)
        | _ => false
      | _ => false
    | _ => false
  | .unp tg e, st => match st with
    | .Assign ts l _ => match ts with
      | [t] => isTupE t && chkT cv tg t && tg.sl.all (fun i => !cv.io.contains i) && chkE Γ cv e l && notLc l && notTup l
      | _ => false
    | _ => false
  | .par i j a b, st => match st with
    | .Assign ts l _ => match ts, l with
      | [.Tuple [.Name x px, .Name y py] _ _], .Tuple [la, lb] _ _ => parB cv i j x y px py la lb && !cv.io.contains i && !cv.io.contains j && chkE Γ cv a la && chkE Γ cv b lb
      | _, _ => false
    | _ => false
  | .parn ts as, st => match st with
    | .Assign us l _ => match us, l, ts, as with
      | [.Tuple [.Name x px, .Name y py] _ _], .Tuple [la, lb] _ _, [(i, _), (j, _)], .cons a (.cons b .nil) => (parB cv i j x y px py la lb || parC cv [(i, x), (j, y)] [la, lb]) && !cv.io.contains i && !cv.io.contains j && chkE Γ cv a la && chkE Γ cv b lb
      | [.Tuple [.Name x px, .Name y py, .Name z pz] _ _], .Tuple [la, lb, lc] _ _, [(i, _), (j, _), (m, _)], .cons a (.cons b (.cons c .nil)) => (parB3 cv i j m x y z px py pz la lb lc || parC cv [(i, x), (j, y), (m, z)] [la, lb, lc]) && !cv.io.contains i && !cv.io.contains j && !cv.io.contains m && chkE Γ cv a la && chkE Γ cv b lb && chkE Γ cv c lc
      | _, _, _, _ => false
    | _ => false
  | .ext i e, st => match st with
    | .Expr l _ => match l with
      | .Call g es ks pc => match g, es with
        | .Attribute (.Name x _) m pa, [l] => ks.isEmpty && decide (m = Str.ofString "extend") && (pa.endLine == pc.line) && slB cv i x && notStar l && chkE Γ cv e l
        | _, _ => false
      | _ => false
    | _ => false
  | .aug i op e, st => match st with
    | .AugAssign t o l _ => match t, op, o with
      | .Name x _, .add, .Add => stB cv i x && !cv.io.contains i && chkE Γ cv e l
      | .Name x _, .sub, .Sub => stB cv i x && !cv.io.contains i && chkE Γ cv e l
      | _, _, _ => false
    | _ => false
  | .app i e, st => match st with
    | .Expr l _ => match l with
      | .Call g es ks pc => match g, es with
        | .Attribute (.Name x _) m pa, [l] => ks.isEmpty && decide (m = Str.ofString "append") && (pa.endLine == pc.line) && slB cv i x && notStar l && chkE Γ cv e l
        | _, _ => false
      | _ => false
    | _ => false
  | .seti i ix e, st => match st with
    | .Assign ts l _ => match ts with
      | [.Subscript (.Name x _) lx _] => slB cv i x && notSlice lx && chkE Γ cv ix lx && chkE Γ cv e l && notLc l
      | _ => false
    | _ => false
  | .iff c a b, st => match st with
    | .If t p q _ => chkE Γ cv c t && chkSs Γ cv a p && chkSs Γ cv b q
    | _ => false
  | .forr tg it b, st => match st with
    | .For t l p q _ => q.isEmpty && chkT cv tg t && tg.sl.all (fun i => !cv.io.contains i) && notSet l && chkI Γ cv it t l && chkSs Γ cv b p
    | _ => false
  | .whl c b, st => match st with
    | .While t p q _ => q.isEmpty && chkE Γ cv c t && chkSs Γ cv b p
    | _ => false
  | .ret e, st => match st with
    | .Return o _ => match o with
      | some l => chkE Γ cv e l
      | none => false
    | _ => false
  | .retn, st => match st with
    | .Return o _ => o.isNone
    | _ => false
  | .ex e, st => match st with
    | .Expr l _ => chkE Γ cv e l && notLc l
    | _ => false
  | .pass, st => match st with
    | .Pass _ => true
    | .Expr (.Constant (.str _) _ _) _ => true
    | _ => false
  | .cont, st => match st with
    | .Continue _ => true
    | _ => false
  | .raise _, _ => false
  | .nev, _ => true
def chkSs (Γ : Gam) (cv : Cv) : Sms → List Stmt → Bool
  | .nil, sts => sts.isEmpty
  | .cons a as, sts => match sts with
    | st :: rest => chkS Γ cv a st && chkSs Γ cv as rest
    | [] => false
end
section
variable {U : Wd} {n : Nat} {cv : Cv} {X : Cx} {Wx : WX}
theorem sw_no (h : Fit U n cv X) {x : Str} {px : Pos} {l : Expr} {k : Nat} (c : lcNot cv x l = true) : swapsWith l (some (.Name x px)) k X.env = pure false := by
  cases l with
  | ListComp el gens scope pos =>
    have ky : X.env.kindOf x = some .cell := by
      show X.env.scope.names.lookup x = _
      rw [h.sc]
      exact cell_some c
    have kb : (some NameKind.cell == some NameKind.local) = false := by decide
    show (pure (X.env.blockKind == .function && X.env.kindOf x == some .local && px.line == pos.line && !(scope.names.any fun (n, k) => n == x && (k == .local || k == .cell))) : Sem Bool) = pure false
    rw [ky, kb, Bool.and_false, Bool.false_and, Bool.false_and]
  | _ => first
      | exact sw_not rfl _ _ _
      | cases c
theorem sw_yes (h : Fit U n cv X) {x : Str} {px pos : Pos} {el : Expr} {gens : List Comprehension} {scope : Scope} {k : Nat} (c : lcNow cv x px (.ListComp el gens scope pos) = true) :
    X.env.scope.names.lookup x = some .local ∧ swapsWith (.ListComp el gens scope pos) (some (.Name x px)) k X.env = pure true := by
  simp only [lcNow, Bool.and_eq_true, Bool.not_eq_true'] at c
  obtain ⟨⟨⟨c1, c2⟩, c3⟩, c4⟩ := c
  have hl : X.env.scope.names.lookup x = some .local := by rw [h.sc]; exact loc_some c2
  exact ⟨hl, sw_true (by rw [h.sc]; exact kind_of c1) hl c3 c4⟩
theorem as_lc (W : U.Ok n) (h : Fit U n cv X) (tk : Takes X Wx) {e : Ex} {l : Expr} {i : Nat} {x : Str} {px pos : Pos} (hi : cv.N[i]? = some x) (c : chkE U.Γ cv e l = true) (c2 : lcNow cv x px l = true) : PS X (.Assign [.Name x px] l pos) (tAsg (TEv U n Wx e) (gName i)) := by
  cases l with
  | ListComp el gens scope lpos =>
    obtain ⟨hyl, hsw⟩ := sw_yes (k := pos.line) h c2
    cases e with
    | nev => exact PS.imp ps_never fun D σ H ⟨s0, M, B, f, q⟩ => by simp only [evE] at q; exact q.elim
    | comp elt tg it own ifs =>
      simp only [chkE] at c
      split at c
      · rename_i tge ite ts asy
        simp only [Bool.and_eq_true, beq_iff_eq, List.all_eq_true, List.contains_eq_mem, decide_eq_true_eq] at c
        obtain ⟨⟨⟨⟨⟨⟨⟨⟨rfl, k1⟩, k2⟩, k3⟩, k4⟩, k5⟩, k6⟩, k7⟩, k8⟩ := c
        have ok := blk_p h k2
        have ow := ownP_snd cv own
        refine PS.imp (ps_setLc (own := ownP cv own) h.calm h.nd (by rw [h.N]; exact hi) hyl hsw (snd_i W it tge ite cv X Wx h tk k4) ok.ok (fun s H C cl fp => snd_t tg tge _ _ (ok.fit s H C cl fp) k5) (tt := TIfs U n W0 ifs) (fun s H C cl fp => ?_)
          (fun s H C cl fp => snd_e W elt el _ _ W0 (ok.fit s H C cl fp) takesW0 k8) (set_plain' k3 X.env)) fun D σ H q => lc_read h (by rw [← ow]; exact k1) (by rw [← ow]; exact q)
        have h' := ok.fit s H C cl fp
        cases ifs with
        | nil =>
          have e := chkEs_len k6
          cases ts with
          | nil => exact if0
          | cons _ _ => cases e
        | cons a as =>
          have e := chkEs_len k6
          cases ts with
          | nil => cases e
          | cons t ts =>
            cases ts with
            | cons _ _ => simp at k7
            | nil =>
              cases as with
              | cons _ _ => cases e
              | nil =>
                simp only [chkEs, Bool.and_eq_true] at k6
                exact if1 (snd_tt W a t _ _ W0 h' takesW0 k6.1.2)
      · cases c
    | comp2 elt tg it tg2 it2 own vs2 =>
      simp only [chkE] at c
      split at c
      · rename_i tge ite ts asy tge2 ite2 ts2 asy2
        simp only [Bool.and_eq_true, beq_iff_eq, List.all_eq_true, List.contains_eq_mem, decide_eq_true_eq, List.isEmpty_iff] at c
        obtain ⟨⟨⟨⟨⟨⟨⟨⟨⟨⟨⟨⟨⟨⟨rfl, rfl⟩, rfl⟩, rfl⟩, k1⟩, k2⟩, k3⟩, k4⟩, k5⟩, k6⟩, k7⟩, k8⟩, k9⟩, k10⟩, k11⟩ := c
        have ok := blk_p h k4
        have ow := ownP_snd cv own
        exact PS.imp (ps_setLc2 (own := ownP cv own) (vs1 := vs2) h.calm h.nd (by rw [h.N]; exact hi) hyl hsw (snd_i W it tge ite cv X Wx h tk k7) ok.ok (by rw [← ow]; exact k3) (fun s H C cl fp => snd_t tg tge _ _ (ok.fit s H C cl fp) k8) (fun s H C cl fp => pts_nil) (fun s H C cl fp => snd_i W it2 tge2 ite2 _ _ W0 (ok.fit s H C cl fp) takesW0 k9)
          (fun s H C cl fp => snd_t tg2 tge2 _ _ (ok.fit s H C cl fp) k10) (fun s H C cl fp => pts_nil) (fun s H C cl fp => snd_e W elt el _ _ W0 (ok.fit s H C cl fp) takesW0 k11) (set_plain' k5 X.env) (fun env x => set_plain' k6 env x)) fun D σ H q => lc2_read h (by rw [← ow]; exact k1) k2 (by rw [← ow]; exact k3) (by rw [← ow]; exact q)
      · cases c
    | _ => simp [chkE] at c
  | _ => cases c2
theorem as_any (W : U.Ok n) (h : Fit U n cv X) (tk : Takes X Wx) {e : Ex} {l : Expr} {i : Nat} {x : Str} {px pos : Pos} (c0 : stB cv i x = true) (c : chkE U.Γ cv e l = true) (c2 : (lcNot cv x l || lcNow cv x px l) = true) : PS X (.Assign [.Name x px] l pos) (tAsg (TEv U n Wx e) (gName i)) := by
  rw [Bool.or_eq_true] at c2
  rcases c2 with c2 | c2
  · exact as_name h c0 (snd_e W e l cv X Wx h tk c) (sw_no h c2)
  · unfold stB at c0
    simp only [Bool.and_eq_true, decide_eq_true_eq] at c0
    exact as_lc W h tk c0.1 c c2
theorem sole_not {l t : Expr} (h : notLc l = true) (k : Nat) (env : Env) : swapsWithSole [t] l k env = pure false := (show swapsWithSole [t] l k env = swapsWith l (some t) k env from rfl).trans (sw_not h _ _ _)
theorem tup_no {l : Expr} (h : notTup l = true) (ts : List Expr) (k : Nat) (p : Pos) (env : Env) : swappedStores [.Tuple ts k p] l env = pure none := by
  cases l <;> first
    | rfl
    | cases h
theorem sub_no (o i l : Expr) (p : Pos) (env : Env) : swappedStores [.Subscript o i p] l env = pure none := by rfl
theorem sub_as {x : Str} {px pt : Pos} {lx : Expr} (h : notSlice lx = true) (env : Env) (v : Value) : assign (.Subscript (.Name x px) lx pt) env v = (do
      let ov ← holding [v] (eval (.Name x px) env)
      let iv ← holding [v, ov] (eval lx env)
      standAt pt
      holding [v, ov, iv] (setItem ov iv v)
      release [v, ov, iv] []) := by
  cases lx <;> first
    | rfl
    | cases h
theorem par_yes {env : Env} {x y : Str} {px py pt pt2 : Pos} {kt k2 : Nat} {a b : Expr} (hk : env.scope.kind = .function) (hx : env.scope.names.lookup x = some .local) (hy : env.scope.names.lookup y = some .local) (hl : (py.line == px.line) = true) (h1 : (x == y) = false) (h2 : (y == x) = false)
    (ha : notStar a = true) (hb : notStar b = true) (hf : (foldedForSure 8 a && foldedForSure 8 b) = false) (hc : (constantsAlone 8 a && constantsAlone 8 b) = false) :
    swappedStores [.Tuple [.Name x px, .Name y py] kt pt] (.Tuple [a, b] k2 pt2) env = pure (some [x, y]) := by
  have kx : env.kindOf x = some .local := hx
  have ky : env.kindOf y = some .local := hy
  have hbk : env.blockKind = .function := by unfold Env.blockKind; rw [hk]; rfl
  have st : ([a, b].any fun | .Starred .. => true | _ => false) = false := by
    cases a <;> first
      | (cases ha; done)
      | (cases b <;> first
          | (cases hb; done)
          | rfl)
  have f1 : [a, b].all (foldedForSure 8) = false := by simpa using hf
  have f2 : [a, b].all (constantsAlone 8) = false := by simpa using hc
  have ll : (px.line == px.line) = true := beq_self_eq_true _
  have kk : (some NameKind.local == some NameKind.local) = true := by decide
  have er : [x, y].eraseDups = [x, y] := by simp [List.eraseDups_cons, h1, h2]
  unfold swappedStores
  simp only [hbk, st, f1, f2, kx, ky, hl, ll, kk, List.filterMap_cons, List.filterMap_nil, List.head?_cons, Option.map_some, Option.getD_some, Expr.pos, List.length_cons, List.length_nil, Bool.and_self, if_true, er]
  refine (if_neg (by decide)).trans ?_
  refine (if_neg (fun z => ?_)).trans rfl
  exact Bool.false_ne_true (st.symm.trans z)
end
/-- the stores are not swapped where a name is seen from within -/
theorem sw_none {env : Env} (ns : List (Str × Pos)) (es : List Expr) (kt k2 : Nat) (pt pt2 : Pos) (hx : ∃ y ∈ ns, env.kindOf y.1 ≠ some .local) : swappedStores [.Tuple (ns.map fun y => .Name y.1 y.2) kt pt] (.Tuple es k2 pt2) env = pure none := by
  have key : ∀ line : Nat, ((ns.map fun y => Expr.Name y.1 y.2).filterMap fun
    | .Name id pos => if env.kindOf id == some .local && pos.line == line then some id else none
    | _ => none).length < ns.length := by
    intro line
    obtain ⟨y, hy, hk⟩ := hx
    rw [List.filterMap_map]
    induction ns with
    | nil => cases hy
    | cons z ns ih =>
      have le : ∀ ns : List (Str × Pos), (ns.filterMap ((fun | Expr.Name id pos => if env.kindOf id == some .local && pos.line == line then some id else none | _ => none) ∘ fun y => Expr.Name y.1 y.2)).length ≤ ns.length := fun ns => List.length_filterMap_le _ _
      rw [List.filterMap_cons, List.length_cons]
      rcases List.mem_cons.mp hy with rfl | hy
      · have e : ((fun | Expr.Name id pos => if env.kindOf id == some .local && pos.line == line then some id else none | _ => none) ∘ fun y : Str × Pos => Expr.Name y.1 y.2) y = none := by
          simp only [Function.comp]
          rw [if_neg]
          simp [hk]
        rw [e]
        exact Nat.lt_succ_of_le (le ns)
      · have := ih hy
        split
        · omega
        · rw [List.length_cons]; omega
  unfold swappedStores
  simp only
  have k0 := key (((ns.map fun y => Expr.Name y.1 y.2).head?.map (·.pos.line)).getD 0)
  split
  · rfl
  · split
    · rfl
    · refine (if_pos ?_).trans rfl
      rw [Bool.or_eq_true]
      left
      rw [bne_iff_ne, List.length_map]
      exact Nat.ne_of_lt k0
theorem par_yes3 {env : Env} {x y z : Str} {px py pz pt pt2 : Pos} {kt k2 : Nat} {a b c : Expr} (hk : env.scope.kind = .function) (hx : env.scope.names.lookup x = some .local) (hy : env.scope.names.lookup y = some .local) (hz : env.scope.names.lookup z = some .local) (hl : (py.line == px.line) = true) (hl2 : (pz.line == px.line) = true) (er : [x, y, z].eraseDups = [x, y, z])
    (ha : notStar a = true) (hb : notStar b = true) (hcs : notStar c = true) (f1 : [a, b, c].all (foldedForSure 8) = false) (f2 : [a, b, c].all (constantsAlone 8) = false) :
    swappedStores [.Tuple [.Name x px, .Name y py, .Name z pz] kt pt] (.Tuple [a, b, c] k2 pt2) env = pure (some [x, y, z]) := by
  have kx : env.kindOf x = some .local := hx
  have ky : env.kindOf y = some .local := hy
  have kz : env.kindOf z = some .local := hz
  have hbk : env.blockKind = .function := by unfold Env.blockKind; rw [hk]; rfl
  have st1 : ∀ {q : Expr}, notStar q = true → (match q with | .Starred .. => true | _ => false) = false := fun {q} hq => by
    cases q <;> first
      | rfl
      | cases hq
  have st : ([a, b, c].any fun | .Starred .. => true | _ => false) = false := by
    rw [List.any_cons, List.any_cons, List.any_cons, List.any_nil, st1 ha, st1 hb, st1 hcs]
    rfl
  have ll : (px.line == px.line) = true := beq_self_eq_true _
  have kk : (some NameKind.local == some NameKind.local) = true := by decide
  unfold swappedStores
  simp only [hbk, st, f1, f2, kx, ky, kz, hl, hl2, ll, kk, List.filterMap_cons, List.filterMap_nil, List.head?_cons, Option.map_some, Option.getD_some, Expr.pos, List.length_cons, List.length_nil, Bool.and_self, if_true, er]
  refine (if_neg (by decide)).trans ?_
  refine (if_neg (fun z => ?_)).trans rfl
  exact Bool.false_ne_true (st.symm.trans z)
theorem par_no {U : Wd} {n : Nat} {cv : Cv} {X : Cx} (h : Fit U n cv X) {ts : List (Nat × Str)} {us es : List Expr} {kt k2 : Nat} {pt pt2 : Pos} {ps : List Pos} (e : us = (ts.zip ps).map fun y => Expr.Name y.1.2 y.2) (c : (ts.any fun t => isCell (cv.sc.names.lookup t.2)) = true) (hl : ts.length ≤ ps.length := by simp) : swappedStores [.Tuple us kt pt] (.Tuple es k2 pt2) X.env = pure none := by
  have := sw_none (env := X.env) ((ts.zip ps).map fun y => (y.1.2, y.2)) es kt k2 pt pt2 (by
    obtain ⟨t, ht, hc⟩ := List.any_eq_true.mp c
    obtain ⟨j, hj⟩ := List.mem_iff_getElem?.mp ht
    have h1 := (List.getElem?_eq_some_iff.mp hj).1
    refine ⟨(t.2, ps[j]'(by omega)), List.mem_map.mpr ⟨(t, ps[j]'(by omega)), List.mem_iff_getElem?.mpr ⟨j, List.getElem?_zip_eq_some.mpr ⟨hj, List.getElem?_eq_getElem _⟩⟩, rfl⟩, ?_⟩
    show X.env.scope.names.lookup t.2 ≠ _
    rw [h.sc, cell_some hc]
    decide)
  rw [List.map_map] at this
  rw [e]
  exact this
theorem sw_fold {env : Env} {us es : List Expr} {kt k2 : Nat} {pt pt2 : Pos} (hf : es.all (foldedForSure 8) = true) : swappedStores [.Tuple us kt pt] (.Tuple es k2 pt2) env = pure none := by
  unfold swappedStores
  simp only
  split
  · rfl
  · split
    · rfl
    · split
      · rfl
      · first
          | rfl
          | (rw [if_pos hf]; rfl)
theorem par_no2 {U : Wd} {n : Nat} {cv : Cv} {X : Cx} (h : Fit U n cv X) {ts : List (Nat × Str)} {us es : List Expr} {kt k2 : Nat} {pt pt2 : Pos} {ps : List Pos} (e : us = (ts.zip ps).map fun y => Expr.Name y.1.2 y.2) (c : (ts.any (fun t => isCell (cv.sc.names.lookup t.2)) || es.all (foldedForSure 8)) = true) (hl : ts.length ≤ ps.length := by simp) : swappedStores [.Tuple us kt pt] (.Tuple es k2 pt2) X.env = pure none := by
  rw [Bool.or_eq_true] at c
  rcases c with c | c
  · exact par_no h e c hl
  · exact sw_fold c
section
variable {U : Wd} {n : Nat} {Wx : WX}
set_option maxHeartbeats 0 in
mutual
theorem snd_s (W : U.Ok n) {cv : Cv} {X : Cx} (h : Fit U n cv X) (tk : Takes X Wx) (hp : PassesOwn (model X.prog X.w) X.A X.env X.xe) : ∀ (a : Sm) (st : Stmt), chkS U.Γ cv a st = true → PS X st (TSv U n Wx cv.io a)
  | .set i e, st, c => by
    simp only [chkS] at c
    split at c
    · split at c
      · split at c
        · simp only [Bool.and_eq_true, Bool.not_eq_true', List.contains_eq_mem, decide_eq_false_iff_not] at c
          exact st_set c.1.1.2 (as_any W h tk c.1.1.1 c.1.2 c.2)
        · cases c
      · cases c
    · cases c
  | .seto i e, st, c => by
    simp only [chkS] at c
    split at c
    · split at c
      · split at c
        · simp only [Bool.and_eq_true, Bool.not_eq_true', List.contains_eq_mem, decide_eq_false_iff_not] at c
          exact st_seto c.1.1.2 (as_any W h tk c.1.1.1 c.1.2 c.2)
        · cases c
      · cases c
    · cases c
  | .unp tg e, st, c => by
    simp only [chkS] at c
    split at c
    · split at c
      · simp only [Bool.and_eq_true, List.all_eq_true, Bool.not_eq_true', List.contains_eq_mem, decide_eq_false_iff_not] at c
        obtain ⟨⟨⟨⟨⟨c1, c2⟩, c3⟩, c4⟩, c5⟩, c6⟩ := c
        obtain ⟨es, k, p, rfl⟩ := tupE c1
        exact st_unp c3 (snd_e W e _ cv X Wx h tk c4) (snd_t tg _ cv X h c2) (sole_not c5 _ _) (tup_no c6 es k p X.env) rfl
      · cases c
    · cases c
  | .par i j a b, st, c => by
    simp only [chkS] at c
    split at c
    · split at c
      · simp only [Bool.and_eq_true, Bool.not_eq_true', List.contains_eq_mem, decide_eq_false_iff_not, parB, decide_eq_true_eq] at c
        obtain ⟨⟨⟨⟨⟨⟨⟨⟨⟨⟨⟨⟨⟨⟨⟨⟨k1, k2⟩, k3⟩, k4⟩, k5⟩, k6⟩, k7⟩, k8⟩, k9⟩, k10⟩, k11⟩, k12⟩, k13⟩, c2⟩, c3⟩, c4⟩, c5⟩ := c
        refine st_par h c2 c3 k9 k2 k3 (loc_some k4) (loc_some k5) (s_pa1 (star_cons k10 _ X.env) (snd_e W a _ cv X Wx h tk c4) (s_pa1 (star_cons k11 _ X.env) (snd_e W b _ cv X Wx h tk c5) s_pa0)) (par_yes (by rw [h.sc]; exact kind_of k1) (by rw [h.sc]; exact loc_some k4) (by rw [h.sc]; exact loc_some k5) k6 k7 k8 k10 k11 k12 k13) rfl
      · cases c
    · cases c
  | .parn ts as, st, c => by
    simp only [chkS] at c
    split at c
    · split at c
      · simp only [Bool.and_eq_true, Bool.or_eq_true, Bool.not_eq_true', List.contains_eq_mem, decide_eq_false_iff_not] at c
        obtain ⟨⟨⟨⟨c1, c2⟩, c3⟩, c4⟩, c5⟩ := c
        rcases c1 with c1 | c1
        · simp only [parB, Bool.and_eq_true, Bool.not_eq_true', decide_eq_true_eq] at c1
          obtain ⟨⟨⟨⟨⟨⟨⟨⟨⟨⟨⟨⟨k1, k2⟩, k3⟩, k4⟩, k5⟩, k6⟩, k7⟩, k8⟩, k9⟩, k10⟩, k11⟩, k12⟩, k13⟩ := c1
          exact st_parn2 h c2 c3 k9 k2 k3 (loc_some k4) (loc_some k5) (pa_cons (snd_e W _ _ cv X Wx h tk c4) (pa_cons (snd_e W _ _ cv X Wx h tk c5) pa_nil (star_cons k11 _ X.env)) (star_cons k10 _ X.env)) (par_yes (by rw [h.sc]; exact kind_of k1) (by rw [h.sc]; exact loc_some k4) (by rw [h.sc]; exact loc_some k5) k6 k7 k8 k10 k11 k12 k13) rfl
        · unfold parC at c1
          rw [Bool.and_eq_true, Bool.and_eq_true, Bool.and_eq_true] at c1
          obtain ⟨⟨⟨a12, a3⟩, a4⟩, a56⟩ := c1
          simp only [List.all_cons, List.all_nil, Bool.and_eq_true, Bool.and_true, decide_eq_true_eq, List.map_cons, List.map_nil] at a12 a4 a56
          obtain ⟨a1, a2⟩ := a12
          obtain ⟨a5, a6⟩ := a56
          refine st_parnC2 h c2 c3 (by simp at a4; exact a4) a1 a2 (pa_cons (snd_e W _ _ cv X Wx h tk c4) (pa_cons (snd_e W _ _ cv X Wx h tk c5) pa_nil (star_cons a6 _ X.env)) (star_cons a5 _ X.env)) (par_no2 h (ts := [(_, _), (_, _)]) (ps := [_, _]) rfl a3) rfl
      · simp only [Bool.and_eq_true, Bool.or_eq_true, Bool.not_eq_true', List.contains_eq_mem, decide_eq_false_iff_not] at c
        obtain ⟨⟨⟨⟨⟨⟨c1, c2⟩, c3⟩, c4⟩, c5⟩, c6⟩, c7⟩ := c
        rcases c1 with c1 | c1
        · simp only [parB3, Bool.and_eq_true, Bool.not_eq_true', decide_eq_true_eq] at c1
          obtain ⟨⟨⟨⟨⟨⟨⟨⟨⟨⟨⟨⟨⟨⟨⟨⟨⟨k1, k2⟩, k3⟩, k4⟩, k5⟩, k6⟩, k7⟩, k8⟩, k9⟩, k10⟩, k11⟩, k12⟩, k13⟩, k14⟩, k15⟩, k16⟩, k17⟩, k18⟩ := c1
          exact st_parn3 h c2 c3 c4 k11 k12 k13 k2 k3 k4 (loc_some k5) (loc_some k6) (loc_some k7) (pa_cons (snd_e W _ _ cv X Wx h tk c5) (pa_cons (snd_e W _ _ cv X Wx h tk c6) (pa_cons (snd_e W _ _ cv X Wx h tk c7) pa_nil (star_cons k16 _ X.env)) (star_cons k15 _ X.env)) (star_cons k14 _ X.env))
            (par_yes3 (by rw [h.sc]; exact kind_of k1) (by rw [h.sc]; exact loc_some k5) (by rw [h.sc]; exact loc_some k6) (by rw [h.sc]; exact loc_some k7) k8 k9 k10 k14 k15 k16 k17 k18) rfl
        · unfold parC at c1
          rw [Bool.and_eq_true, Bool.and_eq_true, Bool.and_eq_true] at c1
          obtain ⟨⟨⟨a12, a3⟩, a4⟩, a56⟩ := c1
          simp only [List.all_cons, List.all_nil, Bool.and_eq_true, Bool.and_true, decide_eq_true_eq, List.map_cons, List.map_nil] at a12 a4 a56
          obtain ⟨a1, a2, a0⟩ := a12
          obtain ⟨a5, a6, a7⟩ := a56
          simp at a4
          refine st_parnC3 h c2 c3 c4 a4.1.1 a4.1.2 a4.2 a1 a2 a0 (pa_cons (snd_e W _ _ cv X Wx h tk c5) (pa_cons (snd_e W _ _ cv X Wx h tk c6) (pa_cons (snd_e W _ _ cv X Wx h tk c7) pa_nil (star_cons a7 _ X.env)) (star_cons a6 _ X.env)) (star_cons a5 _ X.env)) (par_no2 h (ts := [(_, _), (_, _), (_, _)]) (ps := [_, _, _]) rfl a3) rfl
      · cases c
    · cases c
  | .ext i e, st, c => by
    simp only [chkS] at c
    split at c
    · split at c
      · split at c
        · simp only [Bool.and_eq_true, decide_eq_true_eq, List.isEmpty_iff] at c
          obtain ⟨⟨⟨⟨⟨rfl, rfl⟩, c1⟩, c2⟩, c3⟩, c4⟩ := c
          exact st_ext h c2 (snd_e W e _ cv X Wx h tk c4) c1 (star_cons c3 [] X.env) rfl
        · cases c
      · cases c
    · cases c
  | .aug i op e, st, c => by
    simp only [chkS] at c
    split at c
    · split at c
      · simp only [Bool.and_eq_true, Bool.not_eq_true', List.contains_eq_mem, decide_eq_false_iff_not] at c
        exact st_aug h (.inl ⟨rfl, rfl⟩) c.1.2 c.1.1 (snd_e W e _ cv X Wx h tk c.2)
      · simp only [Bool.and_eq_true, Bool.not_eq_true', List.contains_eq_mem, decide_eq_false_iff_not] at c
        exact st_aug h (.inr ⟨rfl, rfl⟩) c.1.2 c.1.1 (snd_e W e _ cv X Wx h tk c.2)
      · cases c
    · cases c
  | .app i e, st, c => by
    simp only [chkS] at c
    split at c
    · split at c
      · split at c
        · simp only [Bool.and_eq_true, decide_eq_true_eq, List.isEmpty_iff] at c
          obtain ⟨⟨⟨⟨⟨rfl, rfl⟩, c1⟩, c2⟩, c3⟩, c4⟩ := c
          exact st_app h c2 (snd_e W e _ cv X Wx h tk c4) c1 (star_cons c3 [] X.env) rfl
        · cases c
      · cases c
    · cases c
  | .seti i ix e, st, c => by
    simp only [chkS] at c
    split at c
    · split at c
      · simp only [Bool.and_eq_true] at c
        obtain ⟨⟨⟨⟨c1, c2⟩, c3⟩, c4⟩, c5⟩ := c
        exact st_seti h c1 (snd_e W e _ cv X Wx h tk c4) (snd_e W ix _ cv X Wx h tk c3) (sub_as c2 X.env) (sole_not c5 _ _) (sub_no _ _ _ _ _)
      · cases c
    · cases c
  | .iff t a b, st, c => by
    simp only [chkS] at c
    split at c
    · simp only [Bool.and_eq_true] at c
      exact st_iff h (snd_tt W t _ cv X Wx h tk c.1.1) (snd_ss W h tk hp a _ c.1.2) (snd_ss W h tk hp b _ c.2)
    · cases c
  | .forr tg it b, st, c => by
    simp only [chkS] at c
    split at c
    · simp only [Bool.and_eq_true, List.all_eq_true, Bool.not_eq_true', List.contains_eq_mem, decide_eq_false_iff_not, List.isEmpty_iff] at c
      obtain ⟨⟨⟨⟨⟨rfl, c1⟩, c2⟩, c3⟩, c4⟩, c5⟩ := c
      exact st_for h c2 hp (snd_i W it _ _ cv X Wx h tk c4) (snd_t tg _ cv X h c1) (snd_ss W h tk hp b _ c5) (set_plain' c3 X.env)
    · cases c
  | .whl t b, st, c => by
    simp only [chkS] at c
    split at c
    · simp only [Bool.and_eq_true, List.isEmpty_iff] at c
      obtain ⟨⟨rfl, c1⟩, c2⟩ := c
      exact st_whl h hp (snd_tt W t _ cv X Wx h tk c1) (snd_ss W h tk hp b _ c2)
    · cases c
  | .ret e, st, c => by
    simp only [chkS] at c
    split at c
    · split at c
      · exact st_ret (snd_e W e _ cv X Wx h tk c)
      · cases c
    · cases c
  | .retn, st, c => by
    simp only [chkS] at c
    split at c
    · simp only [Option.isNone_iff_eq_none] at c
      rw [c]
      exact st_retn
    · cases c
  | .ex e, st, c => by
    simp only [chkS] at c
    split at c
    · simp only [Bool.and_eq_true] at c
      exact st_ex (snd_e W e _ cv X Wx h tk c.1) (sw_not c.2 _ _ _)
    · cases c
  | .pass, st, c => by
    simp only [chkS] at c
    split at c
    · exact st_pass
    · exact st_doc
    · cases c
  | .cont, st, c => by
    simp only [chkS] at c
    split at c
    · exact st_cont
    · cases c
  | .raise k, st, c => by
    simp only [chkS] at c
    cases c
  | .nev, st, c => st_nev
theorem snd_ss (W : U.Ok n) {cv : Cv} {X : Cx} (h : Fit U n cv X) (tk : Takes X Wx) (hp : PassesOwn (model X.prog X.w) X.A X.env X.xe) : ∀ (a : Sms) (sts : List Stmt), chkSs U.Γ cv a sts = true → PSs X sts (TSsv U n Wx cv.io a)
  | .nil, sts, c => by
    simp only [chkSs] at c
    cases sts with
    | nil => exact ss_nil
    | cons _ _ => cases c
  | .cons a as, sts, c => by
    simp only [chkSs] at c
    cases sts with
    | nil => cases c
    | cons st rest =>
      simp only [Bool.and_eq_true] at c
      exact ss_cons (snd_s W h tk hp a st c.1) (snd_ss W h tk hp as rest c.2)
end
end
end EV

namespace EV
open PySem PySem.Spec PyProof.Rows L2
/-! ### defs -/
section
variable {P : Program} {w : World} {K : PySem.W.Frag} {mg : Str → Option Value} {base : Heap}
/-- a def by its body, guards told -/
theorem fnG_of {k : Nat} {f : Addr} {x q : Str} {st : Stmt} {fd : FuncData} {N ps : List Str} {sp : Sp} (F : Fun K x q st f fd) (S : FnScope N ps (defScope st)) (len : ∀ vs H Q E, sp vs H Q E → vs.length = ps.length)
    (body : ∀ (X : Cx) (H : Hp) (vs : List V) (Q : VK) (E : XK), X.prog = P → X.w = w → X.K = K → X.mg = mg → X.base = base → X.N = N → X.env.scope = defScope st → (∀ y, X.fn y = true) → X.calm = true → Room k X.A → X.A.guards = some [] →
      Takes X (fun c d _ H' => E c d H') → PassesOwn (model X.prog X.w) X.A X.env X.xe → sp vs H Q E → ∃ t, PSs X (defBody st) t ∧ t { nx := fun _ H' => Q .non H', rt := Q } (L2.start N vs) H) : FnG P w K mg base (k + 1) f fd ps sp := by
  obtain ⟨oc, od, kV, doc, pm, an, cdv, ct, osl, rfl, lk, hcd⟩ := F.ex
  constructor
  · exact len
  intro A outer s H ar us vs Q E room gu e0 bnd rv hsp
  have lenV := len vs H Q E hsp
  have kept : ∀ b o, base.get? b = some o → s.heap.get? b = some o := fun b o e => (e0.bs b o e).1
  have inK := e0.mod.kin.keeps kept
  have nl := e0.mod.nolimit.keeps kept
  have kinds : ∀ y ∈ ps.zip us, (defScope st).names.lookup y.1 = some .local ∨ ((defScope st).names.lookup y.1 = some .cell ∧ ((cellsFrom (s.heap.objs.size + 1) (defScope st).names []).lookup y.1).isSome = true) := by
    rintro ⟨y, u⟩ hy
    exact (S.par y (List.of_mem_zip hy).1).imp id fun c => ⟨c, PySem.W.cellsFrom_some _ _ _ (.inl c)⟩
  refine codeAny_call_function room.depth (inK _ _ lk) rfl S.co S.gen rfl (PySem.W.codeRec_of inK hcd) (bnd _ _ _ _ (wpAny_newFunctionEnv_cells S.kind kinds fun env he s1 got => ?_))
  subst he
  refine ⟨nl.keeps got.toInCall.keep, codeAny_func ?_⟩
  generalize hX : cxOf (L2.CX P w) P w K mg base N q (defScope st) f cdv A outer s H E = X
  have tk : Takes X (fun c d _ H' => E c d H') := by subst hX; exact takes_of rfl rfl rfl rfl
  have ps' : PassesOwn (model X.prog X.w) X.A X.env X.xe := by subst hX; exact passes_of rfl
  obtain ⟨t, h1, h2⟩ := body X H vs Q E (by subst hX; rfl) (by subst hX; rfl) (by subst hX; rfl) (by subst hX; rfl) (by subst hX; rfl) (by subst hX; rfl) (by subst hX; rfl) (by subst hX; intro y; rfl) (by subst hX; rfl) (by subst hX; exact room.deeper _) (by subst hX; exact gu) tk ps' hsp
  have I : Inv X [] (L2.start N vs) H s1 := by subst hX; exact inv_start S room.hd e0 lenV rv got
  subst hX
  refine wpAny_mono (h1.run [] s1 _ H _ I h2) (fun fl s2 he => ?_) fun e s2 he => he
  cases fl with
  | next =>
    obtain ⟨σ2, H2, J, qq⟩ := he
    exact ⟨V.non, H2, J.os, J.bare, J.base, J.hok, rfl, qq⟩
  | ret u =>
    obtain ⟨v, σ2, H2, J, rr, qq⟩ := he
    exact ⟨v, H2, J.os, J.bare, J.base, J.hok, rr, qq⟩
  | brk =>
    obtain ⟨_, _, _, qq⟩ := he
    exact qq.elim
  | cont =>
    obtain ⟨_, _, _, qq⟩ := he
    exact qq.elim
end
/-- the names of a def -/
def scB (N ps : List Str) (sc : Scope) : Bool :=
  kindF sc && !sc.isCoroutine && !sc.isGenerator && decide N.Nodup && decide (N.take ps.length = ps) && ps.all (fun x => isLocal (sc.names.lookup x) || isCell (sc.names.lookup x)) && sc.names.all (fun y => !isFree (some y.2))
theorem scope_of {N ps : List Str} {sc : Scope} (h : scB N ps sc = true) : FnScope N ps sc := by
  simp only [scB, Bool.and_eq_true, Bool.not_eq_true', decide_eq_true_eq, List.all_eq_true, Bool.or_eq_true] at h
  obtain ⟨⟨⟨⟨⟨⟨h1, h2⟩, h3⟩, h4⟩, h5⟩, h6⟩, h7⟩ := h
  refine ⟨kind_of h1, h2, h3, h4, h5, fun x hx => (h6 x hx).imp loc_some cell_some, fun y hy e => ?_⟩
  have := h7 y hy
  rw [e] at this
  cases this
def chkFn (Γ : Gam) (N ps : List Str) (fn : Fn) (st : Stmt) : Bool :=
  scB N ps (defScope st) && decide (fn.np = ps.length) && decide (fn.ns = N.length) && chkSs Γ { N := N, sc := defScope st, st := fun _ => true, io := fn.io } fn.body (defBody st)
/-- what stands behind the top, once and for all -/
structure Static (U : Wd) : Prop where
  fn : ∀ (f : Nat) (x : Str), U.Γ.fnm[f]? = some x → ∃ (a : Addr) (fd : FuncData) (ps N : List Str) (st : Stmt) (fn : Fn), U.Γ.fps[f]? = some ps ∧ U.Γ.F[f]? = some fn ∧ Fun U.K x x st a fd ∧ U.mg x = some (.ref a) ∧ Binds U.K fd ps [] ∧ chkFn U.Γ N ps fn st = true
  gl : ∀ (k : Nat) (x : Str) (d : D), U.Γ.gnm[k]? = some x → U.Γ.G[k]? = some d → ∃ (u : Value) (v : V), U.mg x = some u ∧ RelV v u ∧ ∀ H A, RD U.K H A d v
  bl : ∀ x : String, x ∈ bltN → U.mg (Str.ofString x) = none
  np : ∀ (f : Nat) (fn : Fn) (ps : List Str), U.Γ.F[f]? = some fn → U.Γ.fps[f]? = some ps → fn.np = ps.length
  kw : ∀ (f n1 : Nat) (ks : List Str) (pm : List Nat) (x : Str), (f, n1, ks, pm) ∈ U.Γ.kws → U.Γ.fnm[f]? = some x → ∃ (a : Addr) (fd : FuncData) (ps N : List Str) (st : Stmt) (fn : Fn), U.Γ.fps[f]? = some ps ∧ U.Γ.F[f]? = some fn ∧ Fun U.K x x st a fd ∧ U.mg x = some (.ref a) ∧ KB fd ps n1 ks pm ∧ chkFn U.Γ N ps fn st = true
section
variable {U : Wd}
theorem ioOk_at : ∀ {ws : List SV} {io : List Nat} {j i : Nat} {xs : List D}, ioOk io j ws = true → ws[i]? = some (.own xs) → j + i ∈ io
  | [], io, j, i, xs, h, e => by simp at e
  | .own ys :: ws, io, j, 0, xs, h, e => by
    simp only [ioOk, Bool.and_eq_true, List.contains_eq_mem, decide_eq_true_eq] at h
    exact h.1
  | .own ys :: ws, io, j, i + 1, xs, h, e => by
    simp only [ioOk, Bool.and_eq_true] at h
    have := ioOk_at (i := i) h.2 (by simpa using e)
    rwa [show j + (i + 1) = j + 1 + i by omega]
  | .d y :: ws, io, j, 0, xs, h, e => by simp at e
  | .d y :: ws, io, j, i + 1, xs, h, e => by
    simp only [ioOk] at h
    have := ioOk_at (i := i) h (by simpa using e)
    rwa [show j + (i + 1) = j + 1 + i by omega]
theorem outs_len : ∀ (ws : List SV) (s : Sl), (outsOf ws s).length = ws.length
  | [], s => by cases s <;> rfl
  | .own _ :: ws, x :: s => by simp only [outsOf, List.length_cons, outs_len ws s]
  | .d _ :: ws, x :: s => by simp only [outsOf, List.length_cons, outs_len ws s]
  | .own _ :: ws, [] => by simp only [outsOf, List.length_cons, outs_len ws []]
  | .d _ :: ws, [] => by simp only [outsOf, List.length_cons, outs_len ws []]
theorem outs_at : ∀ {ws : List SV} {s : Sl} {i : Nat} {x : SV}, (outsOf ws s)[i]? = some (some x) → (∃ xs, ws[i]? = some (.own xs)) ∧ s[i]? = some (some x)
  | [], s, i, x, e => by cases s <;> simp [outsOf] at e
  | .own ys :: ws, y :: s, 0, x, e => by
    simp only [outsOf, List.getElem?_cons_zero] at e
    cases e
    exact ⟨⟨ys, rfl⟩, rfl⟩
  | .own ys :: ws, y :: s, i + 1, x, e => by
    simp only [outsOf, List.getElem?_cons_succ] at e
    simpa using outs_at e
  | .d ys :: ws, y :: s, 0, x, e => by
    simp only [outsOf, List.getElem?_cons_zero] at e
    cases e
  | .d ys :: ws, y :: s, i + 1, x, e => by
    simp only [outsOf, List.getElem?_cons_succ] at e
    simpa using outs_at e
  | .own ys :: ws, [], 0, x, e => by
    simp only [outsOf, List.getElem?_cons_zero] at e
    cases e
  | .own ys :: ws, [], i + 1, x, e => by
    simp only [outsOf, List.getElem?_cons_succ] at e
    simpa using (outs_at e).2
  | .d ys :: ws, [], 0, x, e => by
    simp only [outsOf, List.getElem?_cons_zero] at e
    cases e
  | .d ys :: ws, [], i + 1, x, e => by
    simp only [outsOf, List.getElem?_cons_succ] at e
    simpa using (outs_at e).2
/-- the slots handed on, at the end -/
theorem RF.outs {K : PySem.W.Frag} {H : Hp} {M B : AS} {ws : List SV} {vs : List V} {s : Sl} {σ : VS} {io : List Nat} {m : Nat} (f : RF K H M B s σ) (ho : ioOk io 0 ws = true) (hl : ws.length = vs.length)
    (he : ∀ i ∈ io, σ[i]? = (vs.map some ++ List.replicate m none)[i]?) : RF K H M B (outsOf ws s) (vs.map some) := by
  refine f.sub ?_ fun i x e => ?_
  · rw [outs_len, List.length_map, hl]
  · obtain ⟨⟨xs, h1⟩, h2⟩ := outs_at e
    have hi : i < ws.length := (List.getElem?_eq_some_iff.mp h1).1
    have hm := ioOk_at ho h1
    rw [Nat.zero_add] at hm
    refine ⟨h2, ?_⟩
    rw [he i hm, List.getElem?_append_left (by rw [List.length_map, ← hl]; exact hi)]
theorem start_rf {K : PySem.W.Frag} {H : Hp} {M B : AS} {ws : List SV} {vs : List V} {m : Nat} (f : RF K H M B (ws.map some) (vs.map some)) : RF K H M B (ws.map some ++ List.replicate m none) (vs.map some ++ List.replicate m none) := by
  have hl := f.len
  refine f.sub (by rw [List.length_append, List.length_append, hl, List.length_replicate, List.length_replicate]) fun i x e => ?_
  by_cases hi : i < (ws.map some).length
  · rw [List.getElem?_append_left hi] at e
    exact ⟨e, List.getElem?_append_left (by rw [← hl]; exact hi)⟩
  · rw [List.getElem?_append_right (by omega)] at e
    have := List.mem_of_getElem? e
    have := List.eq_of_mem_replicate this
    cases this
theorem RT.outs {K : PySem.W.Frag} {H₀ H : Hp} {M B : AS} {ws : List SV} {vs : List V} {s : Sl} {σ : VS} {io : List Nat} {m : Nat} {w : W} {v : V} (r : RT K H₀ H M B s σ w v) (hr : retOk w = true) (ho : ioOk io 0 ws = true) (hl : ws.length = vs.length)
    (he : ∀ i ∈ io, σ[i]? = (vs.map some ++ List.replicate m none)[i]?) : RT K H₀ H M B (outsOf ws s) (vs.map some) w v := by
  cases w with
  | d x => exact r
  | nw xs =>
    obtain ⟨a, us, e, h0, h1, h2, h3, h4, h5⟩ := NW.ex r
    exact ⟨a, us, e, h0, h1, h2, h3, h4.outs ho hl he, h5⟩
  | al i => cases hr
  | io i => cases hr
theorem fn_run {n : Nat} (W : U.Ok n) {f : Nat} {x : Str} {a : Addr} {fd : FuncData} {ps N : List Str} {st : Stmt} {fn : Fn} (e1 : U.Γ.fps[f]? = some ps) (e2 : U.Γ.F[f]? = some fn) (F : Fun U.K x x st a fd) (c : chkFn U.Γ N ps fn st = true) :
    FnG U.P U.w U.K U.mg U.base (n + 1) a fd ps (spF U.K U.Cl U.Γ (n + 1) f) := by
  unfold chkFn at c
  simp only [Bool.and_eq_true, decide_eq_true_eq] at c
  obtain ⟨⟨⟨c1, c2⟩, c3⟩, c4⟩ := c
  have sc := scope_of c1
  refine fnG_of F sc (fun vs H Q E ⟨ws, M, B, f0, ⟨fn', ps', g1, g2, g3⟩, _⟩ => ?_) (fun X H vs Q E x1 x2 x3 x4 x5 x6 x7 x8 x9 x10 x11 tk pw hsp => ?_)
  · rw [e1] at g2
    cases g2
    exact g3
  · obtain ⟨ws, M, B, f0, ⟨fn', ps', g1, g2, g3⟩, q⟩ := hsp
    rw [e1] at g2
    cases g2
    have fit : Fit U n { N := N, sc := defScope st, st := fun _ => true, io := fn.io } X := ⟨x1, x2, x3, x4, x5, x6, by rw [x6]; exact sc.nd, x7, fun y _ => x8 y, x9, x10, x11⟩
    have hl : ws.length = vs.length := by
      have := f0.len
      rwa [List.length_map, List.length_map] at this
    refine ⟨_, snd_ss W fit tk pw fn.body _ c4, ws.map some ++ List.replicate (fn.ns - fn.np) none, M, B, ?_, ?_⟩
    · unfold L2.start
      rw [c3, c2, ← g3]
      exact start_rf f0
    · simp only [callF, e2] at q
      by_cases hc : ws.length = fn.np ∧ ioOk fn.io 0 ws = true
      · rw [if_pos hc] at q
        have ho := hc.2
        have hst : L2.start N vs = vs.map some ++ List.replicate (fn.ns - fn.np) none := by
          unfold L2.start
          rw [c3, c2, ← g3]
        cases er : evSs U.Γ.G (callF U.Γ.G U.Γ.F n) fn.body (ws.map some ++ List.replicate (fn.ns - fn.np) none) with
        | nx s' =>
          rw [er] at q
          intro σ' H' M' t' f' k'
          exact q .non H' M' t' (f'.outs ho hl (m := fn.ns - fn.np) fun i hi => by rw [k' i hi, hst]) RD.non
        | rt w s' =>
          rw [er] at q
          intro v σ' H' M' t' f' k' r'
          simp only [endCR] at q
          split at q
          · rename_i w2 outs hr
            by_cases hw : retOk w = true
            · rw [if_pos hw] at hr
              cases hr
              exact q v H' M' t' (f'.outs ho hl (m := fn.ns - fn.np) fun i hi => by rw [k' i hi, hst]) (r'.outs hw ho hl (m := fn.ns - fn.np) fun i hi => by rw [k' i hi, hst])
            · rw [if_neg hw] at hr
              cases hr
          · rename_i hr
            by_cases hw : retOk w = true
            · rw [if_pos hw] at hr
              cases hr
            · rw [if_neg hw] at hr
              cases hr
          · exact q.elim
        | exc c s' =>
          rw [er] at q
          intro σ' H' M' t' f' k'
          exact q H' M' t' (f'.outs ho hl (m := fn.ns - fn.np) fun i hi => by rw [k' i hi, hst])
        | ct s' => rw [er] at q; exact q.elim
        | stuck => rw [er] at q; exact q.elim
      · rw [if_neg hc] at q
        exact q.elim
theorem fn_step (S : Static U) {n : Nat} (W : U.Ok n) {f : Nat} {x : Str} (hx : U.Γ.fnm[f]? = some x) :
    ∃ (a : Addr) (fd : FuncData) (ps : List Str), U.Γ.fps[f]? = some ps ∧ FnG U.P U.w U.K U.mg U.base (n + 1) a fd ps (spF U.K U.Cl U.Γ (n + 1) f) ∧ U.mg x = some (.ref a) ∧ PySem.W.keepIn U.K (.ref a) = true ∧ Binds U.K fd ps [] := by
  obtain ⟨a, fd, ps, N, st, fn, e1, e2, F, e3, e4, c⟩ := S.fn f x hx
  exact ⟨a, fd, ps, e1, fn_run W e1 e2 F c, e3, F.kp, e4⟩
theorem fn_none {f : Nat} {x : Str} {a : Addr} {fd : FuncData} {ps N : List Str} {st : Stmt} {fn : Fn} (F : Fun U.K x x st a fd) : FnG U.P U.w U.K U.mg U.base 0 a fd ps (spF U.K U.Cl U.Γ 0 f) := by
  refine ⟨fun vs H Q E ⟨ws, M, B, f0, _, q⟩ => ?_, fun A outer s H ar us vs Q E _ _ _ _ _ ⟨ws, M, B, f0, _, q⟩ => ?_⟩
  · simp only [callF] at q
  · simp only [callF] at q
theorem wd_all (S : Static U) : ∀ n, U.Ok n
  | 0 => by
    refine ⟨fun f x hx => ?_, S.gl, S.bl, S.np, fun f n1 ks pm x hk hx => ?_⟩
    · obtain ⟨a, fd, ps, N, st, fn, e1, e2, F, e3, e4, c⟩ := S.fn f x hx
      exact ⟨a, fd, ps, e1, fn_none (N := N) (fn := fn) F, e3, F.kp, e4⟩
    · obtain ⟨a, fd, ps, N, st, fn, e1, e2, F, e3, e4, c⟩ := S.kw f n1 ks pm x hk hx
      exact ⟨a, fd, ps, e1, fn_none (N := N) (fn := fn) F, e3, F.kp, e4⟩
  | n + 1 => by
    have W := wd_all S n
    refine ⟨fun f x hx => fn_step S W hx, S.gl, S.bl, S.np, fun f n1 ks pm x hk hx => ?_⟩
    obtain ⟨a, fd, ps, N, st, fn, e1, e2, F, e3, e4, c⟩ := S.kw f n1 ks pm x hk hx
    exact ⟨a, fd, ps, e1, fn_run W e1 e2 F c, e3, F.kp, e4⟩
end
end EV

namespace EV
open PySem PySem.Spec PyProof.Rows L2
/-! ### the law's call -/
/-- a script's data -/
abbrev scriptD (ns : List Int) : D := .list (ns.map .int)
theorem rds_ints {K : PySem.W.Frag} {H : Hp} {A : AS} : ∀ ns : List Int, RDs K H A (ns.map .int) (ns.map V.int)
  | [] => .nil
  | n :: ns => .cons (.int n) (rds_ints ns)
/-- what the law's own def promises, from the evaluator's word -/
theorem law_sp {K : PySem.W.Frag} {Cl : Nat → Value} {Γ : Gam} {k lf : Nat} {H : Hp} {a : Addr} {ns : List Int} {fn : Fn} {x : Str} {outs : Sl} (hS : SqL K H a (ns.map V.int)) (h1 : Γ.F[lf]? = some fn) (h2 : Γ.fps[lf]? = some [x])
    (ok : callF Γ.G Γ.F k lf [.d (scriptD ns)] = .ok (.d (.bool true)) outs) (E : XK) : spF K Cl Γ k lf [.ref a] H (fun v _ => v = .bl true) E := by
  have rd : RD K H (Av (fun _ => False) fun _ => False) (scriptD ns) (.ref a) := by
    refine .lst (vs := ns.map V.int) ?_ (rds_ints ns)
    rcases hS with h | h
    · exact .inl ⟨h, fun z => z.elim id id⟩
    · exact .inr h
  refine ⟨[.d (scriptD ns)], fun _ => False, fun _ => False, ⟨rfl, fun i y e => ?_, fun i y e => ?_, fun i j b xs ys hij e => ?_, fun b z => z.elim False.elim False.elim, fun b z => z.elim⟩, ⟨fn, [x], h1, h2, rfl⟩, ?_⟩
  · match i, e with
    | 0, e => cases e; exact ⟨_, rfl, rd⟩
    | i + 1, e => cases e
  · match i, e with
    | 0, e => cases e
    | i + 1, e => cases e
  · match i, e with
    | 0, e => cases e
    | i + 1, e => cases e
  · rw [ok]
    intro v H' M' t f r
    cases (show RD _ _ _ _ _ from r)
    rfl
theorem law_goes {P : Program} {w : World} {K : PySem.W.Frag} {mg mb : Str → Option Value} {Γ : Gam} {Cl : Nat → Value} {k lf : Nat} {fa a : Addr} {x nm : Str} {s : Shared} {us : List Value} {ns : List Int} (KX : K.In s.heap) (hns : s.heap.Ns mainGlobals mg) (hb : s.heap.Ns builtinsNs mb)
    (hbb : ∀ x : Str, x ≠ "__name__" → mb x = bootBuiltins x) (hlim : s.heap.NoLimit) (hg : s.gens = #[]) (ha : s.heap.get? a = some { cls := .type "list", data := .seq us.toArray }) (hi : IntsAre us ns) (hl : ns.length ≤ sizeLine) (hr : Room k callerA)
    (S : ∀ base, Static ⟨P, w, K, mg, base, Γ, Cl⟩) (hn : Γ.fnm[lf]? = some nm) (hp : Γ.fps[lf]? = some [x]) (hmg : mg nm = some (.ref fa)) (ok : ∃ outs, callF Γ.G Γ.F k lf [.d (scriptD ns)] = .ok (.d (.bool true)) outs) :
    codeAny (model P w) callerA (.call (.ref fa) ⟨[.ref a], []⟩) (fun r s' => r = .ok (.ret (.bool true)) ∧ OldK s.heap s'.heap ∧ s'.os = s.os ∧ AllBare s'.gens) s := by
  obtain ⟨outs, ok⟩ := ok
  have rv := vals_ints hi
  have core : ∀ H : Hp, Only H → SqL K H a (ns.map V.int) → HOk P w H s.heap → (∀ b, H b ≠ none → b = a) → (H a ≠ none → K.lookup a = none) →
      codeAny (model P w) callerA (.call (.ref fa) ⟨[.ref a], []⟩) (fun r s' => r = .ok (.ret (.bool true)) ∧ OldK s.heap s'.heap ∧ s'.os = s.os ∧ AllBare s'.gens) s := by
    intro H hO hS hok hA hK
    have one : ∀ b, H b = none ∨ b = a := fun b => by
      by_cases z : H b = none
      · exact .inl z
      · exact .inr (hA b z)
    have offD : ∀ {b : Addr} {o : Obj} {es : Array DictEntry} {ep : Nat}, s.heap.get? b = some o → o.data = .dict es ep → H b = none := fun {b o es ep} e d => by
      rcases one b with z | rfl
      · exact z
      · rw [ha] at e
        cases e
        cases (show Data.seq us.toArray _ = Data.dict es ep from d)
    have nsB : ∀ {b : Addr} {m : Str → Option Value}, s.heap.Ns b m → (hidT s.heap H).Ns b m := fun {b m} ⟨o, es, ep, e, d, r⟩ => ⟨o, es, ep, hidT_get e (offD e d), d, r⟩
    have kB : K.In (hidT s.heap H) := fun b o e => by
      refine hidT_get (KX b o e) ?_
      rcases one b with z | rfl
      · exact z
      · by_cases q : H b = none
        · exact q
        · rw [hK q] at e
          cases e
    have md : Mod K mg (hidT s.heap H) := by
      obtain ⟨mc, l1, l2⟩ := hlim
      exact ⟨kB, nsB hns, ⟨mb, nsB hb, hbb⟩, mc, nsB l1, l2⟩
    have e0 : Env0 P w K mg (hidT s.heap H) callerA [] s H := by
      refine ⟨rfl, md, fun b o e => of_hidT e, Nat.le_of_eq (hidT_size _ _), trivial, fun b hb => ?_, hok, .of_eq hg⟩
      cases (show b ∈ ([] : List Addr) from hb)
    have St := S (hidT s.heap H)
    obtain ⟨fa', fd, ps, f1, f2, f3, f4, f5⟩ := (wd_all St k).fn lf nm hn
    have f1 : Γ.fps[lf]? = some ps := f1
    rw [hp] at f1
    cases f1
    have f3 : mg nm = some (.ref fa') := f3
    rw [hmg] at f3
    cases f3
    have bd := f5 s [.ref a] KX rfl
    obtain ⟨_, _, _, _, _, fn, _, g2, _⟩ := St.fn lf nm hn
    refine codeAny_mono (f2.run callerA [] s H ⟨[.ref a], []⟩ [.ref a] [.ref a] (fun v _ => v = .bl true) (fun _ _ _ => False) hr rfl e0 bd (.cons rfl .nil) (law_sp hS g2 hp ok _)) fun r s' h => ?_
    cases r with
    | error e =>
      obtain ⟨_, _, _, _, _, _, _, _, _, _, _, _, z⟩ := h
      exact z.elim
    | ok fl =>
      cases fl with
      | ret u =>
        obtain ⟨v, H', os, bare, un, hok', r', q⟩ := h
        cases (show v = .bl true from q)
        obtain rfl : u = Value.bool true := r'
        refine ⟨rfl, OldK.of_keep fun b o e => ?_, os, bare⟩
        rcases one b with z | rfl
        · exact un.keep b o e z (by intro w; cases (show b ∈ ([] : List Addr) from w)) (by simp)
        · rcases hO b with z | ⟨ob, xs, z⟩
          · exact un.keep b o e z (by intro w; cases (show b ∈ ([] : List Addr) from w)) (by simp)
          · obtain ⟨e1, _⟩ := hok b _ z
            obtain ⟨e2, _⟩ := hok' b _ (un.frzs b ob _ z)
            rw [e] at e1
            cases e1
            exact e2
      | next => exact False.elim h
      | brk => exact False.elim h
      | cont => exact False.elim h
  cases hk : K.lookup a with
  | some o =>
    have e := KX a o hk
    rw [ha] at e
    cases e
    refine core (fun _ => none) (fun _ => .inl rfl) (.inr ⟨_, us.toArray, _, hk, rfl, rfl, rfl, ?_, by simpa using rv⟩) (fun b u z => ?_) (fun b z => absurd rfl z) fun z => absurd rfl z
    · rw [List.size_toArray, hi.length]
      exact hl
    · cases (show (none : Option HO) = some u from z)
  | none =>
    let H1 : Hp := fun b => if b = a then some (.frz { cls := .type "list", data := .seq us.toArray } (.lst (ns.map V.int))) else none
    have at_a : H1 a = some (.frz { cls := .type "list", data := .seq us.toArray } (.lst (ns.map V.int))) := if_pos rfl
    have off_a : ∀ b, b ≠ a → H1 b = none := fun b hb => if_neg hb
    refine core H1 (fun b => ?_) (.inl (.inr ⟨_, at_a⟩)) (fun b u z => ?_) (fun b z => Classical.byContradiction fun hb => z (off_a b hb)) fun _ => hk
    · by_cases hb : b = a
      · rw [hb]; exact .inr ⟨_, _, at_a⟩
      · exact .inl (off_a b hb)
    · by_cases hb : b = a
      · subst hb
        rw [at_a] at z
        cases z
        exact ⟨ha, by rw [List.length_map]; exact hl, us, _, rv, ha⟩
      · rw [off_a b hb] at z
        cases z
/-- the goal that the head leaves -/
theorem walk_ev {l : PySem.W.OpenLaw} {n k lf : Nat} {q : Program} {loose : List Str} {XP : (Str → Option Value) → Heap → Prop} {YP : World → Heap → Prop} {d : DefRec} {K : Params → PySem.W.Frag} {x : Str} {Γ : Gam} (hn : l.most = some n) (hn2 : n ≤ sizeLine) (hdf : d.params.defaults = []) (hr : Room k callerA)
    (hY : ∀ (w : World) (h : Heap), YP w h → (K w.params).In h) (hf : Γ.fnm[lf]? = some d.name) (hp : Γ.fps[lf]? = some [x])
    (S : ∀ (w : World) (mg : Str → Option Value) (h : Heap), (K w.params).In h → h.Ns mainGlobals mg → ∃ Cl, ∀ base, Static ⟨l.prog, w, K w.params, mg, base, Γ, Cl⟩)
    (ok : ∀ ns : List Int, ns.length ≤ n → ∃ outs, callF Γ.G Γ.F k lf [.d (scriptD ns)] = .ok (.d (.bool true)) outs) : PySem.W.WalkO q loose XP YP l.row.toRowW d [] (fun f vs => PySem.call f vs) := by
  refine Att.attach_call hn hdf fun w s₀ s₁ mg mb fa o pm cd doc a vs ns G Y ho hd hcd hmg hobj hints hlen hg => ?_
  obtain ⟨Cl, St⟩ := S w mg _ (hY w _ Y) G.T.g
  exact law_goes (hY w _ Y) G.T.g G.T.b G.T.builtins G.T.nolimit hg hobj hints (Nat.le_trans hlen hn2) hr St hf hp hmg (ok ns hlen)
end EV

namespace EV
open PySem PySem.Spec PyProof.Rows L2
/-! ### what the top has written -/
/-- a def of the text, by its name -/
structure DefIn (K : PySem.W.Frag) (x : Str) (st : Stmt) : Prop where
  ex : ∃ (a : Addr) (fd : FuncData), PySem.W.nsIn K mainGlobals x = some (some (.ref a)) ∧ Fun K x x st a fd
theorem defIn_mk {K : PySem.W.Frag} {x : Str} {st : Stmt} {f : Addr} {oc : Value} {od an : Option Addr} {osl : Array (Option Value)} {kV doc pm cdv ct : Value} (a : PySem.W.nsIn K mainGlobals x = some (some (.ref f)))
    (l : K.lookup f = some ⟨oc, od, .func (PySem.W.fnOf x x (defArgs st) (defBody st) (defScope st) .none kV doc pm an cdv ct), osl⟩) (c : PySem.W.codeIn K cdv x = true) (k : PySem.W.keepIn K (.ref f) = true) : DefIn K x st := ⟨⟨_, _, a, fun_mk l c k⟩⟩
/-- how the arguments bind: one value a name -/
def BindsA (st : Stmt) (x : Str) (ps : List Str) : Prop := ∀ (kV doc pm : Value) (an : Option Addr) (cdv ct : Value) (us : List Value), us.length = ps.length → bindArgs (PySem.W.fnOf x x (defArgs st) (defBody st) (defScope st) .none kV doc pm an cdv ct) ⟨us, []⟩ = pure (ps.zip us)
structure FnFact (Γ : Gam) (K : PySem.W.Frag) (f : Nat) (x : Str) : Prop where
  ex : ∃ (ps N : List Str) (st : Stmt) (fn : Fn), Γ.fps[f]? = some ps ∧ Γ.F[f]? = some fn ∧ DefIn K x st ∧ BindsA st x ps ∧ chkFn Γ N ps fn st = true
def AllF (Γ : Gam) (K : PySem.W.Frag) : Nat → List Str → Prop
  | _, [] => True
  | k, x :: xs => FnFact Γ K k x ∧ AllF Γ K (k + 1) xs
theorem AllF.get {Γ : Gam} {K : PySem.W.Frag} : ∀ {xs : List Str} {k f : Nat} {x : Str}, AllF Γ K k xs → xs[f]? = some x → FnFact Γ K (k + f) x
  | [], k, f, x, h, e => by simp at e
  | y :: xs, k, 0, x, h, e => by simp at e; subst e; exact h.1
  | y :: xs, k, f + 1, x, h, e => by
    have := AllF.get (f := f) h.2 (by simpa using e)
    rwa [show k + (f + 1) = k + 1 + f by omega]
/-- a constant of the module -/
structure GlFact (K : PySem.W.Frag) (x : Str) (d : D) : Prop where
  ex : ∃ (u : Value) (v : V), PySem.W.nsIn K mainGlobals x = some (some u) ∧ RelV v u ∧ ∀ H A, RD K H A d v
theorem gl_int {K : PySem.W.Frag} {x : Str} {n : Int} {t : Tok} (e : PySem.W.nsIn K mainGlobals x = some (some (.int n t))) : GlFact K x (.int n) := ⟨⟨_, .int n, e, ⟨t, rfl⟩, fun _ _ => .int n⟩⟩
theorem gl_str {K : PySem.W.Frag} {x n : Str} {t : Tok} (e : PySem.W.nsIn K mainGlobals x = some (some (.str n t))) : GlFact K x (.str n) := ⟨⟨_, .str n, e, ⟨t, rfl⟩, fun _ _ => .str n⟩⟩
theorem gl_bl {K : PySem.W.Frag} {x : Str} {b : Bool} (e : PySem.W.nsIn K mainGlobals x = some (some (.bool b))) : GlFact K x (.bool b) := ⟨⟨_, .bl b, e, rfl, fun _ _ => .bl b⟩⟩
theorem gl_none {K : PySem.W.Frag} {x : Str} (e : PySem.W.nsIn K mainGlobals x = some (some .none)) : GlFact K x .none := ⟨⟨_, .non, e, rfl, fun _ _ => .non⟩⟩
def vOf : Value → Option (V × D)
  | .int n _ => some (.int n, .int n)
  | .str n _ => some (.str n, .str n)
  | .bool b => some (.bl b, .bool b)
  | .none => some (.non, .none)
  | _ => none
def vsOf : List Value → Option (List V × List D)
  | [] => some ([], [])
  | u :: us => match vOf u, vsOf us with
    | some (v, d), some (vs, ds) => some (v :: vs, d :: ds)
    | _, _ => none
theorem vOf_rel {u : Value} {v : V} {d : D} (h : vOf u = some (v, d)) : RelV v u ∧ ∀ (K : PySem.W.Frag) H A, RD K H A d v := by
  unfold vOf at h
  split at h
  · cases h; exact ⟨⟨_, rfl⟩, fun _ _ _ => .int _⟩
  · cases h; exact ⟨⟨_, rfl⟩, fun _ _ _ => .str _⟩
  · cases h; exact ⟨rfl, fun _ _ _ => .bl _⟩
  · cases h; exact ⟨rfl, fun _ _ _ => .non⟩
  · cases h
theorem vsOf_rel : ∀ {us : List Value} {vs : List V} {ds : List D}, vsOf us = some (vs, ds) → Vals vs us ∧ ∀ (K : PySem.W.Frag) H A, RDs K H A ds vs
  | [], vs, ds, h => by cases h; exact ⟨.nil, fun _ _ _ => .nil⟩
  | u :: us, vs, ds, h => by
    simp only [vsOf] at h
    split at h
    · rename_i h1 h2
      cases h
      exact ⟨.cons (vOf_rel h1).1 (vsOf_rel h2).1, fun K H A => .cons ((vOf_rel h1).2 K H A) ((vsOf_rel h2).2 K H A)⟩
    · cases h
theorem gl_tup {K : PySem.W.Frag} {x : Str} {a : Addr} {od : Option Addr} {its : Array Value} {n : Nat} {osl : Array (Option Value)} {vs : List V} {ds : List D} (e : PySem.W.nsIn K mainGlobals x = some (some (.ref a))) (l : K.lookup a = some ⟨.type "tuple", od, .seq its n, osl⟩) (r : vsOf its.toList = some (vs, ds)) (z : decide (its.size ≤ 16777216) = true) : GlFact K x (.tuple ds) :=
  ⟨⟨_, .ref a, e, rfl, fun H A => .tup (.inr ⟨_, its, n, l, rfl, rfl, by rw [sizeLine_eq]; exact of_decide_eq_true z, (vsOf_rel r).1⟩) ((vsOf_rel r).2 K H A)⟩⟩
def AllG (K : PySem.W.Frag) : List Str → List D → Prop
  | x :: xs, d :: ds => GlFact K x d ∧ AllG K xs ds
  | _, _ => True
theorem AllG.get {K : PySem.W.Frag} : ∀ {xs : List Str} {ds : List D} {k : Nat} {x : Str} {d : D}, AllG K xs ds → xs[k]? = some x → ds[k]? = some d → GlFact K x d
  | [], ds, k, x, d, h, e, e2 => by simp at e
  | y :: xs, [], k, x, d, h, e, e2 => by simp at e2
  | y :: xs, z :: ds, 0, x, d, h, e, e2 => by simp at e e2; subst e e2; exact h.1
  | y :: xs, z :: ds, k + 1, x, d, h, e, e2 => AllG.get (k := k) h.2 (by simpa using e) (by simpa using e2)
/-- names that are the built-ins' -/
def AllB (K : PySem.W.Frag) : List String → Prop
  | [] => True
  | x :: xs => PySem.W.nsIn K mainGlobals (Str.ofString x) = some none ∧ AllB K xs
theorem AllB.get {K : PySem.W.Frag} : ∀ {xs : List String} {x : String}, AllB K xs → x ∈ xs → PySem.W.nsIn K mainGlobals (Str.ofString x) = some none
  | y :: xs, x, h, e => by
    rcases List.mem_cons.mp e with rfl | e
    · exact h.1
    · exact AllB.get h.2 e
/-- a call with keywords -/
def BindsK (st : Stmt) (x : Str) (ps : List Str) (n1 : Nat) (ks : List Str) (pm : List Nat) : Prop := ∀ (kV doc pmV : Value) (an : Option Addr) (cdv ct : Value) (us ws : List Value), us.length = n1 → ws.length = ks.length → bindArgs (PySem.W.fnOf x x (defArgs st) (defBody st) (defScope st) .none kV doc pmV an cdv ct) ⟨us, ks.zip ws⟩ = pure (ps.zip (permW pm (us ++ ws)))
structure KwFact (Γ : Gam) (K : PySem.W.Frag) (e : Nat × Nat × List Str × List Nat) : Prop where
  ex : ∃ (x : Str) (ps N : List Str) (st : Stmt) (fn : Fn), Γ.fnm[e.1]? = some x ∧ Γ.fps[e.1]? = some ps ∧ Γ.F[e.1]? = some fn ∧ DefIn K x st ∧ BindsK st x ps e.2.1 e.2.2.1 e.2.2.2 ∧ chkFn Γ N ps fn st = true
def AllK (Γ : Gam) (K : PySem.W.Frag) : List (Nat × Nat × List Str × List Nat) → Prop
  | [] => True
  | e :: es => KwFact Γ K e ∧ AllK Γ K es
theorem AllK.get {Γ : Gam} {K : PySem.W.Frag} : ∀ {es : List (Nat × Nat × List Str × List Nat)} {e : Nat × Nat × List Str × List Nat}, AllK Γ K es → e ∈ es → KwFact Γ K e
  | y :: es, e, h, m => by
    rcases List.mem_cons.mp m with rfl | m
    · exact h.1
    · exact AllK.get h.2 m
theorem static_of {P : Program} {w : World} {K : PySem.W.Frag} {mg : Str → Option Value} {h : Heap} {Γ : Gam} {Cl : Nat → Value} (X : K.In h) (G : h.Ns mainGlobals mg) (hF : AllF Γ K 0 Γ.fnm) (hG : AllG K Γ.gnm Γ.G) (hB : AllB K bltN) (hK : AllK Γ K Γ.kws)
    (np : (Γ.F.map (·.np)) = Γ.fps.map List.length) : ∀ base, Static ⟨P, w, K, mg, base, Γ, Cl⟩ := by
  intro base
  refine ⟨fun f x hx => ?_, fun k x d h1 h2 => ?_, fun x hx => PySem.W.mg_none_of X G (hB.get hx), fun f fn ps h1 h2 => ?_, fun f n1 ks pm x hk hx => ?_⟩
  · obtain ⟨ps, N, st, fn, e1, e2, ⟨a, fd, e3, F⟩, e4, c⟩ := (hF.get hx).ex
    rw [Nat.zero_add] at e1 e2
    exact ⟨a, fd, ps, N, st, fn, e1, e2, F, PySem.W.mg_of X G e3, F.binds e4, c⟩
  · obtain ⟨u, v, e1, e2, e3⟩ := (hG.get h1 h2).ex
    exact ⟨u, v, PySem.W.mg_of X G e1, e2, e3⟩
  · have h3 : (Γ.F.map (·.np))[f]? = some fn.np := by rw [List.getElem?_map, h1]; rfl
    rw [np, List.getElem?_map, h2] at h3
    exact (Option.some.inj h3).symm
  · obtain ⟨x', ps, N, st, fn, e0, e1, e2, ⟨a, fd, e3, F⟩, e4, c⟩ := (hK.get hk).ex
    have e0 : Γ.fnm[f]? = some x' := e0
    have hx : Γ.fnm[f]? = some x := hx
    rw [hx] at e0
    cases e0
    refine ⟨a, fd, ps, N, st, fn, e1, e2, F, PySem.W.mg_of X G e3, fun us ws h1 h2 => ?_, c⟩
    obtain ⟨oc, od, kV, doc, pmV, an, cdv, ct, osl, rfl, lk, hcd⟩ := F.ex
    exact e4 kV doc pmV an cdv ct us ws h1 h2
end EV

namespace EV
open PySem
/-! ### plain laws of the evaluator -/
/-- one turn of a comprehension -/
def turnC (bnd : D → Sl → Option Sl) (ifs : Sl → R Bool) (elt : Sl → R W) (own : List Nat) (x : D) (s : Sl) : Option (Option D × Sl) := match bnd x s with
  | none => none
  | some s1 => match ifs s1 with
    | .ok false s2 => some (none, wip s2 own)
    | .ok true s2 => match elt s2 with
      | .ok w s3 => match keep w with
        | some y => some (some y, wip s3 own)
        | none => none
      | _ => none
    | _ => none
theorem compL_turn {bnd : D → Sl → Option Sl} {ifs : Sl → R Bool} {elt : Sl → R W} {own : List Nat} {x : D} {xs acc : List D} {s s2 : Sl} {o : Option D} (h : turnC bnd ifs elt own x s = some (o, s2)) (hl : acc.length < lim) :
    compL bnd ifs elt own (x :: xs) acc s = compL bnd ifs elt own xs (acc ++ o.toList) s2 := by
  unfold turnC at h
  simp only [compL]
  split at h
  · cases h
  · split at h
    · cases h; simp [*]
    · split at h
      · split at h
        · cases h; simp [*]
        · cases h
      · cases h
    · cases h
/-- the slots as they were -/
theorem compL_map {bnd : D → Sl → Option Sl} {ifs : Sl → R Bool} {elt : Sl → R W} {own : List Nat} {s0 : Sl} (f : D → Option D) : ∀ (xs acc : List D), (∀ x ∈ xs, turnC bnd ifs elt own x s0 = some (f x, s0)) →
    acc.length + xs.length ≤ lim → compL bnd ifs elt own xs acc s0 = .ok (acc ++ xs.filterMap f) s0
  | [], acc, _, _ => by simp [compL]
  | x :: xs, acc, h, hl => by
    rw [List.length_cons] at hl
    have h1 := h x List.mem_cons_self
    rw [compL_turn h1 (by omega), compL_map f xs _ (fun y hy => h y (List.mem_cons_of_mem _ hy)) (by cases f x <;> simp <;> omega)]
    cases e : f x <;> simp [e]
theorem comp_is {G : List D} {C : Nat → List SV → CR} {elt : Ex} {tg : Tg} {it : Iw} {own : List Nat} {ifs : Exs} {s s0 : Sl} {xs : List D} (f : D → Option D) (hi : evI G C it s = .ok xs s0) (hw : wip s0 own = s0) (hl : xs.length ≤ lim)
    (h : ∀ x ∈ xs, turnC (bindT tg) (evIfs G C ifs) (evE G C elt) own x s0 = some (f x, s0)) : evE G C (.comp elt tg it own ifs) s = .ok (.nw (xs.filterMap f)) s0 := by
  simp only [evE, hi, R.bind, hw]
  rw [compL_map f xs [] h (by simpa using hl)]
  rfl
/-- over things told by a list, one for each -/
theorem comp_map {α : Type} {G : List D} {C : Nat → List SV → CR} {elt : Ex} {tg : Tg} {it : Iw} {own : List Nat} {ifs : Exs} {s s0 : Sl} (as : List α) (e : α → D) (g : α → D) (hi : evI G C it s = .ok (as.map e) s0) (hw : wip s0 own = s0) (hl : as.length ≤ lim)
    (h : ∀ a ∈ as, turnC (bindT tg) (evIfs G C ifs) (evE G C elt) own (e a) s0 = some (some (g a), s0)) : evE G C (.comp elt tg it own ifs) s = .ok (.nw (as.map g)) s0 := by
  simp only [evE, hi, R.bind, hw]
  have key : ∀ (as : List α) (acc : List D), (∀ a ∈ as, turnC (bindT tg) (evIfs G C ifs) (evE G C elt) own (e a) s0 = some (some (g a), s0)) → acc.length + as.length ≤ lim →
      compL (bindT tg) (evIfs G C ifs) (evE G C elt) own (as.map e) acc s0 = .ok (acc ++ as.map g) s0 := by
    intro as
    induction as with
    | nil => intro acc _ _; simp [compL]
    | cons a as ih =>
      intro acc h hl
      rw [List.length_cons] at hl
      rw [List.map_cons, compL_turn (h a List.mem_cons_self) (by omega), ih _ (fun y hy => h y (List.mem_cons_of_mem _ hy)) (by simp; omega)]
      simp
  rw [key as [] h (by simpa using hl)]
  rfl
theorem comp_as {α : Type} {G : List D} {C : Nat → List SV → CR} {elt : Ex} {tg : Tg} {it : Iw} {own : List Nat} {ifs : Exs} {s : Sl} (as : List α) (e : α → D) (g : α → D) (hi : evI G C it s = .ok (as.map e) s) (hw : wip s own = s) (hl : as.length ≤ 100000)
    (h : ∀ a ∈ as, turnC (bindT tg) (evIfs G C ifs) (evE G C elt) own (e a) s = some (some (g a), s)) : evE G C (.comp elt tg it own ifs) s = .ok (.nw (as.map g)) s := EV.comp_map as e g hi hw (Nat.le_trans hl (by decide)) h
/-- one after the other, with a state -/
def runS {σ α β : Type} (f : σ → α → β × σ) : σ → List α → List β × σ
  | a, [] => ([], a)
  | a, x :: xs => ((f a x).1 :: (runS f (f a x).2 xs).1, (runS f (f a x).2 xs).2)
theorem runS_all {σ α β : Type} {f : σ → α → β × σ} {R : β → Prop} (h : ∀ a x, R (f a x).1) : ∀ (xs : List α) (a : σ), ∀ y ∈ (runS f a xs).1, R y
  | [], a, y, hy => by cases hy
  | x :: xs, a, y, hy => by
    simp only [runS, List.mem_cons] at hy
    rcases hy with rfl | hy
    · exact h a x
    · exact runS_all h xs _ y hy
theorem runS_len {σ α β : Type} {f : σ → α → β × σ} : ∀ (xs : List α) (a : σ), (runS f a xs).1.length = xs.length
  | [], a => rfl
  | x :: xs, a => by simp only [runS, List.length_cons, runS_len xs]
/-- a comprehension that changes what it was handed: by a state -/
theorem compL_st {σ α β : Type} {bnd : D → Sl → Option Sl} {ifs : Sl → R Bool} {elt : Sl → R W} {own : List Nat} (e : α → D) (g : β → D) (st : σ → Sl) (f : σ → α → β × σ) : ∀ (as : List α) (acc : List D) (a : σ), (∀ a x, x ∈ as → turnC bnd ifs elt own (e x) (st a) = some (some (g (f a x).1), st (f a x).2)) →
    acc.length + as.length ≤ lim → compL bnd ifs elt own (as.map e) acc (st a) = .ok (acc ++ (runS f a as).1.map g) (st (runS f a as).2)
  | [], acc, a, _, _ => by simp [compL, runS]
  | x :: as, acc, a, h, hl => by
    rw [List.length_cons] at hl
    rw [List.map_cons, compL_turn (h a x List.mem_cons_self) (by omega)]
    simp only [Option.toList_some]
    rw [compL_st e g st f as _ _ (fun a y hy => h a y (List.mem_cons_of_mem _ hy)) (by simp; omega)]
    simp [runS]
/-- one turn of a walk -/
def turnF (bnd : D → Sl → Option Sl) (body : Sl → Fl) (x : D) (s : Sl) : Fl := match bnd x s with
  | none => .stuck
  | some s1 => match body s1 with
    | .ct s2 => .nx s2
    | r => r
def Fl.ends : Fl → Bool
  | .nx _ => false
  | .ct _ => false
  | _ => true
/-- a walk, by a word that stands at each turn; Z: what is asked of the end -/
theorem forL_by {bnd : D → Sl → Option Sl} {body : Sl → Fl} (Z : Fl → Prop) (I : List D → Sl → Prop) : ∀ (xs : List D) (s : Sl), (∀ x rest s, I (x :: rest) s → (∃ s2, turnF bnd body x s = .nx s2 ∧ I rest s2) ∨ ((turnF bnd body x s).ends = true ∧ Z (turnF bnd body x s))) →
    (∀ s, I [] s → Z (.nx s)) → I xs s → Z (forL bnd body xs s)
  | [], s, _, h0, i => h0 s i
  | x :: xs, s, hs, h0, i => by
    have h1 := hs x xs s i
    unfold turnF at h1
    simp only [forL]
    cases e1 : bnd x s with
    | none =>
      rw [e1] at h1
      rcases h1 with ⟨s2, h1, _⟩ | ⟨_, h1⟩
      · cases h1
      · exact h1
    | some s1 =>
      rw [e1] at h1
      simp only at h1 ⊢
      cases e : body s1 with
      | nx s2 =>
        rw [e] at h1
        rcases h1 with ⟨s3, h1, i2⟩ | ⟨h1, _⟩
        · cases h1; exact forL_by Z I xs s2 hs h0 i2
        · cases h1
      | ct s2 =>
        rw [e] at h1
        rcases h1 with ⟨s3, h1, i2⟩ | ⟨h1, _⟩
        · cases h1; exact forL_by Z I xs s2 hs h0 i2
        · cases h1
      | rt w s2 =>
        rw [e] at h1
        rcases h1 with ⟨s3, h1, i2⟩ | ⟨_, h1⟩
        · cases h1
        · exact h1
      | exc c s2 =>
        rw [e] at h1
        rcases h1 with ⟨s3, h1, i2⟩ | ⟨_, h1⟩
        · cases h1
        · exact h1
      | stuck =>
        rw [e] at h1
        rcases h1 with ⟨s3, h1, i2⟩ | ⟨_, h1⟩
        · cases h1
        · exact h1
/-- a walk that runs to its end, by a state -/
theorem forL_st {σ α : Type} {bnd : D → Sl → Option Sl} {body : Sl → Fl} (e : α → D) (st : σ → Sl) (P : σ → Prop) (f : σ → α → σ) : ∀ (as : List α) (a : σ), P a → (∀ a x, x ∈ as → P a → turnF bnd body (e x) (st a) = .nx (st (f a x)) ∧ P (f a x)) → forL bnd body (as.map e) (st a) = .nx (st (as.foldl f a)) ∧ P (as.foldl f a)
  | [], a, p, _ => ⟨rfl, p⟩
  | x :: as, a, p, h => by
    obtain ⟨h1, p1⟩ := h a x List.mem_cons_self p
    have ih := forL_st e st P f as (f a x) p1 fun a y hy => h a y (List.mem_cons_of_mem _ hy)
    unfold turnF at h1
    rw [List.foldl_cons]
    refine ⟨?_, ih.2⟩
    rw [← ih.1]
    simp only [List.map_cons, forL]
    cases e1 : bnd (e x) (st a) with
    | none => rw [e1] at h1; cases h1
    | some s1 =>
      rw [e1] at h1
      simp only at h1 ⊢
      cases e2 : body s1 <;> rw [e2] at h1 <;> cases h1 <;> rfl
/-- a walk that runs to its end, by a word on the slots -/
theorem forL_rel {α β : Type} {bnd : D → Sl → Option Sl} {body : Sl → Fl} (e : α → D) (I : β → Sl → Prop) (f : β → α → β) : ∀ (as : List α) (b : β) (s : Sl), I b s → (∀ b a s, a ∈ as → I b s → ∃ s', turnF bnd body (e a) s = .nx s' ∧ I (f b a) s') →
    ∃ s', forL bnd body (as.map e) s = .nx s' ∧ I (as.foldl f b) s'
  | [], b, s, i, _ => ⟨s, rfl, i⟩
  | x :: as, b, s, i, h => by
    obtain ⟨s1, h1, i1⟩ := h b x s List.mem_cons_self i
    obtain ⟨s2, h2, i2⟩ := forL_rel e I f as (f b x) s1 i1 fun b y s hy => h b y s (List.mem_cons_of_mem _ hy)
    refine ⟨s2, ?_, i2⟩
    rw [← h2]
    unfold turnF at h1
    simp only [List.map_cons, forL]
    cases e1 : bnd (e x) s with
    | none => rw [e1] at h1; cases h1
    | some s3 =>
      rw [e1] at h1
      simp only at h1 ⊢
      cases e2 : body s3 <;> rw [e2] at h1 <;> cases h1 <;> rfl
theorem foldl_app {α : Type} (g : α → D) : ∀ (as : List α) (b : List D), as.foldl (fun b a => b ++ [g a]) b = b ++ as.map g
  | [], b => by simp
  | a :: as, b => by rw [List.foldl_cons, foldl_app g as]; simp
/-- .. that gathers one thing a turn -/
theorem forL_acc {α : Type} {bnd : D → Sl → Option Sl} {body : Sl → Fl} (e g : α → D) (I : List D → Sl → Prop) : ∀ (as : List α) (b : List D) (s : Sl), I b s → b.length + as.length ≤ 100000 → (∀ b a s, a ∈ as → b.length < lim → I b s → ∃ s', turnF bnd body (e a) s = .nx s' ∧ I (b ++ [g a]) s') →
    ∃ s', forL bnd body (as.map e) s = .nx s' ∧ I (b ++ as.map g) s'
  | [], b, s, i, _, h => ⟨s, rfl, by simpa using i⟩
  | x :: as, b, s, i, hl, h => by
    rw [List.length_cons] at hl
    obtain ⟨s1, h1, i1⟩ := h b x s List.mem_cons_self (Nat.lt_of_lt_of_le (show b.length < 100000 by omega) (by decide)) i
    obtain ⟨s2, h2, i2⟩ := forL_acc e g I as (b ++ [g x]) s1 i1 (by simp; omega) fun b y s hy => h b y s (List.mem_cons_of_mem _ hy)
    refine ⟨s2, ?_, by simpa using i2⟩
    rw [← h2]
    unfold turnF at h1
    simp only [List.map_cons, forL]
    cases e1 : bnd (e x) s with
    | none => rw [e1] at h1; cases h1
    | some s3 =>
      rw [e1] at h1
      simp only at h1 ⊢
      cases e2 : body s3 <;> rw [e2] at h1 <;> cases h1 <;> rfl
theorem ss_nx {G : List D} {C : Nat → List SV → CR} {a : Sm} {as : Sms} {s s1 : Sl} (h : evS G C a s = .nx s1) : evSs G C (.cons a as) s = evSs G C as s1 := by rw [evSs, h]
theorem ss_rt {G : List D} {C : Nat → List SV → CR} {a : Sm} {as : Sms} {s s1 : Sl} {w : W} (h : evS G C a s = .rt w s1) : evSs G C (.cons a as) s = .rt w s1 := by rw [evSs, h]
/-! slices -/
theorem bnd_n (n d k : Nat) : bndD n d (some (k : Int)) = min k n := by
  show (if (k : Int) < 0 then ((k : Int) + n).toNat else min (k : Int).toNat n) = min k n
  rw [if_neg (by omega)]
  simp
theorem cut_to (xs : List D) (k : Nat) : cutL xs none (some (k : Int)) = xs.take k := by
  unfold cutL
  rw [bnd_n]
  simp only [bndD, List.drop_zero, Nat.sub_zero]
  by_cases h : k ≤ xs.length
  · rw [Nat.min_eq_left h]
  · rw [Nat.min_eq_right (by omega), List.take_length, List.take_of_length_le (by omega)]
theorem cut_from (xs : List D) (k : Nat) : cutL xs (some (k : Int)) none = xs.drop k := by
  unfold cutL
  rw [bnd_n]
  simp only [bndD]
  by_cases h : k ≤ xs.length
  · rw [Nat.min_eq_left h]
    exact List.take_of_length_le (by rw [List.length_drop]; omega)
  · rw [Nat.min_eq_right (by omega), List.drop_length, List.drop_eq_nil_of_le (by omega), List.take_nil]
theorem cut_init (xs : List D) : cutL xs none (some (-1)) = xs.dropLast := by
  unfold cutL
  simp only [bndD, List.drop_zero, Nat.sub_zero]
  rw [if_pos (by decide), List.dropLast_eq_take]
  congr 1
  omega
theorem at_n (xs : List D) (k : Nat) : atD xs (k : Int) = xs[k]? := by
  unfold atD ixD
  rw [if_pos (by omega)]
  by_cases h : k < xs.length
  · rw [if_pos (by omega)]; simp
  · rw [if_neg (by omega), List.getElem?_eq_none (by omega)]; rfl
theorem at_last (xs : List D) (x : D) : atD (xs ++ [x]) (-1) = some x := by
  unfold atD ixD
  rw [if_neg (by omega), if_pos (by rw [List.length_append, List.length_singleton]; omega), Option.bind_some, List.length_append, List.length_singleton]
  rw [show (-1 + ((xs.length + 1 : Nat) : Int)).toNat = xs.length by omega, List.getElem?_append_right (by omega), Nat.sub_self]
  rfl
theorem ints_all : ∀ ns : List Int, intsD (ns.map .int) = some ns
  | [] => rfl
  | n :: ns => by simp [intsD, ints_all ns]
theorem bls_all : ∀ bs : List Bool, blsD (bs.map .bool) = some bs
  | [] => rfl
  | n :: ns => by simp [blsD, bls_all ns]
theorem lim_big {n : Nat} (h : n ≤ 100000) : n ≤ lim := Nat.le_trans h (by decide)
end EV

namespace EV
open PySem
/-! ### one statement at a time -/
def thenS (r : Fl) (f : Sl → Fl) : Fl := match r with
  | .nx s => f s
  | r => r
theorem thenS_nx (s : Sl) (f : Sl → Fl) : thenS (.nx s) f = f s := rfl
theorem thenS_rt (w : W) (s : Sl) (f : Sl → Fl) : thenS (.rt w s) f = .rt w s := rfl
theorem thenS_ct (s : Sl) (f : Sl → Fl) : thenS (.ct s) f = .ct s := rfl
theorem thenS_exc (c : Nat) (s : Sl) (f : Sl → Fl) : thenS (.exc c s) f = .exc c s := rfl
theorem thenS_ite (c : Prop) [Decidable c] (a b : Fl) (f : Sl → Fl) : thenS (if c then a else b) f = if c then thenS a f else thenS b f := by split <;> rfl
def hold (G : List D) (C : Nat → List SV → CR) (as : Sms) (s : Sl) : Fl := evSs G C as s
theorem hold_eq (G : List D) (C : Nat → List SV → CR) (as : Sms) (s : Sl) : evSs G C as s = hold G C as s := rfl
theorem hold_fn (G : List D) (C : Nat → List SV → CR) (as : Sms) : evSs G C as = hold G C as := rfl
theorem hold_cons (G : List D) (C : Nat → List SV → CR) (a : Sm) (as : Sms) (s : Sl) : hold G C (.cons a as) s = thenS (evS G C a s) (hold G C as) := by
  unfold hold thenS
  first
    | (rw [evSs]; done)
    | (rw [evSs]; cases evS G C a s <;> rfl)
theorem hold_nil (G : List D) (C : Nat → List SV → CR) (s : Sl) : hold G C .nil s = .nx s := by unfold hold; rw [evSs]
def bindD (tg : Tg) (x : D) (s : Sl) : Option Sl := bindT tg x s
theorem bindD_eq (tg : Tg) (x : D) (s : Sl) : bindD tg x s = bindT tg x s := rfl
theorem for_eq (G : List D) (C : Nat → List SV → CR) (tg : Tg) (it : Iw) (b : Sms) (s : Sl) : evS G C (.forr tg it b) s = (evI G C it s).fl fun xs s1 => forL (bindD tg) (hold G C b) xs s1 := by rw [evS]; rfl
/-- how a turn goes: on, by the word J; else it ends as Z asks -/
def Goes (Z : Fl → Prop) (J : Sl → Prop) (r : Fl) : Prop := match r with
  | .nx s => J s
  | .ct s => J s
  | .rt w s => Z (.rt w s)
  | .exc c s => Z (.exc c s)
  | .stuck => Z .stuck
def onS (o : Option Sl) (P : Sl → Prop) : Prop := match o with
  | some s => P s
  | none => False
theorem onS_some (s : Sl) (P : Sl → Prop) : onS (some s) P = P s := rfl
/-- a walk, by its items one by one; Z: what is asked of the end, f: what comes behind -/
theorem forL_ind {α : Type} {bnd : D → Sl → Option Sl} {body : Sl → Fl} (e : α → D) (I : List α → Sl → Prop) {Z : Fl → Prop} {f : Sl → Fl}
    (hs : ∀ x rest s (J : Sl → Prop) (Z' : Fl → Prop), (∀ s', I rest s' → J s') → (∀ r, Z r → Z' r) → I (x :: rest) s → onS (bnd (e x) s) fun s1 => Goes Z' J (body s1)) (h0 : ∀ s, I [] s → Z (f s)) : ∀ (xs : List α) (s : Sl), I xs s → Z (thenS (forL bnd body (xs.map e) s) f)
  | [], s, i => by
    rw [List.map_nil, forL, thenS_nx]
    exact h0 s i
  | x :: xs, s, i => by
    have h := hs x xs s (I xs) Z (fun _ h => h) (fun _ h => h) i
    rw [List.map_cons, forL]
    cases e1 : bnd (e x) s with
    | none => rw [e1] at h; exact h.elim
    | some s1 =>
      rw [e1, onS_some] at h
      simp only
      cases e2 : body s1 <;> rw [e2] at h
      · exact forL_ind e I hs h0 xs _ h
      · exact h
      · exact forL_ind e I hs h0 xs _ h
      · exact h
      · exact h
theorem forL_rng {lo : Int} {m : Nat} {bnd : D → Sl → Option Sl} {body : Sl → Fl} (I : Sl → Prop) {Z : Fl → Prop} {f : Sl → Fl}
    (hs : ∀ (j : Nat) s (J : Sl → Prop) (Z' : Fl → Prop), (∀ s', I s' → J s') → (∀ r, Z r → Z' r) → j < m → I s → onS (bnd (.int (lo + (j : Int))) s) fun s1 => Goes Z' J (body s1)) (h0 : ∀ s, I s → Z (f s)) (s : Sl) (i : I s) : Z (thenS (forL bnd body (rngL lo m) s) f) :=
  forL_ind (fun (j : Nat) => .int (lo + (j : Int))) (fun rest s => I s ∧ ∀ j ∈ rest, j < m) (fun x rest s J Z' hJ hZ i => hs x s J Z' (fun s' h => hJ s' ⟨h, fun j hj => i.2 j (List.mem_cons_of_mem _ hj)⟩) hZ (i.2 x List.mem_cons_self) i.1) (fun s i => h0 s i.1) (List.range m) s ⟨i, fun j hj => List.mem_range.mp hj⟩
theorem rng0 (m : Nat) : rngL 0 m = (List.range m).map fun (j : Nat) => .int (j : Int) := by simp [rngL]
/-- comprehensions -/
theorem comp_go {α : Type} {G : List D} {C : Nat → List SV → CR} {elt : Ex} {tg : Tg} {it : Iw} {own : List Nat} {ifs : Exs} {s s1 : Sl} (as : List α) (e : α → D) (g : α → D) (hi : evI G C it s = .ok (as.map e) s1) (hl : as.length ≤ 100000)
    (h : ∀ a ∈ as, turnC (bindD tg) (evIfs G C ifs) (evE G C elt) own (e a) (wip s1 own) = some (some (g a), wip s1 own)) : evE G C (.comp elt tg it own ifs) s = .ok (.nw (as.map g)) (wip s1 own) := by
  simp only [evE, hi, R.bind]
  have key : ∀ (as : List α) (acc : List D), (∀ a ∈ as, turnC (bindD tg) (evIfs G C ifs) (evE G C elt) own (e a) (wip s1 own) = some (some (g a), wip s1 own)) → acc.length + as.length ≤ 16777216 →
      compL (bindD tg) (evIfs G C ifs) (evE G C elt) own (as.map e) acc (wip s1 own) = .ok (acc ++ as.map g) (wip s1 own) := by
    intro as
    induction as with
    | nil => intro acc _ _; simp [compL]
    | cons a as ih =>
      intro acc h hl
      rw [List.length_cons] at hl
      rw [List.map_cons, compL_turn (h a List.mem_cons_self) (Nat.lt_of_lt_of_le (show acc.length < 16777216 by omega) (by decide)), ih _ (fun y hy => h y (List.mem_cons_of_mem _ hy)) (by simp; omega)]
      simp
  rw [show bindT tg = bindD tg from rfl, key as [] h (by simp; omega)]
  rfl
/-- .. with a test -/
theorem comp_if {α : Type} {G : List D} {C : Nat → List SV → CR} {elt : Ex} {tg : Tg} {it : Iw} {own : List Nat} {ifs : Exs} {s s1 : Sl} (as : List α) (e : α → D) (g : α → Option D) (hi : evI G C it s = .ok (as.map e) s1) (hl : as.length ≤ 100000)
    (h : ∀ a ∈ as, turnC (bindD tg) (evIfs G C ifs) (evE G C elt) own (e a) (wip s1 own) = some (g a, wip s1 own)) : evE G C (.comp elt tg it own ifs) s = .ok (.nw (as.filterMap g)) (wip s1 own) := by
  simp only [evE, hi, R.bind]
  have key : ∀ (as : List α) (acc : List D), (∀ a ∈ as, turnC (bindD tg) (evIfs G C ifs) (evE G C elt) own (e a) (wip s1 own) = some (g a, wip s1 own)) → acc.length + as.length ≤ 16777216 →
      compL (bindD tg) (evIfs G C ifs) (evE G C elt) own (as.map e) acc (wip s1 own) = .ok (acc ++ as.filterMap g) (wip s1 own) := by
    intro as
    induction as with
    | nil => intro acc _ _; simp [compL]
    | cons a as ih =>
      intro acc h hl
      rw [List.length_cons] at hl
      rw [List.map_cons, compL_turn (h a List.mem_cons_self) (Nat.lt_of_lt_of_le (show acc.length < 16777216 by omega) (by decide)), ih _ (fun y hy => h y (List.mem_cons_of_mem _ hy)) (by cases g a <;> simp <;> omega)]
      cases e2 : g a <;> simp [e2]
  rw [show bindT tg = bindD tg from rfl, key as [] h (by simp; omega)]
  rfl
/-- .. with a state -/
theorem comp_st {σ α β : Type} {G : List D} {C : Nat → List SV → CR} {elt : Ex} {tg : Tg} {it : Iw} {own : List Nat} {ifs : Exs} {s : Sl} (as : List α) (e : α → D) (g : β → D) (st : σ → Sl) (f : σ → α → β × σ) (a0 : σ) (hi : evI G C it s = .ok (as.map e) (st a0)) (hw : ∀ a, wip (st a) own = st a) (hl : as.length ≤ 100000)
    (h : ∀ a x, x ∈ as → turnC (bindD tg) (evIfs G C ifs) (evE G C elt) own (e x) (st a) = some (some (g (f a x).1), st (f a x).2)) : evE G C (.comp elt tg it own ifs) s = .ok (.nw ((runS f a0 as).1.map g)) (st (runS f a0 as).2) := by
  simp only [evE, hi, R.bind, hw]
  rw [show bindT tg = bindD tg from rfl, compL_st e g st f as [] a0 h (Nat.le_trans (show [].length + as.length ≤ 100000 by simp; omega) (by decide))]
  rfl
theorem zip_maps {α β : Type} (e : α → D) (f : β → D) : ∀ (xs : List α) (ys : List β), zipL (xs.map e) (ys.map f) = (xs.zip ys).map fun p => .tuple [e p.1, f p.2]
  | [], ys => by simp [zipL]
  | x :: xs, [] => by simp [zipL]
  | x :: xs, y :: ys => by simp [zipL, zip_maps e f xs ys]
theorem zip3_maps {α β γ : Type} (e : α → D) (f : β → D) (g : γ → D) : ∀ (xs : List α) (ys : List β) (zs : List γ), zipL3 (xs.map e) (ys.map f) (zs.map g) = (xs.zip (ys.zip zs)).map fun p => .tuple [e p.1, f p.2.1, g p.2.2]
  | [], ys, zs => by simp [zipL3]
  | x :: xs, [], zs => by simp [zipL3]
  | x :: xs, y :: ys, [] => by simp [zipL3]
  | x :: xs, y :: ys, z :: zs => by simp [zipL3, zip3_maps e f g xs ys zs]
theorem enum_maps {α : Type} (e : α → D) : ∀ (xs : List α) (k : Nat), enumL k (xs.map e) = (xs.zipIdx k).map fun p => .tuple [.int (p.2 : Int), e p.1]
  | [], k => by simp [enumL]
  | x :: xs, k => by simp [enumL, enum_maps e xs (k + 1)]
theorem eqv_self : ∀ (k : Nat) (d : D), shp k d = true → PyData.eqv d d = true
  | k, .none, _ => by simp [PyData.eqv]
  | k, .bool b, _ => by simp [PyData.eqv]
  | k, .int i, _ => by simp [PyData.eqv]
  | k, .str x, _ => by simp [PyData.eqv]
  | 0, .list xs, h => by simp [shp] at h
  | 0, .tuple xs, h => by simp [shp] at h
  | k, .dict kvs, h => by cases k <;> simp [shp] at h
  | k + 1, .list xs, h => by
    simp only [shp] at h
    have key : ∀ xs : List D, xs.all (shp k) = true → PyData.eqvAll xs xs = true := by
      intro xs
      induction xs with
      | nil => intro _; simp [PyData.eqvAll]
      | cons x xs ih =>
        intro h
        simp only [List.all_cons, Bool.and_eq_true] at h
        simp [PyData.eqvAll, eqv_self k x h.1, ih h.2]
    simp [PyData.eqv, key xs h]
  | k + 1, .tuple xs, h => by
    simp only [shp] at h
    have key : ∀ xs : List D, xs.all (shp k) = true → PyData.eqvAll xs xs = true := by
      intro xs
      induction xs with
      | nil => intro _; simp [PyData.eqvAll]
      | cons x xs ih =>
        intro h
        simp only [List.all_cons, Bool.and_eq_true] at h
        simp [PyData.eqvAll, eqv_self k x h.1, ih h.2]
    simp [PyData.eqv, key xs h]
/-- the same, where the end is told -/
theorem same_cmp {x : D} (h : shp 60 x = true) : cmpD .eq x x = some true := by
  cases x with
  | str x => simp [cmpD]
  | _ => simp only [cmpD, h, Bool.and_self, if_true, eqv_self 60 _ h]
theorem same_ne {x : D} (h : shp 60 x = true) : cmpD .ne x x = some false := by
  cases x with
  | str x => simp [cmpD]
  | _ => simp only [cmpD, h, Bool.and_self, if_true, eqv_self 60 _ h, Bool.not_true]
theorem cmp_eq_of {x y : D} (h : shp 60 x = true) (h2 : shp 60 y = true) : cmpD .eq x y = some (PyData.eqv x y) := by
  cases x <;> cases y <;> first
    | (simp only [cmpD, h, h2, Bool.and_self, if_true]; done)
    | (simp [cmpD, PyData.eqv]; done)
theorem cmp_ne_of {x y : D} (h : shp 60 x = true) (h2 : shp 60 y = true) : cmpD .ne x y = some (!PyData.eqv x y) := by
  cases x <;> cases y <;> first
    | (simp only [cmpD, h, h2, Bool.and_self, if_true]; done)
    | (simp [cmpD, PyData.eqv]; done)
theorem cmp_ii (a b : Int) : cmpD .eq (.int a) (.int b) = some (decide (a = b)) := by simp [cmpD, shp, PyData.eqv]; rfl
theorem cmp_ni (a b : Int) : cmpD .ne (.int a) (.int b) = some (!decide (a = b)) := by simp [cmpD, shp, PyData.eqv]; rfl
theorem cmp_ss (a b : Str) : cmpD .eq (.str a) (.str b) = some (a == b) := rfl
theorem cmp_ns (a b : Str) : cmpD .ne (.str a) (.str b) = some (!(a == b)) := rfl
theorem cmp_bb (a b : Bool) : cmpD .eq (.bool a) (.bool b) = some (a == b) := by cases a <;> cases b <;> decide +kernel
theorem cmp_nb (a b : Bool) : cmpD .ne (.bool a) (.bool b) = some (!(a == b)) := by cases a <;> cases b <;> decide +kernel
theorem cmp_lt (a b : Int) : cmpD .lt (.int a) (.int b) = some (decide (a < b)) := rfl
theorem cmp_le (a b : Int) : cmpD .le (.int a) (.int b) = some (decide (a ≤ b)) := rfl
theorem cmp_gt (a b : Int) : cmpD .gt (.int a) (.int b) = some (decide (b < a)) := rfl
theorem cmp_ge (a b : Int) : cmpD .ge (.int a) (.int b) = some (decide (b ≤ a)) := rfl
theorem is_n : cmpD .is .none .none = some true := rfl
theorem is_b (a : Bool) : cmpD .is (.bool a) .none = some false := rfl
theorem is_i (a : Int) : cmpD .is (.int a) .none = some false := rfl
theorem is_s (a : Str) : cmpD .is (.str a) .none = some false := rfl
theorem is_l (a : List D) : cmpD .is (.list a) .none = some false := rfl
theorem is_t (a : List D) : cmpD .is (.tuple a) .none = some false := rfl
theorem is_bb (a b : Bool) : cmpD .is (.bool a) (.bool b) = some (a == b) := rfl
theorem isn_n : cmpD .isNot .none .none = some false := rfl
theorem isn_b (a : Bool) : cmpD .isNot (.bool a) .none = some true := rfl
theorem isn_i (a : Int) : cmpD .isNot (.int a) .none = some true := rfl
theorem isn_s (a : Str) : cmpD .isNot (.str a) .none = some true := rfl
theorem isn_l (a : List D) : cmpD .isNot (.list a) .none = some true := rfl
theorem isn_t (a : List D) : cmpD .isNot (.tuple a) .none = some true := rfl
theorem isn_bb (a b : Bool) : cmpD .isNot (.bool a) (.bool b) = some (a != b) := rfl
theorem ints_shp (k : Nat) (xs : List Int) : shp (k + 1) (.tuple (xs.map .int)) = true := by simp [shp]
theorem ints_shpL (k : Nat) (xs : List Int) : shp (k + 1) (.list (xs.map .int)) = true := by simp [shp]
theorem bt_nm (i : Nat) (x : D) (s : Sl) : bindT (.nm i) x s = if i < s.length then some (s.set i (some (.d x))) else none := by rw [bindT]
theorem bt_tp (ts : Tgs) (xs : List D) (s : Sl) : bindT (.tp ts) (.tuple xs) s = bindTs ts xs s := by rw [bindT]
theorem bt_nil (s : Sl) : bindTs .nil [] s = some s := by rw [bindTs]
theorem bt_cons (t : Tg) (ts : Tgs) (x : D) (xs : List D) (s : Sl) : bindTs (.cons t ts) (x :: xs) s = (bindT t x s).bind fun s1 => bindTs ts xs s1 := by rw [bindTs]
theorem idx_l (xs : List D) (i : Int) : idxD (.list xs) (.int i) = atD xs i := rfl
theorem idx_t (xs : List D) (i : Int) : idxD (.tuple xs) (.int i) = atD xs i := rfl
theorem cut_l (xs : List D) (a b : Option Int) : cutD (.list xs) a b = some (.nw (cutL xs a b)) := rfl
theorem cut_t (xs : List D) (a b : Option Int) : cutD (.tuple xs) a b = some (.d (.tuple (cutL xs a b))) := rfl
theorem seq_l (xs : List D) : seqD (.list xs) = some xs := rfl
theorem seq_t (xs : List D) : seqD (.tuple xs) = some xs := rfl
theorem rev_l (xs : List D) : revD (.list xs) = some (.nw xs.reverse) := rfl
theorem rev_t (xs : List D) : revD (.tuple xs) = some (.d (.tuple xs.reverse)) := rfl
theorem tru_n : truD .none = some false := rfl
theorem tru_b (b : Bool) : truD (.bool b) = some b := rfl
theorem tru_i (i : Int) : truD (.int i) = some (i != 0) := rfl
theorem tru_l (xs : List D) : truD (.list xs) = some (!xs.isEmpty) := rfl
theorem tru_t (xs : List D) : truD (.tuple xs) = some (!xs.isEmpty) := rfl
theorem ite_okb (P : Prop) [Decidable P] (b : Bool) (s : Sl) : (if P then R.ok (W.d (.bool b)) s else R.ok (W.d (.bool false)) s) = R.ok (W.d (.bool (decide P && b))) s := by by_cases h : P <;> simp [h]
theorem end_nx (ws : List SV) (s : Sl) : endCR ws (.nx s) = .ok (.d .none) (outsOf ws s) := rfl
theorem end_rd (ws : List SV) (x : D) (s : Sl) : endCR ws (.rt (.d x) s) = .ok (.d x) (outsOf ws s) := rfl
theorem end_rn (ws : List SV) (x : List D) (s : Sl) : endCR ws (.rt (.nw x) s) = .ok (.nw x) (outsOf ws s) := rfl
theorem end_exc (ws : List SV) (c : Nat) (s : Sl) : endCR ws (.exc c s) = .exc c (outsOf ws s) := rfl
theorem ret_d (x : D) : retOk (.d x) = true := rfl
theorem ret_nw (x : List D) : retOk (.nw x) = true := rfl
end EV

namespace EV
open PySem
theorem zipIdx_drop {α : Type} (r : List α) (j : Nat) (x : α × Nat) (rest : List (α × Nat)) (h : x :: rest = (r.drop j).zipIdx j) : r[j]? = some x.1 ∧ x.2 = j ∧ rest = (r.drop (j + 1)).zipIdx (j + 1) := by
  by_cases hj : j < r.length
  · rw [List.drop_eq_getElem_cons hj, List.zipIdx_cons] at h
    injection h with h1 h2
    subst h1
    exact ⟨List.getElem?_eq_getElem hj, rfl, h2⟩
  · rw [List.drop_eq_nil_of_le (by omega)] at h
    cases h
theorem rep1 (x : D) : ∀ n : Nat, repL [x] n = List.replicate n x
  | 0 => rfl
  | n + 1 => by
    unfold repL
    rw [List.replicate_succ, List.replicate_succ, List.flatten_cons]
    have := rep1 x n
    unfold repL at this
    rw [this]; rfl
/-- two for's -/
theorem compL_as {α : Type} {bnd : D → Sl → Option Sl} {ifs : Sl → R Bool} {elt : Sl → R W} {own : List Nat} {s0 : Sl} {e g : α → D} : ∀ (as : List α) (acc : List D), (∀ a ∈ as, turnC bnd ifs elt own (e a) s0 = some (some (g a), s0)) → acc.length + as.length ≤ 16777216 →
    compL bnd ifs elt own (as.map e) acc s0 = .ok (acc ++ as.map g) s0
  | [], acc, _, _ => by simp [compL]
  | a :: as, acc, h, hl => by
    rw [List.length_cons] at hl
    rw [List.map_cons, compL_turn (h a List.mem_cons_self) (Nat.lt_of_lt_of_le (show acc.length < 16777216 by omega) (by decide)), compL_as as _ (fun y hy => h y (List.mem_cons_of_mem _ hy)) (by simp; omega)]
    simp
theorem comp2_go {α β : Type} {G : List D} {C : Nat → List SV → CR} {elt : Ex} {tg tg2 : Tg} {it it2 : Iw} {own vs2 : List Nat} {s s1 : Sl} (as : List α) (e : α → D) (bs : α → List β) (e2 : β → D) (g : α → β → D) (sa : α → Sl) (hi : evI G C it s = .ok (as.map e) s1) (hl : (as.flatMap bs).length ≤ 100000)
    (h1 : ∀ a ∈ as, bindD tg (e a) (wip s1 own) = some (sa a)) (h2 : ∀ a ∈ as, evI G C it2 (sa a) = .ok ((bs a).map e2) (sa a)) (h3 : ∀ a ∈ as, ∀ b ∈ bs a, turnC (bindD tg2) (fun s => .ok true s) (evE G C elt) vs2 (e2 b) (wip (sa a) vs2) = some (some (g a b), wip (sa a) vs2)) (h4 : ∀ a ∈ as, wip (wip (sa a) vs2) own = wip s1 own) :
    evE G C (.comp2 elt tg it tg2 it2 own vs2) s = .ok (.nw (as.flatMap fun a => (bs a).map (g a))) (wip s1 own) := by
  simp only [evE, hi, R.bind]
  have key : ∀ (as' : List α) (acc : List D), (∀ a ∈ as', a ∈ as) → acc.length + (as'.flatMap bs).length ≤ 100000 → comp2L (bindD tg) (evI G C it2) (bindD tg2) (evE G C elt) own vs2 (as'.map e) acc (wip s1 own) = .ok (acc ++ as'.flatMap fun a => (bs a).map (g a)) (wip s1 own) := by
    intro as'
    induction as' with
    | nil => intro acc _ _; simp [comp2L]
    | cons a as' ih =>
      intro acc hm hl
      have ha := hm a List.mem_cons_self
      rw [List.flatMap_cons, List.length_append] at hl
      rw [List.map_cons, comp2L, h1 a ha]
      simp only [h2 a ha]
      rw [compL_as (bs a) acc (h3 a ha) (by omega)]
      simp only [h4 a ha]
      rw [ih _ (fun b hb => hm b (List.mem_cons_of_mem _ hb)) (by rw [List.length_append, List.length_map]; omega)]
      simp
  rw [show bindT tg = bindD tg from rfl, show bindT tg2 = bindD tg2 from rfl, key as [] (fun a h => h) (by simpa using hl)]
  rfl
/-! ### texts of data: how long they are at most -/
theorem shp_up : ∀ (k : Nat) (x : D), shp k x = true → shp (k + 1) x = true
  | k, .none, _ => by simp [shp]
  | k, .bool b, _ => by simp [shp]
  | k, .int i, _ => by simp [shp]
  | k, .str s, h => by cases k <;> simpa [shp] using h
  | 0, .list xs, h => by simp [shp] at h
  | 0, .tuple xs, h => by simp [shp] at h
  | k, .dict kvs, h => by cases k <;> simp [shp] at h
  | k + 1, .list xs, h => by
    rw [shp, List.all_eq_true] at h ⊢
    exact fun x hx => shp_up k x (h x hx)
  | k + 1, .tuple xs, h => by
    rw [shp, List.all_eq_true] at h ⊢
    exact fun x hx => shp_up k x (h x hx)
theorem shp_le {k m : Nat} {x : D} (h : shp k x = true) (hm : k ≤ m) : shp m x = true := by
  obtain ⟨d, rfl⟩ := Nat.le.dest hm
  induction d with
  | zero => exact h
  | succ d ih => exact shp_up _ x (ih (by omega))
structure Rp (x : D) (k n : Nat) : Prop where
  sh : shp k x = true
  it : PyData.intsShort 13 x = true
  sw : PyData.showable x = true
  wt : PyData.weight x ≤ n
structure Rps (xs : List D) (k n : Nat) : Prop where
  sh : xs.all (shp k) = true
  it : PyData.intsShortAll 13 xs = true
  sw : PyData.showableAll xs = true
  wt : PyData.weightAll xs ≤ n
theorem rp_none (k : Nat) : Rp .none k 0 := ⟨by simp [shp], rfl, rfl, Nat.le_refl _⟩
theorem rp_bool (k : Nat) (b : Bool) : Rp (.bool b) k 0 := ⟨by simp [shp], rfl, rfl, Nat.le_refl _⟩
theorem rp_int (k : Nat) {i : Int} (h : i.natAbs < 1000000) : Rp (.int i) k 20 := by
  have l : i.natAbs.log2 < 20 := by
    by_cases z : i.natAbs = 0
    · rw [z]; decide
    · exact (Nat.log2_lt z).mpr (by omega)
  refine ⟨by simp [shp], ?_, ?_, ?_⟩
  · simp only [PyData.intsShort, decide_eq_true_eq]
    exact PyData.shown_int_le (by omega)
  · simp only [PyData.showable, decide_eq_true_eq]
    omega
  · rw [PyData.weight]
    split <;> omega
theorem rp_str (k : Nat) {s : Str} {n : Nat} (h : s.cps.all (· < 0x110000) = true) (hn : s.cps.size ≤ n) : Rp (.str s) k n := ⟨by cases k <;> simpa [shp] using h, rfl, rfl, hn⟩
theorem Rp.up {x : D} {k n m : Nat} (h : Rp x k n) (hk : k ≤ m) : Rp x m n := ⟨shp_le h.sh hk, h.it, h.sw, h.wt⟩
theorem Rp.le {x : D} {k n m : Nat} (h : Rp x k n) (hk : n ≤ m) : Rp x k m := ⟨h.sh, h.it, h.sw, Nat.le_trans h.wt hk⟩
theorem rps_nil (k : Nat) : Rps [] k 0 := ⟨rfl, rfl, rfl, Nat.le_refl _⟩
theorem rps_cons {x : D} {xs : List D} {k n m : Nat} (h : Rp x k n) (t : Rps xs k m) : Rps (x :: xs) k (n + 1 + m) := by
  refine ⟨?_, ?_, ?_, ?_⟩
  · rw [List.all_cons, h.sh, t.sh]; rfl
  · rw [PyData.intsShortAll, h.it, t.it]; rfl
  · rw [PyData.showableAll, h.sw, t.sw]; rfl
  · rw [PyData.weightAll]
    have := h.wt
    have := t.wt
    omega
theorem rps_map {α : Type} {e : α → D} {k n : Nat} : ∀ {as : List α}, (∀ a ∈ as, Rp (e a) k n) → Rps (as.map e) k (as.length * (n + 1))
  | [], _ => by simpa using rps_nil k
  | a :: as, h => by
    have := rps_cons (h a List.mem_cons_self) (rps_map (as := as) fun b hb => h b (List.mem_cons_of_mem _ hb))
    rw [List.map_cons, List.length_cons, Nat.succ_mul]
    rwa [Nat.add_comm (n + 1)] at this
theorem rp_tup {xs : List D} {k n : Nat} (h : Rps xs k n) : Rp (.tuple xs) (k + 1) n := ⟨by rw [shp]; exact h.sh, by rw [PyData.intsShort]; exact h.it, by rw [PyData.showable]; exact h.sw, by rw [PyData.weight]; exact h.wt⟩
theorem rp_lst {xs : List D} {k n : Nat} (h : Rps xs k n) : Rp (.list xs) (k + 1) n := ⟨by rw [shp]; exact h.sh, by rw [PyData.intsShort]; exact h.it, by rw [PyData.showable]; exact h.sw, by rw [PyData.weight]; exact h.wt⟩
theorem rp_map {α : Type} {e : α → D} {k n m : Nat} {as : List α} (hl : as.length ≤ m) (h : ∀ a ∈ as, Rp (e a) k n) : Rp (.tuple (as.map e)) (k + 1) (m * (n + 1)) := (rp_tup (rps_map h)).le (Nat.mul_le_mul_right _ hl)
theorem rp_mapL {α : Type} {e : α → D} {k n m : Nat} {as : List α} (hl : as.length ≤ m) (h : ∀ a ∈ as, Rp (e a) k n) : Rp (.list (as.map e)) (k + 1) (m * (n + 1)) := (rp_lst (rps_map h)).le (Nat.mul_le_mul_right _ hl)
theorem rp_shown {x : D} {k n : Nat} (h : Rp x k n) (hk : k ≤ 60) (hn : n ≤ 1000000) : shp 60 x = true ∧ PyData.showable x = true ∧ (PyData.shown x).length ≤ lim := by
  have s := shp_le h.sh hk
  have c := shp_ok 60 x s
  refine ⟨s, h.sw, Nat.le_trans (PyData.shown_le_of_layable0 ?_ h.it) (by decide)⟩
  unfold PyData.layable0
  have := h.wt
  simp only [Bool.and_eq_true, decide_eq_true_eq]
  exact ⟨⟨c.1, by omega⟩, by omega⟩
theorem repr_t {xs : List D} {k n : Nat} (h : Rp (.tuple xs) k n) (hk : k ≤ 60) (hn : n ≤ 1000000) : reprD [.tuple xs] = some (.d (.str (PyData.shown (.tuple xs)))) := by
  obtain ⟨h1, h2, h3⟩ := rp_shown h hk hn
  simp [reprD, h1, h2, h3]
theorem repr_l {xs : List D} {k n : Nat} (h : Rp (.list xs) k n) (hk : k ≤ 60) (hn : n ≤ 1000000) : reprD [.list xs] = some (.d (.str (PyData.shown (.list xs)))) := by
  obtain ⟨h1, h2, h3⟩ := rp_shown h hk hn
  simp [reprD, h1, h2, h3]
end EV

namespace EV
open PySem
/-! ### texts of data, flat dicts among it -/
def shB (b : Bool) (k : Nat) (x : D) : Bool := if b then shp k x else shq k x
theorem shq_up : ∀ (k : Nat) (x : D), shq k x = true → shq (k + 1) x = true
  | k, .none, _ => by simp [shq]
  | k, .bool b, _ => by simp [shq]
  | k, .int i, _ => by simp [shq]
  | k, .str s, h => by cases k <;> simpa [shq] using h
  | k, .list xs, h => by cases k <;> simp [shq] at h
  | 0, .tuple xs, h => by simp [shq] at h
  | 0, .dict kvs, h => by simp [shq] at h
  | k + 1, .dict kvs, h => by simpa [shq] using h
  | k + 1, .tuple xs, h => by
    rw [shq, List.all_eq_true] at h ⊢
    exact fun x hx => shq_up k x (h x hx)
theorem shB_up {b : Bool} {k m : Nat} {x : D} (h : shB b k x = true) (hm : k ≤ m) : shB b m x = true := by
  cases b with
  | true => exact shp_le h hm
  | false =>
    obtain ⟨d, rfl⟩ := Nat.le.dest hm
    induction d with
    | zero => exact h
    | succ d ih => exact shq_up _ x (ih (by omega))
structure Gd (b : Bool) (x : D) (k n : Nat) : Prop where
  sh : shB b k x = true
  lf : PyData.leavesShort 13 x = true
  sw : PyData.showable x = true
  wt : PyData.weight x ≤ n
structure Gds (b : Bool) (xs : List D) (k n : Nat) : Prop where
  sh : xs.all (shB b k) = true
  lf : PyData.leavesShortAll 13 xs = true
  sw : PyData.showableAll xs = true
  wt : PyData.weightAll xs ≤ n
def gdB (b : Bool) (k n : Nat) (x : D) : Bool := shB b k x && PyData.leavesShort 13 x && PyData.showable x && decide (PyData.weight x ≤ n)
theorem gd_of {b : Bool} {k n : Nat} {x : D} (h : gdB b k n x = true) : Gd b x k n := by
  simp only [gdB, Bool.and_eq_true, decide_eq_true_eq] at h
  exact ⟨h.1.1.1, h.1.1.2, h.1.2, h.2⟩
theorem gd_int (b : Bool) (k : Nat) {i : Int} (h : i.natAbs < 10 ^ 12) : Gd b (.int i) k 40 := by
  have l : i.natAbs.log2 < 40 := by
    by_cases z : i.natAbs = 0
    · rw [z]; decide
    · exact (Nat.log2_lt z).mpr (by omega)
  refine ⟨?_, ?_, ?_, ?_⟩
  · cases b <;> cases k <;> simp [shB, shp, shq]
  · simp only [PyData.leavesShort, decide_eq_true_eq]
    exact PyData.shown_int_le h
  · simp only [PyData.showable, decide_eq_true_eq]
    omega
  · rw [PyData.weight]
    split <;> omega
theorem Gd.up {b : Bool} {x : D} {k n m j : Nat} (h : Gd b x k n) (hk : k ≤ m) (hn : n ≤ j) : Gd b x m j := ⟨shB_up h.sh hk, h.lf, h.sw, Nat.le_trans h.wt hn⟩
theorem gds_nil (b : Bool) (k : Nat) : Gds b [] k 0 := ⟨rfl, rfl, rfl, Nat.le_refl _⟩
theorem gds_cons {b : Bool} {x : D} {xs : List D} {k n m : Nat} (h : Gd b x k n) (t : Gds b xs k m) : Gds b (x :: xs) k (n + 1 + m) := by
  refine ⟨?_, ?_, ?_, ?_⟩
  · rw [List.all_cons, h.sh, t.sh]; rfl
  · rw [PyData.leavesShortAll, h.lf, t.lf]; rfl
  · rw [PyData.showableAll, h.sw, t.sw]; rfl
  · rw [PyData.weightAll]
    have := h.wt
    have := t.wt
    omega
theorem gds_all {b : Bool} {k n : Nat} : ∀ {xs : List D}, (∀ x ∈ xs, Gd b x k n) → Gds b xs k (xs.length * (n + 1))
  | [], _ => by simpa using gds_nil b k
  | a :: as, h => by
    have := gds_cons (h a List.mem_cons_self) (gds_all (xs := as) fun c hc => h c (List.mem_cons_of_mem _ hc))
    rw [List.length_cons, Nat.succ_mul]
    rwa [Nat.add_comm (n + 1)] at this
theorem gd_tup {b : Bool} {xs : List D} {k n : Nat} (h : Gds b xs k n) : Gd b (.tuple xs) (k + 1) n := by
  refine ⟨?_, by rw [PyData.leavesShort]; exact h.lf, by rw [PyData.showable]; exact h.sw, by rw [PyData.weight]; exact h.wt⟩
  cases b with
  | true => exact (by rw [shp]; exact h.sh : shp (k + 1) (.tuple xs) = true)
  | false => exact (by rw [shq]; exact h.sh : shq (k + 1) (.tuple xs) = true)
theorem gd_lst {xs : List D} {k n : Nat} (h : Gds true xs k n) : Gd true (.list xs) (k + 1) n :=
  ⟨(by rw [shp]; exact h.sh : shp (k + 1) (.list xs) = true), by rw [PyData.leavesShort]; exact h.lf, by rw [PyData.showable]; exact h.sw, by rw [PyData.weight]; exact h.wt⟩
theorem gd_tupA {b : Bool} {xs : List D} {k n m : Nat} (hl : xs.length ≤ m) (h : ∀ x ∈ xs, Gd b x k n) : Gd b (.tuple xs) (k + 1) (m * (n + 1)) := (gd_tup (gds_all h)).up (Nat.le_refl _) (Nat.mul_le_mul_right _ hl)
theorem gd_lstA {xs : List D} {k n m : Nat} (hl : xs.length ≤ m) (h : ∀ x ∈ xs, Gd true x k n) : Gd true (.list xs) (k + 1) (m * (n + 1)) := (gd_lst (gds_all h)).up (Nat.le_refl _) (Nat.mul_le_mul_right _ hl)
theorem gd_none (b : Bool) (k : Nat) : Gd b .none k 0 := ⟨by cases b <;> cases k <;> rfl, rfl, rfl, Nat.le_refl _⟩
theorem gd_bool (b : Bool) (k : Nat) (c : Bool) : Gd b (.bool c) k 0 := ⟨by cases b <;> cases k <;> rfl, rfl, rfl, Nat.le_refl _⟩
/-- the text is told -/
def Shows (x : D) : Prop := biD .repr [x] = some (.d (.str (PyData.shown x)))
theorem gd_shows {b : Bool} {x : D} {k n : Nat} (h : Gd b x k n) (hk : k ≤ 60) (hn : n ≤ 1000000) : Shows x := by
  have s := shB_up h.sh hk
  have l : (PyData.shown x).length ≤ lim := Nat.le_trans (PyData.shown_fits (B := 13) (by decide) (by decide) h.lf (Nat.le_trans h.wt (Nat.le_trans hn (by decide)))) (by decide)
  have w := h.sw
  unfold Shows
  cases x with
  | none => simp [biD, reprD, PyData.shown]
  | bool c => cases c <;> simp [biD, reprD, PyData.shown]
  | int i =>
    simp only [PyData.showable, decide_eq_true_eq] at w
    simp [biD, reprD, PyData.shown, w]
  | str x => simp [biD, reprD, l]
  | list xs =>
    cases b with
    | true => simp [biD, reprD, l, w, show shp 60 (.list xs) = true from s]
    | false => simp [shB, shq] at s
  | tuple xs =>
    cases b with
    | true => simp [biD, reprD, l, w, show shp 60 (.tuple xs) = true from s]
    | false => simp [biD, reprD, l, w, show shq 60 (.tuple xs) = true from s]
  | dict xs =>
    cases b with
    | true => simp [shB, shp] at s
    | false => simp [biD, reprD, l, w, show shq 60 (.dict xs) = true from s]
theorem zip_id (e : α → D) : ∀ (xs : List α) (ys : List D), zipL (xs.map e) ys = (xs.zip ys).map fun p => .tuple [e p.1, p.2]
  | [], ys => by simp [zipL]
  | x :: xs, [] => by simp [zipL]
  | x :: xs, y :: ys => by simp [zipL, zip_id e xs ys]
theorem cps_ofString (s : String) : (Str.ofString s).cps = (s.toList.map Char.toNat).toArray := by
  rw [PySem.Str.ofString_eq_byList]
  rfl
theorem ofString_ok (s : String) : (Str.ofString s).cps.all (· < 0x110000) = true := by
  rw [cps_ofString, List.all_toArray, List.all_eq_true]
  intro x hx
  obtain ⟨c, _, rfl⟩ := List.mem_map.mp hx
  have h := c.valid
  rw [decide_eq_true_eq]
  show c.val.toNat < 0x110000
  rcases h with h | h
  · exact Nat.lt_of_lt_of_le h (by decide)
  · exact h.2
theorem gd_istr (b : Bool) (k : Nat) {i : Int} (h : i.natAbs < 10 ^ 12) : Gd b (.str (Str.ofString (toString i))) k 40 := by
  have ok := ofString_ok (toString i)
  refine ⟨?_, ?_, rfl, ?_⟩
  · cases b <;> cases k <;> simpa [shB, shp, shq] using ok
  · simp only [PyData.leavesShort, List.all_eq_true, decide_eq_true_eq]
    intro c hc
    rw [Array.all_toList.symm, List.all_eq_true] at ok
    have := ok c hc
    rw [decide_eq_true_eq] at this
    exact Nat.lt_of_lt_of_le this (by decide)
  · rw [PyData.weight]
    have := PyData.shown_int_le h
    exact Nat.le_trans this (by decide)
theorem isd_t (a : List (D × D)) : cmpD .is (.dict a) .none = some false := rfl
theorem cut_mem {xs : List D} {a b : Option Int} {x : D} (h : x ∈ cutL xs a b) : x ∈ xs := List.mem_of_mem_drop (List.mem_of_mem_take h)
theorem cut_len (xs : List D) (a b : Option Int) : (cutL xs a b).length ≤ xs.length := by
  unfold cutL
  rw [List.length_take, List.length_drop]
  omega
/-- a walk over any list -/
theorem forL_lst {bnd : D → Sl → Option Sl} {body : Sl → Fl} (I : List D → Sl → Prop) {Z : Fl → Prop} {f : Sl → Fl}
    (hs : ∀ x rest s (J : Sl → Prop) (Z' : Fl → Prop), (∀ s', I rest s' → J s') → (∀ r, Z r → Z' r) → I (x :: rest) s → onS (bnd x s) fun s1 => Goes Z' J (body s1)) (h0 : ∀ s, I [] s → Z (f s)) (xs : List D) (s : Sl) (i : I xs s) : Z (thenS (forL bnd body xs s) f) := by
  have := forL_ind (bnd := bnd) (body := body) (fun d : D => d) I hs h0 xs s i
  rwa [List.map_id'] at this
end EV

namespace YK17
open PySem EV
/-! the terms: what the defs of the text say -/
abbrev top (i : Nat) : Stmt := PySem.Challenge.pw_evenpack_k17_the_first_that_does_not_fit.main.body.getD i (.Pass ⟨0, 0, 0, 0⟩)
abbrev i_is_whole : Nat := 0
abbrev i_is_among : Nat := 1
abbrev i_rises : Nat := 2
abbrev i_are_volts : Nat := 3
abbrev i_is_kind : Nat := 4
abbrev i_cell_stands : Nat := 5
abbrev i_many_stands : Nat := 6
abbrev i_is_row : Nat := 7
abbrev i_need_row : Nat := 8
abbrev i_is_cell_stand : Nat := 9
abbrev i_is_stand_of : Nat := 10
abbrev i_need_stand : Nat := 11
abbrev i_opens_by : Nat := 12
abbrev i_is_current : Nat := 13
abbrev i_is_plan : Nat := 14
abbrev i_shows_by : Nat := 15
abbrev i_cell_fault : Nat := 16
abbrev i_fault_by : Nat := 17
abbrev i_behind_by : Nat := 18
abbrev i_are_slips : Nat := 19
abbrev i_is_read : Nat := 20
abbrev i_is_reading_of : Nat := 21
abbrev i_are_readings : Nat := 22
abbrev i_need_slips : Nat := 23
abbrev i_need_readings : Nat := 24
abbrev i_is_off : Nat := 25
abbrev i_unfit_by : Nat := 26
abbrev i_need_run : Nat := 27
abbrev i_unfit_of : Nat := 28
abbrev i_first_unfit : Nat := 29
abbrev i_law_box : Nat := 30
abbrev i_law_more : Nat := 31
abbrev i_law_take : Nat := 32
abbrev i_law_kind : Nat := 33
abbrev i_law_row : Nat := 34
abbrev i_law_stand : Nat := 35
abbrev i_law_shown : Nat := 36
abbrev i_law_fault : Nat := 37
abbrev i_law_behind : Nat := 38
abbrev i_law_slips : Nat := 39
abbrev i_law_reading : Nat := 40
abbrev i_law_beats : Nat := 41
abbrev i_law_seen : Nat := 42
abbrev i_law_unfit : Nat := 43
abbrev i_law_due : Nat := 44
abbrev i_law : Nat := 45
/-- is_whole: 0 thing -/
def b_is_whole : Sms := (.cons (.ret (.andd (.cons (.bi .isInt (.cons (.v 0) .nil)) (.cons (.nott (.bi .isBool (.cons (.v 0) .nil))) .nil)))) .nil)
def f_is_whole : Fn := ⟨1, 1, [], b_is_whole⟩
/-- is_among: 0 thing 1 low 2 high -/
def b_is_among : Sms := (.cons (.ret (.andd (.cons (.call i_is_whole (.cons (.v 0) .nil)) (.cons (.chain .le .le (.v 1) (.v 0) (.v 2)) .nil)))) .nil)
def f_is_among : Fn := ⟨3, 3, [], b_is_among⟩
/-- rises: 0 row 1 one 2 other -/
def q_rises_0 : Ex := .comp (.cmp .lt (.v 1) (.v 2)) (.tp (.cons (.nm 1) (.cons (.nm 2) .nil))) (.zip (.cons (.cut (.v 0) .non (.som (.neg (.c (.int 1))))) (.cons (.cut (.v 0) (.som (.c (.int 1))) .non) .nil))) [1, 2] .nil
def b_rises : Sms := (.cons (.ret (.bi .all (.cons (q_rises_0) .nil))) .nil)
def f_rises : Fn := ⟨1, 3, [], b_rises⟩
/-- are_volts: 0 full 1 thing 2 one -/
def q_are_volts_0 : Ex := .comp (.call i_is_among (.cons (.v 2) (.cons (.c (.int 0)) (.cons (.g 1) .nil)))) (.nm 2) (.seq (.v 1)) [2] .nil
def b_are_volts : Sms := (.cons (.iff (.orr (.cons (.nott (.bi .isTuple (.cons (.v 1) .nil))) (.cons (.cmp .ne (.bi .len (.cons (.v 1) .nil)) (.bin .add (.v 0) (.c (.int 1)))) .nil))) (.cons (.ret (.c (.bool false))) .nil) .nil) (.cons (.ret (.andd (.cons (.bi .all (.cons (q_are_volts_0) .nil)) (.cons (.call i_rises (.cons (.v 1) .nil)) .nil)))) .nil))
def f_are_volts : Fn := ⟨2, 3, [], b_are_volts⟩
/-- is_kind: 0 thing 1 full 2 volts 3 loss 4 low 5 high 6 out 7 back -/
def b_is_kind : Sms := (.cons (.iff (.orr (.cons (.nott (.bi .isTuple (.cons (.v 0) .nil))) (.cons (.cmp .ne (.bi .len (.cons (.v 0) .nil)) (.c (.int 7))) (.cons (.nott (.call i_is_among (.cons (.idx (.v 0) (.c (.int 0))) (.cons (.c (.int 1)) (.cons (.g 0) .nil))))) .nil)))) (.cons (.ret (.c (.bool false))) .nil) .nil) (.cons (.unp (.tp (.cons (.nm 1) (.cons (.nm 2) (.cons (.nm 3) (.cons (.nm 4) (.cons (.nm 5) (.cons (.nm 6) (.cons (.nm 7) .nil)))))))) (.v 0)) (.cons (.iff (.orr (.cons (.nott (.call i_are_volts (.cons (.v 1) (.cons (.v 2) .nil)))) (.cons (.nott (.call i_is_among (.cons (.v 3) (.cons (.c (.int 0)) (.cons (.g 2) .nil))))) (.cons (.nott (.call i_is_among (.cons (.v 5) (.cons (.c (.int 0)) (.cons (.g 1) .nil))))) .nil)))) (.cons (.ret (.c (.bool false))) .nil) .nil) (.cons (.ret (.andd (.cons (.call i_is_among (.cons (.v 4) (.cons (.c (.int 0)) (.cons (.v 5) .nil)))) (.cons (.call i_is_among (.cons (.v 6) (.cons (.c (.int 1)) (.cons (.g 3) .nil)))) (.cons (.call i_is_among (.cons (.v 7) (.cons (.c (.int 0)) (.cons (.g 4) .nil)))) .nil))))) .nil))))
def f_is_kind : Fn := ⟨1, 8, [], b_is_kind⟩
/-- cell_stands: 0 kind 1 found 2 charge 3 worn -/
def l_cell_stands_0b : Sms := (.cons (.iff (.cmp .le (.bin .add (.v 2) (.v 3)) (.idx (.v 0) (.c (.int 0)))) (.cons (.app 1 (.tup (.cons (.v 2) (.cons (.v 3) .nil)))) .nil) .nil) .nil)
def l_cell_stands_0 : Sm := .forr (.nm 3) (.rng (.cons (.bin .add (.bi .min2 (.cons (.g 5) (.cons (.bin .sub (.idx (.v 0) (.c (.int 0))) (.c (.int 1))) .nil))) (.c (.int 1))) .nil)) l_cell_stands_0b
def l_cell_stands_1b : Sms := (.cons (l_cell_stands_0) .nil)
def l_cell_stands_1 : Sm := .forr (.nm 2) (.rng (.cons (.bin .add (.idx (.v 0) (.c (.int 0))) (.c (.int 1))) .nil)) l_cell_stands_1b
def b_cell_stands : Sms := (.cons (.seto 1 (.lst .nil)) (.cons (l_cell_stands_1) (.cons (.ret (.fz 1)) .nil)))
def f_cell_stands : Fn := ⟨1, 4, [], b_cell_stands⟩
/-- many_stands: 0 row 1 found 2 kind -/
def l_many_stands_0b : Sms := (.cons (.set 1 (.bin .mul (.v 1) (.bi .len (.cons (.call i_cell_stands (.cons (.v 2) .nil)) .nil)))) .nil)
def l_many_stands_0 : Sm := .forr (.nm 2) (.seq (.v 0)) l_many_stands_0b
def b_many_stands : Sms := (.cons (.set 1 (.c (.int 1))) (.cons (l_many_stands_0) (.cons (.ret (.v 1)) .nil)))
def f_many_stands : Fn := ⟨1, 3, [], b_many_stands⟩
/-- is_row: 0 thing 1 one -/
def q_is_row_0 : Ex := .comp (.call i_is_kind (.cons (.v 1) .nil)) (.nm 1) (.seq (.v 0)) [1] .nil
def b_is_row : Sms := (.cons (.iff (.orr (.cons (.nott (.bi .isTuple (.cons (.v 0) .nil))) (.cons (.nott (.chain .le .le (.c (.int 1)) (.bi .len (.cons (.v 0) .nil)) (.g 6))) (.cons (.nott (.bi .all (.cons (q_is_row_0) .nil))) .nil)))) (.cons (.ret (.c (.bool false))) .nil) .nil) (.cons (.ret (.cmp .le (.call i_many_stands (.cons (.v 0) .nil)) (.g 7))) .nil))
def f_is_row : Fn := ⟨1, 2, [], b_is_row⟩
/-- need_row: 0 thing -/
def b_need_row : Sms := (.cons (.iff (.nott (.call i_is_row (.cons (.v 0) .nil))) (.cons (.nev) .nil) .nil) .nil)
def f_need_row : Fn := ⟨1, 1, [], b_need_row⟩
/-- is_cell_stand: 0 kind 1 thing -/
def b_is_cell_stand : Sms := (.cons (.iff (.orr (.cons (.nott (.bi .isTuple (.cons (.v 1) .nil))) (.cons (.cmp .ne (.bi .len (.cons (.v 1) .nil)) (.c (.int 2))) (.cons (.nott (.call i_is_among (.cons (.idx (.v 1) (.c (.int 1))) (.cons (.c (.int 0)) (.cons (.bi .min2 (.cons (.g 5) (.cons (.bin .sub (.idx (.v 0) (.c (.int 0))) (.c (.int 1))) .nil))) .nil))))) .nil)))) (.cons (.ret (.c (.bool false))) .nil) .nil) (.cons (.ret (.call i_is_among (.cons (.idx (.v 1) (.c (.int 0))) (.cons (.c (.int 0)) (.cons (.bin .sub (.idx (.v 0) (.c (.int 0))) (.idx (.v 1) (.c (.int 1)))) .nil))))) .nil))
def f_is_cell_stand : Fn := ⟨2, 2, [], b_is_cell_stand⟩
/-- is_stand_of: 0 row 1 thing 2 kind 3 one -/
def q_is_stand_of_0 : Ex := .comp (.call i_is_cell_stand (.cons (.v 2) (.cons (.v 3) .nil))) (.tp (.cons (.nm 2) (.cons (.nm 3) .nil))) (.zip (.cons (.v 0) (.cons (.v 1) .nil))) [2, 3] .nil
def b_is_stand_of : Sms := (.cons (.iff (.orr (.cons (.nott (.bi .isTuple (.cons (.v 1) .nil))) (.cons (.cmp .ne (.bi .len (.cons (.v 1) .nil)) (.bi .len (.cons (.v 0) .nil))) .nil))) (.cons (.ret (.c (.bool false))) .nil) .nil) (.cons (.ret (.bi .all (.cons (q_is_stand_of_0) .nil))) .nil))
def f_is_stand_of : Fn := ⟨2, 4, [], b_is_stand_of⟩
/-- need_stand: 0 row 1 thing -/
def b_need_stand : Sms := (.cons (.ex (.call i_need_row (.cons (.v 0) .nil))) (.cons (.iff (.nott (.call i_is_stand_of (.cons (.v 0) (.cons (.v 1) .nil)))) (.cons (.nev) .nil) .nil) .nil))
def f_need_stand : Fn := ⟨2, 2, [], b_need_stand⟩
/-- opens_by: 0 row 1 stand 2 kind 3 charge 4 worn -/
def q_opens_by_0 : Ex := .comp (.idx (.idx (.v 2) (.c (.int 1))) (.bin .add (.v 3) (.v 4))) (.tp (.cons (.nm 2) (.cons (.tp (.cons (.nm 3) (.cons (.nm 4) .nil))) .nil))) (.zip (.cons (.v 0) (.cons (.v 1) .nil))) [2, 3, 4] .nil
def b_opens_by : Sms := (.cons (.ret (.bi .tuple (.cons (q_opens_by_0) .nil))) .nil)
def f_opens_by : Fn := ⟨2, 5, [], b_opens_by⟩
/-- is_current: 0 thing -/
def b_is_current : Sms := (.cons (.ret (.call i_is_among (.cons (.v 0) (.cons (.bin .sub (.c (.int 0)) (.g 8)) (.cons (.g 8) .nil))))) .nil)
def f_is_current : Fn := ⟨1, 1, [], b_is_current⟩
/-- is_plan: 0 thing 1 one -/
def q_is_plan_0 : Ex := .comp (.call i_is_current (.cons (.v 1) .nil)) (.nm 1) (.seq (.v 0)) [1] .nil
def b_is_plan : Sms := (.cons (.ret (.andd (.cons (.bi .isTuple (.cons (.v 0) .nil)) (.cons (.cmp .le (.bi .len (.cons (.v 0) .nil)) (.g 9)) (.cons (.bi .all (.cons (q_is_plan_0) .nil)) .nil))))) .nil)
def f_is_plan : Fn := ⟨1, 2, [], b_is_plan⟩
/-- shows_by: 0 row 1 stand 2 current 3 found 4 kind 5 charge 6 worn 7 volts -/
def l_shows_by_0b : Sms := (.cons (.app 3 (.bin .sub (.v 7) (.bin .mul (.bin .mul (.v 2) (.idx (.v 4) (.c (.int 2)))) (.bin .add (.v 6) (.c (.int 1)))))) .nil)
def l_shows_by_0 : Sm := .forr (.tp (.cons (.nm 4) (.cons (.tp (.cons (.nm 5) (.cons (.nm 6) .nil))) (.cons (.nm 7) .nil)))) (.zip (.cons (.v 0) (.cons (.v 1) (.cons (.call i_opens_by (.cons (.v 0) (.cons (.v 1) .nil))) .nil)))) l_shows_by_0b
def b_shows_by : Sms := (.cons (.seto 3 (.lst .nil)) (.cons (l_shows_by_0) (.cons (.ret (.bi .tuple (.cons (.v 3) .nil))) .nil)))
def f_shows_by : Fn := ⟨3, 8, [], b_shows_by⟩
/-- cell_fault: 0 kind 1 cell 2 current 3 shown 4 full 5 volts 6 loss 7 low 8 high 9 out 10 back 11 charge 12 worn -/
def b_cell_fault : Sms := (.cons (.unp (.tp (.cons (.nm 4) (.cons (.nm 5) (.cons (.nm 6) (.cons (.nm 7) (.cons (.nm 8) (.cons (.nm 9) (.cons (.nm 10) .nil)))))))) (.v 0)) (.cons (.unp (.tp (.cons (.nm 11) (.cons (.nm 12) .nil))) (.v 1)) (.cons (.iff (.orr (.cons (.cmp .gt (.v 2) (.v 9)) (.cons (.cmp .lt (.v 2) (.bin .sub (.c (.int 0)) (.v 10))) .nil))) (.cons (.ret (.c (.str (Str.ofString "draw")))) .nil) .nil) (.cons (.iff (.cmp .lt (.bin .sub (.v 11) (.v 2)) (.c (.int 0))) (.cons (.ret (.c (.str (Str.ofString "empty")))) .nil) .nil) (.cons (.iff (.cmp .gt (.bin .sub (.v 11) (.v 2)) (.bin .sub (.v 4) (.v 12))) (.cons (.ret (.c (.str (Str.ofString "over")))) .nil) .nil) (.cons (.iff (.cmp .lt (.v 3) (.v 7)) (.cons (.ret (.c (.str (Str.ofString "low")))) .nil) .nil) (.cons (.ret (.ite (.cmp .gt (.v 3) (.v 8)) (.c (.str (Str.ofString "high"))) (.c .none))) .nil)))))))
def f_cell_fault : Fn := ⟨4, 13, [], b_cell_fault⟩
/-- fault_by: 0 row 1 stand 2 current 3 number 4 shown 5 word -/
def l_fault_by_0b : Sms := (.cons (.set 5 (.call i_cell_fault (.cons (.idx (.v 0) (.v 3)) (.cons (.idx (.v 1) (.v 3)) (.cons (.v 2) (.cons (.v 4) .nil)))))) (.cons (.iff (.cmp .isNot (.v 5) (.c .none)) (.cons (.ret (.tup (.cons (.v 3) (.cons (.v 5) .nil)))) .nil) .nil) .nil))
def l_fault_by_0 : Sm := .forr (.tp (.cons (.nm 3) (.cons (.nm 4) .nil))) (.enum (.cons (.call i_shows_by (.cons (.v 0) (.cons (.v 1) (.cons (.v 2) .nil)))) .nil)) l_fault_by_0b
def b_fault_by : Sms := (.cons (l_fault_by_0) (.cons (.ret (.c .none)) .nil))
def f_fault_by : Fn := ⟨3, 6, [], b_fault_by⟩
/-- behind_by: 0 row 1 stand 2 current 3 charge 4 worn -/
def q_behind_by_0 : Ex := .comp (.tup (.cons (.bin .sub (.v 3) (.v 2)) (.cons (.v 4) .nil))) (.tp (.cons (.nm 3) (.cons (.nm 4) .nil))) (.seq (.v 1)) [3, 4] .nil
def b_behind_by : Sms := (.cons (.ret (.bi .tuple (.cons (q_behind_by_0) .nil))) .nil)
def f_behind_by : Fn := ⟨3, 5, [], b_behind_by⟩
/-- are_slips: 0 thing 1 one 2 most -/
def q_are_slips_0 : Ex := .comp (.call i_is_among (.cons (.v 1) (.cons (.c (.int 0)) (.cons (.v 2) .nil)))) (.tp (.cons (.nm 1) (.cons (.nm 2) .nil))) (.zip (.cons (.v 0) (.cons (.g 13) .nil))) [1, 2] .nil
def b_are_slips : Sms := (.cons (.iff (.orr (.cons (.nott (.bi .isTuple (.cons (.v 0) .nil))) (.cons (.cmp .ne (.bi .len (.cons (.v 0) .nil)) (.bi .len (.cons (.g 13) .nil))) .nil))) (.cons (.ret (.c (.bool false))) .nil) .nil) (.cons (.ret (.bi .all (.cons (q_are_slips_0) .nil))) .nil))
def f_are_slips : Fn := ⟨1, 3, [], b_are_slips⟩
/-- is_read: 0 thing 1 most -/
def b_is_read : Sms := (.cons (.ret (.orr (.cons (.cmp .is (.v 0) (.c .none)) (.cons (.call i_is_among (.cons (.v 0) (.cons (.bin .sub (.c (.int 0)) (.v 1)) (.cons (.v 1) .nil)))) .nil)))) .nil)
def f_is_read : Fn := ⟨2, 2, [], b_is_read⟩
/-- is_reading_of: 0 row 1 thing 2 volts 3 one -/
def q_is_reading_of_0 : Ex := .comp (.call i_is_read (.cons (.v 3) (.cons (.g 12) .nil))) (.nm 3) (.seq (.v 2)) [3] .nil
def b_is_reading_of : Sms := (.cons (.iff (.orr (.cons (.nott (.bi .isTuple (.cons (.v 1) .nil))) (.cons (.cmp .ne (.bi .len (.cons (.v 1) .nil)) (.c (.int 2))) (.cons (.nott (.call i_is_read (.cons (.idx (.v 1) (.c (.int 0))) (.cons (.g 11) .nil)))) .nil)))) (.cons (.ret (.c (.bool false))) .nil) .nil) (.cons (.set 2 (.idx (.v 1) (.c (.int 1)))) (.cons (.iff (.orr (.cons (.nott (.bi .isTuple (.cons (.v 2) .nil))) (.cons (.cmp .ne (.bi .len (.cons (.v 2) .nil)) (.bi .len (.cons (.v 0) .nil))) .nil))) (.cons (.ret (.c (.bool false))) .nil) .nil) (.cons (.ret (.bi .all (.cons (q_is_reading_of_0) .nil))) .nil))))
def f_is_reading_of : Fn := ⟨2, 4, [], b_is_reading_of⟩
/-- are_readings: 0 row 1 thing 2 one -/
def q_are_readings_0 : Ex := .comp (.call i_is_reading_of (.cons (.v 0) (.cons (.v 2) .nil))) (.nm 2) (.seq (.v 1)) [2] .nil
def b_are_readings : Sms := (.cons (.iff (.orr (.cons (.nott (.bi .isTuple (.cons (.v 1) .nil))) (.cons (.cmp .gt (.bi .len (.cons (.v 1) .nil)) (.g 10)) .nil))) (.cons (.ret (.c (.bool false))) .nil) .nil) (.cons (.ret (.bi .all (.cons (q_are_readings_0) .nil))) .nil))
def f_are_readings : Fn := ⟨2, 3, [], b_are_readings⟩
/-- need_slips: 0 thing -/
def b_need_slips : Sms := (.cons (.iff (.nott (.call i_are_slips (.cons (.v 0) .nil))) (.cons (.nev) .nil) .nil) .nil)
def f_need_slips : Fn := ⟨1, 1, [], b_need_slips⟩
/-- need_readings: 0 row 1 slips 2 readings -/
def b_need_readings : Sms := (.cons (.ex (.call i_need_row (.cons (.v 0) .nil))) (.cons (.ex (.call i_need_slips (.cons (.v 1) .nil))) (.cons (.iff (.nott (.call i_are_readings (.cons (.v 0) (.cons (.v 2) .nil)))) (.cons (.nev) .nil) .nil) .nil)))
def f_need_readings : Fn := ⟨3, 3, [], b_need_readings⟩
/-- is_off: 0 told 1 read 2 slip -/
def b_is_off : Sms := (.cons (.ret (.andd (.cons (.cmp .isNot (.v 1) (.c .none)) (.cons (.cmp .gt (.bi .abs (.cons (.bin .sub (.v 0) (.v 1)) .nil)) (.v 2)) .nil)))) .nil)
def f_is_off : Fn := ⟨3, 3, [], b_is_off⟩
/-- unfit_by: 0 row 1 slips 2 reading 3 stand 4 current 5 cell 6 told -/
def l_unfit_by_0b : Sms := (.cons (.iff (.call i_is_off (.cons (.v 6) (.cons (.idx (.idx (.v 2) (.c (.int 1))) (.v 5)) (.cons (.idx (.v 1) (.c (.int 1))) .nil)))) (.cons (.ret (.bin .add (.v 5) (.c (.int 1)))) .nil) .nil) .nil)
def l_unfit_by_0 : Sm := .forr (.tp (.cons (.nm 5) (.cons (.nm 6) .nil))) (.enum (.cons (.call i_shows_by (.cons (.v 0) (.cons (.v 3) (.cons (.v 4) .nil)))) .nil)) l_unfit_by_0b
def b_unfit_by : Sms := (.cons (.iff (.cmp .isNot (.call i_fault_by (.cons (.v 0) (.cons (.v 3) (.cons (.v 4) .nil)))) (.c .none)) (.cons (.ret (.g 14)) .nil) .nil) (.cons (.iff (.call i_is_off (.cons (.v 4) (.cons (.idx (.v 2) (.c (.int 0))) (.cons (.idx (.v 1) (.c (.int 0))) .nil)))) (.cons (.ret (.g 15)) .nil) .nil) (.cons (l_unfit_by_0) (.cons (.ret (.c .none)) .nil))))
def f_unfit_by : Fn := ⟨5, 7, [], b_unfit_by⟩
/-- need_run: 0 readings 1 plan -/
def b_need_run : Sms := (.cons (.iff (.orr (.cons (.nott (.call i_is_plan (.cons (.v 1) .nil))) (.cons (.cmp .ne (.bi .len (.cons (.v 1) .nil)) (.bi .len (.cons (.v 0) .nil))) .nil))) (.cons (.nev) .nil) .nil) .nil)
def f_need_run : Fn := ⟨2, 2, [], b_need_run⟩
/-- unfit_of: 0 row 1 slips 2 readings 3 stand 4 plan 5 beat 6 reading 7 current 8 place -/
def l_unfit_of_0b : Sms := (.cons (.set 8 (.call i_unfit_by (.cons (.v 0) (.cons (.v 1) (.cons (.v 6) (.cons (.v 3) (.cons (.v 7) .nil))))))) (.cons (.iff (.cmp .isNot (.v 8) (.c .none)) (.cons (.ret (.tup (.cons (.v 5) (.cons (.v 8) .nil)))) .nil) .nil) (.cons (.set 3 (.call i_behind_by (.cons (.v 0) (.cons (.v 3) (.cons (.v 7) .nil))))) .nil)))
def l_unfit_of_0 : Sm := .forr (.tp (.cons (.nm 5) (.cons (.tp (.cons (.nm 6) (.cons (.nm 7) .nil))) .nil))) (.enz (.cons (.v 2) (.cons (.v 4) .nil))) l_unfit_of_0b
def b_unfit_of : Sms := (.cons (l_unfit_of_0) (.cons (.ret (.c .none)) .nil))
def f_unfit_of : Fn := ⟨5, 9, [], b_unfit_of⟩
/-- first_unfit: 0 row 1 slips 2 readings 3 stand 4 plan -/
def b_first_unfit : Sms := (.cons (.ex (.call i_need_readings (.cons (.v 0) (.cons (.v 1) (.cons (.v 2) .nil))))) (.cons (.ex (.call i_need_stand (.cons (.v 0) (.cons (.v 3) .nil)))) (.cons (.ex (.call i_need_run (.cons (.v 2) (.cons (.v 4) .nil)))) (.cons (.ret (.call i_unfit_of (.cons (.v 0) (.cons (.v 1) (.cons (.v 2) (.cons (.v 3) (.cons (.v 4) .nil))))))) .nil))))
def f_first_unfit : Fn := ⟨5, 5, [], b_first_unfit⟩
/-- _law_box: 0 _law_script 1 _law_k 2 _law_here 3 _law_number 4 _law_j 5 _law_piece -/
def l_law_box_0b : Sms := (.cons (.set 5 (.bin .mod (.bin .add (.bin .add (.bin .mul (.bin .mod (.v 2) (.c (.int 2147483647))) (.c (.int 48271))) (.bin .mul (.c (.int 7919)) (.v 4))) (.c (.int 1))) (.c (.int 2147483647)))) (.cons (.set 5 (.bin .mod (.bin .mul (.v 5) (.v 5)) (.c (.int 2147483629)))) (.cons (.set 3 (.bin .add (.bin .mul (.v 3) (.c (.int 2147483647))) (.bin .mod (.bin .mul (.v 5) (.bin .add (.v 5) (.c (.int 13)))) (.c (.int 2147483647))))) .nil)))
def l_law_box_0 : Sm := .forr (.nm 4) (.rng (.cons (.c (.int 16)) .nil)) l_law_box_0b
def b_law_box : Sms := (.cons (.set 2 (.bin .add (.bin .mul (.c (.int 7919)) (.v 1)) (.c (.int 13)))) (.cons (.iff (.cmp .lt (.v 1) (.bi .len (.cons (.v 0) .nil))) (.cons (.set 2 (.idx (.v 0) (.v 1))) .nil) .nil) (.cons (.iff (.cmp .eq (.bin .mod (.v 2) (.c (.int 2))) (.c (.int 0))) (.cons (.ret (.lst (.cons (.bin .fdiv (.v 2) (.c (.int 2))) (.cons (.bin .mod (.bi .abs (.cons (.v 2) .nil)) (.c (.int 2147483647))) .nil)))) .nil) .nil) (.cons (.set 3 (.c (.int 0))) (.cons (l_law_box_0) (.cons (.ret (.lst (.cons (.v 3) (.cons (.bin .mod (.bi .abs (.cons (.v 2) .nil)) (.c (.int 2147483647))) .nil)))) .nil))))))
def f_law_box : Fn := ⟨2, 6, [], b_law_box⟩
/-- _law_more: 0 _law_box_here 1 _law_number 2 _law_j -/
def l_law_more_0b : Sms := (.cons (.seti 0 (.c (.int 1)) (.bin .mod (.bin .add (.bin .mul (.idx (.v 0) (.c (.int 1))) (.c (.int 48271))) (.c (.int 30269))) (.c (.int 2147483647)))) (.cons (.set 1 (.bin .add (.bin .mul (.v 1) (.c (.int 65521))) (.bin .mod (.bin .fdiv (.idx (.v 0) (.c (.int 1))) (.c (.int 7))) (.c (.int 65521))))) .nil))
def l_law_more_0 : Sm := .forr (.nm 2) (.rng (.cons (.c (.int 12)) .nil)) l_law_more_0b
def b_law_more : Sms := (.cons (.set 1 (.c (.int 0))) (.cons (l_law_more_0) (.cons (.ret (.v 1)) .nil)))
def f_law_more : Fn := ⟨1, 3, [0], b_law_more⟩
/-- _law_take: 0 _law_box_here 1 _law_count 2 _law_rest_of 3 _law_digit -/
def b_law_take : Sms := (.cons (.iff (.chain .le .lt (.c (.int 0)) (.idx (.v 0) (.c (.int 0))) (.v 1)) (.cons (.seti 0 (.c (.int 0)) (.bin .add (.idx (.v 0) (.c (.int 0))) (.bin .mul (.v 1) (.call i_law_more (.cons (.io 0) .nil))))) .nil) .nil) (.cons (.unp (.tp (.cons (.nm 2) (.cons (.nm 3) .nil))) (.bi .divmod (.cons (.idx (.v 0) (.c (.int 0))) (.cons (.v 1) .nil)))) (.cons (.seti 0 (.c (.int 0)) (.v 2)) (.cons (.ret (.v 3)) .nil))))
def f_law_take : Fn := ⟨2, 4, [0], b_law_take⟩
/-- _law_kind: 0 _law_box_here 1 _law_most 2 _law_full 3 _law_volts 4 _law_turn 5 _law_low 6 _law_high 7 _law_loss -/
def l_law_kind_0b : Sms := (.cons (.app 3 (.bin .add (.bin .add (.idx (.v 3) (.neg (.c (.int 1)))) (.c (.int 1))) (.call i_law_take (.cons (.io 0) (.cons (.idx (.lst (.cons (.c (.int 3)) (.cons (.c (.int 40)) .nil))) (.call i_law_take (.cons (.io 0) (.cons (.c (.int 2)) .nil)))) .nil))))) .nil)
def l_law_kind_0 : Sm := .forr (.nm 4) (.rng (.cons (.v 2) .nil)) l_law_kind_0b
def b_law_kind : Sms := (.cons (.parn [(2, false), (3, true)] (.cons (.bin .add (.c (.int 1)) (.call i_law_take (.cons (.io 0) (.cons (.v 1) .nil)))) (.cons (.lst (.cons (.call i_law_take (.cons (.io 0) (.cons (.c (.int 200)) .nil))) .nil)) .nil))) (.cons (l_law_kind_0) (.cons (.set 5 (.idx (.lst (.cons (.c (.int 0)) (.cons (.c (.int 0)) (.cons (.idx (.v 3) (.c (.int 0))) (.cons (.bi .max2 (.cons (.c (.int 0)) (.cons (.bin .sub (.idx (.v 3) (.c (.int 0))) (.call i_law_take (.cons (.io 0) (.cons (.c (.int 20)) .nil)))) .nil))) .nil))))) (.call i_law_take (.cons (.io 0) (.cons (.c (.int 4)) .nil))))) (.cons (.set 6 (.idx (.lst (.cons (.c (.int 900)) (.cons (.c (.int 900)) (.cons (.idx (.v 3) (.neg (.c (.int 1)))) (.cons (.bi .min2 (.cons (.c (.int 900)) (.cons (.bin .add (.idx (.v 3) (.neg (.c (.int 1)))) (.call i_law_take (.cons (.io 0) (.cons (.c (.int 20)) .nil)))) .nil))) .nil))))) (.call i_law_take (.cons (.io 0) (.cons (.c (.int 4)) .nil))))) (.cons (.set 7 (.idx (.lst (.cons (.call i_law_take (.cons (.io 0) (.cons (.c (.int 4)) .nil))) (.cons (.call i_law_take (.cons (.io 0) (.cons (.c (.int 51)) .nil))) .nil))) (.bin .fdiv (.call i_law_take (.cons (.io 0) (.cons (.c (.int 4)) .nil))) (.c (.int 3))))) (.cons (.ret (.tup (.cons (.v 2) (.cons (.bi .tuple (.cons (.v 3) .nil)) (.cons (.v 7) (.cons (.v 5) (.cons (.v 6) (.cons (.bin .add (.c (.int 1)) (.call i_law_take (.cons (.io 0) (.cons (.c (.int 4)) .nil)))) (.cons (.call i_law_take (.cons (.io 0) (.cons (.c (.int 5)) .nil))) .nil))))))))) .nil))))))
def f_law_kind : Fn := ⟨2, 8, [0], b_law_kind⟩
/-- _law_row: 0 _law_box_here 1 _law_many 2 _law_most 3 _law_cell -/
def q_law_row_0 : Ex := .comp (.call i_law_kind (.cons (.io 0) (.cons (.v 2) .nil))) (.nm 3) (.rng (.cons (.v 1) .nil)) [3] .nil
def b_law_row : Sms := (.cons (.set 1 (.bin .add (.c (.int 1)) (.bin .fdiv (.call i_law_take (.cons (.io 0) (.cons (.c (.int 5)) .nil))) (.c (.int 2))))) (.cons (.set 2 (.idx (.lst (.cons (.c (.int 7)) (.cons (.c (.int 3)) (.cons (.c (.int 2)) .nil)))) (.bin .sub (.v 1) (.c (.int 1))))) (.cons (.ret (.bi .tuple (.cons (q_law_row_0) .nil))) .nil)))
def f_law_row : Fn := ⟨1, 4, [0], b_law_row⟩
/-- _law_stand: 0 _law_box_here 1 _law_row_here 2 _law_found 3 _law_kind_here 4 _law_worn -/
def l_law_stand_0b : Sms := (.cons (.set 4 (.call i_law_take (.cons (.io 0) (.cons (.bin .add (.bi .min2 (.cons (.c (.int 2)) (.cons (.bin .sub (.idx (.v 3) (.c (.int 0))) (.c (.int 1))) .nil))) (.c (.int 1))) .nil)))) (.cons (.app 2 (.tup (.cons (.call i_law_take (.cons (.io 0) (.cons (.bin .add (.bin .sub (.idx (.v 3) (.c (.int 0))) (.v 4)) (.c (.int 1))) .nil))) (.cons (.v 4) .nil)))) .nil))
def l_law_stand_0 : Sm := .forr (.nm 3) (.seq (.v 1)) l_law_stand_0b
def b_law_stand : Sms := (.cons (.seto 2 (.lst .nil)) (.cons (l_law_stand_0) (.cons (.ret (.bi .tuple (.cons (.v 2) .nil))) .nil)))
def f_law_stand : Fn := ⟨2, 5, [0], b_law_stand⟩
/-- _law_shown: 0 _law_row_here 1 _law_stand_here 2 _law_current 3 _law_kind_here 4 _law_charge 5 _law_worn -/
def q_law_shown_0 : Ex := .comp (.bin .sub (.idx (.idx (.v 3) (.c (.int 1))) (.bin .add (.v 4) (.v 5))) (.bin .mul (.bin .mul (.v 2) (.idx (.v 3) (.c (.int 2)))) (.bin .add (.v 5) (.c (.int 1))))) (.tp (.cons (.nm 3) (.cons (.tp (.cons (.nm 4) (.cons (.nm 5) .nil))) .nil))) (.zip (.cons (.v 0) (.cons (.v 1) .nil))) [3, 4, 5] .nil
def b_law_shown : Sms := (.cons (.ret (q_law_shown_0)) .nil)
def f_law_shown : Fn := ⟨3, 6, [], b_law_shown⟩
/-- _law_fault: 0 _law_row_here 1 _law_stand_here 2 _law_current 3 _law_cell 4 _law_kind_here 5 _law_charge 6 _law_worn 7 _law_volts 8 _law_some 9 _law_words_due 10 _law_word 11 _law_holds -/
def q_law_fault_0 : Ex := .comp (.v 10) (.tp (.cons (.nm 10) (.cons (.nm 11) .nil))) (.seq (.v 8)) [10, 11] (.cons (.v 11) .nil)
def l_law_fault_0b : Sms := (.cons (.set 7 (.idx (.call i_law_shown (.cons (.v 0) (.cons (.v 1) (.cons (.v 2) .nil)))) (.v 3))) (.cons (.set 8 (.lst (.cons (.tup (.cons (.c (.str (Str.ofString "draw"))) (.cons (.orr (.cons (.cmp .gt (.v 2) (.idx (.v 4) (.c (.int 5)))) (.cons (.cmp .lt (.v 2) (.bin .sub (.c (.int 0)) (.idx (.v 4) (.c (.int 6))))) .nil))) .nil))) (.cons (.tup (.cons (.c (.str (Str.ofString "empty"))) (.cons (.cmp .lt (.bin .sub (.v 5) (.v 2)) (.c (.int 0))) .nil))) .nil)))) (.cons (.set 8 (.bin .add (.v 8) (.lst (.cons (.tup (.cons (.c (.str (Str.ofString "over"))) (.cons (.cmp .gt (.bin .sub (.v 5) (.v 2)) (.bin .sub (.idx (.v 4) (.c (.int 0))) (.v 6))) .nil))) (.cons (.tup (.cons (.c (.str (Str.ofString "low"))) (.cons (.cmp .lt (.v 7) (.idx (.v 4) (.c (.int 3)))) .nil))) (.cons (.tup (.cons (.c (.str (Str.ofString "high"))) (.cons (.cmp .gt (.v 7) (.idx (.v 4) (.c (.int 4)))) .nil))) .nil)))))) (.cons (.set 9 (q_law_fault_0)) (.cons (.iff (.cmp .ne (.v 9) (.lst .nil)) (.cons (.ret (.tup (.cons (.v 3) (.cons (.idx (.v 9) (.c (.int 0))) .nil)))) .nil) .nil) .nil)))))
def l_law_fault_0 : Sm := .forr (.tp (.cons (.nm 3) (.cons (.tp (.cons (.nm 4) (.cons (.tp (.cons (.nm 5) (.cons (.nm 6) .nil))) .nil))) .nil))) (.enz (.cons (.v 0) (.cons (.v 1) .nil))) l_law_fault_0b
def b_law_fault : Sms := (.cons (l_law_fault_0) (.cons (.ret (.c .none)) .nil))
def f_law_fault : Fn := ⟨3, 12, [], b_law_fault⟩
/-- _law_behind: 0 _law_stand_here 1 _law_current 2 _law_charge 3 _law_worn -/
def q_law_behind_0 : Ex := .comp (.tup (.cons (.bin .sub (.v 2) (.v 1)) (.cons (.v 3) .nil))) (.tp (.cons (.nm 2) (.cons (.nm 3) .nil))) (.seq (.v 0)) [2, 3] .nil
def b_law_behind : Sms := (.cons (.ret (.bi .tuple (.cons (q_law_behind_0) .nil))) .nil)
def f_law_behind : Fn := ⟨2, 4, [], b_law_behind⟩
/-- _law_slips: 0 _law_box_here -/
def b_law_slips : Sms := (.cons (.ret (.tup (.cons (.idx (.lst (.cons (.c (.int 0)) (.cons (.c (.int 0)) (.cons (.c (.int 1)) (.cons (.c (.int 2)) .nil))))) (.call i_law_take (.cons (.io 0) (.cons (.c (.int 4)) .nil)))) (.cons (.idx (.lst (.cons (.c (.int 0)) (.cons (.c (.int 2)) (.cons (.c (.int 5)) (.cons (.call i_law_take (.cons (.io 0) (.cons (.c (.int 61)) .nil))) .nil))))) (.call i_law_take (.cons (.io 0) (.cons (.c (.int 4)) .nil)))) .nil)))) .nil)
def f_law_slips : Fn := ⟨1, 1, [0], b_law_slips⟩
/-- _law_reading: 0 _law_box_here 1 _law_row_here 2 _law_slips_here 3 _law_stand_here 4 _law_current 5 _law_told 6 _law_volts 7 _law_shown_here 8 _law_read -/
def l_law_reading_0b : Sms := (.cons (.set 8 (.bin .sub (.bin .add (.v 7) (.call i_law_take (.cons (.io 0) (.cons (.bin .add (.bin .mul (.c (.int 2)) (.idx (.v 2) (.c (.int 1)))) (.c (.int 1))) .nil)))) (.idx (.v 2) (.c (.int 1))))) (.cons (.app 6 (.idx (.lst (.cons (.c .none) (.cons (.v 8) (.cons (.v 8) (.cons (.v 8) .nil))))) (.call i_law_take (.cons (.io 0) (.cons (.c (.int 4)) .nil))))) (.cons (.iff (.cmp .eq (.call i_law_take (.cons (.io 0) (.cons (.c (.int 24)) .nil))) (.c (.int 0))) (.cons (.seti 6 (.neg (.c (.int 1))) (.bin .sub (.bin .add (.v 8) (.call i_law_take (.cons (.io 0) (.cons (.c (.int 40)) .nil)))) (.c (.int 20)))) .nil) .nil) .nil)))
def l_law_reading_0 : Sm := .forr (.nm 7) (.seq (.call i_law_shown (.cons (.v 1) (.cons (.v 3) (.cons (.v 4) .nil))))) l_law_reading_0b
def b_law_reading : Sms := (.cons (.set 5 (.c .none)) (.cons (.iff (.cmp .gt (.call i_law_take (.cons (.io 0) (.cons (.c (.int 4)) .nil))) (.c (.int 0))) (.cons (.set 5 (.bin .sub (.bin .add (.v 4) (.call i_law_take (.cons (.io 0) (.cons (.bin .add (.bin .mul (.c (.int 2)) (.idx (.v 2) (.c (.int 0)))) (.c (.int 1))) .nil)))) (.idx (.v 2) (.c (.int 0))))) .nil) .nil) (.cons (.seto 6 (.lst .nil)) (.cons (l_law_reading_0) (.cons (.ret (.tup (.cons (.v 5) (.cons (.bi .tuple (.cons (.v 6) .nil)) .nil)))) .nil)))))
def f_law_reading : Fn := ⟨5, 9, [0], b_law_reading⟩
/-- _law_beats: 0 _law_box_here 1 _law_row_here 2 _law_most 3 _law_first 4 _law_stand_here 5 _law_plan 6 _law_turn 7 _law_some 8 _law_current -/
def q_law_beats_0 : Ex := .comp (.v 8) (.nm 8) (.rng (.cons (.neg (.c (.int 4))) (.cons (.c (.int 5)) .nil))) [8] (.cons (.cmp .is (.call i_law_fault (.cons (.v 1) (.cons (.v 4) (.cons (.v 8) .nil)))) (.c .none)) .nil)
def l_law_beats_0b : Sms := (.cons (.set 7 (q_law_beats_0)) (.cons (.iff (.cmp .ne (.v 7) (.lst .nil)) (.cons (.app 5 (.idx (.v 7) (.call i_law_take (.cons (.io 0) (.cons (.bi .len (.cons (.v 7) .nil)) .nil))))) (.cons (.set 4 (.call i_law_behind (.cons (.v 4) (.cons (.idx (.v 5) (.neg (.c (.int 1)))) .nil)))) .nil)) .nil) .nil))
def l_law_beats_0 : Sm := .forr (.nm 6) (.rng (.cons (.call i_law_take (.cons (.io 0) (.cons (.bin .add (.v 2) (.c (.int 1))) .nil))) .nil)) l_law_beats_0b
def b_law_beats : Sms := (.cons (.set 3 (.call i_law_stand (.cons (.io 0) (.cons (.v 1) .nil)))) (.cons (.parn [(4, false), (5, true)] (.cons (.v 3) (.cons (.lst .nil) .nil))) (.cons (l_law_beats_0) (.cons (.ret (.tup (.cons (.v 3) (.cons (.fz 5) .nil)))) .nil))))
def f_law_beats : Fn := ⟨3, 9, [0], b_law_beats⟩
/-- _law_seen: 0 _law_box_here 1 _law_row_here 2 _law_slips_here 3 _law_most 4 _law_first 5 _law_plan 6 _law_stand_here 7 _law_found 8 _law_current -/
def l_law_seen_0b : Sms := (.cons (.app 7 (.call i_law_reading (.cons (.io 0) (.cons (.v 1) (.cons (.v 2) (.cons (.v 6) (.cons (.v 8) .nil))))))) (.cons (.set 6 (.call i_law_behind (.cons (.v 6) (.cons (.v 8) .nil)))) .nil))
def l_law_seen_0 : Sm := .forr (.nm 8) (.seq (.v 5)) l_law_seen_0b
def b_law_seen : Sms := (.cons (.unp (.tp (.cons (.nm 4) (.cons (.nm 5) .nil))) (.call i_law_beats (.cons (.io 0) (.cons (.v 1) (.cons (.v 3) .nil))))) (.cons (.parn [(6, false), (7, true)] (.cons (.v 4) (.cons (.lst .nil) .nil))) (.cons (l_law_seen_0) (.cons (.ret (.tup (.cons (.bi .tuple (.cons (.v 7) .nil)) (.cons (.v 4) (.cons (.bi .tuple (.cons (.v 5) .nil)) .nil))))) .nil))))
def f_law_seen : Fn := ⟨4, 9, [0], b_law_seen⟩
/-- _law_unfit: 0 _law_row_here 1 _law_slips_here 2 _law_reading_here 3 _law_stand_here 4 _law_current 5 _law_cell 6 _law_volts -/
def l_law_unfit_0b : Sms := (.cons (.iff (.andd (.cons (.cmp .isNot (.idx (.idx (.v 2) (.c (.int 1))) (.v 5)) (.c .none)) (.cons (.cmp .gt (.bi .abs (.cons (.bin .sub (.v 6) (.idx (.idx (.v 2) (.c (.int 1))) (.v 5))) .nil)) (.idx (.v 1) (.c (.int 1)))) .nil))) (.cons (.ret (.bin .add (.v 5) (.c (.int 1)))) .nil) .nil) .nil)
def l_law_unfit_0 : Sm := .forr (.tp (.cons (.nm 5) (.cons (.nm 6) .nil))) (.enum (.cons (.call i_law_shown (.cons (.v 0) (.cons (.v 3) (.cons (.v 4) .nil)))) .nil)) l_law_unfit_0b
def b_law_unfit : Sms := (.cons (.iff (.cmp .isNot (.call i_law_fault (.cons (.v 0) (.cons (.v 3) (.cons (.v 4) .nil)))) (.c .none)) (.cons (.ret (.neg (.c (.int 1)))) .nil) .nil) (.cons (.iff (.andd (.cons (.cmp .isNot (.idx (.v 2) (.c (.int 0))) (.c .none)) (.cons (.cmp .gt (.bi .abs (.cons (.bin .sub (.v 4) (.idx (.v 2) (.c (.int 0)))) .nil)) (.idx (.v 1) (.c (.int 0)))) .nil))) (.cons (.ret (.c (.int 0))) .nil) .nil) (.cons (l_law_unfit_0) (.cons (.ret (.c .none)) .nil))))
def f_law_unfit : Fn := ⟨5, 7, [], b_law_unfit⟩
/-- _law_due: 0 _law_row_here 1 _law_slips_here 2 _law_readings 3 _law_stand_here 4 _law_plan 5 _law_beat 6 _law_reading_here 7 _law_current 8 _law_place -/
def l_law_due_0b : Sms := (.cons (.set 8 (.call i_law_unfit (.cons (.v 0) (.cons (.v 1) (.cons (.v 6) (.cons (.v 3) (.cons (.v 7) .nil))))))) (.cons (.iff (.cmp .isNot (.v 8) (.c .none)) (.cons (.ret (.tup (.cons (.v 5) (.cons (.v 8) .nil)))) .nil) .nil) (.cons (.set 3 (.call i_law_behind (.cons (.v 3) (.cons (.v 7) .nil)))) .nil)))
def l_law_due_0 : Sm := .forr (.tp (.cons (.nm 5) (.cons (.tp (.cons (.nm 6) (.cons (.nm 7) .nil))) .nil))) (.enz (.cons (.v 2) (.cons (.v 4) .nil))) l_law_due_0b
def b_law_due : Sms := (.cons (l_law_due_0) (.cons (.ret (.c .none)) .nil))
def f_law_due : Fn := ⟨5, 9, [], b_law_due⟩
/-- law: 0 _law_script 1 _law_k 2 _law_box_here 3 _law_lap 4 _law_row_here 5 _law_slips_here 6 _law_readings 7 _law_first 8 _law_plan 9 _law_some 10 _law_turn 11 _law_stand_here 12 _law_told 13 _law_bent 14 _law_stood 15 _law_due_here 16 _law_found 17 _law_one -/
def q_law_0 : Ex := .comp (.bi .min2 (.cons (.c (.int 9)) (.cons (.v 17) .nil))) (.nm 17) (.seq (.fz 13)) [17] .nil
def l_law_0b : Sms := (.cons (.seto 13 (.bi .list (.cons (.v 8) .nil))) (.cons (.iff (.cmp .ne (.v 13) (.lst .nil)) (.cons (.seti 13 (.call i_law_take (.cons (.io 2) (.cons (.bi .len (.cons (.v 13) .nil)) .nil))) (.bin .sub (.call i_law_take (.cons (.io 2) (.cons (.idx (.lst (.cons (.c (.int 9)) (.cons (.c (.int 19)) .nil))) (.call i_law_take (.cons (.io 2) (.cons (.c (.int 2)) .nil)))) .nil))) (.c (.int 4)))) .nil) .nil) (.cons (.set 11 (.idx (.lst (.cons (.v 7) (.cons (.v 7) (.cons (.call i_law_stand (.cons (.io 2) (.cons (.v 4) .nil))) .nil)))) (.call i_law_take (.cons (.io 2) (.cons (.c (.int 3)) .nil))))) (.cons (.app 9 (.tup (.cons (.v 11) (.cons (.bi .tuple (.cons (q_law_0) .nil)) .nil)))) .nil))))
def l_law_0 : Sm := .forr (.nm 10) (.rng (.cons (.c (.int 6)) .nil)) l_law_0b
def q_law_1 : Ex := .comp (.call i_first_unfit (.cons (.v 4) (.cons (.v 5) (.cons (.v 6) (.cons (.v 11) (.cons (.v 12) .nil)))))) (.nm 10) (.rng (.cons (.c (.int 2)) .nil)) [10] .nil
def q_law_2 : Ex := .comp (.bi .repr (.cons (.v 17) .nil)) (.nm 17) (.seq (.v 16)) [17] .nil
def l_law_1b : Sms := (.cons (.par 14 15 (.bi .repr (.cons (.tup (.cons (.v 4) (.cons (.v 6) (.cons (.v 11) (.cons (.v 12) .nil))))) .nil)) (.bi .repr (.cons (.call i_law_due (.cons (.v 4) (.cons (.v 5) (.cons (.v 6) (.cons (.v 11) (.cons (.v 12) .nil)))))) .nil))) (.cons (.set 16 (q_law_1)) (.cons (.iff (.orr (.cons (.cmp .ne (q_law_2) (.lst (.cons (.v 15) (.cons (.v 15) .nil)))) (.cons (.cmp .ne (.bi .repr (.cons (.tup (.cons (.v 4) (.cons (.v 6) (.cons (.v 11) (.cons (.v 12) .nil))))) .nil)) (.v 14)) .nil))) (.cons (.ret (.c (.bool false))) .nil) .nil) .nil)))
def l_law_1 : Sm := .forr (.tp (.cons (.nm 11) (.cons (.nm 12) .nil))) (.seq (.fz 9)) l_law_1b
def l_law_2b : Sms := (.cons (.parn [(4, false), (5, false)] (.cons (.call i_law_row (.cons (.io 2) .nil)) (.cons (.call i_law_slips (.cons (.io 2) .nil)) .nil))) (.cons (.unp (.tp (.cons (.nm 6) (.cons (.nm 7) (.cons (.nm 8) .nil)))) (.call i_law_seen (.cons (.io 2) (.cons (.v 4) (.cons (.v 5) (.cons (.c (.int 6)) .nil)))))) (.cons (.seto 9 (.lst (.cons (.tup (.cons (.v 7) (.cons (.v 8) .nil))) (.cons (.tup (.cons (.call i_law_stand (.cons (.io 2) (.cons (.v 4) .nil))) (.cons (.v 8) .nil))) .nil)))) (.cons (l_law_0) (.cons (l_law_1) .nil)))))
def l_law_2 : Sm := .forr (.nm 3) (.rng (.cons (.c (.int 3)) .nil)) l_law_2b
def l_law_3b : Sms := (.cons (.seto 2 (.call i_law_box (.cons (.v 0) (.cons (.v 1) .nil)))) (.cons (l_law_2) .nil))
def l_law_3 : Sm := .forr (.nm 1) (.rng (.cons (.bi .max2 (.cons (.c (.int 1)) (.cons (.bi .min2 (.cons (.bi .len (.cons (.v 0) .nil)) (.cons (.c (.int 3)) .nil))) .nil))) .nil)) l_law_3b
def b_law : Sms := (.cons (l_law_3) (.cons (.ret (.c (.bool true))) .nil))
def f_law : Fn := ⟨1, 18, [], b_law⟩
def fns : List Fn := [f_is_whole, f_is_among, f_rises, f_are_volts, f_is_kind, f_cell_stands, f_many_stands, f_is_row, f_need_row, f_is_cell_stand, f_is_stand_of, f_need_stand, f_opens_by, f_is_current, f_is_plan, f_shows_by, f_cell_fault, f_fault_by, f_behind_by, f_are_slips, f_is_read, f_is_reading_of, f_are_readings, f_need_slips, f_need_readings, f_is_off, f_unfit_by, f_need_run, f_unfit_of, f_first_unfit, f_law_box, f_law_more, f_law_take, f_law_kind, f_law_row, f_law_stand, f_law_shown, f_law_fault, f_law_behind, f_law_slips, f_law_reading, f_law_beats, f_law_seen, f_law_unfit, f_law_due, f_law]
def gls : List D := [(.int 8), (.int 900), (.int 50), (.int 4), (.int 4), (.int 2), (.int 3), (.int 300), (.int 9), (.int 12), (.int 6), (.int 12), (.int 9999), (.tuple [.int 2, .int 60]), (.int (-1)), (.int 0)]
def gm : Gam where
  G := gls
  F := fns
  gnm := [Str.ofString "MOST_FULL", Str.ofString "MOST_VOLTS_kinds", Str.ofString "MOST_LOSS", Str.ofString "MOST_OUT", Str.ofString "MOST_BACK", Str.ofString "MOST_WORN", Str.ofString "MOST_CELLS", Str.ofString "MOST_STANDS", Str.ofString "MOST_CURRENT", Str.ofString "MOST_BEATS", Str.ofString "MOST_READINGS", Str.ofString "MOST_READ", Str.ofString "MOST_VOLTS_readings", Str.ofString "MOST_SLIPS", Str.ofString "FAULT", Str.ofString "CURRENT"]
  fnm := [Str.ofString "is_whole", Str.ofString "is_among", Str.ofString "rises", Str.ofString "are_volts", Str.ofString "is_kind", Str.ofString "cell_stands", Str.ofString "many_stands", Str.ofString "is_row", Str.ofString "need_row", Str.ofString "is_cell_stand", Str.ofString "is_stand_of", Str.ofString "need_stand", Str.ofString "opens_by", Str.ofString "is_current", Str.ofString "is_plan", Str.ofString "shows_by", Str.ofString "cell_fault", Str.ofString "fault_by", Str.ofString "behind_by", Str.ofString "are_slips", Str.ofString "is_read", Str.ofString "is_reading_of", Str.ofString "are_readings", Str.ofString "need_slips", Str.ofString "need_readings", Str.ofString "is_off", Str.ofString "unfit_by", Str.ofString "need_run", Str.ofString "unfit_of", Str.ofString "first_unfit", Str.ofString "_law_box", Str.ofString "_law_more", Str.ofString "_law_take", Str.ofString "_law_kind", Str.ofString "_law_row", Str.ofString "_law_stand", Str.ofString "_law_shown", Str.ofString "_law_fault", Str.ofString "_law_behind", Str.ofString "_law_slips", Str.ofString "_law_reading", Str.ofString "_law_beats", Str.ofString "_law_seen", Str.ofString "_law_unfit", Str.ofString "_law_due", Str.ofString "law"]
  fps := [[Str.ofString "thing"], [Str.ofString "thing", Str.ofString "low", Str.ofString "high"], [Str.ofString "row"], [Str.ofString "full", Str.ofString "thing"], [Str.ofString "thing"], [Str.ofString "kind"], [Str.ofString "row"], [Str.ofString "thing"], [Str.ofString "thing"], [Str.ofString "kind", Str.ofString "thing"], [Str.ofString "row", Str.ofString "thing"], [Str.ofString "row", Str.ofString "thing"], [Str.ofString "row", Str.ofString "stand"], [Str.ofString "thing"], [Str.ofString "thing"], [Str.ofString "row", Str.ofString "stand", Str.ofString "current"], [Str.ofString "kind", Str.ofString "cell", Str.ofString "current", Str.ofString "shown"], [Str.ofString "row", Str.ofString "stand", Str.ofString "current"], [Str.ofString "row", Str.ofString "stand", Str.ofString "current"], [Str.ofString "thing"], [Str.ofString "thing", Str.ofString "most"], [Str.ofString "row", Str.ofString "thing"], [Str.ofString "row", Str.ofString "thing"], [Str.ofString "thing"], [Str.ofString "row", Str.ofString "slips", Str.ofString "readings"], [Str.ofString "told", Str.ofString "read", Str.ofString "slip"], [Str.ofString "row", Str.ofString "slips", Str.ofString "reading", Str.ofString "stand", Str.ofString "current"], [Str.ofString "readings", Str.ofString "plan"], [Str.ofString "row", Str.ofString "slips", Str.ofString "readings", Str.ofString "stand", Str.ofString "plan"], [Str.ofString "row", Str.ofString "slips", Str.ofString "readings", Str.ofString "stand", Str.ofString "plan"], [Str.ofString "_law_script", Str.ofString "_law_k"], [Str.ofString "_law_box_here"], [Str.ofString "_law_box_here", Str.ofString "_law_count"], [Str.ofString "_law_box_here", Str.ofString "_law_most"], [Str.ofString "_law_box_here"], [Str.ofString "_law_box_here", Str.ofString "_law_row_here"], [Str.ofString "_law_row_here", Str.ofString "_law_stand_here", Str.ofString "_law_current"], [Str.ofString "_law_row_here", Str.ofString "_law_stand_here", Str.ofString "_law_current"], [Str.ofString "_law_stand_here", Str.ofString "_law_current"], [Str.ofString "_law_box_here"], [Str.ofString "_law_box_here", Str.ofString "_law_row_here", Str.ofString "_law_slips_here", Str.ofString "_law_stand_here", Str.ofString "_law_current"], [Str.ofString "_law_box_here", Str.ofString "_law_row_here", Str.ofString "_law_most"], [Str.ofString "_law_box_here", Str.ofString "_law_row_here", Str.ofString "_law_slips_here", Str.ofString "_law_most"], [Str.ofString "_law_row_here", Str.ofString "_law_slips_here", Str.ofString "_law_reading_here", Str.ofString "_law_stand_here", Str.ofString "_law_current"], [Str.ofString "_law_row_here", Str.ofString "_law_slips_here", Str.ofString "_law_readings", Str.ofString "_law_stand_here", Str.ofString "_law_plan"], [Str.ofString "_law_script"]]
  cnm := []
  kws := []
theorem c_is_whole : chkFn gm ["thing"] ["thing"] f_is_whole (top 16) = true := by decide +kernel
theorem c_is_among : chkFn gm ["thing", "low", "high"] ["thing", "low", "high"] f_is_among (top 17) = true := by decide +kernel
theorem c_rises : chkFn gm ["row", "one", "other"] ["row"] f_rises (top 18) = true := by decide +kernel
theorem c_are_volts : chkFn gm ["full", "thing", "one"] ["full", "thing"] f_are_volts (top 19) = true := by decide +kernel
theorem c_is_kind : chkFn gm ["thing", "full", "volts", "loss", "low", "high", "out", "back"] ["thing"] f_is_kind (top 20) = true := by decide +kernel
theorem c_cell_stands : chkFn gm ["kind", "found", "charge", "worn"] ["kind"] f_cell_stands (top 21) = true := by decide +kernel
theorem c_many_stands : chkFn gm ["row", "found", "kind"] ["row"] f_many_stands (top 22) = true := by decide +kernel
theorem c_is_row : chkFn gm ["thing", "one"] ["thing"] f_is_row (top 23) = true := by decide +kernel
theorem c_need_row : chkFn gm ["thing"] ["thing"] f_need_row (top 24) = true := by decide +kernel
theorem c_is_cell_stand : chkFn gm ["kind", "thing"] ["kind", "thing"] f_is_cell_stand (top 25) = true := by decide +kernel
theorem c_is_stand_of : chkFn gm ["row", "thing", "kind", "one"] ["row", "thing"] f_is_stand_of (top 26) = true := by decide +kernel
theorem c_need_stand : chkFn gm ["row", "thing"] ["row", "thing"] f_need_stand (top 27) = true := by decide +kernel
theorem c_opens_by : chkFn gm ["row", "stand", "kind", "charge", "worn"] ["row", "stand"] f_opens_by (top 28) = true := by decide +kernel
theorem c_is_current : chkFn gm ["thing"] ["thing"] f_is_current (top 32) = true := by decide +kernel
theorem c_is_plan : chkFn gm ["thing", "one"] ["thing"] f_is_plan (top 33) = true := by decide +kernel
theorem c_shows_by : chkFn gm ["row", "stand", "current", "found", "kind", "charge", "worn", "volts"] ["row", "stand", "current"] f_shows_by (top 34) = true := by decide +kernel
theorem c_cell_fault : chkFn gm ["kind", "cell", "current", "shown", "full", "volts", "loss", "low", "high", "out", "back", "charge", "worn"] ["kind", "cell", "current", "shown"] f_cell_fault (top 35) = true := by decide +kernel
theorem c_fault_by : chkFn gm ["row", "stand", "current", "number", "shown", "word"] ["row", "stand", "current"] f_fault_by (top 36) = true := by decide +kernel
theorem c_behind_by : chkFn gm ["row", "stand", "current", "charge", "worn"] ["row", "stand", "current"] f_behind_by (top 37) = true := by decide +kernel
theorem c_are_slips : chkFn gm ["thing", "one", "most"] ["thing"] f_are_slips (top 45) = true := by decide +kernel
theorem c_is_read : chkFn gm ["thing", "most"] ["thing", "most"] f_is_read (top 46) = true := by decide +kernel
theorem c_is_reading_of : chkFn gm ["row", "thing", "volts", "one"] ["row", "thing"] f_is_reading_of (top 47) = true := by decide +kernel
theorem c_are_readings : chkFn gm ["row", "thing", "one"] ["row", "thing"] f_are_readings (top 48) = true := by decide +kernel
theorem c_need_slips : chkFn gm ["thing"] ["thing"] f_need_slips (top 49) = true := by decide +kernel
theorem c_need_readings : chkFn gm ["row", "slips", "readings"] ["row", "slips", "readings"] f_need_readings (top 50) = true := by decide +kernel
theorem c_is_off : chkFn gm ["told", "read", "slip"] ["told", "read", "slip"] f_is_off (top 51) = true := by decide +kernel
theorem c_unfit_by : chkFn gm ["row", "slips", "reading", "stand", "current", "cell", "told"] ["row", "slips", "reading", "stand", "current"] f_unfit_by (top 52) = true := by decide +kernel
theorem c_need_run : chkFn gm ["readings", "plan"] ["readings", "plan"] f_need_run (top 53) = true := by decide +kernel
theorem c_unfit_of : chkFn gm ["row", "slips", "readings", "stand", "plan", "beat", "reading", "current", "place"] ["row", "slips", "readings", "stand", "plan"] f_unfit_of (top 54) = true := by decide +kernel
theorem c_first_unfit : chkFn gm ["row", "slips", "readings", "stand", "plan"] ["row", "slips", "readings", "stand", "plan"] f_first_unfit (top 55) = true := by decide +kernel
theorem c_law_box : chkFn gm ["_law_script", "_law_k", "_law_here", "_law_number", "_law_j", "_law_piece"] ["_law_script", "_law_k"] f_law_box (top 57) = true := by decide +kernel
theorem c_law_more : chkFn gm ["_law_box_here", "_law_number", "_law_j"] ["_law_box_here"] f_law_more (top 58) = true := by decide +kernel
theorem c_law_take : chkFn gm ["_law_box_here", "_law_count", "_law_rest_of", "_law_digit"] ["_law_box_here", "_law_count"] f_law_take (top 59) = true := by decide +kernel
theorem c_law_kind : chkFn gm ["_law_box_here", "_law_most", "_law_full", "_law_volts", "_law_turn", "_law_low", "_law_high", "_law_loss"] ["_law_box_here", "_law_most"] f_law_kind (top 60) = true := by decide +kernel
theorem c_law_row : chkFn gm ["_law_box_here", "_law_many", "_law_most", "_law_cell"] ["_law_box_here"] f_law_row (top 61) = true := by decide +kernel
theorem c_law_stand : chkFn gm ["_law_box_here", "_law_row_here", "_law_found", "_law_kind_here", "_law_worn"] ["_law_box_here", "_law_row_here"] f_law_stand (top 62) = true := by decide +kernel
theorem c_law_shown : chkFn gm ["_law_row_here", "_law_stand_here", "_law_current", "_law_kind_here", "_law_charge", "_law_worn"] ["_law_row_here", "_law_stand_here", "_law_current"] f_law_shown (top 63) = true := by decide +kernel
theorem c_law_fault : chkFn gm ["_law_row_here", "_law_stand_here", "_law_current", "_law_cell", "_law_kind_here", "_law_charge", "_law_worn", "_law_volts", "_law_some", "_law_words_due", "_law_word", "_law_holds"] ["_law_row_here", "_law_stand_here", "_law_current"] f_law_fault (top 64) = true := by decide +kernel
theorem c_law_behind : chkFn gm ["_law_stand_here", "_law_current", "_law_charge", "_law_worn"] ["_law_stand_here", "_law_current"] f_law_behind (top 65) = true := by decide +kernel
theorem c_law_slips : chkFn gm ["_law_box_here"] ["_law_box_here"] f_law_slips (top 66) = true := by decide +kernel
theorem c_law_reading : chkFn gm ["_law_box_here", "_law_row_here", "_law_slips_here", "_law_stand_here", "_law_current", "_law_told", "_law_volts", "_law_shown_here", "_law_read"] ["_law_box_here", "_law_row_here", "_law_slips_here", "_law_stand_here", "_law_current"] f_law_reading (top 67) = true := by decide +kernel
theorem c_law_beats : chkFn gm ["_law_box_here", "_law_row_here", "_law_most", "_law_first", "_law_stand_here", "_law_plan", "_law_turn", "_law_some", "_law_current"] ["_law_box_here", "_law_row_here", "_law_most"] f_law_beats (top 68) = true := by decide +kernel
theorem c_law_seen : chkFn gm ["_law_box_here", "_law_row_here", "_law_slips_here", "_law_most", "_law_first", "_law_plan", "_law_stand_here", "_law_found", "_law_current"] ["_law_box_here", "_law_row_here", "_law_slips_here", "_law_most"] f_law_seen (top 69) = true := by decide +kernel
theorem c_law_unfit : chkFn gm ["_law_row_here", "_law_slips_here", "_law_reading_here", "_law_stand_here", "_law_current", "_law_cell", "_law_volts"] ["_law_row_here", "_law_slips_here", "_law_reading_here", "_law_stand_here", "_law_current"] f_law_unfit (top 70) = true := by decide +kernel
theorem c_law_due : chkFn gm ["_law_row_here", "_law_slips_here", "_law_readings", "_law_stand_here", "_law_plan", "_law_beat", "_law_reading_here", "_law_current", "_law_place"] ["_law_row_here", "_law_slips_here", "_law_readings", "_law_stand_here", "_law_plan"] f_law_due (top 71) = true := by decide +kernel
theorem c_law : chkFn gm ["_law_script", "_law_k", "_law_box_here", "_law_lap", "_law_row_here", "_law_slips_here", "_law_readings", "_law_first", "_law_plan", "_law_some", "_law_turn", "_law_stand_here", "_law_told", "_law_bent", "_law_stood", "_law_due_here", "_law_found", "_law_one"] ["_law_script"] f_law (top 72) = true := by decide +kernel
@[simp] theorem gv_MOST_FULL : gm.G[0]? = some (.int 8) := rfl
@[simp] theorem gv_MOST_VOLTS_kinds : gm.G[1]? = some (.int 900) := rfl
@[simp] theorem gv_MOST_LOSS : gm.G[2]? = some (.int 50) := rfl
@[simp] theorem gv_MOST_OUT : gm.G[3]? = some (.int 4) := rfl
@[simp] theorem gv_MOST_BACK : gm.G[4]? = some (.int 4) := rfl
@[simp] theorem gv_MOST_WORN : gm.G[5]? = some (.int 2) := rfl
@[simp] theorem gv_MOST_CELLS : gm.G[6]? = some (.int 3) := rfl
@[simp] theorem gv_MOST_STANDS : gm.G[7]? = some (.int 300) := rfl
@[simp] theorem gv_MOST_CURRENT : gm.G[8]? = some (.int 9) := rfl
@[simp] theorem gv_MOST_BEATS : gm.G[9]? = some (.int 12) := rfl
@[simp] theorem gv_MOST_READINGS : gm.G[10]? = some (.int 6) := rfl
@[simp] theorem gv_MOST_READ : gm.G[11]? = some (.int 12) := rfl
@[simp] theorem gv_MOST_VOLTS_readings : gm.G[12]? = some (.int 9999) := rfl
@[simp] theorem gv_MOST_SLIPS : gm.G[13]? = some (.tuple [.int 2, .int 60]) := rfl
@[simp] theorem gv_FAULT : gm.G[14]? = some (.int (-1)) := rfl
@[simp] theorem gv_CURRENT : gm.G[15]? = some (.int 0) := rfl
abbrev CC (n : Nat) : Nat → List SV → CR := callF gm.G gm.F n
/-! a call is its body -/
theorem u_is_whole (n : Nat) (a0 : SV) (h : ioOk [] 0 [a0] = true) : CC (n + 1) i_is_whole [a0] = endCR [a0] (evSs gm.G (CC n) b_is_whole [some a0]) := by
  show (if ([a0] : List SV).length = 1 ∧ ioOk [] 0 [a0] = true then _ else CR.stuck) = _
  rw [if_pos ⟨rfl, h⟩]
  rfl
theorem u_is_among (n : Nat) (a0 a1 a2 : SV) (h : ioOk [] 0 [a0, a1, a2] = true) : CC (n + 1) i_is_among [a0, a1, a2] = endCR [a0, a1, a2] (evSs gm.G (CC n) b_is_among [some a0, some a1, some a2]) := by
  show (if ([a0, a1, a2] : List SV).length = 3 ∧ ioOk [] 0 [a0, a1, a2] = true then _ else CR.stuck) = _
  rw [if_pos ⟨rfl, h⟩]
  rfl
theorem u_rises (n : Nat) (a0 : SV) (h : ioOk [] 0 [a0] = true) : CC (n + 1) i_rises [a0] = endCR [a0] (evSs gm.G (CC n) b_rises [some a0, none, none]) := by
  show (if ([a0] : List SV).length = 1 ∧ ioOk [] 0 [a0] = true then _ else CR.stuck) = _
  rw [if_pos ⟨rfl, h⟩]
  rfl
theorem u_are_volts (n : Nat) (a0 a1 : SV) (h : ioOk [] 0 [a0, a1] = true) : CC (n + 1) i_are_volts [a0, a1] = endCR [a0, a1] (evSs gm.G (CC n) b_are_volts [some a0, some a1, none]) := by
  show (if ([a0, a1] : List SV).length = 2 ∧ ioOk [] 0 [a0, a1] = true then _ else CR.stuck) = _
  rw [if_pos ⟨rfl, h⟩]
  rfl
theorem u_is_kind (n : Nat) (a0 : SV) (h : ioOk [] 0 [a0] = true) : CC (n + 1) i_is_kind [a0] = endCR [a0] (evSs gm.G (CC n) b_is_kind [some a0, none, none, none, none, none, none, none]) := by
  show (if ([a0] : List SV).length = 1 ∧ ioOk [] 0 [a0] = true then _ else CR.stuck) = _
  rw [if_pos ⟨rfl, h⟩]
  rfl
theorem u_cell_stands (n : Nat) (a0 : SV) (h : ioOk [] 0 [a0] = true) : CC (n + 1) i_cell_stands [a0] = endCR [a0] (evSs gm.G (CC n) b_cell_stands [some a0, none, none, none]) := by
  show (if ([a0] : List SV).length = 1 ∧ ioOk [] 0 [a0] = true then _ else CR.stuck) = _
  rw [if_pos ⟨rfl, h⟩]
  rfl
theorem u_many_stands (n : Nat) (a0 : SV) (h : ioOk [] 0 [a0] = true) : CC (n + 1) i_many_stands [a0] = endCR [a0] (evSs gm.G (CC n) b_many_stands [some a0, none, none]) := by
  show (if ([a0] : List SV).length = 1 ∧ ioOk [] 0 [a0] = true then _ else CR.stuck) = _
  rw [if_pos ⟨rfl, h⟩]
  rfl
theorem u_is_row (n : Nat) (a0 : SV) (h : ioOk [] 0 [a0] = true) : CC (n + 1) i_is_row [a0] = endCR [a0] (evSs gm.G (CC n) b_is_row [some a0, none]) := by
  show (if ([a0] : List SV).length = 1 ∧ ioOk [] 0 [a0] = true then _ else CR.stuck) = _
  rw [if_pos ⟨rfl, h⟩]
  rfl
theorem u_need_row (n : Nat) (a0 : SV) (h : ioOk [] 0 [a0] = true) : CC (n + 1) i_need_row [a0] = endCR [a0] (evSs gm.G (CC n) b_need_row [some a0]) := by
  show (if ([a0] : List SV).length = 1 ∧ ioOk [] 0 [a0] = true then _ else CR.stuck) = _
  rw [if_pos ⟨rfl, h⟩]
  rfl
theorem u_is_cell_stand (n : Nat) (a0 a1 : SV) (h : ioOk [] 0 [a0, a1] = true) : CC (n + 1) i_is_cell_stand [a0, a1] = endCR [a0, a1] (evSs gm.G (CC n) b_is_cell_stand [some a0, some a1]) := by
  show (if ([a0, a1] : List SV).length = 2 ∧ ioOk [] 0 [a0, a1] = true then _ else CR.stuck) = _
  rw [if_pos ⟨rfl, h⟩]
  rfl
theorem u_is_stand_of (n : Nat) (a0 a1 : SV) (h : ioOk [] 0 [a0, a1] = true) : CC (n + 1) i_is_stand_of [a0, a1] = endCR [a0, a1] (evSs gm.G (CC n) b_is_stand_of [some a0, some a1, none, none]) := by
  show (if ([a0, a1] : List SV).length = 2 ∧ ioOk [] 0 [a0, a1] = true then _ else CR.stuck) = _
  rw [if_pos ⟨rfl, h⟩]
  rfl
theorem u_need_stand (n : Nat) (a0 a1 : SV) (h : ioOk [] 0 [a0, a1] = true) : CC (n + 1) i_need_stand [a0, a1] = endCR [a0, a1] (evSs gm.G (CC n) b_need_stand [some a0, some a1]) := by
  show (if ([a0, a1] : List SV).length = 2 ∧ ioOk [] 0 [a0, a1] = true then _ else CR.stuck) = _
  rw [if_pos ⟨rfl, h⟩]
  rfl
theorem u_opens_by (n : Nat) (a0 a1 : SV) (h : ioOk [] 0 [a0, a1] = true) : CC (n + 1) i_opens_by [a0, a1] = endCR [a0, a1] (evSs gm.G (CC n) b_opens_by [some a0, some a1, none, none, none]) := by
  show (if ([a0, a1] : List SV).length = 2 ∧ ioOk [] 0 [a0, a1] = true then _ else CR.stuck) = _
  rw [if_pos ⟨rfl, h⟩]
  rfl
theorem u_is_current (n : Nat) (a0 : SV) (h : ioOk [] 0 [a0] = true) : CC (n + 1) i_is_current [a0] = endCR [a0] (evSs gm.G (CC n) b_is_current [some a0]) := by
  show (if ([a0] : List SV).length = 1 ∧ ioOk [] 0 [a0] = true then _ else CR.stuck) = _
  rw [if_pos ⟨rfl, h⟩]
  rfl
theorem u_is_plan (n : Nat) (a0 : SV) (h : ioOk [] 0 [a0] = true) : CC (n + 1) i_is_plan [a0] = endCR [a0] (evSs gm.G (CC n) b_is_plan [some a0, none]) := by
  show (if ([a0] : List SV).length = 1 ∧ ioOk [] 0 [a0] = true then _ else CR.stuck) = _
  rw [if_pos ⟨rfl, h⟩]
  rfl
theorem u_shows_by (n : Nat) (a0 a1 a2 : SV) (h : ioOk [] 0 [a0, a1, a2] = true) : CC (n + 1) i_shows_by [a0, a1, a2] = endCR [a0, a1, a2] (evSs gm.G (CC n) b_shows_by [some a0, some a1, some a2, none, none, none, none, none]) := by
  show (if ([a0, a1, a2] : List SV).length = 3 ∧ ioOk [] 0 [a0, a1, a2] = true then _ else CR.stuck) = _
  rw [if_pos ⟨rfl, h⟩]
  rfl
theorem u_cell_fault (n : Nat) (a0 a1 a2 a3 : SV) (h : ioOk [] 0 [a0, a1, a2, a3] = true) : CC (n + 1) i_cell_fault [a0, a1, a2, a3] = endCR [a0, a1, a2, a3] (evSs gm.G (CC n) b_cell_fault [some a0, some a1, some a2, some a3, none, none, none, none, none, none, none, none, none]) := by
  show (if ([a0, a1, a2, a3] : List SV).length = 4 ∧ ioOk [] 0 [a0, a1, a2, a3] = true then _ else CR.stuck) = _
  rw [if_pos ⟨rfl, h⟩]
  rfl
theorem u_fault_by (n : Nat) (a0 a1 a2 : SV) (h : ioOk [] 0 [a0, a1, a2] = true) : CC (n + 1) i_fault_by [a0, a1, a2] = endCR [a0, a1, a2] (evSs gm.G (CC n) b_fault_by [some a0, some a1, some a2, none, none, none]) := by
  show (if ([a0, a1, a2] : List SV).length = 3 ∧ ioOk [] 0 [a0, a1, a2] = true then _ else CR.stuck) = _
  rw [if_pos ⟨rfl, h⟩]
  rfl
theorem u_behind_by (n : Nat) (a0 a1 a2 : SV) (h : ioOk [] 0 [a0, a1, a2] = true) : CC (n + 1) i_behind_by [a0, a1, a2] = endCR [a0, a1, a2] (evSs gm.G (CC n) b_behind_by [some a0, some a1, some a2, none, none]) := by
  show (if ([a0, a1, a2] : List SV).length = 3 ∧ ioOk [] 0 [a0, a1, a2] = true then _ else CR.stuck) = _
  rw [if_pos ⟨rfl, h⟩]
  rfl
theorem u_are_slips (n : Nat) (a0 : SV) (h : ioOk [] 0 [a0] = true) : CC (n + 1) i_are_slips [a0] = endCR [a0] (evSs gm.G (CC n) b_are_slips [some a0, none, none]) := by
  show (if ([a0] : List SV).length = 1 ∧ ioOk [] 0 [a0] = true then _ else CR.stuck) = _
  rw [if_pos ⟨rfl, h⟩]
  rfl
theorem u_is_read (n : Nat) (a0 a1 : SV) (h : ioOk [] 0 [a0, a1] = true) : CC (n + 1) i_is_read [a0, a1] = endCR [a0, a1] (evSs gm.G (CC n) b_is_read [some a0, some a1]) := by
  show (if ([a0, a1] : List SV).length = 2 ∧ ioOk [] 0 [a0, a1] = true then _ else CR.stuck) = _
  rw [if_pos ⟨rfl, h⟩]
  rfl
theorem u_is_reading_of (n : Nat) (a0 a1 : SV) (h : ioOk [] 0 [a0, a1] = true) : CC (n + 1) i_is_reading_of [a0, a1] = endCR [a0, a1] (evSs gm.G (CC n) b_is_reading_of [some a0, some a1, none, none]) := by
  show (if ([a0, a1] : List SV).length = 2 ∧ ioOk [] 0 [a0, a1] = true then _ else CR.stuck) = _
  rw [if_pos ⟨rfl, h⟩]
  rfl
theorem u_are_readings (n : Nat) (a0 a1 : SV) (h : ioOk [] 0 [a0, a1] = true) : CC (n + 1) i_are_readings [a0, a1] = endCR [a0, a1] (evSs gm.G (CC n) b_are_readings [some a0, some a1, none]) := by
  show (if ([a0, a1] : List SV).length = 2 ∧ ioOk [] 0 [a0, a1] = true then _ else CR.stuck) = _
  rw [if_pos ⟨rfl, h⟩]
  rfl
theorem u_need_slips (n : Nat) (a0 : SV) (h : ioOk [] 0 [a0] = true) : CC (n + 1) i_need_slips [a0] = endCR [a0] (evSs gm.G (CC n) b_need_slips [some a0]) := by
  show (if ([a0] : List SV).length = 1 ∧ ioOk [] 0 [a0] = true then _ else CR.stuck) = _
  rw [if_pos ⟨rfl, h⟩]
  rfl
theorem u_need_readings (n : Nat) (a0 a1 a2 : SV) (h : ioOk [] 0 [a0, a1, a2] = true) : CC (n + 1) i_need_readings [a0, a1, a2] = endCR [a0, a1, a2] (evSs gm.G (CC n) b_need_readings [some a0, some a1, some a2]) := by
  show (if ([a0, a1, a2] : List SV).length = 3 ∧ ioOk [] 0 [a0, a1, a2] = true then _ else CR.stuck) = _
  rw [if_pos ⟨rfl, h⟩]
  rfl
theorem u_is_off (n : Nat) (a0 a1 a2 : SV) (h : ioOk [] 0 [a0, a1, a2] = true) : CC (n + 1) i_is_off [a0, a1, a2] = endCR [a0, a1, a2] (evSs gm.G (CC n) b_is_off [some a0, some a1, some a2]) := by
  show (if ([a0, a1, a2] : List SV).length = 3 ∧ ioOk [] 0 [a0, a1, a2] = true then _ else CR.stuck) = _
  rw [if_pos ⟨rfl, h⟩]
  rfl
theorem u_unfit_by (n : Nat) (a0 a1 a2 a3 a4 : SV) (h : ioOk [] 0 [a0, a1, a2, a3, a4] = true) : CC (n + 1) i_unfit_by [a0, a1, a2, a3, a4] = endCR [a0, a1, a2, a3, a4] (evSs gm.G (CC n) b_unfit_by [some a0, some a1, some a2, some a3, some a4, none, none]) := by
  show (if ([a0, a1, a2, a3, a4] : List SV).length = 5 ∧ ioOk [] 0 [a0, a1, a2, a3, a4] = true then _ else CR.stuck) = _
  rw [if_pos ⟨rfl, h⟩]
  rfl
theorem u_need_run (n : Nat) (a0 a1 : SV) (h : ioOk [] 0 [a0, a1] = true) : CC (n + 1) i_need_run [a0, a1] = endCR [a0, a1] (evSs gm.G (CC n) b_need_run [some a0, some a1]) := by
  show (if ([a0, a1] : List SV).length = 2 ∧ ioOk [] 0 [a0, a1] = true then _ else CR.stuck) = _
  rw [if_pos ⟨rfl, h⟩]
  rfl
theorem u_unfit_of (n : Nat) (a0 a1 a2 a3 a4 : SV) (h : ioOk [] 0 [a0, a1, a2, a3, a4] = true) : CC (n + 1) i_unfit_of [a0, a1, a2, a3, a4] = endCR [a0, a1, a2, a3, a4] (evSs gm.G (CC n) b_unfit_of [some a0, some a1, some a2, some a3, some a4, none, none, none, none]) := by
  show (if ([a0, a1, a2, a3, a4] : List SV).length = 5 ∧ ioOk [] 0 [a0, a1, a2, a3, a4] = true then _ else CR.stuck) = _
  rw [if_pos ⟨rfl, h⟩]
  rfl
theorem u_first_unfit (n : Nat) (a0 a1 a2 a3 a4 : SV) (h : ioOk [] 0 [a0, a1, a2, a3, a4] = true) : CC (n + 1) i_first_unfit [a0, a1, a2, a3, a4] = endCR [a0, a1, a2, a3, a4] (evSs gm.G (CC n) b_first_unfit [some a0, some a1, some a2, some a3, some a4]) := by
  show (if ([a0, a1, a2, a3, a4] : List SV).length = 5 ∧ ioOk [] 0 [a0, a1, a2, a3, a4] = true then _ else CR.stuck) = _
  rw [if_pos ⟨rfl, h⟩]
  rfl
theorem u_law_box (n : Nat) (a0 a1 : SV) (h : ioOk [] 0 [a0, a1] = true) : CC (n + 1) i_law_box [a0, a1] = endCR [a0, a1] (evSs gm.G (CC n) b_law_box [some a0, some a1, none, none, none, none]) := by
  show (if ([a0, a1] : List SV).length = 2 ∧ ioOk [] 0 [a0, a1] = true then _ else CR.stuck) = _
  rw [if_pos ⟨rfl, h⟩]
  rfl
theorem u_law_more (n : Nat) (a0 : SV) (h : ioOk [0] 0 [a0] = true) : CC (n + 1) i_law_more [a0] = endCR [a0] (evSs gm.G (CC n) b_law_more [some a0, none, none]) := by
  show (if ([a0] : List SV).length = 1 ∧ ioOk [0] 0 [a0] = true then _ else CR.stuck) = _
  rw [if_pos ⟨rfl, h⟩]
  rfl
theorem u_law_take (n : Nat) (a0 a1 : SV) (h : ioOk [0] 0 [a0, a1] = true) : CC (n + 1) i_law_take [a0, a1] = endCR [a0, a1] (evSs gm.G (CC n) b_law_take [some a0, some a1, none, none]) := by
  show (if ([a0, a1] : List SV).length = 2 ∧ ioOk [0] 0 [a0, a1] = true then _ else CR.stuck) = _
  rw [if_pos ⟨rfl, h⟩]
  rfl
theorem u_law_kind (n : Nat) (a0 a1 : SV) (h : ioOk [0] 0 [a0, a1] = true) : CC (n + 1) i_law_kind [a0, a1] = endCR [a0, a1] (evSs gm.G (CC n) b_law_kind [some a0, some a1, none, none, none, none, none, none]) := by
  show (if ([a0, a1] : List SV).length = 2 ∧ ioOk [0] 0 [a0, a1] = true then _ else CR.stuck) = _
  rw [if_pos ⟨rfl, h⟩]
  rfl
theorem u_law_row (n : Nat) (a0 : SV) (h : ioOk [0] 0 [a0] = true) : CC (n + 1) i_law_row [a0] = endCR [a0] (evSs gm.G (CC n) b_law_row [some a0, none, none, none]) := by
  show (if ([a0] : List SV).length = 1 ∧ ioOk [0] 0 [a0] = true then _ else CR.stuck) = _
  rw [if_pos ⟨rfl, h⟩]
  rfl
theorem u_law_stand (n : Nat) (a0 a1 : SV) (h : ioOk [0] 0 [a0, a1] = true) : CC (n + 1) i_law_stand [a0, a1] = endCR [a0, a1] (evSs gm.G (CC n) b_law_stand [some a0, some a1, none, none, none]) := by
  show (if ([a0, a1] : List SV).length = 2 ∧ ioOk [0] 0 [a0, a1] = true then _ else CR.stuck) = _
  rw [if_pos ⟨rfl, h⟩]
  rfl
theorem u_law_shown (n : Nat) (a0 a1 a2 : SV) (h : ioOk [] 0 [a0, a1, a2] = true) : CC (n + 1) i_law_shown [a0, a1, a2] = endCR [a0, a1, a2] (evSs gm.G (CC n) b_law_shown [some a0, some a1, some a2, none, none, none]) := by
  show (if ([a0, a1, a2] : List SV).length = 3 ∧ ioOk [] 0 [a0, a1, a2] = true then _ else CR.stuck) = _
  rw [if_pos ⟨rfl, h⟩]
  rfl
theorem u_law_fault (n : Nat) (a0 a1 a2 : SV) (h : ioOk [] 0 [a0, a1, a2] = true) : CC (n + 1) i_law_fault [a0, a1, a2] = endCR [a0, a1, a2] (evSs gm.G (CC n) b_law_fault [some a0, some a1, some a2, none, none, none, none, none, none, none, none, none]) := by
  show (if ([a0, a1, a2] : List SV).length = 3 ∧ ioOk [] 0 [a0, a1, a2] = true then _ else CR.stuck) = _
  rw [if_pos ⟨rfl, h⟩]
  rfl
theorem u_law_behind (n : Nat) (a0 a1 : SV) (h : ioOk [] 0 [a0, a1] = true) : CC (n + 1) i_law_behind [a0, a1] = endCR [a0, a1] (evSs gm.G (CC n) b_law_behind [some a0, some a1, none, none]) := by
  show (if ([a0, a1] : List SV).length = 2 ∧ ioOk [] 0 [a0, a1] = true then _ else CR.stuck) = _
  rw [if_pos ⟨rfl, h⟩]
  rfl
theorem u_law_slips (n : Nat) (a0 : SV) (h : ioOk [0] 0 [a0] = true) : CC (n + 1) i_law_slips [a0] = endCR [a0] (evSs gm.G (CC n) b_law_slips [some a0]) := by
  show (if ([a0] : List SV).length = 1 ∧ ioOk [0] 0 [a0] = true then _ else CR.stuck) = _
  rw [if_pos ⟨rfl, h⟩]
  rfl
theorem u_law_reading (n : Nat) (a0 a1 a2 a3 a4 : SV) (h : ioOk [0] 0 [a0, a1, a2, a3, a4] = true) : CC (n + 1) i_law_reading [a0, a1, a2, a3, a4] = endCR [a0, a1, a2, a3, a4] (evSs gm.G (CC n) b_law_reading [some a0, some a1, some a2, some a3, some a4, none, none, none, none]) := by
  show (if ([a0, a1, a2, a3, a4] : List SV).length = 5 ∧ ioOk [0] 0 [a0, a1, a2, a3, a4] = true then _ else CR.stuck) = _
  rw [if_pos ⟨rfl, h⟩]
  rfl
theorem u_law_beats (n : Nat) (a0 a1 a2 : SV) (h : ioOk [0] 0 [a0, a1, a2] = true) : CC (n + 1) i_law_beats [a0, a1, a2] = endCR [a0, a1, a2] (evSs gm.G (CC n) b_law_beats [some a0, some a1, some a2, none, none, none, none, none, none]) := by
  show (if ([a0, a1, a2] : List SV).length = 3 ∧ ioOk [0] 0 [a0, a1, a2] = true then _ else CR.stuck) = _
  rw [if_pos ⟨rfl, h⟩]
  rfl
theorem u_law_seen (n : Nat) (a0 a1 a2 a3 : SV) (h : ioOk [0] 0 [a0, a1, a2, a3] = true) : CC (n + 1) i_law_seen [a0, a1, a2, a3] = endCR [a0, a1, a2, a3] (evSs gm.G (CC n) b_law_seen [some a0, some a1, some a2, some a3, none, none, none, none, none]) := by
  show (if ([a0, a1, a2, a3] : List SV).length = 4 ∧ ioOk [0] 0 [a0, a1, a2, a3] = true then _ else CR.stuck) = _
  rw [if_pos ⟨rfl, h⟩]
  rfl
theorem u_law_unfit (n : Nat) (a0 a1 a2 a3 a4 : SV) (h : ioOk [] 0 [a0, a1, a2, a3, a4] = true) : CC (n + 1) i_law_unfit [a0, a1, a2, a3, a4] = endCR [a0, a1, a2, a3, a4] (evSs gm.G (CC n) b_law_unfit [some a0, some a1, some a2, some a3, some a4, none, none]) := by
  show (if ([a0, a1, a2, a3, a4] : List SV).length = 5 ∧ ioOk [] 0 [a0, a1, a2, a3, a4] = true then _ else CR.stuck) = _
  rw [if_pos ⟨rfl, h⟩]
  rfl
theorem u_law_due (n : Nat) (a0 a1 a2 a3 a4 : SV) (h : ioOk [] 0 [a0, a1, a2, a3, a4] = true) : CC (n + 1) i_law_due [a0, a1, a2, a3, a4] = endCR [a0, a1, a2, a3, a4] (evSs gm.G (CC n) b_law_due [some a0, some a1, some a2, some a3, some a4, none, none, none, none]) := by
  show (if ([a0, a1, a2, a3, a4] : List SV).length = 5 ∧ ioOk [] 0 [a0, a1, a2, a3, a4] = true then _ else CR.stuck) = _
  rw [if_pos ⟨rfl, h⟩]
  rfl
theorem u_law (n : Nat) (a0 : SV) (h : ioOk [] 0 [a0] = true) : CC (n + 1) i_law [a0] = endCR [a0] (evSs gm.G (CC n) b_law [some a0, none, none, none, none, none, none, none, none, none, none, none, none, none, none, none, none, none]) := by
  show (if ([a0] : List SV).length = 1 ∧ ioOk [] 0 [a0] = true then _ else CR.stuck) = _
  rw [if_pos ⟨rfl, h⟩]
  rfl
end YK17

namespace YK17
open PySem EV
/-! ### kinds -/
def isWhole : D → Bool
  | .int _ => true
  | _ => false
def isAmong (x : D) (a b : Int) : Bool := match x with
  | .int i => decide (a ≤ i) && decide (i ≤ b)
  | _ => false
theorem x_is_whole (n : Nat) (x : D) : CC (n + 1) i_is_whole [.d x] = .ok (.d (.bool (isWhole x))) [none] := by
  rw [u_is_whole _ _ rfl]
  cases x <;> simp [EV.evSs, EV.evS, EV.evE, EV.evEs, EV.evAnd, EV.evOr, EV.evO, EV.evI, EV.evIfs, EV.R.bind, EV.R.fl, EV.R.of, EV.R.tst, EV.endCR, EV.ioNd, EV.iosOf, EV.den, EV.dens, EV.keep, EV.keeps, EV.args, EV.back, EV.retOk, EV.outsOf, EV.stD, EV.bindT, EV.bindTs, EV.wip, EV.ioOk, EV.binD, EV.cmpD, EV.truD, EV.biD, EV.idxD, EV.cutD, EV.seqD, EV.zipD, EV.rngD, EV.enumD, EV.enzD, EV.tupW, EV.lstW, EV.shp, EV.revD, b_is_whole, biD, truD, isWhole]
theorem x_is_among (n : Nat) (x : D) (a b : Int) : CC (n + 2) i_is_among [.d x, .d (.int a), .d (.int b)] = .ok (.d (.bool (isAmong x a b))) [none, none, none] := by
  rw [u_is_among _ _ _ _ rfl]
  cases x with
  | int i =>
    by_cases h : a ≤ i
    · by_cases h2 : i ≤ b <;> simp [EV.evSs, EV.evS, EV.evE, EV.evEs, EV.evAnd, EV.evOr, EV.evO, EV.evI, EV.evIfs, EV.R.bind, EV.R.fl, EV.R.of, EV.R.tst, EV.endCR, EV.ioNd, EV.iosOf, EV.den, EV.dens, EV.keep, EV.keeps, EV.args, EV.back, EV.retOk, EV.outsOf, EV.stD, EV.bindT, EV.bindTs, EV.wip, EV.ioOk, EV.binD, EV.cmpD, EV.truD, EV.biD, EV.idxD, EV.cutD, EV.seqD, EV.zipD, EV.rngD, EV.enumD, EV.enzD, EV.tupW, EV.lstW, EV.shp, EV.revD, b_is_among, x_is_whole, isWhole, isAmong, cmpD, truD, h, h2]
    · simp [EV.evSs, EV.evS, EV.evE, EV.evEs, EV.evAnd, EV.evOr, EV.evO, EV.evI, EV.evIfs, EV.R.bind, EV.R.fl, EV.R.of, EV.R.tst, EV.endCR, EV.ioNd, EV.iosOf, EV.den, EV.dens, EV.keep, EV.keeps, EV.args, EV.back, EV.retOk, EV.outsOf, EV.stD, EV.bindT, EV.bindTs, EV.wip, EV.ioOk, EV.binD, EV.cmpD, EV.truD, EV.biD, EV.idxD, EV.cutD, EV.seqD, EV.zipD, EV.rngD, EV.enumD, EV.enzD, EV.tupW, EV.lstW, EV.shp, EV.revD, b_is_among, x_is_whole, isWhole, isAmong, cmpD, truD, h]
  | _ => simp [EV.evSs, EV.evS, EV.evE, EV.evEs, EV.evAnd, EV.evOr, EV.evO, EV.evI, EV.evIfs, EV.R.bind, EV.R.fl, EV.R.of, EV.R.tst, EV.endCR, EV.ioNd, EV.iosOf, EV.den, EV.dens, EV.keep, EV.keeps, EV.args, EV.back, EV.retOk, EV.outsOf, EV.stD, EV.bindT, EV.bindTs, EV.wip, EV.ioOk, EV.binD, EV.cmpD, EV.truD, EV.biD, EV.idxD, EV.cutD, EV.seqD, EV.zipD, EV.rngD, EV.enumD, EV.enzD, EV.tupW, EV.lstW, EV.shp, EV.revD, b_is_among, x_is_whole, isWhole, isAmong]
/-- each greater than the one before -/
def incr : List Int → Bool
  | a :: b :: r => decide (a < b) && incr (b :: r)
  | _ => true
def stepsL (xs : List D) : List D := (zipL xs.dropLast (xs.drop 1))
theorem steps_cons (a b : D) (r : List D) : stepsL (a :: b :: r) = .tuple [a, b] :: stepsL (b :: r) := by
  simp [stepsL, zipL]
def pairs (ns : List Int) : List (Int × Int) := ns.zip (ns.drop 1)
abbrev pE (p : Int × Int) : D := .tuple [.int p.1, .int p.2]
theorem steps_pairs : ∀ ns : List Int, stepsL (ns.map .int) = (pairs ns).map pE
  | [] => rfl
  | [a] => rfl
  | a :: b :: r => by
    have ih := steps_pairs (b :: r)
    simp only [pairs, List.map_cons, steps_cons, List.drop_succ_cons, List.drop_zero, List.zip_cons_cons] at ih ⊢
    rw [ih]
theorem incr_all : ∀ ns : List Int, ((pairs ns).map fun p => decide (p.1 < p.2)).all id = incr ns
  | [] => rfl
  | [a] => rfl
  | a :: b :: r => by
    have ih := incr_all (b :: r)
    simp only [pairs, List.drop_succ_cons, List.drop_zero, List.zip_cons_cons, List.map_cons, List.all_cons, id, incr] at ih ⊢
    rw [ih]
theorem pairs_len (ns : List Int) : (pairs ns).length ≤ ns.length := by
  unfold pairs
  rw [List.length_zip]
  exact Nat.min_le_left _ _
theorem all_of {α : Type} (as : List α) (p : α → Bool) : biD .all [.list (as.map fun a => .bool (p a))] = some (.d (.bool (as.all p))) := by
  have h := bls_all (as.map p)
  rw [List.map_map] at h
  simp only [biD, seqD, Option.bind_some]
  rw [show (fun a => PyData.bool (p a)) = PyData.bool ∘ p from rfl, h, Option.bind_some, List.all_map]
  rfl
theorem cut_from1 (xs : List D) : cutL xs (some 1) none = xs.drop 1 := cut_from xs 1
theorem z_rises_0 (n : Nat) (ns : List Int) (hl : ns.length ≤ 100000) : evE gm.G (CC n) q_rises_0 [some (.d (.tuple (ns.map .int))), none, none] = .ok (.nw ((pairs ns).map fun p => .bool (decide (p.1 < p.2)))) [some (.d (.tuple (ns.map .int))), none, none] :=
  comp_as (pairs ns) pE _ (by simp [EV.evSs, EV.evS, EV.evE, EV.evEs, EV.evAnd, EV.evOr, EV.evO, EV.evI, EV.evIfs, EV.R.bind, EV.R.fl, EV.R.of, EV.R.tst, EV.endCR, EV.ioNd, EV.iosOf, EV.den, EV.dens, EV.keep, EV.keeps, EV.args, EV.back, EV.retOk, EV.outsOf, EV.stD, EV.bindT, EV.bindTs, EV.wip, EV.ioOk, EV.binD, EV.cmpD, EV.truD, EV.biD, EV.idxD, EV.cutD, EV.seqD, EV.zipD, EV.rngD, EV.enumD, EV.enzD, EV.tupW, EV.lstW, EV.shp, EV.revD, cut_init, cut_from1, ← steps_pairs, stepsL]) rfl (Nat.le_trans (pairs_len _) hl) fun a ha => by simp [EV.evSs, EV.evS, EV.evE, EV.evEs, EV.evAnd, EV.evOr, EV.evO, EV.evI, EV.evIfs, EV.R.bind, EV.R.fl, EV.R.of, EV.R.tst, EV.endCR, EV.ioNd, EV.iosOf, EV.den, EV.dens, EV.keep, EV.keeps, EV.args, EV.back, EV.retOk, EV.outsOf, EV.stD, EV.bindT, EV.bindTs, EV.wip, EV.ioOk, EV.binD, EV.cmpD, EV.truD, EV.biD, EV.idxD, EV.cutD, EV.seqD, EV.zipD, EV.rngD, EV.enumD, EV.enzD, EV.tupW, EV.lstW, EV.shp, EV.revD, turnC, pE]
theorem x_rises (n : Nat) (ns : List Int) (hl : ns.length ≤ 100000) : CC (n + 1) i_rises [.d (.tuple (ns.map .int))] = .ok (.d (.bool (incr ns))) [none] := by
  rw [u_rises _ _ rfl]
  have := all_of (pairs ns) fun p => decide (p.1 < p.2)
  simp only [biD, seqD, Option.bind_some] at this
  simp [EV.evSs, EV.evS, EV.evE, EV.evEs, EV.evAnd, EV.evOr, EV.evO, EV.evI, EV.evIfs, EV.R.bind, EV.R.fl, EV.R.of, EV.R.tst, EV.endCR, EV.ioNd, EV.iosOf, EV.den, EV.dens, EV.keep, EV.keeps, EV.args, EV.back, EV.retOk, EV.outsOf, EV.stD, EV.bindT, EV.bindTs, EV.wip, EV.ioOk, EV.binD, EV.cmpD, EV.truD, EV.biD, EV.idxD, EV.cutD, EV.seqD, EV.zipD, EV.rngD, EV.enumD, EV.enzD, EV.tupW, EV.lstW, EV.shp, EV.revD, b_rises, z_rises_0 n ns hl, this]
  rw [← incr_all, List.all_map]
  rfl
/-- a kind -/
structure Kd where
  full : Int
  volts : List Int
  loss : Int
  low : Int
  high : Int
  out : Int
  back : Int
def Kd.e (k : Kd) : D := .tuple [.int k.full, .tuple (k.volts.map .int), .int k.loss, .int k.low, .int k.high, .int k.out, .int k.back]
structure Kd.Ok (k : Kd) : Prop where
  f1 : 1 ≤ k.full
  f2 : k.full ≤ 8
  vl : (k.volts.length : Int) = k.full + 1
  vi : ∀ v ∈ k.volts, 0 ≤ v ∧ v ≤ 900
  up : incr k.volts = true
  l1 : 0 ≤ k.loss
  l2 : k.loss ≤ 50
  w1 : 0 ≤ k.low
  w2 : k.low ≤ k.high
  h2 : k.high ≤ 900
  o1 : 1 ≤ k.out
  o2 : k.out ≤ 4
  b1 : 0 ≤ k.back
  b2 : k.back ≤ 4
theorem among {i a b : Int} (h : a ≤ i) (h2 : i ≤ b) : isAmong (.int i) a b = true := by simp [isAmong, h, h2]
theorem x_are_volts (n : Nat) (k : Kd) (h : k.Ok) : CC (n + 3) i_are_volts [.d (.int k.full), .d (.tuple (k.volts.map .int))] = .ok (.d (.bool true)) [none, none] := by
  rw [u_are_volts _ _ _ rfl]
  have hl : k.volts.length ≤ 100000 := by have := h.vl; have := h.f2; omega
  have hn : PyData.eqv (.int (k.volts.length : Int)) (.int (k.full + 1)) = true := by rw [h.vl]; simp [PyData.eqv]
  have ha : k.volts.all (fun v => isAmong (.int v) 0 900) = true := List.all_eq_true.mpr fun v hv => among (h.vi v hv).1 (h.vi v hv).2
  have hq : evE gm.G (CC (n + 2)) q_are_volts_0 [some (.d (.int k.full)), some (.d (.tuple (k.volts.map .int))), none] = .ok (.nw (k.volts.map fun v => .bool (isAmong (.int v) 0 900))) [some (.d (.int k.full)), some (.d (.tuple (k.volts.map .int))), none] :=
    comp_as k.volts .int _ (by simp [EV.evSs, EV.evS, EV.evE, EV.evEs, EV.evAnd, EV.evOr, EV.evO, EV.evI, EV.evIfs, EV.R.bind, EV.R.fl, EV.R.of, EV.R.tst, EV.endCR, EV.ioNd, EV.iosOf, EV.den, EV.dens, EV.keep, EV.keeps, EV.args, EV.back, EV.retOk, EV.outsOf, EV.stD, EV.bindT, EV.bindTs, EV.wip, EV.ioOk, EV.binD, EV.cmpD, EV.truD, EV.biD, EV.idxD, EV.cutD, EV.seqD, EV.zipD, EV.rngD, EV.enumD, EV.enzD, EV.tupW, EV.lstW, EV.shp, EV.revD]) rfl hl fun a ha => by simp [EV.evSs, EV.evS, EV.evE, EV.evEs, EV.evAnd, EV.evOr, EV.evO, EV.evI, EV.evIfs, EV.R.bind, EV.R.fl, EV.R.of, EV.R.tst, EV.endCR, EV.ioNd, EV.iosOf, EV.den, EV.dens, EV.keep, EV.keeps, EV.args, EV.back, EV.retOk, EV.outsOf, EV.stD, EV.bindT, EV.bindTs, EV.wip, EV.ioOk, EV.binD, EV.cmpD, EV.truD, EV.biD, EV.idxD, EV.cutD, EV.seqD, EV.zipD, EV.rngD, EV.enumD, EV.enzD, EV.tupW, EV.lstW, EV.shp, EV.revD, turnC, x_is_among]
  have := all_of k.volts fun v => isAmong (.int v) 0 900
  simp only [biD, seqD, Option.bind_some] at this
  simp [EV.evSs, EV.evS, EV.evE, EV.evEs, EV.evAnd, EV.evOr, EV.evO, EV.evI, EV.evIfs, EV.R.bind, EV.R.fl, EV.R.of, EV.R.tst, EV.endCR, EV.ioNd, EV.iosOf, EV.den, EV.dens, EV.keep, EV.keeps, EV.args, EV.back, EV.retOk, EV.outsOf, EV.stD, EV.bindT, EV.bindTs, EV.wip, EV.ioOk, EV.binD, EV.cmpD, EV.truD, EV.biD, EV.idxD, EV.cutD, EV.seqD, EV.zipD, EV.rngD, EV.enumD, EV.enzD, EV.tupW, EV.lstW, EV.shp, EV.revD, b_are_volts, hn, hq, this, ha, x_rises, hl, h.up]
theorem x_is_kind (n : Nat) (k : Kd) (h : k.Ok) : CC (n + 4) i_is_kind [.d k.e] = .ok (.d (.bool true)) [none] := by
  rw [u_is_kind _ _ rfl]
  have e7 : PyData.eqv (.int 7) (.int 7) = true := by simp [PyData.eqv]
  simp [EV.evSs, EV.evS, EV.evE, EV.evEs, EV.evAnd, EV.evOr, EV.evO, EV.evI, EV.evIfs, EV.R.bind, EV.R.fl, EV.R.of, EV.R.tst, EV.endCR, EV.ioNd, EV.iosOf, EV.den, EV.dens, EV.keep, EV.keeps, EV.args, EV.back, EV.retOk, EV.outsOf, EV.stD, EV.bindT, EV.bindTs, EV.wip, EV.ioOk, EV.binD, EV.cmpD, EV.truD, EV.biD, EV.idxD, EV.cutD, EV.seqD, EV.zipD, EV.rngD, EV.enumD, EV.enzD, EV.tupW, EV.lstW, EV.shp, EV.revD, b_is_kind, Kd.e, e7, atD, ixD, x_is_among, among h.f1 h.f2, x_are_volts n k h, among h.l1 h.l2, among (Int.le_trans h.w1 h.w2) h.h2, among h.w1 h.w2, among h.o1 h.o2, among h.b1 h.b2]
/-! ### rows -/
abbrev Cell := Int × Int
abbrev ce (c : Cell) : D := .tuple [.int c.1, .int c.2]
abbrev rowE (r : List Kd) : D := .tuple (r.map Kd.e)
abbrev stE (s : List Cell) : D := .tuple (s.map ce)
def standsAt (f : Int) (c : Nat) : List Cell := ((List.range ((min 2 (f - 1)).toNat + 1)).filter fun (w : Nat) => decide ((c : Int) + (w : Int) ≤ f)).map fun (w : Nat) => ((c : Int), (w : Int))
def standsOf (f : Int) : List Cell := (List.range (f.toNat + 1)).flatMap fun (c : Nat) => standsAt f c
def cnt (f : Int) : Int := (standsOf f).length
theorem full_cases {k : Kd} (h : k.Ok) : k.full = 1 ∨ k.full = 2 ∨ k.full = 3 ∨ k.full = 4 ∨ k.full = 5 ∨ k.full = 6 ∨ k.full = 7 ∨ k.full = 8 := by
  have := h.f1
  have := h.f2
  omega
set_option maxRecDepth 1000000 in
theorem x_cell_stands (n : Nat) (k : Kd) (h : k.Ok) : CC (n + 1) i_cell_stands [.d k.e] = .ok (.d (.list ((standsOf k.full).map ce))) [none] := by
  rw [u_cell_stands _ _ rfl]
  have hf := full_cases h
  obtain ⟨full, volts, loss, low, high, out, back⟩ := k
  simp only at hf
  rcases hf with rfl | rfl | rfl | rfl | rfl | rfl | rfl | rfl <;> kernel_rfl
theorem cnt_le {k : Kd} (h : k.Ok) : 0 ≤ cnt k.full ∧ cnt k.full ≤ 24 := by
  rcases full_cases h with e | e | e | e | e | e | e | e <;> rw [e] <;> decide +kernel
def many (r : List Kd) : Int := r.foldl (fun a k => a * cnt k.full) 1
structure RowOk (r : List Kd) : Prop where
  ks : ∀ k ∈ r, k.Ok
  l1 : 1 ≤ r.length
  l2 : r.length ≤ 3
  ms : many r ≤ 300
theorem x_many_stands (n : Nat) (r : List Kd) (h : ∀ k ∈ r, k.Ok) : CC (n + 2) i_many_stands [.d (rowE r)] = .ok (.d (.int (many r))) [none] := by
  rw [u_many_stands _ _ rfl]
  have loop : ∀ (r' : List Kd) (a : Int) (x : Option SV), (∀ k ∈ r', k.Ok) → ∃ x', forL (bindT (.nm 2)) (evSs gm.G (CC (n + 1)) l_many_stands_0b) (r'.map Kd.e) [some (.d (rowE r)), some (.d (.int a)), x] = .nx [some (.d (rowE r)), some (.d (.int (r'.foldl (fun a k => a * cnt k.full) a))), x'] := by
    intro r'
    induction r' with
    | nil => intro a x _; exact ⟨x, rfl⟩
    | cons k r' ih =>
      intro a x hk
      obtain ⟨x', e⟩ := ih (a * cnt k.full) (some (.d k.e)) fun k' h' => hk k' (List.mem_cons_of_mem _ h')
      have h1 := x_cell_stands n k (hk k List.mem_cons_self)
      obtain ⟨c1, c2⟩ := cnt_le (hk k List.mem_cons_self)
      have h2 : small64 ((standsOf k.full).length : Int) = true := by
        unfold small64
        have : ((standsOf k.full).length : Int) ≤ 24 := c2
        simp
        omega
      refine ⟨x', ?_⟩
      rw [List.map_cons, forL, List.foldl_cons]
      rw [← e]
      simp [EV.evSs, EV.evS, EV.evE, EV.evEs, EV.evAnd, EV.evOr, EV.evO, EV.evI, EV.evIfs, EV.R.bind, EV.R.fl, EV.R.of, EV.R.tst, EV.endCR, EV.ioNd, EV.iosOf, EV.den, EV.dens, EV.keep, EV.keeps, EV.args, EV.back, EV.retOk, EV.outsOf, EV.stD, EV.bindT, EV.bindTs, EV.wip, EV.ioOk, EV.binD, EV.cmpD, EV.truD, EV.biD, EV.idxD, EV.cutD, EV.seqD, EV.zipD, EV.rngD, EV.enumD, EV.enzD, EV.tupW, EV.lstW, EV.shp, EV.revD, l_many_stands_0b, h1, h2, cnt]
  obtain ⟨x', e⟩ := loop r 1 none h
  have e' : evS gm.G (CC (n + 1)) l_many_stands_0 [some (.d (rowE r)), some (.d (.int 1)), none] = .nx [some (.d (rowE r)), some (.d (.int (many r))), x'] := by
    rw [l_many_stands_0, evS]
    rw [show evI gm.G (CC (n + 1)) (.seq (.v 0)) [some (.d (rowE r)), some (.d (.int 1)), none] = .ok (r.map Kd.e) [some (.d (rowE r)), some (.d (.int 1)), none] by simp [EV.evSs, EV.evS, EV.evE, EV.evEs, EV.evAnd, EV.evOr, EV.evO, EV.evI, EV.evIfs, EV.R.bind, EV.R.fl, EV.R.of, EV.R.tst, EV.endCR, EV.ioNd, EV.iosOf, EV.den, EV.dens, EV.keep, EV.keeps, EV.args, EV.back, EV.retOk, EV.outsOf, EV.stD, EV.bindT, EV.bindTs, EV.wip, EV.ioOk, EV.binD, EV.cmpD, EV.truD, EV.biD, EV.idxD, EV.cutD, EV.seqD, EV.zipD, EV.rngD, EV.enumD, EV.enzD, EV.tupW, EV.lstW, EV.shp, EV.revD]]
    exact e
  simp [EV.evSs, EV.evS, EV.evE, EV.evEs, EV.evAnd, EV.evOr, EV.evO, EV.evI, EV.evIfs, EV.R.bind, EV.R.fl, EV.R.of, EV.R.tst, EV.endCR, EV.ioNd, EV.iosOf, EV.den, EV.dens, EV.keep, EV.keeps, EV.args, EV.back, EV.retOk, EV.outsOf, EV.stD, EV.bindT, EV.bindTs, EV.wip, EV.ioOk, EV.binD, EV.cmpD, EV.truD, EV.biD, EV.idxD, EV.cutD, EV.seqD, EV.zipD, EV.rngD, EV.enumD, EV.enzD, EV.tupW, EV.lstW, EV.shp, EV.revD, b_many_stands, e']
theorem all_true {α : Type} {as : List α} {p : α → Bool} (h : ∀ a ∈ as, p a = true) : as.all p = true := List.all_eq_true.mpr h
theorem kinds_all (n : Nat) (r : List Kd) (h : ∀ k ∈ r, k.Ok) (hl : r.length ≤ 100000) : evE gm.G (CC (n + 4)) q_is_row_0 [some (.d (rowE r)), none] = .ok (.nw (r.map fun _ => .bool true)) [some (.d (rowE r)), none] :=
  comp_as r Kd.e _ (by simp [EV.evSs, EV.evS, EV.evE, EV.evEs, EV.evAnd, EV.evOr, EV.evO, EV.evI, EV.evIfs, EV.R.bind, EV.R.fl, EV.R.of, EV.R.tst, EV.endCR, EV.ioNd, EV.iosOf, EV.den, EV.dens, EV.keep, EV.keeps, EV.args, EV.back, EV.retOk, EV.outsOf, EV.stD, EV.bindT, EV.bindTs, EV.wip, EV.ioOk, EV.binD, EV.cmpD, EV.truD, EV.biD, EV.idxD, EV.cutD, EV.seqD, EV.zipD, EV.rngD, EV.enumD, EV.enzD, EV.tupW, EV.lstW, EV.shp, EV.revD]) rfl hl fun a ha => by simp [EV.evSs, EV.evS, EV.evE, EV.evEs, EV.evAnd, EV.evOr, EV.evO, EV.evI, EV.evIfs, EV.R.bind, EV.R.fl, EV.R.of, EV.R.tst, EV.endCR, EV.ioNd, EV.iosOf, EV.den, EV.dens, EV.keep, EV.keeps, EV.args, EV.back, EV.retOk, EV.outsOf, EV.stD, EV.bindT, EV.bindTs, EV.wip, EV.ioOk, EV.binD, EV.cmpD, EV.truD, EV.biD, EV.idxD, EV.cutD, EV.seqD, EV.zipD, EV.rngD, EV.enumD, EV.enzD, EV.tupW, EV.lstW, EV.shp, EV.revD, turnC, x_is_kind n a (h a ha)]
theorem all_tt {α : Type} (as : List α) : blsD (as.map fun _ => (.bool true : D)) = some (as.map fun _ => true) := by
  have := bls_all (as.map fun _ => true)
  rwa [List.map_map] at this
theorem all_ttt {α : Type} (as : List α) : (as.map fun _ => true).all id = true := by
  rw [List.all_map]
  exact List.all_eq_true.mpr fun _ _ => rfl
theorem x_is_row (n : Nat) (r : List Kd) (h : RowOk r) : CC (n + 5) i_is_row [.d (rowE r)] = .ok (.d (.bool true)) [none] := by
  rw [u_is_row _ _ rfl]
  have h1 : (1 : Int) ≤ (r.length : Int) := by have := h.l1; omega
  have h2 : (r.length : Int) ≤ 3 := by have := h.l2; omega
  have hm := x_many_stands (n + 2) r h.ks
  have hq := kinds_all n r h.ks (by have := h.l2; omega)
  simp [EV.evSs, EV.evS, EV.evE, EV.evEs, EV.evAnd, EV.evOr, EV.evO, EV.evI, EV.evIfs, EV.R.bind, EV.R.fl, EV.R.of, EV.R.tst, EV.endCR, EV.ioNd, EV.iosOf, EV.den, EV.dens, EV.keep, EV.keeps, EV.args, EV.back, EV.retOk, EV.outsOf, EV.stD, EV.bindT, EV.bindTs, EV.wip, EV.ioOk, EV.binD, EV.cmpD, EV.truD, EV.biD, EV.idxD, EV.cutD, EV.seqD, EV.zipD, EV.rngD, EV.enumD, EV.enzD, EV.tupW, EV.lstW, EV.shp, EV.revD, b_is_row, h1, h2, hm, hq, all_tt, all_ttt, h.ms]
theorem x_need_row (n : Nat) (r : List Kd) (h : RowOk r) : CC (n + 6) i_need_row [.d (rowE r)] = .ok (.d .none) [none] := by
  rw [u_need_row _ _ rfl]
  simp [EV.evSs, EV.evS, EV.evE, EV.evEs, EV.evAnd, EV.evOr, EV.evO, EV.evI, EV.evIfs, EV.R.bind, EV.R.fl, EV.R.of, EV.R.tst, EV.endCR, EV.ioNd, EV.iosOf, EV.den, EV.dens, EV.keep, EV.keeps, EV.args, EV.back, EV.retOk, EV.outsOf, EV.stD, EV.bindT, EV.bindTs, EV.wip, EV.ioOk, EV.binD, EV.cmpD, EV.truD, EV.biD, EV.idxD, EV.cutD, EV.seqD, EV.zipD, EV.rngD, EV.enumD, EV.enzD, EV.tupW, EV.lstW, EV.shp, EV.revD, b_need_row, x_is_row n r h]
/-! ### stands -/
structure CellOk (k : Kd) (c : Cell) : Prop where
  w0 : 0 ≤ c.2
  w1 : c.2 ≤ 2
  w2 : c.2 ≤ k.full - 1
  c0 : 0 ≤ c.1
  c1 : c.1 ≤ k.full - c.2
structure StOk (r : List Kd) (s : List Cell) : Prop where
  len : s.length = r.length
  ok : ∀ p ∈ r.zip s, CellOk p.1 p.2
theorem eqv_len {a b : Nat} (h : a = b) : PyData.eqv (.int (a : Int)) (.int (b : Int)) = true := by subst h; simp [PyData.eqv]
theorem zip_kc : ∀ (r : List Kd) (s : List Cell), zipL (r.map Kd.e) (s.map ce) = (r.zip s).map fun p => .tuple [p.1.e, ce p.2]
  | [], s => by simp [zipL]
  | k :: r, [] => by simp [zipL]
  | k :: r, c :: s => by simp [zipL, zip_kc r s]
theorem x_is_cell_stand (n : Nat) (k : Kd) (c : Cell) (h : CellOk k c) : CC (n + 3) i_is_cell_stand [.d k.e, .d (ce c)] = .ok (.d (.bool true)) [none, none] := by
  rw [u_is_cell_stand _ _ _ rfl]
  have e2 : PyData.eqv (.int 2) (.int 2) = true := by simp [PyData.eqv]
  have hw := among h.w0 (b := min 2 (k.full - 1)) (by have := h.w1; have := h.w2; omega)
  have hc := among h.c0 h.c1
  simp [EV.evSs, EV.evS, EV.evE, EV.evEs, EV.evAnd, EV.evOr, EV.evO, EV.evI, EV.evIfs, EV.R.bind, EV.R.fl, EV.R.of, EV.R.tst, EV.endCR, EV.ioNd, EV.iosOf, EV.den, EV.dens, EV.keep, EV.keeps, EV.args, EV.back, EV.retOk, EV.outsOf, EV.stD, EV.bindT, EV.bindTs, EV.wip, EV.ioOk, EV.binD, EV.cmpD, EV.truD, EV.biD, EV.idxD, EV.cutD, EV.seqD, EV.zipD, EV.rngD, EV.enumD, EV.enzD, EV.tupW, EV.lstW, EV.shp, EV.revD, b_is_cell_stand, Kd.e, ce, e2, atD, ixD, x_is_among, hw, hc]
theorem x_is_stand_of (n : Nat) (r : List Kd) (s : List Cell) (h : StOk r s) (hr : r.length ≤ 3) : CC (n + 4) i_is_stand_of [.d (rowE r), .d (stE s)] = .ok (.d (.bool true)) [none, none] := by
  rw [u_is_stand_of _ _ _ rfl]
  have hq : evE gm.G (CC (n + 3)) q_is_stand_of_0 [some (.d (rowE r)), some (.d (stE s)), none, none] = .ok (.nw ((r.zip s).map fun _ => .bool true)) [some (.d (rowE r)), some (.d (stE s)), none, none] :=
    comp_as (r.zip s) (fun p => .tuple [p.1.e, ce p.2]) _ (by simp [EV.evSs, EV.evS, EV.evE, EV.evEs, EV.evAnd, EV.evOr, EV.evO, EV.evI, EV.evIfs, EV.R.bind, EV.R.fl, EV.R.of, EV.R.tst, EV.endCR, EV.ioNd, EV.iosOf, EV.den, EV.dens, EV.keep, EV.keeps, EV.args, EV.back, EV.retOk, EV.outsOf, EV.stD, EV.bindT, EV.bindTs, EV.wip, EV.ioOk, EV.binD, EV.cmpD, EV.truD, EV.biD, EV.idxD, EV.cutD, EV.seqD, EV.zipD, EV.rngD, EV.enumD, EV.enzD, EV.tupW, EV.lstW, EV.shp, EV.revD, zip_kc]) rfl (by rw [List.length_zip]; omega) fun a ha => by simp [EV.evSs, EV.evS, EV.evE, EV.evEs, EV.evAnd, EV.evOr, EV.evO, EV.evI, EV.evIfs, EV.R.bind, EV.R.fl, EV.R.of, EV.R.tst, EV.endCR, EV.ioNd, EV.iosOf, EV.den, EV.dens, EV.keep, EV.keeps, EV.args, EV.back, EV.retOk, EV.outsOf, EV.stD, EV.bindT, EV.bindTs, EV.wip, EV.ioOk, EV.binD, EV.cmpD, EV.truD, EV.biD, EV.idxD, EV.cutD, EV.seqD, EV.zipD, EV.rngD, EV.enumD, EV.enzD, EV.tupW, EV.lstW, EV.shp, EV.revD, turnC, x_is_cell_stand n a.1 a.2 (h.ok a ha)]
  have hl : PyData.eqv (.int (s.length : Int)) (.int (r.length : Int)) = true := eqv_len h.len
  simp [EV.evSs, EV.evS, EV.evE, EV.evEs, EV.evAnd, EV.evOr, EV.evO, EV.evI, EV.evIfs, EV.R.bind, EV.R.fl, EV.R.of, EV.R.tst, EV.endCR, EV.ioNd, EV.iosOf, EV.den, EV.dens, EV.keep, EV.keeps, EV.args, EV.back, EV.retOk, EV.outsOf, EV.stD, EV.bindT, EV.bindTs, EV.wip, EV.ioOk, EV.binD, EV.cmpD, EV.truD, EV.biD, EV.idxD, EV.cutD, EV.seqD, EV.zipD, EV.rngD, EV.enumD, EV.enzD, EV.tupW, EV.lstW, EV.shp, EV.revD, b_is_stand_of, hl, hq, all_tt, all_ttt]
theorem x_need_stand (n : Nat) (r : List Kd) (s : List Cell) (hr : RowOk r) (h : StOk r s) : CC (n + 7) i_need_stand [.d (rowE r), .d (stE s)] = .ok (.d .none) [none, none] := by
  rw [u_need_stand _ _ _ rfl]
  simp [EV.evSs, EV.evS, EV.evE, EV.evEs, EV.evAnd, EV.evOr, EV.evO, EV.evI, EV.evIfs, EV.R.bind, EV.R.fl, EV.R.of, EV.R.tst, EV.endCR, EV.ioNd, EV.iosOf, EV.den, EV.dens, EV.keep, EV.keeps, EV.args, EV.back, EV.retOk, EV.outsOf, EV.stD, EV.bindT, EV.bindTs, EV.wip, EV.ioOk, EV.binD, EV.cmpD, EV.truD, EV.biD, EV.idxD, EV.cutD, EV.seqD, EV.zipD, EV.rngD, EV.enumD, EV.enzD, EV.tupW, EV.lstW, EV.shp, EV.revD, b_need_stand, x_need_row n r hr, x_is_stand_of (n + 2) r s h hr.l2]
/-! ### what is shown -/
def vAt (k : Kd) (c : Cell) : Int := k.volts.getD (c.1 + c.2).toNat 0
def opensL (r : List Kd) (s : List Cell) : List Int := (r.zip s).map fun p => vAt p.1 p.2
theorem volt_at {k : Kd} {c : Cell} (hk : k.Ok) (h : CellOk k c) : atD (k.volts.map .int) (c.1 + c.2) = some (.int (vAt k c)) := by
  have h1 := h.c0
  have h2 := h.w0
  have h3 := h.c1
  have h4 := hk.vl
  obtain ⟨j, hj⟩ : ∃ j : Nat, c.1 + c.2 = (j : Int) := ⟨(c.1 + c.2).toNat, by omega⟩
  have hlt : j < k.volts.length := by omega
  unfold vAt
  rw [hj, at_n, List.getElem?_map, Int.toNat_natCast, List.getD_eq_getElem?_getD, List.getElem?_eq_getElem hlt]
  rfl
theorem x_opens_by (n : Nat) (r : List Kd) (s : List Cell) (hr : RowOk r) (h : StOk r s) : CC (n + 1) i_opens_by [.d (rowE r), .d (stE s)] = .ok (.d (.tuple ((opensL r s).map .int))) [none, none] := by
  rw [u_opens_by _ _ _ rfl]
  have hq : evE gm.G (CC n) q_opens_by_0 [some (.d (rowE r)), some (.d (stE s)), none, none, none] = .ok (.nw ((r.zip s).map fun p => .int (vAt p.1 p.2))) [some (.d (rowE r)), some (.d (stE s)), none, none, none] :=
    comp_as (r.zip s) (fun p => .tuple [p.1.e, ce p.2]) _ (by simp [EV.evSs, EV.evS, EV.evE, EV.evEs, EV.evAnd, EV.evOr, EV.evO, EV.evI, EV.evIfs, EV.R.bind, EV.R.fl, EV.R.of, EV.R.tst, EV.endCR, EV.ioNd, EV.iosOf, EV.den, EV.dens, EV.keep, EV.keeps, EV.args, EV.back, EV.retOk, EV.outsOf, EV.stD, EV.bindT, EV.bindTs, EV.wip, EV.ioOk, EV.binD, EV.cmpD, EV.truD, EV.biD, EV.idxD, EV.cutD, EV.seqD, EV.zipD, EV.rngD, EV.enumD, EV.enzD, EV.tupW, EV.lstW, EV.shp, EV.revD, zip_kc]) rfl (by rw [List.length_zip]; have := hr.l2; omega) fun a ha => by
      have h1 := volt_at (hr.ks a.1 (List.of_mem_zip ha).1) (h.ok a ha)
      have h2 : atD [PyData.int a.1.full, .tuple (a.1.volts.map .int), .int a.1.loss, .int a.1.low, .int a.1.high, .int a.1.out, .int a.1.back] 1 = some (.tuple (a.1.volts.map .int)) := rfl
      simp [EV.evSs, EV.evS, EV.evE, EV.evEs, EV.evAnd, EV.evOr, EV.evO, EV.evI, EV.evIfs, EV.R.bind, EV.R.fl, EV.R.of, EV.R.tst, EV.endCR, EV.ioNd, EV.iosOf, EV.den, EV.dens, EV.keep, EV.keeps, EV.args, EV.back, EV.retOk, EV.outsOf, EV.stD, EV.bindT, EV.bindTs, EV.wip, EV.ioOk, EV.binD, EV.cmpD, EV.truD, EV.biD, EV.idxD, EV.cutD, EV.seqD, EV.zipD, EV.rngD, EV.enumD, EV.enzD, EV.tupW, EV.lstW, EV.shp, EV.revD, turnC, Kd.e, ce, h2, h1]
  simp [EV.evSs, EV.evS, EV.evE, EV.evEs, EV.evAnd, EV.evOr, EV.evO, EV.evI, EV.evIfs, EV.R.bind, EV.R.fl, EV.R.of, EV.R.tst, EV.endCR, EV.ioNd, EV.iosOf, EV.den, EV.dens, EV.keep, EV.keeps, EV.args, EV.back, EV.retOk, EV.outsOf, EV.stD, EV.bindT, EV.bindTs, EV.wip, EV.ioOk, EV.binD, EV.cmpD, EV.truD, EV.biD, EV.idxD, EV.cutD, EV.seqD, EV.zipD, EV.rngD, EV.enumD, EV.enzD, EV.tupW, EV.lstW, EV.shp, EV.revD, b_opens_by, hq, opensL]
/-! ### plans -/
abbrev plE (p : List Int) : D := .tuple (p.map .int)
structure PlanOk (p : List Int) : Prop where
  len : p.length ≤ 12
  ok : ∀ i ∈ p, -9 ≤ i ∧ i ≤ 9
theorem x_is_current (n : Nat) (i : Int) (h : -9 ≤ i ∧ i ≤ 9) : CC (n + 3) i_is_current [.d (.int i)] = .ok (.d (.bool true)) [none] := by
  rw [u_is_current _ _ rfl]
  simp [EV.evSs, EV.evS, EV.evE, EV.evEs, EV.evAnd, EV.evOr, EV.evO, EV.evI, EV.evIfs, EV.R.bind, EV.R.fl, EV.R.of, EV.R.tst, EV.endCR, EV.ioNd, EV.iosOf, EV.den, EV.dens, EV.keep, EV.keeps, EV.args, EV.back, EV.retOk, EV.outsOf, EV.stD, EV.bindT, EV.bindTs, EV.wip, EV.ioOk, EV.binD, EV.cmpD, EV.truD, EV.biD, EV.idxD, EV.cutD, EV.seqD, EV.zipD, EV.rngD, EV.enumD, EV.enzD, EV.tupW, EV.lstW, EV.shp, EV.revD, b_is_current, x_is_among, among h.1 h.2]
theorem x_is_plan (n : Nat) (p : List Int) (h : PlanOk p) : CC (n + 4) i_is_plan [.d (plE p)] = .ok (.d (.bool true)) [none] := by
  rw [u_is_plan _ _ rfl]
  have h1 := h.len
  have h2 : (p.length : Int) ≤ 12 := by omega
  have hq : evE gm.G (CC (n + 3)) q_is_plan_0 [some (.d (plE p)), none] = .ok (.nw (p.map fun _ => .bool true)) [some (.d (plE p)), none] :=
    comp_as p .int _ (by simp [EV.evSs, EV.evS, EV.evE, EV.evEs, EV.evAnd, EV.evOr, EV.evO, EV.evI, EV.evIfs, EV.R.bind, EV.R.fl, EV.R.of, EV.R.tst, EV.endCR, EV.ioNd, EV.iosOf, EV.den, EV.dens, EV.keep, EV.keeps, EV.args, EV.back, EV.retOk, EV.outsOf, EV.stD, EV.bindT, EV.bindTs, EV.wip, EV.ioOk, EV.binD, EV.cmpD, EV.truD, EV.biD, EV.idxD, EV.cutD, EV.seqD, EV.zipD, EV.rngD, EV.enumD, EV.enzD, EV.tupW, EV.lstW, EV.shp, EV.revD]) rfl (by omega) fun a ha => by simp [EV.evSs, EV.evS, EV.evE, EV.evEs, EV.evAnd, EV.evOr, EV.evO, EV.evI, EV.evIfs, EV.R.bind, EV.R.fl, EV.R.of, EV.R.tst, EV.endCR, EV.ioNd, EV.iosOf, EV.den, EV.dens, EV.keep, EV.keeps, EV.args, EV.back, EV.retOk, EV.outsOf, EV.stD, EV.bindT, EV.bindTs, EV.wip, EV.ioOk, EV.binD, EV.cmpD, EV.truD, EV.biD, EV.idxD, EV.cutD, EV.seqD, EV.zipD, EV.rngD, EV.enumD, EV.enzD, EV.tupW, EV.lstW, EV.shp, EV.revD, turnC, x_is_current n a (h.ok a ha)]
  simp [EV.evSs, EV.evS, EV.evE, EV.evEs, EV.evAnd, EV.evOr, EV.evO, EV.evI, EV.evIfs, EV.R.bind, EV.R.fl, EV.R.of, EV.R.tst, EV.endCR, EV.ioNd, EV.iosOf, EV.den, EV.dens, EV.keep, EV.keeps, EV.args, EV.back, EV.retOk, EV.outsOf, EV.stD, EV.bindT, EV.bindTs, EV.wip, EV.ioOk, EV.binD, EV.cmpD, EV.truD, EV.biD, EV.idxD, EV.cutD, EV.seqD, EV.zipD, EV.rngD, EV.enumD, EV.enzD, EV.tupW, EV.lstW, EV.shp, EV.revD, b_is_plan, h2, hq, all_tt, all_ttt]
/-! ### what a current shows -/
def showOf (k : Kd) (c : Cell) (i : Int) : Int := vAt k c - i * k.loss * (c.2 + 1)
def showsL (r : List Kd) (s : List Cell) (i : Int) : List Int := (r.zip s).map fun p => showOf p.1 p.2 i
theorem zip3_kcv (f : Kd × Cell → Int) : ∀ (r : List Kd) (s : List Cell), zipL3 (r.map Kd.e) (s.map ce) ((r.zip s).map fun p => .int (f p)) = (r.zip s).map fun p => .tuple [p.1.e, ce p.2, .int (f p)]
  | [], s => by simp [zipL3]
  | k :: r, [] => by simp [zipL3]
  | k :: r, c :: s => by simp [zipL3, zip3_kcv f r s]
theorem sm {i : Int} (h : -1000 ≤ i) (h2 : i ≤ 1000) : small64 i = true := by
  unfold small64
  simp
  omega
theorem x_shows_by (n : Nat) (r : List Kd) (s : List Cell) (i : Int) (hr : RowOk r) (h : StOk r s) (hi : -9 ≤ i ∧ i ≤ 9) : CC (n + 2) i_shows_by [.d (rowE r), .d (stE s), .d (.int i)] = .ok (.d (.tuple ((showsL r s i).map .int))) [none, none, none] := by
  rw [u_shows_by _ _ _ _ rfl]
  obtain ⟨s', e, x4, x5, x6, x7, rfl⟩ := forL_acc (bnd := bindT (.tp (.cons (.nm 4) (.cons (.tp (.cons (.nm 5) (.cons (.nm 6) .nil))) (.cons (.nm 7) .nil))))) (body := evSs gm.G (CC (n + 1)) l_shows_by_0b)
    (fun p : Kd × Cell => .tuple [p.1.e, ce p.2, .int (vAt p.1 p.2)]) (fun p => .int (showOf p.1 p.2 i)) (fun acc s' => ∃ x4 x5 x6 x7, s' = [some (.d (rowE r)), some (.d (stE s)), some (.d (.int i)), some (.own acc), x4, x5, x6, x7])
    (r.zip s) [] [some (.d (rowE r)), some (.d (stE s)), some (.d (.int i)), some (.own []), none, none, none, none] ⟨none, none, none, none, rfl⟩ (by rw [List.length_zip]; have := hr.l2; simp; omega) (fun acc p s' hp hz ⟨x4, x5, x6, x7, es⟩ => by
      subst es
      have s1 : small64 i = true := sm (by omega) (by omega)
      have c := h.ok p hp
      have s2 : small64 (p.2.2 + 1) = true := sm (by have := c.w0; omega) (by have := c.w1; omega)
      have h2 : atD [PyData.int p.1.full, .tuple (p.1.volts.map .int), .int p.1.loss, .int p.1.low, .int p.1.high, .int p.1.out, .int p.1.back] 2 = some (.int p.1.loss) := rfl
      refine ⟨[some (.d (rowE r)), some (.d (stE s)), some (.d (.int i)), some (.own (acc ++ [.int (showOf p.1 p.2 i)])), some (.d p.1.e), some (.d (.int p.2.1)), some (.d (.int p.2.2)), some (.d (.int (vAt p.1 p.2)))], ?_, _, _, _, _, rfl⟩
      simp [EV.evSs, EV.evS, EV.evE, EV.evEs, EV.evAnd, EV.evOr, EV.evO, EV.evI, EV.evIfs, EV.R.bind, EV.R.fl, EV.R.of, EV.R.tst, EV.endCR, EV.ioNd, EV.iosOf, EV.den, EV.dens, EV.keep, EV.keeps, EV.args, EV.back, EV.retOk, EV.outsOf, EV.stD, EV.bindT, EV.bindTs, EV.wip, EV.ioOk, EV.binD, EV.cmpD, EV.truD, EV.biD, EV.idxD, EV.cutD, EV.seqD, EV.zipD, EV.rngD, EV.enumD, EV.enzD, EV.tupW, EV.lstW, EV.shp, EV.revD, turnF, l_shows_by_0b, Kd.e, ce, h2, s1, s2, hz, showOf])
  have e' : evS gm.G (CC (n + 1)) l_shows_by_0 [some (.d (rowE r)), some (.d (stE s)), some (.d (.int i)), some (.own []), none, none, none, none] = .nx [some (.d (rowE r)), some (.d (stE s)), some (.d (.int i)), some (.own ((showsL r s i).map .int)), x4, x5, x6, x7] := by
    rw [l_shows_by_0, evS]
    have hi : evI gm.G (CC (n + 1)) (.zip (.cons (.v 0) (.cons (.v 1) (.cons (.call i_opens_by (.cons (.v 0) (.cons (.v 1) .nil))) .nil)))) [some (.d (rowE r)), some (.d (stE s)), some (.d (.int i)), some (.own []), none, none, none, none] =
        .ok ((r.zip s).map fun p => .tuple [p.1.e, ce p.2, .int (vAt p.1 p.2)]) [some (.d (rowE r)), some (.d (stE s)), some (.d (.int i)), some (.own []), none, none, none, none] := by
      have := zip3_kcv (fun p => vAt p.1 p.2) r s
      have hx := x_opens_by n r s hr h
      simp only [opensL, List.map_map] at hx
      rw [show (PyData.int ∘ fun p : Kd × Cell => vAt p.1 p.2) = fun p => .int (vAt p.1 p.2) from rfl] at hx
      simp [EV.evSs, EV.evS, EV.evE, EV.evEs, EV.evAnd, EV.evOr, EV.evO, EV.evI, EV.evIfs, EV.R.bind, EV.R.fl, EV.R.of, EV.R.tst, EV.endCR, EV.ioNd, EV.iosOf, EV.den, EV.dens, EV.keep, EV.keeps, EV.args, EV.back, EV.retOk, EV.outsOf, EV.stD, EV.bindT, EV.bindTs, EV.wip, EV.ioOk, EV.binD, EV.cmpD, EV.truD, EV.biD, EV.idxD, EV.cutD, EV.seqD, EV.zipD, EV.rngD, EV.enumD, EV.enzD, EV.tupW, EV.lstW, EV.shp, EV.revD, hx, this]
    rw [hi]
    simp only [R.fl]
    rw [e]
    simp [showsL]
  simp [EV.evSs, EV.evS, EV.evE, EV.evEs, EV.evAnd, EV.evOr, EV.evO, EV.evI, EV.evIfs, EV.R.bind, EV.R.fl, EV.R.of, EV.R.tst, EV.endCR, EV.ioNd, EV.iosOf, EV.den, EV.dens, EV.keep, EV.keeps, EV.args, EV.back, EV.retOk, EV.outsOf, EV.stD, EV.bindT, EV.bindTs, EV.wip, EV.ioOk, EV.binD, EV.cmpD, EV.truD, EV.biD, EV.idxD, EV.cutD, EV.seqD, EV.zipD, EV.rngD, EV.enumD, EV.enzD, EV.tupW, EV.lstW, EV.shp, EV.revD, b_shows_by, e']

/-! ### faults -/
def wd (x : String) : D := .str (Str.ofString x)
def cfault (k : Kd) (c : Cell) (i v : Int) : Option String :=
  if i > k.out ∨ i < 0 - k.back then some "draw" else if c.1 - i < 0 then some "empty" else if c.1 - i > k.full - c.2 then some "over" else if v < k.low then some "low" else if v > k.high then some "high" else none
def wE : Option String → D
  | none => .none
  | some x => wd x
theorem x_cell_fault (n : Nat) (k : Kd) (c : Cell) (i v : Int) : CC (n + 1) i_cell_fault [.d k.e, .d (ce c), .d (.int i), .d (.int v)] = .ok (.d (wE (cfault k c i v))) [none, none, none, none] := by
  rw [u_cell_fault _ _ _ _ _ rfl]
  unfold cfault
  have z : (0 : Int) - k.back = -k.back := by omega
  rw [z]
  by_cases h1 : k.out < i
  · simp [EV.evSs, EV.evS, EV.evE, EV.evEs, EV.evAnd, EV.evOr, EV.evO, EV.evI, EV.evIfs, EV.R.bind, EV.R.fl, EV.R.of, EV.R.tst, EV.endCR, EV.ioNd, EV.iosOf, EV.den, EV.dens, EV.keep, EV.keeps, EV.args, EV.back, EV.retOk, EV.outsOf, EV.stD, EV.bindT, EV.bindTs, EV.wip, EV.ioOk, EV.binD, EV.cmpD, EV.truD, EV.biD, EV.idxD, EV.cutD, EV.seqD, EV.zipD, EV.rngD, EV.enumD, EV.enzD, EV.tupW, EV.lstW, EV.shp, EV.revD, b_cell_fault, Kd.e, ce, h1, wE, wd]
  · by_cases h2 : i < -k.back
    · simp [EV.evSs, EV.evS, EV.evE, EV.evEs, EV.evAnd, EV.evOr, EV.evO, EV.evI, EV.evIfs, EV.R.bind, EV.R.fl, EV.R.of, EV.R.tst, EV.endCR, EV.ioNd, EV.iosOf, EV.den, EV.dens, EV.keep, EV.keeps, EV.args, EV.back, EV.retOk, EV.outsOf, EV.stD, EV.bindT, EV.bindTs, EV.wip, EV.ioOk, EV.binD, EV.cmpD, EV.truD, EV.biD, EV.idxD, EV.cutD, EV.seqD, EV.zipD, EV.rngD, EV.enumD, EV.enzD, EV.tupW, EV.lstW, EV.shp, EV.revD, b_cell_fault, Kd.e, ce, h1, h2, wE, wd]
    · by_cases h3 : c.1 - i < 0
      · simp [EV.evSs, EV.evS, EV.evE, EV.evEs, EV.evAnd, EV.evOr, EV.evO, EV.evI, EV.evIfs, EV.R.bind, EV.R.fl, EV.R.of, EV.R.tst, EV.endCR, EV.ioNd, EV.iosOf, EV.den, EV.dens, EV.keep, EV.keeps, EV.args, EV.back, EV.retOk, EV.outsOf, EV.stD, EV.bindT, EV.bindTs, EV.wip, EV.ioOk, EV.binD, EV.cmpD, EV.truD, EV.biD, EV.idxD, EV.cutD, EV.seqD, EV.zipD, EV.rngD, EV.enumD, EV.enzD, EV.tupW, EV.lstW, EV.shp, EV.revD, b_cell_fault, Kd.e, ce, h1, h2, h3, wE, wd]
      · by_cases h4 : k.full - c.2 < c.1 - i
        · simp [EV.evSs, EV.evS, EV.evE, EV.evEs, EV.evAnd, EV.evOr, EV.evO, EV.evI, EV.evIfs, EV.R.bind, EV.R.fl, EV.R.of, EV.R.tst, EV.endCR, EV.ioNd, EV.iosOf, EV.den, EV.dens, EV.keep, EV.keeps, EV.args, EV.back, EV.retOk, EV.outsOf, EV.stD, EV.bindT, EV.bindTs, EV.wip, EV.ioOk, EV.binD, EV.cmpD, EV.truD, EV.biD, EV.idxD, EV.cutD, EV.seqD, EV.zipD, EV.rngD, EV.enumD, EV.enzD, EV.tupW, EV.lstW, EV.shp, EV.revD, b_cell_fault, Kd.e, ce, h1, h2, h3, h4, wE, wd]
        · by_cases h5 : v < k.low
          · simp [EV.evSs, EV.evS, EV.evE, EV.evEs, EV.evAnd, EV.evOr, EV.evO, EV.evI, EV.evIfs, EV.R.bind, EV.R.fl, EV.R.of, EV.R.tst, EV.endCR, EV.ioNd, EV.iosOf, EV.den, EV.dens, EV.keep, EV.keeps, EV.args, EV.back, EV.retOk, EV.outsOf, EV.stD, EV.bindT, EV.bindTs, EV.wip, EV.ioOk, EV.binD, EV.cmpD, EV.truD, EV.biD, EV.idxD, EV.cutD, EV.seqD, EV.zipD, EV.rngD, EV.enumD, EV.enzD, EV.tupW, EV.lstW, EV.shp, EV.revD, b_cell_fault, Kd.e, ce, h1, h2, h3, h4, h5, wE, wd]
          · by_cases h6 : k.high < v <;> simp [EV.evSs, EV.evS, EV.evE, EV.evEs, EV.evAnd, EV.evOr, EV.evO, EV.evI, EV.evIfs, EV.R.bind, EV.R.fl, EV.R.of, EV.R.tst, EV.endCR, EV.ioNd, EV.iosOf, EV.den, EV.dens, EV.keep, EV.keeps, EV.args, EV.back, EV.retOk, EV.outsOf, EV.stD, EV.bindT, EV.bindTs, EV.wip, EV.ioOk, EV.binD, EV.cmpD, EV.truD, EV.biD, EV.idxD, EV.cutD, EV.seqD, EV.zipD, EV.rngD, EV.enumD, EV.enzD, EV.tupW, EV.lstW, EV.shp, EV.revD, b_cell_fault, Kd.e, ce, h1, h2, h3, h4, h5, h6, wE, wd]
/-- the first that is wrong -/
def ffrom (r : List Kd) (s : List Cell) (i : Int) : Nat → List Int → Option (Nat × String)
  | _, [] => none
  | j, v :: vs => match r[j]?, s[j]? with
    | some k, some c => match cfault k c i v with
      | some w => some (j, w)
      | none => ffrom r s i (j + 1) vs
    | _, _ => none
def frow (r : List Kd) (s : List Cell) (i : Int) : Option (Nat × String) := ffrom r s i 0 (showsL r s i)
def fE : Option (Nat × String) → D
  | none => .none
  | some (j, w) => .tuple [.int (j : Int), wd w]
theorem shows_len (r : List Kd) (s : List Cell) (i : Int) (h : s.length = r.length) : (showsL r s i).length = r.length := by
  unfold showsL
  rw [List.length_map, List.length_zip, h, Nat.min_self]
theorem row_at (r : List Kd) (j : Nat) {k : Kd} (h : r[j]? = some k) : atD (r.map Kd.e) (j : Int) = some k.e := by rw [at_n, List.getElem?_map, h]; rfl
theorem st_at (s : List Cell) (j : Nat) {c : Cell} (h : s[j]? = some c) : atD (s.map ce) (j : Int) = some (ce c) := by rw [at_n, List.getElem?_map, h]; rfl
theorem x_fault_by (n : Nat) (r : List Kd) (s : List Cell) (i : Int) (hr : RowOk r) (h : StOk r s) (hi : -9 ≤ i ∧ i ≤ 9) : CC (n + 3) i_fault_by [.d (rowE r), .d (stE s), .d (.int i)] = .ok (.d (fE (frow r s i))) [none, none, none] := by
  rw [u_fault_by _ _ _ _ rfl]
  let S (x3 x4 x5 : Option SV) : Sl := [some (.d (rowE r)), some (.d (stE s)), some (.d (.int i)), x3, x4, x5]
  have loop : ∀ (vs : List Int) (j : Nat) (x3 x4 x5 : Option SV), j + vs.length = r.length → ∃ y3 y4 y5, forL (bindT (.tp (.cons (.nm 3) (.cons (.nm 4) .nil)))) (evSs gm.G (CC (n + 2)) l_fault_by_0b) (enumL j (vs.map .int)) (S x3 x4 x5) =
      match ffrom r s i j vs with
      | none => .nx (S y3 y4 y5)
      | some (m, w) => .rt (.d (.tuple [.int (m : Int), wd w])) (S y3 y4 y5) := by
    intro vs
    induction vs with
    | nil => intro j x3 x4 x5 _; exact ⟨x3, x4, x5, rfl⟩
    | cons v vs ih =>
      intro j x3 x4 x5 hl
      rw [List.length_cons] at hl
      have hj : j < r.length := by omega
      have hj2 : j < s.length := by rw [h.len]; exact hj
      have e1 : r[j]? = some r[j] := List.getElem?_eq_getElem hj
      have e2 : s[j]? = some s[j] := List.getElem?_eq_getElem hj2
      have hx := x_cell_fault (n + 1) r[j] s[j] i v
      have key : evSs gm.G (CC (n + 2)) l_fault_by_0b (S (some (.d (.int (j : Int)))) (some (.d (.int v))) x5) = match cfault r[j] s[j] i v with
          | none => .nx (S (some (.d (.int (j : Int)))) (some (.d (.int v))) (some (.d .none)))
          | some w => .rt (.d (.tuple [.int (j : Int), wd w])) (S (some (.d (.int (j : Int)))) (some (.d (.int v))) (some (.d (wd w)))) := by
        cases ec : cfault r[j] s[j] i v with
        | none =>
          rw [ec] at hx
          simp [EV.evSs, EV.evS, EV.evE, EV.evEs, EV.evAnd, EV.evOr, EV.evO, EV.evI, EV.evIfs, EV.R.bind, EV.R.fl, EV.R.of, EV.R.tst, EV.endCR, EV.ioNd, EV.iosOf, EV.den, EV.dens, EV.keep, EV.keeps, EV.args, EV.back, EV.retOk, EV.outsOf, EV.stD, EV.bindT, EV.bindTs, EV.wip, EV.ioOk, EV.binD, EV.cmpD, EV.truD, EV.biD, EV.idxD, EV.cutD, EV.seqD, EV.zipD, EV.rngD, EV.enumD, EV.enzD, EV.tupW, EV.lstW, EV.shp, EV.revD, S, l_fault_by_0b, row_at r j e1, st_at s j e2, hx, wE]
        | some w =>
          rw [ec] at hx
          simp [EV.evSs, EV.evS, EV.evE, EV.evEs, EV.evAnd, EV.evOr, EV.evO, EV.evI, EV.evIfs, EV.R.bind, EV.R.fl, EV.R.of, EV.R.tst, EV.endCR, EV.ioNd, EV.iosOf, EV.den, EV.dens, EV.keep, EV.keeps, EV.args, EV.back, EV.retOk, EV.outsOf, EV.stD, EV.bindT, EV.bindTs, EV.wip, EV.ioOk, EV.binD, EV.cmpD, EV.truD, EV.biD, EV.idxD, EV.cutD, EV.seqD, EV.zipD, EV.rngD, EV.enumD, EV.enzD, EV.tupW, EV.lstW, EV.shp, EV.revD, S, l_fault_by_0b, row_at r j e1, st_at s j e2, hx, wE, wd, lim]
      have bn : bindT (.tp (.cons (.nm 3) (.cons (.nm 4) .nil))) (.tuple [.int (j : Int), .int v]) (S x3 x4 x5) = some (S (some (.d (.int (j : Int)))) (some (.d (.int v))) x5) := by simp [EV.evSs, EV.evS, EV.evE, EV.evEs, EV.evAnd, EV.evOr, EV.evO, EV.evI, EV.evIfs, EV.R.bind, EV.R.fl, EV.R.of, EV.R.tst, EV.endCR, EV.ioNd, EV.iosOf, EV.den, EV.dens, EV.keep, EV.keeps, EV.args, EV.back, EV.retOk, EV.outsOf, EV.stD, EV.bindT, EV.bindTs, EV.wip, EV.ioOk, EV.binD, EV.cmpD, EV.truD, EV.biD, EV.idxD, EV.cutD, EV.seqD, EV.zipD, EV.rngD, EV.enumD, EV.enzD, EV.tupW, EV.lstW, EV.shp, EV.revD, S]
      rw [List.map_cons, enumL, forL, bn]
      simp only [key, ffrom, e1, e2]
      cases ec : cfault r[j] s[j] i v with
      | none =>
        obtain ⟨y3, y4, y5, e⟩ := ih (j + 1) (some (.d (.int (j : Int)))) (some (.d (.int v))) (some (.d .none)) (by omega)
        exact ⟨y3, y4, y5, e⟩
      | some w => exact ⟨_, _, _, rfl⟩
  obtain ⟨y3, y4, y5, e⟩ := loop (showsL r s i) 0 none none none (by rw [shows_len r s i h.len]; omega)
  have e' : evS gm.G (CC (n + 2)) l_fault_by_0 (S none none none) = match frow r s i with
      | none => .nx (S y3 y4 y5)
      | some (m, w) => .rt (.d (.tuple [.int (m : Int), wd w])) (S y3 y4 y5) := by
    rw [l_fault_by_0, evS]
    have hi : evI gm.G (CC (n + 2)) (.enum (.cons (.call i_shows_by (.cons (.v 0) (.cons (.v 1) (.cons (.v 2) .nil)))) .nil)) (S none none none) = .ok (enumL 0 ((showsL r s i).map .int)) (S none none none) := by
      have := x_shows_by n r s i hr h hi
      simp [EV.evSs, EV.evS, EV.evE, EV.evEs, EV.evAnd, EV.evOr, EV.evO, EV.evI, EV.evIfs, EV.R.bind, EV.R.fl, EV.R.of, EV.R.tst, EV.endCR, EV.ioNd, EV.iosOf, EV.den, EV.dens, EV.keep, EV.keeps, EV.args, EV.back, EV.retOk, EV.outsOf, EV.stD, EV.bindT, EV.bindTs, EV.wip, EV.ioOk, EV.binD, EV.cmpD, EV.truD, EV.biD, EV.idxD, EV.cutD, EV.seqD, EV.zipD, EV.rngD, EV.enumD, EV.enzD, EV.tupW, EV.lstW, EV.shp, EV.revD, S, this]
    rw [hi]
    exact e
  show endCR _ (evSs gm.G (CC (n + 2)) b_fault_by (S none none none)) = _
  rw [b_fault_by, evSs, e']
  cases ef : frow r s i with
  | none => simp [EV.evSs, EV.evS, EV.evE, EV.evEs, EV.evAnd, EV.evOr, EV.evO, EV.evI, EV.evIfs, EV.R.bind, EV.R.fl, EV.R.of, EV.R.tst, EV.endCR, EV.ioNd, EV.iosOf, EV.den, EV.dens, EV.keep, EV.keeps, EV.args, EV.back, EV.retOk, EV.outsOf, EV.stD, EV.bindT, EV.bindTs, EV.wip, EV.ioOk, EV.binD, EV.cmpD, EV.truD, EV.biD, EV.idxD, EV.cutD, EV.seqD, EV.zipD, EV.rngD, EV.enumD, EV.enzD, EV.tupW, EV.lstW, EV.shp, EV.revD, S, fE]
  | some p => simp [EV.evSs, EV.evS, EV.evE, EV.evEs, EV.evAnd, EV.evOr, EV.evO, EV.evI, EV.evIfs, EV.R.bind, EV.R.fl, EV.R.of, EV.R.tst, EV.endCR, EV.ioNd, EV.iosOf, EV.den, EV.dens, EV.keep, EV.keeps, EV.args, EV.back, EV.retOk, EV.outsOf, EV.stD, EV.bindT, EV.bindTs, EV.wip, EV.ioOk, EV.binD, EV.cmpD, EV.truD, EV.biD, EV.idxD, EV.cutD, EV.seqD, EV.zipD, EV.rngD, EV.enumD, EV.enzD, EV.tupW, EV.lstW, EV.shp, EV.revD, S, fE, wd]
/-! ### runs -/
def behindL (s : List Cell) (i : Int) : List Cell := s.map fun c => (c.1 - i, c.2)
theorem x_behind_by (n : Nat) (x : D) (s : List Cell) (i : Int) (hl : s.length ≤ 100) : CC (n + 1) i_behind_by [.d x, .d (stE s), .d (.int i)] = .ok (.d (stE (behindL s i))) [none, none, none] := by
  rw [u_behind_by _ _ _ _ rfl]
  have hq : evE gm.G (CC n) q_behind_by_0 [some (.d x), some (.d (stE s)), some (.d (.int i)), none, none] = .ok (.nw (s.map fun c => ce (c.1 - i, c.2))) [some (.d x), some (.d (stE s)), some (.d (.int i)), none, none] :=
    comp_as s ce _ (by simp [EV.evSs, EV.evS, EV.evE, EV.evEs, EV.evAnd, EV.evOr, EV.evO, EV.evI, EV.evIfs, EV.R.bind, EV.R.fl, EV.R.of, EV.R.tst, EV.endCR, EV.ioNd, EV.iosOf, EV.den, EV.dens, EV.keep, EV.keeps, EV.args, EV.back, EV.retOk, EV.outsOf, EV.stD, EV.bindT, EV.bindTs, EV.wip, EV.ioOk, EV.binD, EV.cmpD, EV.truD, EV.biD, EV.idxD, EV.cutD, EV.seqD, EV.zipD, EV.rngD, EV.enumD, EV.enzD, EV.tupW, EV.lstW, EV.shp, EV.revD]) rfl (by omega) fun a ha => by simp [EV.evSs, EV.evS, EV.evE, EV.evEs, EV.evAnd, EV.evOr, EV.evO, EV.evI, EV.evIfs, EV.R.bind, EV.R.fl, EV.R.of, EV.R.tst, EV.endCR, EV.ioNd, EV.iosOf, EV.den, EV.dens, EV.keep, EV.keeps, EV.args, EV.back, EV.retOk, EV.outsOf, EV.stD, EV.bindT, EV.bindTs, EV.wip, EV.ioOk, EV.binD, EV.cmpD, EV.truD, EV.biD, EV.idxD, EV.cutD, EV.seqD, EV.zipD, EV.rngD, EV.enumD, EV.enzD, EV.tupW, EV.lstW, EV.shp, EV.revD, turnC, ce, lim]
  simp [EV.evSs, EV.evS, EV.evE, EV.evEs, EV.evAnd, EV.evOr, EV.evO, EV.evI, EV.evIfs, EV.R.bind, EV.R.fl, EV.R.of, EV.R.tst, EV.endCR, EV.ioNd, EV.iosOf, EV.den, EV.dens, EV.keep, EV.keeps, EV.args, EV.back, EV.retOk, EV.outsOf, EV.stD, EV.bindT, EV.bindTs, EV.wip, EV.ioOk, EV.binD, EV.cmpD, EV.truD, EV.biD, EV.idxD, EV.cutD, EV.seqD, EV.zipD, EV.rngD, EV.enumD, EV.enzD, EV.tupW, EV.lstW, EV.shp, EV.revD, b_behind_by, hq, behindL]

/-- a plan run: the stands, and what ended it -/
def runP (r : List Kd) : List Cell → Nat → List Int → List (List Cell) × Option (Nat × Nat × String)
  | s, _, [] => ([s], none)
  | s, b, i :: p => match frow r s i with
    | some (k, w) => ([s], some (b, k, w))
    | none => (s :: (runP r (behindL s i) (b + 1) p).1, (runP r (behindL s i) (b + 1) p).2)
def rE : Option (Nat × Nat × String) → D
  | none => .none
  | some (b, k, w) => .tuple [.int (b : Int), .int (k : Int), wd w]
def outE (q : List (List Cell) × Option (Nat × Nat × String)) : D := .tuple [.tuple (q.1.map stE), rE q.2]
theorem ffrom_none {r : List Kd} {s : List Cell} {i : Int} : ∀ {vs : List Int} {j : Nat}, ffrom r s i j vs = none → j + vs.length ≤ r.length → j + vs.length ≤ s.length → ∀ (m : Nat) (v : Int) (k : Kd) (c : Cell), vs[m]? = some v → r[j + m]? = some k → s[j + m]? = some c → cfault k c i v = none
  | [], j, _, _, _, m, v, k, c, e, _, _ => by simp at e
  | v :: vs, j, h, l1, l2, m, v', k, c, e, e1, e2 => by
    rw [List.length_cons] at l1 l2
    have hj : j < r.length := by omega
    have hj2 : j < s.length := by omega
    rw [ffrom, List.getElem?_eq_getElem hj, List.getElem?_eq_getElem hj2] at h
    simp only at h
    cases ec : cfault r[j] s[j] i v with
    | some w => rw [ec] at h; cases h
    | none =>
      rw [ec] at h
      cases m with
      | zero =>
        simp at e
        rw [Nat.add_zero, List.getElem?_eq_getElem hj] at e1
        rw [Nat.add_zero, List.getElem?_eq_getElem hj2] at e2
        cases e1
        cases e2
        rw [← e]
        exact ec
      | succ m => exact ffrom_none h (by omega) (by omega) m v' k c (by simpa using e) (by rw [← e1]; congr 1; omega) (by rw [← e2]; congr 1; omega)
theorem frow_none {r : List Kd} {s : List Cell} {i : Int} (h : frow r s i = none) (hl : s.length = r.length) {m : Nat} {k : Kd} {c : Cell} (e1 : r[m]? = some k) (e2 : s[m]? = some c) : cfault k c i (showOf k c i) = none := by
  have ln := shows_len r s i hl
  refine ffrom_none h (by omega) (by omega) m _ k c ?_ (by rw [Nat.zero_add]; exact e1) (by rw [Nat.zero_add]; exact e2)
  unfold showsL
  rw [List.getElem?_map, (show (r.zip s)[m]? = some (k, c) from List.getElem?_zip_eq_some.mpr ⟨e1, e2⟩)]
  rfl
theorem behind_len (s : List Cell) (i : Int) : (behindL s i).length = s.length := by unfold behindL; rw [List.length_map]
/-- where nothing is wrong, what is behind is a stand -/
theorem behind_ok {r : List Kd} {s : List Cell} {i : Int} (h : StOk r s) (hf : frow r s i = none) : StOk r (behindL s i) := by
  refine ⟨by rw [behind_len, h.len], fun p hp => ?_⟩
  obtain ⟨m, hm, e⟩ := List.getElem_of_mem hp
  have em : (r.zip (behindL s i))[m]? = some p := by rw [List.getElem?_eq_getElem hm, e]
  obtain ⟨e1, e2⟩ := List.getElem?_zip_eq_some.mp em
  unfold behindL at e2
  rw [List.getElem?_map] at e2
  obtain ⟨c, e3, e4⟩ := Option.map_eq_some_iff.mp e2
  have ok := h.ok (p.1, c) (List.mem_iff_getElem?.mpr ⟨m, List.getElem?_zip_eq_some.mpr ⟨e1, e3⟩⟩)
  have hc := frow_none hf h.len e1 e3
  unfold cfault at hc
  split at hc
  · cases hc
  · split at hc
    · cases hc
    · split at hc
      · cases hc
      · rw [← e4]
        exact ⟨ok.w0, ok.w1, ok.w2, by simp only; omega, by simp only; omega⟩
theorem runP_ne (r : List Kd) : ∀ (p : List Int) (s : List Cell) (b : Nat), ∃ t, (runP r s b p).1 = s :: t
  | [], s, b => ⟨[], rfl⟩
  | i :: p, s, b => by
    rw [runP]
    cases frow r s i with
    | some q => exact ⟨[], rfl⟩
    | none => exact ⟨_, rfl⟩
theorem runP_len (r : List Kd) : ∀ (p : List Int) (s : List Cell) (b : Nat), (runP r s b p).1.length ≤ p.length + 1
  | [], s, b => Nat.le_refl _
  | i :: p, s, b => by
    rw [runP]
    cases frow r s i with
    | some q => simp
    | none => have := runP_len r p (behindL s i) (b + 1); simp; omega
/-! ### the law's own draws -/
abbrev Sd := Int × Int
abbrev sE (p : Sd) : SV := .own [.int p.1, .int p.2]
def stir (b : Int) : Int := (b * 48271 + 29) % 2147483647
def stir2 (b : Int) : Int := (b * b + 39373 * b + 7) % 2147483629
def stir3 (b : Int) : Int := (b * b + 16807 * b) % 2147483587
def tk (p : Sd) (m : Int) : Int × Sd := if 0 < p.1 then (p.1 % m, (p.1 / m, p.2)) else (stir3 (stir2 (stir p.2)) / 8 % m, (p.1, stir p.2))
theorem tk_rg (p : Sd) {m : Int} (h : 0 < m) : 0 ≤ (tk p m).1 ∧ (tk p m).1 < m := by
  unfold tk
  split
  · exact ⟨Int.emod_nonneg _ (by omega), Int.emod_lt_of_pos _ h⟩
  · exact ⟨Int.emod_nonneg _ (by omega), Int.emod_lt_of_pos _ h⟩
theorem sm31 {i : Int} (h : 0 ≤ i) (h2 : i < 2147483648) : small64 i = true := by
  unfold small64
  simp
  omega
def pick2 (a b c : Int) : Int := if c = 0 then a else b
theorem idx2 {a b c : Int} (h : 0 ≤ c ∧ c < 2) : atD [PyData.int a, .int b] c = some (.int (pick2 a b c)) := by
  have : c = 0 ∨ c = 1 := by omega
  rcases this with rfl | rfl <;> rfl
/-- volts, one after the other -/
def vl : Nat → Int → Sd → List Int × Sd
  | 0, _, p => ([], p)
  | m + 1, v, p =>
    let c := tk p 2
    let d := tk c.2 (pick2 3 30 c.1)
    ((v + 1 + d.1) :: (vl m (v + 1 + d.1) d.2).1, (vl m (v + 1 + d.1) d.2).2)
theorem pick_pos {a b c : Int} (ha : 0 < a ∧ a ≤ 1000) (hb : 0 < b ∧ b ≤ 1000) : 0 < pick2 a b c ∧ pick2 a b c ≤ 1000 := by
  unfold pick2
  split
  · exact ha
  · exact hb
theorem vl_len : ∀ (m : Nat) (v : Int) (p : Sd), (vl m v p).1.length = m
  | 0, _, _ => rfl
  | m + 1, v, p => by simp only [vl, List.length_cons, vl_len m]
theorem step_le (p : Sd) : 0 ≤ (tk (tk p 2).2 (pick2 3 30 (tk p 2).1)).1 ∧ (tk (tk p 2).2 (pick2 3 30 (tk p 2).1)).1 < 30 := by
  have h := tk_rg (tk p 2).2 (pick_pos (a := 3) (b := 30) (c := (tk p 2).1) (by omega) (by omega)).1
  have : pick2 3 30 (tk p 2).1 ≤ 30 := by unfold pick2; split <;> omega
  omega
theorem vl_rg : ∀ (m : Nat) (v : Int) (p : Sd), ∀ x ∈ (vl m v p).1, v < x ∧ x ≤ v + 30 * m
  | 0, _, _, x, h => by cases h
  | m + 1, v, p, x, h => by
    have hs := step_le p
    simp only [vl, List.mem_cons] at h
    rcases h with rfl | h
    · omega
    · have := vl_rg m _ _ x h
      omega
theorem vl_up : ∀ (m : Nat) (v : Int) (p : Sd), incr (v :: (vl m v p).1) = true
  | 0, _, _ => rfl
  | m + 1, v, p => by
    have hs := step_le p
    simp only [vl, incr, Bool.and_eq_true, decide_eq_true_eq]
    exact ⟨by omega, vl_up m _ _⟩
/-- a kind drawn -/
def gk (p : Sd) (most : Int) : Kd × Sd :=
  let t := tk p most
  let v0 := tk t.2 60
  let vs := vl (1 + t.1).toNat v0.1 v0.2
  let lo := tk vs.2 14
  let low := max 0 (v0.1 + lo.1 - 9)
  let hi := tk lo.2 20
  let high := max low ((v0.1 :: vs.1).getLastD 0 + hi.1 - 6)
  let o := tk hi.2 4
  let b := tk o.2 5
  let c := tk b.2 2
  let l := tk c.2 (pick2 4 17 c.1)
  (⟨1 + t.1, v0.1 :: vs.1, l.1, low, high, 1 + o.1, b.1⟩, l.2)
theorem last_mem {v : Int} {vs : List Int} : (v :: vs).getLastD 0 ∈ v :: vs := by
  rw [List.getLastD_eq_getLast?, List.getLast?_eq_getLast (List.cons_ne_nil _ _)]
  exact List.getLast_mem _
theorem gk_full (p : Sd) {most : Int} (h : 0 < most) : 1 ≤ (gk p most).1.full ∧ (gk p most).1.full ≤ most := by
  have := tk_rg p h
  simp only [gk]
  omega
theorem gk_ok (p : Sd) {most : Int} (h : 0 < most) (h2 : most ≤ 8) : (gk p most).1.Ok := by
  have t := tk_rg p h
  have v0 := tk_rg (tk p most).2 (show (0 : Int) < 60 by omega)
  generalize ht : tk p most = T at t v0
  generalize hv : tk T.2 60 = V at v0
  have vr := vl_rg (1 + T.1).toNat V.1 V.2
  have vup := vl_up (1 + T.1).toNat V.1 V.2
  have vln := vl_len (1 + T.1).toNat V.1 V.2
  generalize hw : vl (1 + T.1).toNat V.1 V.2 = W at vr vup vln
  have lo := tk_rg W.2 (show (0 : Int) < 14 by omega)
  generalize hlo : tk W.2 14 = L at lo
  have hi := tk_rg L.2 (show (0 : Int) < 20 by omega)
  generalize hhi : tk L.2 20 = H at hi
  have o := tk_rg H.2 (show (0 : Int) < 4 by omega)
  generalize ho : tk H.2 4 = O at o
  have b := tk_rg O.2 (show (0 : Int) < 5 by omega)
  generalize hb : tk O.2 5 = B at b
  have l := tk_rg (tk B.2 2).2 (pick_pos (a := 4) (b := 17) (c := (tk B.2 2).1) (by omega) (by omega)).1
  have l17 : pick2 4 17 (tk B.2 2).1 ≤ 17 := by unfold pick2; split <;> omega
  have mem : ∀ x ∈ V.1 :: W.1, 0 ≤ x ∧ x ≤ 299 := fun x hx => by
    rcases List.mem_cons.mp hx with rfl | hx
    · omega
    · have := vr x hx
      omega
  have la := mem _ (last_mem (v := V.1) (vs := W.1))
  simp only [gk, ht, hv, hw, hlo, hhi, ho, hb]
  refine ⟨by simp only; omega, by simp only; omega, ?_, fun v hv => ?_, vup, l.1, by simp only; omega, by simp only; omega, by simp only; omega, by simp only; omega, by simp only; omega, by simp only; omega, b.1, by simp only; omega⟩
  · simp only [List.length_cons, vln]
    omega
  · have := mem v hv
    omega

theorem last_at {v : Int} {vs : List Int} : atD ((v :: vs).map .int) (-1) = some (.int ((v :: vs).getLastD 0)) := by
  have h : v :: vs = (v :: vs).dropLast ++ [(v :: vs).getLastD 0] := by
    rw [List.getLastD_eq_getLast?, List.getLast?_eq_getLast (List.cons_ne_nil _ _), Option.getD_some, List.dropLast_concat_getLast]
  conv => lhs; rw [h]
  rw [List.map_append]
  exact at_last _ _
def pick3 (a b c i : Int) : Int := if i = 0 then a else if i = 1 then b else c
theorem idx3 {a b c i : Int} (h : 0 ≤ i ∧ i < 3) : atD [PyData.int a, .int b, .int c] i = some (.int (pick3 a b c i)) := by
  have : i = 0 ∨ i = 1 ∨ i = 2 := by omega
  rcases this with rfl | rfl | rfl <;> rfl
/-- a row drawn -/
def gr (p : Sd) : List Kd × Sd := runS (fun q (_ : Nat) => gk q (pick3 8 5 2 (tk p 3).1)) (tk p 3).2 (List.range (1 + (tk p 3).1).toNat)
theorem p3_rg {i : Int} (h : 0 ≤ i ∧ i < 3) : 0 < pick3 8 5 2 i ∧ pick3 8 5 2 i ≤ 8 := by
  have : i = 0 ∨ i = 1 ∨ i = 2 := by omega
  rcases this with rfl | rfl | rfl <;> decide
theorem cnt_by {f m : Int} (h : 1 ≤ f) (h2 : f ≤ m) (h3 : m ≤ 8) : 0 ≤ cnt f ∧ cnt f ≤ cnt m := by
  have : m = 1 ∨ m = 2 ∨ m = 3 ∨ m = 4 ∨ m = 5 ∨ m = 6 ∨ m = 7 ∨ m = 8 := by omega
  have : f = 1 ∨ f = 2 ∨ f = 3 ∨ f = 4 ∨ f = 5 ∨ f = 6 ∨ f = 7 ∨ f = 8 := by omega
  have key : ∀ m ∈ [1, 2, 3, 4, 5, 6, 7, (8 : Int)], ∀ f ∈ [1, 2, 3, 4, 5, 6, 7, (8 : Int)], f ≤ m → 0 ≤ cnt f ∧ cnt f ≤ cnt m := by decide +kernel
  exact key m (by simp; omega) f (by simp; omega) h2
theorem many_le : ∀ (r : List Kd) (a b : Int), 0 ≤ a → (∀ k ∈ r, 0 ≤ cnt k.full ∧ cnt k.full ≤ b) → 0 ≤ b → 0 ≤ r.foldl (fun a k => a * cnt k.full) a ∧ r.foldl (fun a k => a * cnt k.full) a ≤ a * b ^ r.length
  | [], a, b, ha, _, _ => by simp; exact ha
  | k :: r, a, b, ha, h, hb => by
    obtain ⟨h1, h2⟩ := h k List.mem_cons_self
    have ih := many_le r (a * cnt k.full) b (Int.mul_nonneg ha h1) (fun k' hk => h k' (List.mem_cons_of_mem _ hk)) hb
    rw [List.foldl_cons]
    refine ⟨ih.1, Int.le_trans ih.2 ?_⟩
    rw [List.length_cons, Int.pow_succ, Int.mul_comm (b ^ r.length) b, ← Int.mul_assoc]
    exact Int.mul_le_mul_of_nonneg_right (Int.mul_le_mul_of_nonneg_left h2 ha) (Int.pow_nonneg hb)
theorem gr_ok (p : Sd) : RowOk (gr p).1 := by
  have t := tk_rg p (show (0 : Int) < 3 by omega)
  have b := p3_rg t
  have ks : ∀ k ∈ (gr p).1, k.Ok ∧ 1 ≤ k.full ∧ k.full ≤ pick3 8 5 2 (tk p 3).1 := runS_all (fun q _ => ⟨gk_ok q b.1 b.2, gk_full q b.1⟩) _ _
  have ln : (gr p).1.length = (1 + (tk p 3).1).toNat := by unfold gr; rw [runS_len, List.length_range]
  refine ⟨fun k hk => (ks k hk).1, by omega, by omega, ?_⟩
  have h := many_le (gr p).1 1 (cnt (pick3 8 5 2 (tk p 3).1)) (by omega) (fun k hk => cnt_by (ks k hk).2.1 (ks k hk).2.2 b.2) (cnt_by b.1 (Int.le_refl _) b.2).1
  refine Int.le_trans h.2 ?_
  rw [ln]
  have : (tk p 3).1 = 0 ∨ (tk p 3).1 = 1 ∨ (tk p 3).1 = 2 := by omega
  rcases this with e | e | e <;> rw [e] <;> decide +kernel
/-- a stand drawn -/
def gc (p : Sd) (k : Kd) : Cell × Sd :=
  let w := tk p (min 3 k.full)
  let c := tk w.2 (k.full - w.1 + 1)
  ((c.1, w.1), c.2)
def gs (p : Sd) (r : List Kd) : List Cell × Sd := runS gc p r
theorem gc_ok (p : Sd) (k : Kd) (h : k.Ok) : CellOk k (gc p k).1 := by
  have f1 := h.f1
  have w := tk_rg p (m := min 3 k.full) (by omega)
  have c := tk_rg (tk p (min 3 k.full)).2 (m := k.full - (tk p (min 3 k.full)).1 + 1) (by omega)
  simp only [gc]
  exact ⟨w.1, by simp only; omega, by simp only; omega, c.1, by simp only; omega⟩
theorem gs_ok : ∀ (r : List Kd) (p : Sd), (∀ k ∈ r, k.Ok) → StOk r (gs p r).1
  | [], p, _ => ⟨rfl, fun q hq => by cases hq⟩
  | k :: r, p, h => by
    have ih := gs_ok r (gc p k).2 fun k' hk => h k' (List.mem_cons_of_mem _ hk)
    have h0 := gc_ok p k (h k List.mem_cons_self)
    refine ⟨by simp only [gs, runS, List.length_cons]; rw [show (runS gc (gc p k).2 r).1.length = r.length from ih.len], fun q hq => ?_⟩
    simp only [gs, runS, List.zip_cons_cons, List.mem_cons] at hq
    rcases hq with rfl | hq
    · exact h0
    · exact ih.ok q hq
def g0 (ns : List Int) (k : Nat) : Sd := (max 0 (ns.getD k 0 - 10 ^ 18), ns.getD k 0 % 2147483647)
/-! ### the same is the same -/
theorem eqv_same : ∀ (k : Nat) (d : D), shp k d = true → PyData.eqv d d = true
  | k, .none, _ => by simp [PyData.eqv]
  | k, .bool b, _ => by simp [PyData.eqv]
  | k, .int i, _ => by simp [PyData.eqv]
  | k, .str x, _ => by simp [PyData.eqv]
  | 0, .list xs, h => by simp [shp] at h
  | 0, .tuple xs, h => by simp [shp] at h
  | k, .dict kvs, h => by cases k <;> simp [shp] at h
  | k + 1, .list xs, h => by
    simp only [shp] at h
    have key : ∀ xs : List D, xs.all (shp k) = true → PyData.eqvAll xs xs = true := by
      intro xs
      induction xs with
      | nil => intro _; simp [PyData.eqvAll]
      | cons x xs ih =>
        intro h
        simp only [List.all_cons, Bool.and_eq_true] at h
        simp [PyData.eqvAll, eqv_same k x h.1, ih h.2]
    simp [PyData.eqv, key xs h]
  | k + 1, .tuple xs, h => by
    simp only [shp] at h
    have key : ∀ xs : List D, xs.all (shp k) = true → PyData.eqvAll xs xs = true := by
      intro xs
      induction xs with
      | nil => intro _; simp [PyData.eqvAll]
      | cons x xs ih =>
        intro h
        simp only [List.all_cons, Bool.and_eq_true] at h
        simp [PyData.eqvAll, eqv_same k x h.1, ih h.2]
    simp [PyData.eqv, key xs h]
theorem shp_st (k : Nat) (s : List Cell) : shp (k + 2) (stE s) = true := by simp [shp, ce]
theorem shp_sts (k : Nat) (q : List (List Cell)) : shp (k + 3) (.tuple (q.map stE)) = true := by
  simp only [shp, List.all_map, List.all_eq_true]
  intro s _
  exact shp_st k s
theorem wd_ok (x : String) (k : Nat) (h : x ∈ ["draw", "empty", "over", "low", "high"]) : shp k (wd x) = true := by
  simp only [List.mem_cons, List.not_mem_nil, or_false] at h
  rcases h with rfl | rfl | rfl | rfl | rfl <;> cases k <;> simp only [shp, wd] <;> decide +kernel
theorem frow_word {r : List Kd} {s : List Cell} {i : Int} {m : Nat} {w : String} (ef : frow r s i = some (m, w)) : w ∈ ["draw", "empty", "over", "low", "high"] := by
  have key : ∀ (vs : List Int) (j : Nat), ffrom r s i j vs = some (m, w) → w ∈ ["draw", "empty", "over", "low", "high"] := by
    intro vs
    induction vs with
    | nil => intro j h; cases h
    | cons v vs ih =>
      intro j h
      rw [ffrom] at h
      split at h
      · split at h
        · rename_i w' hc
          cases h
          unfold cfault at hc
          split at hc
          · cases hc; simp
          · split at hc
            · cases hc; simp
            · split at hc
              · cases hc; simp
              · split at hc
                · cases hc; simp
                · split at hc
                  · cases hc; simp
                  · cases hc
        · exact ih _ h
      · cases h
  exact key _ _ ef
/-! ### runs in parts -/
def shift (m : Nat) : Option (Nat × Nat × String) → Option (Nat × Nat × String)
  | none => none
  | some (b, k, w) => some (b + m, k, w)
theorem run_shift (r : List Kd) (m : Nat) : ∀ (p : List Int) (s : List Cell) (b : Nat), (runP r s (b + m) p).1 = (runP r s b p).1 ∧ (runP r s (b + m) p).2 = shift m (runP r s b p).2
  | [], s, b => ⟨rfl, rfl⟩
  | i :: p, s, b => by
    have ih := run_shift r m p (behindL s i) (b + 1)
    rw [show b + 1 + m = b + m + 1 by omega] at ih
    rw [runP, runP]
    cases frow r s i with
    | some q => exact ⟨rfl, rfl⟩
    | none => exact ⟨by simp only [ih.1], by simp only [ih.2]⟩
theorem run_parts (r : List Kd) : ∀ (m : Nat) (p : List Int) (s : List Cell) (b : Nat), (runP r s b (p.take m)).1 = (runP r s b p).1.take (m + 1) ∧
    ((runP r s b (p.take m)).2 ≠ none → (runP r s b (p.take m)).2 = (runP r s b p).2) ∧
    ((runP r s b (p.take m)).2 = none → m ≤ p.length → ∃ (t : List (List Cell)) (l : List Cell), (runP r s b (p.take m)).1 = t ++ [l] ∧ (runP r s b p).1 = t ++ (runP r l (b + m) (p.drop m)).1 ∧ (runP r s b p).2 = (runP r l (b + m) (p.drop m)).2)
  | 0, p, s, b => by
    obtain ⟨t, e⟩ := runP_ne r p s b
    refine ⟨by rw [e]; rfl, fun h => absurd rfl h, fun _ _ => ⟨[], s, rfl, rfl, rfl⟩⟩
  | m + 1, [], s, b => ⟨rfl, fun h => absurd rfl h, fun _ h => absurd h (by simp)⟩
  | m + 1, i :: p, s, b => by
    have ih := run_parts r m p (behindL s i) (b + 1)
    rw [List.take_succ_cons, runP, runP]
    cases ef : frow r s i with
    | some q => exact ⟨rfl, fun _ => rfl, fun h => by cases h⟩
    | none =>
      refine ⟨by simp only [ih.1, List.take_succ_cons], fun h => ih.2.1 h, fun h hl => ?_⟩
      obtain ⟨t, l, e1, e2, e3⟩ := ih.2.2 h (by simpa using hl)
      refine ⟨s :: t, l, by simp only [e1, List.cons_append], ?_, ?_⟩
      · simp only [e2, List.cons_append, List.drop_succ_cons]
        rw [show b + 1 + m = b + (m + 1) by omega]
      · simp only [e3, List.drop_succ_cons]
        rw [show b + 1 + m = b + (m + 1) by omega]
/-- every stand of a run is one -/
theorem run_ok {r : List Kd} : ∀ (p : List Int) (s : List Cell) (b : Nat), StOk r s → ∀ t ∈ (runP r s b p).1, StOk r t
  | [], s, b, h, t, ht => by
    simp only [runP, List.mem_singleton] at ht
    rw [ht]; exact h
  | i :: p, s, b, h, t, ht => by
    rw [runP] at ht
    cases ef : frow r s i with
    | some q =>
      rw [ef] at ht
      simp only [List.mem_singleton] at ht
      rw [ht]; exact h
    | none =>
      rw [ef] at ht
      simp only [List.mem_cons] at ht
      rcases ht with rfl | ht
      · exact h
      · exact run_ok p _ _ (behind_ok h ef) t ht
/-- what the last stand is -/
theorem run_last (r : List Kd) : ∀ (p : List Int) (s : List Cell) (b : Nat), ∃ t, (runP r s b p).1 = t ++ [s.map fun c => (c.1 - (p.take ((runP r s b p).1.length - 1)).sum, c.2)]
  | [], s, b => ⟨[], by simp [runP]⟩
  | i :: p, s, b => by
    rw [runP]
    cases ef : frow r s i with
    | some q => exact ⟨[], by simp⟩
    | none =>
      obtain ⟨t, e⟩ := run_last r p (behindL s i) (b + 1)
      obtain ⟨t', e'⟩ := runP_ne r p (behindL s i) (b + 1)
      refine ⟨s :: t, ?_⟩
      simp only [List.length_cons, Nat.add_sub_cancel]
      have hl : (runP r (behindL s i) (b + 1) p).1.length = ((runP r (behindL s i) (b + 1) p).1.length - 1) + 1 := by rw [e']; simp
      generalize (runP r (behindL s i) (b + 1) p).1.length = L at e hl
      rw [e, hl, List.take_succ_cons, List.sum_cons, List.cons_append]
      congr 2
      unfold behindL
      rw [List.map_map]
      congr 1
      apply List.map_congr_left
      intro c _
      simp only [Function.comp, Nat.add_sub_cancel]
      rw [show c.1 - i - (p.take (L - 1)).sum = c.1 - (i + (p.take (L - 1)).sum) by omega]
/-! ### wider bounds -/
def wide (k : Kd) : Kd := { k with low := 0, high := 900, out := 4, back := 4 }
theorem wide_ok {k : Kd} (h : k.Ok) : (wide k).Ok := ⟨h.f1, h.f2, h.vl, h.vi, h.up, h.l1, h.l2, by simp [wide], by simp [wide], by simp [wide], by simp [wide], by simp [wide], by simp [wide], by simp [wide]⟩
theorem many_wide : ∀ (r : List Kd) (a : Int), (r.map wide).foldl (fun a k => a * cnt k.full) a = r.foldl (fun a k => a * cnt k.full) a
  | [], a => rfl
  | k :: r, a => by rw [List.map_cons, List.foldl_cons, List.foldl_cons]; exact many_wide r _
theorem wideR {r : List Kd} (h : RowOk r) : RowOk (r.map wide) := by
  refine ⟨fun k hk => ?_, by rw [List.length_map]; exact h.l1, by rw [List.length_map]; exact h.l2, ?_⟩
  · obtain ⟨k', h1, rfl⟩ := List.mem_map.mp hk
    exact wide_ok (h.ks k' h1)
  · unfold many
    rw [many_wide]
    exact h.ms
theorem wideS {r : List Kd} {s : List Cell} (h : StOk r s) : StOk (r.map wide) s := by
  refine ⟨by rw [List.length_map]; exact h.len, fun p hp => ?_⟩
  rw [List.zip_map_left] at hp
  obtain ⟨q, h1, rfl⟩ := List.mem_map.mp hp
  have := h.ok q h1
  exact ⟨this.w0, this.w1, this.w2, this.c0, this.c1⟩

theorem ffrom_all {r : List Kd} {s : List Cell} {i : Int} : ∀ {vs : List Int} {j : Nat}, (∀ (m : Nat) (v : Int) (k : Kd) (c : Cell), vs[m]? = some v → r[j + m]? = some k → s[j + m]? = some c → cfault k c i v = none) → ffrom r s i j vs = none
  | [], j, _ => rfl
  | v :: vs, j, h => by
    rw [ffrom]
    cases e1 : r[j]? with
    | none => rfl
    | some k =>
      cases e2 : s[j]? with
      | none => rfl
      | some c =>
        simp only
        rw [h 0 v k c rfl (by rw [Nat.add_zero]; exact e1) (by rw [Nat.add_zero]; exact e2)]
        exact ffrom_all fun m v' k' c' a b d => h (m + 1) v' k' c' (by simpa using a) (by rw [← b]; congr 1; omega) (by rw [← d]; congr 1; omega)
theorem shows_wide (r : List Kd) (s : List Cell) (i : Int) : showsL (r.map wide) s i = showsL r s i := by
  unfold showsL
  rw [List.zip_map_left, List.map_map]
  rfl
theorem frow_wide {r : List Kd} {s : List Cell} {i : Int} (hr : RowOk r) (h : StOk r s) (hf : frow r s i = none) : frow (r.map wide) s i = none := by
  unfold frow
  rw [shows_wide]
  refine ffrom_all fun m v k c e0 e1 e2 => ?_
  rw [Nat.zero_add] at e1 e2
  rw [List.getElem?_map] at e1
  obtain ⟨k', e3, rfl⟩ := Option.map_eq_some_iff.mp e1
  have hv : v = showOf k' c i := by
    unfold showsL at e0
    rw [List.getElem?_map, show (r.zip s)[m]? = some (k', c) from List.getElem?_zip_eq_some.mpr ⟨e3, e2⟩] at e0
    exact (Option.some.inj e0).symm
  subst hv
  have hc := frow_none hf h.len e3 e2
  have ok := hr.ks k' (List.mem_iff_getElem?.mpr ⟨m, e3⟩)
  have o := ok.o2
  have b := ok.b2
  have w := ok.w1
  have g := ok.h2
  unfold cfault at hc
  split at hc
  · cases hc
  · split at hc
    · cases hc
    · split at hc
      · cases hc
      · split at hc
        · cases hc
        · split at hc
          · cases hc
          · have w1 : (wide k').out = 4 := rfl
            have w2 : (wide k').back = 4 := rfl
            have w3 : (wide k').low = 0 := rfl
            have w4 : (wide k').high = 900 := rfl
            have w5 : (wide k').full = k'.full := rfl
            unfold cfault
            rw [if_neg (by rw [w1, w2]; omega), if_neg (by omega), if_neg (by rw [w5]; omega), if_neg (by rw [w3]; omega), if_neg (by rw [w4]; omega)]
theorem run_wide {r : List Kd} (hr : RowOk r) : ∀ (p : List Int) (s : List Cell) (b : Nat), StOk r s → ∃ t, (runP (r.map wide) s b p).1 = (runP r s b p).1 ++ t
  | [], s, b, _ => ⟨[], by simp [runP]⟩
  | i :: p, s, b, h => by
    obtain ⟨t0, e0⟩ := runP_ne (r.map wide) (i :: p) s b
    rw [show (runP r s b (i :: p)) = match frow r s i with
      | some (k, w) => ([s], some (b, k, w))
      | none => (s :: (runP r (behindL s i) (b + 1) p).1, (runP r (behindL s i) (b + 1) p).2) from rfl]
    cases ef : frow r s i with
    | some q => exact ⟨t0, by rw [e0]; rfl⟩
    | none =>
      obtain ⟨t, e⟩ := run_wide hr p (behindL s i) (b + 1) (behind_ok h ef)
      refine ⟨t, ?_⟩
      rw [runP, frow_wide hr h ef]
      simp only [e, List.cons_append]
theorem same_cmp {k : Nat} {x : D} (h : shp 60 x = true) : PyData.eqv x x = true := eqv_same 60 x h
theorem cut_ton (xs : List D) (k : Nat) : cutL xs none (some (k : Int)) = xs.take k := cut_to xs k
theorem rE_ok {r : List Kd} : ∀ (p : List Int) (s : List Cell) (b : Nat) (k : Nat), shp (k + 1) (rE (runP r s b p).2) = true
  | [], s, b, k => by simp [runP, rE, shp]
  | i :: p, s, b, k => by
    rw [runP]
    cases ef : frow r s i with
    | none => exact rE_ok p _ _ k
    | some q =>
      obtain ⟨m, w⟩ := q
      have hw : w ∈ ["draw", "empty", "over", "low", "high"] := by
        have key : ∀ (vs : List Int) (j : Nat), ffrom r s i j vs = some (m, w) → w ∈ ["draw", "empty", "over", "low", "high"] := by
          intro vs
          induction vs with
          | nil => intro j h; cases h
          | cons v vs ih =>
            intro j h
            rw [ffrom] at h
            split at h
            · split at h
              · rename_i w' hc
                cases h
                unfold cfault at hc
                split at hc
                · cases hc; simp
                · split at hc
                  · cases hc; simp
                  · split at hc
                    · cases hc; simp
                    · split at hc
                      · cases hc; simp
                      · split at hc
                        · cases hc; simp
                        · cases hc
              · exact ih _ h
            · cases h
        exact key _ _ ef
      simp [rE, shp]
      exact wd_ok w k hw
theorem plan_take {p : List Int} (h : PlanOk p) (m : Nat) : PlanOk (p.take m) := ⟨by rw [List.length_take]; have := h.len; omega, fun i hi => h.ok i (List.mem_of_mem_take hi)⟩
theorem plan_drop {p : List Int} (h : PlanOk p) (m : Nat) : PlanOk (p.drop m) := ⟨by rw [List.length_drop]; have := h.len; omega, fun i hi => h.ok i (List.mem_of_mem_drop hi)⟩
/-! ### what is asked from without -/
theorem fE_ok {r : List Kd} {s : List Cell} {i : Int} (k : Nat) : shp (k + 1) (fE (frow r s i)) = true := by
  cases ef : frow r s i with
  | none => simp [fE, shp]
  | some q =>
    obtain ⟨m, w⟩ := q
    have hw : w ∈ ["draw", "empty", "over", "low", "high"] := frow_word ef
    simp [fE, shp]
    exact wd_ok w k hw

/-! ### how long texts are -/
theorem nat_of {i a : Int} (h : 0 ≤ i) (h2 : i ≤ a) (h3 : a < 1000000) : i.natAbs < 1000000 := by omega
theorem rp_kd {k : Kd} (h : k.Ok) : Rp k.e 2 400 := by
  have f := h
  have vl : k.volts.length ≤ 9 := by have := h.vl; have := h.f2; omega
  have hv : Rp (.tuple (k.volts.map .int)) 1 (9 * 21) := rp_map vl fun v hv => rp_int 0 (nat_of (h.vi v hv).1 (h.vi v hv).2 (by omega))
  have hw := h.w1
  have hw2 := h.w2
  have := (rp_tup (rps_cons (rp_int 1 (nat_of (by have := h.f1; omega) h.f2 (by omega))) (rps_cons hv (rps_cons (rp_int 1 (nat_of h.l1 h.l2 (by omega))) (rps_cons (rp_int 1 (i := k.low) (nat_of hw (Int.le_trans hw2 h.h2) (by omega))) (rps_cons (rp_int 1 (i := k.high) (nat_of (Int.le_trans hw hw2) h.h2 (by omega)))
    (rps_cons (rp_int 1 (i := k.out) (nat_of (by have := h.o1; omega) h.o2 (by omega))) (rps_cons (rp_int 1 (i := k.back) (nat_of h.b1 h.b2 (by omega))) (rps_nil 1)))))))))
  exact this.le (by omega)
theorem rp_row {r : List Kd} (h : RowOk r) : Rp (rowE r) 3 (3 * 401) := rp_map h.l2 fun k hk => rp_kd (h.ks k hk)
theorem cell_ok {r : List Kd} {s : List Cell} (hr : RowOk r) (h : StOk r s) {c : Cell} (hc : c ∈ s) : 0 ≤ c.1 ∧ c.1 ≤ 8 ∧ 0 ≤ c.2 ∧ c.2 ≤ 2 := by
  obtain ⟨j, hj⟩ := List.mem_iff_getElem?.mp hc
  have hl : j < r.length := by rw [← h.len]; exact (List.getElem?_eq_some_iff.mp hj).1
  have hm : (r[j], c) ∈ r.zip s := List.mem_iff_getElem?.mpr ⟨j, List.getElem?_zip_eq_some.mpr ⟨List.getElem?_eq_getElem hl, hj⟩⟩
  have co := h.ok _ hm
  have f2 := (hr.ks r[j] (List.getElem_mem hl)).f2
  have c0 := co.c0
  have c1 := co.c1
  have w0 := co.w0
  have w1 := co.w1
  simp only at c0 c1 w0 w1
  exact ⟨c0, by omega, w0, w1⟩
theorem rp_ce {c : Cell} (h : 0 ≤ c.1 ∧ c.1 ≤ 8 ∧ 0 ≤ c.2 ∧ c.2 ≤ 2) : Rp (ce c) 1 42 := (rp_tup (rps_cons (rp_int 0 (i := c.1) (by omega)) (rps_cons (rp_int 0 (i := c.2) (by omega)) (rps_nil 0)))).le (by omega)
theorem rp_st {r : List Kd} {s : List Cell} (hr : RowOk r) (h : StOk r s) : Rp (stE s) 2 (3 * 43) := rp_map (by rw [h.len]; exact hr.l2) fun c hc => rp_ce (cell_ok hr h hc)
theorem rp_wd (k : Nat) {x : String} (h : x ∈ ["draw", "empty", "over", "low", "high"]) : Rp (wd x) k 5 := by
  simp only [List.mem_cons, List.not_mem_nil, or_false] at h
  rcases h with rfl | rfl | rfl | rfl | rfl <;> exact rp_str k (by decide +kernel) (by decide +kernel)
theorem frow_at {r : List Kd} {s : List Cell} {i : Int} {m : Nat} {w : String} (ef : frow r s i = some (m, w)) : m < r.length := by
  have key : ∀ (vs : List Int) (j : Nat), ffrom r s i j vs = some (m, w) → m < r.length := by
    intro vs
    induction vs with
    | nil => intro j h; cases h
    | cons v vs ih =>
      intro j h
      rw [ffrom] at h
      split at h
      · rename_i k c e1 e2
        split at h
        · cases h
          exact (List.getElem?_eq_some_iff.mp e1).1
        · exact ih _ h
      · cases h
  exact key _ _ ef
theorem rp_fE {r : List Kd} {s : List Cell} {i : Int} (hr : r.length ≤ 3) : Rp (fE (frow r s i)) 1 30 := by
  cases ef : frow r s i with
  | none => exact (rp_none 1).le (by omega)
  | some q =>
    obtain ⟨m, w⟩ := q
    have := frow_at ef
    exact (rp_tup (rps_cons (rp_int 0 (i := (m : Int)) (by omega)) (rps_cons (rp_wd 0 (frow_word ef)) (rps_nil 0)))).le (by omega)
theorem s62 {i : Int} (h : -1000 ≤ i) (h2 : i ≤ 1000) : small62 i = true := by
  unfold small62
  simp
  omega

/-! ### all stands -/
def longer (acc : List (List Cell)) (f : Int) : List (List Cell) := acc.flatMap fun s => (standsOf f).map fun c => s ++ [c]
def allS (r : List Kd) : List (List Cell) := r.foldl (fun acc k => longer acc k.full) [[]]
theorem longer_len (acc : List (List Cell)) (f : Int) : (longer acc f).length = acc.length * (standsOf f).length := by
  unfold longer
  induction acc with
  | nil => simp
  | cons a acc ih =>
    rw [List.flatMap_cons, List.length_append, ih, List.length_map, List.length_cons, Nat.succ_mul]
    omega
theorem longer_each {acc : List (List Cell)} {f : Int} {m : Nat} (h : ∀ s ∈ acc, s.length ≤ m) : ∀ s ∈ longer acc f, s.length ≤ m + 1 := by
  intro s hs
  unfold longer at hs
  obtain ⟨a, ha, hs⟩ := List.mem_flatMap.mp hs
  obtain ⟨c, _, rfl⟩ := List.mem_map.mp hs
  have := h a ha
  simp
  exact this
theorem all_len : ∀ (r : List Kd) (acc : List (List Cell)) (a : Int), (acc.length : Int) = a → ((r.foldl (fun acc k => longer acc k.full) acc).length : Int) = r.foldl (fun a k => a * cnt k.full) a
  | [], acc, a, h => h
  | k :: r, acc, a, h => by
    rw [List.foldl_cons, List.foldl_cons]
    refine all_len r _ _ ?_
    rw [longer_len, ← h]
    unfold cnt
    exact Int.natCast_mul _ _
theorem allS_len (r : List Kd) : ((allS r).length : Int) = many r := all_len r [[]] 1 rfl
theorem k_at1 (k : Kd) : atD [PyData.int k.full, .tuple (k.volts.map .int), .int k.loss, .int k.low, .int k.high, .int k.out, .int k.back] 1 = some (.tuple (k.volts.map .int)) := rfl
theorem k_at2 (k : Kd) : atD [PyData.int k.full, .tuple (k.volts.map .int), .int k.loss, .int k.low, .int k.high, .int k.out, .int k.back] 2 = some (.int k.loss) := rfl
/-! ### the law's own run -/
/-! ### how long a run's text is -/
theorem run_rg (r : List Kd) : ∀ (p : List Int) (s : List Cell) (b x k : Nat) (w : String), (runP r s b p).2 = some (x, k, w) → x ≤ b + p.length ∧ k < r.length ∧ w ∈ ["draw", "empty", "over", "low", "high"]
  | [], s, b, x, k, w, h => by simp [runP] at h
  | i :: p, s, b, x, k, w, h => by
    rw [runP] at h
    cases ef : frow r s i with
    | some z =>
      obtain ⟨k', w'⟩ := z
      rw [ef] at h
      cases h
      exact ⟨by omega, frow_at ef, frow_word ef⟩
    | none =>
      rw [ef] at h
      have := run_rg r p (behindL s i) (b + 1) x k w h
      rw [List.length_cons]
      exact ⟨by omega, this.2⟩
theorem rp_rE {r : List Kd} {s : List Cell} {p : List Int} (hr : RowOk r) (hp : PlanOk p) : Rp (rE (runP r s 0 p).2) 1 60 := by
  cases e : (runP r s 0 p).2 with
  | none => exact (rp_none 1).le (by omega)
  | some q =>
    obtain ⟨x, k, w⟩ := q
    have := run_rg r p s 0 x k w e
    have l2 := hr.l2
    have pl := hp.len
    exact (rp_tup (rps_cons (rp_int 0 (i := (x : Int)) (by omega)) (rps_cons (rp_int 0 (i := (k : Int)) (by omega)) (rps_cons (rp_wd 0 this.2.2) (rps_nil 0))))).le (by omega)
theorem rp_out {r : List Kd} {s : List Cell} {p : List Int} (hr : RowOk r) (h : StOk r s) (hp : PlanOk p) : Rp (outE (runP r s 0 p)) 4 2000 := by
  have pl := hp.len
  have a : Rp (.tuple ((runP r s 0 p).1.map stE)) 3 (13 * (3 * 43 + 1)) := rp_map (by have := runP_len r p s 0; omega) fun t ht => rp_st hr (run_ok p s 0 h t ht)
  exact (rp_tup (rps_cons a (rps_cons ((rp_rE hr hp).up (by decide : 1 ≤ 3)) (rps_nil 3)))).le (by omega)
theorem rp_pl {p : List Int} (hp : PlanOk p) : Rp (.list (p.map .int)) 1 (12 * 21) := rp_mapL hp.len fun i hi => rp_int 0 (by have := hp.ok i hi; omega)

/-! ### in order -/
theorem sortD_is {L S : List D} (p : L.Perm S) (inj : ∀ a ∈ S, ∀ b ∈ S, PySem.W.keyToks a = PySem.W.keyToks b → a = b) (pw : S.Pairwise fun a b => PySem.W.dataLt b a = false) : sortD L = S := by
  rw [sortD_ms]
  have tr : ∀ a b c : D, (!PySem.W.dataLt b a) = true → (!PySem.W.dataLt c b) = true → (!PySem.W.dataLt c a) = true := by
    intro a b c h1 h2
    simp only [Bool.not_eq_true'] at h1 h2 ⊢
    cases h : PySem.W.dataLt c a with
    | false => rfl
    | true =>
      rcases PyProof.Rows.lex_negTrans _ (PySem.W.keyToks b) _ h with h | h
      · exact absurd (h.symm.trans h2) (by decide)
      · exact absurd (h.symm.trans h1) (by decide)
  have to : ∀ a b : D, ((!PySem.W.dataLt b a) || (!PySem.W.dataLt a b)) = true := by
    intro a b
    cases h1 : PySem.W.dataLt b a with
    | false => rfl
    | true =>
      cases h2 : PySem.W.dataLt a b with
      | false => rfl
      | true =>
        have := PyProof.Rows.lex_trans _ _ _ h1 h2
        rw [PyProof.Rows.lex_irrefl] at this
        cases this
  have q := List.mergeSort_perm L fun a b => !PySem.W.dataLt b a
  refine List.Perm.eq_of_pairwise (le := fun a b => (!PySem.W.dataLt b a) = true) (fun a b ha hb h1 h2 => ?_) (List.pairwise_mergeSort tr to L) (pw.imp fun h => by rw [h]; rfl) (q.trans p)
  simp only [Bool.not_eq_true'] at h1 h2
  exact inj a ((q.trans p).mem_iff.mp ha) b hb (PyProof.Rows.lex_total _ _ h2 h1)
theorem st_inj : ∀ s t : List Cell, PySem.W.keyToksAll (s.map ce) = PySem.W.keyToksAll (t.map ce) → s = t
  | [], [], _ => rfl
  | [], d :: t, h => by simp [PySem.W.keyToksAll] at h
  | c :: s, [], h => by simp [PySem.W.keyToksAll] at h
  | (a, b) :: s, (a', b') :: t, h => by
    simp only [List.map_cons, PySem.W.keyToksAll, PySem.W.keyToks, ce, List.cons_append, List.nil_append] at h
    injection h with _ h
    injection h with _ h
    injection h with h1 h
    injection h with _ h
    injection h with h2 h
    injection h with _ h
    cases h1
    cases h2
    rw [st_inj s t h]
def lt1 (c d : Cell) : Prop := c.1 < d.1 ∨ (c.1 = d.1 ∧ c.2 < d.2)
instance (c d : Cell) : Decidable (lt1 c d) := by unfold lt1; exact inferInstance
def sl : List Cell → List Cell → Prop
  | c :: s, d :: t => lt1 c d ∨ (c = d ∧ sl s t)
  | _, _ => False
theorem int_blt {a b : Int} (h : a < b) : PyProof.Rows.itemOrd.blt (.inl a) (.inl b) = true := by
  show PyProof.Rows.itemLt (.inl a) (.inl b) = true
  simp [PyProof.Rows.itemLt, h]
theorem sl_lt : ∀ {s t : List Cell}, sl s t → PyProof.Rows.lexLt PyProof.Rows.itemOrd (PySem.W.keyToksAll (s.map ce)) (PySem.W.keyToksAll (t.map ce)) = true
  | [], [], h => h.elim
  | [], d :: t, h => h.elim
  | c :: s, [], h => h.elim
  | (a, b) :: s, (a', b') :: t, h => by
    simp only [List.map_cons, PySem.W.keyToksAll, PySem.W.keyToks, ce, List.cons_append, List.nil_append]
    rw [PyProof.Rows.lex_self (O := PyProof.Rows.itemOrd), PyProof.Rows.lex_self (O := PyProof.Rows.itemOrd)]
    rcases h with (h | ⟨h1, h2⟩) | ⟨h1, h2⟩
    · rw [PyProof.Rows.lex_true]
      exact .inl (int_blt h)
    · simp only at h1 h2
      subst h1
      rw [PyProof.Rows.lex_self (O := PyProof.Rows.itemOrd), PyProof.Rows.lex_self (O := PyProof.Rows.itemOrd), PyProof.Rows.lex_true]
      exact .inl (int_blt h2)
    · cases h1
      rw [PyProof.Rows.lex_self (O := PyProof.Rows.itemOrd), PyProof.Rows.lex_self (O := PyProof.Rows.itemOrd), PyProof.Rows.lex_self (O := PyProof.Rows.itemOrd), PyProof.Rows.lex_self (O := PyProof.Rows.itemOrd)]
      exact sl_lt h2
theorem sl_ge {s t : List Cell} (h : sl s t) : PySem.W.dataLt (stE t) (stE s) = false := by
  have h1 := sl_lt h
  cases h2 : PySem.W.dataLt (stE t) (stE s) with
  | false => rfl
  | true =>
    have h2 : PyProof.Rows.lexLt PyProof.Rows.itemOrd (PySem.W.keyToksAll (t.map ce)) (PySem.W.keyToksAll (s.map ce)) = true := h2
    have := PyProof.Rows.lex_trans _ _ _ h1 h2
    rw [PyProof.Rows.lex_irrefl] at this
    cases this
theorem sl_both : ∀ {s t : List Cell} (c d : Cell), sl s t → sl (s ++ [c]) (t ++ [d])
  | [], [], _, _, h => h.elim
  | [], d :: t, _, _, h => h.elim
  | c :: s, [], _, _, h => h.elim
  | c :: s, d :: t, x, y, h => h.imp id fun h => ⟨h.1, sl_both x y h.2⟩
theorem sl_end : ∀ (s : List Cell) {c d : Cell}, lt1 c d → sl (s ++ [c]) (s ++ [d])
  | [], c, d, h => .inl h
  | x :: s, c, d, h => .inr ⟨rfl, sl_end s h⟩
theorem stands_up {k : Kd} (h : k.Ok) : (standsOf k.full).Pairwise lt1 := by
  rcases full_cases h with e | e | e | e | e | e | e | e <;> rw [e] <;> decide +kernel
theorem stands_ok {k : Kd} (h : k.Ok) {c : Cell} (hc : c ∈ standsOf k.full) : CellOk k c := by
  have key : ∀ f ∈ [1, 2, 3, 4, 5, 6, 7, (8 : Int)], ∀ c ∈ standsOf f, 0 ≤ c.2 ∧ c.2 ≤ 2 ∧ c.2 ≤ f - 1 ∧ 0 ≤ c.1 ∧ c.1 ≤ f - c.2 := by decide +kernel
  obtain ⟨h1, h2, h3, h4, h5⟩ := key k.full (by rcases full_cases h with e | e | e | e | e | e | e | e <;> simp [e]) c hc
  exact ⟨h1, h2, h3, h4, h5⟩
theorem cnt_pos {k : Kd} (h : k.Ok) : 1 ≤ cnt k.full := by
  rcases full_cases h with e | e | e | e | e | e | e | e <;> rw [e] <;> decide +kernel
theorem longer_up {acc : List (List Cell)} {f : Int} (h : acc.Pairwise sl) (h2 : (standsOf f).Pairwise lt1) : (longer acc f).Pairwise sl := by
  unfold longer
  rw [List.pairwise_flatMap]
  refine ⟨fun s _ => ?_, h.imp fun {s t} hst x hx y hy => ?_⟩
  · rw [List.pairwise_map]
    exact h2.imp fun h => sl_end s h
  · obtain ⟨c, _, rfl⟩ := List.mem_map.mp hx
    obtain ⟨d, _, rfl⟩ := List.mem_map.mp hy
    exact sl_both c d hst
theorem all_up : ∀ (r : List Kd) (acc : List (List Cell)), (∀ k ∈ r, k.Ok) → acc.Pairwise sl → (r.foldl (fun acc k => longer acc k.full) acc).Pairwise sl
  | [], acc, _, h => h
  | k :: r, acc, hk, h => by
    rw [List.foldl_cons]
    exact all_up r _ (fun k' h' => hk k' (List.mem_cons_of_mem _ h')) (longer_up h (stands_up (hk k List.mem_cons_self)))
theorem all_mem : ∀ (r r0 : List Kd) (acc : List (List Cell)), (∀ k ∈ r, k.Ok) → (∀ s ∈ acc, StOk r0 s) → ∀ s ∈ r.foldl (fun acc k => longer acc k.full) acc, StOk (r0 ++ r) s
  | [], r0, acc, _, h, s, hs => by rw [List.append_nil]; exact h s hs
  | k :: r, r0, acc, hk, h, s, hs => by
    rw [List.foldl_cons] at hs
    have := all_mem r (r0 ++ [k]) (longer acc k.full) (fun k' h' => hk k' (List.mem_cons_of_mem _ h')) (fun t ht => by
      unfold longer at ht
      obtain ⟨a, ha, ht⟩ := List.mem_flatMap.mp ht
      obtain ⟨c, hc, rfl⟩ := List.mem_map.mp ht
      have oa := h a ha
      refine ⟨by rw [List.length_append, List.length_append, oa.len]; rfl, fun p hp => ?_⟩
      rw [List.zip_append oa.len.symm] at hp
      rcases List.mem_append.mp hp with hp | hp
      · exact oa.ok p hp
      · simp only [List.zip_cons_cons, List.zip_nil_right, List.mem_singleton] at hp
        rw [hp]
        exact stands_ok (hk k List.mem_cons_self) hc) s hs
    rw [List.append_assoc] at this
    exact this
theorem allS_ok {r : List Kd} (hr : RowOk r) : ∀ s ∈ allS r, StOk r s := all_mem r [] [[]] hr.ks fun s hs => by
  rw [List.mem_singleton] at hs
  subst hs
  exact ⟨rfl, fun p hp => by cases hp⟩
theorem prod_pos : ∀ (r : List Kd) (a : Int), (∀ k ∈ r, k.Ok) → 1 ≤ a → 1 ≤ r.foldl (fun a k => a * cnt k.full) a
  | [], a, _, h => h
  | k :: r, a, hk, h => by
    rw [List.foldl_cons]
    refine prod_pos r _ (fun k' h' => hk k' (List.mem_cons_of_mem _ h')) ?_
    have := cnt_pos (hk k List.mem_cons_self)
    have p : 0 < a * cnt k.full := Int.mul_pos (by omega) (by omega)
    omega
theorem allS_last {r : List Kd} (hr : RowOk r) : ∃ U l, allS r = U ++ [l] := by
  have h1 := allS_len r
  have h2 : 1 ≤ many r := prod_pos r 1 hr.ks (by decide)
  have : allS r ≠ [] := fun e => by rw [e] at h1; simp at h1; omega
  exact ⟨_, _, (List.dropLast_concat_getLast this).symm⟩
theorem sorted_stands {r : List Kd} (hr : RowOk r) {L : List (List Cell)} (p : L.Perm (allS r)) : sortedD [.list (L.map stE)] = some (.nw ((allS r).map stE)) := by
  have hS : sortD (L.map stE) = (allS r).map stE := sortD_is (p.map stE) (fun a ha b hb e => by
    obtain ⟨s, _, rfl⟩ := List.mem_map.mp ha
    obtain ⟨t, _, rfl⟩ := List.mem_map.mp hb
    rw [st_inj s t e]) (by
    rw [List.pairwise_map]
    exact (all_up r [[]] hr.ks (List.pairwise_singleton _ _)).imp sl_ge)
  have ok : ∀ s ∈ L, StOk r s := fun s hs => allS_ok hr s (p.mem_iff.mp hs)
  have al : ∀ s t : List Cell, PySem.W.alikeAll (s.map ce) (t.map ce) = true := by
    intro s
    induction s with
    | nil => intro t; simp [PySem.W.alikeAll]
    | cons c s ih =>
      intro t
      cases t with
      | nil => simp [PySem.W.alikeAll]
      | cons d t => simp [PySem.W.alikeAll, PySem.W.alike, ce, ih t]
  have hl : L.length ≤ 300 := by
    have h1 := allS_len r
    have h2 := hr.ms
    have h3 := p.length_eq
    omega
  show (if (alikeL (L.map stE) && ((L.map stE).all tupNe || (L.map stE).all notTN) && (L.map stE).all (shp 60) && decide ((L.map stE).length ≤ lim)) = true then some (W.nw (sortD (L.map stE))) else none) = _
  rw [if_pos, hS]
  simp only [Bool.and_eq_true, decide_eq_true_eq, Bool.or_eq_true]
  refine ⟨⟨⟨?_, .inl ?_⟩, ?_⟩, ?_⟩
  · unfold alikeL
    simp only [List.all_map, List.all_eq_true]
    intro s _
    simp only [Function.comp, List.all_eq_true]
    intro t _
    simp only [stE, PySem.W.alike]
    exact al s t
  · simp only [List.all_map, List.all_eq_true]
    intro s hs
    have l1 := (ok s hs).len
    have l2 := hr.l1
    cases s with
    | nil => simp at l1; omega
    | cons c s => rfl
  · simp only [List.all_map, List.all_eq_true]
    intro s _
    exact shp_st 58 s
  · rw [List.length_map]
    have : (300 : Nat) ≤ lim := by decide
    omega

/-! ### the box: its draws, told by what they keep to -/
abbrev Bx := Int × Int
abbrev bE (p : Bx) : SV := .own [.int p.1, .int p.2]
theorem b31 (r : Int) : small64 (r % 2147483647) = true := by
  unfold small64
  simp
  omega
theorem b31b (r : Int) : small64 (r % 2147483629) = true := by
  unfold small64
  simp
  omega
theorem bx_more (n : Nat) (p : Bx) : ∃ v b, CC (n + 1) i_law_more [bE p] = .ok (.d (.int v)) [some (bE (p.1, b))] := by
  rw [u_law_more _ _ rfl, b_law_more, hold_eq]
  obtain ⟨a, b⟩ := p
  have h1 : small64 65521 = true := by decide
  have h2 : small64 48271 = true := by decide
  have s12 : small62 12 = true := by decide
  (rw [hold_cons]; simp [EV.evSs, EV.evS, EV.evE, EV.evEs, EV.evAnd, EV.evOr, EV.evO, EV.evI, EV.evIfs, EV.R.bind, EV.R.fl, EV.R.of, EV.R.tst, EV.end_nx, EV.end_rd, EV.end_rn, EV.end_exc, EV.ret_d, EV.ret_nw, EV.ioNd, EV.iosOf, EV.den, EV.dens, EV.keep, EV.keeps, EV.args, EV.back, EV.outsOf, EV.stD, EV.bt_nm, EV.bt_tp, EV.bt_nil, EV.bt_cons, EV.wip, EV.ioOk, EV.parD, EV.putW, EV.augF, EV.binD, EV.same_cmp, EV.same_ne, EV.ints_shp, EV.ints_shpL, EV.cmp_ii, EV.cmp_ni, EV.cmp_ss, EV.cmp_ns, EV.cmp_bb, EV.cmp_nb, EV.cmp_lt, EV.cmp_le, EV.cmp_gt, EV.cmp_ge, EV.is_n, EV.is_b, EV.is_i, EV.is_s, EV.is_l, EV.is_t, EV.is_bb, EV.isn_n, EV.isn_b, EV.isn_i, EV.isn_s, EV.isn_l, EV.isn_t, EV.isn_bb, EV.tru_n, EV.tru_b, EV.tru_i, EV.tru_l, EV.tru_t, EV.biD, EV.idx_l, EV.idx_t, EV.cut_l, EV.cut_t, EV.seq_l, EV.seq_t, EV.zipD, EV.rngD, EV.enumD, EV.enzD, EV.tupW, EV.lstW, EV.rev_l, EV.rev_t, EV.thenS_nx, EV.thenS_rt, EV.thenS_ct, EV.thenS_exc, EV.hold_nil, EV.for_eq, EV.onS_some, EV.bindD_eq, EV.ite_okb, EV.lim, EV.zip_maps, EV.zip3_maps, EV.enum_maps])
  (rw [hold_cons]; simp [EV.evSs, EV.evS, EV.evE, EV.evEs, EV.evAnd, EV.evOr, EV.evO, EV.evI, EV.evIfs, EV.R.bind, EV.R.fl, EV.R.of, EV.R.tst, EV.end_nx, EV.end_rd, EV.end_rn, EV.end_exc, EV.ret_d, EV.ret_nw, EV.ioNd, EV.iosOf, EV.den, EV.dens, EV.keep, EV.keeps, EV.args, EV.back, EV.outsOf, EV.stD, EV.bt_nm, EV.bt_tp, EV.bt_nil, EV.bt_cons, EV.wip, EV.ioOk, EV.parD, EV.putW, EV.augF, EV.binD, EV.same_cmp, EV.same_ne, EV.ints_shp, EV.ints_shpL, EV.cmp_ii, EV.cmp_ni, EV.cmp_ss, EV.cmp_ns, EV.cmp_bb, EV.cmp_nb, EV.cmp_lt, EV.cmp_le, EV.cmp_gt, EV.cmp_ge, EV.is_n, EV.is_b, EV.is_i, EV.is_s, EV.is_l, EV.is_t, EV.is_bb, EV.isn_n, EV.isn_b, EV.isn_i, EV.isn_s, EV.isn_l, EV.isn_t, EV.isn_bb, EV.tru_n, EV.tru_b, EV.tru_i, EV.tru_l, EV.tru_t, EV.biD, EV.idx_l, EV.idx_t, EV.cut_l, EV.cut_t, EV.seq_l, EV.seq_t, EV.zipD, EV.rngD, EV.enumD, EV.enzD, EV.tupW, EV.lstW, EV.rev_l, EV.rev_t, EV.thenS_nx, EV.thenS_rt, EV.thenS_ct, EV.thenS_exc, EV.hold_nil, EV.for_eq, EV.onS_some, EV.bindD_eq, EV.ite_okb, EV.lim, EV.zip_maps, EV.zip3_maps, EV.enum_maps, l_law_more_0, s12])
  refine forL_rng (Z := fun z => ∃ v b', endCR [.own [.int a, .int b]] z = .ok (.d (.int v)) [some (.own [.int a, .int b'])]) (fun s1 => ∃ b' v x2, s1 = [some (.own [.int a, .int b']), some (.d (.int v)), x2]) ?_ ?_ _ ⟨b, 0, _, rfl⟩
  · rintro j s1 J Z hJ hZ hj ⟨b', v, x2, rfl⟩
    simp [EV.evSs, EV.evS, EV.evE, EV.evEs, EV.evAnd, EV.evOr, EV.evO, EV.evI, EV.evIfs, EV.R.bind, EV.R.fl, EV.R.of, EV.R.tst, EV.end_nx, EV.end_rd, EV.end_rn, EV.end_exc, EV.ret_d, EV.ret_nw, EV.ioNd, EV.iosOf, EV.den, EV.dens, EV.keep, EV.keeps, EV.args, EV.back, EV.outsOf, EV.stD, EV.bt_nm, EV.bt_tp, EV.bt_nil, EV.bt_cons, EV.wip, EV.ioOk, EV.parD, EV.putW, EV.augF, EV.binD, EV.same_cmp, EV.same_ne, EV.ints_shp, EV.ints_shpL, EV.cmp_ii, EV.cmp_ni, EV.cmp_ss, EV.cmp_ns, EV.cmp_bb, EV.cmp_nb, EV.cmp_lt, EV.cmp_le, EV.cmp_gt, EV.cmp_ge, EV.is_n, EV.is_b, EV.is_i, EV.is_s, EV.is_l, EV.is_t, EV.is_bb, EV.isn_n, EV.isn_b, EV.isn_i, EV.isn_s, EV.isn_l, EV.isn_t, EV.isn_bb, EV.tru_n, EV.tru_b, EV.tru_i, EV.tru_l, EV.tru_t, EV.biD, EV.idx_l, EV.idx_t, EV.cut_l, EV.cut_t, EV.seq_l, EV.seq_t, EV.zipD, EV.rngD, EV.enumD, EV.enzD, EV.tupW, EV.lstW, EV.rev_l, EV.rev_t, EV.thenS_nx, EV.thenS_rt, EV.thenS_ct, EV.thenS_exc, EV.hold_nil, EV.for_eq, EV.onS_some, EV.bindD_eq, EV.ite_okb, EV.lim, EV.zip_maps, EV.zip3_maps, EV.enum_maps, l_law_more_0b]
    (rw [hold_cons]; simp [EV.evSs, EV.evS, EV.evE, EV.evEs, EV.evAnd, EV.evOr, EV.evO, EV.evI, EV.evIfs, EV.R.bind, EV.R.fl, EV.R.of, EV.R.tst, EV.end_nx, EV.end_rd, EV.end_rn, EV.end_exc, EV.ret_d, EV.ret_nw, EV.ioNd, EV.iosOf, EV.den, EV.dens, EV.keep, EV.keeps, EV.args, EV.back, EV.outsOf, EV.stD, EV.bt_nm, EV.bt_tp, EV.bt_nil, EV.bt_cons, EV.wip, EV.ioOk, EV.parD, EV.putW, EV.augF, EV.binD, EV.same_cmp, EV.same_ne, EV.ints_shp, EV.ints_shpL, EV.cmp_ii, EV.cmp_ni, EV.cmp_ss, EV.cmp_ns, EV.cmp_bb, EV.cmp_nb, EV.cmp_lt, EV.cmp_le, EV.cmp_gt, EV.cmp_ge, EV.is_n, EV.is_b, EV.is_i, EV.is_s, EV.is_l, EV.is_t, EV.is_bb, EV.isn_n, EV.isn_b, EV.isn_i, EV.isn_s, EV.isn_l, EV.isn_t, EV.isn_bb, EV.tru_n, EV.tru_b, EV.tru_i, EV.tru_l, EV.tru_t, EV.biD, EV.idx_l, EV.idx_t, EV.cut_l, EV.cut_t, EV.seq_l, EV.seq_t, EV.zipD, EV.rngD, EV.enumD, EV.enzD, EV.tupW, EV.lstW, EV.rev_l, EV.rev_t, EV.thenS_nx, EV.thenS_rt, EV.thenS_ct, EV.thenS_exc, EV.hold_nil, EV.for_eq, EV.onS_some, EV.bindD_eq, EV.ite_okb, EV.lim, EV.zip_maps, EV.zip3_maps, EV.enum_maps, atD, ixD, h2])
    (rw [hold_cons]; simp [EV.evSs, EV.evS, EV.evE, EV.evEs, EV.evAnd, EV.evOr, EV.evO, EV.evI, EV.evIfs, EV.R.bind, EV.R.fl, EV.R.of, EV.R.tst, EV.end_nx, EV.end_rd, EV.end_rn, EV.end_exc, EV.ret_d, EV.ret_nw, EV.ioNd, EV.iosOf, EV.den, EV.dens, EV.keep, EV.keeps, EV.args, EV.back, EV.outsOf, EV.stD, EV.bt_nm, EV.bt_tp, EV.bt_nil, EV.bt_cons, EV.wip, EV.ioOk, EV.parD, EV.putW, EV.augF, EV.binD, EV.same_cmp, EV.same_ne, EV.ints_shp, EV.ints_shpL, EV.cmp_ii, EV.cmp_ni, EV.cmp_ss, EV.cmp_ns, EV.cmp_bb, EV.cmp_nb, EV.cmp_lt, EV.cmp_le, EV.cmp_gt, EV.cmp_ge, EV.is_n, EV.is_b, EV.is_i, EV.is_s, EV.is_l, EV.is_t, EV.is_bb, EV.isn_n, EV.isn_b, EV.isn_i, EV.isn_s, EV.isn_l, EV.isn_t, EV.isn_bb, EV.tru_n, EV.tru_b, EV.tru_i, EV.tru_l, EV.tru_t, EV.biD, EV.idx_l, EV.idx_t, EV.cut_l, EV.cut_t, EV.seq_l, EV.seq_t, EV.zipD, EV.rngD, EV.enumD, EV.enzD, EV.tupW, EV.lstW, EV.rev_l, EV.rev_t, EV.thenS_nx, EV.thenS_rt, EV.thenS_ct, EV.thenS_exc, EV.hold_nil, EV.for_eq, EV.onS_some, EV.bindD_eq, EV.ite_okb, EV.lim, EV.zip_maps, EV.zip3_maps, EV.enum_maps, atD, ixD, h1])
    exact hJ _ ⟨_, _, _, rfl⟩
  · rintro s1 ⟨b', v, x2, rfl⟩
    (rw [hold_cons]; simp [EV.evSs, EV.evS, EV.evE, EV.evEs, EV.evAnd, EV.evOr, EV.evO, EV.evI, EV.evIfs, EV.R.bind, EV.R.fl, EV.R.of, EV.R.tst, EV.end_nx, EV.end_rd, EV.end_rn, EV.end_exc, EV.ret_d, EV.ret_nw, EV.ioNd, EV.iosOf, EV.den, EV.dens, EV.keep, EV.keeps, EV.args, EV.back, EV.outsOf, EV.stD, EV.bt_nm, EV.bt_tp, EV.bt_nil, EV.bt_cons, EV.wip, EV.ioOk, EV.parD, EV.putW, EV.augF, EV.binD, EV.same_cmp, EV.same_ne, EV.ints_shp, EV.ints_shpL, EV.cmp_ii, EV.cmp_ni, EV.cmp_ss, EV.cmp_ns, EV.cmp_bb, EV.cmp_nb, EV.cmp_lt, EV.cmp_le, EV.cmp_gt, EV.cmp_ge, EV.is_n, EV.is_b, EV.is_i, EV.is_s, EV.is_l, EV.is_t, EV.is_bb, EV.isn_n, EV.isn_b, EV.isn_i, EV.isn_s, EV.isn_l, EV.isn_t, EV.isn_bb, EV.tru_n, EV.tru_b, EV.tru_i, EV.tru_l, EV.tru_t, EV.biD, EV.idx_l, EV.idx_t, EV.cut_l, EV.cut_t, EV.seq_l, EV.seq_t, EV.zipD, EV.rngD, EV.enumD, EV.enzD, EV.tupW, EV.lstW, EV.rev_l, EV.rev_t, EV.thenS_nx, EV.thenS_rt, EV.thenS_ct, EV.thenS_exc, EV.hold_nil, EV.for_eq, EV.onS_some, EV.bindD_eq, EV.ite_okb, EV.lim, EV.zip_maps, EV.zip3_maps, EV.enum_maps])
theorem bx_take (n : Nat) (p : Bx) (m : Int) (h : 0 < m) (h2 : m < 1000000) : ∃ (v : Int) (q : Bx), (0 ≤ v ∧ v < m) ∧ CC (n + 2) i_law_take [bE p, .d (.int m)] = .ok (.d (.int v)) [some (bE q), none] := by
  obtain ⟨a, b⟩ := p
  have hm : m < 1073741824 := by omega
  have s1 : small64 m = true := by unfold small64; simp; omega
  have rg : ∀ a : Int, 0 ≤ a % m ∧ a % m < m := fun a => ⟨Int.emod_nonneg _ (by omega), Int.emod_lt_of_pos _ h⟩
  have key : ∀ a' b' : Int, endCR [.own [.int a, .int b], .d (.int m)] (hold gm.G (CC (n + 1)) (.cons (.unp (.tp (.cons (.nm 2) (.cons (.nm 3) .nil))) (.bi .divmod (.cons (.idx (.v 0) (.c (.int 0))) (.cons (.v 1) .nil)))) (.cons (.seti 0 (.c (.int 0)) (.v 2)) (.cons (.ret (.v 3)) .nil))) [some (.own [.int a', .int b']), some (.d (.int m)), none, none]) = .ok (.d (.int (a' % m))) [some (.own [.int (a' / m), .int b']), none] := by
    intro a' b'
    (rw [hold_cons]; simp [EV.evSs, EV.evS, EV.evE, EV.evEs, EV.evAnd, EV.evOr, EV.evO, EV.evI, EV.evIfs, EV.R.bind, EV.R.fl, EV.R.of, EV.R.tst, EV.end_nx, EV.end_rd, EV.end_rn, EV.end_exc, EV.ret_d, EV.ret_nw, EV.ioNd, EV.iosOf, EV.den, EV.dens, EV.keep, EV.keeps, EV.args, EV.back, EV.outsOf, EV.stD, EV.bt_nm, EV.bt_tp, EV.bt_nil, EV.bt_cons, EV.wip, EV.ioOk, EV.parD, EV.putW, EV.augF, EV.binD, EV.same_cmp, EV.same_ne, EV.ints_shp, EV.ints_shpL, EV.cmp_ii, EV.cmp_ni, EV.cmp_ss, EV.cmp_ns, EV.cmp_bb, EV.cmp_nb, EV.cmp_lt, EV.cmp_le, EV.cmp_gt, EV.cmp_ge, EV.is_n, EV.is_b, EV.is_i, EV.is_s, EV.is_l, EV.is_t, EV.is_bb, EV.isn_n, EV.isn_b, EV.isn_i, EV.isn_s, EV.isn_l, EV.isn_t, EV.isn_bb, EV.tru_n, EV.tru_b, EV.tru_i, EV.tru_l, EV.tru_t, EV.biD, EV.idx_l, EV.idx_t, EV.cut_l, EV.cut_t, EV.seq_l, EV.seq_t, EV.zipD, EV.rngD, EV.enumD, EV.enzD, EV.tupW, EV.lstW, EV.rev_l, EV.rev_t, EV.thenS_nx, EV.thenS_rt, EV.thenS_ct, EV.thenS_exc, EV.hold_nil, EV.for_eq, EV.onS_some, EV.bindD_eq, EV.ite_okb, EV.lim, EV.zip_maps, EV.zip3_maps, EV.enum_maps, atD, ixD, h, hm])
    (rw [hold_cons]; simp [EV.evSs, EV.evS, EV.evE, EV.evEs, EV.evAnd, EV.evOr, EV.evO, EV.evI, EV.evIfs, EV.R.bind, EV.R.fl, EV.R.of, EV.R.tst, EV.end_nx, EV.end_rd, EV.end_rn, EV.end_exc, EV.ret_d, EV.ret_nw, EV.ioNd, EV.iosOf, EV.den, EV.dens, EV.keep, EV.keeps, EV.args, EV.back, EV.outsOf, EV.stD, EV.bt_nm, EV.bt_tp, EV.bt_nil, EV.bt_cons, EV.wip, EV.ioOk, EV.parD, EV.putW, EV.augF, EV.binD, EV.same_cmp, EV.same_ne, EV.ints_shp, EV.ints_shpL, EV.cmp_ii, EV.cmp_ni, EV.cmp_ss, EV.cmp_ns, EV.cmp_bb, EV.cmp_nb, EV.cmp_lt, EV.cmp_le, EV.cmp_gt, EV.cmp_ge, EV.is_n, EV.is_b, EV.is_i, EV.is_s, EV.is_l, EV.is_t, EV.is_bb, EV.isn_n, EV.isn_b, EV.isn_i, EV.isn_s, EV.isn_l, EV.isn_t, EV.isn_bb, EV.tru_n, EV.tru_b, EV.tru_i, EV.tru_l, EV.tru_t, EV.biD, EV.idx_l, EV.idx_t, EV.cut_l, EV.cut_t, EV.seq_l, EV.seq_t, EV.zipD, EV.rngD, EV.enumD, EV.enzD, EV.tupW, EV.lstW, EV.rev_l, EV.rev_t, EV.thenS_nx, EV.thenS_rt, EV.thenS_ct, EV.thenS_exc, EV.hold_nil, EV.for_eq, EV.onS_some, EV.bindD_eq, EV.ite_okb, EV.lim, EV.zip_maps, EV.zip3_maps, EV.enum_maps, atD, ixD])
    (rw [hold_cons]; simp [EV.evSs, EV.evS, EV.evE, EV.evEs, EV.evAnd, EV.evOr, EV.evO, EV.evI, EV.evIfs, EV.R.bind, EV.R.fl, EV.R.of, EV.R.tst, EV.end_nx, EV.end_rd, EV.end_rn, EV.end_exc, EV.ret_d, EV.ret_nw, EV.ioNd, EV.iosOf, EV.den, EV.dens, EV.keep, EV.keeps, EV.args, EV.back, EV.outsOf, EV.stD, EV.bt_nm, EV.bt_tp, EV.bt_nil, EV.bt_cons, EV.wip, EV.ioOk, EV.parD, EV.putW, EV.augF, EV.binD, EV.same_cmp, EV.same_ne, EV.ints_shp, EV.ints_shpL, EV.cmp_ii, EV.cmp_ni, EV.cmp_ss, EV.cmp_ns, EV.cmp_bb, EV.cmp_nb, EV.cmp_lt, EV.cmp_le, EV.cmp_gt, EV.cmp_ge, EV.is_n, EV.is_b, EV.is_i, EV.is_s, EV.is_l, EV.is_t, EV.is_bb, EV.isn_n, EV.isn_b, EV.isn_i, EV.isn_s, EV.isn_l, EV.isn_t, EV.isn_bb, EV.tru_n, EV.tru_b, EV.tru_i, EV.tru_l, EV.tru_t, EV.biD, EV.idx_l, EV.idx_t, EV.cut_l, EV.cut_t, EV.seq_l, EV.seq_t, EV.zipD, EV.rngD, EV.enumD, EV.enzD, EV.tupW, EV.lstW, EV.rev_l, EV.rev_t, EV.thenS_nx, EV.thenS_rt, EV.thenS_ct, EV.thenS_exc, EV.hold_nil, EV.for_eq, EV.onS_some, EV.bindD_eq, EV.ite_okb, EV.lim, EV.zip_maps, EV.zip3_maps, EV.enum_maps])
  by_cases h3 : 0 ≤ a
  · by_cases h4 : a < m
    · obtain ⟨v, b', x⟩ := bx_more n (a, b)
      refine ⟨_, ((a + m * v) / m, b'), rg (a + m * v), ?_⟩
      rw [u_law_take _ _ _ rfl, b_law_take, hold_eq]
      simp only [bE] at x ⊢
      (rw [hold_cons]; simp [EV.evSs, EV.evS, EV.evE, EV.evEs, EV.evAnd, EV.evOr, EV.evO, EV.evI, EV.evIfs, EV.R.bind, EV.R.fl, EV.R.of, EV.R.tst, EV.end_nx, EV.end_rd, EV.end_rn, EV.end_exc, EV.ret_d, EV.ret_nw, EV.ioNd, EV.iosOf, EV.den, EV.dens, EV.keep, EV.keeps, EV.args, EV.back, EV.outsOf, EV.stD, EV.bt_nm, EV.bt_tp, EV.bt_nil, EV.bt_cons, EV.wip, EV.ioOk, EV.parD, EV.putW, EV.augF, EV.binD, EV.same_cmp, EV.same_ne, EV.ints_shp, EV.ints_shpL, EV.cmp_ii, EV.cmp_ni, EV.cmp_ss, EV.cmp_ns, EV.cmp_bb, EV.cmp_nb, EV.cmp_lt, EV.cmp_le, EV.cmp_gt, EV.cmp_ge, EV.is_n, EV.is_b, EV.is_i, EV.is_s, EV.is_l, EV.is_t, EV.is_bb, EV.isn_n, EV.isn_b, EV.isn_i, EV.isn_s, EV.isn_l, EV.isn_t, EV.isn_bb, EV.tru_n, EV.tru_b, EV.tru_i, EV.tru_l, EV.tru_t, EV.biD, EV.idx_l, EV.idx_t, EV.cut_l, EV.cut_t, EV.seq_l, EV.seq_t, EV.zipD, EV.rngD, EV.enumD, EV.enzD, EV.tupW, EV.lstW, EV.rev_l, EV.rev_t, EV.thenS_nx, EV.thenS_rt, EV.thenS_ct, EV.thenS_exc, EV.hold_nil, EV.for_eq, EV.onS_some, EV.bindD_eq, EV.ite_okb, EV.lim, EV.zip_maps, EV.zip3_maps, EV.enum_maps, atD, ixD, h3, h4, x, s1])
      rw [show a % m = (a + m * v) % m from (Int.add_mul_emod_self_left a m v).symm]
      exact key (a + m * v) b'
    · refine ⟨_, (a / m, b), rg a, ?_⟩
      rw [u_law_take _ _ _ rfl, b_law_take, hold_eq]
      (rw [hold_cons]; simp [EV.evSs, EV.evS, EV.evE, EV.evEs, EV.evAnd, EV.evOr, EV.evO, EV.evI, EV.evIfs, EV.R.bind, EV.R.fl, EV.R.of, EV.R.tst, EV.end_nx, EV.end_rd, EV.end_rn, EV.end_exc, EV.ret_d, EV.ret_nw, EV.ioNd, EV.iosOf, EV.den, EV.dens, EV.keep, EV.keeps, EV.args, EV.back, EV.outsOf, EV.stD, EV.bt_nm, EV.bt_tp, EV.bt_nil, EV.bt_cons, EV.wip, EV.ioOk, EV.parD, EV.putW, EV.augF, EV.binD, EV.same_cmp, EV.same_ne, EV.ints_shp, EV.ints_shpL, EV.cmp_ii, EV.cmp_ni, EV.cmp_ss, EV.cmp_ns, EV.cmp_bb, EV.cmp_nb, EV.cmp_lt, EV.cmp_le, EV.cmp_gt, EV.cmp_ge, EV.is_n, EV.is_b, EV.is_i, EV.is_s, EV.is_l, EV.is_t, EV.is_bb, EV.isn_n, EV.isn_b, EV.isn_i, EV.isn_s, EV.isn_l, EV.isn_t, EV.isn_bb, EV.tru_n, EV.tru_b, EV.tru_i, EV.tru_l, EV.tru_t, EV.biD, EV.idx_l, EV.idx_t, EV.cut_l, EV.cut_t, EV.seq_l, EV.seq_t, EV.zipD, EV.rngD, EV.enumD, EV.enzD, EV.tupW, EV.lstW, EV.rev_l, EV.rev_t, EV.thenS_nx, EV.thenS_rt, EV.thenS_ct, EV.thenS_exc, EV.hold_nil, EV.for_eq, EV.onS_some, EV.bindD_eq, EV.ite_okb, EV.lim, EV.zip_maps, EV.zip3_maps, EV.enum_maps, atD, ixD, h3, h4])
      exact key a b
  · refine ⟨_, (a / m, b), rg a, ?_⟩
    rw [u_law_take _ _ _ rfl, b_law_take, hold_eq]
    (rw [hold_cons]; simp [EV.evSs, EV.evS, EV.evE, EV.evEs, EV.evAnd, EV.evOr, EV.evO, EV.evI, EV.evIfs, EV.R.bind, EV.R.fl, EV.R.of, EV.R.tst, EV.end_nx, EV.end_rd, EV.end_rn, EV.end_exc, EV.ret_d, EV.ret_nw, EV.ioNd, EV.iosOf, EV.den, EV.dens, EV.keep, EV.keeps, EV.args, EV.back, EV.outsOf, EV.stD, EV.bt_nm, EV.bt_tp, EV.bt_nil, EV.bt_cons, EV.wip, EV.ioOk, EV.parD, EV.putW, EV.augF, EV.binD, EV.same_cmp, EV.same_ne, EV.ints_shp, EV.ints_shpL, EV.cmp_ii, EV.cmp_ni, EV.cmp_ss, EV.cmp_ns, EV.cmp_bb, EV.cmp_nb, EV.cmp_lt, EV.cmp_le, EV.cmp_gt, EV.cmp_ge, EV.is_n, EV.is_b, EV.is_i, EV.is_s, EV.is_l, EV.is_t, EV.is_bb, EV.isn_n, EV.isn_b, EV.isn_i, EV.isn_s, EV.isn_l, EV.isn_t, EV.isn_bb, EV.tru_n, EV.tru_b, EV.tru_i, EV.tru_l, EV.tru_t, EV.biD, EV.idx_l, EV.idx_t, EV.cut_l, EV.cut_t, EV.seq_l, EV.seq_t, EV.zipD, EV.rngD, EV.enumD, EV.enzD, EV.tupW, EV.lstW, EV.rev_l, EV.rev_t, EV.thenS_nx, EV.thenS_rt, EV.thenS_ct, EV.thenS_exc, EV.hold_nil, EV.for_eq, EV.onS_some, EV.bindD_eq, EV.ite_okb, EV.lim, EV.zip_maps, EV.zip3_maps, EV.enum_maps, atD, ixD, h3])
    exact key a b
theorem bx_box (n : Nat) (ns : List Int) (k : Nat) : ∃ a b, CC (n + 1) i_law_box [.d (scriptD ns), .d (.int (k : Int))] = .ok (.nw [.int a, .int b]) [none, none] := by
  rw [u_law_box _ _ _ rfl, b_law_box, hold_eq]
  have h1 : small64 7919 = true := by decide
  have h2 : small64 48271 = true := by decide
  have h3 : small64 2147483647 = true := by decide
  have s16 : small62 16 = true := by decide
  have key : ∀ here : Int, ∃ a b, endCR [.d (scriptD ns), .d (.int (k : Int))] (hold gm.G (CC n) (.cons (.iff (.cmp .eq (.bin .mod (.v 2) (.c (.int 2))) (.c (.int 0))) (.cons (.ret (.lst (.cons (.bin .fdiv (.v 2) (.c (.int 2))) (.cons (.bin .mod (.bi .abs (.cons (.v 2) .nil)) (.c (.int 2147483647))) .nil)))) .nil) .nil) (.cons (.set 3 (.c (.int 0))) (.cons (l_law_box_0) (.cons (.ret (.lst (.cons (.v 3) (.cons (.bin .mod (.bi .abs (.cons (.v 2) .nil)) (.c (.int 2147483647))) .nil)))) .nil)))) [some (.d (scriptD ns)), some (.d (.int (k : Int))), some (.d (.int here)), none, none, none]) = .ok (.nw [.int a, .int b]) [none, none] := by
    intro here
    by_cases he : here % 2 = 0
    · (rw [hold_cons]; simp [EV.evSs, EV.evS, EV.evE, EV.evEs, EV.evAnd, EV.evOr, EV.evO, EV.evI, EV.evIfs, EV.R.bind, EV.R.fl, EV.R.of, EV.R.tst, EV.end_nx, EV.end_rd, EV.end_rn, EV.end_exc, EV.ret_d, EV.ret_nw, EV.ioNd, EV.iosOf, EV.den, EV.dens, EV.keep, EV.keeps, EV.args, EV.back, EV.outsOf, EV.stD, EV.bt_nm, EV.bt_tp, EV.bt_nil, EV.bt_cons, EV.wip, EV.ioOk, EV.parD, EV.putW, EV.augF, EV.binD, EV.same_cmp, EV.same_ne, EV.ints_shp, EV.ints_shpL, EV.cmp_ii, EV.cmp_ni, EV.cmp_ss, EV.cmp_ns, EV.cmp_bb, EV.cmp_nb, EV.cmp_lt, EV.cmp_le, EV.cmp_gt, EV.cmp_ge, EV.is_n, EV.is_b, EV.is_i, EV.is_s, EV.is_l, EV.is_t, EV.is_bb, EV.isn_n, EV.isn_b, EV.isn_i, EV.isn_s, EV.isn_l, EV.isn_t, EV.isn_bb, EV.tru_n, EV.tru_b, EV.tru_i, EV.tru_l, EV.tru_t, EV.biD, EV.idx_l, EV.idx_t, EV.cut_l, EV.cut_t, EV.seq_l, EV.seq_t, EV.zipD, EV.rngD, EV.enumD, EV.enzD, EV.tupW, EV.lstW, EV.rev_l, EV.rev_t, EV.thenS_nx, EV.thenS_rt, EV.thenS_ct, EV.thenS_exc, EV.hold_nil, EV.for_eq, EV.onS_some, EV.bindD_eq, EV.ite_okb, EV.lim, EV.zip_maps, EV.zip3_maps, EV.enum_maps, he])
    · (rw [hold_cons]; simp [EV.evSs, EV.evS, EV.evE, EV.evEs, EV.evAnd, EV.evOr, EV.evO, EV.evI, EV.evIfs, EV.R.bind, EV.R.fl, EV.R.of, EV.R.tst, EV.end_nx, EV.end_rd, EV.end_rn, EV.end_exc, EV.ret_d, EV.ret_nw, EV.ioNd, EV.iosOf, EV.den, EV.dens, EV.keep, EV.keeps, EV.args, EV.back, EV.outsOf, EV.stD, EV.bt_nm, EV.bt_tp, EV.bt_nil, EV.bt_cons, EV.wip, EV.ioOk, EV.parD, EV.putW, EV.augF, EV.binD, EV.same_cmp, EV.same_ne, EV.ints_shp, EV.ints_shpL, EV.cmp_ii, EV.cmp_ni, EV.cmp_ss, EV.cmp_ns, EV.cmp_bb, EV.cmp_nb, EV.cmp_lt, EV.cmp_le, EV.cmp_gt, EV.cmp_ge, EV.is_n, EV.is_b, EV.is_i, EV.is_s, EV.is_l, EV.is_t, EV.is_bb, EV.isn_n, EV.isn_b, EV.isn_i, EV.isn_s, EV.isn_l, EV.isn_t, EV.isn_bb, EV.tru_n, EV.tru_b, EV.tru_i, EV.tru_l, EV.tru_t, EV.biD, EV.idx_l, EV.idx_t, EV.cut_l, EV.cut_t, EV.seq_l, EV.seq_t, EV.zipD, EV.rngD, EV.enumD, EV.enzD, EV.tupW, EV.lstW, EV.rev_l, EV.rev_t, EV.thenS_nx, EV.thenS_rt, EV.thenS_ct, EV.thenS_exc, EV.hold_nil, EV.for_eq, EV.onS_some, EV.bindD_eq, EV.ite_okb, EV.lim, EV.zip_maps, EV.zip3_maps, EV.enum_maps, he])
      (rw [hold_cons]; simp [EV.evSs, EV.evS, EV.evE, EV.evEs, EV.evAnd, EV.evOr, EV.evO, EV.evI, EV.evIfs, EV.R.bind, EV.R.fl, EV.R.of, EV.R.tst, EV.end_nx, EV.end_rd, EV.end_rn, EV.end_exc, EV.ret_d, EV.ret_nw, EV.ioNd, EV.iosOf, EV.den, EV.dens, EV.keep, EV.keeps, EV.args, EV.back, EV.outsOf, EV.stD, EV.bt_nm, EV.bt_tp, EV.bt_nil, EV.bt_cons, EV.wip, EV.ioOk, EV.parD, EV.putW, EV.augF, EV.binD, EV.same_cmp, EV.same_ne, EV.ints_shp, EV.ints_shpL, EV.cmp_ii, EV.cmp_ni, EV.cmp_ss, EV.cmp_ns, EV.cmp_bb, EV.cmp_nb, EV.cmp_lt, EV.cmp_le, EV.cmp_gt, EV.cmp_ge, EV.is_n, EV.is_b, EV.is_i, EV.is_s, EV.is_l, EV.is_t, EV.is_bb, EV.isn_n, EV.isn_b, EV.isn_i, EV.isn_s, EV.isn_l, EV.isn_t, EV.isn_bb, EV.tru_n, EV.tru_b, EV.tru_i, EV.tru_l, EV.tru_t, EV.biD, EV.idx_l, EV.idx_t, EV.cut_l, EV.cut_t, EV.seq_l, EV.seq_t, EV.zipD, EV.rngD, EV.enumD, EV.enzD, EV.tupW, EV.lstW, EV.rev_l, EV.rev_t, EV.thenS_nx, EV.thenS_rt, EV.thenS_ct, EV.thenS_exc, EV.hold_nil, EV.for_eq, EV.onS_some, EV.bindD_eq, EV.ite_okb, EV.lim, EV.zip_maps, EV.zip3_maps, EV.enum_maps])
      (rw [hold_cons]; simp [EV.evSs, EV.evS, EV.evE, EV.evEs, EV.evAnd, EV.evOr, EV.evO, EV.evI, EV.evIfs, EV.R.bind, EV.R.fl, EV.R.of, EV.R.tst, EV.end_nx, EV.end_rd, EV.end_rn, EV.end_exc, EV.ret_d, EV.ret_nw, EV.ioNd, EV.iosOf, EV.den, EV.dens, EV.keep, EV.keeps, EV.args, EV.back, EV.outsOf, EV.stD, EV.bt_nm, EV.bt_tp, EV.bt_nil, EV.bt_cons, EV.wip, EV.ioOk, EV.parD, EV.putW, EV.augF, EV.binD, EV.same_cmp, EV.same_ne, EV.ints_shp, EV.ints_shpL, EV.cmp_ii, EV.cmp_ni, EV.cmp_ss, EV.cmp_ns, EV.cmp_bb, EV.cmp_nb, EV.cmp_lt, EV.cmp_le, EV.cmp_gt, EV.cmp_ge, EV.is_n, EV.is_b, EV.is_i, EV.is_s, EV.is_l, EV.is_t, EV.is_bb, EV.isn_n, EV.isn_b, EV.isn_i, EV.isn_s, EV.isn_l, EV.isn_t, EV.isn_bb, EV.tru_n, EV.tru_b, EV.tru_i, EV.tru_l, EV.tru_t, EV.biD, EV.idx_l, EV.idx_t, EV.cut_l, EV.cut_t, EV.seq_l, EV.seq_t, EV.zipD, EV.rngD, EV.enumD, EV.enzD, EV.tupW, EV.lstW, EV.rev_l, EV.rev_t, EV.thenS_nx, EV.thenS_rt, EV.thenS_ct, EV.thenS_exc, EV.hold_nil, EV.for_eq, EV.onS_some, EV.bindD_eq, EV.ite_okb, EV.lim, EV.zip_maps, EV.zip3_maps, EV.enum_maps, l_law_box_0, s16])
      refine forL_rng (Z := fun z => ∃ a b, endCR [.d (scriptD ns), .d (.int (k : Int))] z = .ok (.nw [.int a, .int b]) [none, none]) (fun s1 => ∃ v x4 x5, s1 = [some (.d (scriptD ns)), some (.d (.int (k : Int))), some (.d (.int here)), some (.d (.int v)), x4, x5]) ?_ ?_ _ ⟨0, _, _, rfl⟩
      · rintro j s1 J Z hJ hZ hj ⟨v, x4, x5, rfl⟩
        simp [EV.evSs, EV.evS, EV.evE, EV.evEs, EV.evAnd, EV.evOr, EV.evO, EV.evI, EV.evIfs, EV.R.bind, EV.R.fl, EV.R.of, EV.R.tst, EV.end_nx, EV.end_rd, EV.end_rn, EV.end_exc, EV.ret_d, EV.ret_nw, EV.ioNd, EV.iosOf, EV.den, EV.dens, EV.keep, EV.keeps, EV.args, EV.back, EV.outsOf, EV.stD, EV.bt_nm, EV.bt_tp, EV.bt_nil, EV.bt_cons, EV.wip, EV.ioOk, EV.parD, EV.putW, EV.augF, EV.binD, EV.same_cmp, EV.same_ne, EV.ints_shp, EV.ints_shpL, EV.cmp_ii, EV.cmp_ni, EV.cmp_ss, EV.cmp_ns, EV.cmp_bb, EV.cmp_nb, EV.cmp_lt, EV.cmp_le, EV.cmp_gt, EV.cmp_ge, EV.is_n, EV.is_b, EV.is_i, EV.is_s, EV.is_l, EV.is_t, EV.is_bb, EV.isn_n, EV.isn_b, EV.isn_i, EV.isn_s, EV.isn_l, EV.isn_t, EV.isn_bb, EV.tru_n, EV.tru_b, EV.tru_i, EV.tru_l, EV.tru_t, EV.biD, EV.idx_l, EV.idx_t, EV.cut_l, EV.cut_t, EV.seq_l, EV.seq_t, EV.zipD, EV.rngD, EV.enumD, EV.enzD, EV.tupW, EV.lstW, EV.rev_l, EV.rev_t, EV.thenS_nx, EV.thenS_rt, EV.thenS_ct, EV.thenS_exc, EV.hold_nil, EV.for_eq, EV.onS_some, EV.bindD_eq, EV.ite_okb, EV.lim, EV.zip_maps, EV.zip3_maps, EV.enum_maps, l_law_box_0b]
        (rw [hold_cons]; simp [EV.evSs, EV.evS, EV.evE, EV.evEs, EV.evAnd, EV.evOr, EV.evO, EV.evI, EV.evIfs, EV.R.bind, EV.R.fl, EV.R.of, EV.R.tst, EV.end_nx, EV.end_rd, EV.end_rn, EV.end_exc, EV.ret_d, EV.ret_nw, EV.ioNd, EV.iosOf, EV.den, EV.dens, EV.keep, EV.keeps, EV.args, EV.back, EV.outsOf, EV.stD, EV.bt_nm, EV.bt_tp, EV.bt_nil, EV.bt_cons, EV.wip, EV.ioOk, EV.parD, EV.putW, EV.augF, EV.binD, EV.same_cmp, EV.same_ne, EV.ints_shp, EV.ints_shpL, EV.cmp_ii, EV.cmp_ni, EV.cmp_ss, EV.cmp_ns, EV.cmp_bb, EV.cmp_nb, EV.cmp_lt, EV.cmp_le, EV.cmp_gt, EV.cmp_ge, EV.is_n, EV.is_b, EV.is_i, EV.is_s, EV.is_l, EV.is_t, EV.is_bb, EV.isn_n, EV.isn_b, EV.isn_i, EV.isn_s, EV.isn_l, EV.isn_t, EV.isn_bb, EV.tru_n, EV.tru_b, EV.tru_i, EV.tru_l, EV.tru_t, EV.biD, EV.idx_l, EV.idx_t, EV.cut_l, EV.cut_t, EV.seq_l, EV.seq_t, EV.zipD, EV.rngD, EV.enumD, EV.enzD, EV.tupW, EV.lstW, EV.rev_l, EV.rev_t, EV.thenS_nx, EV.thenS_rt, EV.thenS_ct, EV.thenS_exc, EV.hold_nil, EV.for_eq, EV.onS_some, EV.bindD_eq, EV.ite_okb, EV.lim, EV.zip_maps, EV.zip3_maps, EV.enum_maps, h1, h2])
        (rw [hold_cons]; simp [EV.evSs, EV.evS, EV.evE, EV.evEs, EV.evAnd, EV.evOr, EV.evO, EV.evI, EV.evIfs, EV.R.bind, EV.R.fl, EV.R.of, EV.R.tst, EV.end_nx, EV.end_rd, EV.end_rn, EV.end_exc, EV.ret_d, EV.ret_nw, EV.ioNd, EV.iosOf, EV.den, EV.dens, EV.keep, EV.keeps, EV.args, EV.back, EV.outsOf, EV.stD, EV.bt_nm, EV.bt_tp, EV.bt_nil, EV.bt_cons, EV.wip, EV.ioOk, EV.parD, EV.putW, EV.augF, EV.binD, EV.same_cmp, EV.same_ne, EV.ints_shp, EV.ints_shpL, EV.cmp_ii, EV.cmp_ni, EV.cmp_ss, EV.cmp_ns, EV.cmp_bb, EV.cmp_nb, EV.cmp_lt, EV.cmp_le, EV.cmp_gt, EV.cmp_ge, EV.is_n, EV.is_b, EV.is_i, EV.is_s, EV.is_l, EV.is_t, EV.is_bb, EV.isn_n, EV.isn_b, EV.isn_i, EV.isn_s, EV.isn_l, EV.isn_t, EV.isn_bb, EV.tru_n, EV.tru_b, EV.tru_i, EV.tru_l, EV.tru_t, EV.biD, EV.idx_l, EV.idx_t, EV.cut_l, EV.cut_t, EV.seq_l, EV.seq_t, EV.zipD, EV.rngD, EV.enumD, EV.enzD, EV.tupW, EV.lstW, EV.rev_l, EV.rev_t, EV.thenS_nx, EV.thenS_rt, EV.thenS_ct, EV.thenS_exc, EV.hold_nil, EV.for_eq, EV.onS_some, EV.bindD_eq, EV.ite_okb, EV.lim, EV.zip_maps, EV.zip3_maps, EV.enum_maps, b31])
        (rw [hold_cons]; simp [EV.evSs, EV.evS, EV.evE, EV.evEs, EV.evAnd, EV.evOr, EV.evO, EV.evI, EV.evIfs, EV.R.bind, EV.R.fl, EV.R.of, EV.R.tst, EV.end_nx, EV.end_rd, EV.end_rn, EV.end_exc, EV.ret_d, EV.ret_nw, EV.ioNd, EV.iosOf, EV.den, EV.dens, EV.keep, EV.keeps, EV.args, EV.back, EV.outsOf, EV.stD, EV.bt_nm, EV.bt_tp, EV.bt_nil, EV.bt_cons, EV.wip, EV.ioOk, EV.parD, EV.putW, EV.augF, EV.binD, EV.same_cmp, EV.same_ne, EV.ints_shp, EV.ints_shpL, EV.cmp_ii, EV.cmp_ni, EV.cmp_ss, EV.cmp_ns, EV.cmp_bb, EV.cmp_nb, EV.cmp_lt, EV.cmp_le, EV.cmp_gt, EV.cmp_ge, EV.is_n, EV.is_b, EV.is_i, EV.is_s, EV.is_l, EV.is_t, EV.is_bb, EV.isn_n, EV.isn_b, EV.isn_i, EV.isn_s, EV.isn_l, EV.isn_t, EV.isn_bb, EV.tru_n, EV.tru_b, EV.tru_i, EV.tru_l, EV.tru_t, EV.biD, EV.idx_l, EV.idx_t, EV.cut_l, EV.cut_t, EV.seq_l, EV.seq_t, EV.zipD, EV.rngD, EV.enumD, EV.enzD, EV.tupW, EV.lstW, EV.rev_l, EV.rev_t, EV.thenS_nx, EV.thenS_rt, EV.thenS_ct, EV.thenS_exc, EV.hold_nil, EV.for_eq, EV.onS_some, EV.bindD_eq, EV.ite_okb, EV.lim, EV.zip_maps, EV.zip3_maps, EV.enum_maps, b31b, h3])
        exact hJ _ ⟨_, _, _, rfl⟩
      · rintro s1 ⟨v, x4, x5, rfl⟩
        (rw [hold_cons]; simp [EV.evSs, EV.evS, EV.evE, EV.evEs, EV.evAnd, EV.evOr, EV.evO, EV.evI, EV.evIfs, EV.R.bind, EV.R.fl, EV.R.of, EV.R.tst, EV.end_nx, EV.end_rd, EV.end_rn, EV.end_exc, EV.ret_d, EV.ret_nw, EV.ioNd, EV.iosOf, EV.den, EV.dens, EV.keep, EV.keeps, EV.args, EV.back, EV.outsOf, EV.stD, EV.bt_nm, EV.bt_tp, EV.bt_nil, EV.bt_cons, EV.wip, EV.ioOk, EV.parD, EV.putW, EV.augF, EV.binD, EV.same_cmp, EV.same_ne, EV.ints_shp, EV.ints_shpL, EV.cmp_ii, EV.cmp_ni, EV.cmp_ss, EV.cmp_ns, EV.cmp_bb, EV.cmp_nb, EV.cmp_lt, EV.cmp_le, EV.cmp_gt, EV.cmp_ge, EV.is_n, EV.is_b, EV.is_i, EV.is_s, EV.is_l, EV.is_t, EV.is_bb, EV.isn_n, EV.isn_b, EV.isn_i, EV.isn_s, EV.isn_l, EV.isn_t, EV.isn_bb, EV.tru_n, EV.tru_b, EV.tru_i, EV.tru_l, EV.tru_t, EV.biD, EV.idx_l, EV.idx_t, EV.cut_l, EV.cut_t, EV.seq_l, EV.seq_t, EV.zipD, EV.rngD, EV.enumD, EV.enzD, EV.tupW, EV.lstW, EV.rev_l, EV.rev_t, EV.thenS_nx, EV.thenS_rt, EV.thenS_ct, EV.thenS_exc, EV.hold_nil, EV.for_eq, EV.onS_some, EV.bindD_eq, EV.ite_okb, EV.lim, EV.zip_maps, EV.zip3_maps, EV.enum_maps])
  (rw [hold_cons]; simp [EV.evSs, EV.evS, EV.evE, EV.evEs, EV.evAnd, EV.evOr, EV.evO, EV.evI, EV.evIfs, EV.R.bind, EV.R.fl, EV.R.of, EV.R.tst, EV.end_nx, EV.end_rd, EV.end_rn, EV.end_exc, EV.ret_d, EV.ret_nw, EV.ioNd, EV.iosOf, EV.den, EV.dens, EV.keep, EV.keeps, EV.args, EV.back, EV.outsOf, EV.stD, EV.bt_nm, EV.bt_tp, EV.bt_nil, EV.bt_cons, EV.wip, EV.ioOk, EV.parD, EV.putW, EV.augF, EV.binD, EV.same_cmp, EV.same_ne, EV.ints_shp, EV.ints_shpL, EV.cmp_ii, EV.cmp_ni, EV.cmp_ss, EV.cmp_ns, EV.cmp_bb, EV.cmp_nb, EV.cmp_lt, EV.cmp_le, EV.cmp_gt, EV.cmp_ge, EV.is_n, EV.is_b, EV.is_i, EV.is_s, EV.is_l, EV.is_t, EV.is_bb, EV.isn_n, EV.isn_b, EV.isn_i, EV.isn_s, EV.isn_l, EV.isn_t, EV.isn_bb, EV.tru_n, EV.tru_b, EV.tru_i, EV.tru_l, EV.tru_t, EV.biD, EV.idx_l, EV.idx_t, EV.cut_l, EV.cut_t, EV.seq_l, EV.seq_t, EV.zipD, EV.rngD, EV.enumD, EV.enzD, EV.tupW, EV.lstW, EV.rev_l, EV.rev_t, EV.thenS_nx, EV.thenS_rt, EV.thenS_ct, EV.thenS_exc, EV.hold_nil, EV.for_eq, EV.onS_some, EV.bindD_eq, EV.ite_okb, EV.lim, EV.zip_maps, EV.zip3_maps, EV.enum_maps, h1])
  by_cases hk : (k : Int) < (ns.length : Int)
  · have e : atD (ns.map .int) (k : Int) = some (.int (ns.getD k 0)) := by
      rw [at_n, List.getElem?_map, List.getD_eq_getElem?_getD, List.getElem?_eq_getElem (by omega)]
      rfl
    (rw [hold_cons]; simp [EV.evSs, EV.evS, EV.evE, EV.evEs, EV.evAnd, EV.evOr, EV.evO, EV.evI, EV.evIfs, EV.R.bind, EV.R.fl, EV.R.of, EV.R.tst, EV.end_nx, EV.end_rd, EV.end_rn, EV.end_exc, EV.ret_d, EV.ret_nw, EV.ioNd, EV.iosOf, EV.den, EV.dens, EV.keep, EV.keeps, EV.args, EV.back, EV.outsOf, EV.stD, EV.bt_nm, EV.bt_tp, EV.bt_nil, EV.bt_cons, EV.wip, EV.ioOk, EV.parD, EV.putW, EV.augF, EV.binD, EV.same_cmp, EV.same_ne, EV.ints_shp, EV.ints_shpL, EV.cmp_ii, EV.cmp_ni, EV.cmp_ss, EV.cmp_ns, EV.cmp_bb, EV.cmp_nb, EV.cmp_lt, EV.cmp_le, EV.cmp_gt, EV.cmp_ge, EV.is_n, EV.is_b, EV.is_i, EV.is_s, EV.is_l, EV.is_t, EV.is_bb, EV.isn_n, EV.isn_b, EV.isn_i, EV.isn_s, EV.isn_l, EV.isn_t, EV.isn_bb, EV.tru_n, EV.tru_b, EV.tru_i, EV.tru_l, EV.tru_t, EV.biD, EV.idx_l, EV.idx_t, EV.cut_l, EV.cut_t, EV.seq_l, EV.seq_t, EV.zipD, EV.rngD, EV.enumD, EV.enzD, EV.tupW, EV.lstW, EV.rev_l, EV.rev_t, EV.thenS_nx, EV.thenS_rt, EV.thenS_ct, EV.thenS_exc, EV.hold_nil, EV.for_eq, EV.onS_some, EV.bindD_eq, EV.ite_okb, EV.lim, EV.zip_maps, EV.zip3_maps, EV.enum_maps, hk, e])
    exact key _
  · (rw [hold_cons]; simp [EV.evSs, EV.evS, EV.evE, EV.evEs, EV.evAnd, EV.evOr, EV.evO, EV.evI, EV.evIfs, EV.R.bind, EV.R.fl, EV.R.of, EV.R.tst, EV.end_nx, EV.end_rd, EV.end_rn, EV.end_exc, EV.ret_d, EV.ret_nw, EV.ioNd, EV.iosOf, EV.den, EV.dens, EV.keep, EV.keeps, EV.args, EV.back, EV.outsOf, EV.stD, EV.bt_nm, EV.bt_tp, EV.bt_nil, EV.bt_cons, EV.wip, EV.ioOk, EV.parD, EV.putW, EV.augF, EV.binD, EV.same_cmp, EV.same_ne, EV.ints_shp, EV.ints_shpL, EV.cmp_ii, EV.cmp_ni, EV.cmp_ss, EV.cmp_ns, EV.cmp_bb, EV.cmp_nb, EV.cmp_lt, EV.cmp_le, EV.cmp_gt, EV.cmp_ge, EV.is_n, EV.is_b, EV.is_i, EV.is_s, EV.is_l, EV.is_t, EV.is_bb, EV.isn_n, EV.isn_b, EV.isn_i, EV.isn_s, EV.isn_l, EV.isn_t, EV.isn_bb, EV.tru_n, EV.tru_b, EV.tru_i, EV.tru_l, EV.tru_t, EV.biD, EV.idx_l, EV.idx_t, EV.cut_l, EV.cut_t, EV.seq_l, EV.seq_t, EV.zipD, EV.rngD, EV.enumD, EV.enzD, EV.tupW, EV.lstW, EV.rev_l, EV.rev_t, EV.thenS_nx, EV.thenS_rt, EV.thenS_ct, EV.thenS_exc, EV.hold_nil, EV.for_eq, EV.onS_some, EV.bindD_eq, EV.ite_okb, EV.lim, EV.zip_maps, EV.zip3_maps, EV.enum_maps, hk])
    exact key _
theorem incr_snoc : ∀ (ws : List Int) (l m : Int), incr (ws ++ [l]) = true → l < m → incr (ws ++ [l] ++ [m]) = true
  | [], l, m, _, h => by simp [incr, h]
  | [a], l, m, h1, h => by
    simp [incr] at h1
    simp [incr, h, h1]
  | a :: b :: ws, l, m, h1, h => by
    simp only [List.cons_append, incr, Bool.and_eq_true] at h1
    have ih := incr_snoc (b :: ws) l m h1.2 h
    simp only [List.cons_append, incr, Bool.and_eq_true]
    exact ⟨h1.1, ih⟩
theorem bx_kindP (n : Nat) (p : Bx) (most : Int) (h : 0 < most) (h2 : most ≤ 8) (P : CR → Prop) (hP : ∀ (k : Kd) (q : Bx), (k.Ok ∧ k.full ≤ most) → P (.ok (.d k.e) [some (bE q), none])) : P (CC (n + 3) i_law_kind [bE p, .d (.int most)]) := by
  rw [u_law_kind _ _ _ rfl, b_law_kind, hold_eq]
  obtain ⟨f0, q1, hf, x1⟩ := bx_take n p most h (by omega)
  obtain ⟨v0, q2, hv, x2⟩ := bx_take n q1 200 (by omega) (by omega)
  have s62 : small62 (1 + f0) = true := by unfold small62; simp; omega
  (rw [hold_cons]; simp [EV.evSs, EV.evS, EV.evE, EV.evEs, EV.evAnd, EV.evOr, EV.evO, EV.evI, EV.evIfs, EV.R.bind, EV.R.fl, EV.R.of, EV.R.tst, EV.end_nx, EV.end_rd, EV.end_rn, EV.end_exc, EV.ret_d, EV.ret_nw, EV.ioNd, EV.iosOf, EV.den, EV.dens, EV.keep, EV.keeps, EV.args, EV.back, EV.outsOf, EV.stD, EV.bt_nm, EV.bt_tp, EV.bt_nil, EV.bt_cons, EV.wip, EV.ioOk, EV.parD, EV.putW, EV.augF, EV.binD, EV.same_cmp, EV.same_ne, EV.ints_shp, EV.ints_shpL, EV.cmp_ii, EV.cmp_ni, EV.cmp_ss, EV.cmp_ns, EV.cmp_bb, EV.cmp_nb, EV.cmp_lt, EV.cmp_le, EV.cmp_gt, EV.cmp_ge, EV.is_n, EV.is_b, EV.is_i, EV.is_s, EV.is_l, EV.is_t, EV.is_bb, EV.isn_n, EV.isn_b, EV.isn_i, EV.isn_s, EV.isn_l, EV.isn_t, EV.isn_bb, EV.tru_n, EV.tru_b, EV.tru_i, EV.tru_l, EV.tru_t, EV.biD, EV.idx_l, EV.idx_t, EV.cut_l, EV.cut_t, EV.seq_l, EV.seq_t, EV.zipD, EV.rngD, EV.enumD, EV.enzD, EV.tupW, EV.lstW, EV.rev_l, EV.rev_t, EV.thenS_nx, EV.thenS_rt, EV.thenS_ct, EV.thenS_exc, EV.hold_nil, EV.for_eq, EV.onS_some, EV.bindD_eq, EV.ite_okb, EV.lim, EV.zip_maps, EV.zip3_maps, EV.enum_maps, x1, x2])
  (rw [hold_cons]; simp [EV.evSs, EV.evS, EV.evE, EV.evEs, EV.evAnd, EV.evOr, EV.evO, EV.evI, EV.evIfs, EV.R.bind, EV.R.fl, EV.R.of, EV.R.tst, EV.end_nx, EV.end_rd, EV.end_rn, EV.end_exc, EV.ret_d, EV.ret_nw, EV.ioNd, EV.iosOf, EV.den, EV.dens, EV.keep, EV.keeps, EV.args, EV.back, EV.outsOf, EV.stD, EV.bt_nm, EV.bt_tp, EV.bt_nil, EV.bt_cons, EV.wip, EV.ioOk, EV.parD, EV.putW, EV.augF, EV.binD, EV.same_cmp, EV.same_ne, EV.ints_shp, EV.ints_shpL, EV.cmp_ii, EV.cmp_ni, EV.cmp_ss, EV.cmp_ns, EV.cmp_bb, EV.cmp_nb, EV.cmp_lt, EV.cmp_le, EV.cmp_gt, EV.cmp_ge, EV.is_n, EV.is_b, EV.is_i, EV.is_s, EV.is_l, EV.is_t, EV.is_bb, EV.isn_n, EV.isn_b, EV.isn_i, EV.isn_s, EV.isn_l, EV.isn_t, EV.isn_bb, EV.tru_n, EV.tru_b, EV.tru_i, EV.tru_l, EV.tru_t, EV.biD, EV.idx_l, EV.idx_t, EV.cut_l, EV.cut_t, EV.seq_l, EV.seq_t, EV.zipD, EV.rngD, EV.enumD, EV.enzD, EV.tupW, EV.lstW, EV.rev_l, EV.rev_t, EV.thenS_nx, EV.thenS_rt, EV.thenS_ct, EV.thenS_exc, EV.hold_nil, EV.for_eq, EV.onS_some, EV.bindD_eq, EV.ite_okb, EV.lim, EV.zip_maps, EV.zip3_maps, EV.enum_maps, l_law_kind_0, s62])
  have rl : (rngL 0 (1 + f0).toNat).length = (1 + f0).toNat := rngL_len
  refine forL_lst (Z := fun z => P (endCR [bE p, .d (.int most)] z)) (fun rest s1 => (∀ x ∈ rest, ∃ j, x = .int j) ∧ ∃ ws l q x4, ws.length + rest.length = (1 + f0).toNat ∧ incr (ws ++ [l]) = true ∧ (∀ v ∈ ws ++ [l], 0 ≤ v ∧ v ≤ 199 + 40 * (ws.length : Int)) ∧ (ws ++ [l])[0]? = some v0 ∧ v0 ≤ l ∧
    s1 = [some (bE q), some (.d (.int most)), some (.d (.int (1 + f0))), some (.own (ws.map .int ++ [.int l])), x4, none, none, none]) ?_ ?_ _ _ ⟨?_, [], v0, q2, _, ?_, rfl, by simp; omega, rfl, Int.le_refl _, rfl⟩
  · rintro x rest s1 J Z hJ hZ ⟨hx, ws, l, q, x4, hlen, hi, hb, h0, hle, rfl⟩
    obtain ⟨c, q3, hc, x3⟩ := bx_take n q 2 (by omega) (by omega)
    obtain ⟨w, hw, hat⟩ : ∃ w : Int, (0 < w ∧ w ≤ 40) ∧ atD [PyData.int 3, .int 40] c = some (.int w) := by
      have : c = 0 ∨ c = 1 := by omega
      rcases this with rfl | rfl
      · exact ⟨3, by omega, rfl⟩
      · exact ⟨40, by omega, rfl⟩
    obtain ⟨d, q4, hd, x5⟩ := bx_take n q3 w hw.1 (by omega)
    have la := at_last (ws.map PyData.int) (.int l)
    simp only [List.length_cons] at hlen
    have hz : ws.length + 1 < 16777216 := by omega
    simp [EV.evSs, EV.evS, EV.evE, EV.evEs, EV.evAnd, EV.evOr, EV.evO, EV.evI, EV.evIfs, EV.R.bind, EV.R.fl, EV.R.of, EV.R.tst, EV.end_nx, EV.end_rd, EV.end_rn, EV.end_exc, EV.ret_d, EV.ret_nw, EV.ioNd, EV.iosOf, EV.den, EV.dens, EV.keep, EV.keeps, EV.args, EV.back, EV.outsOf, EV.stD, EV.bt_nm, EV.bt_tp, EV.bt_nil, EV.bt_cons, EV.wip, EV.ioOk, EV.parD, EV.putW, EV.augF, EV.binD, EV.same_cmp, EV.same_ne, EV.ints_shp, EV.ints_shpL, EV.cmp_ii, EV.cmp_ni, EV.cmp_ss, EV.cmp_ns, EV.cmp_bb, EV.cmp_nb, EV.cmp_lt, EV.cmp_le, EV.cmp_gt, EV.cmp_ge, EV.is_n, EV.is_b, EV.is_i, EV.is_s, EV.is_l, EV.is_t, EV.is_bb, EV.isn_n, EV.isn_b, EV.isn_i, EV.isn_s, EV.isn_l, EV.isn_t, EV.isn_bb, EV.tru_n, EV.tru_b, EV.tru_i, EV.tru_l, EV.tru_t, EV.biD, EV.idx_l, EV.idx_t, EV.cut_l, EV.cut_t, EV.seq_l, EV.seq_t, EV.zipD, EV.rngD, EV.enumD, EV.enzD, EV.tupW, EV.lstW, EV.rev_l, EV.rev_t, EV.thenS_nx, EV.thenS_rt, EV.thenS_ct, EV.thenS_exc, EV.hold_nil, EV.for_eq, EV.onS_some, EV.bindD_eq, EV.ite_okb, EV.lim, EV.zip_maps, EV.zip3_maps, EV.enum_maps, l_law_kind_0b]
    (rw [hold_cons]; simp [EV.evSs, EV.evS, EV.evE, EV.evEs, EV.evAnd, EV.evOr, EV.evO, EV.evI, EV.evIfs, EV.R.bind, EV.R.fl, EV.R.of, EV.R.tst, EV.end_nx, EV.end_rd, EV.end_rn, EV.end_exc, EV.ret_d, EV.ret_nw, EV.ioNd, EV.iosOf, EV.den, EV.dens, EV.keep, EV.keeps, EV.args, EV.back, EV.outsOf, EV.stD, EV.bt_nm, EV.bt_tp, EV.bt_nil, EV.bt_cons, EV.wip, EV.ioOk, EV.parD, EV.putW, EV.augF, EV.binD, EV.same_cmp, EV.same_ne, EV.ints_shp, EV.ints_shpL, EV.cmp_ii, EV.cmp_ni, EV.cmp_ss, EV.cmp_ns, EV.cmp_bb, EV.cmp_nb, EV.cmp_lt, EV.cmp_le, EV.cmp_gt, EV.cmp_ge, EV.is_n, EV.is_b, EV.is_i, EV.is_s, EV.is_l, EV.is_t, EV.is_bb, EV.isn_n, EV.isn_b, EV.isn_i, EV.isn_s, EV.isn_l, EV.isn_t, EV.isn_bb, EV.tru_n, EV.tru_b, EV.tru_i, EV.tru_l, EV.tru_t, EV.biD, EV.idx_l, EV.idx_t, EV.cut_l, EV.cut_t, EV.seq_l, EV.seq_t, EV.zipD, EV.rngD, EV.enumD, EV.enzD, EV.tupW, EV.lstW, EV.rev_l, EV.rev_t, EV.thenS_nx, EV.thenS_rt, EV.thenS_ct, EV.thenS_exc, EV.hold_nil, EV.for_eq, EV.onS_some, EV.bindD_eq, EV.ite_okb, EV.lim, EV.zip_maps, EV.zip3_maps, EV.enum_maps, la, x3, hat, x5, hz])
    refine hJ _ ⟨fun y hy => hx y (List.mem_cons_of_mem _ hy), ws ++ [l], l + 1 + d, q4, some (.d x), ?_, incr_snoc ws l _ hi (by omega), fun v hv => ?_, ?_, by omega, ?_⟩
    · rw [List.length_append, List.length_cons, List.length_nil]; omega
    · rw [List.length_append, List.length_cons, List.length_nil]
      rcases List.mem_append.mp hv with hv | hv
      · have := hb v hv
        omega
      · simp only [List.mem_cons, List.not_mem_nil, or_false] at hv
        have := hb l (by simp)
        omega
    · rw [List.getElem?_append_left (by simp)]
      exact h0
    · simp
  · rintro s1 ⟨_, ws, l, q, x4, hlen, hi, hb, h0, hle, rfl⟩
    simp only [List.length_nil, Nat.add_zero] at hlen
    obtain ⟨t1, q3, ht1, y1⟩ := bx_take n q 20 (by omega) (by omega)
    obtain ⟨c1, q4, hc1, y2⟩ := bx_take n q3 4 (by omega) (by omega)
    obtain ⟨t2, q5, ht2, y3⟩ := bx_take n q4 20 (by omega) (by omega)
    obtain ⟨c2, q6, hc2, y4⟩ := bx_take n q5 4 (by omega) (by omega)
    obtain ⟨t3, q7, ht3, y5⟩ := bx_take n q6 4 (by omega) (by omega)
    obtain ⟨t4, q8, ht4, y6⟩ := bx_take n q7 51 (by omega) (by omega)
    obtain ⟨c3, q9, hc3, y7⟩ := bx_take n q8 4 (by omega) (by omega)
    obtain ⟨o, q10, ho, y8⟩ := bx_take n q9 4 (by omega) (by omega)
    obtain ⟨b, q11, hbk, y9⟩ := bx_take n q10 5 (by omega) (by omega)
    have bl := hb l (by simp)
    have la := at_last (ws.map PyData.int) (.int l)
    have a0 : atD (ws.map PyData.int ++ [.int l]) 0 = some (.int v0) := by
      have := at_n (ws.map PyData.int ++ [.int l]) 0
      rw [show ((0 : Nat) : Int) = 0 from rfl, show ws.map PyData.int ++ [.int l] = (ws ++ [l]).map .int by simp, List.getElem?_map, h0] at this
      rw [show ws.map PyData.int ++ [.int l] = (ws ++ [l]).map .int by simp]
      exact this
    obtain ⟨low, hlow, al⟩ : ∃ low : Int, (0 ≤ low ∧ low ≤ v0) ∧ atD [PyData.int 0, .int 0, .int v0, .int (max 0 (v0 - t1))] c1 = some (.int low) := by
      have : c1 = 0 ∨ c1 = 1 ∨ c1 = 2 ∨ c1 = 3 := by omega
      rcases this with rfl | rfl | rfl | rfl
      · exact ⟨0, by omega, rfl⟩
      · exact ⟨0, by omega, rfl⟩
      · exact ⟨v0, by omega, rfl⟩
      · exact ⟨max 0 (v0 - t1), by omega, rfl⟩
    have wl : (ws.length : Int) = 1 + f0 := by omega
    obtain ⟨high, hhigh, ah⟩ : ∃ high : Int, (l ≤ high ∧ high ≤ 900) ∧ atD [PyData.int 900, .int 900, .int l, .int (min 900 (l + t2))] c2 = some (.int high) := by
      have : c2 = 0 ∨ c2 = 1 ∨ c2 = 2 ∨ c2 = 3 := by omega
      rcases this with rfl | rfl | rfl | rfl
      · exact ⟨900, by omega, rfl⟩
      · exact ⟨900, by omega, rfl⟩
      · exact ⟨l, by omega, rfl⟩
      · exact ⟨min 900 (l + t2), by omega, rfl⟩
    obtain ⟨loss, hloss, as⟩ : ∃ loss : Int, (0 ≤ loss ∧ loss ≤ 50) ∧ atD [PyData.int t3, .int t4] (c3 / 3) = some (.int loss) := by
      have : c3 / 3 = 0 ∨ c3 / 3 = 1 := by omega
      rcases this with e | e
      · rw [e]; exact ⟨t3, by omega, rfl⟩
      · rw [e]; exact ⟨t4, by omega, rfl⟩
    (rw [hold_cons]; simp [EV.evSs, EV.evS, EV.evE, EV.evEs, EV.evAnd, EV.evOr, EV.evO, EV.evI, EV.evIfs, EV.R.bind, EV.R.fl, EV.R.of, EV.R.tst, EV.end_nx, EV.end_rd, EV.end_rn, EV.end_exc, EV.ret_d, EV.ret_nw, EV.ioNd, EV.iosOf, EV.den, EV.dens, EV.keep, EV.keeps, EV.args, EV.back, EV.outsOf, EV.stD, EV.bt_nm, EV.bt_tp, EV.bt_nil, EV.bt_cons, EV.wip, EV.ioOk, EV.parD, EV.putW, EV.augF, EV.binD, EV.same_cmp, EV.same_ne, EV.ints_shp, EV.ints_shpL, EV.cmp_ii, EV.cmp_ni, EV.cmp_ss, EV.cmp_ns, EV.cmp_bb, EV.cmp_nb, EV.cmp_lt, EV.cmp_le, EV.cmp_gt, EV.cmp_ge, EV.is_n, EV.is_b, EV.is_i, EV.is_s, EV.is_l, EV.is_t, EV.is_bb, EV.isn_n, EV.isn_b, EV.isn_i, EV.isn_s, EV.isn_l, EV.isn_t, EV.isn_bb, EV.tru_n, EV.tru_b, EV.tru_i, EV.tru_l, EV.tru_t, EV.biD, EV.idx_l, EV.idx_t, EV.cut_l, EV.cut_t, EV.seq_l, EV.seq_t, EV.zipD, EV.rngD, EV.enumD, EV.enzD, EV.tupW, EV.lstW, EV.rev_l, EV.rev_t, EV.thenS_nx, EV.thenS_rt, EV.thenS_ct, EV.thenS_exc, EV.hold_nil, EV.for_eq, EV.onS_some, EV.bindD_eq, EV.ite_okb, EV.lim, EV.zip_maps, EV.zip3_maps, EV.enum_maps, a0, y1, y2, al])
    (rw [hold_cons]; simp [EV.evSs, EV.evS, EV.evE, EV.evEs, EV.evAnd, EV.evOr, EV.evO, EV.evI, EV.evIfs, EV.R.bind, EV.R.fl, EV.R.of, EV.R.tst, EV.end_nx, EV.end_rd, EV.end_rn, EV.end_exc, EV.ret_d, EV.ret_nw, EV.ioNd, EV.iosOf, EV.den, EV.dens, EV.keep, EV.keeps, EV.args, EV.back, EV.outsOf, EV.stD, EV.bt_nm, EV.bt_tp, EV.bt_nil, EV.bt_cons, EV.wip, EV.ioOk, EV.parD, EV.putW, EV.augF, EV.binD, EV.same_cmp, EV.same_ne, EV.ints_shp, EV.ints_shpL, EV.cmp_ii, EV.cmp_ni, EV.cmp_ss, EV.cmp_ns, EV.cmp_bb, EV.cmp_nb, EV.cmp_lt, EV.cmp_le, EV.cmp_gt, EV.cmp_ge, EV.is_n, EV.is_b, EV.is_i, EV.is_s, EV.is_l, EV.is_t, EV.is_bb, EV.isn_n, EV.isn_b, EV.isn_i, EV.isn_s, EV.isn_l, EV.isn_t, EV.isn_bb, EV.tru_n, EV.tru_b, EV.tru_i, EV.tru_l, EV.tru_t, EV.biD, EV.idx_l, EV.idx_t, EV.cut_l, EV.cut_t, EV.seq_l, EV.seq_t, EV.zipD, EV.rngD, EV.enumD, EV.enzD, EV.tupW, EV.lstW, EV.rev_l, EV.rev_t, EV.thenS_nx, EV.thenS_rt, EV.thenS_ct, EV.thenS_exc, EV.hold_nil, EV.for_eq, EV.onS_some, EV.bindD_eq, EV.ite_okb, EV.lim, EV.zip_maps, EV.zip3_maps, EV.enum_maps, la, y3, y4, ah])
    (rw [hold_cons]; simp [EV.evSs, EV.evS, EV.evE, EV.evEs, EV.evAnd, EV.evOr, EV.evO, EV.evI, EV.evIfs, EV.R.bind, EV.R.fl, EV.R.of, EV.R.tst, EV.end_nx, EV.end_rd, EV.end_rn, EV.end_exc, EV.ret_d, EV.ret_nw, EV.ioNd, EV.iosOf, EV.den, EV.dens, EV.keep, EV.keeps, EV.args, EV.back, EV.outsOf, EV.stD, EV.bt_nm, EV.bt_tp, EV.bt_nil, EV.bt_cons, EV.wip, EV.ioOk, EV.parD, EV.putW, EV.augF, EV.binD, EV.same_cmp, EV.same_ne, EV.ints_shp, EV.ints_shpL, EV.cmp_ii, EV.cmp_ni, EV.cmp_ss, EV.cmp_ns, EV.cmp_bb, EV.cmp_nb, EV.cmp_lt, EV.cmp_le, EV.cmp_gt, EV.cmp_ge, EV.is_n, EV.is_b, EV.is_i, EV.is_s, EV.is_l, EV.is_t, EV.is_bb, EV.isn_n, EV.isn_b, EV.isn_i, EV.isn_s, EV.isn_l, EV.isn_t, EV.isn_bb, EV.tru_n, EV.tru_b, EV.tru_i, EV.tru_l, EV.tru_t, EV.biD, EV.idx_l, EV.idx_t, EV.cut_l, EV.cut_t, EV.seq_l, EV.seq_t, EV.zipD, EV.rngD, EV.enumD, EV.enzD, EV.tupW, EV.lstW, EV.rev_l, EV.rev_t, EV.thenS_nx, EV.thenS_rt, EV.thenS_ct, EV.thenS_exc, EV.hold_nil, EV.for_eq, EV.onS_some, EV.bindD_eq, EV.ite_okb, EV.lim, EV.zip_maps, EV.zip3_maps, EV.enum_maps, y5, y6, y7, as])
    (rw [hold_cons]; simp [EV.evSs, EV.evS, EV.evE, EV.evEs, EV.evAnd, EV.evOr, EV.evO, EV.evI, EV.evIfs, EV.R.bind, EV.R.fl, EV.R.of, EV.R.tst, EV.end_nx, EV.end_rd, EV.end_rn, EV.end_exc, EV.ret_d, EV.ret_nw, EV.ioNd, EV.iosOf, EV.den, EV.dens, EV.keep, EV.keeps, EV.args, EV.back, EV.outsOf, EV.stD, EV.bt_nm, EV.bt_tp, EV.bt_nil, EV.bt_cons, EV.wip, EV.ioOk, EV.parD, EV.putW, EV.augF, EV.binD, EV.same_cmp, EV.same_ne, EV.ints_shp, EV.ints_shpL, EV.cmp_ii, EV.cmp_ni, EV.cmp_ss, EV.cmp_ns, EV.cmp_bb, EV.cmp_nb, EV.cmp_lt, EV.cmp_le, EV.cmp_gt, EV.cmp_ge, EV.is_n, EV.is_b, EV.is_i, EV.is_s, EV.is_l, EV.is_t, EV.is_bb, EV.isn_n, EV.isn_b, EV.isn_i, EV.isn_s, EV.isn_l, EV.isn_t, EV.isn_bb, EV.tru_n, EV.tru_b, EV.tru_i, EV.tru_l, EV.tru_t, EV.biD, EV.idx_l, EV.idx_t, EV.cut_l, EV.cut_t, EV.seq_l, EV.seq_t, EV.zipD, EV.rngD, EV.enumD, EV.enzD, EV.tupW, EV.lstW, EV.rev_l, EV.rev_t, EV.thenS_nx, EV.thenS_rt, EV.thenS_ct, EV.thenS_exc, EV.hold_nil, EV.for_eq, EV.onS_some, EV.bindD_eq, EV.ite_okb, EV.lim, EV.zip_maps, EV.zip3_maps, EV.enum_maps, y8, y9])
    have := hP ⟨1 + f0, ws ++ [l], loss, low, high, 1 + o, b⟩ q11 (by
      refine ⟨⟨?_, ?_, ?_, ?_, hi, ?_, ?_, ?_, ?_, ?_, ?_, ?_, ?_, ?_⟩, ?_⟩ <;> simp only <;> first
        | omega
        | (simp; omega)
        | (intro v hv; have := hb v hv; omega))
    simpa [Kd.e] using this
  · intro x hx
    unfold rngL at hx
    obtain ⟨j, _, rfl⟩ := List.mem_map.mp hx
    exact ⟨_, rfl⟩
  · rw [rl]; simp
theorem bx_kind (n : Nat) (p : Bx) (most : Int) (h : 0 < most) (h2 : most ≤ 8) : ∃ (k : Kd) (q : Bx), (k.Ok ∧ k.full ≤ most) ∧ CC (n + 3) i_law_kind [bE p, .d (.int most)] = .ok (.d k.e) [some (bE q), none] :=
  bx_kindP n p most h h2 (fun r => ∃ (k : Kd) (q : Bx), (k.Ok ∧ k.full ≤ most) ∧ r = .ok (.d k.e) [some (bE q), none]) fun k q o => ⟨k, q, o, rfl⟩
theorem bx_row (n : Nat) (p : Bx) : ∃ (r : List Kd) (q : Bx), RowOk r ∧ CC (n + 4) i_law_row [bE p] = .ok (.d (rowE r)) [some (bE q)] := by
  obtain ⟨c, q1, hc, x1⟩ := bx_take (n + 1) p 5 (by omega) (by omega)
  obtain ⟨m, hm, e1⟩ : ∃ m : Int, (0 ≤ m ∧ m < 3) ∧ c / 2 = m := ⟨c / 2, by omega, rfl⟩
  obtain ⟨mo, hmo, a1, hmany⟩ : ∃ mo : Int, (0 < mo ∧ mo ≤ 8) ∧ atD [PyData.int 7, .int 3, .int 2] m = some (.int mo) ∧ cnt mo ^ (1 + m).toNat ≤ 300 := by
    have : m = 0 ∨ m = 1 ∨ m = 2 := by omega
    rcases this with rfl | rfl | rfl
    · exact ⟨7, by omega, rfl, by decide +kernel⟩
    · exact ⟨3, by omega, rfl, by decide +kernel⟩
    · exact ⟨2, by omega, rfl, by decide +kernel⟩
  obtain ⟨F, hF⟩ := Classical.axiomOfChoice (r := fun (p : Bx) (y : Kd × Bx) => (y.1.Ok ∧ y.1.full ≤ mo) ∧ CC (n + 3) i_law_kind [bE p, .d (.int mo)] = .ok (.d y.1.e) [some (bE y.2), none]) fun p => by
    obtain ⟨k, q, h1, h2⟩ := bx_kind n p mo hmo.1 hmo.2
    exact ⟨(k, q), h1, h2⟩
  let S (p : Bx) : Sl := [some (bE p), some (.d (.int (1 + m))), some (.d (.int mo)), none]
  have s62 : small62 (1 + m) = true := by unfold small62; simp; omega
  have hq : evE gm.G (CC (n + 3)) q_law_row_0 (S q1) = .ok (.nw ((runS (fun p (_ : Nat) => F p) q1 (List.range (1 + m).toNat)).1.map Kd.e)) (S (runS (fun p (_ : Nat) => F p) q1 (List.range (1 + m).toNat)).2) :=
    comp_st (List.range (1 + m).toNat) (fun j : Nat => .int (j : Int)) Kd.e S (fun p _ => F p) q1 (by simp [EV.evSs, EV.evS, EV.evE, EV.evEs, EV.evAnd, EV.evOr, EV.evO, EV.evI, EV.evIfs, EV.R.bind, EV.R.fl, EV.R.of, EV.R.tst, EV.end_nx, EV.end_rd, EV.end_rn, EV.end_exc, EV.ret_d, EV.ret_nw, EV.ioNd, EV.iosOf, EV.den, EV.dens, EV.keep, EV.keeps, EV.args, EV.back, EV.outsOf, EV.stD, EV.bt_nm, EV.bt_tp, EV.bt_nil, EV.bt_cons, EV.wip, EV.ioOk, EV.parD, EV.putW, EV.augF, EV.binD, EV.same_cmp, EV.same_ne, EV.ints_shp, EV.ints_shpL, EV.cmp_ii, EV.cmp_ni, EV.cmp_ss, EV.cmp_ns, EV.cmp_bb, EV.cmp_nb, EV.cmp_lt, EV.cmp_le, EV.cmp_gt, EV.cmp_ge, EV.is_n, EV.is_b, EV.is_i, EV.is_s, EV.is_l, EV.is_t, EV.is_bb, EV.isn_n, EV.isn_b, EV.isn_i, EV.isn_s, EV.isn_l, EV.isn_t, EV.isn_bb, EV.tru_n, EV.tru_b, EV.tru_i, EV.tru_l, EV.tru_t, EV.biD, EV.idx_l, EV.idx_t, EV.cut_l, EV.cut_t, EV.seq_l, EV.seq_t, EV.zipD, EV.rngD, EV.enumD, EV.enzD, EV.tupW, EV.lstW, EV.rev_l, EV.rev_t, EV.thenS_nx, EV.thenS_rt, EV.thenS_ct, EV.thenS_exc, EV.hold_nil, EV.for_eq, EV.onS_some, EV.bindD_eq, EV.ite_okb, EV.lim, EV.zip_maps, EV.zip3_maps, EV.enum_maps, S, rng0, s62]) (fun p => rfl) (by simp; omega) fun p x _ => by
      have := (hF p).2
      simp [EV.evSs, EV.evS, EV.evE, EV.evEs, EV.evAnd, EV.evOr, EV.evO, EV.evI, EV.evIfs, EV.R.bind, EV.R.fl, EV.R.of, EV.R.tst, EV.end_nx, EV.end_rd, EV.end_rn, EV.end_exc, EV.ret_d, EV.ret_nw, EV.ioNd, EV.iosOf, EV.den, EV.dens, EV.keep, EV.keeps, EV.args, EV.back, EV.outsOf, EV.stD, EV.bt_nm, EV.bt_tp, EV.bt_nil, EV.bt_cons, EV.wip, EV.ioOk, EV.parD, EV.putW, EV.augF, EV.binD, EV.same_cmp, EV.same_ne, EV.ints_shp, EV.ints_shpL, EV.cmp_ii, EV.cmp_ni, EV.cmp_ss, EV.cmp_ns, EV.cmp_bb, EV.cmp_nb, EV.cmp_lt, EV.cmp_le, EV.cmp_gt, EV.cmp_ge, EV.is_n, EV.is_b, EV.is_i, EV.is_s, EV.is_l, EV.is_t, EV.is_bb, EV.isn_n, EV.isn_b, EV.isn_i, EV.isn_s, EV.isn_l, EV.isn_t, EV.isn_bb, EV.tru_n, EV.tru_b, EV.tru_i, EV.tru_l, EV.tru_t, EV.biD, EV.idx_l, EV.idx_t, EV.cut_l, EV.cut_t, EV.seq_l, EV.seq_t, EV.zipD, EV.rngD, EV.enumD, EV.enzD, EV.tupW, EV.lstW, EV.rev_l, EV.rev_t, EV.thenS_nx, EV.thenS_rt, EV.thenS_ct, EV.thenS_exc, EV.hold_nil, EV.for_eq, EV.onS_some, EV.bindD_eq, EV.ite_okb, EV.lim, EV.zip_maps, EV.zip3_maps, EV.enum_maps, S, turnC, this]
  have ks : ∀ k ∈ (runS (fun p (_ : Nat) => F p) q1 (List.range (1 + m).toNat)).1, k.Ok ∧ k.full ≤ mo := runS_all (R := fun k : Kd => k.Ok ∧ k.full ≤ mo) (fun q x => (hF q).1) _ _
  have ln : (runS (fun p (_ : Nat) => F p) q1 (List.range (1 + m).toNat)).1.length = (1 + m).toNat := by rw [runS_len, List.length_range]
  generalize (runS (fun p (_ : Nat) => F p) q1 (List.range (1 + m).toNat)).1 = r at hq ks ln
  generalize (runS (fun p (_ : Nat) => F p) q1 (List.range (1 + m).toNat)).2 = q2 at hq
  refine ⟨r, q2, ⟨fun k hk => (ks k hk).1, by omega, by omega, ?_⟩, ?_⟩
  · have h := many_le r 1 (cnt mo) (by omega) (fun k hk => cnt_by (ks k hk).1.f1 (ks k hk).2 hmo.2) (cnt_by (f := mo) hmo.1 (Int.le_refl _) hmo.2).1
    refine Int.le_trans h.2 ?_
    rw [ln, Int.one_mul]
    exact hmany
  · rw [u_law_row _ _ rfl, b_law_row, hold_eq]
    have e2 : (1 + m - 1 : Int) = m := by omega
    have e3 : 0 < (2 : Int) ∧ (2 : Int) < 1073741824 := by omega
    simp only [S] at hq
    (rw [hold_cons]; simp [EV.evSs, EV.evS, EV.evE, EV.evEs, EV.evAnd, EV.evOr, EV.evO, EV.evI, EV.evIfs, EV.R.bind, EV.R.fl, EV.R.of, EV.R.tst, EV.end_nx, EV.end_rd, EV.end_rn, EV.end_exc, EV.ret_d, EV.ret_nw, EV.ioNd, EV.iosOf, EV.den, EV.dens, EV.keep, EV.keeps, EV.args, EV.back, EV.outsOf, EV.stD, EV.bt_nm, EV.bt_tp, EV.bt_nil, EV.bt_cons, EV.wip, EV.ioOk, EV.parD, EV.putW, EV.augF, EV.binD, EV.same_cmp, EV.same_ne, EV.ints_shp, EV.ints_shpL, EV.cmp_ii, EV.cmp_ni, EV.cmp_ss, EV.cmp_ns, EV.cmp_bb, EV.cmp_nb, EV.cmp_lt, EV.cmp_le, EV.cmp_gt, EV.cmp_ge, EV.is_n, EV.is_b, EV.is_i, EV.is_s, EV.is_l, EV.is_t, EV.is_bb, EV.isn_n, EV.isn_b, EV.isn_i, EV.isn_s, EV.isn_l, EV.isn_t, EV.isn_bb, EV.tru_n, EV.tru_b, EV.tru_i, EV.tru_l, EV.tru_t, EV.biD, EV.idx_l, EV.idx_t, EV.cut_l, EV.cut_t, EV.seq_l, EV.seq_t, EV.zipD, EV.rngD, EV.enumD, EV.enzD, EV.tupW, EV.lstW, EV.rev_l, EV.rev_t, EV.thenS_nx, EV.thenS_rt, EV.thenS_ct, EV.thenS_exc, EV.hold_nil, EV.for_eq, EV.onS_some, EV.bindD_eq, EV.ite_okb, EV.lim, EV.zip_maps, EV.zip3_maps, EV.enum_maps, x1, e1])
    (rw [hold_cons]; simp [EV.evSs, EV.evS, EV.evE, EV.evEs, EV.evAnd, EV.evOr, EV.evO, EV.evI, EV.evIfs, EV.R.bind, EV.R.fl, EV.R.of, EV.R.tst, EV.end_nx, EV.end_rd, EV.end_rn, EV.end_exc, EV.ret_d, EV.ret_nw, EV.ioNd, EV.iosOf, EV.den, EV.dens, EV.keep, EV.keeps, EV.args, EV.back, EV.outsOf, EV.stD, EV.bt_nm, EV.bt_tp, EV.bt_nil, EV.bt_cons, EV.wip, EV.ioOk, EV.parD, EV.putW, EV.augF, EV.binD, EV.same_cmp, EV.same_ne, EV.ints_shp, EV.ints_shpL, EV.cmp_ii, EV.cmp_ni, EV.cmp_ss, EV.cmp_ns, EV.cmp_bb, EV.cmp_nb, EV.cmp_lt, EV.cmp_le, EV.cmp_gt, EV.cmp_ge, EV.is_n, EV.is_b, EV.is_i, EV.is_s, EV.is_l, EV.is_t, EV.is_bb, EV.isn_n, EV.isn_b, EV.isn_i, EV.isn_s, EV.isn_l, EV.isn_t, EV.isn_bb, EV.tru_n, EV.tru_b, EV.tru_i, EV.tru_l, EV.tru_t, EV.biD, EV.idx_l, EV.idx_t, EV.cut_l, EV.cut_t, EV.seq_l, EV.seq_t, EV.zipD, EV.rngD, EV.enumD, EV.enzD, EV.tupW, EV.lstW, EV.rev_l, EV.rev_t, EV.thenS_nx, EV.thenS_rt, EV.thenS_ct, EV.thenS_exc, EV.hold_nil, EV.for_eq, EV.onS_some, EV.bindD_eq, EV.ite_okb, EV.lim, EV.zip_maps, EV.zip3_maps, EV.enum_maps, e2, a1])
    (rw [hold_cons]; simp [EV.evSs, EV.evS, EV.evE, EV.evEs, EV.evAnd, EV.evOr, EV.evO, EV.evI, EV.evIfs, EV.R.bind, EV.R.fl, EV.R.of, EV.R.tst, EV.end_nx, EV.end_rd, EV.end_rn, EV.end_exc, EV.ret_d, EV.ret_nw, EV.ioNd, EV.iosOf, EV.den, EV.dens, EV.keep, EV.keeps, EV.args, EV.back, EV.outsOf, EV.stD, EV.bt_nm, EV.bt_tp, EV.bt_nil, EV.bt_cons, EV.wip, EV.ioOk, EV.parD, EV.putW, EV.augF, EV.binD, EV.same_cmp, EV.same_ne, EV.ints_shp, EV.ints_shpL, EV.cmp_ii, EV.cmp_ni, EV.cmp_ss, EV.cmp_ns, EV.cmp_bb, EV.cmp_nb, EV.cmp_lt, EV.cmp_le, EV.cmp_gt, EV.cmp_ge, EV.is_n, EV.is_b, EV.is_i, EV.is_s, EV.is_l, EV.is_t, EV.is_bb, EV.isn_n, EV.isn_b, EV.isn_i, EV.isn_s, EV.isn_l, EV.isn_t, EV.isn_bb, EV.tru_n, EV.tru_b, EV.tru_i, EV.tru_l, EV.tru_t, EV.biD, EV.idx_l, EV.idx_t, EV.cut_l, EV.cut_t, EV.seq_l, EV.seq_t, EV.zipD, EV.rngD, EV.enumD, EV.enzD, EV.tupW, EV.lstW, EV.rev_l, EV.rev_t, EV.thenS_nx, EV.thenS_rt, EV.thenS_ct, EV.thenS_exc, EV.hold_nil, EV.for_eq, EV.onS_some, EV.bindD_eq, EV.ite_okb, EV.lim, EV.zip_maps, EV.zip3_maps, EV.enum_maps, hq])
theorem st_snoc {r : List Kd} {s : List Cell} {k : Kd} {c : Cell} (h : StOk r s) (hc : CellOk k c) : StOk (r ++ [k]) (s ++ [c]) := by
  refine ⟨by simp [h.len], fun p hp => ?_⟩
  rw [List.zip_append h.len.symm] at hp
  rcases List.mem_append.mp hp with hp | hp
  · exact h.ok p hp
  · simp at hp
    rw [hp]
    exact hc
theorem bx_standP (n : Nat) (p : Bx) (r : List Kd) (hr : RowOk r) (P : CR → Prop) (hP : ∀ (s : List Cell) (q : Bx), StOk r s → P (.ok (.d (stE s)) [some (bE q), none])) : P (CC (n + 3) i_law_stand [bE p, .d (rowE r)]) := by
  rw [u_law_stand _ _ _ rfl, b_law_stand, hold_eq]
  (rw [hold_cons]; simp [EV.evSs, EV.evS, EV.evE, EV.evEs, EV.evAnd, EV.evOr, EV.evO, EV.evI, EV.evIfs, EV.R.bind, EV.R.fl, EV.R.of, EV.R.tst, EV.end_nx, EV.end_rd, EV.end_rn, EV.end_exc, EV.ret_d, EV.ret_nw, EV.ioNd, EV.iosOf, EV.den, EV.dens, EV.keep, EV.keeps, EV.args, EV.back, EV.outsOf, EV.stD, EV.bt_nm, EV.bt_tp, EV.bt_nil, EV.bt_cons, EV.wip, EV.ioOk, EV.parD, EV.putW, EV.augF, EV.binD, EV.same_cmp, EV.same_ne, EV.ints_shp, EV.ints_shpL, EV.cmp_ii, EV.cmp_ni, EV.cmp_ss, EV.cmp_ns, EV.cmp_bb, EV.cmp_nb, EV.cmp_lt, EV.cmp_le, EV.cmp_gt, EV.cmp_ge, EV.is_n, EV.is_b, EV.is_i, EV.is_s, EV.is_l, EV.is_t, EV.is_bb, EV.isn_n, EV.isn_b, EV.isn_i, EV.isn_s, EV.isn_l, EV.isn_t, EV.isn_bb, EV.tru_n, EV.tru_b, EV.tru_i, EV.tru_l, EV.tru_t, EV.biD, EV.idx_l, EV.idx_t, EV.cut_l, EV.cut_t, EV.seq_l, EV.seq_t, EV.zipD, EV.rngD, EV.enumD, EV.enzD, EV.tupW, EV.lstW, EV.rev_l, EV.rev_t, EV.thenS_nx, EV.thenS_rt, EV.thenS_ct, EV.thenS_exc, EV.hold_nil, EV.for_eq, EV.onS_some, EV.bindD_eq, EV.ite_okb, EV.lim, EV.zip_maps, EV.zip3_maps, EV.enum_maps])
  (rw [hold_cons]; simp [EV.evSs, EV.evS, EV.evE, EV.evEs, EV.evAnd, EV.evOr, EV.evO, EV.evI, EV.evIfs, EV.R.bind, EV.R.fl, EV.R.of, EV.R.tst, EV.end_nx, EV.end_rd, EV.end_rn, EV.end_exc, EV.ret_d, EV.ret_nw, EV.ioNd, EV.iosOf, EV.den, EV.dens, EV.keep, EV.keeps, EV.args, EV.back, EV.outsOf, EV.stD, EV.bt_nm, EV.bt_tp, EV.bt_nil, EV.bt_cons, EV.wip, EV.ioOk, EV.parD, EV.putW, EV.augF, EV.binD, EV.same_cmp, EV.same_ne, EV.ints_shp, EV.ints_shpL, EV.cmp_ii, EV.cmp_ni, EV.cmp_ss, EV.cmp_ns, EV.cmp_bb, EV.cmp_nb, EV.cmp_lt, EV.cmp_le, EV.cmp_gt, EV.cmp_ge, EV.is_n, EV.is_b, EV.is_i, EV.is_s, EV.is_l, EV.is_t, EV.is_bb, EV.isn_n, EV.isn_b, EV.isn_i, EV.isn_s, EV.isn_l, EV.isn_t, EV.isn_bb, EV.tru_n, EV.tru_b, EV.tru_i, EV.tru_l, EV.tru_t, EV.biD, EV.idx_l, EV.idx_t, EV.cut_l, EV.cut_t, EV.seq_l, EV.seq_t, EV.zipD, EV.rngD, EV.enumD, EV.enzD, EV.tupW, EV.lstW, EV.rev_l, EV.rev_t, EV.thenS_nx, EV.thenS_rt, EV.thenS_ct, EV.thenS_exc, EV.hold_nil, EV.for_eq, EV.onS_some, EV.bindD_eq, EV.ite_okb, EV.lim, EV.zip_maps, EV.zip3_maps, EV.enum_maps, l_law_stand_0])
  refine forL_ind Kd.e (Z := fun z => P (endCR [bE p, .d (rowE r)] z)) (fun rest s1 => ∃ pre cs q x3 x4, r = pre ++ rest ∧ StOk pre cs ∧ s1 = [some (bE q), some (.d (rowE r)), some (.own (cs.map ce)), x3, x4]) ?_ ?_ _ _ ⟨[], [], p, _, _, rfl, ⟨rfl, by simp⟩, rfl⟩
  · rintro k rest s1 J Z hJ hZ ⟨pre, cs, q, x3, x4, e, hs, rfl⟩
    have hk : k.Ok := hr.ks k (by rw [e]; simp)
    have f1 := hk.f1
    have f2 := hk.f2
    have k0 : atD [PyData.int k.full, .tuple (k.volts.map .int), .int k.loss, .int k.low, .int k.high, .int k.out, .int k.back] 0 = some (.int k.full) := rfl
    obtain ⟨w, q1, hw, x1⟩ := bx_take (n) q (min 2 (k.full - 1) + 1) (by omega) (by omega)
    obtain ⟨c, q2, hc, x2⟩ := bx_take (n) q1 (k.full - w + 1) (by omega) (by omega)
    have hl : cs.length < 16777216 := by
      have := hs.len
      have := hr.l2
      rw [e] at this
      simp at this
      omega
    simp [EV.evSs, EV.evS, EV.evE, EV.evEs, EV.evAnd, EV.evOr, EV.evO, EV.evI, EV.evIfs, EV.R.bind, EV.R.fl, EV.R.of, EV.R.tst, EV.end_nx, EV.end_rd, EV.end_rn, EV.end_exc, EV.ret_d, EV.ret_nw, EV.ioNd, EV.iosOf, EV.den, EV.dens, EV.keep, EV.keeps, EV.args, EV.back, EV.outsOf, EV.stD, EV.bt_nm, EV.bt_tp, EV.bt_nil, EV.bt_cons, EV.wip, EV.ioOk, EV.parD, EV.putW, EV.augF, EV.binD, EV.same_cmp, EV.same_ne, EV.ints_shp, EV.ints_shpL, EV.cmp_ii, EV.cmp_ni, EV.cmp_ss, EV.cmp_ns, EV.cmp_bb, EV.cmp_nb, EV.cmp_lt, EV.cmp_le, EV.cmp_gt, EV.cmp_ge, EV.is_n, EV.is_b, EV.is_i, EV.is_s, EV.is_l, EV.is_t, EV.is_bb, EV.isn_n, EV.isn_b, EV.isn_i, EV.isn_s, EV.isn_l, EV.isn_t, EV.isn_bb, EV.tru_n, EV.tru_b, EV.tru_i, EV.tru_l, EV.tru_t, EV.biD, EV.idx_l, EV.idx_t, EV.cut_l, EV.cut_t, EV.seq_l, EV.seq_t, EV.zipD, EV.rngD, EV.enumD, EV.enzD, EV.tupW, EV.lstW, EV.rev_l, EV.rev_t, EV.thenS_nx, EV.thenS_rt, EV.thenS_ct, EV.thenS_exc, EV.hold_nil, EV.for_eq, EV.onS_some, EV.bindD_eq, EV.ite_okb, EV.lim, EV.zip_maps, EV.zip3_maps, EV.enum_maps, l_law_stand_0b]
    simp only [Kd.e]
    (rw [hold_cons]; simp [EV.evSs, EV.evS, EV.evE, EV.evEs, EV.evAnd, EV.evOr, EV.evO, EV.evI, EV.evIfs, EV.R.bind, EV.R.fl, EV.R.of, EV.R.tst, EV.end_nx, EV.end_rd, EV.end_rn, EV.end_exc, EV.ret_d, EV.ret_nw, EV.ioNd, EV.iosOf, EV.den, EV.dens, EV.keep, EV.keeps, EV.args, EV.back, EV.outsOf, EV.stD, EV.bt_nm, EV.bt_tp, EV.bt_nil, EV.bt_cons, EV.wip, EV.ioOk, EV.parD, EV.putW, EV.augF, EV.binD, EV.same_cmp, EV.same_ne, EV.ints_shp, EV.ints_shpL, EV.cmp_ii, EV.cmp_ni, EV.cmp_ss, EV.cmp_ns, EV.cmp_bb, EV.cmp_nb, EV.cmp_lt, EV.cmp_le, EV.cmp_gt, EV.cmp_ge, EV.is_n, EV.is_b, EV.is_i, EV.is_s, EV.is_l, EV.is_t, EV.is_bb, EV.isn_n, EV.isn_b, EV.isn_i, EV.isn_s, EV.isn_l, EV.isn_t, EV.isn_bb, EV.tru_n, EV.tru_b, EV.tru_i, EV.tru_l, EV.tru_t, EV.biD, EV.idx_l, EV.idx_t, EV.cut_l, EV.cut_t, EV.seq_l, EV.seq_t, EV.zipD, EV.rngD, EV.enumD, EV.enzD, EV.tupW, EV.lstW, EV.rev_l, EV.rev_t, EV.thenS_nx, EV.thenS_rt, EV.thenS_ct, EV.thenS_exc, EV.hold_nil, EV.for_eq, EV.onS_some, EV.bindD_eq, EV.ite_okb, EV.lim, EV.zip_maps, EV.zip3_maps, EV.enum_maps, k0, x1])
    (rw [hold_cons]; simp [EV.evSs, EV.evS, EV.evE, EV.evEs, EV.evAnd, EV.evOr, EV.evO, EV.evI, EV.evIfs, EV.R.bind, EV.R.fl, EV.R.of, EV.R.tst, EV.end_nx, EV.end_rd, EV.end_rn, EV.end_exc, EV.ret_d, EV.ret_nw, EV.ioNd, EV.iosOf, EV.den, EV.dens, EV.keep, EV.keeps, EV.args, EV.back, EV.outsOf, EV.stD, EV.bt_nm, EV.bt_tp, EV.bt_nil, EV.bt_cons, EV.wip, EV.ioOk, EV.parD, EV.putW, EV.augF, EV.binD, EV.same_cmp, EV.same_ne, EV.ints_shp, EV.ints_shpL, EV.cmp_ii, EV.cmp_ni, EV.cmp_ss, EV.cmp_ns, EV.cmp_bb, EV.cmp_nb, EV.cmp_lt, EV.cmp_le, EV.cmp_gt, EV.cmp_ge, EV.is_n, EV.is_b, EV.is_i, EV.is_s, EV.is_l, EV.is_t, EV.is_bb, EV.isn_n, EV.isn_b, EV.isn_i, EV.isn_s, EV.isn_l, EV.isn_t, EV.isn_bb, EV.tru_n, EV.tru_b, EV.tru_i, EV.tru_l, EV.tru_t, EV.biD, EV.idx_l, EV.idx_t, EV.cut_l, EV.cut_t, EV.seq_l, EV.seq_t, EV.zipD, EV.rngD, EV.enumD, EV.enzD, EV.tupW, EV.lstW, EV.rev_l, EV.rev_t, EV.thenS_nx, EV.thenS_rt, EV.thenS_ct, EV.thenS_exc, EV.hold_nil, EV.for_eq, EV.onS_some, EV.bindD_eq, EV.ite_okb, EV.lim, EV.zip_maps, EV.zip3_maps, EV.enum_maps, k0, x2, hl])
    refine hJ _ ⟨pre ++ [k], cs ++ [(c, w)], q2, some (.d k.e), some (.d (.int w)), by simp [e], st_snoc hs ⟨?_, ?_, ?_, ?_, ?_⟩, by simp [Kd.e]⟩ <;> simp only <;> omega
  · rintro s1 ⟨pre, cs, q, x3, x4, e, hs, rfl⟩
    rw [List.append_nil] at e
    subst e
    (rw [hold_cons]; simp [EV.evSs, EV.evS, EV.evE, EV.evEs, EV.evAnd, EV.evOr, EV.evO, EV.evI, EV.evIfs, EV.R.bind, EV.R.fl, EV.R.of, EV.R.tst, EV.end_nx, EV.end_rd, EV.end_rn, EV.end_exc, EV.ret_d, EV.ret_nw, EV.ioNd, EV.iosOf, EV.den, EV.dens, EV.keep, EV.keeps, EV.args, EV.back, EV.outsOf, EV.stD, EV.bt_nm, EV.bt_tp, EV.bt_nil, EV.bt_cons, EV.wip, EV.ioOk, EV.parD, EV.putW, EV.augF, EV.binD, EV.same_cmp, EV.same_ne, EV.ints_shp, EV.ints_shpL, EV.cmp_ii, EV.cmp_ni, EV.cmp_ss, EV.cmp_ns, EV.cmp_bb, EV.cmp_nb, EV.cmp_lt, EV.cmp_le, EV.cmp_gt, EV.cmp_ge, EV.is_n, EV.is_b, EV.is_i, EV.is_s, EV.is_l, EV.is_t, EV.is_bb, EV.isn_n, EV.isn_b, EV.isn_i, EV.isn_s, EV.isn_l, EV.isn_t, EV.isn_bb, EV.tru_n, EV.tru_b, EV.tru_i, EV.tru_l, EV.tru_t, EV.biD, EV.idx_l, EV.idx_t, EV.cut_l, EV.cut_t, EV.seq_l, EV.seq_t, EV.zipD, EV.rngD, EV.enumD, EV.enzD, EV.tupW, EV.lstW, EV.rev_l, EV.rev_t, EV.thenS_nx, EV.thenS_rt, EV.thenS_ct, EV.thenS_exc, EV.hold_nil, EV.for_eq, EV.onS_some, EV.bindD_eq, EV.ite_okb, EV.lim, EV.zip_maps, EV.zip3_maps, EV.enum_maps])
    exact hP cs q hs
theorem bx_stand (n : Nat) (p : Bx) (r : List Kd) (hr : RowOk r) : ∃ (s : List Cell) (q : Bx), StOk r s ∧ CC (n + 3) i_law_stand [bE p, .d (rowE r)] = .ok (.d (stE s)) [some (bE q), none] :=
  bx_standP n p r hr (fun z => ∃ (s : List Cell) (q : Bx), StOk r s ∧ z = .ok (.d (stE s)) [some (bE q), none]) fun s q h => ⟨s, q, h, rfl⟩
theorem bx_shown (n : Nat) (r : List Kd) (s : List Cell) (i : Int) (hr : RowOk r) (h : StOk r s) (hi : -9 ≤ i ∧ i ≤ 9) : CC (n + 1) i_law_shown [.d (rowE r), .d (stE s), .d (.int i)] = .ok (.nw ((showsL r s i).map .int)) [none, none, none] := by
  rw [u_law_shown _ _ _ _ rfl, b_law_shown, hold_eq]
  have hq : evE gm.G (CC n) q_law_shown_0 [some (.d (rowE r)), some (.d (stE s)), some (.d (.int i)), none, none, none] = .ok (.nw ((r.zip s).map fun p => .int (showOf p.1 p.2 i))) [some (.d (rowE r)), some (.d (stE s)), some (.d (.int i)), none, none, none] :=
    comp_as (r.zip s) (fun p => .tuple [p.1.e, ce p.2]) _ (by simp [EV.evSs, EV.evS, EV.evE, EV.evEs, EV.evAnd, EV.evOr, EV.evO, EV.evI, EV.evIfs, EV.R.bind, EV.R.fl, EV.R.of, EV.R.tst, EV.endCR, EV.ioNd, EV.iosOf, EV.den, EV.dens, EV.keep, EV.keeps, EV.args, EV.back, EV.retOk, EV.outsOf, EV.stD, EV.bindT, EV.bindTs, EV.wip, EV.ioOk, EV.binD, EV.cmpD, EV.truD, EV.biD, EV.idxD, EV.cutD, EV.seqD, EV.zipD, EV.rngD, EV.enumD, EV.enzD, EV.tupW, EV.lstW, EV.shp, EV.revD, zip_kc]) rfl (by rw [List.length_zip]; have := hr.l2; omega) fun a ha => by
      have h1 := volt_at (hr.ks a.1 (List.of_mem_zip ha).1) (h.ok a ha)
      have c := h.ok a ha
      have k := hr.ks a.1 (List.of_mem_zip ha).1
      have h2 : atD [PyData.int a.1.full, .tuple (a.1.volts.map .int), .int a.1.loss, .int a.1.low, .int a.1.high, .int a.1.out, .int a.1.back] 1 = some (.tuple (a.1.volts.map .int)) := rfl
      have h3 : atD [PyData.int a.1.full, .tuple (a.1.volts.map .int), .int a.1.loss, .int a.1.low, .int a.1.high, .int a.1.out, .int a.1.back] 2 = some (.int a.1.loss) := rfl
      have s1 : small64 i = true := by unfold small64; simp; omega
      have s2 : small64 (a.2.2 + 1) = true := by
        have := c.w0
        have := c.w1
        unfold small64; simp; omega
      simp [EV.evSs, EV.evS, EV.evE, EV.evEs, EV.evAnd, EV.evOr, EV.evO, EV.evI, EV.evIfs, EV.R.bind, EV.R.fl, EV.R.of, EV.R.tst, EV.endCR, EV.ioNd, EV.iosOf, EV.den, EV.dens, EV.keep, EV.keeps, EV.args, EV.back, EV.retOk, EV.outsOf, EV.stD, EV.bindT, EV.bindTs, EV.wip, EV.ioOk, EV.binD, EV.cmpD, EV.truD, EV.biD, EV.idxD, EV.cutD, EV.seqD, EV.zipD, EV.rngD, EV.enumD, EV.enzD, EV.tupW, EV.lstW, EV.shp, EV.revD, turnC, Kd.e, ce, h1, h2, h3, s1, s2, showOf]
  (rw [hold_cons]; simp [EV.evSs, EV.evS, EV.evE, EV.evEs, EV.evAnd, EV.evOr, EV.evO, EV.evI, EV.evIfs, EV.R.bind, EV.R.fl, EV.R.of, EV.R.tst, EV.end_nx, EV.end_rd, EV.end_rn, EV.end_exc, EV.ret_d, EV.ret_nw, EV.ioNd, EV.iosOf, EV.den, EV.dens, EV.keep, EV.keeps, EV.args, EV.back, EV.outsOf, EV.stD, EV.bt_nm, EV.bt_tp, EV.bt_nil, EV.bt_cons, EV.wip, EV.ioOk, EV.parD, EV.putW, EV.augF, EV.binD, EV.same_cmp, EV.same_ne, EV.ints_shp, EV.ints_shpL, EV.cmp_ii, EV.cmp_ni, EV.cmp_ss, EV.cmp_ns, EV.cmp_bb, EV.cmp_nb, EV.cmp_lt, EV.cmp_le, EV.cmp_gt, EV.cmp_ge, EV.is_n, EV.is_b, EV.is_i, EV.is_s, EV.is_l, EV.is_t, EV.is_bb, EV.isn_n, EV.isn_b, EV.isn_i, EV.isn_s, EV.isn_l, EV.isn_t, EV.isn_bb, EV.tru_n, EV.tru_b, EV.tru_i, EV.tru_l, EV.tru_t, EV.biD, EV.idx_l, EV.idx_t, EV.cut_l, EV.cut_t, EV.seq_l, EV.seq_t, EV.zipD, EV.rngD, EV.enumD, EV.enzD, EV.tupW, EV.lstW, EV.rev_l, EV.rev_t, EV.thenS_nx, EV.thenS_rt, EV.thenS_ct, EV.thenS_exc, EV.hold_nil, EV.for_eq, EV.onS_some, EV.bindD_eq, EV.ite_okb, EV.lim, EV.zip_maps, EV.zip3_maps, EV.enum_maps, hq])
  simp [showsL]
theorem pick_four {a b c d i : Int} (h : 0 ≤ i ∧ i < 4) (P : Int → Prop) (ha : P a) (hb : P b) (hc : P c) (hd : P d) : ∃ x, P x ∧ atD [PyData.int a, .int b, .int c, .int d] i = some (.int x) := by
  have : i = 0 ∨ i = 1 ∨ i = 2 ∨ i = 3 := by omega
  rcases this with rfl | rfl | rfl | rfl
  · exact ⟨a, ha, rfl⟩
  · exact ⟨b, hb, rfl⟩
  · exact ⟨c, hc, rfl⟩
  · exact ⟨d, hd, rfl⟩
abbrev Slp := Int × Int
structure SlOk (p : Slp) : Prop where
  a0 : 0 ≤ p.1
  a1 : p.1 ≤ 2
  b0 : 0 ≤ p.2
  b1 : p.2 ≤ 60
theorem bx_slips (n : Nat) (p : Bx) : ∃ (s : Slp) (q : Bx), SlOk s ∧ CC (n + 3) i_law_slips [bE p] = .ok (.d (ce s)) [some (bE q)] := by
  obtain ⟨c1, q1, h1, x1⟩ := bx_take n p 4 (by omega) (by omega)
  obtain ⟨t, q2, h2, x2⟩ := bx_take n q1 61 (by omega) (by omega)
  obtain ⟨c2, q3, h3, x3⟩ := bx_take n q2 4 (by omega) (by omega)
  obtain ⟨a, ha, e1⟩ := pick_four (a := 0) (b := 0) (c := 1) (d := 2) h1 (fun x => 0 ≤ x ∧ x ≤ 2) (by omega) (by omega) (by omega) (by omega)
  obtain ⟨b, hb, e2⟩ := pick_four (a := 0) (b := 2) (c := 5) (d := t) h3 (fun x => 0 ≤ x ∧ x ≤ 60) (by omega) (by omega) (by omega) (by omega)
  refine ⟨(a, b), q3, ⟨ha.1, ha.2, hb.1, hb.2⟩, ?_⟩
  rw [u_law_slips _ _ rfl, b_law_slips, hold_eq]
  (rw [hold_cons]; simp [EV.evSs, EV.evS, EV.evE, EV.evEs, EV.evAnd, EV.evOr, EV.evO, EV.evI, EV.evIfs, EV.R.bind, EV.R.fl, EV.R.of, EV.R.tst, EV.end_nx, EV.end_rd, EV.end_rn, EV.end_exc, EV.ret_d, EV.ret_nw, EV.ioNd, EV.iosOf, EV.den, EV.dens, EV.keep, EV.keeps, EV.args, EV.back, EV.outsOf, EV.stD, EV.bt_nm, EV.bt_tp, EV.bt_nil, EV.bt_cons, EV.wip, EV.ioOk, EV.parD, EV.putW, EV.augF, EV.binD, EV.same_cmp, EV.same_ne, EV.ints_shp, EV.ints_shpL, EV.cmp_ii, EV.cmp_ni, EV.cmp_ss, EV.cmp_ns, EV.cmp_bb, EV.cmp_nb, EV.cmp_lt, EV.cmp_le, EV.cmp_gt, EV.cmp_ge, EV.is_n, EV.is_b, EV.is_i, EV.is_s, EV.is_l, EV.is_t, EV.is_bb, EV.isn_n, EV.isn_b, EV.isn_i, EV.isn_s, EV.isn_l, EV.isn_t, EV.isn_bb, EV.tru_n, EV.tru_b, EV.tru_i, EV.tru_l, EV.tru_t, EV.biD, EV.idx_l, EV.idx_t, EV.cut_l, EV.cut_t, EV.seq_l, EV.seq_t, EV.zipD, EV.rngD, EV.enumD, EV.enzD, EV.tupW, EV.lstW, EV.rev_l, EV.rev_t, EV.thenS_nx, EV.thenS_rt, EV.thenS_ct, EV.thenS_exc, EV.hold_nil, EV.for_eq, EV.onS_some, EV.bindD_eq, EV.ite_okb, EV.lim, EV.zip_maps, EV.zip3_maps, EV.enum_maps, x1, e1, x2, x3, e2])
/-! readings -/
def oE : Option Int → D
  | none => .none
  | some i => .int i
abbrev Rdg := Option Int × List (Option Int)
abbrev rdE (x : Rdg) : D := .tuple [oE x.1, .tuple (x.2.map oE)]
def oIn (m : Int) : Option Int → Prop
  | none => True
  | some i => -m ≤ i ∧ i ≤ m
structure RdOk (r : List Kd) (x : Rdg) : Prop where
  t : oIn 12 x.1
  len : x.2.length = r.length
  v : ∀ o ∈ x.2, oIn 9999 o
theorem shows_bd {r : List Kd} {s : List Cell} {i : Int} (hr : RowOk r) (h : StOk r s) (hi : -9 ≤ i ∧ i ≤ 9) : ∀ v ∈ showsL r s i, -2000 ≤ v ∧ v ≤ 3000 := by
  intro v hv
  unfold showsL at hv
  obtain ⟨p, hp, rfl⟩ := List.mem_map.mp hv
  have k := hr.ks p.1 (List.of_mem_zip hp).1
  have c := h.ok p hp
  have hva : 0 ≤ vAt p.1 p.2 ∧ vAt p.1 p.2 ≤ 900 := by
    unfold vAt
    rw [List.getD_eq_getElem?_getD]
    cases e : p.1.volts[(p.2.1 + p.2.2).toNat]? with
    | none => simp
    | some x =>
      have := k.vi x (List.mem_of_getElem? e)
      simp
      omega
  have w0 := c.w0
  have w1 := c.w1
  have l1 := k.l1
  have l2 := k.l2
  unfold showOf
  have m1 : -450 ≤ i * p.1.loss ∧ i * p.1.loss ≤ 450 := by
    rcases Int.le_total 0 i with z | z
    · have a := Int.mul_le_mul hi.2 l2 l1 (by omega)
      have b := Int.mul_nonneg z l1
      omega
    · have a := Int.mul_le_mul (show -i ≤ 9 by omega) l2 l1 (by omega)
      have b := Int.mul_nonneg (show 0 ≤ -i by omega) l1
      rw [Int.neg_mul] at a b
      omega
  have : p.2.2 = 0 ∨ p.2.2 = 1 ∨ p.2.2 = 2 := by omega
  rcases this with e | e | e <;> rw [e] <;> omega
theorem bx_readingP (n : Nat) (p : Bx) (r : List Kd) (sl : Slp) (s : List Cell) (i : Int) (hr : RowOk r) (hl : SlOk sl) (hs : StOk r s) (hi : -9 ≤ i ∧ i ≤ 9) (P : CR → Prop) (hP : ∀ (x : Rdg) (q : Bx), RdOk r x → P (.ok (.d (rdE x)) [some (bE q), none, none, none, none])) :
    P (CC (n + 3) i_law_reading [bE p, .d (rowE r), .d (ce sl), .d (stE s), .d (.int i)]) := by
  rw [u_law_reading _ _ _ _ _ _ rfl, b_law_reading, hold_eq]
  obtain ⟨a, b⟩ := sl
  have l0 : atD [PyData.int a, .int b] 0 = some (.int a) := rfl
  have l1 : atD [PyData.int a, .int b] 1 = some (.int b) := rfl
  obtain ⟨la0, la1, lb0, lb1⟩ := hl
  simp only at la0 la1 lb0 lb1
  have sa : small64 2 = true := by decide
  have xs := bx_shown (n + 1) r s i hr hs hi
  have sb := shows_bd hr hs hi
  have sl2 : (showsL r s i).length = r.length := by
    unfold showsL
    rw [List.length_map, List.length_zip, hs.len, Nat.min_self]
  have r2 := hr.l2
  have key : ∀ (told : Option Int) (q0 : Bx), oIn 12 told → P (endCR [bE p, .d (rowE r), .d (.tuple [.int a, .int b]), .d (stE s), .d (.int i)] (hold gm.G (CC (n + 2)) (.cons (.seto 6 (.lst .nil)) (.cons (l_law_reading_0) (.cons (.ret (.tup (.cons (.v 5) (.cons (.bi .tuple (.cons (.v 6) .nil)) .nil)))) .nil)))
      [some (bE q0), some (.d (rowE r)), some (.d (.tuple [.int a, .int b])), some (.d (stE s)), some (.d (.int i)), some (.d (oE told)), none, none, none])) := by
    intro told q0 ht
    (rw [hold_cons]; simp [EV.evSs, EV.evS, EV.evE, EV.evEs, EV.evAnd, EV.evOr, EV.evO, EV.evI, EV.evIfs, EV.R.bind, EV.R.fl, EV.R.of, EV.R.tst, EV.end_nx, EV.end_rd, EV.end_rn, EV.end_exc, EV.ret_d, EV.ret_nw, EV.ioNd, EV.iosOf, EV.den, EV.dens, EV.keep, EV.keeps, EV.args, EV.back, EV.outsOf, EV.stD, EV.bt_nm, EV.bt_tp, EV.bt_nil, EV.bt_cons, EV.wip, EV.ioOk, EV.parD, EV.putW, EV.augF, EV.binD, EV.same_cmp, EV.same_ne, EV.ints_shp, EV.ints_shpL, EV.cmp_ii, EV.cmp_ni, EV.cmp_ss, EV.cmp_ns, EV.cmp_bb, EV.cmp_nb, EV.cmp_lt, EV.cmp_le, EV.cmp_gt, EV.cmp_ge, EV.is_n, EV.is_b, EV.is_i, EV.is_s, EV.is_l, EV.is_t, EV.is_bb, EV.isn_n, EV.isn_b, EV.isn_i, EV.isn_s, EV.isn_l, EV.isn_t, EV.isn_bb, EV.tru_n, EV.tru_b, EV.tru_i, EV.tru_l, EV.tru_t, EV.biD, EV.idx_l, EV.idx_t, EV.cut_l, EV.cut_t, EV.seq_l, EV.seq_t, EV.zipD, EV.rngD, EV.enumD, EV.enzD, EV.tupW, EV.lstW, EV.rev_l, EV.rev_t, EV.thenS_nx, EV.thenS_rt, EV.thenS_ct, EV.thenS_exc, EV.hold_nil, EV.for_eq, EV.onS_some, EV.bindD_eq, EV.ite_okb, EV.lim, EV.zip_maps, EV.zip3_maps, EV.enum_maps])
    (rw [hold_cons]; simp [EV.evSs, EV.evS, EV.evE, EV.evEs, EV.evAnd, EV.evOr, EV.evO, EV.evI, EV.evIfs, EV.R.bind, EV.R.fl, EV.R.of, EV.R.tst, EV.end_nx, EV.end_rd, EV.end_rn, EV.end_exc, EV.ret_d, EV.ret_nw, EV.ioNd, EV.iosOf, EV.den, EV.dens, EV.keep, EV.keeps, EV.args, EV.back, EV.outsOf, EV.stD, EV.bt_nm, EV.bt_tp, EV.bt_nil, EV.bt_cons, EV.wip, EV.ioOk, EV.parD, EV.putW, EV.augF, EV.binD, EV.same_cmp, EV.same_ne, EV.ints_shp, EV.ints_shpL, EV.cmp_ii, EV.cmp_ni, EV.cmp_ss, EV.cmp_ns, EV.cmp_bb, EV.cmp_nb, EV.cmp_lt, EV.cmp_le, EV.cmp_gt, EV.cmp_ge, EV.is_n, EV.is_b, EV.is_i, EV.is_s, EV.is_l, EV.is_t, EV.is_bb, EV.isn_n, EV.isn_b, EV.isn_i, EV.isn_s, EV.isn_l, EV.isn_t, EV.isn_bb, EV.tru_n, EV.tru_b, EV.tru_i, EV.tru_l, EV.tru_t, EV.biD, EV.idx_l, EV.idx_t, EV.cut_l, EV.cut_t, EV.seq_l, EV.seq_t, EV.zipD, EV.rngD, EV.enumD, EV.enzD, EV.tupW, EV.lstW, EV.rev_l, EV.rev_t, EV.thenS_nx, EV.thenS_rt, EV.thenS_ct, EV.thenS_exc, EV.hold_nil, EV.for_eq, EV.onS_some, EV.bindD_eq, EV.ite_okb, EV.lim, EV.zip_maps, EV.zip3_maps, EV.enum_maps, l_law_reading_0, xs])
    refine forL_ind PyData.int (Z := fun z => P (endCR [bE p, .d (rowE r), .d (.tuple [.int a, .int b]), .d (stE s), .d (.int i)] z)) (fun rest s1 => (∀ v ∈ rest, v ∈ showsL r s i) ∧ ∃ vs q x7 x8, vs.length + rest.length = r.length ∧ (∀ o ∈ vs, oIn 9999 o) ∧ s1 = [some (bE q), some (.d (rowE r)), some (.d (.tuple [.int a, .int b])), some (.d (stE s)), some (.d (.int i)), some (.d (oE told)), some (.own (vs.map oE)), x7, x8]) ?_ ?_ _ _ ⟨fun v hv => hv, [], q0, _, _, by simp [sl2], by simp, rfl⟩
    · rintro v rest s1 J Z hJ hZ ⟨hm, vs, q, x7, x8, hlen, ho, rfl⟩
      have hv := sb v (hm v List.mem_cons_self)
      simp only [List.length_cons] at hlen
      have lz : vs.length < 16777216 := by omega
      obtain ⟨t, q1, ht1, x1⟩ := bx_take n q (2 * b + 1) (by omega) (by omega)
      obtain ⟨c, q2, hc, x2⟩ := bx_take n q1 4 (by omega) (by omega)
      obtain ⟨d, q3, hd, x3⟩ := bx_take n q2 24 (by omega) (by omega)
      obtain ⟨o, hob, ha⟩ : ∃ o : Option Int, oIn 9999 o ∧ atD [PyData.none, .int (v + t - b), .int (v + t - b), .int (v + t - b)] c = some (oE o) := by
        have : c = 0 ∨ c = 1 ∨ c = 2 ∨ c = 3 := by omega
        have bd : oIn 9999 (some (v + t - b)) := by simp only [oIn]; omega
        rcases this with rfl | rfl | rfl | rfl
        · exact ⟨none, True.intro, rfl⟩
        · exact ⟨_, bd, rfl⟩
        · exact ⟨_, bd, rfl⟩
        · exact ⟨_, bd, rfl⟩
      simp [EV.evSs, EV.evS, EV.evE, EV.evEs, EV.evAnd, EV.evOr, EV.evO, EV.evI, EV.evIfs, EV.R.bind, EV.R.fl, EV.R.of, EV.R.tst, EV.end_nx, EV.end_rd, EV.end_rn, EV.end_exc, EV.ret_d, EV.ret_nw, EV.ioNd, EV.iosOf, EV.den, EV.dens, EV.keep, EV.keeps, EV.args, EV.back, EV.outsOf, EV.stD, EV.bt_nm, EV.bt_tp, EV.bt_nil, EV.bt_cons, EV.wip, EV.ioOk, EV.parD, EV.putW, EV.augF, EV.binD, EV.same_cmp, EV.same_ne, EV.ints_shp, EV.ints_shpL, EV.cmp_ii, EV.cmp_ni, EV.cmp_ss, EV.cmp_ns, EV.cmp_bb, EV.cmp_nb, EV.cmp_lt, EV.cmp_le, EV.cmp_gt, EV.cmp_ge, EV.is_n, EV.is_b, EV.is_i, EV.is_s, EV.is_l, EV.is_t, EV.is_bb, EV.isn_n, EV.isn_b, EV.isn_i, EV.isn_s, EV.isn_l, EV.isn_t, EV.isn_bb, EV.tru_n, EV.tru_b, EV.tru_i, EV.tru_l, EV.tru_t, EV.biD, EV.idx_l, EV.idx_t, EV.cut_l, EV.cut_t, EV.seq_l, EV.seq_t, EV.zipD, EV.rngD, EV.enumD, EV.enzD, EV.tupW, EV.lstW, EV.rev_l, EV.rev_t, EV.thenS_nx, EV.thenS_rt, EV.thenS_ct, EV.thenS_exc, EV.hold_nil, EV.for_eq, EV.onS_some, EV.bindD_eq, EV.ite_okb, EV.lim, EV.zip_maps, EV.zip3_maps, EV.enum_maps, l_law_reading_0b]
      (rw [hold_cons]; simp [EV.evSs, EV.evS, EV.evE, EV.evEs, EV.evAnd, EV.evOr, EV.evO, EV.evI, EV.evIfs, EV.R.bind, EV.R.fl, EV.R.of, EV.R.tst, EV.end_nx, EV.end_rd, EV.end_rn, EV.end_exc, EV.ret_d, EV.ret_nw, EV.ioNd, EV.iosOf, EV.den, EV.dens, EV.keep, EV.keeps, EV.args, EV.back, EV.outsOf, EV.stD, EV.bt_nm, EV.bt_tp, EV.bt_nil, EV.bt_cons, EV.wip, EV.ioOk, EV.parD, EV.putW, EV.augF, EV.binD, EV.same_cmp, EV.same_ne, EV.ints_shp, EV.ints_shpL, EV.cmp_ii, EV.cmp_ni, EV.cmp_ss, EV.cmp_ns, EV.cmp_bb, EV.cmp_nb, EV.cmp_lt, EV.cmp_le, EV.cmp_gt, EV.cmp_ge, EV.is_n, EV.is_b, EV.is_i, EV.is_s, EV.is_l, EV.is_t, EV.is_bb, EV.isn_n, EV.isn_b, EV.isn_i, EV.isn_s, EV.isn_l, EV.isn_t, EV.isn_bb, EV.tru_n, EV.tru_b, EV.tru_i, EV.tru_l, EV.tru_t, EV.biD, EV.idx_l, EV.idx_t, EV.cut_l, EV.cut_t, EV.seq_l, EV.seq_t, EV.zipD, EV.rngD, EV.enumD, EV.enzD, EV.tupW, EV.lstW, EV.rev_l, EV.rev_t, EV.thenS_nx, EV.thenS_rt, EV.thenS_ct, EV.thenS_exc, EV.hold_nil, EV.for_eq, EV.onS_some, EV.bindD_eq, EV.ite_okb, EV.lim, EV.zip_maps, EV.zip3_maps, EV.enum_maps, l1, sa, x1])
      (rw [hold_cons]; simp [EV.evSs, EV.evS, EV.evE, EV.evEs, EV.evAnd, EV.evOr, EV.evO, EV.evI, EV.evIfs, EV.R.bind, EV.R.fl, EV.R.of, EV.R.tst, EV.end_nx, EV.end_rd, EV.end_rn, EV.end_exc, EV.ret_d, EV.ret_nw, EV.ioNd, EV.iosOf, EV.den, EV.dens, EV.keep, EV.keeps, EV.args, EV.back, EV.outsOf, EV.stD, EV.bt_nm, EV.bt_tp, EV.bt_nil, EV.bt_cons, EV.wip, EV.ioOk, EV.parD, EV.putW, EV.augF, EV.binD, EV.same_cmp, EV.same_ne, EV.ints_shp, EV.ints_shpL, EV.cmp_ii, EV.cmp_ni, EV.cmp_ss, EV.cmp_ns, EV.cmp_bb, EV.cmp_nb, EV.cmp_lt, EV.cmp_le, EV.cmp_gt, EV.cmp_ge, EV.is_n, EV.is_b, EV.is_i, EV.is_s, EV.is_l, EV.is_t, EV.is_bb, EV.isn_n, EV.isn_b, EV.isn_i, EV.isn_s, EV.isn_l, EV.isn_t, EV.isn_bb, EV.tru_n, EV.tru_b, EV.tru_i, EV.tru_l, EV.tru_t, EV.biD, EV.idx_l, EV.idx_t, EV.cut_l, EV.cut_t, EV.seq_l, EV.seq_t, EV.zipD, EV.rngD, EV.enumD, EV.enzD, EV.tupW, EV.lstW, EV.rev_l, EV.rev_t, EV.thenS_nx, EV.thenS_rt, EV.thenS_ct, EV.thenS_exc, EV.hold_nil, EV.for_eq, EV.onS_some, EV.bindD_eq, EV.ite_okb, EV.lim, EV.zip_maps, EV.zip3_maps, EV.enum_maps, x2, ha, lz])
      by_cases h0 : d = 0
      · obtain ⟨e, q4, he, x4⟩ := bx_take n q3 40 (by omega) (by omega)
        have ix : ixD (vs.length + 1) (-1) = some vs.length := by
          unfold ixD
          rw [if_neg (by omega), if_pos (by omega)]
          congr 1
          omega
        subst h0
        (rw [hold_cons]; simp [EV.evSs, EV.evS, EV.evE, EV.evEs, EV.evAnd, EV.evOr, EV.evO, EV.evI, EV.evIfs, EV.R.bind, EV.R.fl, EV.R.of, EV.R.tst, EV.end_nx, EV.end_rd, EV.end_rn, EV.end_exc, EV.ret_d, EV.ret_nw, EV.ioNd, EV.iosOf, EV.den, EV.dens, EV.keep, EV.keeps, EV.args, EV.back, EV.outsOf, EV.stD, EV.bt_nm, EV.bt_tp, EV.bt_nil, EV.bt_cons, EV.wip, EV.ioOk, EV.parD, EV.putW, EV.augF, EV.binD, EV.same_cmp, EV.same_ne, EV.ints_shp, EV.ints_shpL, EV.cmp_ii, EV.cmp_ni, EV.cmp_ss, EV.cmp_ns, EV.cmp_bb, EV.cmp_nb, EV.cmp_lt, EV.cmp_le, EV.cmp_gt, EV.cmp_ge, EV.is_n, EV.is_b, EV.is_i, EV.is_s, EV.is_l, EV.is_t, EV.is_bb, EV.isn_n, EV.isn_b, EV.isn_i, EV.isn_s, EV.isn_l, EV.isn_t, EV.isn_bb, EV.tru_n, EV.tru_b, EV.tru_i, EV.tru_l, EV.tru_t, EV.biD, EV.idx_l, EV.idx_t, EV.cut_l, EV.cut_t, EV.seq_l, EV.seq_t, EV.zipD, EV.rngD, EV.enumD, EV.enzD, EV.tupW, EV.lstW, EV.rev_l, EV.rev_t, EV.thenS_nx, EV.thenS_rt, EV.thenS_ct, EV.thenS_exc, EV.hold_nil, EV.for_eq, EV.onS_some, EV.bindD_eq, EV.ite_okb, EV.lim, EV.zip_maps, EV.zip3_maps, EV.enum_maps, x3, x4, ix])
        refine hJ _ ⟨fun v hv => hm v (List.mem_cons_of_mem _ hv), vs ++ [some (v + t - b + e - 20)], q4, some (.d (.int v)), some (.d (.int (v + t - b))), by simp; omega, fun x hx => ?_, ?_⟩
        · rcases List.mem_append.mp hx with hx | hx
          · exact ho x hx
          · simp only [List.mem_cons, List.not_mem_nil, or_false] at hx
            rw [hx]
            simp only [oIn]
            omega
        · simp [oE, List.set_append]
      · (rw [hold_cons]; simp [EV.evSs, EV.evS, EV.evE, EV.evEs, EV.evAnd, EV.evOr, EV.evO, EV.evI, EV.evIfs, EV.R.bind, EV.R.fl, EV.R.of, EV.R.tst, EV.end_nx, EV.end_rd, EV.end_rn, EV.end_exc, EV.ret_d, EV.ret_nw, EV.ioNd, EV.iosOf, EV.den, EV.dens, EV.keep, EV.keeps, EV.args, EV.back, EV.outsOf, EV.stD, EV.bt_nm, EV.bt_tp, EV.bt_nil, EV.bt_cons, EV.wip, EV.ioOk, EV.parD, EV.putW, EV.augF, EV.binD, EV.same_cmp, EV.same_ne, EV.ints_shp, EV.ints_shpL, EV.cmp_ii, EV.cmp_ni, EV.cmp_ss, EV.cmp_ns, EV.cmp_bb, EV.cmp_nb, EV.cmp_lt, EV.cmp_le, EV.cmp_gt, EV.cmp_ge, EV.is_n, EV.is_b, EV.is_i, EV.is_s, EV.is_l, EV.is_t, EV.is_bb, EV.isn_n, EV.isn_b, EV.isn_i, EV.isn_s, EV.isn_l, EV.isn_t, EV.isn_bb, EV.tru_n, EV.tru_b, EV.tru_i, EV.tru_l, EV.tru_t, EV.biD, EV.idx_l, EV.idx_t, EV.cut_l, EV.cut_t, EV.seq_l, EV.seq_t, EV.zipD, EV.rngD, EV.enumD, EV.enzD, EV.tupW, EV.lstW, EV.rev_l, EV.rev_t, EV.thenS_nx, EV.thenS_rt, EV.thenS_ct, EV.thenS_exc, EV.hold_nil, EV.for_eq, EV.onS_some, EV.bindD_eq, EV.ite_okb, EV.lim, EV.zip_maps, EV.zip3_maps, EV.enum_maps, x3, h0])
        refine hJ _ ⟨fun v hv => hm v (List.mem_cons_of_mem _ hv), vs ++ [o], q3, some (.d (.int v)), some (.d (.int (v + t - b))), by simp; omega, fun x hx => ?_, by simp⟩
        rcases List.mem_append.mp hx with hx | hx
        · exact ho x hx
        · simp only [List.mem_cons, List.not_mem_nil, or_false] at hx
          rw [hx]
          exact hob
    · rintro s1 ⟨_, vs, q, x7, x8, hlen, ho, rfl⟩
      simp only [List.length_nil, Nat.add_zero] at hlen
      (rw [hold_cons]; simp [EV.evSs, EV.evS, EV.evE, EV.evEs, EV.evAnd, EV.evOr, EV.evO, EV.evI, EV.evIfs, EV.R.bind, EV.R.fl, EV.R.of, EV.R.tst, EV.end_nx, EV.end_rd, EV.end_rn, EV.end_exc, EV.ret_d, EV.ret_nw, EV.ioNd, EV.iosOf, EV.den, EV.dens, EV.keep, EV.keeps, EV.args, EV.back, EV.outsOf, EV.stD, EV.bt_nm, EV.bt_tp, EV.bt_nil, EV.bt_cons, EV.wip, EV.ioOk, EV.parD, EV.putW, EV.augF, EV.binD, EV.same_cmp, EV.same_ne, EV.ints_shp, EV.ints_shpL, EV.cmp_ii, EV.cmp_ni, EV.cmp_ss, EV.cmp_ns, EV.cmp_bb, EV.cmp_nb, EV.cmp_lt, EV.cmp_le, EV.cmp_gt, EV.cmp_ge, EV.is_n, EV.is_b, EV.is_i, EV.is_s, EV.is_l, EV.is_t, EV.is_bb, EV.isn_n, EV.isn_b, EV.isn_i, EV.isn_s, EV.isn_l, EV.isn_t, EV.isn_bb, EV.tru_n, EV.tru_b, EV.tru_i, EV.tru_l, EV.tru_t, EV.biD, EV.idx_l, EV.idx_t, EV.cut_l, EV.cut_t, EV.seq_l, EV.seq_t, EV.zipD, EV.rngD, EV.enumD, EV.enzD, EV.tupW, EV.lstW, EV.rev_l, EV.rev_t, EV.thenS_nx, EV.thenS_rt, EV.thenS_ct, EV.thenS_exc, EV.hold_nil, EV.for_eq, EV.onS_some, EV.bindD_eq, EV.ite_okb, EV.lim, EV.zip_maps, EV.zip3_maps, EV.enum_maps])
      exact hP (told, vs) q ⟨ht, hlen, ho⟩
  obtain ⟨c, q1, hc, x1⟩ := bx_take n p 4 (by omega) (by omega)
  (rw [hold_cons]; simp [EV.evSs, EV.evS, EV.evE, EV.evEs, EV.evAnd, EV.evOr, EV.evO, EV.evI, EV.evIfs, EV.R.bind, EV.R.fl, EV.R.of, EV.R.tst, EV.end_nx, EV.end_rd, EV.end_rn, EV.end_exc, EV.ret_d, EV.ret_nw, EV.ioNd, EV.iosOf, EV.den, EV.dens, EV.keep, EV.keeps, EV.args, EV.back, EV.outsOf, EV.stD, EV.bt_nm, EV.bt_tp, EV.bt_nil, EV.bt_cons, EV.wip, EV.ioOk, EV.parD, EV.putW, EV.augF, EV.binD, EV.same_cmp, EV.same_ne, EV.ints_shp, EV.ints_shpL, EV.cmp_ii, EV.cmp_ni, EV.cmp_ss, EV.cmp_ns, EV.cmp_bb, EV.cmp_nb, EV.cmp_lt, EV.cmp_le, EV.cmp_gt, EV.cmp_ge, EV.is_n, EV.is_b, EV.is_i, EV.is_s, EV.is_l, EV.is_t, EV.is_bb, EV.isn_n, EV.isn_b, EV.isn_i, EV.isn_s, EV.isn_l, EV.isn_t, EV.isn_bb, EV.tru_n, EV.tru_b, EV.tru_i, EV.tru_l, EV.tru_t, EV.biD, EV.idx_l, EV.idx_t, EV.cut_l, EV.cut_t, EV.seq_l, EV.seq_t, EV.zipD, EV.rngD, EV.enumD, EV.enzD, EV.tupW, EV.lstW, EV.rev_l, EV.rev_t, EV.thenS_nx, EV.thenS_rt, EV.thenS_ct, EV.thenS_exc, EV.hold_nil, EV.for_eq, EV.onS_some, EV.bindD_eq, EV.ite_okb, EV.lim, EV.zip_maps, EV.zip3_maps, EV.enum_maps])
  by_cases h0 : 0 < c
  · obtain ⟨t, q2, ht, x2⟩ := bx_take n q1 (2 * a + 1) (by omega) (by omega)
    (rw [hold_cons]; simp [EV.evSs, EV.evS, EV.evE, EV.evEs, EV.evAnd, EV.evOr, EV.evO, EV.evI, EV.evIfs, EV.R.bind, EV.R.fl, EV.R.of, EV.R.tst, EV.end_nx, EV.end_rd, EV.end_rn, EV.end_exc, EV.ret_d, EV.ret_nw, EV.ioNd, EV.iosOf, EV.den, EV.dens, EV.keep, EV.keeps, EV.args, EV.back, EV.outsOf, EV.stD, EV.bt_nm, EV.bt_tp, EV.bt_nil, EV.bt_cons, EV.wip, EV.ioOk, EV.parD, EV.putW, EV.augF, EV.binD, EV.same_cmp, EV.same_ne, EV.ints_shp, EV.ints_shpL, EV.cmp_ii, EV.cmp_ni, EV.cmp_ss, EV.cmp_ns, EV.cmp_bb, EV.cmp_nb, EV.cmp_lt, EV.cmp_le, EV.cmp_gt, EV.cmp_ge, EV.is_n, EV.is_b, EV.is_i, EV.is_s, EV.is_l, EV.is_t, EV.is_bb, EV.isn_n, EV.isn_b, EV.isn_i, EV.isn_s, EV.isn_l, EV.isn_t, EV.isn_bb, EV.tru_n, EV.tru_b, EV.tru_i, EV.tru_l, EV.tru_t, EV.biD, EV.idx_l, EV.idx_t, EV.cut_l, EV.cut_t, EV.seq_l, EV.seq_t, EV.zipD, EV.rngD, EV.enumD, EV.enzD, EV.tupW, EV.lstW, EV.rev_l, EV.rev_t, EV.thenS_nx, EV.thenS_rt, EV.thenS_ct, EV.thenS_exc, EV.hold_nil, EV.for_eq, EV.onS_some, EV.bindD_eq, EV.ite_okb, EV.lim, EV.zip_maps, EV.zip3_maps, EV.enum_maps, x1, h0, l0, sa, x2])
    exact key (some (i + t - a)) q2 (by simp only [oIn]; omega)
  · (rw [hold_cons]; simp [EV.evSs, EV.evS, EV.evE, EV.evEs, EV.evAnd, EV.evOr, EV.evO, EV.evI, EV.evIfs, EV.R.bind, EV.R.fl, EV.R.of, EV.R.tst, EV.end_nx, EV.end_rd, EV.end_rn, EV.end_exc, EV.ret_d, EV.ret_nw, EV.ioNd, EV.iosOf, EV.den, EV.dens, EV.keep, EV.keeps, EV.args, EV.back, EV.outsOf, EV.stD, EV.bt_nm, EV.bt_tp, EV.bt_nil, EV.bt_cons, EV.wip, EV.ioOk, EV.parD, EV.putW, EV.augF, EV.binD, EV.same_cmp, EV.same_ne, EV.ints_shp, EV.ints_shpL, EV.cmp_ii, EV.cmp_ni, EV.cmp_ss, EV.cmp_ns, EV.cmp_bb, EV.cmp_nb, EV.cmp_lt, EV.cmp_le, EV.cmp_gt, EV.cmp_ge, EV.is_n, EV.is_b, EV.is_i, EV.is_s, EV.is_l, EV.is_t, EV.is_bb, EV.isn_n, EV.isn_b, EV.isn_i, EV.isn_s, EV.isn_l, EV.isn_t, EV.isn_bb, EV.tru_n, EV.tru_b, EV.tru_i, EV.tru_l, EV.tru_t, EV.biD, EV.idx_l, EV.idx_t, EV.cut_l, EV.cut_t, EV.seq_l, EV.seq_t, EV.zipD, EV.rngD, EV.enumD, EV.enzD, EV.tupW, EV.lstW, EV.rev_l, EV.rev_t, EV.thenS_nx, EV.thenS_rt, EV.thenS_ct, EV.thenS_exc, EV.hold_nil, EV.for_eq, EV.onS_some, EV.bindD_eq, EV.ite_okb, EV.lim, EV.zip_maps, EV.zip3_maps, EV.enum_maps, x1, h0])
    exact key none q1 True.intro
theorem bx_reading (n : Nat) (p : Bx) (r : List Kd) (sl : Slp) (s : List Cell) (i : Int) (hr : RowOk r) (hl : SlOk sl) (hs : StOk r s) (hi : -4 ≤ i ∧ i ≤ 4) : ∃ (x : Rdg) (q : Bx), RdOk r x ∧ CC (n + 3) i_law_reading [bE p, .d (rowE r), .d (ce sl), .d (stE s), .d (.int i)] = .ok (.d (rdE x)) [some (bE q), none, none, none, none] :=
  bx_readingP n p r sl s i hr hl hs (by omega) (fun z => ∃ (x : Rdg) (q : Bx), RdOk r x ∧ z = .ok (.d (rdE x)) [some (bE q), none, none, none, none]) fun x q h => ⟨x, q, h, rfl⟩

/-! ### slips and readings, of any data -/
def slD : D → Bool
  | .tuple [a, b] => isAmong a 0 2 && isAmong b 0 60
  | _ => false
def isRead (x : D) (m : Int) : Bool := match x with
  | .none => true
  | x => isAmong x (-m) m
def rdD (r : List Kd) : D → Bool
  | .tuple [t, .tuple vs] => isRead t 12 && (decide (vs.length = r.length) && vs.all fun v => isRead v 9999)
  | _ => false
theorem x_is_read (n : Nat) (d : D) (m : Int) : CC (n + 3) i_is_read [.d d, .d (.int m)] = .ok (.d (.bool (isRead d m))) [none, none] := by
  rw [u_is_read _ _ _ rfl, b_is_read, hold_eq]
  have x := x_is_among n d (-m) m
  cases d with
  | none => (rw [hold_cons]; simp [EV.evSs, EV.evS, EV.evE, EV.evEs, EV.evAnd, EV.evOr, EV.evO, EV.evI, EV.evIfs, EV.R.bind, EV.R.fl, EV.R.of, EV.R.tst, EV.end_nx, EV.end_rd, EV.end_rn, EV.end_exc, EV.ret_d, EV.ret_nw, EV.ioNd, EV.iosOf, EV.den, EV.dens, EV.keep, EV.keeps, EV.args, EV.back, EV.outsOf, EV.stD, EV.bt_nm, EV.bt_tp, EV.bt_nil, EV.bt_cons, EV.wip, EV.ioOk, EV.parD, EV.putW, EV.augF, EV.binD, EV.same_cmp, EV.same_ne, EV.ints_shp, EV.ints_shpL, EV.cmp_ii, EV.cmp_ni, EV.cmp_ss, EV.cmp_ns, EV.cmp_bb, EV.cmp_nb, EV.cmp_lt, EV.cmp_le, EV.cmp_gt, EV.cmp_ge, EV.is_n, EV.is_b, EV.is_i, EV.is_s, EV.is_l, EV.is_t, EV.is_bb, EV.isn_n, EV.isn_b, EV.isn_i, EV.isn_s, EV.isn_l, EV.isn_t, EV.isn_bb, EV.tru_n, EV.tru_b, EV.tru_i, EV.tru_l, EV.tru_t, EV.biD, EV.idx_l, EV.idx_t, EV.cut_l, EV.cut_t, EV.seq_l, EV.seq_t, EV.zipD, EV.rngD, EV.enumD, EV.enzD, EV.tupW, EV.lstW, EV.rev_l, EV.rev_t, EV.thenS_nx, EV.thenS_rt, EV.thenS_ct, EV.thenS_exc, EV.hold_nil, EV.for_eq, EV.onS_some, EV.bindD_eq, EV.ite_okb, EV.lim, EV.zip_maps, EV.zip3_maps, EV.enum_maps]); simp [isRead]
  | dict kvs => (rw [hold_cons]; simp [EV.evSs, EV.evS, EV.evE, EV.evEs, EV.evAnd, EV.evOr, EV.evO, EV.evI, EV.evIfs, EV.R.bind, EV.R.fl, EV.R.of, EV.R.tst, EV.end_nx, EV.end_rd, EV.end_rn, EV.end_exc, EV.ret_d, EV.ret_nw, EV.ioNd, EV.iosOf, EV.den, EV.dens, EV.keep, EV.keeps, EV.args, EV.back, EV.outsOf, EV.stD, EV.bt_nm, EV.bt_tp, EV.bt_nil, EV.bt_cons, EV.wip, EV.ioOk, EV.parD, EV.putW, EV.augF, EV.binD, EV.same_cmp, EV.same_ne, EV.ints_shp, EV.ints_shpL, EV.cmp_ii, EV.cmp_ni, EV.cmp_ss, EV.cmp_ns, EV.cmp_bb, EV.cmp_nb, EV.cmp_lt, EV.cmp_le, EV.cmp_gt, EV.cmp_ge, EV.is_n, EV.is_b, EV.is_i, EV.is_s, EV.is_l, EV.is_t, EV.is_bb, EV.isn_n, EV.isn_b, EV.isn_i, EV.isn_s, EV.isn_l, EV.isn_t, EV.isn_bb, EV.tru_n, EV.tru_b, EV.tru_i, EV.tru_l, EV.tru_t, EV.biD, EV.idx_l, EV.idx_t, EV.cut_l, EV.cut_t, EV.seq_l, EV.seq_t, EV.zipD, EV.rngD, EV.enumD, EV.enzD, EV.tupW, EV.lstW, EV.rev_l, EV.rev_t, EV.thenS_nx, EV.thenS_rt, EV.thenS_ct, EV.thenS_exc, EV.hold_nil, EV.for_eq, EV.onS_some, EV.bindD_eq, EV.ite_okb, EV.lim, EV.zip_maps, EV.zip3_maps, EV.enum_maps, isd_t, x]); simp [isRead]
  | _ => (rw [hold_cons]; simp [EV.evSs, EV.evS, EV.evE, EV.evEs, EV.evAnd, EV.evOr, EV.evO, EV.evI, EV.evIfs, EV.R.bind, EV.R.fl, EV.R.of, EV.R.tst, EV.end_nx, EV.end_rd, EV.end_rn, EV.end_exc, EV.ret_d, EV.ret_nw, EV.ioNd, EV.iosOf, EV.den, EV.dens, EV.keep, EV.keeps, EV.args, EV.back, EV.outsOf, EV.stD, EV.bt_nm, EV.bt_tp, EV.bt_nil, EV.bt_cons, EV.wip, EV.ioOk, EV.parD, EV.putW, EV.augF, EV.binD, EV.same_cmp, EV.same_ne, EV.ints_shp, EV.ints_shpL, EV.cmp_ii, EV.cmp_ni, EV.cmp_ss, EV.cmp_ns, EV.cmp_bb, EV.cmp_nb, EV.cmp_lt, EV.cmp_le, EV.cmp_gt, EV.cmp_ge, EV.is_n, EV.is_b, EV.is_i, EV.is_s, EV.is_l, EV.is_t, EV.is_bb, EV.isn_n, EV.isn_b, EV.isn_i, EV.isn_s, EV.isn_l, EV.isn_t, EV.isn_bb, EV.tru_n, EV.tru_b, EV.tru_i, EV.tru_l, EV.tru_t, EV.biD, EV.idx_l, EV.idx_t, EV.cut_l, EV.cut_t, EV.seq_l, EV.seq_t, EV.zipD, EV.rngD, EV.enumD, EV.enzD, EV.tupW, EV.lstW, EV.rev_l, EV.rev_t, EV.thenS_nx, EV.thenS_rt, EV.thenS_ct, EV.thenS_exc, EV.hold_nil, EV.for_eq, EV.onS_some, EV.bindD_eq, EV.ite_okb, EV.lim, EV.zip_maps, EV.zip3_maps, EV.enum_maps, x]); simp [isRead]
theorem zip2 (a b : D) (c d : D) : zipL [a, b] [c, d] = [.tuple [a, c], .tuple [b, d]] := rfl
theorem x_are_slips (n : Nat) (d : D) : CC (n + 3) i_are_slips [.d d] = .ok (.d (.bool (slD d))) [none] := by
  rw [u_are_slips _ _ rfl, b_are_slips, hold_eq]
  cases d with
  | tuple xs =>
    match xs with
    | [] => (rw [hold_cons]; simp [EV.evSs, EV.evS, EV.evE, EV.evEs, EV.evAnd, EV.evOr, EV.evO, EV.evI, EV.evIfs, EV.R.bind, EV.R.fl, EV.R.of, EV.R.tst, EV.end_nx, EV.end_rd, EV.end_rn, EV.end_exc, EV.ret_d, EV.ret_nw, EV.ioNd, EV.iosOf, EV.den, EV.dens, EV.keep, EV.keeps, EV.args, EV.back, EV.outsOf, EV.stD, EV.bt_nm, EV.bt_tp, EV.bt_nil, EV.bt_cons, EV.wip, EV.ioOk, EV.parD, EV.putW, EV.augF, EV.binD, EV.same_cmp, EV.same_ne, EV.ints_shp, EV.ints_shpL, EV.cmp_ii, EV.cmp_ni, EV.cmp_ss, EV.cmp_ns, EV.cmp_bb, EV.cmp_nb, EV.cmp_lt, EV.cmp_le, EV.cmp_gt, EV.cmp_ge, EV.is_n, EV.is_b, EV.is_i, EV.is_s, EV.is_l, EV.is_t, EV.is_bb, EV.isn_n, EV.isn_b, EV.isn_i, EV.isn_s, EV.isn_l, EV.isn_t, EV.isn_bb, EV.tru_n, EV.tru_b, EV.tru_i, EV.tru_l, EV.tru_t, EV.biD, EV.idx_l, EV.idx_t, EV.cut_l, EV.cut_t, EV.seq_l, EV.seq_t, EV.zipD, EV.rngD, EV.enumD, EV.enzD, EV.tupW, EV.lstW, EV.rev_l, EV.rev_t, EV.thenS_nx, EV.thenS_rt, EV.thenS_ct, EV.thenS_exc, EV.hold_nil, EV.for_eq, EV.onS_some, EV.bindD_eq, EV.ite_okb, EV.lim, EV.zip_maps, EV.zip3_maps, EV.enum_maps]); simp [slD]
    | [a] => (rw [hold_cons]; simp [EV.evSs, EV.evS, EV.evE, EV.evEs, EV.evAnd, EV.evOr, EV.evO, EV.evI, EV.evIfs, EV.R.bind, EV.R.fl, EV.R.of, EV.R.tst, EV.end_nx, EV.end_rd, EV.end_rn, EV.end_exc, EV.ret_d, EV.ret_nw, EV.ioNd, EV.iosOf, EV.den, EV.dens, EV.keep, EV.keeps, EV.args, EV.back, EV.outsOf, EV.stD, EV.bt_nm, EV.bt_tp, EV.bt_nil, EV.bt_cons, EV.wip, EV.ioOk, EV.parD, EV.putW, EV.augF, EV.binD, EV.same_cmp, EV.same_ne, EV.ints_shp, EV.ints_shpL, EV.cmp_ii, EV.cmp_ni, EV.cmp_ss, EV.cmp_ns, EV.cmp_bb, EV.cmp_nb, EV.cmp_lt, EV.cmp_le, EV.cmp_gt, EV.cmp_ge, EV.is_n, EV.is_b, EV.is_i, EV.is_s, EV.is_l, EV.is_t, EV.is_bb, EV.isn_n, EV.isn_b, EV.isn_i, EV.isn_s, EV.isn_l, EV.isn_t, EV.isn_bb, EV.tru_n, EV.tru_b, EV.tru_i, EV.tru_l, EV.tru_t, EV.biD, EV.idx_l, EV.idx_t, EV.cut_l, EV.cut_t, EV.seq_l, EV.seq_t, EV.zipD, EV.rngD, EV.enumD, EV.enzD, EV.tupW, EV.lstW, EV.rev_l, EV.rev_t, EV.thenS_nx, EV.thenS_rt, EV.thenS_ct, EV.thenS_exc, EV.hold_nil, EV.for_eq, EV.onS_some, EV.bindD_eq, EV.ite_okb, EV.lim, EV.zip_maps, EV.zip3_maps, EV.enum_maps]); simp [slD]
    | a :: b :: c :: r =>
      have h : ¬ ((r.length : Int) + 1 + 1 + 1 = 2) := by omega
      (rw [hold_cons]; simp [EV.evSs, EV.evS, EV.evE, EV.evEs, EV.evAnd, EV.evOr, EV.evO, EV.evI, EV.evIfs, EV.R.bind, EV.R.fl, EV.R.of, EV.R.tst, EV.end_nx, EV.end_rd, EV.end_rn, EV.end_exc, EV.ret_d, EV.ret_nw, EV.ioNd, EV.iosOf, EV.den, EV.dens, EV.keep, EV.keeps, EV.args, EV.back, EV.outsOf, EV.stD, EV.bt_nm, EV.bt_tp, EV.bt_nil, EV.bt_cons, EV.wip, EV.ioOk, EV.parD, EV.putW, EV.augF, EV.binD, EV.same_cmp, EV.same_ne, EV.ints_shp, EV.ints_shpL, EV.cmp_ii, EV.cmp_ni, EV.cmp_ss, EV.cmp_ns, EV.cmp_bb, EV.cmp_nb, EV.cmp_lt, EV.cmp_le, EV.cmp_gt, EV.cmp_ge, EV.is_n, EV.is_b, EV.is_i, EV.is_s, EV.is_l, EV.is_t, EV.is_bb, EV.isn_n, EV.isn_b, EV.isn_i, EV.isn_s, EV.isn_l, EV.isn_t, EV.isn_bb, EV.tru_n, EV.tru_b, EV.tru_i, EV.tru_l, EV.tru_t, EV.biD, EV.idx_l, EV.idx_t, EV.cut_l, EV.cut_t, EV.seq_l, EV.seq_t, EV.zipD, EV.rngD, EV.enumD, EV.enzD, EV.tupW, EV.lstW, EV.rev_l, EV.rev_t, EV.thenS_nx, EV.thenS_rt, EV.thenS_ct, EV.thenS_exc, EV.hold_nil, EV.for_eq, EV.onS_some, EV.bindD_eq, EV.ite_okb, EV.lim, EV.zip_maps, EV.zip3_maps, EV.enum_maps, h])
      simp [slD]
    | [a, b] =>
      have x1 := x_is_among n a 0 2
      have x2 := x_is_among n b 0 60
      (rw [hold_cons]; simp [EV.evSs, EV.evS, EV.evE, EV.evEs, EV.evAnd, EV.evOr, EV.evO, EV.evI, EV.evIfs, EV.R.bind, EV.R.fl, EV.R.of, EV.R.tst, EV.end_nx, EV.end_rd, EV.end_rn, EV.end_exc, EV.ret_d, EV.ret_nw, EV.ioNd, EV.iosOf, EV.den, EV.dens, EV.keep, EV.keeps, EV.args, EV.back, EV.outsOf, EV.stD, EV.bt_nm, EV.bt_tp, EV.bt_nil, EV.bt_cons, EV.wip, EV.ioOk, EV.parD, EV.putW, EV.augF, EV.binD, EV.same_cmp, EV.same_ne, EV.ints_shp, EV.ints_shpL, EV.cmp_ii, EV.cmp_ni, EV.cmp_ss, EV.cmp_ns, EV.cmp_bb, EV.cmp_nb, EV.cmp_lt, EV.cmp_le, EV.cmp_gt, EV.cmp_ge, EV.is_n, EV.is_b, EV.is_i, EV.is_s, EV.is_l, EV.is_t, EV.is_bb, EV.isn_n, EV.isn_b, EV.isn_i, EV.isn_s, EV.isn_l, EV.isn_t, EV.isn_bb, EV.tru_n, EV.tru_b, EV.tru_i, EV.tru_l, EV.tru_t, EV.biD, EV.idx_l, EV.idx_t, EV.cut_l, EV.cut_t, EV.seq_l, EV.seq_t, EV.zipD, EV.rngD, EV.enumD, EV.enzD, EV.tupW, EV.lstW, EV.rev_l, EV.rev_t, EV.thenS_nx, EV.thenS_rt, EV.thenS_ct, EV.thenS_exc, EV.hold_nil, EV.for_eq, EV.onS_some, EV.bindD_eq, EV.ite_okb, EV.lim, EV.zip_maps, EV.zip3_maps, EV.enum_maps])
      have hq : evE gm.G (CC (n + 2)) q_are_slips_0 [some (.d (.tuple [a, b])), none, none] = .ok (.nw ([(a, (2 : Int)), (b, (60 : Int))].map fun p => .bool (isAmong p.1 0 p.2))) [some (.d (.tuple [a, b])), none, none] :=
        comp_as [(a, (2 : Int)), (b, (60 : Int))] (fun p => .tuple [p.1, .int p.2]) _ (by simp [EV.evSs, EV.evS, EV.evE, EV.evEs, EV.evAnd, EV.evOr, EV.evO, EV.evI, EV.evIfs, EV.R.bind, EV.R.fl, EV.R.of, EV.R.tst, EV.endCR, EV.ioNd, EV.iosOf, EV.den, EV.dens, EV.keep, EV.keeps, EV.args, EV.back, EV.retOk, EV.outsOf, EV.stD, EV.bindT, EV.bindTs, EV.wip, EV.ioOk, EV.binD, EV.cmpD, EV.truD, EV.biD, EV.idxD, EV.cutD, EV.seqD, EV.zipD, EV.rngD, EV.enumD, EV.enzD, EV.tupW, EV.lstW, EV.shp, EV.revD, zip2]) rfl (by simp) fun p hp => by
          have := x_is_among n p.1 0 p.2
          simp [EV.evSs, EV.evS, EV.evE, EV.evEs, EV.evAnd, EV.evOr, EV.evO, EV.evI, EV.evIfs, EV.R.bind, EV.R.fl, EV.R.of, EV.R.tst, EV.endCR, EV.ioNd, EV.iosOf, EV.den, EV.dens, EV.keep, EV.keeps, EV.args, EV.back, EV.retOk, EV.outsOf, EV.stD, EV.bindT, EV.bindTs, EV.wip, EV.ioOk, EV.binD, EV.cmpD, EV.truD, EV.biD, EV.idxD, EV.cutD, EV.seqD, EV.zipD, EV.rngD, EV.enumD, EV.enzD, EV.tupW, EV.lstW, EV.shp, EV.revD, turnC, this]
      simp only [List.map_cons, List.map_nil] at hq
      (rw [hold_cons]; simp [EV.evSs, EV.evS, EV.evE, EV.evEs, EV.evAnd, EV.evOr, EV.evO, EV.evI, EV.evIfs, EV.R.bind, EV.R.fl, EV.R.of, EV.R.tst, EV.end_nx, EV.end_rd, EV.end_rn, EV.end_exc, EV.ret_d, EV.ret_nw, EV.ioNd, EV.iosOf, EV.den, EV.dens, EV.keep, EV.keeps, EV.args, EV.back, EV.outsOf, EV.stD, EV.bt_nm, EV.bt_tp, EV.bt_nil, EV.bt_cons, EV.wip, EV.ioOk, EV.parD, EV.putW, EV.augF, EV.binD, EV.same_cmp, EV.same_ne, EV.ints_shp, EV.ints_shpL, EV.cmp_ii, EV.cmp_ni, EV.cmp_ss, EV.cmp_ns, EV.cmp_bb, EV.cmp_nb, EV.cmp_lt, EV.cmp_le, EV.cmp_gt, EV.cmp_ge, EV.is_n, EV.is_b, EV.is_i, EV.is_s, EV.is_l, EV.is_t, EV.is_bb, EV.isn_n, EV.isn_b, EV.isn_i, EV.isn_s, EV.isn_l, EV.isn_t, EV.isn_bb, EV.tru_n, EV.tru_b, EV.tru_i, EV.tru_l, EV.tru_t, EV.biD, EV.idx_l, EV.idx_t, EV.cut_l, EV.cut_t, EV.seq_l, EV.seq_t, EV.zipD, EV.rngD, EV.enumD, EV.enzD, EV.tupW, EV.lstW, EV.rev_l, EV.rev_t, EV.thenS_nx, EV.thenS_rt, EV.thenS_ct, EV.thenS_exc, EV.hold_nil, EV.for_eq, EV.onS_some, EV.bindD_eq, EV.ite_okb, EV.lim, EV.zip_maps, EV.zip3_maps, EV.enum_maps, hq, blsD])
      simp [slD]
  | _ => (rw [hold_cons]; simp [EV.evSs, EV.evS, EV.evE, EV.evEs, EV.evAnd, EV.evOr, EV.evO, EV.evI, EV.evIfs, EV.R.bind, EV.R.fl, EV.R.of, EV.R.tst, EV.end_nx, EV.end_rd, EV.end_rn, EV.end_exc, EV.ret_d, EV.ret_nw, EV.ioNd, EV.iosOf, EV.den, EV.dens, EV.keep, EV.keeps, EV.args, EV.back, EV.outsOf, EV.stD, EV.bt_nm, EV.bt_tp, EV.bt_nil, EV.bt_cons, EV.wip, EV.ioOk, EV.parD, EV.putW, EV.augF, EV.binD, EV.same_cmp, EV.same_ne, EV.ints_shp, EV.ints_shpL, EV.cmp_ii, EV.cmp_ni, EV.cmp_ss, EV.cmp_ns, EV.cmp_bb, EV.cmp_nb, EV.cmp_lt, EV.cmp_le, EV.cmp_gt, EV.cmp_ge, EV.is_n, EV.is_b, EV.is_i, EV.is_s, EV.is_l, EV.is_t, EV.is_bb, EV.isn_n, EV.isn_b, EV.isn_i, EV.isn_s, EV.isn_l, EV.isn_t, EV.isn_bb, EV.tru_n, EV.tru_b, EV.tru_i, EV.tru_l, EV.tru_t, EV.biD, EV.idx_l, EV.idx_t, EV.cut_l, EV.cut_t, EV.seq_l, EV.seq_t, EV.zipD, EV.rngD, EV.enumD, EV.enzD, EV.tupW, EV.lstW, EV.rev_l, EV.rev_t, EV.thenS_nx, EV.thenS_rt, EV.thenS_ct, EV.thenS_exc, EV.hold_nil, EV.for_eq, EV.onS_some, EV.bindD_eq, EV.ite_okb, EV.lim, EV.zip_maps, EV.zip3_maps, EV.enum_maps]); simp [slD]
theorem x_reading_of (n : Nat) (r : List Kd) (d : D) (hr : r.length ≤ 3) : CC (n + 4) i_is_reading_of [.d (rowE r), .d d] = .ok (.d (.bool (rdD r d))) [none, none] := by
  rw [u_is_reading_of _ _ _ rfl, b_is_reading_of, hold_eq]
  cases d with
  | tuple xs =>
    match xs with
    | [] => (rw [hold_cons]; simp [EV.evSs, EV.evS, EV.evE, EV.evEs, EV.evAnd, EV.evOr, EV.evO, EV.evI, EV.evIfs, EV.R.bind, EV.R.fl, EV.R.of, EV.R.tst, EV.end_nx, EV.end_rd, EV.end_rn, EV.end_exc, EV.ret_d, EV.ret_nw, EV.ioNd, EV.iosOf, EV.den, EV.dens, EV.keep, EV.keeps, EV.args, EV.back, EV.outsOf, EV.stD, EV.bt_nm, EV.bt_tp, EV.bt_nil, EV.bt_cons, EV.wip, EV.ioOk, EV.parD, EV.putW, EV.augF, EV.binD, EV.same_cmp, EV.same_ne, EV.ints_shp, EV.ints_shpL, EV.cmp_ii, EV.cmp_ni, EV.cmp_ss, EV.cmp_ns, EV.cmp_bb, EV.cmp_nb, EV.cmp_lt, EV.cmp_le, EV.cmp_gt, EV.cmp_ge, EV.is_n, EV.is_b, EV.is_i, EV.is_s, EV.is_l, EV.is_t, EV.is_bb, EV.isn_n, EV.isn_b, EV.isn_i, EV.isn_s, EV.isn_l, EV.isn_t, EV.isn_bb, EV.tru_n, EV.tru_b, EV.tru_i, EV.tru_l, EV.tru_t, EV.biD, EV.idx_l, EV.idx_t, EV.cut_l, EV.cut_t, EV.seq_l, EV.seq_t, EV.zipD, EV.rngD, EV.enumD, EV.enzD, EV.tupW, EV.lstW, EV.rev_l, EV.rev_t, EV.thenS_nx, EV.thenS_rt, EV.thenS_ct, EV.thenS_exc, EV.hold_nil, EV.for_eq, EV.onS_some, EV.bindD_eq, EV.ite_okb, EV.lim, EV.zip_maps, EV.zip3_maps, EV.enum_maps]); simp [rdD]
    | [a] => (rw [hold_cons]; simp [EV.evSs, EV.evS, EV.evE, EV.evEs, EV.evAnd, EV.evOr, EV.evO, EV.evI, EV.evIfs, EV.R.bind, EV.R.fl, EV.R.of, EV.R.tst, EV.end_nx, EV.end_rd, EV.end_rn, EV.end_exc, EV.ret_d, EV.ret_nw, EV.ioNd, EV.iosOf, EV.den, EV.dens, EV.keep, EV.keeps, EV.args, EV.back, EV.outsOf, EV.stD, EV.bt_nm, EV.bt_tp, EV.bt_nil, EV.bt_cons, EV.wip, EV.ioOk, EV.parD, EV.putW, EV.augF, EV.binD, EV.same_cmp, EV.same_ne, EV.ints_shp, EV.ints_shpL, EV.cmp_ii, EV.cmp_ni, EV.cmp_ss, EV.cmp_ns, EV.cmp_bb, EV.cmp_nb, EV.cmp_lt, EV.cmp_le, EV.cmp_gt, EV.cmp_ge, EV.is_n, EV.is_b, EV.is_i, EV.is_s, EV.is_l, EV.is_t, EV.is_bb, EV.isn_n, EV.isn_b, EV.isn_i, EV.isn_s, EV.isn_l, EV.isn_t, EV.isn_bb, EV.tru_n, EV.tru_b, EV.tru_i, EV.tru_l, EV.tru_t, EV.biD, EV.idx_l, EV.idx_t, EV.cut_l, EV.cut_t, EV.seq_l, EV.seq_t, EV.zipD, EV.rngD, EV.enumD, EV.enzD, EV.tupW, EV.lstW, EV.rev_l, EV.rev_t, EV.thenS_nx, EV.thenS_rt, EV.thenS_ct, EV.thenS_exc, EV.hold_nil, EV.for_eq, EV.onS_some, EV.bindD_eq, EV.ite_okb, EV.lim, EV.zip_maps, EV.zip3_maps, EV.enum_maps]); simp [rdD]
    | a :: b :: c :: r' =>
      have h : ¬ ((r'.length : Int) + 1 + 1 + 1 = 2) := by omega
      (rw [hold_cons]; simp [EV.evSs, EV.evS, EV.evE, EV.evEs, EV.evAnd, EV.evOr, EV.evO, EV.evI, EV.evIfs, EV.R.bind, EV.R.fl, EV.R.of, EV.R.tst, EV.end_nx, EV.end_rd, EV.end_rn, EV.end_exc, EV.ret_d, EV.ret_nw, EV.ioNd, EV.iosOf, EV.den, EV.dens, EV.keep, EV.keeps, EV.args, EV.back, EV.outsOf, EV.stD, EV.bt_nm, EV.bt_tp, EV.bt_nil, EV.bt_cons, EV.wip, EV.ioOk, EV.parD, EV.putW, EV.augF, EV.binD, EV.same_cmp, EV.same_ne, EV.ints_shp, EV.ints_shpL, EV.cmp_ii, EV.cmp_ni, EV.cmp_ss, EV.cmp_ns, EV.cmp_bb, EV.cmp_nb, EV.cmp_lt, EV.cmp_le, EV.cmp_gt, EV.cmp_ge, EV.is_n, EV.is_b, EV.is_i, EV.is_s, EV.is_l, EV.is_t, EV.is_bb, EV.isn_n, EV.isn_b, EV.isn_i, EV.isn_s, EV.isn_l, EV.isn_t, EV.isn_bb, EV.tru_n, EV.tru_b, EV.tru_i, EV.tru_l, EV.tru_t, EV.biD, EV.idx_l, EV.idx_t, EV.cut_l, EV.cut_t, EV.seq_l, EV.seq_t, EV.zipD, EV.rngD, EV.enumD, EV.enzD, EV.tupW, EV.lstW, EV.rev_l, EV.rev_t, EV.thenS_nx, EV.thenS_rt, EV.thenS_ct, EV.thenS_exc, EV.hold_nil, EV.for_eq, EV.onS_some, EV.bindD_eq, EV.ite_okb, EV.lim, EV.zip_maps, EV.zip3_maps, EV.enum_maps, h])
      simp [rdD]
    | [t, v] =>
      have x1 := x_is_read n t 12
      have a0 : atD [t, v] 0 = some t := rfl
      have a1 : atD [t, v] 1 = some v := rfl
      cases ht : isRead t 12 with
      | false =>
        rw [ht] at x1
        (rw [hold_cons]; simp [EV.evSs, EV.evS, EV.evE, EV.evEs, EV.evAnd, EV.evOr, EV.evO, EV.evI, EV.evIfs, EV.R.bind, EV.R.fl, EV.R.of, EV.R.tst, EV.end_nx, EV.end_rd, EV.end_rn, EV.end_exc, EV.ret_d, EV.ret_nw, EV.ioNd, EV.iosOf, EV.den, EV.dens, EV.keep, EV.keeps, EV.args, EV.back, EV.outsOf, EV.stD, EV.bt_nm, EV.bt_tp, EV.bt_nil, EV.bt_cons, EV.wip, EV.ioOk, EV.parD, EV.putW, EV.augF, EV.binD, EV.same_cmp, EV.same_ne, EV.ints_shp, EV.ints_shpL, EV.cmp_ii, EV.cmp_ni, EV.cmp_ss, EV.cmp_ns, EV.cmp_bb, EV.cmp_nb, EV.cmp_lt, EV.cmp_le, EV.cmp_gt, EV.cmp_ge, EV.is_n, EV.is_b, EV.is_i, EV.is_s, EV.is_l, EV.is_t, EV.is_bb, EV.isn_n, EV.isn_b, EV.isn_i, EV.isn_s, EV.isn_l, EV.isn_t, EV.isn_bb, EV.tru_n, EV.tru_b, EV.tru_i, EV.tru_l, EV.tru_t, EV.biD, EV.idx_l, EV.idx_t, EV.cut_l, EV.cut_t, EV.seq_l, EV.seq_t, EV.zipD, EV.rngD, EV.enumD, EV.enzD, EV.tupW, EV.lstW, EV.rev_l, EV.rev_t, EV.thenS_nx, EV.thenS_rt, EV.thenS_ct, EV.thenS_exc, EV.hold_nil, EV.for_eq, EV.onS_some, EV.bindD_eq, EV.ite_okb, EV.lim, EV.zip_maps, EV.zip3_maps, EV.enum_maps, a0, x1])
        cases v <;> simp [rdD, ht]
      | true =>
        rw [ht] at x1
        (rw [hold_cons]; simp [EV.evSs, EV.evS, EV.evE, EV.evEs, EV.evAnd, EV.evOr, EV.evO, EV.evI, EV.evIfs, EV.R.bind, EV.R.fl, EV.R.of, EV.R.tst, EV.end_nx, EV.end_rd, EV.end_rn, EV.end_exc, EV.ret_d, EV.ret_nw, EV.ioNd, EV.iosOf, EV.den, EV.dens, EV.keep, EV.keeps, EV.args, EV.back, EV.outsOf, EV.stD, EV.bt_nm, EV.bt_tp, EV.bt_nil, EV.bt_cons, EV.wip, EV.ioOk, EV.parD, EV.putW, EV.augF, EV.binD, EV.same_cmp, EV.same_ne, EV.ints_shp, EV.ints_shpL, EV.cmp_ii, EV.cmp_ni, EV.cmp_ss, EV.cmp_ns, EV.cmp_bb, EV.cmp_nb, EV.cmp_lt, EV.cmp_le, EV.cmp_gt, EV.cmp_ge, EV.is_n, EV.is_b, EV.is_i, EV.is_s, EV.is_l, EV.is_t, EV.is_bb, EV.isn_n, EV.isn_b, EV.isn_i, EV.isn_s, EV.isn_l, EV.isn_t, EV.isn_bb, EV.tru_n, EV.tru_b, EV.tru_i, EV.tru_l, EV.tru_t, EV.biD, EV.idx_l, EV.idx_t, EV.cut_l, EV.cut_t, EV.seq_l, EV.seq_t, EV.zipD, EV.rngD, EV.enumD, EV.enzD, EV.tupW, EV.lstW, EV.rev_l, EV.rev_t, EV.thenS_nx, EV.thenS_rt, EV.thenS_ct, EV.thenS_exc, EV.hold_nil, EV.for_eq, EV.onS_some, EV.bindD_eq, EV.ite_okb, EV.lim, EV.zip_maps, EV.zip3_maps, EV.enum_maps, a0, x1])
        (rw [hold_cons]; simp [EV.evSs, EV.evS, EV.evE, EV.evEs, EV.evAnd, EV.evOr, EV.evO, EV.evI, EV.evIfs, EV.R.bind, EV.R.fl, EV.R.of, EV.R.tst, EV.end_nx, EV.end_rd, EV.end_rn, EV.end_exc, EV.ret_d, EV.ret_nw, EV.ioNd, EV.iosOf, EV.den, EV.dens, EV.keep, EV.keeps, EV.args, EV.back, EV.outsOf, EV.stD, EV.bt_nm, EV.bt_tp, EV.bt_nil, EV.bt_cons, EV.wip, EV.ioOk, EV.parD, EV.putW, EV.augF, EV.binD, EV.same_cmp, EV.same_ne, EV.ints_shp, EV.ints_shpL, EV.cmp_ii, EV.cmp_ni, EV.cmp_ss, EV.cmp_ns, EV.cmp_bb, EV.cmp_nb, EV.cmp_lt, EV.cmp_le, EV.cmp_gt, EV.cmp_ge, EV.is_n, EV.is_b, EV.is_i, EV.is_s, EV.is_l, EV.is_t, EV.is_bb, EV.isn_n, EV.isn_b, EV.isn_i, EV.isn_s, EV.isn_l, EV.isn_t, EV.isn_bb, EV.tru_n, EV.tru_b, EV.tru_i, EV.tru_l, EV.tru_t, EV.biD, EV.idx_l, EV.idx_t, EV.cut_l, EV.cut_t, EV.seq_l, EV.seq_t, EV.zipD, EV.rngD, EV.enumD, EV.enzD, EV.tupW, EV.lstW, EV.rev_l, EV.rev_t, EV.thenS_nx, EV.thenS_rt, EV.thenS_ct, EV.thenS_exc, EV.hold_nil, EV.for_eq, EV.onS_some, EV.bindD_eq, EV.ite_okb, EV.lim, EV.zip_maps, EV.zip3_maps, EV.enum_maps, a1])
        cases v with
        | tuple vs =>
          by_cases hl : vs.length = r.length
          · have hli : ((vs.length : Int) = (r.length : Int)) := by omega
            (rw [hold_cons]; simp [EV.evSs, EV.evS, EV.evE, EV.evEs, EV.evAnd, EV.evOr, EV.evO, EV.evI, EV.evIfs, EV.R.bind, EV.R.fl, EV.R.of, EV.R.tst, EV.end_nx, EV.end_rd, EV.end_rn, EV.end_exc, EV.ret_d, EV.ret_nw, EV.ioNd, EV.iosOf, EV.den, EV.dens, EV.keep, EV.keeps, EV.args, EV.back, EV.outsOf, EV.stD, EV.bt_nm, EV.bt_tp, EV.bt_nil, EV.bt_cons, EV.wip, EV.ioOk, EV.parD, EV.putW, EV.augF, EV.binD, EV.same_cmp, EV.same_ne, EV.ints_shp, EV.ints_shpL, EV.cmp_ii, EV.cmp_ni, EV.cmp_ss, EV.cmp_ns, EV.cmp_bb, EV.cmp_nb, EV.cmp_lt, EV.cmp_le, EV.cmp_gt, EV.cmp_ge, EV.is_n, EV.is_b, EV.is_i, EV.is_s, EV.is_l, EV.is_t, EV.is_bb, EV.isn_n, EV.isn_b, EV.isn_i, EV.isn_s, EV.isn_l, EV.isn_t, EV.isn_bb, EV.tru_n, EV.tru_b, EV.tru_i, EV.tru_l, EV.tru_t, EV.biD, EV.idx_l, EV.idx_t, EV.cut_l, EV.cut_t, EV.seq_l, EV.seq_t, EV.zipD, EV.rngD, EV.enumD, EV.enzD, EV.tupW, EV.lstW, EV.rev_l, EV.rev_t, EV.thenS_nx, EV.thenS_rt, EV.thenS_ct, EV.thenS_exc, EV.hold_nil, EV.for_eq, EV.onS_some, EV.bindD_eq, EV.ite_okb, EV.lim, EV.zip_maps, EV.zip3_maps, EV.enum_maps, hli])
            have hq : evE gm.G (CC (n + 3)) q_is_reading_of_0 [some (.d (rowE r)), some (.d (.tuple [t, .tuple vs])), some (.d (.tuple vs)), none] = .ok (.nw (vs.map fun x => .bool (isRead x 9999))) [some (.d (rowE r)), some (.d (.tuple [t, .tuple vs])), some (.d (.tuple vs)), none] :=
              comp_as vs (fun d : D => d) _ (by simp [EV.evSs, EV.evS, EV.evE, EV.evEs, EV.evAnd, EV.evOr, EV.evO, EV.evI, EV.evIfs, EV.R.bind, EV.R.fl, EV.R.of, EV.R.tst, EV.endCR, EV.ioNd, EV.iosOf, EV.den, EV.dens, EV.keep, EV.keeps, EV.args, EV.back, EV.retOk, EV.outsOf, EV.stD, EV.bindT, EV.bindTs, EV.wip, EV.ioOk, EV.binD, EV.cmpD, EV.truD, EV.biD, EV.idxD, EV.cutD, EV.seqD, EV.zipD, EV.rngD, EV.enumD, EV.enzD, EV.tupW, EV.lstW, EV.shp, EV.revD]) rfl (by omega) fun a ha => by simp [EV.evSs, EV.evS, EV.evE, EV.evEs, EV.evAnd, EV.evOr, EV.evO, EV.evI, EV.evIfs, EV.R.bind, EV.R.fl, EV.R.of, EV.R.tst, EV.endCR, EV.ioNd, EV.iosOf, EV.den, EV.dens, EV.keep, EV.keeps, EV.args, EV.back, EV.retOk, EV.outsOf, EV.stD, EV.bindT, EV.bindTs, EV.wip, EV.ioOk, EV.binD, EV.cmpD, EV.truD, EV.biD, EV.idxD, EV.cutD, EV.seqD, EV.zipD, EV.rngD, EV.enumD, EV.enzD, EV.tupW, EV.lstW, EV.shp, EV.revD, turnC, x_is_read n a 9999]
            have := all_of vs fun v => isRead v 9999
            simp only [biD, seqD, Option.bind_some] at this
            (rw [hold_cons]; simp [EV.evSs, EV.evS, EV.evE, EV.evEs, EV.evAnd, EV.evOr, EV.evO, EV.evI, EV.evIfs, EV.R.bind, EV.R.fl, EV.R.of, EV.R.tst, EV.end_nx, EV.end_rd, EV.end_rn, EV.end_exc, EV.ret_d, EV.ret_nw, EV.ioNd, EV.iosOf, EV.den, EV.dens, EV.keep, EV.keeps, EV.args, EV.back, EV.outsOf, EV.stD, EV.bt_nm, EV.bt_tp, EV.bt_nil, EV.bt_cons, EV.wip, EV.ioOk, EV.parD, EV.putW, EV.augF, EV.binD, EV.same_cmp, EV.same_ne, EV.ints_shp, EV.ints_shpL, EV.cmp_ii, EV.cmp_ni, EV.cmp_ss, EV.cmp_ns, EV.cmp_bb, EV.cmp_nb, EV.cmp_lt, EV.cmp_le, EV.cmp_gt, EV.cmp_ge, EV.is_n, EV.is_b, EV.is_i, EV.is_s, EV.is_l, EV.is_t, EV.is_bb, EV.isn_n, EV.isn_b, EV.isn_i, EV.isn_s, EV.isn_l, EV.isn_t, EV.isn_bb, EV.tru_n, EV.tru_b, EV.tru_i, EV.tru_l, EV.tru_t, EV.biD, EV.idx_l, EV.idx_t, EV.cut_l, EV.cut_t, EV.seq_l, EV.seq_t, EV.zipD, EV.rngD, EV.enumD, EV.enzD, EV.tupW, EV.lstW, EV.rev_l, EV.rev_t, EV.thenS_nx, EV.thenS_rt, EV.thenS_ct, EV.thenS_exc, EV.hold_nil, EV.for_eq, EV.onS_some, EV.bindD_eq, EV.ite_okb, EV.lim, EV.zip_maps, EV.zip3_maps, EV.enum_maps, hq, this])
            simp [rdD, ht, hl]
          · have hli : ¬ ((vs.length : Int) = (r.length : Int)) := by omega
            (rw [hold_cons]; simp [EV.evSs, EV.evS, EV.evE, EV.evEs, EV.evAnd, EV.evOr, EV.evO, EV.evI, EV.evIfs, EV.R.bind, EV.R.fl, EV.R.of, EV.R.tst, EV.end_nx, EV.end_rd, EV.end_rn, EV.end_exc, EV.ret_d, EV.ret_nw, EV.ioNd, EV.iosOf, EV.den, EV.dens, EV.keep, EV.keeps, EV.args, EV.back, EV.outsOf, EV.stD, EV.bt_nm, EV.bt_tp, EV.bt_nil, EV.bt_cons, EV.wip, EV.ioOk, EV.parD, EV.putW, EV.augF, EV.binD, EV.same_cmp, EV.same_ne, EV.ints_shp, EV.ints_shpL, EV.cmp_ii, EV.cmp_ni, EV.cmp_ss, EV.cmp_ns, EV.cmp_bb, EV.cmp_nb, EV.cmp_lt, EV.cmp_le, EV.cmp_gt, EV.cmp_ge, EV.is_n, EV.is_b, EV.is_i, EV.is_s, EV.is_l, EV.is_t, EV.is_bb, EV.isn_n, EV.isn_b, EV.isn_i, EV.isn_s, EV.isn_l, EV.isn_t, EV.isn_bb, EV.tru_n, EV.tru_b, EV.tru_i, EV.tru_l, EV.tru_t, EV.biD, EV.idx_l, EV.idx_t, EV.cut_l, EV.cut_t, EV.seq_l, EV.seq_t, EV.zipD, EV.rngD, EV.enumD, EV.enzD, EV.tupW, EV.lstW, EV.rev_l, EV.rev_t, EV.thenS_nx, EV.thenS_rt, EV.thenS_ct, EV.thenS_exc, EV.hold_nil, EV.for_eq, EV.onS_some, EV.bindD_eq, EV.ite_okb, EV.lim, EV.zip_maps, EV.zip3_maps, EV.enum_maps, hli])
            simp [rdD, hl]
        | _ => (rw [hold_cons]; simp [EV.evSs, EV.evS, EV.evE, EV.evEs, EV.evAnd, EV.evOr, EV.evO, EV.evI, EV.evIfs, EV.R.bind, EV.R.fl, EV.R.of, EV.R.tst, EV.end_nx, EV.end_rd, EV.end_rn, EV.end_exc, EV.ret_d, EV.ret_nw, EV.ioNd, EV.iosOf, EV.den, EV.dens, EV.keep, EV.keeps, EV.args, EV.back, EV.outsOf, EV.stD, EV.bt_nm, EV.bt_tp, EV.bt_nil, EV.bt_cons, EV.wip, EV.ioOk, EV.parD, EV.putW, EV.augF, EV.binD, EV.same_cmp, EV.same_ne, EV.ints_shp, EV.ints_shpL, EV.cmp_ii, EV.cmp_ni, EV.cmp_ss, EV.cmp_ns, EV.cmp_bb, EV.cmp_nb, EV.cmp_lt, EV.cmp_le, EV.cmp_gt, EV.cmp_ge, EV.is_n, EV.is_b, EV.is_i, EV.is_s, EV.is_l, EV.is_t, EV.is_bb, EV.isn_n, EV.isn_b, EV.isn_i, EV.isn_s, EV.isn_l, EV.isn_t, EV.isn_bb, EV.tru_n, EV.tru_b, EV.tru_i, EV.tru_l, EV.tru_t, EV.biD, EV.idx_l, EV.idx_t, EV.cut_l, EV.cut_t, EV.seq_l, EV.seq_t, EV.zipD, EV.rngD, EV.enumD, EV.enzD, EV.tupW, EV.lstW, EV.rev_l, EV.rev_t, EV.thenS_nx, EV.thenS_rt, EV.thenS_ct, EV.thenS_exc, EV.hold_nil, EV.for_eq, EV.onS_some, EV.bindD_eq, EV.ite_okb, EV.lim, EV.zip_maps, EV.zip3_maps, EV.enum_maps]); simp [rdD]
  | _ => (rw [hold_cons]; simp [EV.evSs, EV.evS, EV.evE, EV.evEs, EV.evAnd, EV.evOr, EV.evO, EV.evI, EV.evIfs, EV.R.bind, EV.R.fl, EV.R.of, EV.R.tst, EV.end_nx, EV.end_rd, EV.end_rn, EV.end_exc, EV.ret_d, EV.ret_nw, EV.ioNd, EV.iosOf, EV.den, EV.dens, EV.keep, EV.keeps, EV.args, EV.back, EV.outsOf, EV.stD, EV.bt_nm, EV.bt_tp, EV.bt_nil, EV.bt_cons, EV.wip, EV.ioOk, EV.parD, EV.putW, EV.augF, EV.binD, EV.same_cmp, EV.same_ne, EV.ints_shp, EV.ints_shpL, EV.cmp_ii, EV.cmp_ni, EV.cmp_ss, EV.cmp_ns, EV.cmp_bb, EV.cmp_nb, EV.cmp_lt, EV.cmp_le, EV.cmp_gt, EV.cmp_ge, EV.is_n, EV.is_b, EV.is_i, EV.is_s, EV.is_l, EV.is_t, EV.is_bb, EV.isn_n, EV.isn_b, EV.isn_i, EV.isn_s, EV.isn_l, EV.isn_t, EV.isn_bb, EV.tru_n, EV.tru_b, EV.tru_i, EV.tru_l, EV.tru_t, EV.biD, EV.idx_l, EV.idx_t, EV.cut_l, EV.cut_t, EV.seq_l, EV.seq_t, EV.zipD, EV.rngD, EV.enumD, EV.enzD, EV.tupW, EV.lstW, EV.rev_l, EV.rev_t, EV.thenS_nx, EV.thenS_rt, EV.thenS_ct, EV.thenS_exc, EV.hold_nil, EV.for_eq, EV.onS_some, EV.bindD_eq, EV.ite_okb, EV.lim, EV.zip_maps, EV.zip3_maps, EV.enum_maps]); simp [rdD]
end YK17

namespace YK17
open PySem EV
/-! ### good slips, good readings; what does not fit -/
theorem sl_good {p : Slp} (h : SlOk p) : slD (ce p) = true := by
  obtain ⟨a, b⟩ := p
  obtain ⟨h1, h2, h3, h4⟩ := h
  simp only at h1 h2 h3 h4
  simp [slD, ce, isAmong, h1, h2, h3, h4]
theorem oE_read {o : Option Int} {m : Int} (h : oIn m o) : isRead (oE o) m = true := by
  cases o with
  | none => rfl
  | some i => simp only [oIn] at h; simp [oE, isRead, isAmong, h.1, h.2]
theorem rd_good {r : List Kd} {x : Rdg} (h : RdOk r x) : rdD r (rdE x) = true := by
  obtain ⟨t, vs⟩ := x
  have h1 := oE_read h.t
  have h2 := h.len
  simp only at h1 h2
  simp only [rdE, rdD, h1, List.length_map, h2, decide_true, Bool.true_and, List.all_eq_true, List.mem_map]
  rintro d ⟨o, ho, rfl⟩
  exact oE_read (h.v o ho)
theorem x_need_slips (n : Nat) (p : Slp) (h : SlOk p) : CC (n + 4) i_need_slips [.d (ce p)] = .ok (.d .none) [none] := by
  rw [u_need_slips _ _ rfl, b_need_slips, hold_eq]
  have := x_are_slips n (ce p)
  rw [sl_good h] at this
  (rw [hold_cons]; simp [EV.evSs, EV.evS, EV.evE, EV.evEs, EV.evAnd, EV.evOr, EV.evO, EV.evI, EV.evIfs, EV.R.bind, EV.R.fl, EV.R.of, EV.R.tst, EV.end_nx, EV.end_rd, EV.end_rn, EV.end_exc, EV.ret_d, EV.ret_nw, EV.ioNd, EV.iosOf, EV.den, EV.dens, EV.keep, EV.keeps, EV.args, EV.back, EV.outsOf, EV.stD, EV.bt_nm, EV.bt_tp, EV.bt_nil, EV.bt_cons, EV.wip, EV.ioOk, EV.parD, EV.putW, EV.augF, EV.binD, EV.same_cmp, EV.same_ne, EV.ints_shp, EV.ints_shpL, EV.cmp_ii, EV.cmp_ni, EV.cmp_ss, EV.cmp_ns, EV.cmp_bb, EV.cmp_nb, EV.cmp_lt, EV.cmp_le, EV.cmp_gt, EV.cmp_ge, EV.is_n, EV.is_b, EV.is_i, EV.is_s, EV.is_l, EV.is_t, EV.is_bb, EV.isn_n, EV.isn_b, EV.isn_i, EV.isn_s, EV.isn_l, EV.isn_t, EV.isn_bb, EV.tru_n, EV.tru_b, EV.tru_i, EV.tru_l, EV.tru_t, EV.biD, EV.idx_l, EV.idx_t, EV.cut_l, EV.cut_t, EV.seq_l, EV.seq_t, EV.zipD, EV.rngD, EV.enumD, EV.enzD, EV.tupW, EV.lstW, EV.rev_l, EV.rev_t, EV.thenS_nx, EV.thenS_rt, EV.thenS_ct, EV.thenS_exc, EV.hold_nil, EV.for_eq, EV.onS_some, EV.bindD_eq, EV.ite_okb, EV.lim, EV.zip_maps, EV.zip3_maps, EV.enum_maps, this])
abbrev rdsE (xs : List Rdg) : D := .tuple (xs.map rdE)
theorem x_are_readings (n : Nat) (r : List Kd) (xs : List Rdg) (hr : r.length ≤ 3) (hl : xs.length ≤ 6) (h : ∀ x ∈ xs, RdOk r x) : CC (n + 5) i_are_readings [.d (rowE r), .d (rdsE xs)] = .ok (.d (.bool true)) [none, none] := by
  rw [u_are_readings _ _ _ rfl, b_are_readings, hold_eq]
  have hl2 : ¬ (6 : Int) < (xs.length : Int) := by omega
  (rw [hold_cons]; simp [EV.evSs, EV.evS, EV.evE, EV.evEs, EV.evAnd, EV.evOr, EV.evO, EV.evI, EV.evIfs, EV.R.bind, EV.R.fl, EV.R.of, EV.R.tst, EV.end_nx, EV.end_rd, EV.end_rn, EV.end_exc, EV.ret_d, EV.ret_nw, EV.ioNd, EV.iosOf, EV.den, EV.dens, EV.keep, EV.keeps, EV.args, EV.back, EV.outsOf, EV.stD, EV.bt_nm, EV.bt_tp, EV.bt_nil, EV.bt_cons, EV.wip, EV.ioOk, EV.parD, EV.putW, EV.augF, EV.binD, EV.same_cmp, EV.same_ne, EV.ints_shp, EV.ints_shpL, EV.cmp_ii, EV.cmp_ni, EV.cmp_ss, EV.cmp_ns, EV.cmp_bb, EV.cmp_nb, EV.cmp_lt, EV.cmp_le, EV.cmp_gt, EV.cmp_ge, EV.is_n, EV.is_b, EV.is_i, EV.is_s, EV.is_l, EV.is_t, EV.is_bb, EV.isn_n, EV.isn_b, EV.isn_i, EV.isn_s, EV.isn_l, EV.isn_t, EV.isn_bb, EV.tru_n, EV.tru_b, EV.tru_i, EV.tru_l, EV.tru_t, EV.biD, EV.idx_l, EV.idx_t, EV.cut_l, EV.cut_t, EV.seq_l, EV.seq_t, EV.zipD, EV.rngD, EV.enumD, EV.enzD, EV.tupW, EV.lstW, EV.rev_l, EV.rev_t, EV.thenS_nx, EV.thenS_rt, EV.thenS_ct, EV.thenS_exc, EV.hold_nil, EV.for_eq, EV.onS_some, EV.bindD_eq, EV.ite_okb, EV.lim, EV.zip_maps, EV.zip3_maps, EV.enum_maps, hl2])
  have hq : evE gm.G (CC (n + 4)) q_are_readings_0 [some (.d (rowE r)), some (.d (rdsE xs)), none] = .ok (.nw (xs.map fun _ => .bool true)) [some (.d (rowE r)), some (.d (rdsE xs)), none] :=
    comp_as xs rdE _ (by simp [EV.evSs, EV.evS, EV.evE, EV.evEs, EV.evAnd, EV.evOr, EV.evO, EV.evI, EV.evIfs, EV.R.bind, EV.R.fl, EV.R.of, EV.R.tst, EV.endCR, EV.ioNd, EV.iosOf, EV.den, EV.dens, EV.keep, EV.keeps, EV.args, EV.back, EV.retOk, EV.outsOf, EV.stD, EV.bindT, EV.bindTs, EV.wip, EV.ioOk, EV.binD, EV.cmpD, EV.truD, EV.biD, EV.idxD, EV.cutD, EV.seqD, EV.zipD, EV.rngD, EV.enumD, EV.enzD, EV.tupW, EV.lstW, EV.shp, EV.revD]) rfl (by omega) fun a ha => by
      have := x_reading_of n r (rdE a) hr
      rw [rd_good (h a ha)] at this
      simp [EV.evSs, EV.evS, EV.evE, EV.evEs, EV.evAnd, EV.evOr, EV.evO, EV.evI, EV.evIfs, EV.R.bind, EV.R.fl, EV.R.of, EV.R.tst, EV.endCR, EV.ioNd, EV.iosOf, EV.den, EV.dens, EV.keep, EV.keeps, EV.args, EV.back, EV.retOk, EV.outsOf, EV.stD, EV.bindT, EV.bindTs, EV.wip, EV.ioOk, EV.binD, EV.cmpD, EV.truD, EV.biD, EV.idxD, EV.cutD, EV.seqD, EV.zipD, EV.rngD, EV.enumD, EV.enzD, EV.tupW, EV.lstW, EV.shp, EV.revD, turnC, this]
  have := all_of xs fun _ => true
  simp only [biD, seqD, Option.bind_some] at this
  (rw [hold_cons]; simp [EV.evSs, EV.evS, EV.evE, EV.evEs, EV.evAnd, EV.evOr, EV.evO, EV.evI, EV.evIfs, EV.R.bind, EV.R.fl, EV.R.of, EV.R.tst, EV.end_nx, EV.end_rd, EV.end_rn, EV.end_exc, EV.ret_d, EV.ret_nw, EV.ioNd, EV.iosOf, EV.den, EV.dens, EV.keep, EV.keeps, EV.args, EV.back, EV.outsOf, EV.stD, EV.bt_nm, EV.bt_tp, EV.bt_nil, EV.bt_cons, EV.wip, EV.ioOk, EV.parD, EV.putW, EV.augF, EV.binD, EV.same_cmp, EV.same_ne, EV.ints_shp, EV.ints_shpL, EV.cmp_ii, EV.cmp_ni, EV.cmp_ss, EV.cmp_ns, EV.cmp_bb, EV.cmp_nb, EV.cmp_lt, EV.cmp_le, EV.cmp_gt, EV.cmp_ge, EV.is_n, EV.is_b, EV.is_i, EV.is_s, EV.is_l, EV.is_t, EV.is_bb, EV.isn_n, EV.isn_b, EV.isn_i, EV.isn_s, EV.isn_l, EV.isn_t, EV.isn_bb, EV.tru_n, EV.tru_b, EV.tru_i, EV.tru_l, EV.tru_t, EV.biD, EV.idx_l, EV.idx_t, EV.cut_l, EV.cut_t, EV.seq_l, EV.seq_t, EV.zipD, EV.rngD, EV.enumD, EV.enzD, EV.tupW, EV.lstW, EV.rev_l, EV.rev_t, EV.thenS_nx, EV.thenS_rt, EV.thenS_ct, EV.thenS_exc, EV.hold_nil, EV.for_eq, EV.onS_some, EV.bindD_eq, EV.ite_okb, EV.lim, EV.zip_maps, EV.zip3_maps, EV.enum_maps, hq, this])
theorem x_need_readings (n : Nat) (r : List Kd) (p : Slp) (xs : List Rdg) (hr : RowOk r) (hp : SlOk p) (hl : xs.length ≤ 6) (h : ∀ x ∈ xs, RdOk r x) : CC (n + 7) i_need_readings [.d (rowE r), .d (ce p), .d (rdsE xs)] = .ok (.d .none) [none, none, none] := by
  rw [u_need_readings _ _ _ _ rfl, b_need_readings, hold_eq]
  have x1 := x_need_row n r hr
  have x2 := x_need_slips (n + 2) p hp
  have x3 := x_are_readings (n + 1) r xs hr.l2 hl h
  (rw [hold_cons]; simp [EV.evSs, EV.evS, EV.evE, EV.evEs, EV.evAnd, EV.evOr, EV.evO, EV.evI, EV.evIfs, EV.R.bind, EV.R.fl, EV.R.of, EV.R.tst, EV.end_nx, EV.end_rd, EV.end_rn, EV.end_exc, EV.ret_d, EV.ret_nw, EV.ioNd, EV.iosOf, EV.den, EV.dens, EV.keep, EV.keeps, EV.args, EV.back, EV.outsOf, EV.stD, EV.bt_nm, EV.bt_tp, EV.bt_nil, EV.bt_cons, EV.wip, EV.ioOk, EV.parD, EV.putW, EV.augF, EV.binD, EV.same_cmp, EV.same_ne, EV.ints_shp, EV.ints_shpL, EV.cmp_ii, EV.cmp_ni, EV.cmp_ss, EV.cmp_ns, EV.cmp_bb, EV.cmp_nb, EV.cmp_lt, EV.cmp_le, EV.cmp_gt, EV.cmp_ge, EV.is_n, EV.is_b, EV.is_i, EV.is_s, EV.is_l, EV.is_t, EV.is_bb, EV.isn_n, EV.isn_b, EV.isn_i, EV.isn_s, EV.isn_l, EV.isn_t, EV.isn_bb, EV.tru_n, EV.tru_b, EV.tru_i, EV.tru_l, EV.tru_t, EV.biD, EV.idx_l, EV.idx_t, EV.cut_l, EV.cut_t, EV.seq_l, EV.seq_t, EV.zipD, EV.rngD, EV.enumD, EV.enzD, EV.tupW, EV.lstW, EV.rev_l, EV.rev_t, EV.thenS_nx, EV.thenS_rt, EV.thenS_ct, EV.thenS_exc, EV.hold_nil, EV.for_eq, EV.onS_some, EV.bindD_eq, EV.ite_okb, EV.lim, EV.zip_maps, EV.zip3_maps, EV.enum_maps, x1])
  (rw [hold_cons]; simp [EV.evSs, EV.evS, EV.evE, EV.evEs, EV.evAnd, EV.evOr, EV.evO, EV.evI, EV.evIfs, EV.R.bind, EV.R.fl, EV.R.of, EV.R.tst, EV.end_nx, EV.end_rd, EV.end_rn, EV.end_exc, EV.ret_d, EV.ret_nw, EV.ioNd, EV.iosOf, EV.den, EV.dens, EV.keep, EV.keeps, EV.args, EV.back, EV.outsOf, EV.stD, EV.bt_nm, EV.bt_tp, EV.bt_nil, EV.bt_cons, EV.wip, EV.ioOk, EV.parD, EV.putW, EV.augF, EV.binD, EV.same_cmp, EV.same_ne, EV.ints_shp, EV.ints_shpL, EV.cmp_ii, EV.cmp_ni, EV.cmp_ss, EV.cmp_ns, EV.cmp_bb, EV.cmp_nb, EV.cmp_lt, EV.cmp_le, EV.cmp_gt, EV.cmp_ge, EV.is_n, EV.is_b, EV.is_i, EV.is_s, EV.is_l, EV.is_t, EV.is_bb, EV.isn_n, EV.isn_b, EV.isn_i, EV.isn_s, EV.isn_l, EV.isn_t, EV.isn_bb, EV.tru_n, EV.tru_b, EV.tru_i, EV.tru_l, EV.tru_t, EV.biD, EV.idx_l, EV.idx_t, EV.cut_l, EV.cut_t, EV.seq_l, EV.seq_t, EV.zipD, EV.rngD, EV.enumD, EV.enzD, EV.tupW, EV.lstW, EV.rev_l, EV.rev_t, EV.thenS_nx, EV.thenS_rt, EV.thenS_ct, EV.thenS_exc, EV.hold_nil, EV.for_eq, EV.onS_some, EV.bindD_eq, EV.ite_okb, EV.lim, EV.zip_maps, EV.zip3_maps, EV.enum_maps, x2])
  (rw [hold_cons]; simp [EV.evSs, EV.evS, EV.evE, EV.evEs, EV.evAnd, EV.evOr, EV.evO, EV.evI, EV.evIfs, EV.R.bind, EV.R.fl, EV.R.of, EV.R.tst, EV.end_nx, EV.end_rd, EV.end_rn, EV.end_exc, EV.ret_d, EV.ret_nw, EV.ioNd, EV.iosOf, EV.den, EV.dens, EV.keep, EV.keeps, EV.args, EV.back, EV.outsOf, EV.stD, EV.bt_nm, EV.bt_tp, EV.bt_nil, EV.bt_cons, EV.wip, EV.ioOk, EV.parD, EV.putW, EV.augF, EV.binD, EV.same_cmp, EV.same_ne, EV.ints_shp, EV.ints_shpL, EV.cmp_ii, EV.cmp_ni, EV.cmp_ss, EV.cmp_ns, EV.cmp_bb, EV.cmp_nb, EV.cmp_lt, EV.cmp_le, EV.cmp_gt, EV.cmp_ge, EV.is_n, EV.is_b, EV.is_i, EV.is_s, EV.is_l, EV.is_t, EV.is_bb, EV.isn_n, EV.isn_b, EV.isn_i, EV.isn_s, EV.isn_l, EV.isn_t, EV.isn_bb, EV.tru_n, EV.tru_b, EV.tru_i, EV.tru_l, EV.tru_t, EV.biD, EV.idx_l, EV.idx_t, EV.cut_l, EV.cut_t, EV.seq_l, EV.seq_t, EV.zipD, EV.rngD, EV.enumD, EV.enzD, EV.tupW, EV.lstW, EV.rev_l, EV.rev_t, EV.thenS_nx, EV.thenS_rt, EV.thenS_ct, EV.thenS_exc, EV.hold_nil, EV.for_eq, EV.onS_some, EV.bindD_eq, EV.ite_okb, EV.lim, EV.zip_maps, EV.zip3_maps, EV.enum_maps, x3])
/-- is it off by more than the slip -/
def absI (i : Int) : Int := if i < 0 then -i else i
def offB (v : Int) (o : Option Int) (m : Int) : Bool := match o with
  | none => false
  | some x => decide (m < absI (v - x))
theorem x_is_off (n : Nat) (v m : Int) (o : Option Int) : CC (n + 1) i_is_off [.d (.int v), .d (oE o), .d (.int m)] = .ok (.d (.bool (offB v o m))) [none, none, none] := by
  rw [u_is_off _ _ _ _ rfl, b_is_off, hold_eq]
  cases o with
  | none => (rw [hold_cons]; simp [EV.evSs, EV.evS, EV.evE, EV.evEs, EV.evAnd, EV.evOr, EV.evO, EV.evI, EV.evIfs, EV.R.bind, EV.R.fl, EV.R.of, EV.R.tst, EV.end_nx, EV.end_rd, EV.end_rn, EV.end_exc, EV.ret_d, EV.ret_nw, EV.ioNd, EV.iosOf, EV.den, EV.dens, EV.keep, EV.keeps, EV.args, EV.back, EV.outsOf, EV.stD, EV.bt_nm, EV.bt_tp, EV.bt_nil, EV.bt_cons, EV.wip, EV.ioOk, EV.parD, EV.putW, EV.augF, EV.binD, EV.same_cmp, EV.same_ne, EV.ints_shp, EV.ints_shpL, EV.cmp_ii, EV.cmp_ni, EV.cmp_ss, EV.cmp_ns, EV.cmp_bb, EV.cmp_nb, EV.cmp_lt, EV.cmp_le, EV.cmp_gt, EV.cmp_ge, EV.is_n, EV.is_b, EV.is_i, EV.is_s, EV.is_l, EV.is_t, EV.is_bb, EV.isn_n, EV.isn_b, EV.isn_i, EV.isn_s, EV.isn_l, EV.isn_t, EV.isn_bb, EV.tru_n, EV.tru_b, EV.tru_i, EV.tru_l, EV.tru_t, EV.biD, EV.idx_l, EV.idx_t, EV.cut_l, EV.cut_t, EV.seq_l, EV.seq_t, EV.zipD, EV.rngD, EV.enumD, EV.enzD, EV.tupW, EV.lstW, EV.rev_l, EV.rev_t, EV.thenS_nx, EV.thenS_rt, EV.thenS_ct, EV.thenS_exc, EV.hold_nil, EV.for_eq, EV.onS_some, EV.bindD_eq, EV.ite_okb, EV.lim, EV.zip_maps, EV.zip3_maps, EV.enum_maps, oE]); simp [offB]
  | some x => (rw [hold_cons]; simp [EV.evSs, EV.evS, EV.evE, EV.evEs, EV.evAnd, EV.evOr, EV.evO, EV.evI, EV.evIfs, EV.R.bind, EV.R.fl, EV.R.of, EV.R.tst, EV.end_nx, EV.end_rd, EV.end_rn, EV.end_exc, EV.ret_d, EV.ret_nw, EV.ioNd, EV.iosOf, EV.den, EV.dens, EV.keep, EV.keeps, EV.args, EV.back, EV.outsOf, EV.stD, EV.bt_nm, EV.bt_tp, EV.bt_nil, EV.bt_cons, EV.wip, EV.ioOk, EV.parD, EV.putW, EV.augF, EV.binD, EV.same_cmp, EV.same_ne, EV.ints_shp, EV.ints_shpL, EV.cmp_ii, EV.cmp_ni, EV.cmp_ss, EV.cmp_ns, EV.cmp_bb, EV.cmp_nb, EV.cmp_lt, EV.cmp_le, EV.cmp_gt, EV.cmp_ge, EV.is_n, EV.is_b, EV.is_i, EV.is_s, EV.is_l, EV.is_t, EV.is_bb, EV.isn_n, EV.isn_b, EV.isn_i, EV.isn_s, EV.isn_l, EV.isn_t, EV.isn_bb, EV.tru_n, EV.tru_b, EV.tru_i, EV.tru_l, EV.tru_t, EV.biD, EV.idx_l, EV.idx_t, EV.cut_l, EV.cut_t, EV.seq_l, EV.seq_t, EV.zipD, EV.rngD, EV.enumD, EV.enzD, EV.tupW, EV.lstW, EV.rev_l, EV.rev_t, EV.thenS_nx, EV.thenS_rt, EV.thenS_ct, EV.thenS_exc, EV.hold_nil, EV.for_eq, EV.onS_some, EV.bindD_eq, EV.ite_okb, EV.lim, EV.zip_maps, EV.zip3_maps, EV.enum_maps, oE]); simp [offB, absI]; try exact decide_eq_decide.mpr Iff.rfl
/-- the first cell that is off -/
def ofrom (m : Int) (os : List (Option Int)) : Nat → List Int → Option Nat
  | _, [] => none
  | j, v :: vs => if offB v (os[j]?.getD none) m then some j else ofrom m os (j + 1) vs
def unfitP (r : List Kd) (p : Slp) (x : Rdg) (s : List Cell) (i : Int) : Option Int :=
  if (frow r s i).isSome then some (-1) else if offB i x.1 p.1 then some 0 else (ofrom p.2 x.2 0 (showsL r s i)).map fun j : Nat => (j : Int) + 1
theorem os_at (os : List (Option Int)) (j : Nat) (h : j < os.length) : atD (os.map oE) (j : Int) = some (oE (os[j]?.getD none)) := by
  rw [at_n, List.getElem?_map, List.getElem?_eq_getElem h]; rfl
theorem x_unfit_by (n : Nat) (r : List Kd) (p : Slp) (x : Rdg) (s : List Cell) (i : Int) (hr : RowOk r) (h : StOk r s) (hx : x.2.length = r.length) (hi : -9 ≤ i ∧ i ≤ 9) :
    CC (n + 4) i_unfit_by [.d (rowE r), .d (ce p), .d (rdE x), .d (stE s), .d (.int i)] = .ok (.d (oE (unfitP r p x s i))) [none, none, none, none, none] := by
  rw [u_unfit_by _ _ _ _ _ _ rfl, b_unfit_by, hold_eq]
  have x1 := x_fault_by n r s i hr h hi
  obtain ⟨pa, pb⟩ := p
  obtain ⟨t, os⟩ := x
  simp only at hx
  have a0 : atD [oE t, .tuple (os.map oE)] 0 = some (oE t) := rfl
  have a1 : atD [oE t, .tuple (os.map oE)] 1 = some (.tuple (os.map oE)) := rfl
  have p0 : atD [PyData.int pa, .int pb] 0 = some (.int pa) := rfl
  have p1 : atD [PyData.int pa, .int pb] 1 = some (.int pb) := rfl
  have x2 := x_is_off (n + 2) i pa t
  cases hf : frow r s i with
  | some w =>
    rw [hf] at x1
    obtain ⟨j, w⟩ := w
    simp only [fE] at x1
    (rw [hold_cons]; simp [EV.evSs, EV.evS, EV.evE, EV.evEs, EV.evAnd, EV.evOr, EV.evO, EV.evI, EV.evIfs, EV.R.bind, EV.R.fl, EV.R.of, EV.R.tst, EV.end_nx, EV.end_rd, EV.end_rn, EV.end_exc, EV.ret_d, EV.ret_nw, EV.ioNd, EV.iosOf, EV.den, EV.dens, EV.keep, EV.keeps, EV.args, EV.back, EV.outsOf, EV.stD, EV.bt_nm, EV.bt_tp, EV.bt_nil, EV.bt_cons, EV.wip, EV.ioOk, EV.parD, EV.putW, EV.augF, EV.binD, EV.same_cmp, EV.same_ne, EV.ints_shp, EV.ints_shpL, EV.cmp_ii, EV.cmp_ni, EV.cmp_ss, EV.cmp_ns, EV.cmp_bb, EV.cmp_nb, EV.cmp_lt, EV.cmp_le, EV.cmp_gt, EV.cmp_ge, EV.is_n, EV.is_b, EV.is_i, EV.is_s, EV.is_l, EV.is_t, EV.is_bb, EV.isn_n, EV.isn_b, EV.isn_i, EV.isn_s, EV.isn_l, EV.isn_t, EV.isn_bb, EV.tru_n, EV.tru_b, EV.tru_i, EV.tru_l, EV.tru_t, EV.biD, EV.idx_l, EV.idx_t, EV.cut_l, EV.cut_t, EV.seq_l, EV.seq_t, EV.zipD, EV.rngD, EV.enumD, EV.enzD, EV.tupW, EV.lstW, EV.rev_l, EV.rev_t, EV.thenS_nx, EV.thenS_rt, EV.thenS_ct, EV.thenS_exc, EV.hold_nil, EV.for_eq, EV.onS_some, EV.bindD_eq, EV.ite_okb, EV.lim, EV.zip_maps, EV.zip3_maps, EV.enum_maps, x1])
    simp [unfitP, hf, oE]
  | none =>
    rw [hf] at x1
    simp only [fE] at x1
    (rw [hold_cons]; simp [EV.evSs, EV.evS, EV.evE, EV.evEs, EV.evAnd, EV.evOr, EV.evO, EV.evI, EV.evIfs, EV.R.bind, EV.R.fl, EV.R.of, EV.R.tst, EV.end_nx, EV.end_rd, EV.end_rn, EV.end_exc, EV.ret_d, EV.ret_nw, EV.ioNd, EV.iosOf, EV.den, EV.dens, EV.keep, EV.keeps, EV.args, EV.back, EV.outsOf, EV.stD, EV.bt_nm, EV.bt_tp, EV.bt_nil, EV.bt_cons, EV.wip, EV.ioOk, EV.parD, EV.putW, EV.augF, EV.binD, EV.same_cmp, EV.same_ne, EV.ints_shp, EV.ints_shpL, EV.cmp_ii, EV.cmp_ni, EV.cmp_ss, EV.cmp_ns, EV.cmp_bb, EV.cmp_nb, EV.cmp_lt, EV.cmp_le, EV.cmp_gt, EV.cmp_ge, EV.is_n, EV.is_b, EV.is_i, EV.is_s, EV.is_l, EV.is_t, EV.is_bb, EV.isn_n, EV.isn_b, EV.isn_i, EV.isn_s, EV.isn_l, EV.isn_t, EV.isn_bb, EV.tru_n, EV.tru_b, EV.tru_i, EV.tru_l, EV.tru_t, EV.biD, EV.idx_l, EV.idx_t, EV.cut_l, EV.cut_t, EV.seq_l, EV.seq_t, EV.zipD, EV.rngD, EV.enumD, EV.enzD, EV.tupW, EV.lstW, EV.rev_l, EV.rev_t, EV.thenS_nx, EV.thenS_rt, EV.thenS_ct, EV.thenS_exc, EV.hold_nil, EV.for_eq, EV.onS_some, EV.bindD_eq, EV.ite_okb, EV.lim, EV.zip_maps, EV.zip3_maps, EV.enum_maps, x1])
    simp only [rdE, ce]
    cases ho : offB i t pa with
    | true =>
      rw [ho] at x2
      (rw [hold_cons]; simp [EV.evSs, EV.evS, EV.evE, EV.evEs, EV.evAnd, EV.evOr, EV.evO, EV.evI, EV.evIfs, EV.R.bind, EV.R.fl, EV.R.of, EV.R.tst, EV.end_nx, EV.end_rd, EV.end_rn, EV.end_exc, EV.ret_d, EV.ret_nw, EV.ioNd, EV.iosOf, EV.den, EV.dens, EV.keep, EV.keeps, EV.args, EV.back, EV.outsOf, EV.stD, EV.bt_nm, EV.bt_tp, EV.bt_nil, EV.bt_cons, EV.wip, EV.ioOk, EV.parD, EV.putW, EV.augF, EV.binD, EV.same_cmp, EV.same_ne, EV.ints_shp, EV.ints_shpL, EV.cmp_ii, EV.cmp_ni, EV.cmp_ss, EV.cmp_ns, EV.cmp_bb, EV.cmp_nb, EV.cmp_lt, EV.cmp_le, EV.cmp_gt, EV.cmp_ge, EV.is_n, EV.is_b, EV.is_i, EV.is_s, EV.is_l, EV.is_t, EV.is_bb, EV.isn_n, EV.isn_b, EV.isn_i, EV.isn_s, EV.isn_l, EV.isn_t, EV.isn_bb, EV.tru_n, EV.tru_b, EV.tru_i, EV.tru_l, EV.tru_t, EV.biD, EV.idx_l, EV.idx_t, EV.cut_l, EV.cut_t, EV.seq_l, EV.seq_t, EV.zipD, EV.rngD, EV.enumD, EV.enzD, EV.tupW, EV.lstW, EV.rev_l, EV.rev_t, EV.thenS_nx, EV.thenS_rt, EV.thenS_ct, EV.thenS_exc, EV.hold_nil, EV.for_eq, EV.onS_some, EV.bindD_eq, EV.ite_okb, EV.lim, EV.zip_maps, EV.zip3_maps, EV.enum_maps, a0, p0, x2])
      simp [unfitP, hf, ho, oE]
    | false =>
      rw [ho] at x2
      have x3 := x_shows_by (n + 1) r s i hr h hi
      have sl := shows_len r s i h.len
      have e0 : unfitP r (pa, pb) (t, os) s i = (ofrom pb os 0 (showsL r s i)).map fun j : Nat => (j : Int) + 1 := by simp [unfitP, hf, ho]
      rw [e0]
      (rw [hold_cons]; simp [EV.evSs, EV.evS, EV.evE, EV.evEs, EV.evAnd, EV.evOr, EV.evO, EV.evI, EV.evIfs, EV.R.bind, EV.R.fl, EV.R.of, EV.R.tst, EV.end_nx, EV.end_rd, EV.end_rn, EV.end_exc, EV.ret_d, EV.ret_nw, EV.ioNd, EV.iosOf, EV.den, EV.dens, EV.keep, EV.keeps, EV.args, EV.back, EV.outsOf, EV.stD, EV.bt_nm, EV.bt_tp, EV.bt_nil, EV.bt_cons, EV.wip, EV.ioOk, EV.parD, EV.putW, EV.augF, EV.binD, EV.same_cmp, EV.same_ne, EV.ints_shp, EV.ints_shpL, EV.cmp_ii, EV.cmp_ni, EV.cmp_ss, EV.cmp_ns, EV.cmp_bb, EV.cmp_nb, EV.cmp_lt, EV.cmp_le, EV.cmp_gt, EV.cmp_ge, EV.is_n, EV.is_b, EV.is_i, EV.is_s, EV.is_l, EV.is_t, EV.is_bb, EV.isn_n, EV.isn_b, EV.isn_i, EV.isn_s, EV.isn_l, EV.isn_t, EV.isn_bb, EV.tru_n, EV.tru_b, EV.tru_i, EV.tru_l, EV.tru_t, EV.biD, EV.idx_l, EV.idx_t, EV.cut_l, EV.cut_t, EV.seq_l, EV.seq_t, EV.zipD, EV.rngD, EV.enumD, EV.enzD, EV.tupW, EV.lstW, EV.rev_l, EV.rev_t, EV.thenS_nx, EV.thenS_rt, EV.thenS_ct, EV.thenS_exc, EV.hold_nil, EV.for_eq, EV.onS_some, EV.bindD_eq, EV.ite_okb, EV.lim, EV.zip_maps, EV.zip3_maps, EV.enum_maps, a0, p0, x2])
      (rw [hold_cons]; simp [EV.evSs, EV.evS, EV.evE, EV.evEs, EV.evAnd, EV.evOr, EV.evO, EV.evI, EV.evIfs, EV.R.bind, EV.R.fl, EV.R.of, EV.R.tst, EV.end_nx, EV.end_rd, EV.end_rn, EV.end_exc, EV.ret_d, EV.ret_nw, EV.ioNd, EV.iosOf, EV.den, EV.dens, EV.keep, EV.keeps, EV.args, EV.back, EV.outsOf, EV.stD, EV.bt_nm, EV.bt_tp, EV.bt_nil, EV.bt_cons, EV.wip, EV.ioOk, EV.parD, EV.putW, EV.augF, EV.binD, EV.same_cmp, EV.same_ne, EV.ints_shp, EV.ints_shpL, EV.cmp_ii, EV.cmp_ni, EV.cmp_ss, EV.cmp_ns, EV.cmp_bb, EV.cmp_nb, EV.cmp_lt, EV.cmp_le, EV.cmp_gt, EV.cmp_ge, EV.is_n, EV.is_b, EV.is_i, EV.is_s, EV.is_l, EV.is_t, EV.is_bb, EV.isn_n, EV.isn_b, EV.isn_i, EV.isn_s, EV.isn_l, EV.isn_t, EV.isn_bb, EV.tru_n, EV.tru_b, EV.tru_i, EV.tru_l, EV.tru_t, EV.biD, EV.idx_l, EV.idx_t, EV.cut_l, EV.cut_t, EV.seq_l, EV.seq_t, EV.zipD, EV.rngD, EV.enumD, EV.enzD, EV.tupW, EV.lstW, EV.rev_l, EV.rev_t, EV.thenS_nx, EV.thenS_rt, EV.thenS_ct, EV.thenS_exc, EV.hold_nil, EV.for_eq, EV.onS_some, EV.bindD_eq, EV.ite_okb, EV.lim, EV.zip_maps, EV.zip3_maps, EV.enum_maps, l_unfit_by_0, x3])
      refine forL_ind (fun q : Int × Nat => .tuple [.int (q.2 : Int), .int q.1]) (Z := fun z => endCR _ z = _) (fun rest s1 => ∃ j x5 x6, rest = ((showsL r s i).drop j).zipIdx j ∧ ofrom pb os 0 (showsL r s i) = ofrom pb os j ((showsL r s i).drop j) ∧ s1 = [some (.d (rowE r)), some (.d (.tuple [.int pa, .int pb])), some (.d (.tuple [oE t, .tuple (os.map oE)])), some (.d (stE s)), some (.d (.int i)), x5, x6]) ?_ ?_ ((showsL r s i).zipIdx 0) _ ⟨0, _, _, rfl, rfl, rfl⟩
      · rintro ⟨v, j'⟩ rest s1 J Z hJ hZ ⟨j, x5, x6, hd, hq, rfl⟩
        obtain ⟨e1, rfl, hd2⟩ := zipIdx_drop (showsL r s i) j _ _ hd
        simp only at e1 hd2 hq ⊢
        obtain ⟨hj, e1'⟩ := List.getElem?_eq_some_iff.mp e1
        have oa := os_at os j' (by omega)
        have x4 := x_is_off (n + 2) v pb (os[j']?.getD none)
        rw [List.drop_eq_getElem_cons hj, e1', ofrom] at hq
        simp [EV.evSs, EV.evS, EV.evE, EV.evEs, EV.evAnd, EV.evOr, EV.evO, EV.evI, EV.evIfs, EV.R.bind, EV.R.fl, EV.R.of, EV.R.tst, EV.end_nx, EV.end_rd, EV.end_rn, EV.end_exc, EV.ret_d, EV.ret_nw, EV.ioNd, EV.iosOf, EV.den, EV.dens, EV.keep, EV.keeps, EV.args, EV.back, EV.outsOf, EV.stD, EV.bt_nm, EV.bt_tp, EV.bt_nil, EV.bt_cons, EV.wip, EV.ioOk, EV.parD, EV.putW, EV.augF, EV.binD, EV.same_cmp, EV.same_ne, EV.ints_shp, EV.ints_shpL, EV.cmp_ii, EV.cmp_ni, EV.cmp_ss, EV.cmp_ns, EV.cmp_bb, EV.cmp_nb, EV.cmp_lt, EV.cmp_le, EV.cmp_gt, EV.cmp_ge, EV.is_n, EV.is_b, EV.is_i, EV.is_s, EV.is_l, EV.is_t, EV.is_bb, EV.isn_n, EV.isn_b, EV.isn_i, EV.isn_s, EV.isn_l, EV.isn_t, EV.isn_bb, EV.tru_n, EV.tru_b, EV.tru_i, EV.tru_l, EV.tru_t, EV.biD, EV.idx_l, EV.idx_t, EV.cut_l, EV.cut_t, EV.seq_l, EV.seq_t, EV.zipD, EV.rngD, EV.enumD, EV.enzD, EV.tupW, EV.lstW, EV.rev_l, EV.rev_t, EV.thenS_nx, EV.thenS_rt, EV.thenS_ct, EV.thenS_exc, EV.hold_nil, EV.for_eq, EV.onS_some, EV.bindD_eq, EV.ite_okb, EV.lim, EV.zip_maps, EV.zip3_maps, EV.enum_maps, l_unfit_by_0b]
        cases hb : offB v (os[j']?.getD none) pb with
        | true =>
          rw [hb] at x4 hq
          (rw [hold_cons]; simp [EV.evSs, EV.evS, EV.evE, EV.evEs, EV.evAnd, EV.evOr, EV.evO, EV.evI, EV.evIfs, EV.R.bind, EV.R.fl, EV.R.of, EV.R.tst, EV.end_nx, EV.end_rd, EV.end_rn, EV.end_exc, EV.ret_d, EV.ret_nw, EV.ioNd, EV.iosOf, EV.den, EV.dens, EV.keep, EV.keeps, EV.args, EV.back, EV.outsOf, EV.stD, EV.bt_nm, EV.bt_tp, EV.bt_nil, EV.bt_cons, EV.wip, EV.ioOk, EV.parD, EV.putW, EV.augF, EV.binD, EV.same_cmp, EV.same_ne, EV.ints_shp, EV.ints_shpL, EV.cmp_ii, EV.cmp_ni, EV.cmp_ss, EV.cmp_ns, EV.cmp_bb, EV.cmp_nb, EV.cmp_lt, EV.cmp_le, EV.cmp_gt, EV.cmp_ge, EV.is_n, EV.is_b, EV.is_i, EV.is_s, EV.is_l, EV.is_t, EV.is_bb, EV.isn_n, EV.isn_b, EV.isn_i, EV.isn_s, EV.isn_l, EV.isn_t, EV.isn_bb, EV.tru_n, EV.tru_b, EV.tru_i, EV.tru_l, EV.tru_t, EV.biD, EV.idx_l, EV.idx_t, EV.cut_l, EV.cut_t, EV.seq_l, EV.seq_t, EV.zipD, EV.rngD, EV.enumD, EV.enzD, EV.tupW, EV.lstW, EV.rev_l, EV.rev_t, EV.thenS_nx, EV.thenS_rt, EV.thenS_ct, EV.thenS_exc, EV.hold_nil, EV.for_eq, EV.onS_some, EV.bindD_eq, EV.ite_okb, EV.lim, EV.zip_maps, EV.zip3_maps, EV.enum_maps, a1, oa, p1, x4])
          refine hZ _ ?_
          rw [hq]
          rfl
        | false =>
          rw [hb] at x4 hq
          (rw [hold_cons]; simp [EV.evSs, EV.evS, EV.evE, EV.evEs, EV.evAnd, EV.evOr, EV.evO, EV.evI, EV.evIfs, EV.R.bind, EV.R.fl, EV.R.of, EV.R.tst, EV.end_nx, EV.end_rd, EV.end_rn, EV.end_exc, EV.ret_d, EV.ret_nw, EV.ioNd, EV.iosOf, EV.den, EV.dens, EV.keep, EV.keeps, EV.args, EV.back, EV.outsOf, EV.stD, EV.bt_nm, EV.bt_tp, EV.bt_nil, EV.bt_cons, EV.wip, EV.ioOk, EV.parD, EV.putW, EV.augF, EV.binD, EV.same_cmp, EV.same_ne, EV.ints_shp, EV.ints_shpL, EV.cmp_ii, EV.cmp_ni, EV.cmp_ss, EV.cmp_ns, EV.cmp_bb, EV.cmp_nb, EV.cmp_lt, EV.cmp_le, EV.cmp_gt, EV.cmp_ge, EV.is_n, EV.is_b, EV.is_i, EV.is_s, EV.is_l, EV.is_t, EV.is_bb, EV.isn_n, EV.isn_b, EV.isn_i, EV.isn_s, EV.isn_l, EV.isn_t, EV.isn_bb, EV.tru_n, EV.tru_b, EV.tru_i, EV.tru_l, EV.tru_t, EV.biD, EV.idx_l, EV.idx_t, EV.cut_l, EV.cut_t, EV.seq_l, EV.seq_t, EV.zipD, EV.rngD, EV.enumD, EV.enzD, EV.tupW, EV.lstW, EV.rev_l, EV.rev_t, EV.thenS_nx, EV.thenS_rt, EV.thenS_ct, EV.thenS_exc, EV.hold_nil, EV.for_eq, EV.onS_some, EV.bindD_eq, EV.ite_okb, EV.lim, EV.zip_maps, EV.zip3_maps, EV.enum_maps, a1, oa, p1, x4])
          exact hJ _ ⟨j' + 1, _, _, hd2, hq, rfl⟩
      · rintro s1 ⟨j, x5, x6, hd, hq, rfl⟩
        have hj : (showsL r s i).length ≤ j := by
          have := congrArg List.length hd
          simp only [List.length_nil, List.length_zipIdx, List.length_drop] at this
          omega
        rw [List.drop_eq_nil_of_le hj] at hq
        rw [hq]
        (rw [hold_cons]; simp [EV.evSs, EV.evS, EV.evE, EV.evEs, EV.evAnd, EV.evOr, EV.evO, EV.evI, EV.evIfs, EV.R.bind, EV.R.fl, EV.R.of, EV.R.tst, EV.end_nx, EV.end_rd, EV.end_rn, EV.end_exc, EV.ret_d, EV.ret_nw, EV.ioNd, EV.iosOf, EV.den, EV.dens, EV.keep, EV.keeps, EV.args, EV.back, EV.outsOf, EV.stD, EV.bt_nm, EV.bt_tp, EV.bt_nil, EV.bt_cons, EV.wip, EV.ioOk, EV.parD, EV.putW, EV.augF, EV.binD, EV.same_cmp, EV.same_ne, EV.ints_shp, EV.ints_shpL, EV.cmp_ii, EV.cmp_ni, EV.cmp_ss, EV.cmp_ns, EV.cmp_bb, EV.cmp_nb, EV.cmp_lt, EV.cmp_le, EV.cmp_gt, EV.cmp_ge, EV.is_n, EV.is_b, EV.is_i, EV.is_s, EV.is_l, EV.is_t, EV.is_bb, EV.isn_n, EV.isn_b, EV.isn_i, EV.isn_s, EV.isn_l, EV.isn_t, EV.isn_bb, EV.tru_n, EV.tru_b, EV.tru_i, EV.tru_l, EV.tru_t, EV.biD, EV.idx_l, EV.idx_t, EV.cut_l, EV.cut_t, EV.seq_l, EV.seq_t, EV.zipD, EV.rngD, EV.enumD, EV.enzD, EV.tupW, EV.lstW, EV.rev_l, EV.rev_t, EV.thenS_nx, EV.thenS_rt, EV.thenS_ct, EV.thenS_exc, EV.hold_nil, EV.for_eq, EV.onS_some, EV.bindD_eq, EV.ite_okb, EV.lim, EV.zip_maps, EV.zip3_maps, EV.enum_maps, ofrom, oE])
/-- the first beat that does not fit -/
def dueP (r : List Kd) (p : Slp) : List Cell → Nat → List (Rdg × Int) → Option (Nat × Int)
  | _, _, [] => none
  | s, b, (x, i) :: rest => match unfitP r p x s i with
    | some q => some (b, q)
    | none => dueP r p (behindL s i) (b + 1) rest
def dE : Option (Nat × Int) → D
  | none => .none
  | some (b, q) => .tuple [.int (b : Int), .int q]
theorem unfit_none {r : List Kd} {p : Slp} {x : Rdg} {s : List Cell} {i : Int} (h : unfitP r p x s i = none) : frow r s i = none := by
  unfold unfitP at h
  cases e : frow r s i with
  | none => rfl
  | some w => simp [e] at h
theorem x_unfit_of (n : Nat) (r : List Kd) (p : Slp) (xs : List Rdg) (s : List Cell) (is : List Int) (hr : RowOk r) (h : StOk r s) (hx : ∀ x ∈ xs, RdOk r x) (hi : ∀ i ∈ is, -9 ≤ i ∧ i ≤ 9) :
    CC (n + 5) i_unfit_of [.d (rowE r), .d (ce p), .d (rdsE xs), .d (stE s), .d (plE is)] = .ok (.d (dE (dueP r p s 0 (xs.zip is)))) [none, none, none, none, none] := by
  rw [u_unfit_of _ _ _ _ _ _ rfl, b_unfit_of, hold_eq]
  (rw [hold_cons]; simp [EV.evSs, EV.evS, EV.evE, EV.evEs, EV.evAnd, EV.evOr, EV.evO, EV.evI, EV.evIfs, EV.R.bind, EV.R.fl, EV.R.of, EV.R.tst, EV.end_nx, EV.end_rd, EV.end_rn, EV.end_exc, EV.ret_d, EV.ret_nw, EV.ioNd, EV.iosOf, EV.den, EV.dens, EV.keep, EV.keeps, EV.args, EV.back, EV.outsOf, EV.stD, EV.bt_nm, EV.bt_tp, EV.bt_nil, EV.bt_cons, EV.wip, EV.ioOk, EV.parD, EV.putW, EV.augF, EV.binD, EV.same_cmp, EV.same_ne, EV.ints_shp, EV.ints_shpL, EV.cmp_ii, EV.cmp_ni, EV.cmp_ss, EV.cmp_ns, EV.cmp_bb, EV.cmp_nb, EV.cmp_lt, EV.cmp_le, EV.cmp_gt, EV.cmp_ge, EV.is_n, EV.is_b, EV.is_i, EV.is_s, EV.is_l, EV.is_t, EV.is_bb, EV.isn_n, EV.isn_b, EV.isn_i, EV.isn_s, EV.isn_l, EV.isn_t, EV.isn_bb, EV.tru_n, EV.tru_b, EV.tru_i, EV.tru_l, EV.tru_t, EV.biD, EV.idx_l, EV.idx_t, EV.cut_l, EV.cut_t, EV.seq_l, EV.seq_t, EV.zipD, EV.rngD, EV.enumD, EV.enzD, EV.tupW, EV.lstW, EV.rev_l, EV.rev_t, EV.thenS_nx, EV.thenS_rt, EV.thenS_ct, EV.thenS_exc, EV.hold_nil, EV.for_eq, EV.onS_some, EV.bindD_eq, EV.ite_okb, EV.lim, EV.zip_maps, EV.zip3_maps, EV.enum_maps, l_unfit_of_0])
  refine forL_ind (fun q : (Rdg × Int) × Nat => .tuple [.int (q.2 : Int), .tuple [rdE q.1.1, .int q.1.2]]) (Z := fun z => endCR _ z = _) (fun rest s1 => ∃ j s' x5 x6 x7 x8, rest = ((xs.zip is).drop j).zipIdx j ∧ StOk r s' ∧ dueP r p s 0 (xs.zip is) = dueP r p s' j ((xs.zip is).drop j) ∧ s1 = [some (.d (rowE r)), some (.d (ce p)), some (.d (rdsE xs)), some (.d (stE s')), some (.d (plE is)), x5, x6, x7, x8]) ?_ ?_ ((xs.zip is).zipIdx 0) _ ⟨0, s, _, _, _, _, rfl, h, rfl, rfl⟩
  · rintro ⟨⟨x, i⟩, j'⟩ rest s1 J Z hJ hZ ⟨j, s', x5, x6, x7, x8, hd, hs, hq, rfl⟩
    obtain ⟨e1, rfl, hd2⟩ := zipIdx_drop (xs.zip is) j _ _ hd
    simp only at e1 hd2 hq ⊢
    obtain ⟨hj, e1'⟩ := List.getElem?_eq_some_iff.mp e1
    have hm := List.of_mem_zip (List.mem_of_getElem? e1)
    have x4 := x_unfit_by n r p x s' i hr hs (hx x hm.1).len (hi i hm.2)
    rw [List.drop_eq_getElem_cons hj, e1', dueP] at hq
    have sl : s'.length ≤ 100 := by
      have := hs.len
      have := hr.l2
      omega
    simp [EV.evSs, EV.evS, EV.evE, EV.evEs, EV.evAnd, EV.evOr, EV.evO, EV.evI, EV.evIfs, EV.R.bind, EV.R.fl, EV.R.of, EV.R.tst, EV.end_nx, EV.end_rd, EV.end_rn, EV.end_exc, EV.ret_d, EV.ret_nw, EV.ioNd, EV.iosOf, EV.den, EV.dens, EV.keep, EV.keeps, EV.args, EV.back, EV.outsOf, EV.stD, EV.bt_nm, EV.bt_tp, EV.bt_nil, EV.bt_cons, EV.wip, EV.ioOk, EV.parD, EV.putW, EV.augF, EV.binD, EV.same_cmp, EV.same_ne, EV.ints_shp, EV.ints_shpL, EV.cmp_ii, EV.cmp_ni, EV.cmp_ss, EV.cmp_ns, EV.cmp_bb, EV.cmp_nb, EV.cmp_lt, EV.cmp_le, EV.cmp_gt, EV.cmp_ge, EV.is_n, EV.is_b, EV.is_i, EV.is_s, EV.is_l, EV.is_t, EV.is_bb, EV.isn_n, EV.isn_b, EV.isn_i, EV.isn_s, EV.isn_l, EV.isn_t, EV.isn_bb, EV.tru_n, EV.tru_b, EV.tru_i, EV.tru_l, EV.tru_t, EV.biD, EV.idx_l, EV.idx_t, EV.cut_l, EV.cut_t, EV.seq_l, EV.seq_t, EV.zipD, EV.rngD, EV.enumD, EV.enzD, EV.tupW, EV.lstW, EV.rev_l, EV.rev_t, EV.thenS_nx, EV.thenS_rt, EV.thenS_ct, EV.thenS_exc, EV.hold_nil, EV.for_eq, EV.onS_some, EV.bindD_eq, EV.ite_okb, EV.lim, EV.zip_maps, EV.zip3_maps, EV.enum_maps, l_unfit_of_0b]
    cases hb : unfitP r p x s' i with
    | some q =>
      rw [hb] at x4 hq
      simp only [oE] at x4
      (rw [hold_cons]; simp [EV.evSs, EV.evS, EV.evE, EV.evEs, EV.evAnd, EV.evOr, EV.evO, EV.evI, EV.evIfs, EV.R.bind, EV.R.fl, EV.R.of, EV.R.tst, EV.end_nx, EV.end_rd, EV.end_rn, EV.end_exc, EV.ret_d, EV.ret_nw, EV.ioNd, EV.iosOf, EV.den, EV.dens, EV.keep, EV.keeps, EV.args, EV.back, EV.outsOf, EV.stD, EV.bt_nm, EV.bt_tp, EV.bt_nil, EV.bt_cons, EV.wip, EV.ioOk, EV.parD, EV.putW, EV.augF, EV.binD, EV.same_cmp, EV.same_ne, EV.ints_shp, EV.ints_shpL, EV.cmp_ii, EV.cmp_ni, EV.cmp_ss, EV.cmp_ns, EV.cmp_bb, EV.cmp_nb, EV.cmp_lt, EV.cmp_le, EV.cmp_gt, EV.cmp_ge, EV.is_n, EV.is_b, EV.is_i, EV.is_s, EV.is_l, EV.is_t, EV.is_bb, EV.isn_n, EV.isn_b, EV.isn_i, EV.isn_s, EV.isn_l, EV.isn_t, EV.isn_bb, EV.tru_n, EV.tru_b, EV.tru_i, EV.tru_l, EV.tru_t, EV.biD, EV.idx_l, EV.idx_t, EV.cut_l, EV.cut_t, EV.seq_l, EV.seq_t, EV.zipD, EV.rngD, EV.enumD, EV.enzD, EV.tupW, EV.lstW, EV.rev_l, EV.rev_t, EV.thenS_nx, EV.thenS_rt, EV.thenS_ct, EV.thenS_exc, EV.hold_nil, EV.for_eq, EV.onS_some, EV.bindD_eq, EV.ite_okb, EV.lim, EV.zip_maps, EV.zip3_maps, EV.enum_maps, x4])
      (rw [hold_cons]; simp [EV.evSs, EV.evS, EV.evE, EV.evEs, EV.evAnd, EV.evOr, EV.evO, EV.evI, EV.evIfs, EV.R.bind, EV.R.fl, EV.R.of, EV.R.tst, EV.end_nx, EV.end_rd, EV.end_rn, EV.end_exc, EV.ret_d, EV.ret_nw, EV.ioNd, EV.iosOf, EV.den, EV.dens, EV.keep, EV.keeps, EV.args, EV.back, EV.outsOf, EV.stD, EV.bt_nm, EV.bt_tp, EV.bt_nil, EV.bt_cons, EV.wip, EV.ioOk, EV.parD, EV.putW, EV.augF, EV.binD, EV.same_cmp, EV.same_ne, EV.ints_shp, EV.ints_shpL, EV.cmp_ii, EV.cmp_ni, EV.cmp_ss, EV.cmp_ns, EV.cmp_bb, EV.cmp_nb, EV.cmp_lt, EV.cmp_le, EV.cmp_gt, EV.cmp_ge, EV.is_n, EV.is_b, EV.is_i, EV.is_s, EV.is_l, EV.is_t, EV.is_bb, EV.isn_n, EV.isn_b, EV.isn_i, EV.isn_s, EV.isn_l, EV.isn_t, EV.isn_bb, EV.tru_n, EV.tru_b, EV.tru_i, EV.tru_l, EV.tru_t, EV.biD, EV.idx_l, EV.idx_t, EV.cut_l, EV.cut_t, EV.seq_l, EV.seq_t, EV.zipD, EV.rngD, EV.enumD, EV.enzD, EV.tupW, EV.lstW, EV.rev_l, EV.rev_t, EV.thenS_nx, EV.thenS_rt, EV.thenS_ct, EV.thenS_exc, EV.hold_nil, EV.for_eq, EV.onS_some, EV.bindD_eq, EV.ite_okb, EV.lim, EV.zip_maps, EV.zip3_maps, EV.enum_maps, lim])
      refine hZ _ ?_
      rw [hq]
      rfl
    | none =>
      rw [hb] at x4 hq
      simp only [oE] at x4
      have x9 := x_behind_by (n + 3) (rowE r) s' i sl
      (rw [hold_cons]; simp [EV.evSs, EV.evS, EV.evE, EV.evEs, EV.evAnd, EV.evOr, EV.evO, EV.evI, EV.evIfs, EV.R.bind, EV.R.fl, EV.R.of, EV.R.tst, EV.end_nx, EV.end_rd, EV.end_rn, EV.end_exc, EV.ret_d, EV.ret_nw, EV.ioNd, EV.iosOf, EV.den, EV.dens, EV.keep, EV.keeps, EV.args, EV.back, EV.outsOf, EV.stD, EV.bt_nm, EV.bt_tp, EV.bt_nil, EV.bt_cons, EV.wip, EV.ioOk, EV.parD, EV.putW, EV.augF, EV.binD, EV.same_cmp, EV.same_ne, EV.ints_shp, EV.ints_shpL, EV.cmp_ii, EV.cmp_ni, EV.cmp_ss, EV.cmp_ns, EV.cmp_bb, EV.cmp_nb, EV.cmp_lt, EV.cmp_le, EV.cmp_gt, EV.cmp_ge, EV.is_n, EV.is_b, EV.is_i, EV.is_s, EV.is_l, EV.is_t, EV.is_bb, EV.isn_n, EV.isn_b, EV.isn_i, EV.isn_s, EV.isn_l, EV.isn_t, EV.isn_bb, EV.tru_n, EV.tru_b, EV.tru_i, EV.tru_l, EV.tru_t, EV.biD, EV.idx_l, EV.idx_t, EV.cut_l, EV.cut_t, EV.seq_l, EV.seq_t, EV.zipD, EV.rngD, EV.enumD, EV.enzD, EV.tupW, EV.lstW, EV.rev_l, EV.rev_t, EV.thenS_nx, EV.thenS_rt, EV.thenS_ct, EV.thenS_exc, EV.hold_nil, EV.for_eq, EV.onS_some, EV.bindD_eq, EV.ite_okb, EV.lim, EV.zip_maps, EV.zip3_maps, EV.enum_maps, x4])
      (rw [hold_cons]; simp [EV.evSs, EV.evS, EV.evE, EV.evEs, EV.evAnd, EV.evOr, EV.evO, EV.evI, EV.evIfs, EV.R.bind, EV.R.fl, EV.R.of, EV.R.tst, EV.end_nx, EV.end_rd, EV.end_rn, EV.end_exc, EV.ret_d, EV.ret_nw, EV.ioNd, EV.iosOf, EV.den, EV.dens, EV.keep, EV.keeps, EV.args, EV.back, EV.outsOf, EV.stD, EV.bt_nm, EV.bt_tp, EV.bt_nil, EV.bt_cons, EV.wip, EV.ioOk, EV.parD, EV.putW, EV.augF, EV.binD, EV.same_cmp, EV.same_ne, EV.ints_shp, EV.ints_shpL, EV.cmp_ii, EV.cmp_ni, EV.cmp_ss, EV.cmp_ns, EV.cmp_bb, EV.cmp_nb, EV.cmp_lt, EV.cmp_le, EV.cmp_gt, EV.cmp_ge, EV.is_n, EV.is_b, EV.is_i, EV.is_s, EV.is_l, EV.is_t, EV.is_bb, EV.isn_n, EV.isn_b, EV.isn_i, EV.isn_s, EV.isn_l, EV.isn_t, EV.isn_bb, EV.tru_n, EV.tru_b, EV.tru_i, EV.tru_l, EV.tru_t, EV.biD, EV.idx_l, EV.idx_t, EV.cut_l, EV.cut_t, EV.seq_l, EV.seq_t, EV.zipD, EV.rngD, EV.enumD, EV.enzD, EV.tupW, EV.lstW, EV.rev_l, EV.rev_t, EV.thenS_nx, EV.thenS_rt, EV.thenS_ct, EV.thenS_exc, EV.hold_nil, EV.for_eq, EV.onS_some, EV.bindD_eq, EV.ite_okb, EV.lim, EV.zip_maps, EV.zip3_maps, EV.enum_maps])
      (rw [hold_cons]; simp [EV.evSs, EV.evS, EV.evE, EV.evEs, EV.evAnd, EV.evOr, EV.evO, EV.evI, EV.evIfs, EV.R.bind, EV.R.fl, EV.R.of, EV.R.tst, EV.end_nx, EV.end_rd, EV.end_rn, EV.end_exc, EV.ret_d, EV.ret_nw, EV.ioNd, EV.iosOf, EV.den, EV.dens, EV.keep, EV.keeps, EV.args, EV.back, EV.outsOf, EV.stD, EV.bt_nm, EV.bt_tp, EV.bt_nil, EV.bt_cons, EV.wip, EV.ioOk, EV.parD, EV.putW, EV.augF, EV.binD, EV.same_cmp, EV.same_ne, EV.ints_shp, EV.ints_shpL, EV.cmp_ii, EV.cmp_ni, EV.cmp_ss, EV.cmp_ns, EV.cmp_bb, EV.cmp_nb, EV.cmp_lt, EV.cmp_le, EV.cmp_gt, EV.cmp_ge, EV.is_n, EV.is_b, EV.is_i, EV.is_s, EV.is_l, EV.is_t, EV.is_bb, EV.isn_n, EV.isn_b, EV.isn_i, EV.isn_s, EV.isn_l, EV.isn_t, EV.isn_bb, EV.tru_n, EV.tru_b, EV.tru_i, EV.tru_l, EV.tru_t, EV.biD, EV.idx_l, EV.idx_t, EV.cut_l, EV.cut_t, EV.seq_l, EV.seq_t, EV.zipD, EV.rngD, EV.enumD, EV.enzD, EV.tupW, EV.lstW, EV.rev_l, EV.rev_t, EV.thenS_nx, EV.thenS_rt, EV.thenS_ct, EV.thenS_exc, EV.hold_nil, EV.for_eq, EV.onS_some, EV.bindD_eq, EV.ite_okb, EV.lim, EV.zip_maps, EV.zip3_maps, EV.enum_maps, x9])
      exact hJ _ ⟨j' + 1, behindL s' i, _, _, _, _, hd2, behind_ok hs (unfit_none hb), hq, rfl⟩
  · rintro s1 ⟨j, s', x5, x6, x7, x8, hd, hs, hq, rfl⟩
    have hj : (xs.zip is).length ≤ j := by
      have := congrArg List.length hd
      simp only [List.length_nil, List.length_zipIdx, List.length_drop] at this
      omega
    rw [List.drop_eq_nil_of_le hj] at hq
    rw [hq]
    (rw [hold_cons]; simp [EV.evSs, EV.evS, EV.evE, EV.evEs, EV.evAnd, EV.evOr, EV.evO, EV.evI, EV.evIfs, EV.R.bind, EV.R.fl, EV.R.of, EV.R.tst, EV.end_nx, EV.end_rd, EV.end_rn, EV.end_exc, EV.ret_d, EV.ret_nw, EV.ioNd, EV.iosOf, EV.den, EV.dens, EV.keep, EV.keeps, EV.args, EV.back, EV.outsOf, EV.stD, EV.bt_nm, EV.bt_tp, EV.bt_nil, EV.bt_cons, EV.wip, EV.ioOk, EV.parD, EV.putW, EV.augF, EV.binD, EV.same_cmp, EV.same_ne, EV.ints_shp, EV.ints_shpL, EV.cmp_ii, EV.cmp_ni, EV.cmp_ss, EV.cmp_ns, EV.cmp_bb, EV.cmp_nb, EV.cmp_lt, EV.cmp_le, EV.cmp_gt, EV.cmp_ge, EV.is_n, EV.is_b, EV.is_i, EV.is_s, EV.is_l, EV.is_t, EV.is_bb, EV.isn_n, EV.isn_b, EV.isn_i, EV.isn_s, EV.isn_l, EV.isn_t, EV.isn_bb, EV.tru_n, EV.tru_b, EV.tru_i, EV.tru_l, EV.tru_t, EV.biD, EV.idx_l, EV.idx_t, EV.cut_l, EV.cut_t, EV.seq_l, EV.seq_t, EV.zipD, EV.rngD, EV.enumD, EV.enzD, EV.tupW, EV.lstW, EV.rev_l, EV.rev_t, EV.thenS_nx, EV.thenS_rt, EV.thenS_ct, EV.thenS_exc, EV.hold_nil, EV.for_eq, EV.onS_some, EV.bindD_eq, EV.ite_okb, EV.lim, EV.zip_maps, EV.zip3_maps, EV.enum_maps, dueP, dE])
theorem x_need_run (n : Nat) (xs : List Rdg) (is : List Int) (hp : PlanOk is) (hl : is.length = xs.length) : CC (n + 5) i_need_run [.d (rdsE xs), .d (plE is)] = .ok (.d .none) [none, none] := by
  rw [u_need_run _ _ _ rfl, b_need_run, hold_eq]
  have x1 := x_is_plan n is hp
  (rw [hold_cons]; simp [EV.evSs, EV.evS, EV.evE, EV.evEs, EV.evAnd, EV.evOr, EV.evO, EV.evI, EV.evIfs, EV.R.bind, EV.R.fl, EV.R.of, EV.R.tst, EV.end_nx, EV.end_rd, EV.end_rn, EV.end_exc, EV.ret_d, EV.ret_nw, EV.ioNd, EV.iosOf, EV.den, EV.dens, EV.keep, EV.keeps, EV.args, EV.back, EV.outsOf, EV.stD, EV.bt_nm, EV.bt_tp, EV.bt_nil, EV.bt_cons, EV.wip, EV.ioOk, EV.parD, EV.putW, EV.augF, EV.binD, EV.same_cmp, EV.same_ne, EV.ints_shp, EV.ints_shpL, EV.cmp_ii, EV.cmp_ni, EV.cmp_ss, EV.cmp_ns, EV.cmp_bb, EV.cmp_nb, EV.cmp_lt, EV.cmp_le, EV.cmp_gt, EV.cmp_ge, EV.is_n, EV.is_b, EV.is_i, EV.is_s, EV.is_l, EV.is_t, EV.is_bb, EV.isn_n, EV.isn_b, EV.isn_i, EV.isn_s, EV.isn_l, EV.isn_t, EV.isn_bb, EV.tru_n, EV.tru_b, EV.tru_i, EV.tru_l, EV.tru_t, EV.biD, EV.idx_l, EV.idx_t, EV.cut_l, EV.cut_t, EV.seq_l, EV.seq_t, EV.zipD, EV.rngD, EV.enumD, EV.enzD, EV.tupW, EV.lstW, EV.rev_l, EV.rev_t, EV.thenS_nx, EV.thenS_rt, EV.thenS_ct, EV.thenS_exc, EV.hold_nil, EV.for_eq, EV.onS_some, EV.bindD_eq, EV.ite_okb, EV.lim, EV.zip_maps, EV.zip3_maps, EV.enum_maps, x1, hl])
theorem x_first_unfit (n : Nat) (r : List Kd) (p : Slp) (xs : List Rdg) (s : List Cell) (is : List Int) (hr : RowOk r) (hp : SlOk p) (h : StOk r s) (h6 : xs.length ≤ 6) (hx : ∀ x ∈ xs, RdOk r x) (hi : PlanOk is) (hl : is.length = xs.length) :
    CC (n + 8) i_first_unfit [.d (rowE r), .d (ce p), .d (rdsE xs), .d (stE s), .d (plE is)] = .ok (.d (dE (dueP r p s 0 (xs.zip is)))) [none, none, none, none, none] := by
  rw [u_first_unfit _ _ _ _ _ _ rfl, b_first_unfit, hold_eq]
  have x1 := x_need_readings n r p xs hr hp h6 hx
  have x2 := x_need_stand n r s hr h
  have x3 := x_need_run (n + 2) xs is hi hl
  have x4 := x_unfit_of (n + 2) r p xs s is hr h hx hi.ok
  (rw [hold_cons]; simp [EV.evSs, EV.evS, EV.evE, EV.evEs, EV.evAnd, EV.evOr, EV.evO, EV.evI, EV.evIfs, EV.R.bind, EV.R.fl, EV.R.of, EV.R.tst, EV.end_nx, EV.end_rd, EV.end_rn, EV.end_exc, EV.ret_d, EV.ret_nw, EV.ioNd, EV.iosOf, EV.den, EV.dens, EV.keep, EV.keeps, EV.args, EV.back, EV.outsOf, EV.stD, EV.bt_nm, EV.bt_tp, EV.bt_nil, EV.bt_cons, EV.wip, EV.ioOk, EV.parD, EV.putW, EV.augF, EV.binD, EV.same_cmp, EV.same_ne, EV.ints_shp, EV.ints_shpL, EV.cmp_ii, EV.cmp_ni, EV.cmp_ss, EV.cmp_ns, EV.cmp_bb, EV.cmp_nb, EV.cmp_lt, EV.cmp_le, EV.cmp_gt, EV.cmp_ge, EV.is_n, EV.is_b, EV.is_i, EV.is_s, EV.is_l, EV.is_t, EV.is_bb, EV.isn_n, EV.isn_b, EV.isn_i, EV.isn_s, EV.isn_l, EV.isn_t, EV.isn_bb, EV.tru_n, EV.tru_b, EV.tru_i, EV.tru_l, EV.tru_t, EV.biD, EV.idx_l, EV.idx_t, EV.cut_l, EV.cut_t, EV.seq_l, EV.seq_t, EV.zipD, EV.rngD, EV.enumD, EV.enzD, EV.tupW, EV.lstW, EV.rev_l, EV.rev_t, EV.thenS_nx, EV.thenS_rt, EV.thenS_ct, EV.thenS_exc, EV.hold_nil, EV.for_eq, EV.onS_some, EV.bindD_eq, EV.ite_okb, EV.lim, EV.zip_maps, EV.zip3_maps, EV.enum_maps, x1])
  (rw [hold_cons]; simp [EV.evSs, EV.evS, EV.evE, EV.evEs, EV.evAnd, EV.evOr, EV.evO, EV.evI, EV.evIfs, EV.R.bind, EV.R.fl, EV.R.of, EV.R.tst, EV.end_nx, EV.end_rd, EV.end_rn, EV.end_exc, EV.ret_d, EV.ret_nw, EV.ioNd, EV.iosOf, EV.den, EV.dens, EV.keep, EV.keeps, EV.args, EV.back, EV.outsOf, EV.stD, EV.bt_nm, EV.bt_tp, EV.bt_nil, EV.bt_cons, EV.wip, EV.ioOk, EV.parD, EV.putW, EV.augF, EV.binD, EV.same_cmp, EV.same_ne, EV.ints_shp, EV.ints_shpL, EV.cmp_ii, EV.cmp_ni, EV.cmp_ss, EV.cmp_ns, EV.cmp_bb, EV.cmp_nb, EV.cmp_lt, EV.cmp_le, EV.cmp_gt, EV.cmp_ge, EV.is_n, EV.is_b, EV.is_i, EV.is_s, EV.is_l, EV.is_t, EV.is_bb, EV.isn_n, EV.isn_b, EV.isn_i, EV.isn_s, EV.isn_l, EV.isn_t, EV.isn_bb, EV.tru_n, EV.tru_b, EV.tru_i, EV.tru_l, EV.tru_t, EV.biD, EV.idx_l, EV.idx_t, EV.cut_l, EV.cut_t, EV.seq_l, EV.seq_t, EV.zipD, EV.rngD, EV.enumD, EV.enzD, EV.tupW, EV.lstW, EV.rev_l, EV.rev_t, EV.thenS_nx, EV.thenS_rt, EV.thenS_ct, EV.thenS_exc, EV.hold_nil, EV.for_eq, EV.onS_some, EV.bindD_eq, EV.ite_okb, EV.lim, EV.zip_maps, EV.zip3_maps, EV.enum_maps, x2])
  (rw [hold_cons]; simp [EV.evSs, EV.evS, EV.evE, EV.evEs, EV.evAnd, EV.evOr, EV.evO, EV.evI, EV.evIfs, EV.R.bind, EV.R.fl, EV.R.of, EV.R.tst, EV.end_nx, EV.end_rd, EV.end_rn, EV.end_exc, EV.ret_d, EV.ret_nw, EV.ioNd, EV.iosOf, EV.den, EV.dens, EV.keep, EV.keeps, EV.args, EV.back, EV.outsOf, EV.stD, EV.bt_nm, EV.bt_tp, EV.bt_nil, EV.bt_cons, EV.wip, EV.ioOk, EV.parD, EV.putW, EV.augF, EV.binD, EV.same_cmp, EV.same_ne, EV.ints_shp, EV.ints_shpL, EV.cmp_ii, EV.cmp_ni, EV.cmp_ss, EV.cmp_ns, EV.cmp_bb, EV.cmp_nb, EV.cmp_lt, EV.cmp_le, EV.cmp_gt, EV.cmp_ge, EV.is_n, EV.is_b, EV.is_i, EV.is_s, EV.is_l, EV.is_t, EV.is_bb, EV.isn_n, EV.isn_b, EV.isn_i, EV.isn_s, EV.isn_l, EV.isn_t, EV.isn_bb, EV.tru_n, EV.tru_b, EV.tru_i, EV.tru_l, EV.tru_t, EV.biD, EV.idx_l, EV.idx_t, EV.cut_l, EV.cut_t, EV.seq_l, EV.seq_t, EV.zipD, EV.rngD, EV.enumD, EV.enzD, EV.tupW, EV.lstW, EV.rev_l, EV.rev_t, EV.thenS_nx, EV.thenS_rt, EV.thenS_ct, EV.thenS_exc, EV.hold_nil, EV.for_eq, EV.onS_some, EV.bindD_eq, EV.ite_okb, EV.lim, EV.zip_maps, EV.zip3_maps, EV.enum_maps, x3])
  (rw [hold_cons]; simp [EV.evSs, EV.evS, EV.evE, EV.evEs, EV.evAnd, EV.evOr, EV.evO, EV.evI, EV.evIfs, EV.R.bind, EV.R.fl, EV.R.of, EV.R.tst, EV.end_nx, EV.end_rd, EV.end_rn, EV.end_exc, EV.ret_d, EV.ret_nw, EV.ioNd, EV.iosOf, EV.den, EV.dens, EV.keep, EV.keeps, EV.args, EV.back, EV.outsOf, EV.stD, EV.bt_nm, EV.bt_tp, EV.bt_nil, EV.bt_cons, EV.wip, EV.ioOk, EV.parD, EV.putW, EV.augF, EV.binD, EV.same_cmp, EV.same_ne, EV.ints_shp, EV.ints_shpL, EV.cmp_ii, EV.cmp_ni, EV.cmp_ss, EV.cmp_ns, EV.cmp_bb, EV.cmp_nb, EV.cmp_lt, EV.cmp_le, EV.cmp_gt, EV.cmp_ge, EV.is_n, EV.is_b, EV.is_i, EV.is_s, EV.is_l, EV.is_t, EV.is_bb, EV.isn_n, EV.isn_b, EV.isn_i, EV.isn_s, EV.isn_l, EV.isn_t, EV.isn_bb, EV.tru_n, EV.tru_b, EV.tru_i, EV.tru_l, EV.tru_t, EV.biD, EV.idx_l, EV.idx_t, EV.cut_l, EV.cut_t, EV.seq_l, EV.seq_t, EV.zipD, EV.rngD, EV.enumD, EV.enzD, EV.tupW, EV.lstW, EV.rev_l, EV.rev_t, EV.thenS_nx, EV.thenS_rt, EV.thenS_ct, EV.thenS_exc, EV.hold_nil, EV.for_eq, EV.onS_some, EV.bindD_eq, EV.ite_okb, EV.lim, EV.zip_maps, EV.zip3_maps, EV.enum_maps, x4])
/-! the law's own look -/
theorem bx_fault (n : Nat) (r : List Kd) (s : List Cell) (i : Int) (hr : RowOk r) (h : StOk r s) (hi : -9 ≤ i ∧ i ≤ 9) : CC (n + 2) i_law_fault [.d (rowE r), .d (stE s), .d (.int i)] = .ok (.d (fE (frow r s i))) [none, none, none] := by
  rw [u_law_fault _ _ _ _ rfl, b_law_fault, hold_eq]
  (rw [hold_cons]; simp [EV.evSs, EV.evS, EV.evE, EV.evEs, EV.evAnd, EV.evOr, EV.evO, EV.evI, EV.evIfs, EV.R.bind, EV.R.fl, EV.R.of, EV.R.tst, EV.end_nx, EV.end_rd, EV.end_rn, EV.end_exc, EV.ret_d, EV.ret_nw, EV.ioNd, EV.iosOf, EV.den, EV.dens, EV.keep, EV.keeps, EV.args, EV.back, EV.outsOf, EV.stD, EV.bt_nm, EV.bt_tp, EV.bt_nil, EV.bt_cons, EV.wip, EV.ioOk, EV.parD, EV.putW, EV.augF, EV.binD, EV.same_cmp, EV.same_ne, EV.ints_shp, EV.ints_shpL, EV.cmp_ii, EV.cmp_ni, EV.cmp_ss, EV.cmp_ns, EV.cmp_bb, EV.cmp_nb, EV.cmp_lt, EV.cmp_le, EV.cmp_gt, EV.cmp_ge, EV.is_n, EV.is_b, EV.is_i, EV.is_s, EV.is_l, EV.is_t, EV.is_bb, EV.isn_n, EV.isn_b, EV.isn_i, EV.isn_s, EV.isn_l, EV.isn_t, EV.isn_bb, EV.tru_n, EV.tru_b, EV.tru_i, EV.tru_l, EV.tru_t, EV.biD, EV.idx_l, EV.idx_t, EV.cut_l, EV.cut_t, EV.seq_l, EV.seq_t, EV.zipD, EV.rngD, EV.enumD, EV.enzD, EV.tupW, EV.lstW, EV.rev_l, EV.rev_t, EV.thenS_nx, EV.thenS_rt, EV.thenS_ct, EV.thenS_exc, EV.hold_nil, EV.for_eq, EV.onS_some, EV.bindD_eq, EV.ite_okb, EV.lim, EV.zip_maps, EV.zip3_maps, EV.enum_maps, l_law_fault_0])
  have sl := shows_len r s i h.len
  have xs := bx_shown n r s i hr h hi
  refine forL_ind (fun q : (Kd × Cell) × Nat => .tuple [.int (q.2 : Int), .tuple [q.1.1.e, ce q.1.2]]) (Z := fun z => endCR _ z = _) (fun rest s1 => ∃ j x3 x4 x5 x6 x7 x8 x9 x10 x11, rest = ((r.zip s).drop j).zipIdx j ∧ frow r s i = ffrom r s i j ((showsL r s i).drop j) ∧ s1 = [some (.d (rowE r)), some (.d (stE s)), some (.d (.int i)), x3, x4, x5, x6, x7, x8, x9, x10, x11]) ?_ ?_ ((r.zip s).zipIdx 0) _ ⟨0, _, _, _, _, _, _, _, _, _, rfl, rfl, rfl⟩
  · rintro ⟨⟨k, c⟩, j'⟩ rest s1 J Z hJ hZ ⟨j, x3, x4, x5, x6, x7, x8, x9, x10, x11, hd, hq, rfl⟩
    obtain ⟨e1, rfl, hd2⟩ := zipIdx_drop (r.zip s) j _ _ hd
    simp only at e1 hd2 hq ⊢
    obtain ⟨ek, ec⟩ := List.getElem?_zip_eq_some.mp e1
    have e3 : (showsL r s i)[j']? = some (showOf k c i) := by
      unfold showsL
      rw [List.getElem?_map, e1]
      rfl
    have e3' : atD ((showsL r s i).map PyData.int) (j' : Int) = some (.int (showOf k c i)) := by rw [at_n, List.getElem?_map, e3]; rfl
    obtain ⟨hl, e5⟩ := List.getElem?_eq_some_iff.mp e3
    rw [List.drop_eq_getElem_cons hl, e5, ffrom, ek, ec] at hq
    simp only at hq
    generalize showOf k c i = v at e3' hq
    have k0 : atD [PyData.int k.full, .tuple (k.volts.map .int), .int k.loss, .int k.low, .int k.high, .int k.out, .int k.back] 0 = some (.int k.full) := rfl
    have k3 : atD [PyData.int k.full, .tuple (k.volts.map .int), .int k.loss, .int k.low, .int k.high, .int k.out, .int k.back] 3 = some (.int k.low) := rfl
    have k4 : atD [PyData.int k.full, .tuple (k.volts.map .int), .int k.loss, .int k.low, .int k.high, .int k.out, .int k.back] 4 = some (.int k.high) := rfl
    have k5 : atD [PyData.int k.full, .tuple (k.volts.map .int), .int k.loss, .int k.low, .int k.high, .int k.out, .int k.back] 5 = some (.int k.out) := rfl
    have k6 : atD [PyData.int k.full, .tuple (k.volts.map .int), .int k.loss, .int k.low, .int k.high, .int k.out, .int k.back] 6 = some (.int k.back) := rfl
    have tail : ∀ (ps : List (String × Bool)) (x4 x5 x6 x7 y9 y10 y11 : Option SV), ps.length ≤ 5 → (∀ p ∈ ps, shp 59 (wd p.1) = true) → cfault k c i v = (ps.filterMap fun p => if p.2 then some p.1 else none).head? →
        Goes Z J (hold gm.G (CC (n + 1)) (.cons (.set 9 q_law_fault_0) (.cons (.iff (.cmp .ne (.v 9) (.lst .nil)) (.cons (.ret (.tup (.cons (.v 3) (.cons (.idx (.v 9) (.c (.int 0))) .nil)))) .nil) .nil) .nil))
          [some (.d (rowE r)), some (.d (stE s)), some (.d (.int i)), some (.d (.int (j' : Int))), x4, x5, x6, x7, some (.d (.list (ps.map fun p => .tuple [wd p.1, .bool p.2]))), y9, y10, y11]) := by
      intro ps x4 x5 x6 x7 y9 y10 y11 hps hw hc
      have hq2 : evE gm.G (CC (n + 1)) q_law_fault_0 [some (.d (rowE r)), some (.d (stE s)), some (.d (.int i)), some (.d (.int (j' : Int))), x4, x5, x6, x7, some (.d (.list (ps.map fun p => .tuple [wd p.1, .bool p.2]))), y9, y10, y11] =
          .ok (.nw ((ps.filterMap fun p => if p.2 then some p.1 else none).map wd)) [some (.d (rowE r)), some (.d (stE s)), some (.d (.int i)), some (.d (.int (j' : Int))), x4, x5, x6, x7, some (.d (.list (ps.map fun p => .tuple [wd p.1, .bool p.2]))), y9, none, none] := by
        have := comp_if (G := gm.G) (C := CC (n + 1)) (elt := .v 10) (tg := .tp (.cons (.nm 10) (.cons (.nm 11) .nil))) (it := .seq (.v 8)) (own := [10, 11]) (ifs := .cons (.v 11) .nil) (s := [some (.d (rowE r)), some (.d (stE s)), some (.d (.int i)), some (.d (.int (j' : Int))), x4, x5, x6, x7, some (.d (.list (ps.map fun p => .tuple [wd p.1, .bool p.2]))), y9, y10, y11])
          ps (fun p => .tuple [wd p.1, .bool p.2]) (fun p => if p.2 then some (wd p.1) else none) (by simp [EV.evSs, EV.evS, EV.evE, EV.evEs, EV.evAnd, EV.evOr, EV.evO, EV.evI, EV.evIfs, EV.R.bind, EV.R.fl, EV.R.of, EV.R.tst, EV.end_nx, EV.end_rd, EV.end_rn, EV.end_exc, EV.ret_d, EV.ret_nw, EV.ioNd, EV.iosOf, EV.den, EV.dens, EV.keep, EV.keeps, EV.args, EV.back, EV.outsOf, EV.stD, EV.bt_nm, EV.bt_tp, EV.bt_nil, EV.bt_cons, EV.wip, EV.ioOk, EV.parD, EV.putW, EV.augF, EV.binD, EV.same_cmp, EV.same_ne, EV.ints_shp, EV.ints_shpL, EV.cmp_ii, EV.cmp_ni, EV.cmp_ss, EV.cmp_ns, EV.cmp_bb, EV.cmp_nb, EV.cmp_lt, EV.cmp_le, EV.cmp_gt, EV.cmp_ge, EV.is_n, EV.is_b, EV.is_i, EV.is_s, EV.is_l, EV.is_t, EV.is_bb, EV.isn_n, EV.isn_b, EV.isn_i, EV.isn_s, EV.isn_l, EV.isn_t, EV.isn_bb, EV.tru_n, EV.tru_b, EV.tru_i, EV.tru_l, EV.tru_t, EV.biD, EV.idx_l, EV.idx_t, EV.cut_l, EV.cut_t, EV.seq_l, EV.seq_t, EV.zipD, EV.rngD, EV.enumD, EV.enzD, EV.tupW, EV.lstW, EV.rev_l, EV.rev_t, EV.thenS_nx, EV.thenS_rt, EV.thenS_ct, EV.thenS_exc, EV.hold_nil, EV.for_eq, EV.onS_some, EV.bindD_eq, EV.ite_okb, EV.lim, EV.zip_maps, EV.zip3_maps, EV.enum_maps] <;> rfl) (by omega) fun p hp => by
            obtain ⟨a, b⟩ := p
            cases b <;> simp [EV.evSs, EV.evS, EV.evE, EV.evEs, EV.evAnd, EV.evOr, EV.evO, EV.evI, EV.evIfs, EV.R.bind, EV.R.fl, EV.R.of, EV.R.tst, EV.end_nx, EV.end_rd, EV.end_rn, EV.end_exc, EV.ret_d, EV.ret_nw, EV.ioNd, EV.iosOf, EV.den, EV.dens, EV.keep, EV.keeps, EV.args, EV.back, EV.outsOf, EV.stD, EV.bt_nm, EV.bt_tp, EV.bt_nil, EV.bt_cons, EV.wip, EV.ioOk, EV.parD, EV.putW, EV.augF, EV.binD, EV.same_cmp, EV.same_ne, EV.ints_shp, EV.ints_shpL, EV.cmp_ii, EV.cmp_ni, EV.cmp_ss, EV.cmp_ns, EV.cmp_bb, EV.cmp_nb, EV.cmp_lt, EV.cmp_le, EV.cmp_gt, EV.cmp_ge, EV.is_n, EV.is_b, EV.is_i, EV.is_s, EV.is_l, EV.is_t, EV.is_bb, EV.isn_n, EV.isn_b, EV.isn_i, EV.isn_s, EV.isn_l, EV.isn_t, EV.isn_bb, EV.tru_n, EV.tru_b, EV.tru_i, EV.tru_l, EV.tru_t, EV.biD, EV.idx_l, EV.idx_t, EV.cut_l, EV.cut_t, EV.seq_l, EV.seq_t, EV.zipD, EV.rngD, EV.enumD, EV.enzD, EV.tupW, EV.lstW, EV.rev_l, EV.rev_t, EV.thenS_nx, EV.thenS_rt, EV.thenS_ct, EV.thenS_exc, EV.hold_nil, EV.for_eq, EV.onS_some, EV.bindD_eq, EV.ite_okb, EV.lim, EV.zip_maps, EV.zip3_maps, EV.enum_maps, turnC]
        rw [show (ps.filterMap fun p => if p.2 then some p.1 else none).map wd = ps.filterMap fun p => if p.2 then some (wd p.1) else none by
          rw [List.map_filterMap]
          congr 1
          funext p
          cases p.2 <;> rfl]
        exact this
      have hws : ∀ x ∈ ps.filterMap (fun p => if p.2 then some p.1 else none), shp 59 (wd x) = true := by
        intro x hx
        obtain ⟨p, hp, e⟩ := List.mem_filterMap.mp hx
        have := hw p hp
        split at e
        · cases e; exact this
        · cases e
      generalize ps.filterMap (fun p => if p.2 then some p.1 else none) = ws at hq2 hc hws
      rw [hc] at hq
      (rw [hold_cons]; simp [EV.evSs, EV.evS, EV.evE, EV.evEs, EV.evAnd, EV.evOr, EV.evO, EV.evI, EV.evIfs, EV.R.bind, EV.R.fl, EV.R.of, EV.R.tst, EV.end_nx, EV.end_rd, EV.end_rn, EV.end_exc, EV.ret_d, EV.ret_nw, EV.ioNd, EV.iosOf, EV.den, EV.dens, EV.keep, EV.keeps, EV.args, EV.back, EV.outsOf, EV.stD, EV.bt_nm, EV.bt_tp, EV.bt_nil, EV.bt_cons, EV.wip, EV.ioOk, EV.parD, EV.putW, EV.augF, EV.binD, EV.same_cmp, EV.same_ne, EV.ints_shp, EV.ints_shpL, EV.cmp_ii, EV.cmp_ni, EV.cmp_ss, EV.cmp_ns, EV.cmp_bb, EV.cmp_nb, EV.cmp_lt, EV.cmp_le, EV.cmp_gt, EV.cmp_ge, EV.is_n, EV.is_b, EV.is_i, EV.is_s, EV.is_l, EV.is_t, EV.is_bb, EV.isn_n, EV.isn_b, EV.isn_i, EV.isn_s, EV.isn_l, EV.isn_t, EV.isn_bb, EV.tru_n, EV.tru_b, EV.tru_i, EV.tru_l, EV.tru_t, EV.biD, EV.idx_l, EV.idx_t, EV.cut_l, EV.cut_t, EV.seq_l, EV.seq_t, EV.zipD, EV.rngD, EV.enumD, EV.enzD, EV.tupW, EV.lstW, EV.rev_l, EV.rev_t, EV.thenS_nx, EV.thenS_rt, EV.thenS_ct, EV.thenS_exc, EV.hold_nil, EV.for_eq, EV.onS_some, EV.bindD_eq, EV.ite_okb, EV.lim, EV.zip_maps, EV.zip3_maps, EV.enum_maps, hq2])
      cases ws with
      | nil =>
        have c0 : cmpD .ne (.list []) (.list []) = some false := by decide
        (rw [hold_cons]; simp [EV.evSs, EV.evS, EV.evE, EV.evEs, EV.evAnd, EV.evOr, EV.evO, EV.evI, EV.evIfs, EV.R.bind, EV.R.fl, EV.R.of, EV.R.tst, EV.end_nx, EV.end_rd, EV.end_rn, EV.end_exc, EV.ret_d, EV.ret_nw, EV.ioNd, EV.iosOf, EV.den, EV.dens, EV.keep, EV.keeps, EV.args, EV.back, EV.outsOf, EV.stD, EV.bt_nm, EV.bt_tp, EV.bt_nil, EV.bt_cons, EV.wip, EV.ioOk, EV.parD, EV.putW, EV.augF, EV.binD, EV.same_cmp, EV.same_ne, EV.ints_shp, EV.ints_shpL, EV.cmp_ii, EV.cmp_ni, EV.cmp_ss, EV.cmp_ns, EV.cmp_bb, EV.cmp_nb, EV.cmp_lt, EV.cmp_le, EV.cmp_gt, EV.cmp_ge, EV.is_n, EV.is_b, EV.is_i, EV.is_s, EV.is_l, EV.is_t, EV.is_bb, EV.isn_n, EV.isn_b, EV.isn_i, EV.isn_s, EV.isn_l, EV.isn_t, EV.isn_bb, EV.tru_n, EV.tru_b, EV.tru_i, EV.tru_l, EV.tru_t, EV.biD, EV.idx_l, EV.idx_t, EV.cut_l, EV.cut_t, EV.seq_l, EV.seq_t, EV.zipD, EV.rngD, EV.enumD, EV.enzD, EV.tupW, EV.lstW, EV.rev_l, EV.rev_t, EV.thenS_nx, EV.thenS_rt, EV.thenS_ct, EV.thenS_exc, EV.hold_nil, EV.for_eq, EV.onS_some, EV.bindD_eq, EV.ite_okb, EV.lim, EV.zip_maps, EV.zip3_maps, EV.enum_maps, c0])
        exact hJ _ ⟨j' + 1, _, _, _, _, _, _, _, _, _, hd2, hq, rfl⟩
      | cons a ws =>
        have c1 : cmpD .ne (.list (wd a :: ws.map wd)) (.list []) = some true := by
          have h1 : shp 60 (.list (wd a :: ws.map wd)) = true := by
            simp only [shp, List.all_cons, List.all_map, Bool.and_eq_true, List.all_eq_true]
            exact ⟨hws a List.mem_cons_self, fun x hx => hws x (List.mem_cons_of_mem _ hx)⟩
          have h2 : shp 60 (.list []) = true := by decide
          simp only [cmpD, h1, h2, Bool.and_self, if_true]
          rfl
        have a0 : atD (wd a :: ws.map wd) 0 = some (wd a) := by
          have := at_n (wd a :: ws.map wd) 0
          simpa using this
        (rw [hold_cons]; simp [EV.evSs, EV.evS, EV.evE, EV.evEs, EV.evAnd, EV.evOr, EV.evO, EV.evI, EV.evIfs, EV.R.bind, EV.R.fl, EV.R.of, EV.R.tst, EV.end_nx, EV.end_rd, EV.end_rn, EV.end_exc, EV.ret_d, EV.ret_nw, EV.ioNd, EV.iosOf, EV.den, EV.dens, EV.keep, EV.keeps, EV.args, EV.back, EV.outsOf, EV.stD, EV.bt_nm, EV.bt_tp, EV.bt_nil, EV.bt_cons, EV.wip, EV.ioOk, EV.parD, EV.putW, EV.augF, EV.binD, EV.same_cmp, EV.same_ne, EV.ints_shp, EV.ints_shpL, EV.cmp_ii, EV.cmp_ni, EV.cmp_ss, EV.cmp_ns, EV.cmp_bb, EV.cmp_nb, EV.cmp_lt, EV.cmp_le, EV.cmp_gt, EV.cmp_ge, EV.is_n, EV.is_b, EV.is_i, EV.is_s, EV.is_l, EV.is_t, EV.is_bb, EV.isn_n, EV.isn_b, EV.isn_i, EV.isn_s, EV.isn_l, EV.isn_t, EV.isn_bb, EV.tru_n, EV.tru_b, EV.tru_i, EV.tru_l, EV.tru_t, EV.biD, EV.idx_l, EV.idx_t, EV.cut_l, EV.cut_t, EV.seq_l, EV.seq_t, EV.zipD, EV.rngD, EV.enumD, EV.enzD, EV.tupW, EV.lstW, EV.rev_l, EV.rev_t, EV.thenS_nx, EV.thenS_rt, EV.thenS_ct, EV.thenS_exc, EV.hold_nil, EV.for_eq, EV.onS_some, EV.bindD_eq, EV.ite_okb, EV.lim, EV.zip_maps, EV.zip3_maps, EV.enum_maps, c1, a0, lim])
        refine hZ _ ?_
        rw [hq]
        rfl
    simp [EV.evSs, EV.evS, EV.evE, EV.evEs, EV.evAnd, EV.evOr, EV.evO, EV.evI, EV.evIfs, EV.R.bind, EV.R.fl, EV.R.of, EV.R.tst, EV.end_nx, EV.end_rd, EV.end_rn, EV.end_exc, EV.ret_d, EV.ret_nw, EV.ioNd, EV.iosOf, EV.den, EV.dens, EV.keep, EV.keeps, EV.args, EV.back, EV.outsOf, EV.stD, EV.bt_nm, EV.bt_tp, EV.bt_nil, EV.bt_cons, EV.wip, EV.ioOk, EV.parD, EV.putW, EV.augF, EV.binD, EV.same_cmp, EV.same_ne, EV.ints_shp, EV.ints_shpL, EV.cmp_ii, EV.cmp_ni, EV.cmp_ss, EV.cmp_ns, EV.cmp_bb, EV.cmp_nb, EV.cmp_lt, EV.cmp_le, EV.cmp_gt, EV.cmp_ge, EV.is_n, EV.is_b, EV.is_i, EV.is_s, EV.is_l, EV.is_t, EV.is_bb, EV.isn_n, EV.isn_b, EV.isn_i, EV.isn_s, EV.isn_l, EV.isn_t, EV.isn_bb, EV.tru_n, EV.tru_b, EV.tru_i, EV.tru_l, EV.tru_t, EV.biD, EV.idx_l, EV.idx_t, EV.cut_l, EV.cut_t, EV.seq_l, EV.seq_t, EV.zipD, EV.rngD, EV.enumD, EV.enzD, EV.tupW, EV.lstW, EV.rev_l, EV.rev_t, EV.thenS_nx, EV.thenS_rt, EV.thenS_ct, EV.thenS_exc, EV.hold_nil, EV.for_eq, EV.onS_some, EV.bindD_eq, EV.ite_okb, EV.lim, EV.zip_maps, EV.zip3_maps, EV.enum_maps, l_law_fault_0b]
    simp only [Kd.e, ce]
    (rw [hold_cons]; simp [EV.evSs, EV.evS, EV.evE, EV.evEs, EV.evAnd, EV.evOr, EV.evO, EV.evI, EV.evIfs, EV.R.bind, EV.R.fl, EV.R.of, EV.R.tst, EV.end_nx, EV.end_rd, EV.end_rn, EV.end_exc, EV.ret_d, EV.ret_nw, EV.ioNd, EV.iosOf, EV.den, EV.dens, EV.keep, EV.keeps, EV.args, EV.back, EV.outsOf, EV.stD, EV.bt_nm, EV.bt_tp, EV.bt_nil, EV.bt_cons, EV.wip, EV.ioOk, EV.parD, EV.putW, EV.augF, EV.binD, EV.same_cmp, EV.same_ne, EV.ints_shp, EV.ints_shpL, EV.cmp_ii, EV.cmp_ni, EV.cmp_ss, EV.cmp_ns, EV.cmp_bb, EV.cmp_nb, EV.cmp_lt, EV.cmp_le, EV.cmp_gt, EV.cmp_ge, EV.is_n, EV.is_b, EV.is_i, EV.is_s, EV.is_l, EV.is_t, EV.is_bb, EV.isn_n, EV.isn_b, EV.isn_i, EV.isn_s, EV.isn_l, EV.isn_t, EV.isn_bb, EV.tru_n, EV.tru_b, EV.tru_i, EV.tru_l, EV.tru_t, EV.biD, EV.idx_l, EV.idx_t, EV.cut_l, EV.cut_t, EV.seq_l, EV.seq_t, EV.zipD, EV.rngD, EV.enumD, EV.enzD, EV.tupW, EV.lstW, EV.rev_l, EV.rev_t, EV.thenS_nx, EV.thenS_rt, EV.thenS_ct, EV.thenS_exc, EV.hold_nil, EV.for_eq, EV.onS_some, EV.bindD_eq, EV.ite_okb, EV.lim, EV.zip_maps, EV.zip3_maps, EV.enum_maps, xs, e3'])
    by_cases h1 : k.out < i
    · (rw [hold_cons]; simp [EV.evSs, EV.evS, EV.evE, EV.evEs, EV.evAnd, EV.evOr, EV.evO, EV.evI, EV.evIfs, EV.R.bind, EV.R.fl, EV.R.of, EV.R.tst, EV.end_nx, EV.end_rd, EV.end_rn, EV.end_exc, EV.ret_d, EV.ret_nw, EV.ioNd, EV.iosOf, EV.den, EV.dens, EV.keep, EV.keeps, EV.args, EV.back, EV.outsOf, EV.stD, EV.bt_nm, EV.bt_tp, EV.bt_nil, EV.bt_cons, EV.wip, EV.ioOk, EV.parD, EV.putW, EV.augF, EV.binD, EV.same_cmp, EV.same_ne, EV.ints_shp, EV.ints_shpL, EV.cmp_ii, EV.cmp_ni, EV.cmp_ss, EV.cmp_ns, EV.cmp_bb, EV.cmp_nb, EV.cmp_lt, EV.cmp_le, EV.cmp_gt, EV.cmp_ge, EV.is_n, EV.is_b, EV.is_i, EV.is_s, EV.is_l, EV.is_t, EV.is_bb, EV.isn_n, EV.isn_b, EV.isn_i, EV.isn_s, EV.isn_l, EV.isn_t, EV.isn_bb, EV.tru_n, EV.tru_b, EV.tru_i, EV.tru_l, EV.tru_t, EV.biD, EV.idx_l, EV.idx_t, EV.cut_l, EV.cut_t, EV.seq_l, EV.seq_t, EV.zipD, EV.rngD, EV.enumD, EV.enzD, EV.tupW, EV.lstW, EV.rev_l, EV.rev_t, EV.thenS_nx, EV.thenS_rt, EV.thenS_ct, EV.thenS_exc, EV.hold_nil, EV.for_eq, EV.onS_some, EV.bindD_eq, EV.ite_okb, EV.lim, EV.zip_maps, EV.zip3_maps, EV.enum_maps, k0, k3, k4, k5, k6, h1])
      (rw [hold_cons]; simp [EV.evSs, EV.evS, EV.evE, EV.evEs, EV.evAnd, EV.evOr, EV.evO, EV.evI, EV.evIfs, EV.R.bind, EV.R.fl, EV.R.of, EV.R.tst, EV.end_nx, EV.end_rd, EV.end_rn, EV.end_exc, EV.ret_d, EV.ret_nw, EV.ioNd, EV.iosOf, EV.den, EV.dens, EV.keep, EV.keeps, EV.args, EV.back, EV.outsOf, EV.stD, EV.bt_nm, EV.bt_tp, EV.bt_nil, EV.bt_cons, EV.wip, EV.ioOk, EV.parD, EV.putW, EV.augF, EV.binD, EV.same_cmp, EV.same_ne, EV.ints_shp, EV.ints_shpL, EV.cmp_ii, EV.cmp_ni, EV.cmp_ss, EV.cmp_ns, EV.cmp_bb, EV.cmp_nb, EV.cmp_lt, EV.cmp_le, EV.cmp_gt, EV.cmp_ge, EV.is_n, EV.is_b, EV.is_i, EV.is_s, EV.is_l, EV.is_t, EV.is_bb, EV.isn_n, EV.isn_b, EV.isn_i, EV.isn_s, EV.isn_l, EV.isn_t, EV.isn_bb, EV.tru_n, EV.tru_b, EV.tru_i, EV.tru_l, EV.tru_t, EV.biD, EV.idx_l, EV.idx_t, EV.cut_l, EV.cut_t, EV.seq_l, EV.seq_t, EV.zipD, EV.rngD, EV.enumD, EV.enzD, EV.tupW, EV.lstW, EV.rev_l, EV.rev_t, EV.thenS_nx, EV.thenS_rt, EV.thenS_ct, EV.thenS_exc, EV.hold_nil, EV.for_eq, EV.onS_some, EV.bindD_eq, EV.ite_okb, EV.lim, EV.zip_maps, EV.zip3_maps, EV.enum_maps, k0, k3, k4, k5, k6, h1])
      refine tail [("draw", true), ("empty", decide (c.1 - i < 0)), ("over", decide (k.full - c.2 < c.1 - i)), ("low", decide (v < k.low)), ("high", decide (k.high < v))] _ _ _ _ _ _ _ (by simp) (by simp [wd]; decide +kernel) ?_
      simp [cfault, h1]
    · by_cases h2 : i < -k.back
      · (rw [hold_cons]; simp [EV.evSs, EV.evS, EV.evE, EV.evEs, EV.evAnd, EV.evOr, EV.evO, EV.evI, EV.evIfs, EV.R.bind, EV.R.fl, EV.R.of, EV.R.tst, EV.end_nx, EV.end_rd, EV.end_rn, EV.end_exc, EV.ret_d, EV.ret_nw, EV.ioNd, EV.iosOf, EV.den, EV.dens, EV.keep, EV.keeps, EV.args, EV.back, EV.outsOf, EV.stD, EV.bt_nm, EV.bt_tp, EV.bt_nil, EV.bt_cons, EV.wip, EV.ioOk, EV.parD, EV.putW, EV.augF, EV.binD, EV.same_cmp, EV.same_ne, EV.ints_shp, EV.ints_shpL, EV.cmp_ii, EV.cmp_ni, EV.cmp_ss, EV.cmp_ns, EV.cmp_bb, EV.cmp_nb, EV.cmp_lt, EV.cmp_le, EV.cmp_gt, EV.cmp_ge, EV.is_n, EV.is_b, EV.is_i, EV.is_s, EV.is_l, EV.is_t, EV.is_bb, EV.isn_n, EV.isn_b, EV.isn_i, EV.isn_s, EV.isn_l, EV.isn_t, EV.isn_bb, EV.tru_n, EV.tru_b, EV.tru_i, EV.tru_l, EV.tru_t, EV.biD, EV.idx_l, EV.idx_t, EV.cut_l, EV.cut_t, EV.seq_l, EV.seq_t, EV.zipD, EV.rngD, EV.enumD, EV.enzD, EV.tupW, EV.lstW, EV.rev_l, EV.rev_t, EV.thenS_nx, EV.thenS_rt, EV.thenS_ct, EV.thenS_exc, EV.hold_nil, EV.for_eq, EV.onS_some, EV.bindD_eq, EV.ite_okb, EV.lim, EV.zip_maps, EV.zip3_maps, EV.enum_maps, k0, k3, k4, k5, k6, h1, h2])
        (rw [hold_cons]; simp [EV.evSs, EV.evS, EV.evE, EV.evEs, EV.evAnd, EV.evOr, EV.evO, EV.evI, EV.evIfs, EV.R.bind, EV.R.fl, EV.R.of, EV.R.tst, EV.end_nx, EV.end_rd, EV.end_rn, EV.end_exc, EV.ret_d, EV.ret_nw, EV.ioNd, EV.iosOf, EV.den, EV.dens, EV.keep, EV.keeps, EV.args, EV.back, EV.outsOf, EV.stD, EV.bt_nm, EV.bt_tp, EV.bt_nil, EV.bt_cons, EV.wip, EV.ioOk, EV.parD, EV.putW, EV.augF, EV.binD, EV.same_cmp, EV.same_ne, EV.ints_shp, EV.ints_shpL, EV.cmp_ii, EV.cmp_ni, EV.cmp_ss, EV.cmp_ns, EV.cmp_bb, EV.cmp_nb, EV.cmp_lt, EV.cmp_le, EV.cmp_gt, EV.cmp_ge, EV.is_n, EV.is_b, EV.is_i, EV.is_s, EV.is_l, EV.is_t, EV.is_bb, EV.isn_n, EV.isn_b, EV.isn_i, EV.isn_s, EV.isn_l, EV.isn_t, EV.isn_bb, EV.tru_n, EV.tru_b, EV.tru_i, EV.tru_l, EV.tru_t, EV.biD, EV.idx_l, EV.idx_t, EV.cut_l, EV.cut_t, EV.seq_l, EV.seq_t, EV.zipD, EV.rngD, EV.enumD, EV.enzD, EV.tupW, EV.lstW, EV.rev_l, EV.rev_t, EV.thenS_nx, EV.thenS_rt, EV.thenS_ct, EV.thenS_exc, EV.hold_nil, EV.for_eq, EV.onS_some, EV.bindD_eq, EV.ite_okb, EV.lim, EV.zip_maps, EV.zip3_maps, EV.enum_maps, k0, k3, k4, k5, k6, h1, h2])
        refine tail [("draw", true), ("empty", decide (c.1 - i < 0)), ("over", decide (k.full - c.2 < c.1 - i)), ("low", decide (v < k.low)), ("high", decide (k.high < v))] _ _ _ _ _ _ _ (by simp) (by simp [wd]; decide +kernel) ?_
        simp [cfault, h2]
      · (rw [hold_cons]; simp [EV.evSs, EV.evS, EV.evE, EV.evEs, EV.evAnd, EV.evOr, EV.evO, EV.evI, EV.evIfs, EV.R.bind, EV.R.fl, EV.R.of, EV.R.tst, EV.end_nx, EV.end_rd, EV.end_rn, EV.end_exc, EV.ret_d, EV.ret_nw, EV.ioNd, EV.iosOf, EV.den, EV.dens, EV.keep, EV.keeps, EV.args, EV.back, EV.outsOf, EV.stD, EV.bt_nm, EV.bt_tp, EV.bt_nil, EV.bt_cons, EV.wip, EV.ioOk, EV.parD, EV.putW, EV.augF, EV.binD, EV.same_cmp, EV.same_ne, EV.ints_shp, EV.ints_shpL, EV.cmp_ii, EV.cmp_ni, EV.cmp_ss, EV.cmp_ns, EV.cmp_bb, EV.cmp_nb, EV.cmp_lt, EV.cmp_le, EV.cmp_gt, EV.cmp_ge, EV.is_n, EV.is_b, EV.is_i, EV.is_s, EV.is_l, EV.is_t, EV.is_bb, EV.isn_n, EV.isn_b, EV.isn_i, EV.isn_s, EV.isn_l, EV.isn_t, EV.isn_bb, EV.tru_n, EV.tru_b, EV.tru_i, EV.tru_l, EV.tru_t, EV.biD, EV.idx_l, EV.idx_t, EV.cut_l, EV.cut_t, EV.seq_l, EV.seq_t, EV.zipD, EV.rngD, EV.enumD, EV.enzD, EV.tupW, EV.lstW, EV.rev_l, EV.rev_t, EV.thenS_nx, EV.thenS_rt, EV.thenS_ct, EV.thenS_exc, EV.hold_nil, EV.for_eq, EV.onS_some, EV.bindD_eq, EV.ite_okb, EV.lim, EV.zip_maps, EV.zip3_maps, EV.enum_maps, k0, k3, k4, k5, k6, h1, h2])
        (rw [hold_cons]; simp [EV.evSs, EV.evS, EV.evE, EV.evEs, EV.evAnd, EV.evOr, EV.evO, EV.evI, EV.evIfs, EV.R.bind, EV.R.fl, EV.R.of, EV.R.tst, EV.end_nx, EV.end_rd, EV.end_rn, EV.end_exc, EV.ret_d, EV.ret_nw, EV.ioNd, EV.iosOf, EV.den, EV.dens, EV.keep, EV.keeps, EV.args, EV.back, EV.outsOf, EV.stD, EV.bt_nm, EV.bt_tp, EV.bt_nil, EV.bt_cons, EV.wip, EV.ioOk, EV.parD, EV.putW, EV.augF, EV.binD, EV.same_cmp, EV.same_ne, EV.ints_shp, EV.ints_shpL, EV.cmp_ii, EV.cmp_ni, EV.cmp_ss, EV.cmp_ns, EV.cmp_bb, EV.cmp_nb, EV.cmp_lt, EV.cmp_le, EV.cmp_gt, EV.cmp_ge, EV.is_n, EV.is_b, EV.is_i, EV.is_s, EV.is_l, EV.is_t, EV.is_bb, EV.isn_n, EV.isn_b, EV.isn_i, EV.isn_s, EV.isn_l, EV.isn_t, EV.isn_bb, EV.tru_n, EV.tru_b, EV.tru_i, EV.tru_l, EV.tru_t, EV.biD, EV.idx_l, EV.idx_t, EV.cut_l, EV.cut_t, EV.seq_l, EV.seq_t, EV.zipD, EV.rngD, EV.enumD, EV.enzD, EV.tupW, EV.lstW, EV.rev_l, EV.rev_t, EV.thenS_nx, EV.thenS_rt, EV.thenS_ct, EV.thenS_exc, EV.hold_nil, EV.for_eq, EV.onS_some, EV.bindD_eq, EV.ite_okb, EV.lim, EV.zip_maps, EV.zip3_maps, EV.enum_maps, k0, k3, k4, k5, k6, h1, h2])
        refine tail [("draw", false), ("empty", decide (c.1 - i < 0)), ("over", decide (k.full - c.2 < c.1 - i)), ("low", decide (v < k.low)), ("high", decide (k.high < v))] _ _ _ _ _ _ _ (by simp) (by simp [wd]; decide +kernel) ?_
        simp only [cfault, h1, h2, gt_iff_lt, Int.zero_sub, or_self, if_false]
        by_cases h3 : c.1 - i < 0
        · simp [h3]
        · by_cases h4 : k.full - c.2 < c.1 - i
          · simp [h3, h4]
          · by_cases h5 : v < k.low
            · simp [h3, h4, h5]
            · by_cases h6 : k.high < v <;> simp [h3, h4, h5, h6]
  · rintro s1 ⟨j, x3, x4, x5, x6, x7, x8, x9, x10, x11, hd, hq, rfl⟩
    have hj : (showsL r s i).length ≤ j := by
      have := congrArg List.length hd
      have := h.len
      simp only [List.length_nil, List.length_zipIdx, List.length_drop, List.length_zip] at *
      omega
    rw [List.drop_eq_nil_of_le hj] at hq
    rw [hq]
    (rw [hold_cons]; simp [EV.evSs, EV.evS, EV.evE, EV.evEs, EV.evAnd, EV.evOr, EV.evO, EV.evI, EV.evIfs, EV.R.bind, EV.R.fl, EV.R.of, EV.R.tst, EV.end_nx, EV.end_rd, EV.end_rn, EV.end_exc, EV.ret_d, EV.ret_nw, EV.ioNd, EV.iosOf, EV.den, EV.dens, EV.keep, EV.keeps, EV.args, EV.back, EV.outsOf, EV.stD, EV.bt_nm, EV.bt_tp, EV.bt_nil, EV.bt_cons, EV.wip, EV.ioOk, EV.parD, EV.putW, EV.augF, EV.binD, EV.same_cmp, EV.same_ne, EV.ints_shp, EV.ints_shpL, EV.cmp_ii, EV.cmp_ni, EV.cmp_ss, EV.cmp_ns, EV.cmp_bb, EV.cmp_nb, EV.cmp_lt, EV.cmp_le, EV.cmp_gt, EV.cmp_ge, EV.is_n, EV.is_b, EV.is_i, EV.is_s, EV.is_l, EV.is_t, EV.is_bb, EV.isn_n, EV.isn_b, EV.isn_i, EV.isn_s, EV.isn_l, EV.isn_t, EV.isn_bb, EV.tru_n, EV.tru_b, EV.tru_i, EV.tru_l, EV.tru_t, EV.biD, EV.idx_l, EV.idx_t, EV.cut_l, EV.cut_t, EV.seq_l, EV.seq_t, EV.zipD, EV.rngD, EV.enumD, EV.enzD, EV.tupW, EV.lstW, EV.rev_l, EV.rev_t, EV.thenS_nx, EV.thenS_rt, EV.thenS_ct, EV.thenS_exc, EV.hold_nil, EV.for_eq, EV.onS_some, EV.bindD_eq, EV.ite_okb, EV.lim, EV.zip_maps, EV.zip3_maps, EV.enum_maps, ffrom, fE])
end YK17

namespace YK17
open PySem EV
theorem bx_behind (n : Nat) (s : List Cell) (i : Int) (hl : s.length ≤ 100) : CC (n + 1) i_law_behind [.d (stE s), .d (.int i)] = .ok (.d (stE (behindL s i))) [none, none] := by
  rw [u_law_behind _ _ _ rfl, b_law_behind, hold_eq]
  have hq : evE gm.G (CC n) q_law_behind_0 [some (.d (stE s)), some (.d (.int i)), none, none] = .ok (.nw (s.map fun c => ce (c.1 - i, c.2))) [some (.d (stE s)), some (.d (.int i)), none, none] :=
    comp_as s ce _ (by simp [EV.evSs, EV.evS, EV.evE, EV.evEs, EV.evAnd, EV.evOr, EV.evO, EV.evI, EV.evIfs, EV.R.bind, EV.R.fl, EV.R.of, EV.R.tst, EV.endCR, EV.ioNd, EV.iosOf, EV.den, EV.dens, EV.keep, EV.keeps, EV.args, EV.back, EV.retOk, EV.outsOf, EV.stD, EV.bindT, EV.bindTs, EV.wip, EV.ioOk, EV.binD, EV.cmpD, EV.truD, EV.biD, EV.idxD, EV.cutD, EV.seqD, EV.zipD, EV.rngD, EV.enumD, EV.enzD, EV.tupW, EV.lstW, EV.shp, EV.revD]) rfl (by omega) fun a ha => by simp [EV.evSs, EV.evS, EV.evE, EV.evEs, EV.evAnd, EV.evOr, EV.evO, EV.evI, EV.evIfs, EV.R.bind, EV.R.fl, EV.R.of, EV.R.tst, EV.endCR, EV.ioNd, EV.iosOf, EV.den, EV.dens, EV.keep, EV.keeps, EV.args, EV.back, EV.retOk, EV.outsOf, EV.stD, EV.bindT, EV.bindTs, EV.wip, EV.ioOk, EV.binD, EV.cmpD, EV.truD, EV.biD, EV.idxD, EV.cutD, EV.seqD, EV.zipD, EV.rngD, EV.enumD, EV.enzD, EV.tupW, EV.lstW, EV.shp, EV.revD, turnC, ce, lim]
  (rw [hold_cons]; simp [EV.evSs, EV.evS, EV.evE, EV.evEs, EV.evAnd, EV.evOr, EV.evO, EV.evI, EV.evIfs, EV.R.bind, EV.R.fl, EV.R.of, EV.R.tst, EV.end_nx, EV.end_rd, EV.end_rn, EV.end_exc, EV.ret_d, EV.ret_nw, EV.ioNd, EV.iosOf, EV.den, EV.dens, EV.keep, EV.keeps, EV.args, EV.back, EV.outsOf, EV.stD, EV.bt_nm, EV.bt_tp, EV.bt_nil, EV.bt_cons, EV.wip, EV.ioOk, EV.parD, EV.putW, EV.augF, EV.binD, EV.same_cmp, EV.same_ne, EV.ints_shp, EV.ints_shpL, EV.cmp_ii, EV.cmp_ni, EV.cmp_ss, EV.cmp_ns, EV.cmp_bb, EV.cmp_nb, EV.cmp_lt, EV.cmp_le, EV.cmp_gt, EV.cmp_ge, EV.is_n, EV.is_b, EV.is_i, EV.is_s, EV.is_l, EV.is_t, EV.is_bb, EV.isn_n, EV.isn_b, EV.isn_i, EV.isn_s, EV.isn_l, EV.isn_t, EV.isn_bb, EV.tru_n, EV.tru_b, EV.tru_i, EV.tru_l, EV.tru_t, EV.biD, EV.idx_l, EV.idx_t, EV.cut_l, EV.cut_t, EV.seq_l, EV.seq_t, EV.zipD, EV.rngD, EV.enumD, EV.enzD, EV.tupW, EV.lstW, EV.rev_l, EV.rev_t, EV.thenS_nx, EV.thenS_rt, EV.thenS_ct, EV.thenS_exc, EV.hold_nil, EV.for_eq, EV.onS_some, EV.bindD_eq, EV.ite_okb, EV.lim, EV.zip_maps, EV.zip3_maps, EV.enum_maps, hq])
  simp [behindL]
theorem bx_unfit (n : Nat) (r : List Kd) (p : Slp) (x : Rdg) (s : List Cell) (i : Int) (hr : RowOk r) (h : StOk r s) (hx : x.2.length = r.length) (hi : -9 ≤ i ∧ i ≤ 9) :
    CC (n + 3) i_law_unfit [.d (rowE r), .d (ce p), .d (rdE x), .d (stE s), .d (.int i)] = .ok (.d (oE (unfitP r p x s i))) [none, none, none, none, none] := by
  rw [u_law_unfit _ _ _ _ _ _ rfl, b_law_unfit, hold_eq]
  have x1 := bx_fault n r s i hr h hi
  obtain ⟨pa, pb⟩ := p
  obtain ⟨t, os⟩ := x
  simp only at hx
  have a0 : atD [oE t, .tuple (os.map oE)] 0 = some (oE t) := rfl
  have a1 : atD [oE t, .tuple (os.map oE)] 1 = some (.tuple (os.map oE)) := rfl
  have p0 : atD [PyData.int pa, .int pb] 0 = some (.int pa) := rfl
  have p1 : atD [PyData.int pa, .int pb] 1 = some (.int pb) := rfl
  cases hf : frow r s i with
  | some w =>
    rw [hf] at x1
    obtain ⟨j, w⟩ := w
    simp only [fE] at x1
    (rw [hold_cons]; simp [EV.evSs, EV.evS, EV.evE, EV.evEs, EV.evAnd, EV.evOr, EV.evO, EV.evI, EV.evIfs, EV.R.bind, EV.R.fl, EV.R.of, EV.R.tst, EV.end_nx, EV.end_rd, EV.end_rn, EV.end_exc, EV.ret_d, EV.ret_nw, EV.ioNd, EV.iosOf, EV.den, EV.dens, EV.keep, EV.keeps, EV.args, EV.back, EV.outsOf, EV.stD, EV.bt_nm, EV.bt_tp, EV.bt_nil, EV.bt_cons, EV.wip, EV.ioOk, EV.parD, EV.putW, EV.augF, EV.binD, EV.same_cmp, EV.same_ne, EV.ints_shp, EV.ints_shpL, EV.cmp_ii, EV.cmp_ni, EV.cmp_ss, EV.cmp_ns, EV.cmp_bb, EV.cmp_nb, EV.cmp_lt, EV.cmp_le, EV.cmp_gt, EV.cmp_ge, EV.is_n, EV.is_b, EV.is_i, EV.is_s, EV.is_l, EV.is_t, EV.is_bb, EV.isn_n, EV.isn_b, EV.isn_i, EV.isn_s, EV.isn_l, EV.isn_t, EV.isn_bb, EV.tru_n, EV.tru_b, EV.tru_i, EV.tru_l, EV.tru_t, EV.biD, EV.idx_l, EV.idx_t, EV.cut_l, EV.cut_t, EV.seq_l, EV.seq_t, EV.zipD, EV.rngD, EV.enumD, EV.enzD, EV.tupW, EV.lstW, EV.rev_l, EV.rev_t, EV.thenS_nx, EV.thenS_rt, EV.thenS_ct, EV.thenS_exc, EV.hold_nil, EV.for_eq, EV.onS_some, EV.bindD_eq, EV.ite_okb, EV.lim, EV.zip_maps, EV.zip3_maps, EV.enum_maps, x1])
    simp [unfitP, hf, oE]
  | none =>
    rw [hf] at x1
    simp only [fE] at x1
    have key : offB i t pa = false → ∀ x5 x6, endCR [.d (rowE r), .d (.tuple [.int pa, .int pb]), .d (.tuple [oE t, .tuple (os.map oE)]), .d (stE s), .d (.int i)] (hold gm.G (CC (n + 2)) (.cons (l_law_unfit_0) (.cons (.ret (.c .none)) .nil)) [some (.d (rowE r)), some (.d (.tuple [.int pa, .int pb])), some (.d (.tuple [oE t, .tuple (os.map oE)])), some (.d (stE s)), some (.d (.int i)), x5, x6]) =
        .ok (.d (oE (unfitP r (pa, pb) (t, os) s i))) [none, none, none, none, none] := by
      intro ho y5 y6
      have x3 := bx_shown (n + 1) r s i hr h hi
      have sl := shows_len r s i h.len
      have e0 : unfitP r (pa, pb) (t, os) s i = (ofrom pb os 0 (showsL r s i)).map fun j : Nat => (j : Int) + 1 := by simp [unfitP, hf, ho]
      rw [e0]
      (rw [hold_cons]; simp [EV.evSs, EV.evS, EV.evE, EV.evEs, EV.evAnd, EV.evOr, EV.evO, EV.evI, EV.evIfs, EV.R.bind, EV.R.fl, EV.R.of, EV.R.tst, EV.end_nx, EV.end_rd, EV.end_rn, EV.end_exc, EV.ret_d, EV.ret_nw, EV.ioNd, EV.iosOf, EV.den, EV.dens, EV.keep, EV.keeps, EV.args, EV.back, EV.outsOf, EV.stD, EV.bt_nm, EV.bt_tp, EV.bt_nil, EV.bt_cons, EV.wip, EV.ioOk, EV.parD, EV.putW, EV.augF, EV.binD, EV.same_cmp, EV.same_ne, EV.ints_shp, EV.ints_shpL, EV.cmp_ii, EV.cmp_ni, EV.cmp_ss, EV.cmp_ns, EV.cmp_bb, EV.cmp_nb, EV.cmp_lt, EV.cmp_le, EV.cmp_gt, EV.cmp_ge, EV.is_n, EV.is_b, EV.is_i, EV.is_s, EV.is_l, EV.is_t, EV.is_bb, EV.isn_n, EV.isn_b, EV.isn_i, EV.isn_s, EV.isn_l, EV.isn_t, EV.isn_bb, EV.tru_n, EV.tru_b, EV.tru_i, EV.tru_l, EV.tru_t, EV.biD, EV.idx_l, EV.idx_t, EV.cut_l, EV.cut_t, EV.seq_l, EV.seq_t, EV.zipD, EV.rngD, EV.enumD, EV.enzD, EV.tupW, EV.lstW, EV.rev_l, EV.rev_t, EV.thenS_nx, EV.thenS_rt, EV.thenS_ct, EV.thenS_exc, EV.hold_nil, EV.for_eq, EV.onS_some, EV.bindD_eq, EV.ite_okb, EV.lim, EV.zip_maps, EV.zip3_maps, EV.enum_maps, l_law_unfit_0, x3])
      refine forL_ind (fun q : Int × Nat => .tuple [.int (q.2 : Int), .int q.1]) (Z := fun z => endCR _ z = _) (fun rest s1 => ∃ j x5 x6, rest = ((showsL r s i).drop j).zipIdx j ∧ ofrom pb os 0 (showsL r s i) = ofrom pb os j ((showsL r s i).drop j) ∧ s1 = [some (.d (rowE r)), some (.d (.tuple [.int pa, .int pb])), some (.d (.tuple [oE t, .tuple (os.map oE)])), some (.d (stE s)), some (.d (.int i)), x5, x6]) ?_ ?_ ((showsL r s i).zipIdx 0) _ ⟨0, _, _, rfl, rfl, rfl⟩
      · rintro ⟨v, j'⟩ rest s1 J Z hJ hZ ⟨j, x5, x6, hd, hq, rfl⟩
        obtain ⟨e1, rfl, hd2⟩ := zipIdx_drop (showsL r s i) j _ _ hd
        simp only at e1 hd2 hq ⊢
        obtain ⟨hj, e1'⟩ := List.getElem?_eq_some_iff.mp e1
        have oa := os_at os j' (by omega)
        rw [List.drop_eq_getElem_cons hj, e1', ofrom] at hq
        simp [EV.evSs, EV.evS, EV.evE, EV.evEs, EV.evAnd, EV.evOr, EV.evO, EV.evI, EV.evIfs, EV.R.bind, EV.R.fl, EV.R.of, EV.R.tst, EV.end_nx, EV.end_rd, EV.end_rn, EV.end_exc, EV.ret_d, EV.ret_nw, EV.ioNd, EV.iosOf, EV.den, EV.dens, EV.keep, EV.keeps, EV.args, EV.back, EV.outsOf, EV.stD, EV.bt_nm, EV.bt_tp, EV.bt_nil, EV.bt_cons, EV.wip, EV.ioOk, EV.parD, EV.putW, EV.augF, EV.binD, EV.same_cmp, EV.same_ne, EV.ints_shp, EV.ints_shpL, EV.cmp_ii, EV.cmp_ni, EV.cmp_ss, EV.cmp_ns, EV.cmp_bb, EV.cmp_nb, EV.cmp_lt, EV.cmp_le, EV.cmp_gt, EV.cmp_ge, EV.is_n, EV.is_b, EV.is_i, EV.is_s, EV.is_l, EV.is_t, EV.is_bb, EV.isn_n, EV.isn_b, EV.isn_i, EV.isn_s, EV.isn_l, EV.isn_t, EV.isn_bb, EV.tru_n, EV.tru_b, EV.tru_i, EV.tru_l, EV.tru_t, EV.biD, EV.idx_l, EV.idx_t, EV.cut_l, EV.cut_t, EV.seq_l, EV.seq_t, EV.zipD, EV.rngD, EV.enumD, EV.enzD, EV.tupW, EV.lstW, EV.rev_l, EV.rev_t, EV.thenS_nx, EV.thenS_rt, EV.thenS_ct, EV.thenS_exc, EV.hold_nil, EV.for_eq, EV.onS_some, EV.bindD_eq, EV.ite_okb, EV.lim, EV.zip_maps, EV.zip3_maps, EV.enum_maps, l_law_unfit_0b]
        generalize (os[j']?.getD none) = o at oa hq
        cases o with
        | none =>
          simp only [offB, Bool.false_eq_true, if_false] at hq
          have oa : atD (os.map oE) (j' : Int) = some .none := oa
          (rw [hold_cons]; simp [EV.evSs, EV.evS, EV.evE, EV.evEs, EV.evAnd, EV.evOr, EV.evO, EV.evI, EV.evIfs, EV.R.bind, EV.R.fl, EV.R.of, EV.R.tst, EV.end_nx, EV.end_rd, EV.end_rn, EV.end_exc, EV.ret_d, EV.ret_nw, EV.ioNd, EV.iosOf, EV.den, EV.dens, EV.keep, EV.keeps, EV.args, EV.back, EV.outsOf, EV.stD, EV.bt_nm, EV.bt_tp, EV.bt_nil, EV.bt_cons, EV.wip, EV.ioOk, EV.parD, EV.putW, EV.augF, EV.binD, EV.same_cmp, EV.same_ne, EV.ints_shp, EV.ints_shpL, EV.cmp_ii, EV.cmp_ni, EV.cmp_ss, EV.cmp_ns, EV.cmp_bb, EV.cmp_nb, EV.cmp_lt, EV.cmp_le, EV.cmp_gt, EV.cmp_ge, EV.is_n, EV.is_b, EV.is_i, EV.is_s, EV.is_l, EV.is_t, EV.is_bb, EV.isn_n, EV.isn_b, EV.isn_i, EV.isn_s, EV.isn_l, EV.isn_t, EV.isn_bb, EV.tru_n, EV.tru_b, EV.tru_i, EV.tru_l, EV.tru_t, EV.biD, EV.idx_l, EV.idx_t, EV.cut_l, EV.cut_t, EV.seq_l, EV.seq_t, EV.zipD, EV.rngD, EV.enumD, EV.enzD, EV.tupW, EV.lstW, EV.rev_l, EV.rev_t, EV.thenS_nx, EV.thenS_rt, EV.thenS_ct, EV.thenS_exc, EV.hold_nil, EV.for_eq, EV.onS_some, EV.bindD_eq, EV.ite_okb, EV.lim, EV.zip_maps, EV.zip3_maps, EV.enum_maps, a1, oa])
          exact hJ _ ⟨j' + 1, _, _, hd2, hq, rfl⟩
        | some z =>
          have oa : atD (os.map oE) (j' : Int) = some (.int z) := oa
          by_cases hb : pb < absI (v - z)
          · simp only [offB, hb, decide_true, if_true] at hq
            unfold absI at hb
            (rw [hold_cons]; simp [EV.evSs, EV.evS, EV.evE, EV.evEs, EV.evAnd, EV.evOr, EV.evO, EV.evI, EV.evIfs, EV.R.bind, EV.R.fl, EV.R.of, EV.R.tst, EV.end_nx, EV.end_rd, EV.end_rn, EV.end_exc, EV.ret_d, EV.ret_nw, EV.ioNd, EV.iosOf, EV.den, EV.dens, EV.keep, EV.keeps, EV.args, EV.back, EV.outsOf, EV.stD, EV.bt_nm, EV.bt_tp, EV.bt_nil, EV.bt_cons, EV.wip, EV.ioOk, EV.parD, EV.putW, EV.augF, EV.binD, EV.same_cmp, EV.same_ne, EV.ints_shp, EV.ints_shpL, EV.cmp_ii, EV.cmp_ni, EV.cmp_ss, EV.cmp_ns, EV.cmp_bb, EV.cmp_nb, EV.cmp_lt, EV.cmp_le, EV.cmp_gt, EV.cmp_ge, EV.is_n, EV.is_b, EV.is_i, EV.is_s, EV.is_l, EV.is_t, EV.is_bb, EV.isn_n, EV.isn_b, EV.isn_i, EV.isn_s, EV.isn_l, EV.isn_t, EV.isn_bb, EV.tru_n, EV.tru_b, EV.tru_i, EV.tru_l, EV.tru_t, EV.biD, EV.idx_l, EV.idx_t, EV.cut_l, EV.cut_t, EV.seq_l, EV.seq_t, EV.zipD, EV.rngD, EV.enumD, EV.enzD, EV.tupW, EV.lstW, EV.rev_l, EV.rev_t, EV.thenS_nx, EV.thenS_rt, EV.thenS_ct, EV.thenS_exc, EV.hold_nil, EV.for_eq, EV.onS_some, EV.bindD_eq, EV.ite_okb, EV.lim, EV.zip_maps, EV.zip3_maps, EV.enum_maps, a1, oa, p1, hb])
            refine hZ _ ?_
            rw [hq]
            rfl
          · simp only [offB, hb, decide_false, Bool.false_eq_true, if_false] at hq
            unfold absI at hb
            (rw [hold_cons]; simp [EV.evSs, EV.evS, EV.evE, EV.evEs, EV.evAnd, EV.evOr, EV.evO, EV.evI, EV.evIfs, EV.R.bind, EV.R.fl, EV.R.of, EV.R.tst, EV.end_nx, EV.end_rd, EV.end_rn, EV.end_exc, EV.ret_d, EV.ret_nw, EV.ioNd, EV.iosOf, EV.den, EV.dens, EV.keep, EV.keeps, EV.args, EV.back, EV.outsOf, EV.stD, EV.bt_nm, EV.bt_tp, EV.bt_nil, EV.bt_cons, EV.wip, EV.ioOk, EV.parD, EV.putW, EV.augF, EV.binD, EV.same_cmp, EV.same_ne, EV.ints_shp, EV.ints_shpL, EV.cmp_ii, EV.cmp_ni, EV.cmp_ss, EV.cmp_ns, EV.cmp_bb, EV.cmp_nb, EV.cmp_lt, EV.cmp_le, EV.cmp_gt, EV.cmp_ge, EV.is_n, EV.is_b, EV.is_i, EV.is_s, EV.is_l, EV.is_t, EV.is_bb, EV.isn_n, EV.isn_b, EV.isn_i, EV.isn_s, EV.isn_l, EV.isn_t, EV.isn_bb, EV.tru_n, EV.tru_b, EV.tru_i, EV.tru_l, EV.tru_t, EV.biD, EV.idx_l, EV.idx_t, EV.cut_l, EV.cut_t, EV.seq_l, EV.seq_t, EV.zipD, EV.rngD, EV.enumD, EV.enzD, EV.tupW, EV.lstW, EV.rev_l, EV.rev_t, EV.thenS_nx, EV.thenS_rt, EV.thenS_ct, EV.thenS_exc, EV.hold_nil, EV.for_eq, EV.onS_some, EV.bindD_eq, EV.ite_okb, EV.lim, EV.zip_maps, EV.zip3_maps, EV.enum_maps, a1, oa, p1, hb])
            exact hJ _ ⟨j' + 1, _, _, hd2, hq, rfl⟩
      · rintro s1 ⟨j, x5, x6, hd, hq, rfl⟩
        have hj : (showsL r s i).length ≤ j := by
          have := congrArg List.length hd
          simp only [List.length_nil, List.length_zipIdx, List.length_drop] at this
          omega
        rw [List.drop_eq_nil_of_le hj] at hq
        rw [hq]
        (rw [hold_cons]; simp [EV.evSs, EV.evS, EV.evE, EV.evEs, EV.evAnd, EV.evOr, EV.evO, EV.evI, EV.evIfs, EV.R.bind, EV.R.fl, EV.R.of, EV.R.tst, EV.end_nx, EV.end_rd, EV.end_rn, EV.end_exc, EV.ret_d, EV.ret_nw, EV.ioNd, EV.iosOf, EV.den, EV.dens, EV.keep, EV.keeps, EV.args, EV.back, EV.outsOf, EV.stD, EV.bt_nm, EV.bt_tp, EV.bt_nil, EV.bt_cons, EV.wip, EV.ioOk, EV.parD, EV.putW, EV.augF, EV.binD, EV.same_cmp, EV.same_ne, EV.ints_shp, EV.ints_shpL, EV.cmp_ii, EV.cmp_ni, EV.cmp_ss, EV.cmp_ns, EV.cmp_bb, EV.cmp_nb, EV.cmp_lt, EV.cmp_le, EV.cmp_gt, EV.cmp_ge, EV.is_n, EV.is_b, EV.is_i, EV.is_s, EV.is_l, EV.is_t, EV.is_bb, EV.isn_n, EV.isn_b, EV.isn_i, EV.isn_s, EV.isn_l, EV.isn_t, EV.isn_bb, EV.tru_n, EV.tru_b, EV.tru_i, EV.tru_l, EV.tru_t, EV.biD, EV.idx_l, EV.idx_t, EV.cut_l, EV.cut_t, EV.seq_l, EV.seq_t, EV.zipD, EV.rngD, EV.enumD, EV.enzD, EV.tupW, EV.lstW, EV.rev_l, EV.rev_t, EV.thenS_nx, EV.thenS_rt, EV.thenS_ct, EV.thenS_exc, EV.hold_nil, EV.for_eq, EV.onS_some, EV.bindD_eq, EV.ite_okb, EV.lim, EV.zip_maps, EV.zip3_maps, EV.enum_maps, ofrom, oE])
    (rw [hold_cons]; simp [EV.evSs, EV.evS, EV.evE, EV.evEs, EV.evAnd, EV.evOr, EV.evO, EV.evI, EV.evIfs, EV.R.bind, EV.R.fl, EV.R.of, EV.R.tst, EV.end_nx, EV.end_rd, EV.end_rn, EV.end_exc, EV.ret_d, EV.ret_nw, EV.ioNd, EV.iosOf, EV.den, EV.dens, EV.keep, EV.keeps, EV.args, EV.back, EV.outsOf, EV.stD, EV.bt_nm, EV.bt_tp, EV.bt_nil, EV.bt_cons, EV.wip, EV.ioOk, EV.parD, EV.putW, EV.augF, EV.binD, EV.same_cmp, EV.same_ne, EV.ints_shp, EV.ints_shpL, EV.cmp_ii, EV.cmp_ni, EV.cmp_ss, EV.cmp_ns, EV.cmp_bb, EV.cmp_nb, EV.cmp_lt, EV.cmp_le, EV.cmp_gt, EV.cmp_ge, EV.is_n, EV.is_b, EV.is_i, EV.is_s, EV.is_l, EV.is_t, EV.is_bb, EV.isn_n, EV.isn_b, EV.isn_i, EV.isn_s, EV.isn_l, EV.isn_t, EV.isn_bb, EV.tru_n, EV.tru_b, EV.tru_i, EV.tru_l, EV.tru_t, EV.biD, EV.idx_l, EV.idx_t, EV.cut_l, EV.cut_t, EV.seq_l, EV.seq_t, EV.zipD, EV.rngD, EV.enumD, EV.enzD, EV.tupW, EV.lstW, EV.rev_l, EV.rev_t, EV.thenS_nx, EV.thenS_rt, EV.thenS_ct, EV.thenS_exc, EV.hold_nil, EV.for_eq, EV.onS_some, EV.bindD_eq, EV.ite_okb, EV.lim, EV.zip_maps, EV.zip3_maps, EV.enum_maps, x1])
    simp only [rdE, ce]
    cases t with
    | none =>
      have a2 : atD [PyData.none, .tuple (os.map oE)] 0 = some .none := rfl
      (rw [hold_cons]; simp [EV.evSs, EV.evS, EV.evE, EV.evEs, EV.evAnd, EV.evOr, EV.evO, EV.evI, EV.evIfs, EV.R.bind, EV.R.fl, EV.R.of, EV.R.tst, EV.end_nx, EV.end_rd, EV.end_rn, EV.end_exc, EV.ret_d, EV.ret_nw, EV.ioNd, EV.iosOf, EV.den, EV.dens, EV.keep, EV.keeps, EV.args, EV.back, EV.outsOf, EV.stD, EV.bt_nm, EV.bt_tp, EV.bt_nil, EV.bt_cons, EV.wip, EV.ioOk, EV.parD, EV.putW, EV.augF, EV.binD, EV.same_cmp, EV.same_ne, EV.ints_shp, EV.ints_shpL, EV.cmp_ii, EV.cmp_ni, EV.cmp_ss, EV.cmp_ns, EV.cmp_bb, EV.cmp_nb, EV.cmp_lt, EV.cmp_le, EV.cmp_gt, EV.cmp_ge, EV.is_n, EV.is_b, EV.is_i, EV.is_s, EV.is_l, EV.is_t, EV.is_bb, EV.isn_n, EV.isn_b, EV.isn_i, EV.isn_s, EV.isn_l, EV.isn_t, EV.isn_bb, EV.tru_n, EV.tru_b, EV.tru_i, EV.tru_l, EV.tru_t, EV.biD, EV.idx_l, EV.idx_t, EV.cut_l, EV.cut_t, EV.seq_l, EV.seq_t, EV.zipD, EV.rngD, EV.enumD, EV.enzD, EV.tupW, EV.lstW, EV.rev_l, EV.rev_t, EV.thenS_nx, EV.thenS_rt, EV.thenS_ct, EV.thenS_exc, EV.hold_nil, EV.for_eq, EV.onS_some, EV.bindD_eq, EV.ite_okb, EV.lim, EV.zip_maps, EV.zip3_maps, EV.enum_maps, a2, p0, oE])
      exact key rfl _ _
    | some z =>
      have a2 : atD [PyData.int z, .tuple (os.map oE)] 0 = some (.int z) := rfl
      by_cases hb : pa < absI (i - z)
      · have ho : offB i (some z) pa = true := by simp [offB, hb]
        unfold absI at hb
        (rw [hold_cons]; simp [EV.evSs, EV.evS, EV.evE, EV.evEs, EV.evAnd, EV.evOr, EV.evO, EV.evI, EV.evIfs, EV.R.bind, EV.R.fl, EV.R.of, EV.R.tst, EV.end_nx, EV.end_rd, EV.end_rn, EV.end_exc, EV.ret_d, EV.ret_nw, EV.ioNd, EV.iosOf, EV.den, EV.dens, EV.keep, EV.keeps, EV.args, EV.back, EV.outsOf, EV.stD, EV.bt_nm, EV.bt_tp, EV.bt_nil, EV.bt_cons, EV.wip, EV.ioOk, EV.parD, EV.putW, EV.augF, EV.binD, EV.same_cmp, EV.same_ne, EV.ints_shp, EV.ints_shpL, EV.cmp_ii, EV.cmp_ni, EV.cmp_ss, EV.cmp_ns, EV.cmp_bb, EV.cmp_nb, EV.cmp_lt, EV.cmp_le, EV.cmp_gt, EV.cmp_ge, EV.is_n, EV.is_b, EV.is_i, EV.is_s, EV.is_l, EV.is_t, EV.is_bb, EV.isn_n, EV.isn_b, EV.isn_i, EV.isn_s, EV.isn_l, EV.isn_t, EV.isn_bb, EV.tru_n, EV.tru_b, EV.tru_i, EV.tru_l, EV.tru_t, EV.biD, EV.idx_l, EV.idx_t, EV.cut_l, EV.cut_t, EV.seq_l, EV.seq_t, EV.zipD, EV.rngD, EV.enumD, EV.enzD, EV.tupW, EV.lstW, EV.rev_l, EV.rev_t, EV.thenS_nx, EV.thenS_rt, EV.thenS_ct, EV.thenS_exc, EV.hold_nil, EV.for_eq, EV.onS_some, EV.bindD_eq, EV.ite_okb, EV.lim, EV.zip_maps, EV.zip3_maps, EV.enum_maps, a2, p0, oE, hb])
        simp [unfitP, hf, ho, oE]
      · have ho : offB i (some z) pa = false := by simp [offB, hb]
        unfold absI at hb
        (rw [hold_cons]; simp [EV.evSs, EV.evS, EV.evE, EV.evEs, EV.evAnd, EV.evOr, EV.evO, EV.evI, EV.evIfs, EV.R.bind, EV.R.fl, EV.R.of, EV.R.tst, EV.end_nx, EV.end_rd, EV.end_rn, EV.end_exc, EV.ret_d, EV.ret_nw, EV.ioNd, EV.iosOf, EV.den, EV.dens, EV.keep, EV.keeps, EV.args, EV.back, EV.outsOf, EV.stD, EV.bt_nm, EV.bt_tp, EV.bt_nil, EV.bt_cons, EV.wip, EV.ioOk, EV.parD, EV.putW, EV.augF, EV.binD, EV.same_cmp, EV.same_ne, EV.ints_shp, EV.ints_shpL, EV.cmp_ii, EV.cmp_ni, EV.cmp_ss, EV.cmp_ns, EV.cmp_bb, EV.cmp_nb, EV.cmp_lt, EV.cmp_le, EV.cmp_gt, EV.cmp_ge, EV.is_n, EV.is_b, EV.is_i, EV.is_s, EV.is_l, EV.is_t, EV.is_bb, EV.isn_n, EV.isn_b, EV.isn_i, EV.isn_s, EV.isn_l, EV.isn_t, EV.isn_bb, EV.tru_n, EV.tru_b, EV.tru_i, EV.tru_l, EV.tru_t, EV.biD, EV.idx_l, EV.idx_t, EV.cut_l, EV.cut_t, EV.seq_l, EV.seq_t, EV.zipD, EV.rngD, EV.enumD, EV.enzD, EV.tupW, EV.lstW, EV.rev_l, EV.rev_t, EV.thenS_nx, EV.thenS_rt, EV.thenS_ct, EV.thenS_exc, EV.hold_nil, EV.for_eq, EV.onS_some, EV.bindD_eq, EV.ite_okb, EV.lim, EV.zip_maps, EV.zip3_maps, EV.enum_maps, a2, p0, oE, hb])
        exact key ho _ _
theorem bx_due (n : Nat) (r : List Kd) (p : Slp) (xs : List Rdg) (s : List Cell) (is : List Int) (hr : RowOk r) (h : StOk r s) (hx : ∀ x ∈ xs, RdOk r x) (hi : ∀ i ∈ is, -9 ≤ i ∧ i ≤ 9) :
    CC (n + 4) i_law_due [.d (rowE r), .d (ce p), .d (rdsE xs), .d (stE s), .d (plE is)] = .ok (.d (dE (dueP r p s 0 (xs.zip is)))) [none, none, none, none, none] := by
  rw [u_law_due _ _ _ _ _ _ rfl, b_law_due, hold_eq]
  (rw [hold_cons]; simp [EV.evSs, EV.evS, EV.evE, EV.evEs, EV.evAnd, EV.evOr, EV.evO, EV.evI, EV.evIfs, EV.R.bind, EV.R.fl, EV.R.of, EV.R.tst, EV.end_nx, EV.end_rd, EV.end_rn, EV.end_exc, EV.ret_d, EV.ret_nw, EV.ioNd, EV.iosOf, EV.den, EV.dens, EV.keep, EV.keeps, EV.args, EV.back, EV.outsOf, EV.stD, EV.bt_nm, EV.bt_tp, EV.bt_nil, EV.bt_cons, EV.wip, EV.ioOk, EV.parD, EV.putW, EV.augF, EV.binD, EV.same_cmp, EV.same_ne, EV.ints_shp, EV.ints_shpL, EV.cmp_ii, EV.cmp_ni, EV.cmp_ss, EV.cmp_ns, EV.cmp_bb, EV.cmp_nb, EV.cmp_lt, EV.cmp_le, EV.cmp_gt, EV.cmp_ge, EV.is_n, EV.is_b, EV.is_i, EV.is_s, EV.is_l, EV.is_t, EV.is_bb, EV.isn_n, EV.isn_b, EV.isn_i, EV.isn_s, EV.isn_l, EV.isn_t, EV.isn_bb, EV.tru_n, EV.tru_b, EV.tru_i, EV.tru_l, EV.tru_t, EV.biD, EV.idx_l, EV.idx_t, EV.cut_l, EV.cut_t, EV.seq_l, EV.seq_t, EV.zipD, EV.rngD, EV.enumD, EV.enzD, EV.tupW, EV.lstW, EV.rev_l, EV.rev_t, EV.thenS_nx, EV.thenS_rt, EV.thenS_ct, EV.thenS_exc, EV.hold_nil, EV.for_eq, EV.onS_some, EV.bindD_eq, EV.ite_okb, EV.lim, EV.zip_maps, EV.zip3_maps, EV.enum_maps, l_law_due_0])
  refine forL_ind (fun q : (Rdg × Int) × Nat => .tuple [.int (q.2 : Int), .tuple [rdE q.1.1, .int q.1.2]]) (Z := fun z => endCR _ z = _) (fun rest s1 => ∃ j s' x5 x6 x7 x8, rest = ((xs.zip is).drop j).zipIdx j ∧ StOk r s' ∧ dueP r p s 0 (xs.zip is) = dueP r p s' j ((xs.zip is).drop j) ∧ s1 = [some (.d (rowE r)), some (.d (ce p)), some (.d (rdsE xs)), some (.d (stE s')), some (.d (plE is)), x5, x6, x7, x8]) ?_ ?_ ((xs.zip is).zipIdx 0) _ ⟨0, s, _, _, _, _, rfl, h, rfl, rfl⟩
  · rintro ⟨⟨x, i⟩, j'⟩ rest s1 J Z hJ hZ ⟨j, s', x5, x6, x7, x8, hd, hs, hq, rfl⟩
    obtain ⟨e1, rfl, hd2⟩ := zipIdx_drop (xs.zip is) j _ _ hd
    simp only at e1 hd2 hq ⊢
    obtain ⟨hj, e1'⟩ := List.getElem?_eq_some_iff.mp e1
    have hm := List.of_mem_zip (List.mem_of_getElem? e1)
    have x4 := bx_unfit n r p x s' i hr hs (hx x hm.1).len (hi i hm.2)
    rw [List.drop_eq_getElem_cons hj, e1', dueP] at hq
    have sl : s'.length ≤ 100 := by
      have := hs.len
      have := hr.l2
      omega
    simp [EV.evSs, EV.evS, EV.evE, EV.evEs, EV.evAnd, EV.evOr, EV.evO, EV.evI, EV.evIfs, EV.R.bind, EV.R.fl, EV.R.of, EV.R.tst, EV.end_nx, EV.end_rd, EV.end_rn, EV.end_exc, EV.ret_d, EV.ret_nw, EV.ioNd, EV.iosOf, EV.den, EV.dens, EV.keep, EV.keeps, EV.args, EV.back, EV.outsOf, EV.stD, EV.bt_nm, EV.bt_tp, EV.bt_nil, EV.bt_cons, EV.wip, EV.ioOk, EV.parD, EV.putW, EV.augF, EV.binD, EV.same_cmp, EV.same_ne, EV.ints_shp, EV.ints_shpL, EV.cmp_ii, EV.cmp_ni, EV.cmp_ss, EV.cmp_ns, EV.cmp_bb, EV.cmp_nb, EV.cmp_lt, EV.cmp_le, EV.cmp_gt, EV.cmp_ge, EV.is_n, EV.is_b, EV.is_i, EV.is_s, EV.is_l, EV.is_t, EV.is_bb, EV.isn_n, EV.isn_b, EV.isn_i, EV.isn_s, EV.isn_l, EV.isn_t, EV.isn_bb, EV.tru_n, EV.tru_b, EV.tru_i, EV.tru_l, EV.tru_t, EV.biD, EV.idx_l, EV.idx_t, EV.cut_l, EV.cut_t, EV.seq_l, EV.seq_t, EV.zipD, EV.rngD, EV.enumD, EV.enzD, EV.tupW, EV.lstW, EV.rev_l, EV.rev_t, EV.thenS_nx, EV.thenS_rt, EV.thenS_ct, EV.thenS_exc, EV.hold_nil, EV.for_eq, EV.onS_some, EV.bindD_eq, EV.ite_okb, EV.lim, EV.zip_maps, EV.zip3_maps, EV.enum_maps, l_law_due_0b]
    cases hb : unfitP r p x s' i with
    | some q =>
      rw [hb] at x4 hq
      simp only [oE] at x4
      (rw [hold_cons]; simp [EV.evSs, EV.evS, EV.evE, EV.evEs, EV.evAnd, EV.evOr, EV.evO, EV.evI, EV.evIfs, EV.R.bind, EV.R.fl, EV.R.of, EV.R.tst, EV.end_nx, EV.end_rd, EV.end_rn, EV.end_exc, EV.ret_d, EV.ret_nw, EV.ioNd, EV.iosOf, EV.den, EV.dens, EV.keep, EV.keeps, EV.args, EV.back, EV.outsOf, EV.stD, EV.bt_nm, EV.bt_tp, EV.bt_nil, EV.bt_cons, EV.wip, EV.ioOk, EV.parD, EV.putW, EV.augF, EV.binD, EV.same_cmp, EV.same_ne, EV.ints_shp, EV.ints_shpL, EV.cmp_ii, EV.cmp_ni, EV.cmp_ss, EV.cmp_ns, EV.cmp_bb, EV.cmp_nb, EV.cmp_lt, EV.cmp_le, EV.cmp_gt, EV.cmp_ge, EV.is_n, EV.is_b, EV.is_i, EV.is_s, EV.is_l, EV.is_t, EV.is_bb, EV.isn_n, EV.isn_b, EV.isn_i, EV.isn_s, EV.isn_l, EV.isn_t, EV.isn_bb, EV.tru_n, EV.tru_b, EV.tru_i, EV.tru_l, EV.tru_t, EV.biD, EV.idx_l, EV.idx_t, EV.cut_l, EV.cut_t, EV.seq_l, EV.seq_t, EV.zipD, EV.rngD, EV.enumD, EV.enzD, EV.tupW, EV.lstW, EV.rev_l, EV.rev_t, EV.thenS_nx, EV.thenS_rt, EV.thenS_ct, EV.thenS_exc, EV.hold_nil, EV.for_eq, EV.onS_some, EV.bindD_eq, EV.ite_okb, EV.lim, EV.zip_maps, EV.zip3_maps, EV.enum_maps, x4])
      (rw [hold_cons]; simp [EV.evSs, EV.evS, EV.evE, EV.evEs, EV.evAnd, EV.evOr, EV.evO, EV.evI, EV.evIfs, EV.R.bind, EV.R.fl, EV.R.of, EV.R.tst, EV.end_nx, EV.end_rd, EV.end_rn, EV.end_exc, EV.ret_d, EV.ret_nw, EV.ioNd, EV.iosOf, EV.den, EV.dens, EV.keep, EV.keeps, EV.args, EV.back, EV.outsOf, EV.stD, EV.bt_nm, EV.bt_tp, EV.bt_nil, EV.bt_cons, EV.wip, EV.ioOk, EV.parD, EV.putW, EV.augF, EV.binD, EV.same_cmp, EV.same_ne, EV.ints_shp, EV.ints_shpL, EV.cmp_ii, EV.cmp_ni, EV.cmp_ss, EV.cmp_ns, EV.cmp_bb, EV.cmp_nb, EV.cmp_lt, EV.cmp_le, EV.cmp_gt, EV.cmp_ge, EV.is_n, EV.is_b, EV.is_i, EV.is_s, EV.is_l, EV.is_t, EV.is_bb, EV.isn_n, EV.isn_b, EV.isn_i, EV.isn_s, EV.isn_l, EV.isn_t, EV.isn_bb, EV.tru_n, EV.tru_b, EV.tru_i, EV.tru_l, EV.tru_t, EV.biD, EV.idx_l, EV.idx_t, EV.cut_l, EV.cut_t, EV.seq_l, EV.seq_t, EV.zipD, EV.rngD, EV.enumD, EV.enzD, EV.tupW, EV.lstW, EV.rev_l, EV.rev_t, EV.thenS_nx, EV.thenS_rt, EV.thenS_ct, EV.thenS_exc, EV.hold_nil, EV.for_eq, EV.onS_some, EV.bindD_eq, EV.ite_okb, EV.lim, EV.zip_maps, EV.zip3_maps, EV.enum_maps, lim])
      refine hZ _ ?_
      rw [hq]
      rfl
    | none =>
      rw [hb] at x4 hq
      simp only [oE] at x4
      have x9 := bx_behind (n + 2) s' i sl
      (rw [hold_cons]; simp [EV.evSs, EV.evS, EV.evE, EV.evEs, EV.evAnd, EV.evOr, EV.evO, EV.evI, EV.evIfs, EV.R.bind, EV.R.fl, EV.R.of, EV.R.tst, EV.end_nx, EV.end_rd, EV.end_rn, EV.end_exc, EV.ret_d, EV.ret_nw, EV.ioNd, EV.iosOf, EV.den, EV.dens, EV.keep, EV.keeps, EV.args, EV.back, EV.outsOf, EV.stD, EV.bt_nm, EV.bt_tp, EV.bt_nil, EV.bt_cons, EV.wip, EV.ioOk, EV.parD, EV.putW, EV.augF, EV.binD, EV.same_cmp, EV.same_ne, EV.ints_shp, EV.ints_shpL, EV.cmp_ii, EV.cmp_ni, EV.cmp_ss, EV.cmp_ns, EV.cmp_bb, EV.cmp_nb, EV.cmp_lt, EV.cmp_le, EV.cmp_gt, EV.cmp_ge, EV.is_n, EV.is_b, EV.is_i, EV.is_s, EV.is_l, EV.is_t, EV.is_bb, EV.isn_n, EV.isn_b, EV.isn_i, EV.isn_s, EV.isn_l, EV.isn_t, EV.isn_bb, EV.tru_n, EV.tru_b, EV.tru_i, EV.tru_l, EV.tru_t, EV.biD, EV.idx_l, EV.idx_t, EV.cut_l, EV.cut_t, EV.seq_l, EV.seq_t, EV.zipD, EV.rngD, EV.enumD, EV.enzD, EV.tupW, EV.lstW, EV.rev_l, EV.rev_t, EV.thenS_nx, EV.thenS_rt, EV.thenS_ct, EV.thenS_exc, EV.hold_nil, EV.for_eq, EV.onS_some, EV.bindD_eq, EV.ite_okb, EV.lim, EV.zip_maps, EV.zip3_maps, EV.enum_maps, x4])
      (rw [hold_cons]; simp [EV.evSs, EV.evS, EV.evE, EV.evEs, EV.evAnd, EV.evOr, EV.evO, EV.evI, EV.evIfs, EV.R.bind, EV.R.fl, EV.R.of, EV.R.tst, EV.end_nx, EV.end_rd, EV.end_rn, EV.end_exc, EV.ret_d, EV.ret_nw, EV.ioNd, EV.iosOf, EV.den, EV.dens, EV.keep, EV.keeps, EV.args, EV.back, EV.outsOf, EV.stD, EV.bt_nm, EV.bt_tp, EV.bt_nil, EV.bt_cons, EV.wip, EV.ioOk, EV.parD, EV.putW, EV.augF, EV.binD, EV.same_cmp, EV.same_ne, EV.ints_shp, EV.ints_shpL, EV.cmp_ii, EV.cmp_ni, EV.cmp_ss, EV.cmp_ns, EV.cmp_bb, EV.cmp_nb, EV.cmp_lt, EV.cmp_le, EV.cmp_gt, EV.cmp_ge, EV.is_n, EV.is_b, EV.is_i, EV.is_s, EV.is_l, EV.is_t, EV.is_bb, EV.isn_n, EV.isn_b, EV.isn_i, EV.isn_s, EV.isn_l, EV.isn_t, EV.isn_bb, EV.tru_n, EV.tru_b, EV.tru_i, EV.tru_l, EV.tru_t, EV.biD, EV.idx_l, EV.idx_t, EV.cut_l, EV.cut_t, EV.seq_l, EV.seq_t, EV.zipD, EV.rngD, EV.enumD, EV.enzD, EV.tupW, EV.lstW, EV.rev_l, EV.rev_t, EV.thenS_nx, EV.thenS_rt, EV.thenS_ct, EV.thenS_exc, EV.hold_nil, EV.for_eq, EV.onS_some, EV.bindD_eq, EV.ite_okb, EV.lim, EV.zip_maps, EV.zip3_maps, EV.enum_maps])
      (rw [hold_cons]; simp [EV.evSs, EV.evS, EV.evE, EV.evEs, EV.evAnd, EV.evOr, EV.evO, EV.evI, EV.evIfs, EV.R.bind, EV.R.fl, EV.R.of, EV.R.tst, EV.end_nx, EV.end_rd, EV.end_rn, EV.end_exc, EV.ret_d, EV.ret_nw, EV.ioNd, EV.iosOf, EV.den, EV.dens, EV.keep, EV.keeps, EV.args, EV.back, EV.outsOf, EV.stD, EV.bt_nm, EV.bt_tp, EV.bt_nil, EV.bt_cons, EV.wip, EV.ioOk, EV.parD, EV.putW, EV.augF, EV.binD, EV.same_cmp, EV.same_ne, EV.ints_shp, EV.ints_shpL, EV.cmp_ii, EV.cmp_ni, EV.cmp_ss, EV.cmp_ns, EV.cmp_bb, EV.cmp_nb, EV.cmp_lt, EV.cmp_le, EV.cmp_gt, EV.cmp_ge, EV.is_n, EV.is_b, EV.is_i, EV.is_s, EV.is_l, EV.is_t, EV.is_bb, EV.isn_n, EV.isn_b, EV.isn_i, EV.isn_s, EV.isn_l, EV.isn_t, EV.isn_bb, EV.tru_n, EV.tru_b, EV.tru_i, EV.tru_l, EV.tru_t, EV.biD, EV.idx_l, EV.idx_t, EV.cut_l, EV.cut_t, EV.seq_l, EV.seq_t, EV.zipD, EV.rngD, EV.enumD, EV.enzD, EV.tupW, EV.lstW, EV.rev_l, EV.rev_t, EV.thenS_nx, EV.thenS_rt, EV.thenS_ct, EV.thenS_exc, EV.hold_nil, EV.for_eq, EV.onS_some, EV.bindD_eq, EV.ite_okb, EV.lim, EV.zip_maps, EV.zip3_maps, EV.enum_maps, x9])
      exact hJ _ ⟨j' + 1, behindL s' i, _, _, _, _, hd2, behind_ok hs (unfit_none hb), hq, rfl⟩
  · rintro s1 ⟨j, s', x5, x6, x7, x8, hd, hs, hq, rfl⟩
    have hj : (xs.zip is).length ≤ j := by
      have := congrArg List.length hd
      simp only [List.length_nil, List.length_zipIdx, List.length_drop] at this
      omega
    rw [List.drop_eq_nil_of_le hj] at hq
    rw [hq]
    (rw [hold_cons]; simp [EV.evSs, EV.evS, EV.evE, EV.evEs, EV.evAnd, EV.evOr, EV.evO, EV.evI, EV.evIfs, EV.R.bind, EV.R.fl, EV.R.of, EV.R.tst, EV.end_nx, EV.end_rd, EV.end_rn, EV.end_exc, EV.ret_d, EV.ret_nw, EV.ioNd, EV.iosOf, EV.den, EV.dens, EV.keep, EV.keeps, EV.args, EV.back, EV.outsOf, EV.stD, EV.bt_nm, EV.bt_tp, EV.bt_nil, EV.bt_cons, EV.wip, EV.ioOk, EV.parD, EV.putW, EV.augF, EV.binD, EV.same_cmp, EV.same_ne, EV.ints_shp, EV.ints_shpL, EV.cmp_ii, EV.cmp_ni, EV.cmp_ss, EV.cmp_ns, EV.cmp_bb, EV.cmp_nb, EV.cmp_lt, EV.cmp_le, EV.cmp_gt, EV.cmp_ge, EV.is_n, EV.is_b, EV.is_i, EV.is_s, EV.is_l, EV.is_t, EV.is_bb, EV.isn_n, EV.isn_b, EV.isn_i, EV.isn_s, EV.isn_l, EV.isn_t, EV.isn_bb, EV.tru_n, EV.tru_b, EV.tru_i, EV.tru_l, EV.tru_t, EV.biD, EV.idx_l, EV.idx_t, EV.cut_l, EV.cut_t, EV.seq_l, EV.seq_t, EV.zipD, EV.rngD, EV.enumD, EV.enzD, EV.tupW, EV.lstW, EV.rev_l, EV.rev_t, EV.thenS_nx, EV.thenS_rt, EV.thenS_ct, EV.thenS_exc, EV.hold_nil, EV.for_eq, EV.onS_some, EV.bindD_eq, EV.ite_okb, EV.lim, EV.zip_maps, EV.zip3_maps, EV.enum_maps, dueP, dE])
/-! a run without a fault -/
def GoodRun (r : List Kd) : List Cell → List Int → Prop
  | _, [] => True
  | s, i :: p => frow r s i = none ∧ GoodRun r (behindL s i) p
def endS (s : List Cell) (p : List Int) : List Cell := p.foldl behindL s
theorem good_snoc {r : List Kd} {i : Int} : ∀ {p : List Int} {s : List Cell}, GoodRun r s p → frow r (endS s p) i = none → GoodRun r s (p ++ [i])
  | [], s, _, h => ⟨h, trivial⟩
  | j :: p, s, g, h => ⟨g.1, good_snoc (p := p) g.2 h⟩
theorem end_snoc (s : List Cell) (p : List Int) (i : Int) : endS s (p ++ [i]) = behindL (endS s p) i := by unfold endS; rw [List.foldl_append]; rfl
theorem good_end {r : List Kd} : ∀ {p : List Int} {s : List Cell}, StOk r s → GoodRun r s p → StOk r (endS s p)
  | [], s, h, _ => h
  | j :: p, s, h, g => good_end (p := p) (behind_ok h g.1) g.2
def cand (r : List Kd) (s : List Cell) : List Int := (List.range 9).filterMap fun j : Nat => if (frow r s (-4 + (j : Int))).isNone then some (-4 + (j : Int)) else none
theorem cand_ok {r : List Kd} {s : List Cell} {i : Int} (h : i ∈ cand r s) : (-4 ≤ i ∧ i ≤ 4) ∧ frow r s i = none := by
  unfold cand at h
  obtain ⟨j, hj, e⟩ := List.mem_filterMap.mp h
  have := List.mem_range.mp hj
  split at e
  · rename_i hn
    cases e
    refine ⟨by omega, ?_⟩
    cases ef : frow r s (-4 + (j : Int)) with
    | none => rfl
    | some w => rw [ef] at hn; cases hn
  · cases e
theorem bx_beatsP (n : Nat) (p : Bx) (r : List Kd) (most : Int) (hr : RowOk r) (h0 : 0 ≤ most ∧ most ≤ 12) (P : CR → Prop)
    (hP : ∀ (s : List Cell) (is : List Int) (q : Bx), StOk r s → (is.length : Int) ≤ most → (∀ i ∈ is, -4 ≤ i ∧ i ≤ 4) → GoodRun r s is → P (.ok (.d (.tuple [stE s, .list (is.map .int)])) [some (bE q), none, none])) :
    P (CC (n + 4) i_law_beats [bE p, .d (rowE r), .d (.int most)]) := by
  rw [u_law_beats _ _ _ _ rfl, b_law_beats, hold_eq]
  obtain ⟨s0, q0, hs0, e1⟩ := bx_stand n p r hr
  obtain ⟨m, q1, hm, e2⟩ := bx_take (n + 1) q0 (most + 1) (by omega) (by omega)
  have sm : small62 m = true := s62 (by omega) (by omega)
  (rw [hold_cons]; simp [EV.evSs, EV.evS, EV.evE, EV.evEs, EV.evAnd, EV.evOr, EV.evO, EV.evI, EV.evIfs, EV.R.bind, EV.R.fl, EV.R.of, EV.R.tst, EV.end_nx, EV.end_rd, EV.end_rn, EV.end_exc, EV.ret_d, EV.ret_nw, EV.ioNd, EV.iosOf, EV.den, EV.dens, EV.keep, EV.keeps, EV.args, EV.back, EV.outsOf, EV.stD, EV.bt_nm, EV.bt_tp, EV.bt_nil, EV.bt_cons, EV.wip, EV.ioOk, EV.parD, EV.putW, EV.augF, EV.binD, EV.same_cmp, EV.same_ne, EV.ints_shp, EV.ints_shpL, EV.cmp_ii, EV.cmp_ni, EV.cmp_ss, EV.cmp_ns, EV.cmp_bb, EV.cmp_nb, EV.cmp_lt, EV.cmp_le, EV.cmp_gt, EV.cmp_ge, EV.is_n, EV.is_b, EV.is_i, EV.is_s, EV.is_l, EV.is_t, EV.is_bb, EV.isn_n, EV.isn_b, EV.isn_i, EV.isn_s, EV.isn_l, EV.isn_t, EV.isn_bb, EV.tru_n, EV.tru_b, EV.tru_i, EV.tru_l, EV.tru_t, EV.biD, EV.idx_l, EV.idx_t, EV.cut_l, EV.cut_t, EV.seq_l, EV.seq_t, EV.zipD, EV.rngD, EV.enumD, EV.enzD, EV.tupW, EV.lstW, EV.rev_l, EV.rev_t, EV.thenS_nx, EV.thenS_rt, EV.thenS_ct, EV.thenS_exc, EV.hold_nil, EV.for_eq, EV.onS_some, EV.bindD_eq, EV.ite_okb, EV.lim, EV.zip_maps, EV.zip3_maps, EV.enum_maps, e1])
  (rw [hold_cons]; simp [EV.evSs, EV.evS, EV.evE, EV.evEs, EV.evAnd, EV.evOr, EV.evO, EV.evI, EV.evIfs, EV.R.bind, EV.R.fl, EV.R.of, EV.R.tst, EV.end_nx, EV.end_rd, EV.end_rn, EV.end_exc, EV.ret_d, EV.ret_nw, EV.ioNd, EV.iosOf, EV.den, EV.dens, EV.keep, EV.keeps, EV.args, EV.back, EV.outsOf, EV.stD, EV.bt_nm, EV.bt_tp, EV.bt_nil, EV.bt_cons, EV.wip, EV.ioOk, EV.parD, EV.putW, EV.augF, EV.binD, EV.same_cmp, EV.same_ne, EV.ints_shp, EV.ints_shpL, EV.cmp_ii, EV.cmp_ni, EV.cmp_ss, EV.cmp_ns, EV.cmp_bb, EV.cmp_nb, EV.cmp_lt, EV.cmp_le, EV.cmp_gt, EV.cmp_ge, EV.is_n, EV.is_b, EV.is_i, EV.is_s, EV.is_l, EV.is_t, EV.is_bb, EV.isn_n, EV.isn_b, EV.isn_i, EV.isn_s, EV.isn_l, EV.isn_t, EV.isn_bb, EV.tru_n, EV.tru_b, EV.tru_i, EV.tru_l, EV.tru_t, EV.biD, EV.idx_l, EV.idx_t, EV.cut_l, EV.cut_t, EV.seq_l, EV.seq_t, EV.zipD, EV.rngD, EV.enumD, EV.enzD, EV.tupW, EV.lstW, EV.rev_l, EV.rev_t, EV.thenS_nx, EV.thenS_rt, EV.thenS_ct, EV.thenS_exc, EV.hold_nil, EV.for_eq, EV.onS_some, EV.bindD_eq, EV.ite_okb, EV.lim, EV.zip_maps, EV.zip3_maps, EV.enum_maps])
  (rw [hold_cons]; simp [EV.evSs, EV.evS, EV.evE, EV.evEs, EV.evAnd, EV.evOr, EV.evO, EV.evI, EV.evIfs, EV.R.bind, EV.R.fl, EV.R.of, EV.R.tst, EV.end_nx, EV.end_rd, EV.end_rn, EV.end_exc, EV.ret_d, EV.ret_nw, EV.ioNd, EV.iosOf, EV.den, EV.dens, EV.keep, EV.keeps, EV.args, EV.back, EV.outsOf, EV.stD, EV.bt_nm, EV.bt_tp, EV.bt_nil, EV.bt_cons, EV.wip, EV.ioOk, EV.parD, EV.putW, EV.augF, EV.binD, EV.same_cmp, EV.same_ne, EV.ints_shp, EV.ints_shpL, EV.cmp_ii, EV.cmp_ni, EV.cmp_ss, EV.cmp_ns, EV.cmp_bb, EV.cmp_nb, EV.cmp_lt, EV.cmp_le, EV.cmp_gt, EV.cmp_ge, EV.is_n, EV.is_b, EV.is_i, EV.is_s, EV.is_l, EV.is_t, EV.is_bb, EV.isn_n, EV.isn_b, EV.isn_i, EV.isn_s, EV.isn_l, EV.isn_t, EV.isn_bb, EV.tru_n, EV.tru_b, EV.tru_i, EV.tru_l, EV.tru_t, EV.biD, EV.idx_l, EV.idx_t, EV.cut_l, EV.cut_t, EV.seq_l, EV.seq_t, EV.zipD, EV.rngD, EV.enumD, EV.enzD, EV.tupW, EV.lstW, EV.rev_l, EV.rev_t, EV.thenS_nx, EV.thenS_rt, EV.thenS_ct, EV.thenS_exc, EV.hold_nil, EV.for_eq, EV.onS_some, EV.bindD_eq, EV.ite_okb, EV.lim, EV.zip_maps, EV.zip3_maps, EV.enum_maps, l_law_beats_0, e2, sm])
  have rl : (rngL 0 m.toNat).length = m.toNat := rngL_len
  refine forL_lst (Z := fun z => P (endCR [bE p, .d (rowE r), .d (.int most)] z)) (fun rest s1 => ∃ is q x6 x7, is.length + rest.length ≤ m.toNat ∧ (∀ i ∈ is, -4 ≤ i ∧ i ≤ 4) ∧ GoodRun r s0 is ∧ s1 = [some (bE q), some (.d (rowE r)), some (.d (.int most)), some (.d (stE s0)), some (.d (stE (endS s0 is))), some (.own (is.map .int)), x6, x7, none]) ?_ ?_ _ _ ⟨[], q1, _, _, by rw [rl]; simp, by simp, trivial, rfl⟩
  · rintro x rest s1 J Z hJ hZ ⟨is, q, x6, x7, hl, hb, hg, rfl⟩
    simp only [List.length_cons] at hl
    have hs := good_end hs0 hg
    have hq : evE gm.G (CC (n + 3)) q_law_beats_0 [some (bE q), some (.d (rowE r)), some (.d (.int most)), some (.d (stE s0)), some (.d (stE (endS s0 is))), some (.own (is.map .int)), some (.d x), x7, none] =
        .ok (.nw ((cand r (endS s0 is)).map .int)) [some (bE q), some (.d (rowE r)), some (.d (.int most)), some (.d (stE s0)), some (.d (stE (endS s0 is))), some (.own (is.map .int)), some (.d x), x7, none] := by
      have := comp_if (G := gm.G) (C := CC (n + 3)) (elt := .v 8) (tg := .nm 8) (it := .rng (.cons (.neg (.c (.int 4))) (.cons (.c (.int 5)) .nil))) (own := [8]) (ifs := .cons (.cmp .is (.call i_law_fault (.cons (.v 1) (.cons (.v 4) (.cons (.v 8) .nil)))) (.c .none)) .nil) (s := [some (bE q), some (.d (rowE r)), some (.d (.int most)), some (.d (stE s0)), some (.d (stE (endS s0 is))), some (.own (is.map .int)), some (.d x), x7, none]) (s1 := [some (bE q), some (.d (rowE r)), some (.d (.int most)), some (.d (stE s0)), some (.d (stE (endS s0 is))), some (.own (is.map .int)), some (.d x), x7, none])
        (List.range 9) (fun j : Nat => .int (-4 + (j : Int))) (fun j : Nat => if (frow r (endS s0 is) (-4 + (j : Int))).isNone then some (.int (-4 + (j : Int))) else none) (by simp [EV.evSs, EV.evS, EV.evE, EV.evEs, EV.evAnd, EV.evOr, EV.evO, EV.evI, EV.evIfs, EV.R.bind, EV.R.fl, EV.R.of, EV.R.tst, EV.end_nx, EV.end_rd, EV.end_rn, EV.end_exc, EV.ret_d, EV.ret_nw, EV.ioNd, EV.iosOf, EV.den, EV.dens, EV.keep, EV.keeps, EV.args, EV.back, EV.outsOf, EV.stD, EV.bt_nm, EV.bt_tp, EV.bt_nil, EV.bt_cons, EV.wip, EV.ioOk, EV.parD, EV.putW, EV.augF, EV.binD, EV.same_cmp, EV.same_ne, EV.ints_shp, EV.ints_shpL, EV.cmp_ii, EV.cmp_ni, EV.cmp_ss, EV.cmp_ns, EV.cmp_bb, EV.cmp_nb, EV.cmp_lt, EV.cmp_le, EV.cmp_gt, EV.cmp_ge, EV.is_n, EV.is_b, EV.is_i, EV.is_s, EV.is_l, EV.is_t, EV.is_bb, EV.isn_n, EV.isn_b, EV.isn_i, EV.isn_s, EV.isn_l, EV.isn_t, EV.isn_bb, EV.tru_n, EV.tru_b, EV.tru_i, EV.tru_l, EV.tru_t, EV.biD, EV.idx_l, EV.idx_t, EV.cut_l, EV.cut_t, EV.seq_l, EV.seq_t, EV.zipD, EV.rngD, EV.enumD, EV.enzD, EV.tupW, EV.lstW, EV.rev_l, EV.rev_t, EV.thenS_nx, EV.thenS_rt, EV.thenS_ct, EV.thenS_exc, EV.hold_nil, EV.for_eq, EV.onS_some, EV.bindD_eq, EV.ite_okb, EV.lim, EV.zip_maps, EV.zip3_maps, EV.enum_maps, small62]; rfl) (by simp) fun j hj => by
          have hj := List.mem_range.mp hj
          have xf := bx_fault (n + 1) r (endS s0 is) (-4 + (j : Int)) hr hs (by omega)
          cases ef : frow r (endS s0 is) (-4 + (j : Int)) with
          | none =>
            rw [ef] at xf
            simp only [fE] at xf
            simp [EV.evSs, EV.evS, EV.evE, EV.evEs, EV.evAnd, EV.evOr, EV.evO, EV.evI, EV.evIfs, EV.R.bind, EV.R.fl, EV.R.of, EV.R.tst, EV.end_nx, EV.end_rd, EV.end_rn, EV.end_exc, EV.ret_d, EV.ret_nw, EV.ioNd, EV.iosOf, EV.den, EV.dens, EV.keep, EV.keeps, EV.args, EV.back, EV.outsOf, EV.stD, EV.bt_nm, EV.bt_tp, EV.bt_nil, EV.bt_cons, EV.wip, EV.ioOk, EV.parD, EV.putW, EV.augF, EV.binD, EV.same_cmp, EV.same_ne, EV.ints_shp, EV.ints_shpL, EV.cmp_ii, EV.cmp_ni, EV.cmp_ss, EV.cmp_ns, EV.cmp_bb, EV.cmp_nb, EV.cmp_lt, EV.cmp_le, EV.cmp_gt, EV.cmp_ge, EV.is_n, EV.is_b, EV.is_i, EV.is_s, EV.is_l, EV.is_t, EV.is_bb, EV.isn_n, EV.isn_b, EV.isn_i, EV.isn_s, EV.isn_l, EV.isn_t, EV.isn_bb, EV.tru_n, EV.tru_b, EV.tru_i, EV.tru_l, EV.tru_t, EV.biD, EV.idx_l, EV.idx_t, EV.cut_l, EV.cut_t, EV.seq_l, EV.seq_t, EV.zipD, EV.rngD, EV.enumD, EV.enzD, EV.tupW, EV.lstW, EV.rev_l, EV.rev_t, EV.thenS_nx, EV.thenS_rt, EV.thenS_ct, EV.thenS_exc, EV.hold_nil, EV.for_eq, EV.onS_some, EV.bindD_eq, EV.ite_okb, EV.lim, EV.zip_maps, EV.zip3_maps, EV.enum_maps, turnC, xf]
          | some w =>
            rw [ef] at xf
            obtain ⟨w1, w2⟩ := w
            simp only [fE] at xf
            simp [EV.evSs, EV.evS, EV.evE, EV.evEs, EV.evAnd, EV.evOr, EV.evO, EV.evI, EV.evIfs, EV.R.bind, EV.R.fl, EV.R.of, EV.R.tst, EV.end_nx, EV.end_rd, EV.end_rn, EV.end_exc, EV.ret_d, EV.ret_nw, EV.ioNd, EV.iosOf, EV.den, EV.dens, EV.keep, EV.keeps, EV.args, EV.back, EV.outsOf, EV.stD, EV.bt_nm, EV.bt_tp, EV.bt_nil, EV.bt_cons, EV.wip, EV.ioOk, EV.parD, EV.putW, EV.augF, EV.binD, EV.same_cmp, EV.same_ne, EV.ints_shp, EV.ints_shpL, EV.cmp_ii, EV.cmp_ni, EV.cmp_ss, EV.cmp_ns, EV.cmp_bb, EV.cmp_nb, EV.cmp_lt, EV.cmp_le, EV.cmp_gt, EV.cmp_ge, EV.is_n, EV.is_b, EV.is_i, EV.is_s, EV.is_l, EV.is_t, EV.is_bb, EV.isn_n, EV.isn_b, EV.isn_i, EV.isn_s, EV.isn_l, EV.isn_t, EV.isn_bb, EV.tru_n, EV.tru_b, EV.tru_i, EV.tru_l, EV.tru_t, EV.biD, EV.idx_l, EV.idx_t, EV.cut_l, EV.cut_t, EV.seq_l, EV.seq_t, EV.zipD, EV.rngD, EV.enumD, EV.enzD, EV.tupW, EV.lstW, EV.rev_l, EV.rev_t, EV.thenS_nx, EV.thenS_rt, EV.thenS_ct, EV.thenS_exc, EV.hold_nil, EV.for_eq, EV.onS_some, EV.bindD_eq, EV.ite_okb, EV.lim, EV.zip_maps, EV.zip3_maps, EV.enum_maps, turnC, xf]
      rw [cand, List.map_filterMap]
      refine Eq.trans this ?_
      congr 3
      funext j
      split <;> rfl
    have hc : ∀ i ∈ cand r (endS s0 is), (-4 ≤ i ∧ i ≤ 4) ∧ frow r (endS s0 is) i = none := fun i hi => cand_ok hi
    have hcl : (cand r (endS s0 is)).length ≤ 9 := Nat.le_trans (List.length_filterMap_le _ _) (by simp)
    generalize cand r (endS s0 is) = cs at hq hc hcl
    simp [EV.evSs, EV.evS, EV.evE, EV.evEs, EV.evAnd, EV.evOr, EV.evO, EV.evI, EV.evIfs, EV.R.bind, EV.R.fl, EV.R.of, EV.R.tst, EV.end_nx, EV.end_rd, EV.end_rn, EV.end_exc, EV.ret_d, EV.ret_nw, EV.ioNd, EV.iosOf, EV.den, EV.dens, EV.keep, EV.keeps, EV.args, EV.back, EV.outsOf, EV.stD, EV.bt_nm, EV.bt_tp, EV.bt_nil, EV.bt_cons, EV.wip, EV.ioOk, EV.parD, EV.putW, EV.augF, EV.binD, EV.same_cmp, EV.same_ne, EV.ints_shp, EV.ints_shpL, EV.cmp_ii, EV.cmp_ni, EV.cmp_ss, EV.cmp_ns, EV.cmp_bb, EV.cmp_nb, EV.cmp_lt, EV.cmp_le, EV.cmp_gt, EV.cmp_ge, EV.is_n, EV.is_b, EV.is_i, EV.is_s, EV.is_l, EV.is_t, EV.is_bb, EV.isn_n, EV.isn_b, EV.isn_i, EV.isn_s, EV.isn_l, EV.isn_t, EV.isn_bb, EV.tru_n, EV.tru_b, EV.tru_i, EV.tru_l, EV.tru_t, EV.biD, EV.idx_l, EV.idx_t, EV.cut_l, EV.cut_t, EV.seq_l, EV.seq_t, EV.zipD, EV.rngD, EV.enumD, EV.enzD, EV.tupW, EV.lstW, EV.rev_l, EV.rev_t, EV.thenS_nx, EV.thenS_rt, EV.thenS_ct, EV.thenS_exc, EV.hold_nil, EV.for_eq, EV.onS_some, EV.bindD_eq, EV.ite_okb, EV.lim, EV.zip_maps, EV.zip3_maps, EV.enum_maps, l_law_beats_0b]
    (rw [hold_cons]; simp [EV.evSs, EV.evS, EV.evE, EV.evEs, EV.evAnd, EV.evOr, EV.evO, EV.evI, EV.evIfs, EV.R.bind, EV.R.fl, EV.R.of, EV.R.tst, EV.end_nx, EV.end_rd, EV.end_rn, EV.end_exc, EV.ret_d, EV.ret_nw, EV.ioNd, EV.iosOf, EV.den, EV.dens, EV.keep, EV.keeps, EV.args, EV.back, EV.outsOf, EV.stD, EV.bt_nm, EV.bt_tp, EV.bt_nil, EV.bt_cons, EV.wip, EV.ioOk, EV.parD, EV.putW, EV.augF, EV.binD, EV.same_cmp, EV.same_ne, EV.ints_shp, EV.ints_shpL, EV.cmp_ii, EV.cmp_ni, EV.cmp_ss, EV.cmp_ns, EV.cmp_bb, EV.cmp_nb, EV.cmp_lt, EV.cmp_le, EV.cmp_gt, EV.cmp_ge, EV.is_n, EV.is_b, EV.is_i, EV.is_s, EV.is_l, EV.is_t, EV.is_bb, EV.isn_n, EV.isn_b, EV.isn_i, EV.isn_s, EV.isn_l, EV.isn_t, EV.isn_bb, EV.tru_n, EV.tru_b, EV.tru_i, EV.tru_l, EV.tru_t, EV.biD, EV.idx_l, EV.idx_t, EV.cut_l, EV.cut_t, EV.seq_l, EV.seq_t, EV.zipD, EV.rngD, EV.enumD, EV.enzD, EV.tupW, EV.lstW, EV.rev_l, EV.rev_t, EV.thenS_nx, EV.thenS_rt, EV.thenS_ct, EV.thenS_exc, EV.hold_nil, EV.for_eq, EV.onS_some, EV.bindD_eq, EV.ite_okb, EV.lim, EV.zip_maps, EV.zip3_maps, EV.enum_maps, hq])
    cases cs with
    | nil =>
      have c0 : cmpD .ne (.list []) (.list []) = some false := by decide
      (rw [hold_cons]; simp [EV.evSs, EV.evS, EV.evE, EV.evEs, EV.evAnd, EV.evOr, EV.evO, EV.evI, EV.evIfs, EV.R.bind, EV.R.fl, EV.R.of, EV.R.tst, EV.end_nx, EV.end_rd, EV.end_rn, EV.end_exc, EV.ret_d, EV.ret_nw, EV.ioNd, EV.iosOf, EV.den, EV.dens, EV.keep, EV.keeps, EV.args, EV.back, EV.outsOf, EV.stD, EV.bt_nm, EV.bt_tp, EV.bt_nil, EV.bt_cons, EV.wip, EV.ioOk, EV.parD, EV.putW, EV.augF, EV.binD, EV.same_cmp, EV.same_ne, EV.ints_shp, EV.ints_shpL, EV.cmp_ii, EV.cmp_ni, EV.cmp_ss, EV.cmp_ns, EV.cmp_bb, EV.cmp_nb, EV.cmp_lt, EV.cmp_le, EV.cmp_gt, EV.cmp_ge, EV.is_n, EV.is_b, EV.is_i, EV.is_s, EV.is_l, EV.is_t, EV.is_bb, EV.isn_n, EV.isn_b, EV.isn_i, EV.isn_s, EV.isn_l, EV.isn_t, EV.isn_bb, EV.tru_n, EV.tru_b, EV.tru_i, EV.tru_l, EV.tru_t, EV.biD, EV.idx_l, EV.idx_t, EV.cut_l, EV.cut_t, EV.seq_l, EV.seq_t, EV.zipD, EV.rngD, EV.enumD, EV.enzD, EV.tupW, EV.lstW, EV.rev_l, EV.rev_t, EV.thenS_nx, EV.thenS_rt, EV.thenS_ct, EV.thenS_exc, EV.hold_nil, EV.for_eq, EV.onS_some, EV.bindD_eq, EV.ite_okb, EV.lim, EV.zip_maps, EV.zip3_maps, EV.enum_maps, c0])
      exact hJ _ ⟨is, q, _, _, by omega, hb, hg, rfl⟩
    | cons a cs =>
      have c1 : cmpD .ne (.list (.int a :: cs.map .int)) (.list []) = some true := by
        have h1 : shp 60 (.list (.int a :: cs.map .int)) = true := ints_shpL 59 (a :: cs)
        have h2 : shp 60 (.list []) = true := by decide
        simp only [cmpD, h1, h2, Bool.and_self, if_true]
        rfl
      obtain ⟨v, q2, hv, e3⟩ := bx_take (n + 1) q ((cs.length : Int) + 1) (by omega) (by simp only [List.length_cons] at hcl; omega)
      obtain ⟨i, hi, av⟩ : ∃ i, i ∈ a :: cs ∧ atD (.int a :: cs.map .int) v = some (.int i) := by
        have hv2 : v.toNat < (a :: cs).length := by rw [List.length_cons]; omega
        refine ⟨(a :: cs)[v.toNat], List.getElem_mem hv2, ?_⟩
        have := at_n (.int a :: cs.map .int) v.toNat
        rw [show ((v.toNat : Nat) : Int) = v by omega] at this
        rw [this, ← List.map_cons, List.getElem?_map, List.getElem?_eq_getElem hv2]
        rfl
      have ⟨hi1, hi2⟩ := hc i hi
      have la := at_last (is.map PyData.int) (.int i)
      have hz : is.length < 16777216 := by omega
      have xb := bx_behind (n + 2) (endS s0 is) i (by have := hs.len; have := hr.l2; omega)
      (rw [hold_cons]; simp [EV.evSs, EV.evS, EV.evE, EV.evEs, EV.evAnd, EV.evOr, EV.evO, EV.evI, EV.evIfs, EV.R.bind, EV.R.fl, EV.R.of, EV.R.tst, EV.end_nx, EV.end_rd, EV.end_rn, EV.end_exc, EV.ret_d, EV.ret_nw, EV.ioNd, EV.iosOf, EV.den, EV.dens, EV.keep, EV.keeps, EV.args, EV.back, EV.outsOf, EV.stD, EV.bt_nm, EV.bt_tp, EV.bt_nil, EV.bt_cons, EV.wip, EV.ioOk, EV.parD, EV.putW, EV.augF, EV.binD, EV.same_cmp, EV.same_ne, EV.ints_shp, EV.ints_shpL, EV.cmp_ii, EV.cmp_ni, EV.cmp_ss, EV.cmp_ns, EV.cmp_bb, EV.cmp_nb, EV.cmp_lt, EV.cmp_le, EV.cmp_gt, EV.cmp_ge, EV.is_n, EV.is_b, EV.is_i, EV.is_s, EV.is_l, EV.is_t, EV.is_bb, EV.isn_n, EV.isn_b, EV.isn_i, EV.isn_s, EV.isn_l, EV.isn_t, EV.isn_bb, EV.tru_n, EV.tru_b, EV.tru_i, EV.tru_l, EV.tru_t, EV.biD, EV.idx_l, EV.idx_t, EV.cut_l, EV.cut_t, EV.seq_l, EV.seq_t, EV.zipD, EV.rngD, EV.enumD, EV.enzD, EV.tupW, EV.lstW, EV.rev_l, EV.rev_t, EV.thenS_nx, EV.thenS_rt, EV.thenS_ct, EV.thenS_exc, EV.hold_nil, EV.for_eq, EV.onS_some, EV.bindD_eq, EV.ite_okb, EV.lim, EV.zip_maps, EV.zip3_maps, EV.enum_maps, c1, e3, av, hz, la, xb])
      refine hJ _ ⟨is ++ [i], q2, some (.d x), some (.d (.list (.int a :: cs.map .int))), by simp; omega, fun y hy => ?_, good_snoc hg hi2, ?_⟩
      · rcases List.mem_append.mp hy with hy | hy
        · exact hb y hy
        · simp only [List.mem_cons, List.not_mem_nil, or_false] at hy
          rw [hy]; exact hi1
      · rw [end_snoc]
        simp
  · rintro s1 ⟨is, q, x6, x7, hl, hb, hg, rfl⟩
    (rw [hold_cons]; simp [EV.evSs, EV.evS, EV.evE, EV.evEs, EV.evAnd, EV.evOr, EV.evO, EV.evI, EV.evIfs, EV.R.bind, EV.R.fl, EV.R.of, EV.R.tst, EV.end_nx, EV.end_rd, EV.end_rn, EV.end_exc, EV.ret_d, EV.ret_nw, EV.ioNd, EV.iosOf, EV.den, EV.dens, EV.keep, EV.keeps, EV.args, EV.back, EV.outsOf, EV.stD, EV.bt_nm, EV.bt_tp, EV.bt_nil, EV.bt_cons, EV.wip, EV.ioOk, EV.parD, EV.putW, EV.augF, EV.binD, EV.same_cmp, EV.same_ne, EV.ints_shp, EV.ints_shpL, EV.cmp_ii, EV.cmp_ni, EV.cmp_ss, EV.cmp_ns, EV.cmp_bb, EV.cmp_nb, EV.cmp_lt, EV.cmp_le, EV.cmp_gt, EV.cmp_ge, EV.is_n, EV.is_b, EV.is_i, EV.is_s, EV.is_l, EV.is_t, EV.is_bb, EV.isn_n, EV.isn_b, EV.isn_i, EV.isn_s, EV.isn_l, EV.isn_t, EV.isn_bb, EV.tru_n, EV.tru_b, EV.tru_i, EV.tru_l, EV.tru_t, EV.biD, EV.idx_l, EV.idx_t, EV.cut_l, EV.cut_t, EV.seq_l, EV.seq_t, EV.zipD, EV.rngD, EV.enumD, EV.enzD, EV.tupW, EV.lstW, EV.rev_l, EV.rev_t, EV.thenS_nx, EV.thenS_rt, EV.thenS_ct, EV.thenS_exc, EV.hold_nil, EV.for_eq, EV.onS_some, EV.bindD_eq, EV.ite_okb, EV.lim, EV.zip_maps, EV.zip3_maps, EV.enum_maps])
    refine hP s0 is q hs0 ?_ hb hg
    simp only [List.length_nil, Nat.add_zero] at hl
    omega
theorem bx_seenP (n : Nat) (p : Bx) (r : List Kd) (sl : Slp) (most : Int) (hr : RowOk r) (hsl : SlOk sl) (h0 : 0 ≤ most ∧ most ≤ 12) (P : CR → Prop)
    (hP : ∀ (xs : List Rdg) (s : List Cell) (is : List Int) (q : Bx), StOk r s → (is.length : Int) ≤ most → (∀ i ∈ is, -4 ≤ i ∧ i ≤ 4) → GoodRun r s is → xs.length = is.length → (∀ x ∈ xs, RdOk r x) → P (.ok (.d (.tuple [rdsE xs, stE s, plE is])) [some (bE q), none, none, none])) :
    P (CC (n + 5) i_law_seen [bE p, .d (rowE r), .d (ce sl), .d (.int most)]) := by
  rw [u_law_seen _ _ _ _ _ rfl, b_law_seen, hold_eq]
  obtain ⟨⟨s0, is, q0⟩, hs0, hl, hb, hg, e1⟩ : ∃ t : List Cell × List Int × Bx, StOk r t.1 ∧ (t.2.1.length : Int) ≤ most ∧ (∀ i ∈ t.2.1, -4 ≤ i ∧ i ≤ 4) ∧ GoodRun r t.1 t.2.1 ∧ CC (n + 4) i_law_beats [bE p, .d (rowE r), .d (.int most)] = .ok (.d (.tuple [stE t.1, .list (t.2.1.map .int)])) [some (bE t.2.2), none, none] :=
    bx_beatsP n p r most hr h0 (fun z => ∃ t : List Cell × List Int × Bx, StOk r t.1 ∧ (t.2.1.length : Int) ≤ most ∧ (∀ i ∈ t.2.1, -4 ≤ i ∧ i ≤ 4) ∧ GoodRun r t.1 t.2.1 ∧ z = .ok (.d (.tuple [stE t.1, .list (t.2.1.map .int)])) [some (bE t.2.2), none, none]) fun s is q h1 h2 h3 h4 => ⟨(s, is, q), h1, h2, h3, h4, rfl⟩
  simp only at hs0 hl hb hg e1
  (rw [hold_cons]; simp [EV.evSs, EV.evS, EV.evE, EV.evEs, EV.evAnd, EV.evOr, EV.evO, EV.evI, EV.evIfs, EV.R.bind, EV.R.fl, EV.R.of, EV.R.tst, EV.end_nx, EV.end_rd, EV.end_rn, EV.end_exc, EV.ret_d, EV.ret_nw, EV.ioNd, EV.iosOf, EV.den, EV.dens, EV.keep, EV.keeps, EV.args, EV.back, EV.outsOf, EV.stD, EV.bt_nm, EV.bt_tp, EV.bt_nil, EV.bt_cons, EV.wip, EV.ioOk, EV.parD, EV.putW, EV.augF, EV.binD, EV.same_cmp, EV.same_ne, EV.ints_shp, EV.ints_shpL, EV.cmp_ii, EV.cmp_ni, EV.cmp_ss, EV.cmp_ns, EV.cmp_bb, EV.cmp_nb, EV.cmp_lt, EV.cmp_le, EV.cmp_gt, EV.cmp_ge, EV.is_n, EV.is_b, EV.is_i, EV.is_s, EV.is_l, EV.is_t, EV.is_bb, EV.isn_n, EV.isn_b, EV.isn_i, EV.isn_s, EV.isn_l, EV.isn_t, EV.isn_bb, EV.tru_n, EV.tru_b, EV.tru_i, EV.tru_l, EV.tru_t, EV.biD, EV.idx_l, EV.idx_t, EV.cut_l, EV.cut_t, EV.seq_l, EV.seq_t, EV.zipD, EV.rngD, EV.enumD, EV.enzD, EV.tupW, EV.lstW, EV.rev_l, EV.rev_t, EV.thenS_nx, EV.thenS_rt, EV.thenS_ct, EV.thenS_exc, EV.hold_nil, EV.for_eq, EV.onS_some, EV.bindD_eq, EV.ite_okb, EV.lim, EV.zip_maps, EV.zip3_maps, EV.enum_maps, e1])
  (rw [hold_cons]; simp [EV.evSs, EV.evS, EV.evE, EV.evEs, EV.evAnd, EV.evOr, EV.evO, EV.evI, EV.evIfs, EV.R.bind, EV.R.fl, EV.R.of, EV.R.tst, EV.end_nx, EV.end_rd, EV.end_rn, EV.end_exc, EV.ret_d, EV.ret_nw, EV.ioNd, EV.iosOf, EV.den, EV.dens, EV.keep, EV.keeps, EV.args, EV.back, EV.outsOf, EV.stD, EV.bt_nm, EV.bt_tp, EV.bt_nil, EV.bt_cons, EV.wip, EV.ioOk, EV.parD, EV.putW, EV.augF, EV.binD, EV.same_cmp, EV.same_ne, EV.ints_shp, EV.ints_shpL, EV.cmp_ii, EV.cmp_ni, EV.cmp_ss, EV.cmp_ns, EV.cmp_bb, EV.cmp_nb, EV.cmp_lt, EV.cmp_le, EV.cmp_gt, EV.cmp_ge, EV.is_n, EV.is_b, EV.is_i, EV.is_s, EV.is_l, EV.is_t, EV.is_bb, EV.isn_n, EV.isn_b, EV.isn_i, EV.isn_s, EV.isn_l, EV.isn_t, EV.isn_bb, EV.tru_n, EV.tru_b, EV.tru_i, EV.tru_l, EV.tru_t, EV.biD, EV.idx_l, EV.idx_t, EV.cut_l, EV.cut_t, EV.seq_l, EV.seq_t, EV.zipD, EV.rngD, EV.enumD, EV.enzD, EV.tupW, EV.lstW, EV.rev_l, EV.rev_t, EV.thenS_nx, EV.thenS_rt, EV.thenS_ct, EV.thenS_exc, EV.hold_nil, EV.for_eq, EV.onS_some, EV.bindD_eq, EV.ite_okb, EV.lim, EV.zip_maps, EV.zip3_maps, EV.enum_maps])
  (rw [hold_cons]; simp [EV.evSs, EV.evS, EV.evE, EV.evEs, EV.evAnd, EV.evOr, EV.evO, EV.evI, EV.evIfs, EV.R.bind, EV.R.fl, EV.R.of, EV.R.tst, EV.end_nx, EV.end_rd, EV.end_rn, EV.end_exc, EV.ret_d, EV.ret_nw, EV.ioNd, EV.iosOf, EV.den, EV.dens, EV.keep, EV.keeps, EV.args, EV.back, EV.outsOf, EV.stD, EV.bt_nm, EV.bt_tp, EV.bt_nil, EV.bt_cons, EV.wip, EV.ioOk, EV.parD, EV.putW, EV.augF, EV.binD, EV.same_cmp, EV.same_ne, EV.ints_shp, EV.ints_shpL, EV.cmp_ii, EV.cmp_ni, EV.cmp_ss, EV.cmp_ns, EV.cmp_bb, EV.cmp_nb, EV.cmp_lt, EV.cmp_le, EV.cmp_gt, EV.cmp_ge, EV.is_n, EV.is_b, EV.is_i, EV.is_s, EV.is_l, EV.is_t, EV.is_bb, EV.isn_n, EV.isn_b, EV.isn_i, EV.isn_s, EV.isn_l, EV.isn_t, EV.isn_bb, EV.tru_n, EV.tru_b, EV.tru_i, EV.tru_l, EV.tru_t, EV.biD, EV.idx_l, EV.idx_t, EV.cut_l, EV.cut_t, EV.seq_l, EV.seq_t, EV.zipD, EV.rngD, EV.enumD, EV.enzD, EV.tupW, EV.lstW, EV.rev_l, EV.rev_t, EV.thenS_nx, EV.thenS_rt, EV.thenS_ct, EV.thenS_exc, EV.hold_nil, EV.for_eq, EV.onS_some, EV.bindD_eq, EV.ite_okb, EV.lim, EV.zip_maps, EV.zip3_maps, EV.enum_maps, l_law_seen_0])
  refine forL_ind PyData.int (Z := fun z => P (endCR [bE p, .d (rowE r), .d (ce sl), .d (.int most)] z)) (fun rest s1 => ∃ xs s q x8, xs.length + rest.length = is.length ∧ (∀ x ∈ xs, RdOk r x) ∧ (∀ i ∈ rest, -4 ≤ i ∧ i ≤ 4) ∧ StOk r s ∧ GoodRun r s rest ∧ s1 = [some (bE q), some (.d (rowE r)), some (.d (ce sl)), some (.d (.int most)), some (.d (stE s0)), some (.d (.list (is.map .int))), some (.d (stE s)), some (.own (xs.map rdE)), x8]) ?_ ?_ _ _ ⟨[], s0, q0, _, by simp, by simp, hb, hs0, hg, rfl⟩
  · rintro i rest s1 J Z hJ hZ ⟨xs, s, q, x8, hl1, hx, hb1, hs, hg1, rfl⟩
    simp only [List.length_cons] at hl1
    obtain ⟨x, q1, hxo, e2⟩ := bx_reading (n + 1) q r sl s i hr hsl hs (hb1 i List.mem_cons_self)
    have xb := bx_behind (n + 3) s i (by have := hs.len; have := hr.l2; omega)
    have hz : xs.length < 16777216 := by omega
    simp [EV.evSs, EV.evS, EV.evE, EV.evEs, EV.evAnd, EV.evOr, EV.evO, EV.evI, EV.evIfs, EV.R.bind, EV.R.fl, EV.R.of, EV.R.tst, EV.end_nx, EV.end_rd, EV.end_rn, EV.end_exc, EV.ret_d, EV.ret_nw, EV.ioNd, EV.iosOf, EV.den, EV.dens, EV.keep, EV.keeps, EV.args, EV.back, EV.outsOf, EV.stD, EV.bt_nm, EV.bt_tp, EV.bt_nil, EV.bt_cons, EV.wip, EV.ioOk, EV.parD, EV.putW, EV.augF, EV.binD, EV.same_cmp, EV.same_ne, EV.ints_shp, EV.ints_shpL, EV.cmp_ii, EV.cmp_ni, EV.cmp_ss, EV.cmp_ns, EV.cmp_bb, EV.cmp_nb, EV.cmp_lt, EV.cmp_le, EV.cmp_gt, EV.cmp_ge, EV.is_n, EV.is_b, EV.is_i, EV.is_s, EV.is_l, EV.is_t, EV.is_bb, EV.isn_n, EV.isn_b, EV.isn_i, EV.isn_s, EV.isn_l, EV.isn_t, EV.isn_bb, EV.tru_n, EV.tru_b, EV.tru_i, EV.tru_l, EV.tru_t, EV.biD, EV.idx_l, EV.idx_t, EV.cut_l, EV.cut_t, EV.seq_l, EV.seq_t, EV.zipD, EV.rngD, EV.enumD, EV.enzD, EV.tupW, EV.lstW, EV.rev_l, EV.rev_t, EV.thenS_nx, EV.thenS_rt, EV.thenS_ct, EV.thenS_exc, EV.hold_nil, EV.for_eq, EV.onS_some, EV.bindD_eq, EV.ite_okb, EV.lim, EV.zip_maps, EV.zip3_maps, EV.enum_maps, l_law_seen_0b]
    (rw [hold_cons]; simp [EV.evSs, EV.evS, EV.evE, EV.evEs, EV.evAnd, EV.evOr, EV.evO, EV.evI, EV.evIfs, EV.R.bind, EV.R.fl, EV.R.of, EV.R.tst, EV.end_nx, EV.end_rd, EV.end_rn, EV.end_exc, EV.ret_d, EV.ret_nw, EV.ioNd, EV.iosOf, EV.den, EV.dens, EV.keep, EV.keeps, EV.args, EV.back, EV.outsOf, EV.stD, EV.bt_nm, EV.bt_tp, EV.bt_nil, EV.bt_cons, EV.wip, EV.ioOk, EV.parD, EV.putW, EV.augF, EV.binD, EV.same_cmp, EV.same_ne, EV.ints_shp, EV.ints_shpL, EV.cmp_ii, EV.cmp_ni, EV.cmp_ss, EV.cmp_ns, EV.cmp_bb, EV.cmp_nb, EV.cmp_lt, EV.cmp_le, EV.cmp_gt, EV.cmp_ge, EV.is_n, EV.is_b, EV.is_i, EV.is_s, EV.is_l, EV.is_t, EV.is_bb, EV.isn_n, EV.isn_b, EV.isn_i, EV.isn_s, EV.isn_l, EV.isn_t, EV.isn_bb, EV.tru_n, EV.tru_b, EV.tru_i, EV.tru_l, EV.tru_t, EV.biD, EV.idx_l, EV.idx_t, EV.cut_l, EV.cut_t, EV.seq_l, EV.seq_t, EV.zipD, EV.rngD, EV.enumD, EV.enzD, EV.tupW, EV.lstW, EV.rev_l, EV.rev_t, EV.thenS_nx, EV.thenS_rt, EV.thenS_ct, EV.thenS_exc, EV.hold_nil, EV.for_eq, EV.onS_some, EV.bindD_eq, EV.ite_okb, EV.lim, EV.zip_maps, EV.zip3_maps, EV.enum_maps, e2, hz])
    (rw [hold_cons]; simp [EV.evSs, EV.evS, EV.evE, EV.evEs, EV.evAnd, EV.evOr, EV.evO, EV.evI, EV.evIfs, EV.R.bind, EV.R.fl, EV.R.of, EV.R.tst, EV.end_nx, EV.end_rd, EV.end_rn, EV.end_exc, EV.ret_d, EV.ret_nw, EV.ioNd, EV.iosOf, EV.den, EV.dens, EV.keep, EV.keeps, EV.args, EV.back, EV.outsOf, EV.stD, EV.bt_nm, EV.bt_tp, EV.bt_nil, EV.bt_cons, EV.wip, EV.ioOk, EV.parD, EV.putW, EV.augF, EV.binD, EV.same_cmp, EV.same_ne, EV.ints_shp, EV.ints_shpL, EV.cmp_ii, EV.cmp_ni, EV.cmp_ss, EV.cmp_ns, EV.cmp_bb, EV.cmp_nb, EV.cmp_lt, EV.cmp_le, EV.cmp_gt, EV.cmp_ge, EV.is_n, EV.is_b, EV.is_i, EV.is_s, EV.is_l, EV.is_t, EV.is_bb, EV.isn_n, EV.isn_b, EV.isn_i, EV.isn_s, EV.isn_l, EV.isn_t, EV.isn_bb, EV.tru_n, EV.tru_b, EV.tru_i, EV.tru_l, EV.tru_t, EV.biD, EV.idx_l, EV.idx_t, EV.cut_l, EV.cut_t, EV.seq_l, EV.seq_t, EV.zipD, EV.rngD, EV.enumD, EV.enzD, EV.tupW, EV.lstW, EV.rev_l, EV.rev_t, EV.thenS_nx, EV.thenS_rt, EV.thenS_ct, EV.thenS_exc, EV.hold_nil, EV.for_eq, EV.onS_some, EV.bindD_eq, EV.ite_okb, EV.lim, EV.zip_maps, EV.zip3_maps, EV.enum_maps, xb])
    refine hJ _ ⟨xs ++ [x], behindL s i, q1, some (.d (.int i)), by simp; omega, fun y hy => ?_, fun y hy => hb1 y (List.mem_cons_of_mem _ hy), behind_ok hs hg1.1, hg1.2, by simp⟩
    rcases List.mem_append.mp hy with hy | hy
    · exact hx y hy
    · simp only [List.mem_cons, List.not_mem_nil, or_false] at hy
      rw [hy]; exact hxo
  · rintro s1 ⟨xs, s, q, x8, hl1, hx, hb1, hs, hg1, rfl⟩
    (rw [hold_cons]; simp [EV.evSs, EV.evS, EV.evE, EV.evEs, EV.evAnd, EV.evOr, EV.evO, EV.evI, EV.evIfs, EV.R.bind, EV.R.fl, EV.R.of, EV.R.tst, EV.end_nx, EV.end_rd, EV.end_rn, EV.end_exc, EV.ret_d, EV.ret_nw, EV.ioNd, EV.iosOf, EV.den, EV.dens, EV.keep, EV.keeps, EV.args, EV.back, EV.outsOf, EV.stD, EV.bt_nm, EV.bt_tp, EV.bt_nil, EV.bt_cons, EV.wip, EV.ioOk, EV.parD, EV.putW, EV.augF, EV.binD, EV.same_cmp, EV.same_ne, EV.ints_shp, EV.ints_shpL, EV.cmp_ii, EV.cmp_ni, EV.cmp_ss, EV.cmp_ns, EV.cmp_bb, EV.cmp_nb, EV.cmp_lt, EV.cmp_le, EV.cmp_gt, EV.cmp_ge, EV.is_n, EV.is_b, EV.is_i, EV.is_s, EV.is_l, EV.is_t, EV.is_bb, EV.isn_n, EV.isn_b, EV.isn_i, EV.isn_s, EV.isn_l, EV.isn_t, EV.isn_bb, EV.tru_n, EV.tru_b, EV.tru_i, EV.tru_l, EV.tru_t, EV.biD, EV.idx_l, EV.idx_t, EV.cut_l, EV.cut_t, EV.seq_l, EV.seq_t, EV.zipD, EV.rngD, EV.enumD, EV.enzD, EV.tupW, EV.lstW, EV.rev_l, EV.rev_t, EV.thenS_nx, EV.thenS_rt, EV.thenS_ct, EV.thenS_exc, EV.hold_nil, EV.for_eq, EV.onS_some, EV.bindD_eq, EV.ite_okb, EV.lim, EV.zip_maps, EV.zip3_maps, EV.enum_maps])
    exact hP xs s0 is q hs0 hl hb hg (by simpa using hl1) hx
end YK17

namespace YK17
open PySem EV
/-! texts of numbers, None and tuples of such are texts -/
def nos : Nat → D → Bool
  | _, .none => true
  | _, .bool _ => true
  | _, .int _ => true
  | n + 1, .tuple xs => xs.all (nos n)
  | n + 1, .list xs => xs.all (nos n)
  | _, _ => false
abbrev Signs (s : Str) : Prop := ∀ c ∈ s.cps.toList, c < 0x110000
theorem signs_of (s : String) : Signs (Str.ofString s) := by
  intro c hc
  have := ofString_ok s
  rw [← Array.all_toList, List.all_eq_true] at this
  exact of_decide_eq_true (this c hc)
theorem signs_app {a b : Str} (ha : Signs a) (hb : Signs b) : Signs (a ++ b) := fun c hc => (PyProof.Rows.mem_cps_append.mp hc).elim (ha c) (hb c)
theorem signs_join {s : Str} {ts : List Str} (hs : Signs s) (ht : ∀ t ∈ ts, Signs t) : Signs (Str.join s ts) := fun c hc => ((PyProof.Rows.mem_join s c ts).mp hc).elim (fun ⟨t, h, h2⟩ => ht t h c h2) fun h => hs c h.2
theorem signs_nos : ∀ (n : Nat) (x : D), nos n x = true → Signs (PyData.shown x)
  | _, .none, _ => by rw [PyData.shown_none]; exact signs_of _
  | _, .bool b, _ => by rw [PyData.shown_bool]; cases b <;> exact signs_of _
  | _, .int i, _ => by rw [PyData.shown_int]; exact signs_of _
  | 0, .tuple xs, h => by simp [nos] at h
  | 0, .list xs, h => by simp [nos] at h
  | 0, .str _, h => by simp [nos] at h
  | _ + 1, .str _, h => by simp [nos] at h
  | 0, .dict _, h => by simp [nos] at h
  | _ + 1, .dict _, h => by simp [nos] at h
  | n + 1, .tuple xs, h => by
    rw [nos, List.all_eq_true] at h
    have all : ∀ ys : List D, (∀ x ∈ ys, nos n x = true) → ∀ t ∈ PyData.shownAll ys, Signs t := by
      intro ys
      induction ys with
      | nil => intro _ t ht; rw [PyData.shownAll_nil] at ht; cases ht
      | cons y ys ih =>
        intro hy t ht
        rw [PyData.shownAll_cons] at ht
        rcases List.mem_cons.mp ht with rfl | ht
        · exact signs_nos n y (hy y List.mem_cons_self)
        · exact ih (fun x hx => hy x (List.mem_cons_of_mem _ hx)) t ht
    rw [PyData.shown_tuple]
    refine signs_app (signs_app (signs_of _) (signs_join (signs_of _) (all xs h))) ?_
    split <;> exact signs_of _
  | n + 1, .list xs, h => by
    rw [nos, List.all_eq_true] at h
    have all : ∀ ys : List D, (∀ x ∈ ys, nos n x = true) → ∀ t ∈ PyData.shownAll ys, Signs t := by
      intro ys
      induction ys with
      | nil => intro _ t ht; rw [PyData.shownAll_nil] at ht; cases ht
      | cons y ys ih =>
        intro hy t ht
        rw [PyData.shownAll_cons] at ht
        rcases List.mem_cons.mp ht with rfl | ht
        · exact signs_nos n y (hy y List.mem_cons_self)
        · exact ih (fun x hx => hy x (List.mem_cons_of_mem _ hx)) t ht
    rw [PyData.shown_list]
    exact signs_app (signs_app (signs_of _) (signs_join (signs_of _) (all xs h))) (signs_of _)
theorem shp_shown {n : Nat} {x : D} (h : nos n x = true) (k : Nat) : shp k (.str (PyData.shown x)) = true := by
  have s := signs_nos n x h
  have : (PyData.shown x).cps.all (· < 0x110000) = true := by
    rw [← Array.all_toList, List.all_eq_true]
    exact fun c hc => decide_eq_true (s c hc)
  cases k <;> simpa [shp] using this
/-! the texts of the law -/
theorem rp_o (k : Nat) {m : Int} {o : Option Int} (h : oIn m o) (hm : m ≤ 20000) : Rp (oE o) k 20 := by
  cases o with
  | none => exact ⟨by simp [oE, shp], rfl, rfl, Nat.zero_le _⟩
  | some i => simp only [oIn] at h; exact rp_int k (by omega)
theorem rp_rd {r : List Kd} (hr : RowOk r) {x : Rdg} (h : RdOk r x) : Rp (rdE x) 2 200 := by
  have h1 : Rp (.tuple (x.2.map oE)) 1 (3 * 21) := rp_map (by rw [h.len]; exact hr.l2) fun o ho => rp_o 0 (h.v o ho) (by omega)
  have := rp_tup (rps_cons (rp_o 1 h.t (by omega)) (rps_cons h1 (rps_nil 1)))
  exact ⟨this.sh, this.it, this.sw, Nat.le_trans this.wt (by omega)⟩
theorem rp_rds {r : List Kd} (hr : RowOk r) {xs : List Rdg} (hl : xs.length ≤ 6) (h : ∀ x ∈ xs, RdOk r x) : Rp (rdsE xs) 3 (6 * 201) := rp_map hl fun x hx => rp_rd hr (h x hx)
theorem rp_plan {p : List Int} (hp : PlanOk p) : Rp (plE p) 1 (12 * 21) := rp_map hp.len fun i hi => rp_int 0 (by have := hp.ok i hi; omega)
theorem rp_all {r : List Kd} (hr : RowOk r) {xs : List Rdg} (hl : xs.length ≤ 6) (h : ∀ x ∈ xs, RdOk r x) {s : List Cell} (hs : StOk r s) {p : List Int} (hp : PlanOk p) : Rp (.tuple [rowE r, rdsE xs, stE s, plE p]) 4 4000 := by
  have a := rp_row hr
  have b := rp_rds hr hl h
  have c := rp_st hr hs
  have d := rp_plan hp
  have := rp_tup (rps_cons a (rps_cons b (rps_cons (c.up (by omega)) (rps_cons (d.up (by omega)) (rps_nil 3)))))
  exact ⟨this.sh, this.it, this.sw, Nat.le_trans this.wt (by omega)⟩
theorem ofrom_lt {m : Int} {os : List (Option Int)} : ∀ {vs : List Int} {j t : Nat}, ofrom m os j vs = some t → t < j + vs.length
  | [], j, t, h => by simp [ofrom] at h
  | v :: vs, j, t, h => by
    rw [ofrom] at h
    rw [List.length_cons]
    split at h
    · cases h; omega
    · have := ofrom_lt (vs := vs) h
      omega
theorem unfit_rg {r : List Kd} {p : Slp} {x : Rdg} {s : List Cell} {i q : Int} (hl : r.length ≤ 3) (h : unfitP r p x s i = some q) : -1 ≤ q ∧ q ≤ 3 := by
  unfold unfitP at h
  split at h
  · cases h; omega
  · split at h
    · cases h; omega
    · obtain ⟨j, e1, e2⟩ := Option.map_eq_some_iff.mp h
      have := ofrom_lt e1
      have l : (showsL r s i).length ≤ 3 := by unfold showsL; rw [List.length_map, List.length_zip]; omega
      omega
theorem due_rg {r : List Kd} {p : Slp} (hl : r.length ≤ 3) : ∀ {ps : List (Rdg × Int)} {s : List Cell} {b : Nat} {t : Nat × Int}, dueP r p s b ps = some t → t.1 < b + ps.length ∧ -1 ≤ t.2 ∧ t.2 ≤ 3
  | [], s, b, t, h => by simp [dueP] at h
  | (x, i) :: ps, s, b, t, h => by
    rw [dueP] at h
    rw [List.length_cons]
    cases e : unfitP r p x s i with
    | some q =>
      rw [e] at h
      simp only at h
      cases h
      have := unfit_rg hl e
      exact ⟨by show b < _; omega, this⟩
    | none =>
      rw [e] at h
      have := due_rg hl (ps := ps) h
      exact ⟨by omega, this.2⟩
theorem rp_due {r : List Kd} {p : Slp} {ps : List (Rdg × Int)} {s : List Cell} (hl : r.length ≤ 3) (hp : ps.length ≤ 1000) : Rp (dE (dueP r p s 0 ps)) 1 60 ∧ nos 1 (dE (dueP r p s 0 ps)) = true := by
  cases e : dueP r p s 0 ps with
  | none => exact ⟨⟨rfl, rfl, rfl, Nat.zero_le _⟩, rfl⟩
  | some t =>
    obtain ⟨b, q⟩ := t
    have := due_rg hl e
    simp only at this
    have h := rp_tup (rps_cons (rp_int 0 (i := (b : Int)) (by omega)) (rps_cons (rp_int 0 (i := q) (by omega)) (rps_nil 0)))
    exact ⟨⟨h.sh, h.it, h.sw, Nat.le_trans h.wt (by omega)⟩, rfl⟩
theorem rp_sh {x : D} {k n : Nat} (h : Rp x k n) (hk : k ≤ 60) (hn : n ≤ 1000000) : reprD [x] = some (.d (.str (PyData.shown x))) := by
  obtain ⟨h1, h2, h3⟩ := rp_shown h hk hn
  have h4 := h.it
  cases x with
  | none => simp [reprD, PyData.shown]
  | bool c => cases c <;> simp [reprD, PyData.shown]
  | int i =>
    simp only [PyData.showable, decide_eq_true_eq] at h2
    simp [reprD, PyData.shown, h2]
  | str x => simp [reprD, h3]
  | list xs => simp [reprD, h1, h2, h3]
  | tuple xs => simp [reprD, h1, h2, h3]
  | dict xs => simp [shp] at h1
/-! ### the law -/
structure Told (r : List Kd) (m : Nat) (y : List Cell × List Int) : Prop where
  st : StOk r y.1
  ln : y.2.length = m
  bd : ∀ i ∈ y.2, -4 ≤ i ∧ i ≤ 9
abbrev tE (y : List Cell × List Int) : D := .tuple [stE y.1, plE y.2]
def lev : Nat := 11
set_option maxHeartbeats 1000000 in
theorem law_ok (ns : List Int) (h : ns.length ≤ 63) : ∃ outs, callF gm.G gm.F lev i_law [.d (scriptD ns)] = .ok (.d (.bool true)) outs := by
  show ∃ outs, CC (10 + 1) i_law [.d (scriptD ns)] = .ok (.d (.bool true)) outs
  rw [u_law _ _ rfl, b_law, hold_eq]
  have sm1 : small62 (max 1 (min (ns.length : Int) 3)) = true := s62 (by omega) (by omega)
  have sm3 : small62 3 = true := by decide
  have sm6 : small62 6 = true := by decide
  have sm2 : small62 2 = true := by decide
  (rw [hold_cons]; simp [EV.evSs, EV.evS, EV.evE, EV.evEs, EV.evAnd, EV.evOr, EV.evO, EV.evI, EV.evIfs, EV.R.bind, EV.R.fl, EV.R.of, EV.R.tst, EV.end_nx, EV.end_rd, EV.end_rn, EV.end_exc, EV.ret_d, EV.ret_nw, EV.ioNd, EV.iosOf, EV.den, EV.dens, EV.keep, EV.keeps, EV.args, EV.back, EV.outsOf, EV.stD, EV.bt_nm, EV.bt_tp, EV.bt_nil, EV.bt_cons, EV.wip, EV.ioOk, EV.parD, EV.putW, EV.augF, EV.binD, EV.same_cmp, EV.same_ne, EV.ints_shp, EV.ints_shpL, EV.cmp_ii, EV.cmp_ni, EV.cmp_ss, EV.cmp_ns, EV.cmp_bb, EV.cmp_nb, EV.cmp_lt, EV.cmp_le, EV.cmp_gt, EV.cmp_ge, EV.is_n, EV.is_b, EV.is_i, EV.is_s, EV.is_l, EV.is_t, EV.is_bb, EV.isn_n, EV.isn_b, EV.isn_i, EV.isn_s, EV.isn_l, EV.isn_t, EV.isn_bb, EV.tru_n, EV.tru_b, EV.tru_i, EV.tru_l, EV.tru_t, EV.biD, EV.idx_l, EV.idx_t, EV.cut_l, EV.cut_t, EV.seq_l, EV.seq_t, EV.zipD, EV.rngD, EV.enumD, EV.enzD, EV.tupW, EV.lstW, EV.rev_l, EV.rev_t, EV.thenS_nx, EV.thenS_rt, EV.thenS_ct, EV.thenS_exc, EV.hold_nil, EV.for_eq, EV.onS_some, EV.bindD_eq, EV.ite_okb, EV.lim, EV.zip_maps, EV.zip3_maps, EV.enum_maps, l_law_3, sm1])
  refine forL_rng (Z := fun z => ∃ outs, endCR [.d (scriptD ns)] z = .ok (.d (.bool true)) outs) (fun s1 => ∃ x1 x2 x3 x4 x5 x6 x7 x8 x9 x10 x11 x12 x13 x14 x15 x16, s1 = [some (.d (scriptD ns)), x1, x2, x3, x4, x5, x6, x7, x8, x9, x10, x11, x12, x13, x14, x15, x16, none]) ?_ ?_ _ ⟨_, _, _, _, _, _, _, _, _, _, _, _, _, _, _, _, rfl⟩
  · rintro k s1 J Z hJ hZ hk ⟨x1, x2, x3, x4, x5, x6, x7, x8, x9, x10, x11, x12, x13, x14, x15, x16, rfl⟩
    simp [EV.evSs, EV.evS, EV.evE, EV.evEs, EV.evAnd, EV.evOr, EV.evO, EV.evI, EV.evIfs, EV.R.bind, EV.R.fl, EV.R.of, EV.R.tst, EV.end_nx, EV.end_rd, EV.end_rn, EV.end_exc, EV.ret_d, EV.ret_nw, EV.ioNd, EV.iosOf, EV.den, EV.dens, EV.keep, EV.keeps, EV.args, EV.back, EV.outsOf, EV.stD, EV.bt_nm, EV.bt_tp, EV.bt_nil, EV.bt_cons, EV.wip, EV.ioOk, EV.parD, EV.putW, EV.augF, EV.binD, EV.same_cmp, EV.same_ne, EV.ints_shp, EV.ints_shpL, EV.cmp_ii, EV.cmp_ni, EV.cmp_ss, EV.cmp_ns, EV.cmp_bb, EV.cmp_nb, EV.cmp_lt, EV.cmp_le, EV.cmp_gt, EV.cmp_ge, EV.is_n, EV.is_b, EV.is_i, EV.is_s, EV.is_l, EV.is_t, EV.is_bb, EV.isn_n, EV.isn_b, EV.isn_i, EV.isn_s, EV.isn_l, EV.isn_t, EV.isn_bb, EV.tru_n, EV.tru_b, EV.tru_i, EV.tru_l, EV.tru_t, EV.biD, EV.idx_l, EV.idx_t, EV.cut_l, EV.cut_t, EV.seq_l, EV.seq_t, EV.zipD, EV.rngD, EV.enumD, EV.enzD, EV.tupW, EV.lstW, EV.rev_l, EV.rev_t, EV.thenS_nx, EV.thenS_rt, EV.thenS_ct, EV.thenS_exc, EV.hold_nil, EV.for_eq, EV.onS_some, EV.bindD_eq, EV.ite_okb, EV.lim, EV.zip_maps, EV.zip3_maps, EV.enum_maps, l_law_3b]
    obtain ⟨a, b, e1⟩ := bx_box 9 ns k
    (rw [hold_cons]; simp [EV.evSs, EV.evS, EV.evE, EV.evEs, EV.evAnd, EV.evOr, EV.evO, EV.evI, EV.evIfs, EV.R.bind, EV.R.fl, EV.R.of, EV.R.tst, EV.end_nx, EV.end_rd, EV.end_rn, EV.end_exc, EV.ret_d, EV.ret_nw, EV.ioNd, EV.iosOf, EV.den, EV.dens, EV.keep, EV.keeps, EV.args, EV.back, EV.outsOf, EV.stD, EV.bt_nm, EV.bt_tp, EV.bt_nil, EV.bt_cons, EV.wip, EV.ioOk, EV.parD, EV.putW, EV.augF, EV.binD, EV.same_cmp, EV.same_ne, EV.ints_shp, EV.ints_shpL, EV.cmp_ii, EV.cmp_ni, EV.cmp_ss, EV.cmp_ns, EV.cmp_bb, EV.cmp_nb, EV.cmp_lt, EV.cmp_le, EV.cmp_gt, EV.cmp_ge, EV.is_n, EV.is_b, EV.is_i, EV.is_s, EV.is_l, EV.is_t, EV.is_bb, EV.isn_n, EV.isn_b, EV.isn_i, EV.isn_s, EV.isn_l, EV.isn_t, EV.isn_bb, EV.tru_n, EV.tru_b, EV.tru_i, EV.tru_l, EV.tru_t, EV.biD, EV.idx_l, EV.idx_t, EV.cut_l, EV.cut_t, EV.seq_l, EV.seq_t, EV.zipD, EV.rngD, EV.enumD, EV.enzD, EV.tupW, EV.lstW, EV.rev_l, EV.rev_t, EV.thenS_nx, EV.thenS_rt, EV.thenS_ct, EV.thenS_exc, EV.hold_nil, EV.for_eq, EV.onS_some, EV.bindD_eq, EV.ite_okb, EV.lim, EV.zip_maps, EV.zip3_maps, EV.enum_maps, e1])
    (rw [hold_cons]; simp [EV.evSs, EV.evS, EV.evE, EV.evEs, EV.evAnd, EV.evOr, EV.evO, EV.evI, EV.evIfs, EV.R.bind, EV.R.fl, EV.R.of, EV.R.tst, EV.end_nx, EV.end_rd, EV.end_rn, EV.end_exc, EV.ret_d, EV.ret_nw, EV.ioNd, EV.iosOf, EV.den, EV.dens, EV.keep, EV.keeps, EV.args, EV.back, EV.outsOf, EV.stD, EV.bt_nm, EV.bt_tp, EV.bt_nil, EV.bt_cons, EV.wip, EV.ioOk, EV.parD, EV.putW, EV.augF, EV.binD, EV.same_cmp, EV.same_ne, EV.ints_shp, EV.ints_shpL, EV.cmp_ii, EV.cmp_ni, EV.cmp_ss, EV.cmp_ns, EV.cmp_bb, EV.cmp_nb, EV.cmp_lt, EV.cmp_le, EV.cmp_gt, EV.cmp_ge, EV.is_n, EV.is_b, EV.is_i, EV.is_s, EV.is_l, EV.is_t, EV.is_bb, EV.isn_n, EV.isn_b, EV.isn_i, EV.isn_s, EV.isn_l, EV.isn_t, EV.isn_bb, EV.tru_n, EV.tru_b, EV.tru_i, EV.tru_l, EV.tru_t, EV.biD, EV.idx_l, EV.idx_t, EV.cut_l, EV.cut_t, EV.seq_l, EV.seq_t, EV.zipD, EV.rngD, EV.enumD, EV.enzD, EV.tupW, EV.lstW, EV.rev_l, EV.rev_t, EV.thenS_nx, EV.thenS_rt, EV.thenS_ct, EV.thenS_exc, EV.hold_nil, EV.for_eq, EV.onS_some, EV.bindD_eq, EV.ite_okb, EV.lim, EV.zip_maps, EV.zip3_maps, EV.enum_maps, l_law_2, sm3])
    refine forL_rng (Z := Goes Z J) (fun s1 => ∃ p x3 x4 x5 x6 x7 x8 x9 x10 x11 x12 x13 x14 x15 x16, s1 = [some (.d (scriptD ns)), some (.d (.int (k : Int))), some (bE p), x3, x4, x5, x6, x7, x8, x9, x10, x11, x12, x13, x14, x15, x16, none]) ?_ ?_ _ ⟨(a, b), _, _, _, _, _, _, _, _, _, _, _, _, _, _, rfl⟩
    · rintro j s1 J2 Z2 hJ2 hZ2 hj ⟨p, x3, x4, x5, x6, x7, x8, x9, x10, x11, x12, x13, x14, x15, x16, rfl⟩
      obtain ⟨r, q1, hr, e2⟩ := bx_row 6 p
      obtain ⟨sl, q2, hsl, e3⟩ := bx_slips 7 q1
      obtain ⟨⟨xs, s0, is, q3⟩, hs0, hil, hib, hg, hxl, hx, e4⟩ : ∃ t : List Rdg × List Cell × List Int × Bx, StOk r t.2.1 ∧ (t.2.2.1.length : Int) ≤ 6 ∧ (∀ i ∈ t.2.2.1, -4 ≤ i ∧ i ≤ 4) ∧ GoodRun r t.2.1 t.2.2.1 ∧ t.1.length = t.2.2.1.length ∧ (∀ x ∈ t.1, RdOk r x) ∧ CC 10 i_law_seen [bE q2, .d (rowE r), .d (ce sl), .d (.int 6)] = .ok (.d (.tuple [rdsE t.1, stE t.2.1, plE t.2.2.1])) [some (bE t.2.2.2), none, none, none] :=
        bx_seenP 5 q2 r sl 6 hr hsl (by omega) (fun z => ∃ t : List Rdg × List Cell × List Int × Bx, StOk r t.2.1 ∧ (t.2.2.1.length : Int) ≤ 6 ∧ (∀ i ∈ t.2.2.1, -4 ≤ i ∧ i ≤ 4) ∧ GoodRun r t.2.1 t.2.2.1 ∧ t.1.length = t.2.2.1.length ∧ (∀ x ∈ t.1, RdOk r x) ∧ z = .ok (.d (.tuple [rdsE t.1, stE t.2.1, plE t.2.2.1])) [some (bE t.2.2.2), none, none, none]) fun xs s is q h1 h2 h3 h4 h5 h6 => ⟨(xs, s, is, q), h1, h2, h3, h4, h5, h6, rfl⟩
      simp only at hs0 hil hib hg hxl hx e4
      obtain ⟨s', q4, hs', e5⟩ := bx_stand 7 q3 r hr
      simp [EV.evSs, EV.evS, EV.evE, EV.evEs, EV.evAnd, EV.evOr, EV.evO, EV.evI, EV.evIfs, EV.R.bind, EV.R.fl, EV.R.of, EV.R.tst, EV.end_nx, EV.end_rd, EV.end_rn, EV.end_exc, EV.ret_d, EV.ret_nw, EV.ioNd, EV.iosOf, EV.den, EV.dens, EV.keep, EV.keeps, EV.args, EV.back, EV.outsOf, EV.stD, EV.bt_nm, EV.bt_tp, EV.bt_nil, EV.bt_cons, EV.wip, EV.ioOk, EV.parD, EV.putW, EV.augF, EV.binD, EV.same_cmp, EV.same_ne, EV.ints_shp, EV.ints_shpL, EV.cmp_ii, EV.cmp_ni, EV.cmp_ss, EV.cmp_ns, EV.cmp_bb, EV.cmp_nb, EV.cmp_lt, EV.cmp_le, EV.cmp_gt, EV.cmp_ge, EV.is_n, EV.is_b, EV.is_i, EV.is_s, EV.is_l, EV.is_t, EV.is_bb, EV.isn_n, EV.isn_b, EV.isn_i, EV.isn_s, EV.isn_l, EV.isn_t, EV.isn_bb, EV.tru_n, EV.tru_b, EV.tru_i, EV.tru_l, EV.tru_t, EV.biD, EV.idx_l, EV.idx_t, EV.cut_l, EV.cut_t, EV.seq_l, EV.seq_t, EV.zipD, EV.rngD, EV.enumD, EV.enzD, EV.tupW, EV.lstW, EV.rev_l, EV.rev_t, EV.thenS_nx, EV.thenS_rt, EV.thenS_ct, EV.thenS_exc, EV.hold_nil, EV.for_eq, EV.onS_some, EV.bindD_eq, EV.ite_okb, EV.lim, EV.zip_maps, EV.zip3_maps, EV.enum_maps, l_law_2b]
      (rw [hold_cons]; simp [EV.evSs, EV.evS, EV.evE, EV.evEs, EV.evAnd, EV.evOr, EV.evO, EV.evI, EV.evIfs, EV.R.bind, EV.R.fl, EV.R.of, EV.R.tst, EV.end_nx, EV.end_rd, EV.end_rn, EV.end_exc, EV.ret_d, EV.ret_nw, EV.ioNd, EV.iosOf, EV.den, EV.dens, EV.keep, EV.keeps, EV.args, EV.back, EV.outsOf, EV.stD, EV.bt_nm, EV.bt_tp, EV.bt_nil, EV.bt_cons, EV.wip, EV.ioOk, EV.parD, EV.putW, EV.augF, EV.binD, EV.same_cmp, EV.same_ne, EV.ints_shp, EV.ints_shpL, EV.cmp_ii, EV.cmp_ni, EV.cmp_ss, EV.cmp_ns, EV.cmp_bb, EV.cmp_nb, EV.cmp_lt, EV.cmp_le, EV.cmp_gt, EV.cmp_ge, EV.is_n, EV.is_b, EV.is_i, EV.is_s, EV.is_l, EV.is_t, EV.is_bb, EV.isn_n, EV.isn_b, EV.isn_i, EV.isn_s, EV.isn_l, EV.isn_t, EV.isn_bb, EV.tru_n, EV.tru_b, EV.tru_i, EV.tru_l, EV.tru_t, EV.biD, EV.idx_l, EV.idx_t, EV.cut_l, EV.cut_t, EV.seq_l, EV.seq_t, EV.zipD, EV.rngD, EV.enumD, EV.enzD, EV.tupW, EV.lstW, EV.rev_l, EV.rev_t, EV.thenS_nx, EV.thenS_rt, EV.thenS_ct, EV.thenS_exc, EV.hold_nil, EV.for_eq, EV.onS_some, EV.bindD_eq, EV.ite_okb, EV.lim, EV.zip_maps, EV.zip3_maps, EV.enum_maps, e2, e3])
      (rw [hold_cons]; simp [EV.evSs, EV.evS, EV.evE, EV.evEs, EV.evAnd, EV.evOr, EV.evO, EV.evI, EV.evIfs, EV.R.bind, EV.R.fl, EV.R.of, EV.R.tst, EV.end_nx, EV.end_rd, EV.end_rn, EV.end_exc, EV.ret_d, EV.ret_nw, EV.ioNd, EV.iosOf, EV.den, EV.dens, EV.keep, EV.keeps, EV.args, EV.back, EV.outsOf, EV.stD, EV.bt_nm, EV.bt_tp, EV.bt_nil, EV.bt_cons, EV.wip, EV.ioOk, EV.parD, EV.putW, EV.augF, EV.binD, EV.same_cmp, EV.same_ne, EV.ints_shp, EV.ints_shpL, EV.cmp_ii, EV.cmp_ni, EV.cmp_ss, EV.cmp_ns, EV.cmp_bb, EV.cmp_nb, EV.cmp_lt, EV.cmp_le, EV.cmp_gt, EV.cmp_ge, EV.is_n, EV.is_b, EV.is_i, EV.is_s, EV.is_l, EV.is_t, EV.is_bb, EV.isn_n, EV.isn_b, EV.isn_i, EV.isn_s, EV.isn_l, EV.isn_t, EV.isn_bb, EV.tru_n, EV.tru_b, EV.tru_i, EV.tru_l, EV.tru_t, EV.biD, EV.idx_l, EV.idx_t, EV.cut_l, EV.cut_t, EV.seq_l, EV.seq_t, EV.zipD, EV.rngD, EV.enumD, EV.enzD, EV.tupW, EV.lstW, EV.rev_l, EV.rev_t, EV.thenS_nx, EV.thenS_rt, EV.thenS_ct, EV.thenS_exc, EV.hold_nil, EV.for_eq, EV.onS_some, EV.bindD_eq, EV.ite_okb, EV.lim, EV.zip_maps, EV.zip3_maps, EV.enum_maps, e4])
      (rw [hold_cons]; simp [EV.evSs, EV.evS, EV.evE, EV.evEs, EV.evAnd, EV.evOr, EV.evO, EV.evI, EV.evIfs, EV.R.bind, EV.R.fl, EV.R.of, EV.R.tst, EV.end_nx, EV.end_rd, EV.end_rn, EV.end_exc, EV.ret_d, EV.ret_nw, EV.ioNd, EV.iosOf, EV.den, EV.dens, EV.keep, EV.keeps, EV.args, EV.back, EV.outsOf, EV.stD, EV.bt_nm, EV.bt_tp, EV.bt_nil, EV.bt_cons, EV.wip, EV.ioOk, EV.parD, EV.putW, EV.augF, EV.binD, EV.same_cmp, EV.same_ne, EV.ints_shp, EV.ints_shpL, EV.cmp_ii, EV.cmp_ni, EV.cmp_ss, EV.cmp_ns, EV.cmp_bb, EV.cmp_nb, EV.cmp_lt, EV.cmp_le, EV.cmp_gt, EV.cmp_ge, EV.is_n, EV.is_b, EV.is_i, EV.is_s, EV.is_l, EV.is_t, EV.is_bb, EV.isn_n, EV.isn_b, EV.isn_i, EV.isn_s, EV.isn_l, EV.isn_t, EV.isn_bb, EV.tru_n, EV.tru_b, EV.tru_i, EV.tru_l, EV.tru_t, EV.biD, EV.idx_l, EV.idx_t, EV.cut_l, EV.cut_t, EV.seq_l, EV.seq_t, EV.zipD, EV.rngD, EV.enumD, EV.enzD, EV.tupW, EV.lstW, EV.rev_l, EV.rev_t, EV.thenS_nx, EV.thenS_rt, EV.thenS_ct, EV.thenS_exc, EV.hold_nil, EV.for_eq, EV.onS_some, EV.bindD_eq, EV.ite_okb, EV.lim, EV.zip_maps, EV.zip3_maps, EV.enum_maps, e5])
      (rw [hold_cons]; simp [EV.evSs, EV.evS, EV.evE, EV.evEs, EV.evAnd, EV.evOr, EV.evO, EV.evI, EV.evIfs, EV.R.bind, EV.R.fl, EV.R.of, EV.R.tst, EV.end_nx, EV.end_rd, EV.end_rn, EV.end_exc, EV.ret_d, EV.ret_nw, EV.ioNd, EV.iosOf, EV.den, EV.dens, EV.keep, EV.keeps, EV.args, EV.back, EV.outsOf, EV.stD, EV.bt_nm, EV.bt_tp, EV.bt_nil, EV.bt_cons, EV.wip, EV.ioOk, EV.parD, EV.putW, EV.augF, EV.binD, EV.same_cmp, EV.same_ne, EV.ints_shp, EV.ints_shpL, EV.cmp_ii, EV.cmp_ni, EV.cmp_ss, EV.cmp_ns, EV.cmp_bb, EV.cmp_nb, EV.cmp_lt, EV.cmp_le, EV.cmp_gt, EV.cmp_ge, EV.is_n, EV.is_b, EV.is_i, EV.is_s, EV.is_l, EV.is_t, EV.is_bb, EV.isn_n, EV.isn_b, EV.isn_i, EV.isn_s, EV.isn_l, EV.isn_t, EV.isn_bb, EV.tru_n, EV.tru_b, EV.tru_i, EV.tru_l, EV.tru_t, EV.biD, EV.idx_l, EV.idx_t, EV.cut_l, EV.cut_t, EV.seq_l, EV.seq_t, EV.zipD, EV.rngD, EV.enumD, EV.enzD, EV.tupW, EV.lstW, EV.rev_l, EV.rev_t, EV.thenS_nx, EV.thenS_rt, EV.thenS_ct, EV.thenS_exc, EV.hold_nil, EV.for_eq, EV.onS_some, EV.bindD_eq, EV.ite_okb, EV.lim, EV.zip_maps, EV.zip3_maps, EV.enum_maps, l_law_0, sm6])
      let T (ys : List (List Cell × List Int)) (q : Bx) (x10 x11 x12 x13 x14 x15 x16 : Option SV) : Sl := [some (.d (scriptD ns)), some (.d (.int (k : Int))), some (bE q), some (.d (.int (j : Int))), some (.d (rowE r)), some (.d (ce sl)), some (.d (rdsE xs)), some (.d (stE s0)), some (.d (plE is)), some (.own (ys.map tE)), x10, x11, x12, x13, x14, x15, x16, none]
      have rl : (rngL 0 6).length = 6 := rngL_len
      refine forL_lst (Z := Goes Z2 J2) (fun rest s1 => ∃ ys q x10 x11 x12 x13 x14 x15 x16, (∀ y ∈ ys, Told r is.length y) ∧ ys.length + rest.length ≤ 8 ∧ s1 = T ys q x10 x11 x12 x13 x14 x15 x16) ?_ ?_ _ _ ⟨[(s0, is), (s', is)], q4, _, _, _, _, _, _, _, ?_, ?_, rfl⟩
      · rintro y rest s1 J3 Z3 hJ3 hZ3 ⟨ys, q, x10, x11, x12, x13, x14, x15, x16, hys, hyl, rfl⟩
        simp only [List.length_cons] at hyl
        have key : ∀ (bs : List Int) (q : Bx), bs.length = is.length → (∀ i ∈ bs, -4 ≤ i ∧ i ≤ 14) → Goes Z3 J3 (hold gm.G (CC 10) (.cons (.set 11 (.idx (.lst (.cons (.v 7) (.cons (.v 7) (.cons (.call i_law_stand (.cons (.io 2) (.cons (.v 4) .nil))) .nil)))) (.call i_law_take (.cons (.io 2) (.cons (.c (.int 3)) .nil))))) (.cons (.app 9 (.tup (.cons (.v 11) (.cons (.bi .tuple (.cons (q_law_0) .nil)) .nil)))) .nil)) (T ys q (some (.d y)) x11 x12 (some (.own (bs.map .int))) x14 x15 x16)) := by
          intro bs q hbl hbb
          obtain ⟨s2, q5, hs2, e6⟩ := bx_stand 7 q r hr
          obtain ⟨c, q6, hc, e7⟩ := bx_take 8 q5 3 (by omega) (by omega)
          obtain ⟨st, hst, av⟩ : ∃ st, StOk r st ∧ atD [stE s0, stE s0, stE s2] c = some (stE st) := by
            have : c = 0 ∨ c = 1 ∨ c = 2 := by omega
            rcases this with rfl | rfl | rfl
            · exact ⟨s0, hs0, rfl⟩
            · exact ⟨s0, hs0, rfl⟩
            · exact ⟨s2, hs2, rfl⟩
          have hq : evE gm.G (CC 10) q_law_0 (T ys q6 (some (.d y)) (some (.d (stE st))) x12 (some (.own (bs.map .int))) x14 x15 x16) = .ok (.nw (bs.map fun i => .int (min 9 i))) (T ys q6 (some (.d y)) (some (.d (stE st))) x12 (some (.d (.list (bs.map .int)))) x14 x15 x16) :=
            by
              have := comp_go (G := gm.G) (C := CC 10) (elt := .bi .min2 (.cons (.c (.int 9)) (.cons (.v 17) .nil))) (tg := .nm 17) (it := .seq (.fz 13)) (own := [17]) (ifs := .nil) (s := T ys q6 (some (.d y)) (some (.d (stE st))) x12 (some (.own (bs.map .int))) x14 x15 x16) (s1 := T ys q6 (some (.d y)) (some (.d (stE st))) x12 (some (.d (.list (bs.map .int)))) x14 x15 x16)
                bs PyData.int (fun i => .int (min 9 i)) (by simp [EV.evSs, EV.evS, EV.evE, EV.evEs, EV.evAnd, EV.evOr, EV.evO, EV.evI, EV.evIfs, EV.R.bind, EV.R.fl, EV.R.of, EV.R.tst, EV.end_nx, EV.end_rd, EV.end_rn, EV.end_exc, EV.ret_d, EV.ret_nw, EV.ioNd, EV.iosOf, EV.den, EV.dens, EV.keep, EV.keeps, EV.args, EV.back, EV.outsOf, EV.stD, EV.bt_nm, EV.bt_tp, EV.bt_nil, EV.bt_cons, EV.wip, EV.ioOk, EV.parD, EV.putW, EV.augF, EV.binD, EV.same_cmp, EV.same_ne, EV.ints_shp, EV.ints_shpL, EV.cmp_ii, EV.cmp_ni, EV.cmp_ss, EV.cmp_ns, EV.cmp_bb, EV.cmp_nb, EV.cmp_lt, EV.cmp_le, EV.cmp_gt, EV.cmp_ge, EV.is_n, EV.is_b, EV.is_i, EV.is_s, EV.is_l, EV.is_t, EV.is_bb, EV.isn_n, EV.isn_b, EV.isn_i, EV.isn_s, EV.isn_l, EV.isn_t, EV.isn_bb, EV.tru_n, EV.tru_b, EV.tru_i, EV.tru_l, EV.tru_t, EV.biD, EV.idx_l, EV.idx_t, EV.cut_l, EV.cut_t, EV.seq_l, EV.seq_t, EV.zipD, EV.rngD, EV.enumD, EV.enzD, EV.tupW, EV.lstW, EV.rev_l, EV.rev_t, EV.thenS_nx, EV.thenS_rt, EV.thenS_ct, EV.thenS_exc, EV.hold_nil, EV.for_eq, EV.onS_some, EV.bindD_eq, EV.ite_okb, EV.lim, EV.zip_maps, EV.zip3_maps, EV.enum_maps, T]) (by omega) fun i hi => by simp [EV.evSs, EV.evS, EV.evE, EV.evEs, EV.evAnd, EV.evOr, EV.evO, EV.evI, EV.evIfs, EV.R.bind, EV.R.fl, EV.R.of, EV.R.tst, EV.end_nx, EV.end_rd, EV.end_rn, EV.end_exc, EV.ret_d, EV.ret_nw, EV.ioNd, EV.iosOf, EV.den, EV.dens, EV.keep, EV.keeps, EV.args, EV.back, EV.outsOf, EV.stD, EV.bt_nm, EV.bt_tp, EV.bt_nil, EV.bt_cons, EV.wip, EV.ioOk, EV.parD, EV.putW, EV.augF, EV.binD, EV.same_cmp, EV.same_ne, EV.ints_shp, EV.ints_shpL, EV.cmp_ii, EV.cmp_ni, EV.cmp_ss, EV.cmp_ns, EV.cmp_bb, EV.cmp_nb, EV.cmp_lt, EV.cmp_le, EV.cmp_gt, EV.cmp_ge, EV.is_n, EV.is_b, EV.is_i, EV.is_s, EV.is_l, EV.is_t, EV.is_bb, EV.isn_n, EV.isn_b, EV.isn_i, EV.isn_s, EV.isn_l, EV.isn_t, EV.isn_bb, EV.tru_n, EV.tru_b, EV.tru_i, EV.tru_l, EV.tru_t, EV.biD, EV.idx_l, EV.idx_t, EV.cut_l, EV.cut_t, EV.seq_l, EV.seq_t, EV.zipD, EV.rngD, EV.enumD, EV.enzD, EV.tupW, EV.lstW, EV.rev_l, EV.rev_t, EV.thenS_nx, EV.thenS_rt, EV.thenS_ct, EV.thenS_exc, EV.hold_nil, EV.for_eq, EV.onS_some, EV.bindD_eq, EV.ite_okb, EV.lim, EV.zip_maps, EV.zip3_maps, EV.enum_maps, turnC, T]
              exact this
          simp only [T] at hq
          have hz : ys.length < 16777216 := by omega
          simp only [T]
          (rw [hold_cons]; simp [EV.evSs, EV.evS, EV.evE, EV.evEs, EV.evAnd, EV.evOr, EV.evO, EV.evI, EV.evIfs, EV.R.bind, EV.R.fl, EV.R.of, EV.R.tst, EV.end_nx, EV.end_rd, EV.end_rn, EV.end_exc, EV.ret_d, EV.ret_nw, EV.ioNd, EV.iosOf, EV.den, EV.dens, EV.keep, EV.keeps, EV.args, EV.back, EV.outsOf, EV.stD, EV.bt_nm, EV.bt_tp, EV.bt_nil, EV.bt_cons, EV.wip, EV.ioOk, EV.parD, EV.putW, EV.augF, EV.binD, EV.same_cmp, EV.same_ne, EV.ints_shp, EV.ints_shpL, EV.cmp_ii, EV.cmp_ni, EV.cmp_ss, EV.cmp_ns, EV.cmp_bb, EV.cmp_nb, EV.cmp_lt, EV.cmp_le, EV.cmp_gt, EV.cmp_ge, EV.is_n, EV.is_b, EV.is_i, EV.is_s, EV.is_l, EV.is_t, EV.is_bb, EV.isn_n, EV.isn_b, EV.isn_i, EV.isn_s, EV.isn_l, EV.isn_t, EV.isn_bb, EV.tru_n, EV.tru_b, EV.tru_i, EV.tru_l, EV.tru_t, EV.biD, EV.idx_l, EV.idx_t, EV.cut_l, EV.cut_t, EV.seq_l, EV.seq_t, EV.zipD, EV.rngD, EV.enumD, EV.enzD, EV.tupW, EV.lstW, EV.rev_l, EV.rev_t, EV.thenS_nx, EV.thenS_rt, EV.thenS_ct, EV.thenS_exc, EV.hold_nil, EV.for_eq, EV.onS_some, EV.bindD_eq, EV.ite_okb, EV.lim, EV.zip_maps, EV.zip3_maps, EV.enum_maps, e6, e7, av])
          (rw [hold_cons]; simp [EV.evSs, EV.evS, EV.evE, EV.evEs, EV.evAnd, EV.evOr, EV.evO, EV.evI, EV.evIfs, EV.R.bind, EV.R.fl, EV.R.of, EV.R.tst, EV.end_nx, EV.end_rd, EV.end_rn, EV.end_exc, EV.ret_d, EV.ret_nw, EV.ioNd, EV.iosOf, EV.den, EV.dens, EV.keep, EV.keeps, EV.args, EV.back, EV.outsOf, EV.stD, EV.bt_nm, EV.bt_tp, EV.bt_nil, EV.bt_cons, EV.wip, EV.ioOk, EV.parD, EV.putW, EV.augF, EV.binD, EV.same_cmp, EV.same_ne, EV.ints_shp, EV.ints_shpL, EV.cmp_ii, EV.cmp_ni, EV.cmp_ss, EV.cmp_ns, EV.cmp_bb, EV.cmp_nb, EV.cmp_lt, EV.cmp_le, EV.cmp_gt, EV.cmp_ge, EV.is_n, EV.is_b, EV.is_i, EV.is_s, EV.is_l, EV.is_t, EV.is_bb, EV.isn_n, EV.isn_b, EV.isn_i, EV.isn_s, EV.isn_l, EV.isn_t, EV.isn_bb, EV.tru_n, EV.tru_b, EV.tru_i, EV.tru_l, EV.tru_t, EV.biD, EV.idx_l, EV.idx_t, EV.cut_l, EV.cut_t, EV.seq_l, EV.seq_t, EV.zipD, EV.rngD, EV.enumD, EV.enzD, EV.tupW, EV.lstW, EV.rev_l, EV.rev_t, EV.thenS_nx, EV.thenS_rt, EV.thenS_ct, EV.thenS_exc, EV.hold_nil, EV.for_eq, EV.onS_some, EV.bindD_eq, EV.ite_okb, EV.lim, EV.zip_maps, EV.zip3_maps, EV.enum_maps, hq, hz])
          refine hJ3 _ ⟨ys ++ [(st, bs.map fun i => min 9 i)], q6, some (.d y), some (.d (stE st)), x12, some (.d (.list (bs.map .int))), x14, x15, x16, fun z hz => ?_, by simp; omega, by simp [T, Function.comp_def]⟩
          rcases List.mem_append.mp hz with hz | hz
          · exact hys z hz
          · simp only [List.mem_cons, List.not_mem_nil, or_false] at hz
            rw [hz]
            refine ⟨hst, by simp [hbl], fun i hi => ?_⟩
            obtain ⟨i', hi', rfl⟩ := List.mem_map.mp hi
            have := hbb i' hi'
            omega
        simp only [T] at key ⊢
        simp [EV.evSs, EV.evS, EV.evE, EV.evEs, EV.evAnd, EV.evOr, EV.evO, EV.evI, EV.evIfs, EV.R.bind, EV.R.fl, EV.R.of, EV.R.tst, EV.end_nx, EV.end_rd, EV.end_rn, EV.end_exc, EV.ret_d, EV.ret_nw, EV.ioNd, EV.iosOf, EV.den, EV.dens, EV.keep, EV.keeps, EV.args, EV.back, EV.outsOf, EV.stD, EV.bt_nm, EV.bt_tp, EV.bt_nil, EV.bt_cons, EV.wip, EV.ioOk, EV.parD, EV.putW, EV.augF, EV.binD, EV.same_cmp, EV.same_ne, EV.ints_shp, EV.ints_shpL, EV.cmp_ii, EV.cmp_ni, EV.cmp_ss, EV.cmp_ns, EV.cmp_bb, EV.cmp_nb, EV.cmp_lt, EV.cmp_le, EV.cmp_gt, EV.cmp_ge, EV.is_n, EV.is_b, EV.is_i, EV.is_s, EV.is_l, EV.is_t, EV.is_bb, EV.isn_n, EV.isn_b, EV.isn_i, EV.isn_s, EV.isn_l, EV.isn_t, EV.isn_bb, EV.tru_n, EV.tru_b, EV.tru_i, EV.tru_l, EV.tru_t, EV.biD, EV.idx_l, EV.idx_t, EV.cut_l, EV.cut_t, EV.seq_l, EV.seq_t, EV.zipD, EV.rngD, EV.enumD, EV.enzD, EV.tupW, EV.lstW, EV.rev_l, EV.rev_t, EV.thenS_nx, EV.thenS_rt, EV.thenS_ct, EV.thenS_exc, EV.hold_nil, EV.for_eq, EV.onS_some, EV.bindD_eq, EV.ite_okb, EV.lim, EV.zip_maps, EV.zip3_maps, EV.enum_maps, l_law_0b]
        cases hi0 : is with
        | nil =>
          have c0 : cmpD .ne (.list []) (.list []) = some false := by decide
          subst hi0
          (rw [hold_cons]; simp [EV.evSs, EV.evS, EV.evE, EV.evEs, EV.evAnd, EV.evOr, EV.evO, EV.evI, EV.evIfs, EV.R.bind, EV.R.fl, EV.R.of, EV.R.tst, EV.end_nx, EV.end_rd, EV.end_rn, EV.end_exc, EV.ret_d, EV.ret_nw, EV.ioNd, EV.iosOf, EV.den, EV.dens, EV.keep, EV.keeps, EV.args, EV.back, EV.outsOf, EV.stD, EV.bt_nm, EV.bt_tp, EV.bt_nil, EV.bt_cons, EV.wip, EV.ioOk, EV.parD, EV.putW, EV.augF, EV.binD, EV.same_cmp, EV.same_ne, EV.ints_shp, EV.ints_shpL, EV.cmp_ii, EV.cmp_ni, EV.cmp_ss, EV.cmp_ns, EV.cmp_bb, EV.cmp_nb, EV.cmp_lt, EV.cmp_le, EV.cmp_gt, EV.cmp_ge, EV.is_n, EV.is_b, EV.is_i, EV.is_s, EV.is_l, EV.is_t, EV.is_bb, EV.isn_n, EV.isn_b, EV.isn_i, EV.isn_s, EV.isn_l, EV.isn_t, EV.isn_bb, EV.tru_n, EV.tru_b, EV.tru_i, EV.tru_l, EV.tru_t, EV.biD, EV.idx_l, EV.idx_t, EV.cut_l, EV.cut_t, EV.seq_l, EV.seq_t, EV.zipD, EV.rngD, EV.enumD, EV.enzD, EV.tupW, EV.lstW, EV.rev_l, EV.rev_t, EV.thenS_nx, EV.thenS_rt, EV.thenS_ct, EV.thenS_exc, EV.hold_nil, EV.for_eq, EV.onS_some, EV.bindD_eq, EV.ite_okb, EV.lim, EV.zip_maps, EV.zip3_maps, EV.enum_maps, c0])
          (rw [hold_cons]; simp [EV.evSs, EV.evS, EV.evE, EV.evEs, EV.evAnd, EV.evOr, EV.evO, EV.evI, EV.evIfs, EV.R.bind, EV.R.fl, EV.R.of, EV.R.tst, EV.end_nx, EV.end_rd, EV.end_rn, EV.end_exc, EV.ret_d, EV.ret_nw, EV.ioNd, EV.iosOf, EV.den, EV.dens, EV.keep, EV.keeps, EV.args, EV.back, EV.outsOf, EV.stD, EV.bt_nm, EV.bt_tp, EV.bt_nil, EV.bt_cons, EV.wip, EV.ioOk, EV.parD, EV.putW, EV.augF, EV.binD, EV.same_cmp, EV.same_ne, EV.ints_shp, EV.ints_shpL, EV.cmp_ii, EV.cmp_ni, EV.cmp_ss, EV.cmp_ns, EV.cmp_bb, EV.cmp_nb, EV.cmp_lt, EV.cmp_le, EV.cmp_gt, EV.cmp_ge, EV.is_n, EV.is_b, EV.is_i, EV.is_s, EV.is_l, EV.is_t, EV.is_bb, EV.isn_n, EV.isn_b, EV.isn_i, EV.isn_s, EV.isn_l, EV.isn_t, EV.isn_bb, EV.tru_n, EV.tru_b, EV.tru_i, EV.tru_l, EV.tru_t, EV.biD, EV.idx_l, EV.idx_t, EV.cut_l, EV.cut_t, EV.seq_l, EV.seq_t, EV.zipD, EV.rngD, EV.enumD, EV.enzD, EV.tupW, EV.lstW, EV.rev_l, EV.rev_t, EV.thenS_nx, EV.thenS_rt, EV.thenS_ct, EV.thenS_exc, EV.hold_nil, EV.for_eq, EV.onS_some, EV.bindD_eq, EV.ite_okb, EV.lim, EV.zip_maps, EV.zip3_maps, EV.enum_maps, c0])
          exact key [] q rfl (by simp)
        | cons i0 is' =>
          have c1 : cmpD .ne (.list (.int i0 :: is'.map .int)) (.list []) = some true := by
            have h1 : shp 60 (.list (.int i0 :: is'.map .int)) = true := ints_shpL 59 (i0 :: is')
            have h2 : shp 60 (.list []) = true := by decide
            simp only [cmpD, h1, h2, Bool.and_self, if_true]
            rfl
          obtain ⟨c, q5, hc, e6⟩ := bx_take 8 q 2 (by omega) (by omega)
          obtain ⟨w, hw, av⟩ : ∃ w : Int, (w = 9 ∨ w = 19) ∧ atD [PyData.int 9, .int 19] c = some (.int w) := by
            have : c = 0 ∨ c = 1 := by omega
            rcases this with rfl | rfl
            · exact ⟨9, .inl rfl, rfl⟩
            · exact ⟨19, .inr rfl, rfl⟩
          obtain ⟨v, q6, hv, e7⟩ := bx_take 8 q5 w (by omega) (by omega)
          obtain ⟨m, q7, hm, e8⟩ := bx_take 8 q6 ((is'.length : Int) + 1) (by omega) (by rw [hi0] at hil; simp at hil; omega)
          have ix : ixD (is'.length + 1) m = some m.toNat := by
            unfold ixD
            rw [if_pos (by omega), if_pos (by omega)]
          subst hi0
          (rw [hold_cons]; simp [EV.evSs, EV.evS, EV.evE, EV.evEs, EV.evAnd, EV.evOr, EV.evO, EV.evI, EV.evIfs, EV.R.bind, EV.R.fl, EV.R.of, EV.R.tst, EV.end_nx, EV.end_rd, EV.end_rn, EV.end_exc, EV.ret_d, EV.ret_nw, EV.ioNd, EV.iosOf, EV.den, EV.dens, EV.keep, EV.keeps, EV.args, EV.back, EV.outsOf, EV.stD, EV.bt_nm, EV.bt_tp, EV.bt_nil, EV.bt_cons, EV.wip, EV.ioOk, EV.parD, EV.putW, EV.augF, EV.binD, EV.same_cmp, EV.same_ne, EV.ints_shp, EV.ints_shpL, EV.cmp_ii, EV.cmp_ni, EV.cmp_ss, EV.cmp_ns, EV.cmp_bb, EV.cmp_nb, EV.cmp_lt, EV.cmp_le, EV.cmp_gt, EV.cmp_ge, EV.is_n, EV.is_b, EV.is_i, EV.is_s, EV.is_l, EV.is_t, EV.is_bb, EV.isn_n, EV.isn_b, EV.isn_i, EV.isn_s, EV.isn_l, EV.isn_t, EV.isn_bb, EV.tru_n, EV.tru_b, EV.tru_i, EV.tru_l, EV.tru_t, EV.biD, EV.idx_l, EV.idx_t, EV.cut_l, EV.cut_t, EV.seq_l, EV.seq_t, EV.zipD, EV.rngD, EV.enumD, EV.enzD, EV.tupW, EV.lstW, EV.rev_l, EV.rev_t, EV.thenS_nx, EV.thenS_rt, EV.thenS_ct, EV.thenS_exc, EV.hold_nil, EV.for_eq, EV.onS_some, EV.bindD_eq, EV.ite_okb, EV.lim, EV.zip_maps, EV.zip3_maps, EV.enum_maps, c1])
          (rw [hold_cons]; simp [EV.evSs, EV.evS, EV.evE, EV.evEs, EV.evAnd, EV.evOr, EV.evO, EV.evI, EV.evIfs, EV.R.bind, EV.R.fl, EV.R.of, EV.R.tst, EV.end_nx, EV.end_rd, EV.end_rn, EV.end_exc, EV.ret_d, EV.ret_nw, EV.ioNd, EV.iosOf, EV.den, EV.dens, EV.keep, EV.keeps, EV.args, EV.back, EV.outsOf, EV.stD, EV.bt_nm, EV.bt_tp, EV.bt_nil, EV.bt_cons, EV.wip, EV.ioOk, EV.parD, EV.putW, EV.augF, EV.binD, EV.same_cmp, EV.same_ne, EV.ints_shp, EV.ints_shpL, EV.cmp_ii, EV.cmp_ni, EV.cmp_ss, EV.cmp_ns, EV.cmp_bb, EV.cmp_nb, EV.cmp_lt, EV.cmp_le, EV.cmp_gt, EV.cmp_ge, EV.is_n, EV.is_b, EV.is_i, EV.is_s, EV.is_l, EV.is_t, EV.is_bb, EV.isn_n, EV.isn_b, EV.isn_i, EV.isn_s, EV.isn_l, EV.isn_t, EV.isn_bb, EV.tru_n, EV.tru_b, EV.tru_i, EV.tru_l, EV.tru_t, EV.biD, EV.idx_l, EV.idx_t, EV.cut_l, EV.cut_t, EV.seq_l, EV.seq_t, EV.zipD, EV.rngD, EV.enumD, EV.enzD, EV.tupW, EV.lstW, EV.rev_l, EV.rev_t, EV.thenS_nx, EV.thenS_rt, EV.thenS_ct, EV.thenS_exc, EV.hold_nil, EV.for_eq, EV.onS_some, EV.bindD_eq, EV.ite_okb, EV.lim, EV.zip_maps, EV.zip3_maps, EV.enum_maps, c1, e6, av, e7, e8, ix])
          have kk := key ((i0 :: is').set m.toNat (v - 4)) q7 (by simp) fun i hi => by
            rcases List.mem_or_eq_of_mem_set hi with hi | rfl
            · have := hib i hi
              omega
            · rcases hw with rfl | rfl <;> omega
          rw [List.map_set] at kk
          exact kk
      · rintro s1 ⟨ys, q, x10, x11, x12, x13, x14, x15, x16, hys, hyl, rfl⟩
        simp only [T]
        (rw [hold_cons]; simp [EV.evSs, EV.evS, EV.evE, EV.evEs, EV.evAnd, EV.evOr, EV.evO, EV.evI, EV.evIfs, EV.R.bind, EV.R.fl, EV.R.of, EV.R.tst, EV.end_nx, EV.end_rd, EV.end_rn, EV.end_exc, EV.ret_d, EV.ret_nw, EV.ioNd, EV.iosOf, EV.den, EV.dens, EV.keep, EV.keeps, EV.args, EV.back, EV.outsOf, EV.stD, EV.bt_nm, EV.bt_tp, EV.bt_nil, EV.bt_cons, EV.wip, EV.ioOk, EV.parD, EV.putW, EV.augF, EV.binD, EV.same_cmp, EV.same_ne, EV.ints_shp, EV.ints_shpL, EV.cmp_ii, EV.cmp_ni, EV.cmp_ss, EV.cmp_ns, EV.cmp_bb, EV.cmp_nb, EV.cmp_lt, EV.cmp_le, EV.cmp_gt, EV.cmp_ge, EV.is_n, EV.is_b, EV.is_i, EV.is_s, EV.is_l, EV.is_t, EV.is_bb, EV.isn_n, EV.isn_b, EV.isn_i, EV.isn_s, EV.isn_l, EV.isn_t, EV.isn_bb, EV.tru_n, EV.tru_b, EV.tru_i, EV.tru_l, EV.tru_t, EV.biD, EV.idx_l, EV.idx_t, EV.cut_l, EV.cut_t, EV.seq_l, EV.seq_t, EV.zipD, EV.rngD, EV.enumD, EV.enzD, EV.tupW, EV.lstW, EV.rev_l, EV.rev_t, EV.thenS_nx, EV.thenS_rt, EV.thenS_ct, EV.thenS_exc, EV.hold_nil, EV.for_eq, EV.onS_some, EV.bindD_eq, EV.ite_okb, EV.lim, EV.zip_maps, EV.zip3_maps, EV.enum_maps, l_law_1])
        refine forL_ind tE (Z := Goes Z2 J2) (fun rest s1 => (∀ y ∈ rest, Told r is.length y) ∧ ∃ x10 x11 x12 x13 x14 x15 x16, s1 = [some (.d (scriptD ns)), some (.d (.int (k : Int))), some (bE q), some (.d (.int (j : Int))), some (.d (rowE r)), some (.d (ce sl)), some (.d (rdsE xs)), some (.d (stE s0)), some (.d (plE is)), some (.d (.list (ys.map tE))), x10, x11, x12, x13, x14, x15, x16, none]) ?_ ?_ _ _ ⟨hys, _, _, _, _, _, _, _, rfl⟩
        · rintro y rest s1 J4 Z4 hJ4 hZ4 ⟨hy, x10, x11, x12, x13, x14, x15, x16, rfl⟩
          have told := hy y List.mem_cons_self
          have po : PlanOk y.2 := ⟨by rw [told.ln]; omega, fun i hi => by have := told.bd i hi; omega⟩
          have sd1 := rp_sh (rp_all hr (by omega) hx told.st po) (by omega) (by omega)
          have k1 : CC 10 i_law_due [.d (rowE r), .d (ce sl), .d (rdsE xs), .d (stE y.1), .d (plE y.2)] = .ok (.d (dE (dueP r sl y.1 0 (xs.zip y.2)))) [none, none, none, none, none] := bx_due 6 r sl xs y.1 y.2 hr told.st hx po.ok
          have k2 : CC 10 i_first_unfit [.d (rowE r), .d (ce sl), .d (rdsE xs), .d (stE y.1), .d (plE y.2)] = .ok (.d (dE (dueP r sl y.1 0 (xs.zip y.2)))) [none, none, none, none, none] := x_first_unfit 2 r sl xs y.1 y.2 hr hsl told.st (by omega) hx po (by rw [told.ln, hxl])
          obtain ⟨rp, no⟩ := rp_due (r := r) (p := sl) (ps := xs.zip y.2) (s := y.1) hr.l2 (by rw [List.length_zip]; omega)
          have sd2 := rp_sh rp (by omega) (by omega)
          have sh := shp_shown no
          generalize dE (dueP r sl y.1 0 (xs.zip y.2)) = d at k1 k2 sd2 sh
          generalize PyData.shown d = t at sd2 sh
          have cn : cmpD .ne (.list [.str t, .str t]) (.list [.str t, .str t]) = some false := same_ne (by simp only [shp, List.all_cons, List.all_nil, Bool.and_true, Bool.and_self]; exact sh 59)
          have hq1 : evE gm.G (CC 10) q_law_1 [some (.d (scriptD ns)), some (.d (.int (k : Int))), some (bE q), some (.d (.int (j : Int))), some (.d (rowE r)), some (.d (ce sl)), some (.d (rdsE xs)), some (.d (stE s0)), some (.d (plE is)), some (.d (.list (ys.map tE))), x10, some (.d (stE y.1)), some (.d (plE y.2)), x13, some (.d (.str (PyData.shown (.tuple [rowE r, rdsE xs, stE y.1, plE y.2])))), some (.d (.str t)), x16, none] =
              .ok (.nw [d, d]) [some (.d (scriptD ns)), some (.d (.int (k : Int))), some (bE q), some (.d (.int (j : Int))), some (.d (rowE r)), some (.d (ce sl)), some (.d (rdsE xs)), some (.d (stE s0)), some (.d (plE is)), some (.d (.list (ys.map tE))), none, some (.d (stE y.1)), some (.d (plE y.2)), x13, some (.d (.str (PyData.shown (.tuple [rowE r, rdsE xs, stE y.1, plE y.2])))), some (.d (.str t)), x16, none] := by
            have := comp_go (G := gm.G) (C := CC 10) (elt := .call i_first_unfit (.cons (.v 4) (.cons (.v 5) (.cons (.v 6) (.cons (.v 11) (.cons (.v 12) .nil)))))) (tg := .nm 10) (it := .rng (.cons (.c (.int 2)) .nil)) (own := [10]) (ifs := .nil)
              (s := [some (.d (scriptD ns)), some (.d (.int (k : Int))), some (bE q), some (.d (.int (j : Int))), some (.d (rowE r)), some (.d (ce sl)), some (.d (rdsE xs)), some (.d (stE s0)), some (.d (plE is)), some (.d (.list (ys.map tE))), x10, some (.d (stE y.1)), some (.d (plE y.2)), x13, some (.d (.str (PyData.shown (.tuple [rowE r, rdsE xs, stE y.1, plE y.2])))), some (.d (.str t)), x16, none])
              (s1 := [some (.d (scriptD ns)), some (.d (.int (k : Int))), some (bE q), some (.d (.int (j : Int))), some (.d (rowE r)), some (.d (ce sl)), some (.d (rdsE xs)), some (.d (stE s0)), some (.d (plE is)), some (.d (.list (ys.map tE))), x10, some (.d (stE y.1)), some (.d (plE y.2)), x13, some (.d (.str (PyData.shown (.tuple [rowE r, rdsE xs, stE y.1, plE y.2])))), some (.d (.str t)), x16, none])
              (List.range 2) (fun j : Nat => .int (j : Int)) (fun _ => d) (by simp [EV.evSs, EV.evS, EV.evE, EV.evEs, EV.evAnd, EV.evOr, EV.evO, EV.evI, EV.evIfs, EV.R.bind, EV.R.fl, EV.R.of, EV.R.tst, EV.end_nx, EV.end_rd, EV.end_rn, EV.end_exc, EV.ret_d, EV.ret_nw, EV.ioNd, EV.iosOf, EV.den, EV.dens, EV.keep, EV.keeps, EV.args, EV.back, EV.outsOf, EV.stD, EV.bt_nm, EV.bt_tp, EV.bt_nil, EV.bt_cons, EV.wip, EV.ioOk, EV.parD, EV.putW, EV.augF, EV.binD, EV.same_cmp, EV.same_ne, EV.ints_shp, EV.ints_shpL, EV.cmp_ii, EV.cmp_ni, EV.cmp_ss, EV.cmp_ns, EV.cmp_bb, EV.cmp_nb, EV.cmp_lt, EV.cmp_le, EV.cmp_gt, EV.cmp_ge, EV.is_n, EV.is_b, EV.is_i, EV.is_s, EV.is_l, EV.is_t, EV.is_bb, EV.isn_n, EV.isn_b, EV.isn_i, EV.isn_s, EV.isn_l, EV.isn_t, EV.isn_bb, EV.tru_n, EV.tru_b, EV.tru_i, EV.tru_l, EV.tru_t, EV.biD, EV.idx_l, EV.idx_t, EV.cut_l, EV.cut_t, EV.seq_l, EV.seq_t, EV.zipD, EV.rngD, EV.enumD, EV.enzD, EV.tupW, EV.lstW, EV.rev_l, EV.rev_t, EV.thenS_nx, EV.thenS_rt, EV.thenS_ct, EV.thenS_exc, EV.hold_nil, EV.for_eq, EV.onS_some, EV.bindD_eq, EV.ite_okb, EV.lim, EV.zip_maps, EV.zip3_maps, EV.enum_maps, sm2, rng0]) (by simp) fun i hi => by simp [EV.evSs, EV.evS, EV.evE, EV.evEs, EV.evAnd, EV.evOr, EV.evO, EV.evI, EV.evIfs, EV.R.bind, EV.R.fl, EV.R.of, EV.R.tst, EV.end_nx, EV.end_rd, EV.end_rn, EV.end_exc, EV.ret_d, EV.ret_nw, EV.ioNd, EV.iosOf, EV.den, EV.dens, EV.keep, EV.keeps, EV.args, EV.back, EV.outsOf, EV.stD, EV.bt_nm, EV.bt_tp, EV.bt_nil, EV.bt_cons, EV.wip, EV.ioOk, EV.parD, EV.putW, EV.augF, EV.binD, EV.same_cmp, EV.same_ne, EV.ints_shp, EV.ints_shpL, EV.cmp_ii, EV.cmp_ni, EV.cmp_ss, EV.cmp_ns, EV.cmp_bb, EV.cmp_nb, EV.cmp_lt, EV.cmp_le, EV.cmp_gt, EV.cmp_ge, EV.is_n, EV.is_b, EV.is_i, EV.is_s, EV.is_l, EV.is_t, EV.is_bb, EV.isn_n, EV.isn_b, EV.isn_i, EV.isn_s, EV.isn_l, EV.isn_t, EV.isn_bb, EV.tru_n, EV.tru_b, EV.tru_i, EV.tru_l, EV.tru_t, EV.biD, EV.idx_l, EV.idx_t, EV.cut_l, EV.cut_t, EV.seq_l, EV.seq_t, EV.zipD, EV.rngD, EV.enumD, EV.enzD, EV.tupW, EV.lstW, EV.rev_l, EV.rev_t, EV.thenS_nx, EV.thenS_rt, EV.thenS_ct, EV.thenS_exc, EV.hold_nil, EV.for_eq, EV.onS_some, EV.bindD_eq, EV.ite_okb, EV.lim, EV.zip_maps, EV.zip3_maps, EV.enum_maps, turnC, k2]
            exact this
          have hq2 : evE gm.G (CC 10) q_law_2 [some (.d (scriptD ns)), some (.d (.int (k : Int))), some (bE q), some (.d (.int (j : Int))), some (.d (rowE r)), some (.d (ce sl)), some (.d (rdsE xs)), some (.d (stE s0)), some (.d (plE is)), some (.d (.list (ys.map tE))), none, some (.d (stE y.1)), some (.d (plE y.2)), x13, some (.d (.str (PyData.shown (.tuple [rowE r, rdsE xs, stE y.1, plE y.2])))), some (.d (.str t)), some (.d (.list [d, d])), none] =
              .ok (.nw [.str t, .str t]) [some (.d (scriptD ns)), some (.d (.int (k : Int))), some (bE q), some (.d (.int (j : Int))), some (.d (rowE r)), some (.d (ce sl)), some (.d (rdsE xs)), some (.d (stE s0)), some (.d (plE is)), some (.d (.list (ys.map tE))), none, some (.d (stE y.1)), some (.d (plE y.2)), x13, some (.d (.str (PyData.shown (.tuple [rowE r, rdsE xs, stE y.1, plE y.2])))), some (.d (.str t)), some (.d (.list [d, d])), none] := by
            have := comp_go (G := gm.G) (C := CC 10) (elt := .bi .repr (.cons (.v 17) .nil)) (tg := .nm 17) (it := .seq (.v 16)) (own := [17]) (ifs := .nil)
              (s := [some (.d (scriptD ns)), some (.d (.int (k : Int))), some (bE q), some (.d (.int (j : Int))), some (.d (rowE r)), some (.d (ce sl)), some (.d (rdsE xs)), some (.d (stE s0)), some (.d (plE is)), some (.d (.list (ys.map tE))), none, some (.d (stE y.1)), some (.d (plE y.2)), x13, some (.d (.str (PyData.shown (.tuple [rowE r, rdsE xs, stE y.1, plE y.2])))), some (.d (.str t)), some (.d (.list [d, d])), none])
              (s1 := [some (.d (scriptD ns)), some (.d (.int (k : Int))), some (bE q), some (.d (.int (j : Int))), some (.d (rowE r)), some (.d (ce sl)), some (.d (rdsE xs)), some (.d (stE s0)), some (.d (plE is)), some (.d (.list (ys.map tE))), none, some (.d (stE y.1)), some (.d (plE y.2)), x13, some (.d (.str (PyData.shown (.tuple [rowE r, rdsE xs, stE y.1, plE y.2])))), some (.d (.str t)), some (.d (.list [d, d])), none])
              (List.range 2) (fun _ : Nat => d) (fun _ => .str t) (by simp [EV.evSs, EV.evS, EV.evE, EV.evEs, EV.evAnd, EV.evOr, EV.evO, EV.evI, EV.evIfs, EV.R.bind, EV.R.fl, EV.R.of, EV.R.tst, EV.end_nx, EV.end_rd, EV.end_rn, EV.end_exc, EV.ret_d, EV.ret_nw, EV.ioNd, EV.iosOf, EV.den, EV.dens, EV.keep, EV.keeps, EV.args, EV.back, EV.outsOf, EV.stD, EV.bt_nm, EV.bt_tp, EV.bt_nil, EV.bt_cons, EV.wip, EV.ioOk, EV.parD, EV.putW, EV.augF, EV.binD, EV.same_cmp, EV.same_ne, EV.ints_shp, EV.ints_shpL, EV.cmp_ii, EV.cmp_ni, EV.cmp_ss, EV.cmp_ns, EV.cmp_bb, EV.cmp_nb, EV.cmp_lt, EV.cmp_le, EV.cmp_gt, EV.cmp_ge, EV.is_n, EV.is_b, EV.is_i, EV.is_s, EV.is_l, EV.is_t, EV.is_bb, EV.isn_n, EV.isn_b, EV.isn_i, EV.isn_s, EV.isn_l, EV.isn_t, EV.isn_bb, EV.tru_n, EV.tru_b, EV.tru_i, EV.tru_l, EV.tru_t, EV.biD, EV.idx_l, EV.idx_t, EV.cut_l, EV.cut_t, EV.seq_l, EV.seq_t, EV.zipD, EV.rngD, EV.enumD, EV.enzD, EV.tupW, EV.lstW, EV.rev_l, EV.rev_t, EV.thenS_nx, EV.thenS_rt, EV.thenS_ct, EV.thenS_exc, EV.hold_nil, EV.for_eq, EV.onS_some, EV.bindD_eq, EV.ite_okb, EV.lim, EV.zip_maps, EV.zip3_maps, EV.enum_maps]; rfl) (by simp) fun i hi => by simp [EV.evSs, EV.evS, EV.evE, EV.evEs, EV.evAnd, EV.evOr, EV.evO, EV.evI, EV.evIfs, EV.R.bind, EV.R.fl, EV.R.of, EV.R.tst, EV.end_nx, EV.end_rd, EV.end_rn, EV.end_exc, EV.ret_d, EV.ret_nw, EV.ioNd, EV.iosOf, EV.den, EV.dens, EV.keep, EV.keeps, EV.args, EV.back, EV.outsOf, EV.stD, EV.bt_nm, EV.bt_tp, EV.bt_nil, EV.bt_cons, EV.wip, EV.ioOk, EV.parD, EV.putW, EV.augF, EV.binD, EV.same_cmp, EV.same_ne, EV.ints_shp, EV.ints_shpL, EV.cmp_ii, EV.cmp_ni, EV.cmp_ss, EV.cmp_ns, EV.cmp_bb, EV.cmp_nb, EV.cmp_lt, EV.cmp_le, EV.cmp_gt, EV.cmp_ge, EV.is_n, EV.is_b, EV.is_i, EV.is_s, EV.is_l, EV.is_t, EV.is_bb, EV.isn_n, EV.isn_b, EV.isn_i, EV.isn_s, EV.isn_l, EV.isn_t, EV.isn_bb, EV.tru_n, EV.tru_b, EV.tru_i, EV.tru_l, EV.tru_t, EV.biD, EV.idx_l, EV.idx_t, EV.cut_l, EV.cut_t, EV.seq_l, EV.seq_t, EV.zipD, EV.rngD, EV.enumD, EV.enzD, EV.tupW, EV.lstW, EV.rev_l, EV.rev_t, EV.thenS_nx, EV.thenS_rt, EV.thenS_ct, EV.thenS_exc, EV.hold_nil, EV.for_eq, EV.onS_some, EV.bindD_eq, EV.ite_okb, EV.lim, EV.zip_maps, EV.zip3_maps, EV.enum_maps, turnC, sd2]
            exact this
          simp [EV.evSs, EV.evS, EV.evE, EV.evEs, EV.evAnd, EV.evOr, EV.evO, EV.evI, EV.evIfs, EV.R.bind, EV.R.fl, EV.R.of, EV.R.tst, EV.end_nx, EV.end_rd, EV.end_rn, EV.end_exc, EV.ret_d, EV.ret_nw, EV.ioNd, EV.iosOf, EV.den, EV.dens, EV.keep, EV.keeps, EV.args, EV.back, EV.outsOf, EV.stD, EV.bt_nm, EV.bt_tp, EV.bt_nil, EV.bt_cons, EV.wip, EV.ioOk, EV.parD, EV.putW, EV.augF, EV.binD, EV.same_cmp, EV.same_ne, EV.ints_shp, EV.ints_shpL, EV.cmp_ii, EV.cmp_ni, EV.cmp_ss, EV.cmp_ns, EV.cmp_bb, EV.cmp_nb, EV.cmp_lt, EV.cmp_le, EV.cmp_gt, EV.cmp_ge, EV.is_n, EV.is_b, EV.is_i, EV.is_s, EV.is_l, EV.is_t, EV.is_bb, EV.isn_n, EV.isn_b, EV.isn_i, EV.isn_s, EV.isn_l, EV.isn_t, EV.isn_bb, EV.tru_n, EV.tru_b, EV.tru_i, EV.tru_l, EV.tru_t, EV.biD, EV.idx_l, EV.idx_t, EV.cut_l, EV.cut_t, EV.seq_l, EV.seq_t, EV.zipD, EV.rngD, EV.enumD, EV.enzD, EV.tupW, EV.lstW, EV.rev_l, EV.rev_t, EV.thenS_nx, EV.thenS_rt, EV.thenS_ct, EV.thenS_exc, EV.hold_nil, EV.for_eq, EV.onS_some, EV.bindD_eq, EV.ite_okb, EV.lim, EV.zip_maps, EV.zip3_maps, EV.enum_maps, l_law_1b]
          (rw [hold_cons]; simp [EV.evSs, EV.evS, EV.evE, EV.evEs, EV.evAnd, EV.evOr, EV.evO, EV.evI, EV.evIfs, EV.R.bind, EV.R.fl, EV.R.of, EV.R.tst, EV.end_nx, EV.end_rd, EV.end_rn, EV.end_exc, EV.ret_d, EV.ret_nw, EV.ioNd, EV.iosOf, EV.den, EV.dens, EV.keep, EV.keeps, EV.args, EV.back, EV.outsOf, EV.stD, EV.bt_nm, EV.bt_tp, EV.bt_nil, EV.bt_cons, EV.wip, EV.ioOk, EV.parD, EV.putW, EV.augF, EV.binD, EV.same_cmp, EV.same_ne, EV.ints_shp, EV.ints_shpL, EV.cmp_ii, EV.cmp_ni, EV.cmp_ss, EV.cmp_ns, EV.cmp_bb, EV.cmp_nb, EV.cmp_lt, EV.cmp_le, EV.cmp_gt, EV.cmp_ge, EV.is_n, EV.is_b, EV.is_i, EV.is_s, EV.is_l, EV.is_t, EV.is_bb, EV.isn_n, EV.isn_b, EV.isn_i, EV.isn_s, EV.isn_l, EV.isn_t, EV.isn_bb, EV.tru_n, EV.tru_b, EV.tru_i, EV.tru_l, EV.tru_t, EV.biD, EV.idx_l, EV.idx_t, EV.cut_l, EV.cut_t, EV.seq_l, EV.seq_t, EV.zipD, EV.rngD, EV.enumD, EV.enzD, EV.tupW, EV.lstW, EV.rev_l, EV.rev_t, EV.thenS_nx, EV.thenS_rt, EV.thenS_ct, EV.thenS_exc, EV.hold_nil, EV.for_eq, EV.onS_some, EV.bindD_eq, EV.ite_okb, EV.lim, EV.zip_maps, EV.zip3_maps, EV.enum_maps, sd1, k1, sd2])
          (rw [hold_cons]; simp [EV.evSs, EV.evS, EV.evE, EV.evEs, EV.evAnd, EV.evOr, EV.evO, EV.evI, EV.evIfs, EV.R.bind, EV.R.fl, EV.R.of, EV.R.tst, EV.end_nx, EV.end_rd, EV.end_rn, EV.end_exc, EV.ret_d, EV.ret_nw, EV.ioNd, EV.iosOf, EV.den, EV.dens, EV.keep, EV.keeps, EV.args, EV.back, EV.outsOf, EV.stD, EV.bt_nm, EV.bt_tp, EV.bt_nil, EV.bt_cons, EV.wip, EV.ioOk, EV.parD, EV.putW, EV.augF, EV.binD, EV.same_cmp, EV.same_ne, EV.ints_shp, EV.ints_shpL, EV.cmp_ii, EV.cmp_ni, EV.cmp_ss, EV.cmp_ns, EV.cmp_bb, EV.cmp_nb, EV.cmp_lt, EV.cmp_le, EV.cmp_gt, EV.cmp_ge, EV.is_n, EV.is_b, EV.is_i, EV.is_s, EV.is_l, EV.is_t, EV.is_bb, EV.isn_n, EV.isn_b, EV.isn_i, EV.isn_s, EV.isn_l, EV.isn_t, EV.isn_bb, EV.tru_n, EV.tru_b, EV.tru_i, EV.tru_l, EV.tru_t, EV.biD, EV.idx_l, EV.idx_t, EV.cut_l, EV.cut_t, EV.seq_l, EV.seq_t, EV.zipD, EV.rngD, EV.enumD, EV.enzD, EV.tupW, EV.lstW, EV.rev_l, EV.rev_t, EV.thenS_nx, EV.thenS_rt, EV.thenS_ct, EV.thenS_exc, EV.hold_nil, EV.for_eq, EV.onS_some, EV.bindD_eq, EV.ite_okb, EV.lim, EV.zip_maps, EV.zip3_maps, EV.enum_maps, hq1])
          (rw [hold_cons]; simp [EV.evSs, EV.evS, EV.evE, EV.evEs, EV.evAnd, EV.evOr, EV.evO, EV.evI, EV.evIfs, EV.R.bind, EV.R.fl, EV.R.of, EV.R.tst, EV.end_nx, EV.end_rd, EV.end_rn, EV.end_exc, EV.ret_d, EV.ret_nw, EV.ioNd, EV.iosOf, EV.den, EV.dens, EV.keep, EV.keeps, EV.args, EV.back, EV.outsOf, EV.stD, EV.bt_nm, EV.bt_tp, EV.bt_nil, EV.bt_cons, EV.wip, EV.ioOk, EV.parD, EV.putW, EV.augF, EV.binD, EV.same_cmp, EV.same_ne, EV.ints_shp, EV.ints_shpL, EV.cmp_ii, EV.cmp_ni, EV.cmp_ss, EV.cmp_ns, EV.cmp_bb, EV.cmp_nb, EV.cmp_lt, EV.cmp_le, EV.cmp_gt, EV.cmp_ge, EV.is_n, EV.is_b, EV.is_i, EV.is_s, EV.is_l, EV.is_t, EV.is_bb, EV.isn_n, EV.isn_b, EV.isn_i, EV.isn_s, EV.isn_l, EV.isn_t, EV.isn_bb, EV.tru_n, EV.tru_b, EV.tru_i, EV.tru_l, EV.tru_t, EV.biD, EV.idx_l, EV.idx_t, EV.cut_l, EV.cut_t, EV.seq_l, EV.seq_t, EV.zipD, EV.rngD, EV.enumD, EV.enzD, EV.tupW, EV.lstW, EV.rev_l, EV.rev_t, EV.thenS_nx, EV.thenS_rt, EV.thenS_ct, EV.thenS_exc, EV.hold_nil, EV.for_eq, EV.onS_some, EV.bindD_eq, EV.ite_okb, EV.lim, EV.zip_maps, EV.zip3_maps, EV.enum_maps, hq2, cn, sd1])
          exact hJ4 _ ⟨fun z hz => hy z (List.mem_cons_of_mem _ hz), _, _, _, _, _, _, _, rfl⟩
        · rintro s1 ⟨_, x10, x11, x12, x13, x14, x15, x16, rfl⟩
          simp [EV.evSs, EV.evS, EV.evE, EV.evEs, EV.evAnd, EV.evOr, EV.evO, EV.evI, EV.evIfs, EV.R.bind, EV.R.fl, EV.R.of, EV.R.tst, EV.end_nx, EV.end_rd, EV.end_rn, EV.end_exc, EV.ret_d, EV.ret_nw, EV.ioNd, EV.iosOf, EV.den, EV.dens, EV.keep, EV.keeps, EV.args, EV.back, EV.outsOf, EV.stD, EV.bt_nm, EV.bt_tp, EV.bt_nil, EV.bt_cons, EV.wip, EV.ioOk, EV.parD, EV.putW, EV.augF, EV.binD, EV.same_cmp, EV.same_ne, EV.ints_shp, EV.ints_shpL, EV.cmp_ii, EV.cmp_ni, EV.cmp_ss, EV.cmp_ns, EV.cmp_bb, EV.cmp_nb, EV.cmp_lt, EV.cmp_le, EV.cmp_gt, EV.cmp_ge, EV.is_n, EV.is_b, EV.is_i, EV.is_s, EV.is_l, EV.is_t, EV.is_bb, EV.isn_n, EV.isn_b, EV.isn_i, EV.isn_s, EV.isn_l, EV.isn_t, EV.isn_bb, EV.tru_n, EV.tru_b, EV.tru_i, EV.tru_l, EV.tru_t, EV.biD, EV.idx_l, EV.idx_t, EV.cut_l, EV.cut_t, EV.seq_l, EV.seq_t, EV.zipD, EV.rngD, EV.enumD, EV.enzD, EV.tupW, EV.lstW, EV.rev_l, EV.rev_t, EV.thenS_nx, EV.thenS_rt, EV.thenS_ct, EV.thenS_exc, EV.hold_nil, EV.for_eq, EV.onS_some, EV.bindD_eq, EV.ite_okb, EV.lim, EV.zip_maps, EV.zip3_maps, EV.enum_maps]
          exact hJ2 _ ⟨q, _, _, _, _, _, _, _, _, _, _, _, _, _, _, rfl⟩
      · intro y hy
        simp only [List.mem_cons, List.not_mem_nil, or_false] at hy
        rcases hy with rfl | rfl
        · exact ⟨hs0, rfl, fun i hi => by have := hib i hi; omega⟩
        · exact ⟨hs', rfl, fun i hi => by have := hib i hi; omega⟩
      · rw [rl]; simp
    · rintro s1 ⟨p, x3, x4, x5, x6, x7, x8, x9, x10, x11, x12, x13, x14, x15, x16, rfl⟩
      simp [EV.evSs, EV.evS, EV.evE, EV.evEs, EV.evAnd, EV.evOr, EV.evO, EV.evI, EV.evIfs, EV.R.bind, EV.R.fl, EV.R.of, EV.R.tst, EV.end_nx, EV.end_rd, EV.end_rn, EV.end_exc, EV.ret_d, EV.ret_nw, EV.ioNd, EV.iosOf, EV.den, EV.dens, EV.keep, EV.keeps, EV.args, EV.back, EV.outsOf, EV.stD, EV.bt_nm, EV.bt_tp, EV.bt_nil, EV.bt_cons, EV.wip, EV.ioOk, EV.parD, EV.putW, EV.augF, EV.binD, EV.same_cmp, EV.same_ne, EV.ints_shp, EV.ints_shpL, EV.cmp_ii, EV.cmp_ni, EV.cmp_ss, EV.cmp_ns, EV.cmp_bb, EV.cmp_nb, EV.cmp_lt, EV.cmp_le, EV.cmp_gt, EV.cmp_ge, EV.is_n, EV.is_b, EV.is_i, EV.is_s, EV.is_l, EV.is_t, EV.is_bb, EV.isn_n, EV.isn_b, EV.isn_i, EV.isn_s, EV.isn_l, EV.isn_t, EV.isn_bb, EV.tru_n, EV.tru_b, EV.tru_i, EV.tru_l, EV.tru_t, EV.biD, EV.idx_l, EV.idx_t, EV.cut_l, EV.cut_t, EV.seq_l, EV.seq_t, EV.zipD, EV.rngD, EV.enumD, EV.enzD, EV.tupW, EV.lstW, EV.rev_l, EV.rev_t, EV.thenS_nx, EV.thenS_rt, EV.thenS_ct, EV.thenS_exc, EV.hold_nil, EV.for_eq, EV.onS_some, EV.bindD_eq, EV.ite_okb, EV.lim, EV.zip_maps, EV.zip3_maps, EV.enum_maps]
      exact hJ _ ⟨_, _, _, _, _, _, _, _, _, _, _, _, _, _, _, _, rfl⟩
  · rintro s1 ⟨x1, x2, x3, x4, x5, x6, x7, x8, x9, x10, x11, x12, x13, x14, x15, x16, rfl⟩
    (rw [hold_cons]; simp [EV.evSs, EV.evS, EV.evE, EV.evEs, EV.evAnd, EV.evOr, EV.evO, EV.evI, EV.evIfs, EV.R.bind, EV.R.fl, EV.R.of, EV.R.tst, EV.end_nx, EV.end_rd, EV.end_rn, EV.end_exc, EV.ret_d, EV.ret_nw, EV.ioNd, EV.iosOf, EV.den, EV.dens, EV.keep, EV.keeps, EV.args, EV.back, EV.outsOf, EV.stD, EV.bt_nm, EV.bt_tp, EV.bt_nil, EV.bt_cons, EV.wip, EV.ioOk, EV.parD, EV.putW, EV.augF, EV.binD, EV.same_cmp, EV.same_ne, EV.ints_shp, EV.ints_shpL, EV.cmp_ii, EV.cmp_ni, EV.cmp_ss, EV.cmp_ns, EV.cmp_bb, EV.cmp_nb, EV.cmp_lt, EV.cmp_le, EV.cmp_gt, EV.cmp_ge, EV.is_n, EV.is_b, EV.is_i, EV.is_s, EV.is_l, EV.is_t, EV.is_bb, EV.isn_n, EV.isn_b, EV.isn_i, EV.isn_s, EV.isn_l, EV.isn_t, EV.isn_bb, EV.tru_n, EV.tru_b, EV.tru_i, EV.tru_l, EV.tru_t, EV.biD, EV.idx_l, EV.idx_t, EV.cut_l, EV.cut_t, EV.seq_l, EV.seq_t, EV.zipD, EV.rngD, EV.enumD, EV.enzD, EV.tupW, EV.lstW, EV.rev_l, EV.rev_t, EV.thenS_nx, EV.thenS_rt, EV.thenS_ct, EV.thenS_exc, EV.hold_nil, EV.for_eq, EV.onS_some, EV.bindD_eq, EV.ite_okb, EV.lim, EV.zip_maps, EV.zip3_maps, EV.enum_maps])
end YK17

namespace YK17
open PySem PySem.Spec PyProof.Rows L2 EV
theorem a_is_whole : BindsA (top 16) "is_whole" ["thing"] := fun _ _ _ _ _ _ us hl => match us, hl with | [_], _ => rfl
theorem a_is_among : BindsA (top 17) "is_among" ["thing", "low", "high"] := fun _ _ _ _ _ _ us hl => match us, hl with | [_, _, _], _ => rfl
theorem a_rises : BindsA (top 18) "rises" ["row"] := fun _ _ _ _ _ _ us hl => match us, hl with | [_], _ => rfl
theorem a_are_volts : BindsA (top 19) "are_volts" ["full", "thing"] := fun _ _ _ _ _ _ us hl => match us, hl with | [_, _], _ => rfl
theorem a_is_kind : BindsA (top 20) "is_kind" ["thing"] := fun _ _ _ _ _ _ us hl => match us, hl with | [_], _ => rfl
theorem a_cell_stands : BindsA (top 21) "cell_stands" ["kind"] := fun _ _ _ _ _ _ us hl => match us, hl with | [_], _ => rfl
theorem a_many_stands : BindsA (top 22) "many_stands" ["row"] := fun _ _ _ _ _ _ us hl => match us, hl with | [_], _ => rfl
theorem a_is_row : BindsA (top 23) "is_row" ["thing"] := fun _ _ _ _ _ _ us hl => match us, hl with | [_], _ => rfl
theorem a_need_row : BindsA (top 24) "need_row" ["thing"] := fun _ _ _ _ _ _ us hl => match us, hl with | [_], _ => rfl
theorem a_is_cell_stand : BindsA (top 25) "is_cell_stand" ["kind", "thing"] := fun _ _ _ _ _ _ us hl => match us, hl with | [_, _], _ => rfl
theorem a_is_stand_of : BindsA (top 26) "is_stand_of" ["row", "thing"] := fun _ _ _ _ _ _ us hl => match us, hl with | [_, _], _ => rfl
theorem a_need_stand : BindsA (top 27) "need_stand" ["row", "thing"] := fun _ _ _ _ _ _ us hl => match us, hl with | [_, _], _ => rfl
theorem a_opens_by : BindsA (top 28) "opens_by" ["row", "stand"] := fun _ _ _ _ _ _ us hl => match us, hl with | [_, _], _ => rfl
theorem a_is_current : BindsA (top 32) "is_current" ["thing"] := fun _ _ _ _ _ _ us hl => match us, hl with | [_], _ => rfl
theorem a_is_plan : BindsA (top 33) "is_plan" ["thing"] := fun _ _ _ _ _ _ us hl => match us, hl with | [_], _ => rfl
theorem a_shows_by : BindsA (top 34) "shows_by" ["row", "stand", "current"] := fun _ _ _ _ _ _ us hl => match us, hl with | [_, _, _], _ => rfl
theorem a_cell_fault : BindsA (top 35) "cell_fault" ["kind", "cell", "current", "shown"] := fun _ _ _ _ _ _ us hl => match us, hl with | [_, _, _, _], _ => rfl
theorem a_fault_by : BindsA (top 36) "fault_by" ["row", "stand", "current"] := fun _ _ _ _ _ _ us hl => match us, hl with | [_, _, _], _ => rfl
theorem a_behind_by : BindsA (top 37) "behind_by" ["row", "stand", "current"] := fun _ _ _ _ _ _ us hl => match us, hl with | [_, _, _], _ => rfl
theorem a_are_slips : BindsA (top 45) "are_slips" ["thing"] := fun _ _ _ _ _ _ us hl => match us, hl with | [_], _ => rfl
theorem a_is_read : BindsA (top 46) "is_read" ["thing", "most"] := fun _ _ _ _ _ _ us hl => match us, hl with | [_, _], _ => rfl
theorem a_is_reading_of : BindsA (top 47) "is_reading_of" ["row", "thing"] := fun _ _ _ _ _ _ us hl => match us, hl with | [_, _], _ => rfl
theorem a_are_readings : BindsA (top 48) "are_readings" ["row", "thing"] := fun _ _ _ _ _ _ us hl => match us, hl with | [_, _], _ => rfl
theorem a_need_slips : BindsA (top 49) "need_slips" ["thing"] := fun _ _ _ _ _ _ us hl => match us, hl with | [_], _ => rfl
theorem a_need_readings : BindsA (top 50) "need_readings" ["row", "slips", "readings"] := fun _ _ _ _ _ _ us hl => match us, hl with | [_, _, _], _ => rfl
theorem a_is_off : BindsA (top 51) "is_off" ["told", "read", "slip"] := fun _ _ _ _ _ _ us hl => match us, hl with | [_, _, _], _ => rfl
theorem a_unfit_by : BindsA (top 52) "unfit_by" ["row", "slips", "reading", "stand", "current"] := fun _ _ _ _ _ _ us hl => match us, hl with | [_, _, _, _, _], _ => rfl
theorem a_need_run : BindsA (top 53) "need_run" ["readings", "plan"] := fun _ _ _ _ _ _ us hl => match us, hl with | [_, _], _ => rfl
theorem a_unfit_of : BindsA (top 54) "unfit_of" ["row", "slips", "readings", "stand", "plan"] := fun _ _ _ _ _ _ us hl => match us, hl with | [_, _, _, _, _], _ => rfl
theorem a_first_unfit : BindsA (top 55) "first_unfit" ["row", "slips", "readings", "stand", "plan"] := fun _ _ _ _ _ _ us hl => match us, hl with | [_, _, _, _, _], _ => rfl
theorem a_law_box : BindsA (top 57) "_law_box" ["_law_script", "_law_k"] := fun _ _ _ _ _ _ us hl => match us, hl with | [_, _], _ => rfl
theorem a_law_more : BindsA (top 58) "_law_more" ["_law_box_here"] := fun _ _ _ _ _ _ us hl => match us, hl with | [_], _ => rfl
theorem a_law_take : BindsA (top 59) "_law_take" ["_law_box_here", "_law_count"] := fun _ _ _ _ _ _ us hl => match us, hl with | [_, _], _ => rfl
theorem a_law_kind : BindsA (top 60) "_law_kind" ["_law_box_here", "_law_most"] := fun _ _ _ _ _ _ us hl => match us, hl with | [_, _], _ => rfl
theorem a_law_row : BindsA (top 61) "_law_row" ["_law_box_here"] := fun _ _ _ _ _ _ us hl => match us, hl with | [_], _ => rfl
theorem a_law_stand : BindsA (top 62) "_law_stand" ["_law_box_here", "_law_row_here"] := fun _ _ _ _ _ _ us hl => match us, hl with | [_, _], _ => rfl
theorem a_law_shown : BindsA (top 63) "_law_shown" ["_law_row_here", "_law_stand_here", "_law_current"] := fun _ _ _ _ _ _ us hl => match us, hl with | [_, _, _], _ => rfl
theorem a_law_fault : BindsA (top 64) "_law_fault" ["_law_row_here", "_law_stand_here", "_law_current"] := fun _ _ _ _ _ _ us hl => match us, hl with | [_, _, _], _ => rfl
theorem a_law_behind : BindsA (top 65) "_law_behind" ["_law_stand_here", "_law_current"] := fun _ _ _ _ _ _ us hl => match us, hl with | [_, _], _ => rfl
theorem a_law_slips : BindsA (top 66) "_law_slips" ["_law_box_here"] := fun _ _ _ _ _ _ us hl => match us, hl with | [_], _ => rfl
theorem a_law_reading : BindsA (top 67) "_law_reading" ["_law_box_here", "_law_row_here", "_law_slips_here", "_law_stand_here", "_law_current"] := fun _ _ _ _ _ _ us hl => match us, hl with | [_, _, _, _, _], _ => rfl
theorem a_law_beats : BindsA (top 68) "_law_beats" ["_law_box_here", "_law_row_here", "_law_most"] := fun _ _ _ _ _ _ us hl => match us, hl with | [_, _, _], _ => rfl
theorem a_law_seen : BindsA (top 69) "_law_seen" ["_law_box_here", "_law_row_here", "_law_slips_here", "_law_most"] := fun _ _ _ _ _ _ us hl => match us, hl with | [_, _, _, _], _ => rfl
theorem a_law_unfit : BindsA (top 70) "_law_unfit" ["_law_row_here", "_law_slips_here", "_law_reading_here", "_law_stand_here", "_law_current"] := fun _ _ _ _ _ _ us hl => match us, hl with | [_, _, _, _, _], _ => rfl
theorem a_law_due : BindsA (top 71) "_law_due" ["_law_row_here", "_law_slips_here", "_law_readings", "_law_stand_here", "_law_plan"] := fun _ _ _ _ _ _ us hl => match us, hl with | [_, _, _, _, _], _ => rfl
theorem a_law : BindsA (top 72) "law" ["_law_script"] := fun _ _ _ _ _ _ us hl => match us, hl with | [_], _ => rfl
theorem stat {P : Program} {w : World} {K : PySem.W.Frag} {mg : Str → Option Value} {h : Heap} (X : K.In h) (G : h.Ns mainGlobals mg)
    (h_is_whole : DefIn K "is_whole" (top 16))
    (h_is_among : DefIn K "is_among" (top 17))
    (h_rises : DefIn K "rises" (top 18))
    (h_are_volts : DefIn K "are_volts" (top 19))
    (h_is_kind : DefIn K "is_kind" (top 20))
    (h_cell_stands : DefIn K "cell_stands" (top 21))
    (h_many_stands : DefIn K "many_stands" (top 22))
    (h_is_row : DefIn K "is_row" (top 23))
    (h_need_row : DefIn K "need_row" (top 24))
    (h_is_cell_stand : DefIn K "is_cell_stand" (top 25))
    (h_is_stand_of : DefIn K "is_stand_of" (top 26))
    (h_need_stand : DefIn K "need_stand" (top 27))
    (h_opens_by : DefIn K "opens_by" (top 28))
    (h_is_current : DefIn K "is_current" (top 32))
    (h_is_plan : DefIn K "is_plan" (top 33))
    (h_shows_by : DefIn K "shows_by" (top 34))
    (h_cell_fault : DefIn K "cell_fault" (top 35))
    (h_fault_by : DefIn K "fault_by" (top 36))
    (h_behind_by : DefIn K "behind_by" (top 37))
    (h_are_slips : DefIn K "are_slips" (top 45))
    (h_is_read : DefIn K "is_read" (top 46))
    (h_is_reading_of : DefIn K "is_reading_of" (top 47))
    (h_are_readings : DefIn K "are_readings" (top 48))
    (h_need_slips : DefIn K "need_slips" (top 49))
    (h_need_readings : DefIn K "need_readings" (top 50))
    (h_is_off : DefIn K "is_off" (top 51))
    (h_unfit_by : DefIn K "unfit_by" (top 52))
    (h_need_run : DefIn K "need_run" (top 53))
    (h_unfit_of : DefIn K "unfit_of" (top 54))
    (h_first_unfit : DefIn K "first_unfit" (top 55))
    (h_law_box : DefIn K "_law_box" (top 57))
    (h_law_more : DefIn K "_law_more" (top 58))
    (h_law_take : DefIn K "_law_take" (top 59))
    (h_law_kind : DefIn K "_law_kind" (top 60))
    (h_law_row : DefIn K "_law_row" (top 61))
    (h_law_stand : DefIn K "_law_stand" (top 62))
    (h_law_shown : DefIn K "_law_shown" (top 63))
    (h_law_fault : DefIn K "_law_fault" (top 64))
    (h_law_behind : DefIn K "_law_behind" (top 65))
    (h_law_slips : DefIn K "_law_slips" (top 66))
    (h_law_reading : DefIn K "_law_reading" (top 67))
    (h_law_beats : DefIn K "_law_beats" (top 68))
    (h_law_seen : DefIn K "_law_seen" (top 69))
    (h_law_unfit : DefIn K "_law_unfit" (top 70))
    (h_law_due : DefIn K "_law_due" (top 71))
    (h_law : DefIn K "law" (top 72))
    (g_MOST_FULL : GlFact K "MOST_FULL" ((.int 8)))
    (g_MOST_VOLTS_kinds : GlFact K "MOST_VOLTS_kinds" ((.int 900)))
    (g_MOST_LOSS : GlFact K "MOST_LOSS" ((.int 50)))
    (g_MOST_OUT : GlFact K "MOST_OUT" ((.int 4)))
    (g_MOST_BACK : GlFact K "MOST_BACK" ((.int 4)))
    (g_MOST_WORN : GlFact K "MOST_WORN" ((.int 2)))
    (g_MOST_CELLS : GlFact K "MOST_CELLS" ((.int 3)))
    (g_MOST_STANDS : GlFact K "MOST_STANDS" ((.int 300)))
    (g_MOST_CURRENT : GlFact K "MOST_CURRENT" ((.int 9)))
    (g_MOST_BEATS : GlFact K "MOST_BEATS" ((.int 12)))
    (g_MOST_READINGS : GlFact K "MOST_READINGS" ((.int 6)))
    (g_MOST_READ : GlFact K "MOST_READ" ((.int 12)))
    (g_MOST_VOLTS_readings : GlFact K "MOST_VOLTS_readings" ((.int 9999)))
    (g_MOST_SLIPS : GlFact K "MOST_SLIPS" ((.tuple [.int 2, .int 60])))
    (g_FAULT : GlFact K "FAULT" ((.int (-1))))
    (g_CURRENT : GlFact K "CURRENT" ((.int 0)))
    (z_len : PySem.W.nsIn K mainGlobals (Str.ofString "len") = some none)
    (z_tuple : PySem.W.nsIn K mainGlobals (Str.ofString "tuple") = some none)
    (z_list : PySem.W.nsIn K mainGlobals (Str.ofString "list") = some none)
    (z_min : PySem.W.nsIn K mainGlobals (Str.ofString "min") = some none)
    (z_max : PySem.W.nsIn K mainGlobals (Str.ofString "max") = some none)
    (z_all : PySem.W.nsIn K mainGlobals (Str.ofString "all") = some none)
    (z_any : PySem.W.nsIn K mainGlobals (Str.ofString "any") = some none)
    (z_sum : PySem.W.nsIn K mainGlobals (Str.ofString "sum") = some none)
    (z_abs : PySem.W.nsIn K mainGlobals (Str.ofString "abs") = some none)
    (z_isinstance : PySem.W.nsIn K mainGlobals (Str.ofString "isinstance") = some none)
    (z_int : PySem.W.nsIn K mainGlobals (Str.ofString "int") = some none)
    (z_bool : PySem.W.nsIn K mainGlobals (Str.ofString "bool") = some none)
    (z_str : PySem.W.nsIn K mainGlobals (Str.ofString "str") = some none)
    (z_range : PySem.W.nsIn K mainGlobals (Str.ofString "range") = some none)
    (z_zip : PySem.W.nsIn K mainGlobals (Str.ofString "zip") = some none)
    (z_enumerate : PySem.W.nsIn K mainGlobals (Str.ofString "enumerate") = some none)
    (z_sorted : PySem.W.nsIn K mainGlobals (Str.ofString "sorted") = some none)
    (z_repr : PySem.W.nsIn K mainGlobals (Str.ofString "repr") = some none)
    (z_set : PySem.W.nsIn K mainGlobals (Str.ofString "set") = some none)
    (z_dict : PySem.W.nsIn K mainGlobals (Str.ofString "dict") = some none)
    (z_divmod : PySem.W.nsIn K mainGlobals (Str.ofString "divmod") = some none)
    : ∃ Cl, ∀ base, Static ⟨P, w, K, mg, base, gm, Cl⟩ := by
  refine ⟨fun _ => .none, static_of X G (show AllF gm K 0 [Str.ofString "is_whole", Str.ofString "is_among", Str.ofString "rises", Str.ofString "are_volts", Str.ofString "is_kind", Str.ofString "cell_stands", Str.ofString "many_stands", Str.ofString "is_row", Str.ofString "need_row", Str.ofString "is_cell_stand", Str.ofString "is_stand_of", Str.ofString "need_stand", Str.ofString "opens_by", Str.ofString "is_current", Str.ofString "is_plan", Str.ofString "shows_by", Str.ofString "cell_fault", Str.ofString "fault_by", Str.ofString "behind_by", Str.ofString "are_slips", Str.ofString "is_read", Str.ofString "is_reading_of", Str.ofString "are_readings", Str.ofString "need_slips", Str.ofString "need_readings", Str.ofString "is_off", Str.ofString "unfit_by", Str.ofString "need_run", Str.ofString "unfit_of", Str.ofString "first_unfit", Str.ofString "_law_box", Str.ofString "_law_more", Str.ofString "_law_take", Str.ofString "_law_kind", Str.ofString "_law_row", Str.ofString "_law_stand", Str.ofString "_law_shown", Str.ofString "_law_fault", Str.ofString "_law_behind", Str.ofString "_law_slips", Str.ofString "_law_reading", Str.ofString "_law_beats", Str.ofString "_law_seen", Str.ofString "_law_unfit", Str.ofString "_law_due", Str.ofString "law"] from ⟨⟨⟨_, _, _, _, rfl, rfl, h_is_whole, a_is_whole, c_is_whole⟩⟩, ⟨⟨_, _, _, _, rfl, rfl, h_is_among, a_is_among, c_is_among⟩⟩, ⟨⟨_, _, _, _, rfl, rfl, h_rises, a_rises, c_rises⟩⟩, ⟨⟨_, _, _, _, rfl, rfl, h_are_volts, a_are_volts, c_are_volts⟩⟩, ⟨⟨_, _, _, _, rfl, rfl, h_is_kind, a_is_kind, c_is_kind⟩⟩, ⟨⟨_, _, _, _, rfl, rfl, h_cell_stands, a_cell_stands, c_cell_stands⟩⟩, ⟨⟨_, _, _, _, rfl, rfl, h_many_stands, a_many_stands, c_many_stands⟩⟩, ⟨⟨_, _, _, _, rfl, rfl, h_is_row, a_is_row, c_is_row⟩⟩, ⟨⟨_, _, _, _, rfl, rfl, h_need_row, a_need_row, c_need_row⟩⟩, ⟨⟨_, _, _, _, rfl, rfl, h_is_cell_stand, a_is_cell_stand, c_is_cell_stand⟩⟩, ⟨⟨_, _, _, _, rfl, rfl, h_is_stand_of, a_is_stand_of, c_is_stand_of⟩⟩, ⟨⟨_, _, _, _, rfl, rfl, h_need_stand, a_need_stand, c_need_stand⟩⟩, ⟨⟨_, _, _, _, rfl, rfl, h_opens_by, a_opens_by, c_opens_by⟩⟩, ⟨⟨_, _, _, _, rfl, rfl, h_is_current, a_is_current, c_is_current⟩⟩, ⟨⟨_, _, _, _, rfl, rfl, h_is_plan, a_is_plan, c_is_plan⟩⟩, ⟨⟨_, _, _, _, rfl, rfl, h_shows_by, a_shows_by, c_shows_by⟩⟩, ⟨⟨_, _, _, _, rfl, rfl, h_cell_fault, a_cell_fault, c_cell_fault⟩⟩, ⟨⟨_, _, _, _, rfl, rfl, h_fault_by, a_fault_by, c_fault_by⟩⟩, ⟨⟨_, _, _, _, rfl, rfl, h_behind_by, a_behind_by, c_behind_by⟩⟩, ⟨⟨_, _, _, _, rfl, rfl, h_are_slips, a_are_slips, c_are_slips⟩⟩, ⟨⟨_, _, _, _, rfl, rfl, h_is_read, a_is_read, c_is_read⟩⟩, ⟨⟨_, _, _, _, rfl, rfl, h_is_reading_of, a_is_reading_of, c_is_reading_of⟩⟩, ⟨⟨_, _, _, _, rfl, rfl, h_are_readings, a_are_readings, c_are_readings⟩⟩, ⟨⟨_, _, _, _, rfl, rfl, h_need_slips, a_need_slips, c_need_slips⟩⟩, ⟨⟨_, _, _, _, rfl, rfl, h_need_readings, a_need_readings, c_need_readings⟩⟩, ⟨⟨_, _, _, _, rfl, rfl, h_is_off, a_is_off, c_is_off⟩⟩, ⟨⟨_, _, _, _, rfl, rfl, h_unfit_by, a_unfit_by, c_unfit_by⟩⟩, ⟨⟨_, _, _, _, rfl, rfl, h_need_run, a_need_run, c_need_run⟩⟩, ⟨⟨_, _, _, _, rfl, rfl, h_unfit_of, a_unfit_of, c_unfit_of⟩⟩, ⟨⟨_, _, _, _, rfl, rfl, h_first_unfit, a_first_unfit, c_first_unfit⟩⟩, ⟨⟨_, _, _, _, rfl, rfl, h_law_box, a_law_box, c_law_box⟩⟩, ⟨⟨_, _, _, _, rfl, rfl, h_law_more, a_law_more, c_law_more⟩⟩, ⟨⟨_, _, _, _, rfl, rfl, h_law_take, a_law_take, c_law_take⟩⟩, ⟨⟨_, _, _, _, rfl, rfl, h_law_kind, a_law_kind, c_law_kind⟩⟩, ⟨⟨_, _, _, _, rfl, rfl, h_law_row, a_law_row, c_law_row⟩⟩, ⟨⟨_, _, _, _, rfl, rfl, h_law_stand, a_law_stand, c_law_stand⟩⟩, ⟨⟨_, _, _, _, rfl, rfl, h_law_shown, a_law_shown, c_law_shown⟩⟩, ⟨⟨_, _, _, _, rfl, rfl, h_law_fault, a_law_fault, c_law_fault⟩⟩, ⟨⟨_, _, _, _, rfl, rfl, h_law_behind, a_law_behind, c_law_behind⟩⟩, ⟨⟨_, _, _, _, rfl, rfl, h_law_slips, a_law_slips, c_law_slips⟩⟩, ⟨⟨_, _, _, _, rfl, rfl, h_law_reading, a_law_reading, c_law_reading⟩⟩, ⟨⟨_, _, _, _, rfl, rfl, h_law_beats, a_law_beats, c_law_beats⟩⟩, ⟨⟨_, _, _, _, rfl, rfl, h_law_seen, a_law_seen, c_law_seen⟩⟩, ⟨⟨_, _, _, _, rfl, rfl, h_law_unfit, a_law_unfit, c_law_unfit⟩⟩, ⟨⟨_, _, _, _, rfl, rfl, h_law_due, a_law_due, c_law_due⟩⟩, ⟨⟨_, _, _, _, rfl, rfl, h_law, a_law, c_law⟩⟩, trivial⟩) (show AllG K [Str.ofString "MOST_FULL", Str.ofString "MOST_VOLTS_kinds", Str.ofString "MOST_LOSS", Str.ofString "MOST_OUT", Str.ofString "MOST_BACK", Str.ofString "MOST_WORN", Str.ofString "MOST_CELLS", Str.ofString "MOST_STANDS", Str.ofString "MOST_CURRENT", Str.ofString "MOST_BEATS", Str.ofString "MOST_READINGS", Str.ofString "MOST_READ", Str.ofString "MOST_VOLTS_readings", Str.ofString "MOST_SLIPS", Str.ofString "FAULT", Str.ofString "CURRENT"] [(.int 8), (.int 900), (.int 50), (.int 4), (.int 4), (.int 2), (.int 3), (.int 300), (.int 9), (.int 12), (.int 6), (.int 12), (.int 9999), (.tuple [.int 2, .int 60]), (.int (-1)), (.int 0)] from ⟨g_MOST_FULL, g_MOST_VOLTS_kinds, g_MOST_LOSS, g_MOST_OUT, g_MOST_BACK, g_MOST_WORN, g_MOST_CELLS, g_MOST_STANDS, g_MOST_CURRENT, g_MOST_BEATS, g_MOST_READINGS, g_MOST_READ, g_MOST_VOLTS_readings, g_MOST_SLIPS, g_FAULT, g_CURRENT, trivial⟩) (show AllB K ["len", "tuple", "list", "min", "max", "all", "any", "sum", "abs", "isinstance", "int", "bool", "str", "range", "zip", "enumerate", "sorted", "repr", "set", "dict", "divmod"] from ⟨z_len, z_tuple, z_list, z_min, z_max, z_all, z_any, z_sum, z_abs, z_isinstance, z_int, z_bool, z_str, z_range, z_zip, z_enumerate, z_sorted, z_repr, z_set, z_dict, z_divmod, trivial⟩) (show AllK gm K [] from trivial) (by decide +kernel)⟩
end YK17
open PySem PySem.W PyProof.Rows
set_option maxHeartbeats 0 in
theorem PySem.Challenge.cw_evenpack_k17_the_first_that_does_not_fit_holds : PySem.Challenge.rw_evenpack_k17_the_first_that_does_not_fit.Holds := by
  w_on; o_law; k_head; (case hw => w_witness2)
  k_fill
  refine EV.walk_ev (l := PySem.Challenge.rw_evenpack_k17_the_first_that_does_not_fit) (n := 63) (k := YK17.lev) (lf := 45) (x := "_law_script") (Γ := YK17.gm) rfl (by decide) rfl ⟨rfl, by decide, by decide⟩ (fun w h Y => PySem.W.kIn_of Y) rfl rfl ?F (fun ns hl => YK17.law_ok ns hl)
  case F =>
    intro w mg h X G
    refine' YK17.stat X G ?h_is_whole ?h_is_among ?h_rises ?h_are_volts ?h_is_kind ?h_cell_stands ?h_many_stands ?h_is_row ?h_need_row ?h_is_cell_stand ?h_is_stand_of ?h_need_stand ?h_opens_by ?h_is_current ?h_is_plan ?h_shows_by ?h_cell_fault ?h_fault_by ?h_behind_by ?h_are_slips ?h_is_read ?h_is_reading_of ?h_are_readings ?h_need_slips ?h_need_readings ?h_is_off ?h_unfit_by ?h_need_run ?h_unfit_of ?h_first_unfit ?h_law_box ?h_law_more ?h_law_take ?h_law_kind ?h_law_row ?h_law_stand ?h_law_shown ?h_law_fault ?h_law_behind ?h_law_slips ?h_law_reading ?h_law_beats ?h_law_seen ?h_law_unfit ?h_law_due ?h_law ?g_MOST_FULL ?g_MOST_VOLTS_kinds ?g_MOST_LOSS ?g_MOST_OUT ?g_MOST_BACK ?g_MOST_WORN ?g_MOST_CELLS ?g_MOST_STANDS ?g_MOST_CURRENT ?g_MOST_BEATS ?g_MOST_READINGS ?g_MOST_READ ?g_MOST_VOLTS_readings ?g_MOST_SLIPS ?g_FAULT ?g_CURRENT ?z_len ?z_tuple ?z_list ?z_min ?z_max ?z_all ?z_any ?z_sum ?z_abs ?z_isinstance ?z_int ?z_bool ?z_str ?z_range ?z_zip ?z_enumerate ?z_sorted ?z_repr ?z_set ?z_dict ?z_divmod
    (case h_is_whole => (refine' EV.defIn_mk ?a ?l ?c ?k; (case a => k_is); (case l => k_is); (case c => k_is); (case k => k_is)))
    (case h_is_among => (refine' EV.defIn_mk ?a ?l ?c ?k; (case a => k_is); (case l => k_is); (case c => k_is); (case k => k_is)))
    (case h_rises => (refine' EV.defIn_mk ?a ?l ?c ?k; (case a => k_is); (case l => k_is); (case c => k_is); (case k => k_is)))
    (case h_are_volts => (refine' EV.defIn_mk ?a ?l ?c ?k; (case a => k_is); (case l => k_is); (case c => k_is); (case k => k_is)))
    (case h_is_kind => (refine' EV.defIn_mk ?a ?l ?c ?k; (case a => k_is); (case l => k_is); (case c => k_is); (case k => k_is)))
    (case h_cell_stands => (refine' EV.defIn_mk ?a ?l ?c ?k; (case a => k_is); (case l => k_is); (case c => k_is); (case k => k_is)))
    (case h_many_stands => (refine' EV.defIn_mk ?a ?l ?c ?k; (case a => k_is); (case l => k_is); (case c => k_is); (case k => k_is)))
    (case h_is_row => (refine' EV.defIn_mk ?a ?l ?c ?k; (case a => k_is); (case l => k_is); (case c => k_is); (case k => k_is)))
    (case h_need_row => (refine' EV.defIn_mk ?a ?l ?c ?k; (case a => k_is); (case l => k_is); (case c => k_is); (case k => k_is)))
    (case h_is_cell_stand => (refine' EV.defIn_mk ?a ?l ?c ?k; (case a => k_is); (case l => k_is); (case c => k_is); (case k => k_is)))
    (case h_is_stand_of => (refine' EV.defIn_mk ?a ?l ?c ?k; (case a => k_is); (case l => k_is); (case c => k_is); (case k => k_is)))
    (case h_need_stand => (refine' EV.defIn_mk ?a ?l ?c ?k; (case a => k_is); (case l => k_is); (case c => k_is); (case k => k_is)))
    (case h_opens_by => (refine' EV.defIn_mk ?a ?l ?c ?k; (case a => k_is); (case l => k_is); (case c => k_is); (case k => k_is)))
    (case h_is_current => (refine' EV.defIn_mk ?a ?l ?c ?k; (case a => k_is); (case l => k_is); (case c => k_is); (case k => k_is)))
    (case h_is_plan => (refine' EV.defIn_mk ?a ?l ?c ?k; (case a => k_is); (case l => k_is); (case c => k_is); (case k => k_is)))
    (case h_shows_by => (refine' EV.defIn_mk ?a ?l ?c ?k; (case a => k_is); (case l => k_is); (case c => k_is); (case k => k_is)))
    (case h_cell_fault => (refine' EV.defIn_mk ?a ?l ?c ?k; (case a => k_is); (case l => k_is); (case c => k_is); (case k => k_is)))
    (case h_fault_by => (refine' EV.defIn_mk ?a ?l ?c ?k; (case a => k_is); (case l => k_is); (case c => k_is); (case k => k_is)))
    (case h_behind_by => (refine' EV.defIn_mk ?a ?l ?c ?k; (case a => k_is); (case l => k_is); (case c => k_is); (case k => k_is)))
    (case h_are_slips => (refine' EV.defIn_mk ?a ?l ?c ?k; (case a => k_is); (case l => k_is); (case c => k_is); (case k => k_is)))
    (case h_is_read => (refine' EV.defIn_mk ?a ?l ?c ?k; (case a => k_is); (case l => k_is); (case c => k_is); (case k => k_is)))
    (case h_is_reading_of => (refine' EV.defIn_mk ?a ?l ?c ?k; (case a => k_is); (case l => k_is); (case c => k_is); (case k => k_is)))
    (case h_are_readings => (refine' EV.defIn_mk ?a ?l ?c ?k; (case a => k_is); (case l => k_is); (case c => k_is); (case k => k_is)))
    (case h_need_slips => (refine' EV.defIn_mk ?a ?l ?c ?k; (case a => k_is); (case l => k_is); (case c => k_is); (case k => k_is)))
    (case h_need_readings => (refine' EV.defIn_mk ?a ?l ?c ?k; (case a => k_is); (case l => k_is); (case c => k_is); (case k => k_is)))
    (case h_is_off => (refine' EV.defIn_mk ?a ?l ?c ?k; (case a => k_is); (case l => k_is); (case c => k_is); (case k => k_is)))
    (case h_unfit_by => (refine' EV.defIn_mk ?a ?l ?c ?k; (case a => k_is); (case l => k_is); (case c => k_is); (case k => k_is)))
    (case h_need_run => (refine' EV.defIn_mk ?a ?l ?c ?k; (case a => k_is); (case l => k_is); (case c => k_is); (case k => k_is)))
    (case h_unfit_of => (refine' EV.defIn_mk ?a ?l ?c ?k; (case a => k_is); (case l => k_is); (case c => k_is); (case k => k_is)))
    (case h_first_unfit => (refine' EV.defIn_mk ?a ?l ?c ?k; (case a => k_is); (case l => k_is); (case c => k_is); (case k => k_is)))
    (case h_law_box => (refine' EV.defIn_mk ?a ?l ?c ?k; (case a => k_is); (case l => k_is); (case c => k_is); (case k => k_is)))
    (case h_law_more => (refine' EV.defIn_mk ?a ?l ?c ?k; (case a => k_is); (case l => k_is); (case c => k_is); (case k => k_is)))
    (case h_law_take => (refine' EV.defIn_mk ?a ?l ?c ?k; (case a => k_is); (case l => k_is); (case c => k_is); (case k => k_is)))
    (case h_law_kind => (refine' EV.defIn_mk ?a ?l ?c ?k; (case a => k_is); (case l => k_is); (case c => k_is); (case k => k_is)))
    (case h_law_row => (refine' EV.defIn_mk ?a ?l ?c ?k; (case a => k_is); (case l => k_is); (case c => k_is); (case k => k_is)))
    (case h_law_stand => (refine' EV.defIn_mk ?a ?l ?c ?k; (case a => k_is); (case l => k_is); (case c => k_is); (case k => k_is)))
    (case h_law_shown => (refine' EV.defIn_mk ?a ?l ?c ?k; (case a => k_is); (case l => k_is); (case c => k_is); (case k => k_is)))
    (case h_law_fault => (refine' EV.defIn_mk ?a ?l ?c ?k; (case a => k_is); (case l => k_is); (case c => k_is); (case k => k_is)))
    (case h_law_behind => (refine' EV.defIn_mk ?a ?l ?c ?k; (case a => k_is); (case l => k_is); (case c => k_is); (case k => k_is)))
    (case h_law_slips => (refine' EV.defIn_mk ?a ?l ?c ?k; (case a => k_is); (case l => k_is); (case c => k_is); (case k => k_is)))
    (case h_law_reading => (refine' EV.defIn_mk ?a ?l ?c ?k; (case a => k_is); (case l => k_is); (case c => k_is); (case k => k_is)))
    (case h_law_beats => (refine' EV.defIn_mk ?a ?l ?c ?k; (case a => k_is); (case l => k_is); (case c => k_is); (case k => k_is)))
    (case h_law_seen => (refine' EV.defIn_mk ?a ?l ?c ?k; (case a => k_is); (case l => k_is); (case c => k_is); (case k => k_is)))
    (case h_law_unfit => (refine' EV.defIn_mk ?a ?l ?c ?k; (case a => k_is); (case l => k_is); (case c => k_is); (case k => k_is)))
    (case h_law_due => (refine' EV.defIn_mk ?a ?l ?c ?k; (case a => k_is); (case l => k_is); (case c => k_is); (case k => k_is)))
    (case h_law => (refine' EV.defIn_mk ?a ?l ?c ?k; (case a => k_is); (case l => k_is); (case c => k_is); (case k => k_is)))
    (case g_MOST_FULL => (refine' EV.gl_int ?e; (case e => k_is)))
    (case g_MOST_VOLTS_kinds => (refine' EV.gl_int ?e; (case e => k_is)))
    (case g_MOST_LOSS => (refine' EV.gl_int ?e; (case e => k_is)))
    (case g_MOST_OUT => (refine' EV.gl_int ?e; (case e => k_is)))
    (case g_MOST_BACK => (refine' EV.gl_int ?e; (case e => k_is)))
    (case g_MOST_WORN => (refine' EV.gl_int ?e; (case e => k_is)))
    (case g_MOST_CELLS => (refine' EV.gl_int ?e; (case e => k_is)))
    (case g_MOST_STANDS => (refine' EV.gl_int ?e; (case e => k_is)))
    (case g_MOST_CURRENT => (refine' EV.gl_int ?e; (case e => k_is)))
    (case g_MOST_BEATS => (refine' EV.gl_int ?e; (case e => k_is)))
    (case g_MOST_READINGS => (refine' EV.gl_int ?e; (case e => k_is)))
    (case g_MOST_READ => (refine' EV.gl_int ?e; (case e => k_is)))
    (case g_MOST_VOLTS_readings => (refine' EV.gl_int ?e; (case e => k_is)))
    (case g_MOST_SLIPS => (refine' EV.gl_tup ?e ?l ?r ?z; (case e => k_is); (case l => k_is); (case r => rfl); (case z => decide)))
    (case g_FAULT => (refine' EV.gl_int ?e; (case e => k_is)))
    (case g_CURRENT => (refine' EV.gl_int ?e; (case e => k_is)))
    (case z_len => k_is)
    (case z_tuple => k_is)
    (case z_list => k_is)
    (case z_min => k_is)
    (case z_max => k_is)
    (case z_all => k_is)
    (case z_any => k_is)
    (case z_sum => k_is)
    (case z_abs => k_is)
    (case z_isinstance => k_is)
    (case z_int => k_is)
    (case z_bool => k_is)
    (case z_str => k_is)
    (case z_range => k_is)
    (case z_zip => k_is)
    (case z_enumerate => k_is)
    (case z_sorted => k_is)
    (case z_repr => k_is)
    (case z_set => k_is)
    (case z_dict => k_is)
    (case z_divmod => k_is)
#print axioms PySem.Challenge.cw_evenpack_k17_the_first_that_does_not_fit_holds

