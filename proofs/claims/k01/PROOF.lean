import PyProof.Rows.All
import HandS.ExcCtx
import Wide.All
import OpenK.AllK
import Wide.FinOn
import HandS.ForMost
import HandS.ForExc
import HandS.Lambda
import HandS.Walk
import HandS.Wide
import HandS.TupAny
import HandS.TupMul
import HandS.Style
import HandS.Deep
import HandS.IsInst
import HandS.SortInts
import HandS.SetFor
import HandS.Strs
import HandS.Conv
import HandS.Zip
import HandS.HotCalls
import HandS.ExcIs
import HandS.Defaults
import HandS.ExcOwn
import KE.GoesMore
import HandS.Dict
import HandS.Words
import HandS.Small
import HandS.More
import PyProof.ExcBaseAll.ValueError
import HandS.WordsExc
import HandS.Head0
import HandS.Head1
import HandS.Head2
import HandS.HeadEnd
import HandS.HeadHook1
import HandS.HeadHook2
import HandS.HeadHook3
import HandS.HeadHook4
import HandS.HeadWalk
import HandS.NestedK
import PySem.Challenge.RW_hearsays_k01_stories_recognized
-- Z0
section
set_option Elab.async false
set_option linter.all false
set_option maxRecDepth 100000
/-! Z0: data, predicate transformers, an own syntax tree and its meaning. No heap here. -/
namespace Z
open PySem

/-! ### data -/
inductive D where
  | non | bl (b : Bool) | int (i : Int) | str (x : Str) | lst (xs : List D) | tup (xs : List D) | obj (a : Nat)
instance : Inhabited D := ⟨.non⟩

mutual
def D.eqv : D → D → Bool
  | .non, y => (match y with | .non => true | _ => false)
  | .bl a, y => (match y with | .bl b => a == b | .int j => (if a then 1 else 0) == j | _ => false)
  | .int i, y => (match y with | .bl b => i == (if b then 1 else 0) | .int j => i == j | _ => false)
  | .str x, y => (match y with | .str z => x == z | _ => false)
  | .lst xs, y => (match y with | .lst ys => eqvs xs ys | _ => false)
  | .tup xs, y => (match y with | .tup ys => eqvs xs ys | _ => false)
  | .obj _, _ => false
def eqvs : List D → List D → Bool
  | [], ys => (match ys with | [] => true | _ :: _ => false)
  | x :: xs, ys => (match ys with | [] => false | y :: ys => D.eqv x y && eqvs xs ys)
end
mutual
/-- data without objects, its texts in order -/
def D.ok : D → Bool
  | .non => true | .bl _ => true | .int _ => true
  | .str x => x.cps.all (· < 0x110000)
  | .lst xs => oks xs
  | .tup xs => oks xs
  | .obj _ => false
def oks : List D → Bool
  | [] => true
  | x :: xs => D.ok x && oks xs
end
mutual
def D.dep : D → Nat
  | .non => 0 | .bl _ => 0 | .int _ => 0 | .str _ => 0 | .obj _ => 0
  | .lst xs => deps xs + 1
  | .tup xs => deps xs + 1
def deps : List D → Nat
  | [] => 0
  | x :: xs => max (D.dep x) (deps xs)
end
/-- what == may be asked of -/
def eqOk (x y : D) : Bool := x.ok && y.ok && (decide (x.dep ≤ 40) || decide (y.dep ≤ 40))

/-! ### what is raised, and predicate transformers -/
structure Exc where
  cls : Str
  arg : Option D
abbrev W (α : Type) := Nat → (α → Nat → Prop) → (Exc → Nat → Prop) → Prop
def ok {α : Type} (a : α) : W α := fun n Q _ => Q a n
def bnd {α β : Type} (m : W α) (f : α → W β) : W β := fun n Q E => m n (fun a n' => f a n' Q E) E
def stuck {α : Type} : W α := fun _ _ _ => False
def rz {α : Type} (e : Exc) : W α := fun n _ E => E e n
/-- where a condition holds -/
def chk {α : Type} (b : Bool) (m : W α) : W α := match b with | true => m | false => stuck
/-- the draws' count is the caller's -/
def keepN {α : Type} (m : W α) : W α := fun n Q E => m n (fun a _ => Q a n) fun e _ => E e n
/-- nothing may be raised -/
def nox {α : Type} (m : W α) : W α := fun n Q _ => m n Q fun _ _ => False
/-- either way -/
def ife {α : Type} (b : Bool) (x y : W α) : W α := match b with | true => x | false => y
theorem bnd_ok {α β : Type} (a : α) (f : α → W β) : bnd (ok a) f = f a := rfl
theorem bnd_stuck {α β : Type} (f : α → W β) : bnd (stuck : W α) f = stuck := rfl
theorem bnd_rz {α β : Type} (e : Exc) (f : α → W β) : bnd (rz e : W α) f = rz e := rfl
theorem bnd_bnd {α β γ : Type} (m : W α) (f : α → W β) (g : β → W γ) : bnd (bnd m f) g = bnd m fun a => bnd (f a) g := rfl
theorem chk_true {α : Type} (m : W α) : chk true m = m := rfl
theorem keepN_ok {α : Type} (a : α) : keepN (ok a) = ok a := rfl
theorem keepN_rz {α : Type} (e : Exc) : keepN (rz e : W α) = rz e := rfl
theorem keepN_stuck {α : Type} : keepN (stuck : W α) = stuck := rfl
theorem nox_ok {α : Type} (a : α) : nox (ok a) = ok a := rfl
theorem nox_bnd {α β : Type} (m : W α) (f : α → W β) : nox (bnd m f) = bnd (nox m) fun a => nox (f a) := rfl
theorem ife_true {α : Type} (x y : W α) : ife true x y = x := rfl
theorem ife_false {α : Type} (x y : W α) : ife false x y = y := rfl
theorem bnd_ife {α β : Type} (b : Bool) (x y : W α) (f : α → W β) : bnd (ife b x y) f = ife b (bnd x f) (bnd y f) := by cases b <;> rfl
theorem bnd_chk {α β : Type} (b : Bool) (x : W α) (f : α → W β) : bnd (chk b x) f = chk b (bnd x f) := by cases b <;> rfl
/-- one is as good as another -/
def le {α : Type} (a b : W α) : Prop := ∀ n Q E, a n Q E → b n Q E
/-- what follows may be less -/
def Mono {α : Type} (m : W α) : Prop := ∀ n (Q Q' : α → Nat → Prop) (E E' : Exc → Nat → Prop), (∀ a n, Q a n → Q' a n) → (∀ e n, E e n → E' e n) → m n Q E → m n Q' E'

/-! ### slots -/
inductive Sl where
  | no | val (d : D) | own (ds : List D) | dct (kvs : List (Int × D)) | deck
abbrev Ev := List Sl
def at_ : Ev → Nat → Sl
  | [], _ => .no
  | s :: _, 0 => s
  | _ :: r, i + 1 => at_ r i
def put : Ev → Nat → Sl → Ev
  | [], _, _ => []
  | _ :: r, 0, x => x :: r
  | s :: r, i + 1, x => s :: put r i x
def wip (ρ : Ev) : List Nat → Ev
  | [] => ρ
  | v :: vs => put (wip ρ vs) v .no

/-! ### operations on data -/
inductive Op where
  | add | sub | mul | fdiv | mod | pow | bor
inductive Cm where
  | eq | ne | lt | le | gt | ge | isN | notN | isT | notT | inn | nin
def lim : Nat := 16777216
def atD (xs : List D) (i : Int) : Option D :=
  if 0 ≤ i then xs[i.toNat]? else if -(xs.length : Int) ≤ i then xs[(i + xs.length).toNat]? else none
def six (n d : Nat) : Option Int → Nat
  | none => d
  | some v => if v < 0 then (v + (n : Int)).toNat else min v.toNat n
def cutD {α : Type} (xs : List α) (lo hi : Option Int) : List α := (xs.drop (six xs.length 0 lo)).take (six xs.length xs.length hi - six xs.length 0 lo)
def oD : Option D → W D
  | some d => ok d
  | none => stuck
def bI (b : Bool) : Int := match b with | true => 1 | false => 0
def opS : Op → D → D → W D
  | .add, .int i, .int j => ok (.int (i + j))
  | .add, .int i, .bl b => ok (.int (i + bI b))
  | .add, .str x, .str y => chk (decide (x.length + y.length ≤ lim)) (ok (.str (x ++ y)))
  | .add, .tup xs, .tup ys => chk (decide (xs.length + ys.length ≤ lim)) (ok (.tup (xs ++ ys)))
  | .add, .lst xs, .lst ys => chk (decide (xs.length + ys.length ≤ lim)) (ok (.lst (xs ++ ys)))
  | .sub, .int i, .int j => ok (.int (i - j))
  | .sub, .bl a, .bl b => ok (.int (bI a - bI b))
  | .mul, .int i, .int j => chk (decide (i.natAbs < 2 ^ 63) || decide (j.natAbs < 2 ^ 63)) (ok (.int (i * j)))
  | .mul, .tup xs, .int k => chk (decide (1 ≤ k ∧ k ≤ 1000 ∧ 1 ≤ xs.length ∧ xs.length ≤ 1000)) (ok (.tup (List.replicate k.toNat xs).flatten))
  | .mul, .lst xs, .int k => chk (decide (0 ≤ k ∧ k ≤ 1000 ∧ xs.length ≤ 1000)) (ok (.lst (List.replicate k.toNat xs).flatten))
  | .fdiv, .int i, .int j => chk (decide (0 < j ∧ j < 2 ^ 200)) (ok (.int (i / j)))
  | .mod, .int i, .int j => chk (decide (0 < j)) (ok (.int (i % j)))
  | .pow, .int i, .int j => chk (decide (0 ≤ j ∧ j ≤ 1000 ∧ i.natAbs < 2 ^ 63)) (ok (.int (i ^ j.toNat)))
  | .bor, .int i, .int j => ok (.int (Builtin.bitOr i j))
  | _, _, _ => stuck
def inD (x : D) (ys : List D) : Bool := ys.any fun y => D.eqv y x
def isNoneD : D → Bool
  | .non => true
  | _ => false
def isBlD : D → Bool → Bool
  | .bl b, c => b == c
  | _, _ => false
def hasS (x y : Str) : Bool := !(Builtin.Str.occurrences y x 0 y.length 1).isEmpty
def cmS : Cm → D → D → W D
  | .eq, x, y => chk (eqOk x y) (ok (.bl (D.eqv x y)))
  | .ne, x, y => chk (eqOk x y) (ok (.bl (!D.eqv x y)))
  | .lt, .int i, .int j => ok (.bl (decide (i < j)))
  | .le, .int i, .int j => ok (.bl (decide (i ≤ j)))
  | .gt, .int i, .int j => ok (.bl (decide (j < i)))
  | .ge, .int i, .int j => ok (.bl (decide (j ≤ i)))
  | .isN, x, .non => ok (.bl (isNoneD x))
  | .notN, x, .non => ok (.bl (!isNoneD x))
  | .isT, x, .bl c => ok (.bl (isBlD x c))
  | .notT, x, .bl c => ok (.bl (!isBlD x c))
  | .inn, .str x, .str y => ok (.bl (hasS x y))
  | .inn, x, .lst ys => chk (eqOk x (.lst ys)) (ok (.bl (inD x ys)))
  | .inn, x, .tup ys => chk (eqOk x (.tup ys)) (ok (.bl (inD x ys)))
  | .nin, .str x, .str y => ok (.bl (!hasS x y))
  | .nin, x, .lst ys => chk (eqOk x (.lst ys)) (ok (.bl (!inD x ys)))
  | .nin, x, .tup ys => chk (eqOk x (.tup ys)) (ok (.bl (!inD x ys)))
  | _, _, _ => stuck
def asB : D → W Bool
  | .bl b => ok b
  | _ => stuck
def ixS : D → D → W D
  | .lst xs, .int i => oD (atD xs i)
  | .tup xs, .int i => oD (atD xs i)
  | .str x, .int i => chk (decide (x.length ≤ lim)) (oD ((if 0 ≤ i then x.cps.toList[i.toNat]? else if -(x.length : Int) ≤ i then x.cps.toList[(i + x.length).toNat]? else none).map fun c => .str ⟨#[c]⟩))
  | _, _ => stuck
def slS : D → Option Int → Option Int → W D
  | .lst xs, lo, hi => ok (.lst (cutD xs lo hi))
  | .tup xs, lo, hi => ok (.tup (cutD xs lo hi))
  | .str x, lo, hi => chk (decide (x.length ≤ lim)) (ok (.str ⟨(cutD x.cps.toList lo hi).toArray⟩))
  | _, _, _ => stuck
def revS : D → W D
  | .lst xs => ok (.lst xs.reverse)
  | .tup xs => ok (.tup xs.reverse)
  | _ => stuck
def intOf : D → W Int
  | .int i => ok i
  | _ => stuck

/-! ### built-ins -/
inductive Bi where
  | len | isInt | isBool | isStr | isTup | isLst | isTL
  | all | any | tuple | list | listR | min2 | max2 | minL | maxL | sum | abs | int | str | bool
  | sorted | sortedT | sortedSet | lenSet | sortedFst
def intsD : List D → Option (List Int)
  | [] => some []
  | .int i :: r => (intsD r).map (i :: ·)
  | _ :: _ => none
def bls : List D → Option (List Bool)
  | [] => some []
  | .bl b :: r => (bls r).map (b :: ·)
  | _ :: _ => none
def oW {α : Type} : Option α → W α
  | some a => ok a
  | none => stuck
def itemsD : D → W (List D)
  | .lst xs => ok xs
  | .tup xs => ok xs
  | _ => stuck
/-- the order of tuples of intsD, and of intsD, and of texts, by items -/
def lexI : List Int → List Int → Bool
  | [], [] => false
  | [], _ :: _ => true
  | _ :: _, [] => false
  | x :: xs, y :: ys => if x = y then lexI xs ys else decide (x < y)
def insI {α : Type} (lt : α → α → Bool) (x : α) : List α → List α
  | [] => [x]
  | y :: r => if lt x y then x :: y :: r else y :: insI lt x r
/-- sorted, stable -/
def srt {α : Type} (lt : α → α → Bool) (l : List α) : List α := l.foldl (fun acc x => insI lt x acc) []
def srtSet (l : List Int) : List Int := srt (fun a b => decide (a < b)) l.eraseDups
/-- a sort's key: an int, or a flat tuple of intsD -/
def keyOf : D → Option (List Int)
  | .tup xs => intsD xs
  | _ => none
def keysOf : List D → Option (List (List Int))
  | [] => some []
  | d :: r => match keyOf d, keysOf r with
    | some k, some ks => some (k :: ks)
    | _, _ => none
def fstD : D → Option D
  | .tup [a, _] => some a
  | _ => none
def fstsOf : List D → Option (List D)
  | [] => some []
  | d :: r => match fstD d, fstsOf r with
    | some k, some ks => some (k :: ks)
    | _, _ => none
def biS : Bi → List D → W D
  | .len, [.lst xs] => ok (.int xs.length)
  | .len, [.tup xs] => ok (.int xs.length)
  | .len, [.str x] => chk (decide (x.length ≤ lim)) (ok (.int x.length))
  | .isInt, [d] => (match d with | .int _ => ok (.bl true) | .bl _ => ok (.bl true) | .obj _ => stuck | _ => ok (.bl false))
  | .isBool, [d] => (match d with | .bl _ => ok (.bl true) | .obj _ => stuck | _ => ok (.bl false))
  | .isStr, [d] => (match d with | .str _ => ok (.bl true) | .obj _ => stuck | _ => ok (.bl false))
  | .isTup, [d] => (match d with | .tup _ => ok (.bl true) | .obj _ => stuck | _ => ok (.bl false))
  | .isLst, [d] => (match d with | .lst _ => ok (.bl true) | .obj _ => stuck | _ => ok (.bl false))
  | .isTL, [d] => (match d with | .lst _ => ok (.bl true) | .tup _ => ok (.bl true) | .obj _ => stuck | _ => ok (.bl false))
  | .all, [.lst xs] => bnd (oW (bls xs)) fun bs => ok (.bl (bs.all id))
  | .any, [.lst xs] => bnd (oW (bls xs)) fun bs => ok (.bl (bs.any id))
  | .tuple, [d] => bnd (itemsD d) fun xs => ok (.tup xs)
  | .list, [d] => bnd (itemsD d) fun xs => ok (.lst xs)
  | .listR, [.int n] => chk (decide (-100000 ≤ n ∧ n ≤ 100000)) (ok (.lst ((List.range n.toNat).map fun (i : Nat) => .int (i : Int))))
  | .min2, [.int a, .int b] => ok (.int (if b < a then b else a))
  | .max2, [.int a, .int b] => ok (.int (if a < b then b else a))
  | .minL, [.lst xs] => bnd (oW (intsD xs)) fun ns => (match ns with | [] => stuck | x :: r => ok (.int (r.foldl min x)))
  | .maxL, [.lst xs] => bnd (oW (intsD xs)) fun ns => (match ns with | [] => stuck | x :: r => ok (.int (r.foldl max x)))
  | .sum, [.lst xs] => bnd (oW (intsD xs)) fun ns => ok (.int ns.sum)
  | .abs, [.int i] => ok (.int (if i < 0 then -i else i))
  | .int, [.int i] => ok (.int i)
  | .int, [.bl b] => ok (.int (bI b))
  | .str, [.int i] => chk (decide (i.natAbs < 10 ^ 500)) (ok (.str (Str.ofString (toString i))))
  | .sorted, [.lst xs] => bnd (oW (intsD xs)) fun ns => ok (.lst ((srt (fun a b => decide (a < b)) ns).map .int))
  | .sortedT, [.lst xs] => bnd (oW (keysOf xs)) fun ks => ok (.lst ((srt lexI ks).map fun k => .tup (k.map .int)))
  | .sortedSet, [d] => bnd (itemsD d) fun xs => bnd (oW (intsD xs)) fun ns => chk (decide (ns.length ≤ 60)) (ok (.lst ((srtSet ns).map .int)))
  | .lenSet, [d] => bnd (itemsD d) fun xs => bnd (oW (intsD xs)) fun ns => chk (decide (ns.length ≤ 60)) (ok (.int ns.eraseDups.length))
  | .sortedFst, [.lst xs] => bnd (oW (fstsOf xs)) fun fs => bnd (oW (keysOf fs)) fun ks => ok (.lst ((srt (fun a b => lexI a.1 b.1) (ks.zip xs)).map (·.2)))
  | _, _ => stuck

/-! ### the tree -/
structure Fn where
  name : Str
  ar : Nat
  lvl : Nat
  sem : List Sl → W D
mutual
inductive Ex where
  | var (i : Nat) | own (i : Nat)
  | non | bl (b : Bool) | int (i : Int) | str (x : Str)
  | tup (es : Exs) | lst (es : Exs)
  | op (o : Op) (a b : Ex) | neg (a : Ex) | not (a : Ex)
  | cmp (o : Cm) (a b : Ex) | chain (o1 o2 : Cm) (a b c : Ex)
  | and (es : Exs) | or (es : Exs)
  | ite (t a b : Ex)
  | ix (a i : Ex) | slc (a : Ex) (lo hi : Ox) | rev (a : Ex)
  | call (f : Fn) (es : As)
  | bi (f : Bi) (es : Exs)
  | comp (elt : Ex) (t : Tg) (it : It) (c : Ox) (own : List Nat)
  | comp2 (elt : Ex) (t : Tg) (it : It) (c : Ox) (t2 : Tg) (it2 : It) (c2 : Ox) (own own2 : List Nat)
  | idx (a b : Ex) | cnt (a b : Ex) | join (a b : Ex) | split (a b : Ex)
  | fstr (es : Exs)
  | dget (i : Nat) (e : Ex)
  | dict (e : Ex) | dcp (i : Nat)
  | tryl (e : Ex)
inductive Exs where
  | nil | cons (e : Ex) (r : Exs)
inductive Ox where
  | none | some (e : Ex)
inductive As where
  | nil | val (e : Ex) (r : As) | deck (i : Nat) (r : As)
inductive It where
  | seq (e : Ex) | rng1 (a : Ex) | rng2 (a b : Ex) | enum (a : Ex) | zip (a b : Ex) | chars (a : Ex)
inductive Tg where
  | nm (i : Nat) | tup (ts : Tgs)
inductive Tgs where
  | nil | cons (t : Tg) (r : Tgs)
end
mutual
inductive St where
  | set (i : Nat) (e : Ex) | setO (i : Nat) (e : Ex)
  | move (j i : Nat) | freeze (i : Nat) | mkdeck (i : Nat) (a b : Ex)
  | asg (t : Tg) (e : Ex)
  | par (ts : Pgs) (es : Exs)
  | aug (i : Nat) (o : Op) (e : Ex)
  | setix (i : Nat) (k e : Ex) | app (i : Nat) (e : Ex) | dput (i : Nat) (k e : Ex)
  | iff (t : Ex) (a b : Sts)
  | for_ (t : Tg) (it : It) (b : Sts)
  | whl (t : Ex) (b : Sts)
  | ret (e : Ex) | rais (cls : Str) (arg : Ox)
  | expr (e : Ex)
inductive Sts where
  | nil | cons (s : St) (r : Sts)
/-- targets of a, b = x, y: a name (a value; an own list), a place in an own list -/
inductive Pg where
  | nm (i : Nat) | ow (i : Nat) | ix (i : Nat) (k : Ex)
inductive Pgs where
  | nil | cons (t : Pg) (r : Pgs)
end

/-! ### the meaning -/
def big : Sl → Bool
  | .own _ => true
  | .dct _ => true
  | .deck => true
  | _ => false
def isDeck : Sl → Bool
  | .deck => true
  | _ => false
def callW (f : Fn) (as : List Sl) : W D := match as.any isDeck with
  | true => f.sem as
  | false => keepN (f.sem as)
def plainAt (ρ : Ev) (own : List Nat) : Bool := own.all fun i => !big (at_ ρ i)
mutual
def bindT : Tg → D → Ev → W Ev
  | .nm i, d, ρ => ok (put ρ i (.val d))
  | .tup ts, d, ρ => (match d with | .tup ds => bindTs ts ds ρ | _ => stuck)
def bindTs : Tgs → List D → Ev → W Ev
  | .nil, ds, ρ => (match ds with | [] => ok ρ | _ :: _ => stuck)
  | .cons t r, ds, ρ => (match ds with | [] => stuck | d :: ds => bnd (bindT t d ρ) fun ρ' => bindTs r ds ρ')
end
/-- the items that a turn gives, in order -/
def gatW (f : D → W (List D)) : List D → W (List D)
  | [] => ok []
  | d :: r => bnd (f d) fun ys => bnd (gatW f r) fun zs => ok (ys ++ zs)
def zipD : List D → List D → List D
  | x :: xs, y :: ys => .tup [x, y] :: zipD xs ys
  | _, _ => []
/-- zip of two lists, of two tuples -/
def zipW : D → D → W (List D)
  | .lst xs, .lst ys => chk (decide (xs.length ≤ lim)) (ok (zipD xs ys))
  | .tup xs, .tup ys => chk (decide (xs.length ≤ lim)) (ok (zipD xs ys))
  | _, _ => stuck
def charsW : D → W (List D)
  | .str z => chk (decide (z.length ≤ lim)) (ok (z.cps.toList.map fun c => .str ⟨#[c]⟩))
  | _ => stuck
def enumD : Nat → List D → List D
  | _, [] => []
  | i, x :: xs => .tup [.int (i : Int), x] :: enumD (i + 1) xs
def rngD (a b : Int) : List D := (List.range (b - a).toNat).map fun (i : Nat) => .int (a + (i : Int))
def idxD (x : D) : List D → Nat → Option Nat
  | [], _ => none
  | y :: r, i => if D.eqv y x then some i else idxD x r (i + 1)
def strsD : List D → Option (List Str)
  | [] => some []
  | .str x :: r => (strsD r).map (x :: ·)
  | _ :: _ => none
def joinC (sep : List Nat) : List (List Nat) → List Nat
  | [] => []
  | [x] => x
  | x :: r => x ++ sep ++ joinC sep r
def splitC (c : Nat) : List Nat → List Nat → List (List Nat)
  | acc, [] => [acc.reverse]
  | acc, x :: r => if x = c then acc.reverse :: splitC c [] r else splitC c (x :: acc) r
def fmtD : D → Option (List Nat)
  | .str x => some x.cps.toList
  | .int i => some (Str.ofString (toString i)).cps.toList
  | _ => none
def fmtsD : List D → Option (List Nat)
  | [] => some []
  | d :: r => match fmtD d, fmtsD r with
    | some a, some b => some (a ++ b)
    | _, _ => none
def kinN : List (Str × Str) := [("InvalidStory", "story +"), ("InvalidHours", "hours +"), ("InvalidPerson", "person +"), ("InvalidLevel", "level +"), ("InvalidEvent", "event +"), ("InvalidOrder", "order +"),
  ("InvalidChain", "chain +"), ("InvalidPlan", "plan +"), ("InvalidClues", "clues +"), ("InvalidFact", "fact +"), ("InvalidIndex", "index +"), ("Unlike", "unlike +"), ("Contradiction", "contra +"), ("NothingToUndo", "undo +")]
def kinM : List (Str × Str) := [("TooMany", "many +"), ("InvalidText", "text +")]
/-- what _law_try tells of an error -/
def kinD (e : Exc) : Option D := match e.arg with
  | none => (kinN.lookup e.cls).map .str
  | some _ => none
def sTold : Str := "told"
def tryW (m : W D) : W D := fun n Q _ => m n (fun d n' => Q (.tup [.str sTold, d]) n') fun e n' => match kinD e with
  | some k => Q k n'
  | none => False
def dctAt : List (Int × D) → Int → Option D
  | [], _ => none
  | (k, d) :: r, i => if k = i then some d else dctAt r i
def dctPut (kvs : List (Int × D)) (i : Int) (x : D) : List (Int × D) :=
  if kvs.any (fun p => decide (p.1 = i)) then kvs.map fun p => if p.1 = i then (p.1, x) else p else kvs ++ [(i, x)]
def dctAll (ps : List (Int × D)) : List (Int × D) := ps.foldl (fun acc p => dctPut acc p.1 p.2) []
/-- a dict's pairs as a datum -/
def dctD (ps : List (Int × D)) : D := .tup (ps.map fun p => .tup [.int p.1, p.2])
def pairsD : List D → Option (List (Int × D))
  | [] => some []
  | d :: r => match d, pairsD r with
    | .tup [.int k, x], some ps => some ((k, x) :: ps)
    | _, _ => none

mutual
def evE : Ex → Ev → W D
  | .var i, ρ => (match at_ ρ i with | .val d => ok d | _ => stuck)
  | .own i, ρ => (match at_ ρ i with | .own ds => ok (.lst ds) | _ => stuck)
  | .non, _ => ok .non
  | .bl b, _ => ok (.bl b)
  | .int i, _ => ok (.int i)
  | .str x, _ => ok (.str x)
  | .tup es, ρ => bnd (evs es ρ) fun ds => ok (.tup ds)
  | .lst es, ρ => bnd (evs es ρ) fun ds => ok (.lst ds)
  | .op o a b, ρ => bnd (evE a ρ) fun x => bnd (evE b ρ) fun y => opS o x y
  | .neg a, ρ => bnd (evE a ρ) fun x => bnd (intOf x) fun i => ok (.int (-i))
  | .not a, ρ => bnd (evE a ρ) fun x => bnd (asB x) fun b => ok (.bl (!b))
  | .cmp o a b, ρ => bnd (evE a ρ) fun x => bnd (evE b ρ) fun y => cmS o x y
  | .chain o1 o2 a b c, ρ => bnd (evE a ρ) fun x => bnd (evE b ρ) fun y => bnd (cmS o1 x y) fun d => bnd (asB d) fun k => ife k (bnd (evE c ρ) fun z => cmS o2 y z) (ok (.bl false))
  | .and es, ρ => evAnd es ρ
  | .or es, ρ => evOr es ρ
  | .ite t a b, ρ => bnd (evE t ρ) fun x => bnd (asB x) fun k => ife k (evE a ρ) (evE b ρ)
  | .ix a i, ρ => bnd (evE a ρ) fun x => bnd (evE i ρ) fun y => ixS x y
  | .slc a lo hi, ρ => bnd (evE a ρ) fun x => bnd (evO lo ρ) fun l => bnd (evO hi ρ) fun h => slS x l h
  | .rev a, ρ => bnd (evE a ρ) fun x => revS x
  | .call f es, ρ => bnd (evA es ρ) fun as => callW f as
  | .bi f es, ρ => bnd (evs es ρ) fun ds => biS f ds
  | .comp elt t it c own, ρ => bnd (evI it ρ) fun ds => chk (plainAt ρ own) <| nox (bnd (gatW (fun d => bnd (bindT t d (wip ρ own)) fun ρ' => bnd (evC c ρ') fun k => ife k (bnd (evE elt ρ') fun y => ok [y]) (ok [])) ds) fun ys => ok (.lst ys))
  | .comp2 elt t it c t2 it2 c2 own own2, ρ => bnd (evI it ρ) fun ds => chk (plainAt ρ own && decide (ds.length ≤ 4000)) <| nox (bnd (gatW (fun d => bnd (bindT t d (wip ρ own)) fun ρ' => bnd (evC c ρ') fun k => ife k
      (bnd (evI it2 ρ') fun es => chk (plainAt ρ' own2 && decide (es.length ≤ 4000)) (gatW (fun e => bnd (bindT t2 e (wip ρ' own2)) fun ρ2 => bnd (evC c2 ρ2) fun k2 => ife k2 (bnd (evE elt ρ2) fun y => ok [y]) (ok [])) es)) (ok [])) ds) fun ys => ok (.lst ys))
  | .idx a b, ρ => bnd (evE a ρ) fun x => bnd (evE b ρ) fun y => bnd (itemsD x) fun xs => chk (eqOk x y) (bnd (oW (idxD y xs 0)) fun i => ok (.int (i : Int)))
  | .cnt a b, ρ => bnd (evE a ρ) fun x => bnd (evE b ρ) fun y => bnd (itemsD x) fun xs => chk (eqOk x y) (ok (.int ((xs.countP fun z => D.eqv z y : Nat) : Int)))
  | .join a b, ρ => bnd (evE a ρ) fun x => bnd (evE b ρ) fun y => (match x with
      | .str z => bnd (itemsD y) fun ys => bnd (oW (strsD ys)) fun ss => chk (decide ((joinC z.cps.toList (ss.map fun s => s.cps.toList)).length ≤ 1000000)) (ok (.str ⟨(joinC z.cps.toList (ss.map fun s => s.cps.toList)).toArray⟩))
      | _ => stuck)
  | .split a b, ρ => bnd (evE a ρ) fun x => bnd (evE b ρ) fun y => (match x, y with
      | .str z, .str ⟨s⟩ => (match s.toList with | [c] => chk (decide (z.length ≤ 1000000)) (ok (.lst ((splitC c [] z.cps.toList).map fun l => .str ⟨l.toArray⟩))) | _ => stuck)
      | _, _ => stuck)
  | .fstr es, ρ => bnd (evs es ρ) fun ds => bnd (oW (fmtsD ds)) fun l => chk (decide (l.length ≤ 1000000)) (ok (.str ⟨l.toArray⟩))
  | .dict e, ρ => bnd (evE e ρ) fun x => (match x with
      | .lst xs => bnd (oW (pairsD xs)) fun ps => chk (decide (xs.length ≤ 1000)) (ok (dctD (dctAll ps)))
      | _ => stuck)
  | .dcp j, ρ => (match at_ ρ j with | .dct kvs => ok (dctD kvs) | _ => stuck)
  | .dget i e, ρ => (match at_ ρ i with | .dct kvs => bnd (evE e ρ) fun x => bnd (intOf x) fun k => oD (dctAt kvs k) | _ => stuck)
  | .tryl e, ρ => tryW (evE e ρ)
def evs : Exs → Ev → W (List D)
  | .nil, _ => ok []
  | .cons e r, ρ => bnd (evE e ρ) fun x => bnd (evs r ρ) fun xs => ok (x :: xs)
def evAnd : Exs → Ev → W D
  | .nil, _ => stuck
  | .cons e r, ρ => (match r with
    | .nil => evE e ρ
    | .cons _ _ => bnd (evE e ρ) fun x => bnd (asB x) fun k => ife k (evAnd r ρ) (ok (.bl false)))
def evOr : Exs → Ev → W D
  | .nil, _ => stuck
  | .cons e r, ρ => (match r with
    | .nil => evE e ρ
    | .cons _ _ => bnd (evE e ρ) fun x => bnd (asB x) fun k => ife k (ok (.bl true)) (evOr r ρ))
def evO : Ox → Ev → W (Option Int)
  | .none, _ => ok none
  | .some e, ρ => bnd (evE e ρ) fun x => bnd (intOf x) fun i => ok (some i)
def evC : Ox → Ev → W Bool
  | .none, _ => ok true
  | .some e, ρ => bnd (evE e ρ) fun x => asB x
def evA : As → Ev → W (List Sl)
  | .nil, _ => ok []
  | .val e r, ρ => bnd (evE e ρ) fun x => bnd (evA r ρ) fun xs => ok (.val x :: xs)
  | .deck i r, ρ => (match at_ ρ i with | .deck => bnd (evA r ρ) fun xs => ok (.deck :: xs) | _ => stuck)
def evI : It → Ev → W (List D)
  | .seq e, ρ => bnd (evE e ρ) fun x => itemsD x
  | .rng1 a, ρ => bnd (evE a ρ) fun x => bnd (intOf x) fun j => chk (decide (-100000 ≤ j ∧ j ≤ 100000)) (ok (rngD 0 j))
  | .rng2 a b, ρ => bnd (evE a ρ) fun x => bnd (evE b ρ) fun y => bnd (intOf x) fun i => bnd (intOf y) fun j => chk (decide ((-100000 ≤ i ∧ i ≤ 100000) ∧ (-100000 ≤ j ∧ j ≤ 100000))) (ok (rngD i j))
  | .enum a, ρ => bnd (evE a ρ) fun x => bnd (itemsD x) fun xs => ok (enumD 0 xs)
  | .zip a b, ρ => bnd (evE a ρ) fun x => bnd (evE b ρ) fun y => zipW x y
  | .chars a, ρ => bnd (evE a ρ) fun x => charsW x
end
inductive Fl where
  | nx (ρ : Ev) | rt (d : D)
/-- a new object's slot -/
def slO : D → Sl
  | .lst xs => .own xs
  | .tup ds => (match pairsD ds with | some ps => .dct ps | none => .no)
  | _ => .no
def isNoS : Sl → Bool
  | .no => true
  | _ => false
def noDk (ρ : Ev) (i : Nat) : Bool := (put ρ i .no).all fun s => !isDeck s
/-- behind a step -/
def thenF (m : W Fl) (f : Ev → W Fl) : W Fl := bnd m fun fl => match fl with
  | .nx ρ => f ρ
  | .rt d => ok (.rt d)
def forW (t : Tg) (body : Ev → W Fl) : List D → Ev → W Fl
  | [], ρ => ok (.nx ρ)
  | d :: r, ρ => bnd (bindT t d ρ) fun ρ1 => thenF (body ρ1) fun ρ2 => forW t body r ρ2
def whlN (c : Ev → W Bool) (body : Ev → W Fl) : Nat → Ev → W Fl
  | 0, _ => stuck
  | k + 1, ρ => bnd (c ρ) fun b => ife b (thenF (body ρ) fun ρ2 => whlN c body k ρ2) (ok (.nx ρ))
def whlW (c : Ev → W Bool) (body : Ev → W Fl) (ρ : Ev) : W Fl := fun n Q E => ∃ k, whlN c body k ρ n Q E
def crd : Nat := 2 ^ 36
def deckW (i : Nat) (ρ : Ev) : List D → W Fl
  | [.int _, .int k] => chk (decide (0 ≤ k ∧ k ≤ 1000) && noDk ρ i) fun _ Q _ => Q (.nx (put ρ i .deck)) crd
  | _ => stuck
def assP : Pgs → List D → Ev → W Ev
  | .nil, ds, ρ => (match ds with | [] => ok ρ | _ :: _ => stuck)
  | .cons t r, ds, ρ => (match ds with
    | [] => stuck
    | d :: ds => (match t with
      | .nm i => assP r ds (put ρ i (.val d))
      | .ow i => chk (!isNoS (slO d)) (assP r ds (put ρ i (slO d)))
      | .ix i k => (match at_ ρ i with
        | .own xs => bnd (evE k ρ) fun y => bnd (intOf y) fun j => chk (decide (0 ≤ j ∧ j < xs.length)) (assP r ds (put ρ i (.own (xs.set j.toNat d))))
        | _ => stuck)))
mutual
def runS : St → Ev → W Fl
  | .set i e, ρ => bnd (evE e ρ) fun d => ok (.nx (put ρ i (.val d)))
  | .setO i e, ρ => bnd (evE e ρ) fun d => chk (!isNoS (slO d)) (ok (.nx (put ρ i (slO d))))
  | .move j i, ρ => (match at_ ρ i with
    | .own xs => ok (.nx (put (put ρ i .no) j (.own xs)))
    | .dct xs => ok (.nx (put (put ρ i .no) j (.dct xs)))
    | _ => stuck)
  | .freeze i, ρ => (match at_ ρ i with | .own xs => ok (.nx (put ρ i (.val (.lst xs)))) | _ => stuck)
  | .mkdeck i a b, ρ => bnd (evs (.cons a (.cons b .nil)) ρ) fun ds => deckW i ρ ds
  | .asg t e, ρ => bnd (evE e ρ) fun d => bnd (bindT t d ρ) fun ρ' => ok (.nx ρ')
  | .par ts es, ρ => bnd (evs es ρ) fun ds => bnd (assP ts ds ρ) fun ρ' => ok (.nx ρ')
  | .aug i o e, ρ => (match at_ ρ i with | .val x => bnd (evE e ρ) fun y => bnd (opS o x y) fun z => ok (.nx (put ρ i (.val z))) | _ => stuck)
  | .setix i k e, ρ => bnd (evE e ρ) fun d => (match at_ ρ i with
    | .own xs => bnd (evE k ρ) fun y => bnd (intOf y) fun j => chk (decide (0 ≤ j ∧ j < xs.length)) (ok (.nx (put ρ i (.own (xs.set j.toNat d)))))
    | _ => stuck)
  | .app i e, ρ => (match at_ ρ i with | .own xs => bnd (evE e ρ) fun d => chk (decide (xs.length < lim)) (ok (.nx (put ρ i (.own (xs ++ [d]))))) | _ => stuck)
  | .dput i k e, ρ => bnd (evE e ρ) fun d => (match at_ ρ i with
    | .dct kvs => bnd (evE k ρ) fun y => bnd (intOf y) fun j => chk (decide (kvs.length ≤ 1000)) (ok (.nx (put ρ i (.dct (dctPut kvs j d)))))
    | _ => stuck)
  | .iff t a b, ρ => bnd (evE t ρ) fun x => bnd (asB x) fun k => ife k (runs a ρ) (runs b ρ)
  | .for_ t it b, ρ => bnd (evI it ρ) fun ds => forW t (fun ρ' => runs b ρ') ds ρ
  | .whl t b, ρ => whlW (fun ρ' => bnd (evE t ρ') fun x => asB x) (fun ρ' => runs b ρ') ρ
  | .ret e, ρ => bnd (evE e ρ) fun d => ok (.rt d)
  | .rais cls arg, ρ => (match arg with
    | .none => rz ⟨cls, none⟩
    | .some e => bnd (evE e ρ) fun d => rz ⟨cls, some d⟩)
  | .expr e, ρ => bnd (evE e ρ) fun _ => ok (.nx ρ)
def runs : Sts → Ev → W Fl
  | .nil, ρ => ok (.nx ρ)
  | .cons s r, ρ => thenF (runS s ρ) fun ρ' => runs r ρ'
end
/-- a def's body, m slots -/
def run (m : Nat) (b : Sts) (as : List Sl) : W D := bnd (runs b (as ++ List.replicate (m - as.length) .no)) fun fl => match fl with
  | .nx _ => ok .non
  | .rt d => ok d
end Z
end
-- Z1
section
set_option Elab.async false
set_option linter.all false
set_option maxRecDepth 100000
/-! Z1: how data lie in the heap; a step's end. -/
namespace Z
open PySem PySem.Spec PyProof.Rows L2

/-! ### data in the heap -/
mutual
inductive Rp (K : PySem.W.Frag) (F : Hp) : V → D → Prop
  | non : Rp K F .non .non
  | bl (b : Bool) : Rp K F (.bl b) (.bl b)
  | int (i : Int) : Rp K F (.int i) (.int i)
  | str (x : Str) : Rp K F (.str x) (.str x)
  | lst {a : Addr} {xs : List V} {ds : List D} : SqL K F a xs → Rps K F xs ds → Rp K F (.ref a) (.lst ds)
  | tup {a : Addr} {xs : List V} {ds : List D} : SqT K F a xs → Rps K F xs ds → Rp K F (.ref a) (.tup ds)
  | obj (a : Addr) : Rp K F (.ref a) (.obj a)
inductive Rps (K : PySem.W.Frag) (F : Hp) : List V → List D → Prop
  | nil : Rps K F [] []
  | cons {v : V} {vs : List V} {d : D} {ds : List D} : Rp K F v d → Rps K F vs ds → Rps K F (v :: vs) (d :: ds)
end
def Sub (F F' : Hp) : Prop := ∀ a o, F a = some o → F' a = some o
theorem Sub.refl (F : Hp) : Sub F F := fun _ _ h => h
theorem Sub.trans {F F1 F2 : Hp} (a : Sub F F1) (b : Sub F1 F2) : Sub F F2 := fun x o h => b x o (a x o h)
theorem Sub.nope {F F' : Hp} (s : Sub F F') {a : Addr} (h : F' a = none) : F a = none := by
  cases q : F a with
  | none => rfl
  | some o => rw [s a o q] at h; cases h
theorem Sub.upd {F F' : Hp} {p : Addr} {o : HO} (s : Sub F F') (h : F' p = none) : Sub (upd F p o) (upd F' p o) := fun a u e => by
  by_cases hp : a = p
  · subst hp; rw [upd_same] at e ⊢; exact e
  · rw [upd_ne hp] at e ⊢; exact s a u e
theorem sub_upd {F : Hp} {p : Addr} {o : HO} (h : F p = none) : Sub F (upd F p o) := fun a u e => by
  rw [upd_ne (ne_of_none e h)]; exact e
theorem Sub.seqL {K : PySem.W.Frag} {F F' : Hp} {a : Addr} {xs : List V} (s : Sub F F') (h : SqL K F a xs) : SqL K F' a xs := by
  rcases h with (h | ⟨o, h⟩) | h
  · exact .inl (.inl (s _ _ h))
  · exact .inl (.inr ⟨o, s _ _ h⟩)
  · exact .inr h
theorem Sub.seqT {K : PySem.W.Frag} {F F' : Hp} {a : Addr} {xs : List V} (s : Sub F F') (h : SqT K F a xs) : SqT K F' a xs := by
  rcases h with (h | ⟨o, h⟩) | h
  · exact .inl (.inl (s _ _ h))
  · exact .inl (.inr ⟨o, s _ _ h⟩)
  · exact .inr h
mutual
theorem Rp.mono {K : PySem.W.Frag} {F F' : Hp} (s : Sub F F') : ∀ {d : D} {v : V}, Rp K F v d → Rp K F' v d
  | .non, _, h => by cases h; exact .non
  | .bl b, _, h => by cases h; exact .bl b
  | .int i, _, h => by cases h; exact .int i
  | .str x, _, h => by cases h; exact .str x
  | .lst ds, _, h => by cases h with | lst a b => exact .lst (s.seqL a) (Rps.mono s b)
  | .tup ds, _, h => by cases h with | tup a b => exact .tup (s.seqT a) (Rps.mono s b)
  | .obj a, _, h => by cases h; exact .obj a
theorem Rps.mono {K : PySem.W.Frag} {F F' : Hp} (s : Sub F F') : ∀ {ds : List D} {vs : List V}, Rps K F vs ds → Rps K F' vs ds
  | [], _, h => by cases h; exact .nil
  | d :: ds, _, h => by cases h with | cons a b => exact .cons (Rp.mono s a) (Rps.mono s b)
end
section
variable {K : PySem.W.Frag} {F F' : Hp}
theorem Rps.length : ∀ {ds : List D} {vs : List V}, Rps K F vs ds → vs.length = ds.length
  | [], _, h => by cases h; rfl
  | d :: ds, _, h => by cases h with | cons a b => simp [b.length]
theorem Rps.app : ∀ {ds es : List D} {vs ws : List V}, Rps K F vs ds → Rps K F ws es → Rps K F (vs ++ ws) (ds ++ es)
  | [], _, _, _, h, g => by cases h; exact g
  | d :: ds, _, _, _, h, g => by cases h with | cons a b => exact .cons a (b.app g)
theorem Rps.get : ∀ {ds : List D} {vs : List V} {i : Nat} {d : D}, Rps K F vs ds → ds[i]? = some d → ∃ v, vs[i]? = some v ∧ Rp K F v d
  | [], _, _, _, h, e => by simp at e
  | d :: ds, _, 0, _, h, e => by cases h with | cons a b => simp at e; subst e; exact ⟨_, rfl, a⟩
  | d :: ds, _, i + 1, _, h, e => by cases h with | cons a b => simpa using b.get (i := i) (by simpa using e)
theorem Rps.getV : ∀ {ds : List D} {vs : List V} {i : Nat} {v : V}, Rps K F vs ds → vs[i]? = some v → ∃ d, ds[i]? = some d ∧ Rp K F v d
  | [], _, _, _, h, e => by cases h; simp at e
  | d :: ds, _, 0, _, h, e => by cases h with | cons a b => simp at e; subst e; exact ⟨_, rfl, a⟩
  | d :: ds, _, i + 1, _, h, e => by cases h with | cons a b => simpa using b.getV (i := i) (by simpa using e)
theorem Rps.take : ∀ (n : Nat) {ds : List D} {vs : List V}, Rps K F vs ds → Rps K F (vs.take n) (ds.take n)
  | 0, _, _, _ => .nil
  | n + 1, _, _, .nil => .nil
  | n + 1, _, _, .cons a b => .cons a (Rps.take n b)
theorem Rps.drop : ∀ (n : Nat) {ds : List D} {vs : List V}, Rps K F vs ds → Rps K F (vs.drop n) (ds.drop n)
  | 0, _, _, h => h
  | n + 1, _, _, .nil => .nil
  | n + 1, _, _, .cons a b => Rps.drop n b
theorem Rps.set {v : V} {d : D} (h : Rp K F v d) : ∀ (n : Nat) {ds : List D} {vs : List V}, Rps K F vs ds → Rps K F (vs.set n v) (ds.set n d)
  | _, _, _, .nil => .nil
  | 0, _, _, .cons a b => .cons h b
  | n + 1, _, _, .cons a b => .cons a (Rps.set h n b)
theorem Rps.rev : ∀ {ds : List D} {vs : List V}, Rps K F vs ds → Rps K F vs.reverse ds.reverse
  | _, _, .nil => .nil
  | _, _, .cons a b => by rw [List.reverse_cons, List.reverse_cons]; exact (Rps.rev b).app (.cons a .nil)
theorem Rps.rep {ds : List D} {vs : List V} (h : Rps K F vs ds) : ∀ n : Nat, Rps K F (List.replicate n vs).flatten (List.replicate n ds).flatten
  | 0 => .nil
  | n + 1 => by rw [List.replicate_succ, List.replicate_succ, List.flatten_cons, List.flatten_cons]; exact h.app (Rps.rep h n)
theorem six_eq (n d : Nat) (o : Option Int) : six n d o = HT.sIx n d o := by
  cases o with
  | none => rfl
  | some v => rfl
theorem Rps.cut {ds : List D} {vs : List V} (h : Rps K F vs ds) (lo hi : Option Int) : Rps K F (cutV vs lo hi) (cutD ds lo hi) := by
  unfold cutV cutD
  rw [six_eq, six_eq, h.length]
  exact (h.drop _).take _
theorem rp_new {p : Addr} {vs : List V} {ds : List D} (hp : F p = none) (h : Rps K F vs ds) : Rp K (upd F p (.lst vs)) (.ref p) (.lst ds) :=
  .lst (SqL.of upd_same) (h.mono (sub_upd hp))
theorem rp_newT {p : Addr} {vs : List V} {ds : List D} (hp : F p = none) (h : Rps K F vs ds) : Rp K (upd F p (.tup vs)) (.ref p) (.tup ds) :=
  .tup (SqT.of upd_same) (h.mono (sub_upd hp))
theorem rps_ints : ∀ (ns : List Int), Rps K F (ns.map V.int) (ns.map D.int)
  | [] => .nil
  | n :: r => .cons (.int n) (rps_ints r)
theorem rps_strs : ∀ (ns : List Str), Rps K F (ns.map V.str) (ns.map D.str)
  | [] => .nil
  | n :: r => .cons (.str n) (rps_strs r)
theorem intsD_map : ∀ {ds : List D} {ns : List Int}, intsD ds = some ns → ds = ns.map D.int
  | [], _, h => by cases h; rfl
  | .int i :: r, ns, h => by
    unfold intsD at h
    cases q : intsD r with
    | none => rw [q] at h; cases h
    | some ms =>
      rw [q] at h
      cases h
      rw [intsD_map q]; rfl
  | .non :: r, ns, h => by cases h
  | .bl _ :: r, ns, h => by cases h
  | .str _ :: r, ns, h => by cases h
  | .lst _ :: r, ns, h => by cases h
  | .tup _ :: r, ns, h => by cases h
  | .obj _ :: r, ns, h => by cases h
theorem rps_intsV : ∀ {ns : List Int} {vs : List V}, Rps K F vs (ns.map D.int) → vs = ns.map V.int
  | [], _, h => by cases h; rfl
  | n :: r, _, h => by
    cases h with
    | cons a b =>
      cases a
      rw [rps_intsV b]; rfl
theorem bls_map : ∀ {ds : List D} {ns : List Bool}, bls ds = some ns → ds = ns.map D.bl
  | [], _, h => by cases h; rfl
  | .bl i :: r, ns, h => by
    unfold bls at h
    cases q : bls r with
    | none => rw [q] at h; cases h
    | some ms =>
      rw [q] at h
      cases h
      rw [bls_map q]; rfl
  | .non :: r, ns, h => by cases h
  | .int _ :: r, ns, h => by cases h
  | .str _ :: r, ns, h => by cases h
  | .lst _ :: r, ns, h => by cases h
  | .tup _ :: r, ns, h => by cases h
  | .obj _ :: r, ns, h => by cases h
theorem rps_blsV : ∀ {ns : List Bool} {vs : List V}, Rps K F vs (ns.map D.bl) → vs = ns.map V.bl
  | [], _, h => by cases h; rfl
  | n :: r, _, h => by
    cases h with
    | cons a b =>
      cases a
      rw [rps_blsV b]; rfl
theorem strsD_map : ∀ {ds : List D} {ns : List Str}, strsD ds = some ns → ds = ns.map D.str
  | [], _, h => by cases h; rfl
  | .str i :: r, ns, h => by
    unfold strsD at h
    cases q : strsD r with
    | none => rw [q] at h; cases h
    | some ms =>
      rw [q] at h
      cases h
      rw [strsD_map q]; rfl
  | .non :: r, ns, h => by cases h
  | .bl _ :: r, ns, h => by cases h
  | .int _ :: r, ns, h => by cases h
  | .lst _ :: r, ns, h => by cases h
  | .tup _ :: r, ns, h => by cases h
  | .obj _ :: r, ns, h => by cases h
theorem rps_strsV : ∀ {ns : List Str} {vs : List V}, Rps K F vs (ns.map D.str) → vs = ns.map V.str
  | [], _, h => by cases h; rfl
  | n :: r, _, h => by
    cases h with
    | cons a b =>
      cases a
      rw [rps_strsV b]; rfl
end

/-! ### slots -/
/-- the draws' list: small numbers behind the first; so many draws may come -/
def DeckOk (x y z : Int) (n : Nat) : Prop := 0 ≤ x ∧ 0 ≤ y ∧ y < 2147483648 ∧ 0 ≤ z ∧ z + n ≤ 2 ^ 36 + 2000
def DRel (K : PySem.W.Frag) (F : Hp) : List (Key × V) → List (Int × D) → Prop
  | [], [] => True
  | (k, v) :: r, (i, d) :: s => k = .inl i ∧ Rp K F v d ∧ DRel K F r s
  | _, _ => False
structure Rl (K : PySem.W.Frag) (T : List (Addr × Str)) (ρ : Ev) (n : Nat) (F : Hp) (σ : L2.St) (H : Hp) : Prop where
  sub : Sub F H
  len : ρ.length = σ.length
  val : ∀ i d, at_ ρ i = .val d → ∃ v, σ[i]? = some (some v) ∧ Rp K F v d
  own : ∀ i ds, at_ ρ i = .own ds → ∃ a vs, σ[i]? = some (some (.ref a)) ∧ H a = some (.lst vs) ∧ F a = none ∧ Rps K F vs ds
  dct : ∀ i kvs, at_ ρ i = .dct kvs → ∃ a kv, σ[i]? = some (some (.ref a)) ∧ H a = some (.dK kv) ∧ F a = none ∧ DRel K F kv kvs
  deck : ∀ i, at_ ρ i = .deck → ∃ a x y z, σ[i]? = some (some (.ref a)) ∧ H a = some (.lst [.int x, .int y, .int z]) ∧ F a = none ∧ DeckOk x y z n
  dist : ∀ i j a, i ≠ j → big (at_ ρ i) = true → big (at_ ρ j) = true → σ[i]? = some (some (.ref a)) → σ[j]? = some (some (.ref a)) → False
  tabs : LamX.Tabs T H
  pure : ∀ a ps, F a ≠ some (.tbl ps)
  one : ∀ i j, at_ ρ i = .deck → at_ ρ j = .deck → i = j
def Grow (F H F' : Hp) : Prop := Sub F F' ∧ ∀ a, H a ≠ none → F a = none → F' a = none
/-- what stood stands: but the draws' list and the tables, which stand otherwise -/
def Keep (D : Addr → Prop) (H H' : Hp) : Prop := ∀ b o, H b = some o → H' b = some o ∨ ((D b ∨ ∃ ps, o = .tbl ps) ∧ H' b ≠ none)
def dk (ρ : Ev) (σ : L2.St) : Addr → Prop := fun a => ∃ i, at_ ρ i = .deck ∧ σ[i]? = some (some (.ref a))
structure Post (K : PySem.W.Frag) (T : List (Addr × Str)) (ρ : Ev) (σ : L2.St) (F H : Hp) (n' : Nat) (F' H' : Hp) : Prop where
  rl : Rl K T ρ n' F' σ H'
  grow : Grow F H F'
  keep : Keep (dk ρ σ) H H'
theorem Keep.refl (D : Addr → Prop) (H : Hp) : Keep D H H := fun _ _ h => .inl h
theorem Keep.nope {D : Addr → Prop} {H H' : Hp} (k : Keep D H H') {a : Addr} (h : H' a = none) : H a = none := by
  cases q : H a with
  | none => rfl
  | some o =>
    rcases k a o q with z | z
    · rw [h] at z; cases z
    · exact absurd h z.2
theorem Keep.trans {D : Addr → Prop} {H H1 H2 : Hp} (a : Keep D H H1) (b : Keep D H1 H2) : Keep D H H2 := fun x o h => by
  rcases a x o h with z | ⟨z, y⟩
  · exact b x o z
  · refine .inr ⟨z, fun q => y (b.nope q)⟩
theorem Keep.mono {D D' : Addr → Prop} {H H1 : Hp} (a : Keep D H H1) (h : ∀ b, D b → D' b) : Keep D' H H1 := fun x o e => (a x o e).imp_right fun z => ⟨z.1.imp_left (h x), z.2⟩
theorem Grow.refl (F H : Hp) : Grow F H F := ⟨Sub.refl F, fun _ _ h => h⟩
theorem Grow.trans {D : Addr → Prop} {F F1 F2 H H1 : Hp} (a : Grow F H F1) (k : Keep D H H1) (b : Grow F1 H1 F2) : Grow F H F2 :=
  ⟨a.1.trans b.1, fun x h n => b.2 x (fun z => h (k.nope z)) (a.2 x h n)⟩
section
variable {K : PySem.W.Frag} {T : List (Addr × Str)} {ρ : Ev} {σ : L2.St} {F F1 F2 H H1 H2 : Hp} {n n1 n2 : Nat}
theorem Post.refl (r : Rl K T ρ n F σ H) : Post K T ρ σ F H n F H := ⟨r, Grow.refl F H, Keep.refl _ H⟩
theorem Post.trans (a : Post K T ρ σ F H n1 F1 H1) (b : Post K T ρ σ F1 H1 n2 F2 H2) : Post K T ρ σ F H n2 F2 H2 := ⟨b.rl, a.grow.trans a.keep b.grow, a.keep.trans b.keep⟩
/-- a new object, known from now on -/
theorem Rl.new (r : Rl K T ρ n F σ H) {p : Addr} {o : HO} (hp : H p = none) (ho : ∀ ps, o ≠ .tbl ps) : Post K T ρ σ F H n (upd F p o) (upd H p o) := by
  have fp : F p = none := r.sub.nope hp
  have up : ∀ {a : Addr} {u : HO}, H a = some u → upd H p o a = some u := fun {a u} e => by rw [upd_ne (ne_of_none e hp)]; exact e
  have un : ∀ {a : Addr} {u : HO}, H a = some u → F a = none → upd F p o a = none := fun {a u} e f => by rw [upd_ne (ne_of_none e hp)]; exact f
  have sF : Sub F (upd F p o) := sub_upd fp
  refine ⟨⟨r.sub.upd hp, r.len, fun i d e => ?_, fun i ds e => ?_, fun i kvs e => ?_, fun i e => ?_, r.dist, r.tabs.ext fun b u e => up e, fun a ps e => ?_, r.one⟩, ⟨sF, fun a h f => ?_⟩, fun b u e => .inl (up e)⟩
  · obtain ⟨v, h1, h2⟩ := r.val i d e
    exact ⟨v, h1, h2.mono sF⟩
  · obtain ⟨a, vs, h1, h2, h3, h4⟩ := r.own i ds e
    exact ⟨a, vs, h1, up h2, un h2 h3, h4.mono sF⟩
  · obtain ⟨a, kv, h1, h2, h3, h4⟩ := r.dct i kvs e
    refine ⟨a, kv, h1, up h2, un h2 h3, ?_⟩
    clear h2 e h1
    induction kv generalizing kvs with
    | nil => cases kvs with
      | nil => trivial
      | cons _ _ => exact h4
    | cons q qs ih => cases kvs with
      | nil => exact h4
      | cons z zs => exact ⟨h4.1, h4.2.1.mono sF, ih zs h4.2.2⟩
  · obtain ⟨a, x, y, z, h1, h2, h3, h4⟩ := r.deck i e
    exact ⟨a, x, y, z, h1, up h2, un h2 h3, h4⟩
  · by_cases q : a = p
    · rw [q, upd_same] at e; exact ho ps (Option.some.inj e)
    · rw [upd_ne q] at e; exact r.pure a ps e
  · rw [upd_ne (fun z => h (by rw [z]; exact hp))]; exact f
end
end Z
end
-- Z2
section
set_option Elab.async false
set_option linter.all false
set_option maxRecDepth 100000
set_option maxHeartbeats 1000000
/-! Z2: operations on data, over the layer's values. -/
namespace Z
open PySem PySem.Spec PyProof.Rows L2

/-! ### steps that end -/
theorem stuck_ne {α : Type} [Inhabited α] {z : α} : (stuck : W α) ≠ ok z := fun h => by
  have e := congrFun (congrFun (congrFun h 0) (fun _ _ => True)) (fun _ _ => True)
  exact (e.symm ▸ trivial : (stuck : W α) 0 (fun _ _ => True) (fun _ _ => True))
theorem ok_inj {α : Type} {a z : α} (h : (ok a : W α) = ok z) : a = z := by
  have e := congrFun (congrFun (congrFun h 0) (fun x _ => x = z)) (fun _ _ => True)
  exact (e.symm ▸ (rfl : z = z) : (ok a : W α) 0 (fun x _ => x = z) (fun _ _ => True))
theorem chk_ok {α : Type} [Inhabited α] {b : Bool} {m : W α} {z : α} (h : chk b m = ok z) : b = true ∧ m = ok z := by
  cases b with
  | true => exact ⟨rfl, h⟩
  | false => exact absurd h stuck_ne
theorem oD_ok {o : Option D} {z : D} (h : oD o = ok z) : o = some z := by
  cases o with
  | none => exact absurd h stuck_ne
  | some d => rw [ok_inj (show ok d = ok z from h)]
/-- it ends with a value, or is stuck -/
def Det {α : Type} (m : W α) : Prop := m = stuck ∨ ∃ z, m = ok z
theorem Det.stuck {α : Type} : Det (stuck : W α) := .inl rfl
theorem Det.ok {α : Type} (a : α) : Det (ok a) := .inr ⟨a, rfl⟩
theorem Det.chk {α : Type} {b : Bool} {m : W α} (h : Det m) : Det (chk b m) := by
  cases b with
  | true => exact h
  | false => exact .inl rfl
theorem Det.oD (o : Option D) : Det (oD o) := by cases o; exact .inl rfl; exact .inr ⟨_, rfl⟩
theorem Det.oW {α : Type} (o : Option α) : Det (oW o) := by cases o; exact .inl rfl; exact .inr ⟨_, rfl⟩
theorem Det.bnd {α β : Type} {m : W α} {f : α → W β} (h : Det m) (g : ∀ a, Det (f a)) : Det (bnd m f) := by
  rcases h with e | ⟨z, e⟩
  · rw [e]; exact .inl rfl
  · rw [e]; exact g z
theorem Det.get {α : Type} {m : W α} {n : Nat} {Q : α → Nat → Prop} {E : Exc → Nat → Prop} (d : Det m) (h : m n Q E) : ∃ z, m = Z.ok z ∧ Q z n := by
  rcases d with e | ⟨z, e⟩
  · rw [e] at h; exact h.elim
  · rw [e] at h; exact ⟨z, e, h⟩
theorem det_opS (o : Op) (d e : D) : Det (opS o d e) := by
  unfold opS
  split <;> first | exact .ok _ | exact .chk (.ok _) | exact .stuck
theorem det_cmS (o : Cm) (d e : D) : Det (cmS o d e) := by
  unfold cmS
  split <;> first | exact .ok _ | exact .chk (.ok _) | exact .stuck
theorem det_asB (d : D) : Det (asB d) := by cases d <;> first | exact .ok _ | exact .stuck
theorem det_intOf (d : D) : Det (intOf d) := by cases d <;> first | exact .ok _ | exact .stuck
theorem det_itemsD (d : D) : Det (itemsD d) := by cases d <;> first | exact .ok _ | exact .stuck
theorem det_ixS (d e : D) : Det (ixS d e) := by
  unfold ixS
  split <;> first | exact .oD _ | exact .chk (.oD _) | exact .stuck
theorem det_slS (d : D) (lo hi : Option Int) : Det (slS d lo hi) := by
  unfold slS
  split <;> first | exact .ok _ | exact .chk (.ok _) | exact .stuck
theorem det_revS (d : D) : Det (revS d) := by cases d <;> first | exact .ok _ | exact .stuck
theorem det_biS (f : Bi) (ds : List D) : Det (biS f ds) := by
  unfold biS
  split <;> repeat' first
    | with_reducible exact Det.ok _
    | with_reducible exact Det.stuck
    | with_reducible exact det_itemsD _
    | with_reducible exact Det.oW _
    | with_reducible refine Det.chk ?_
    | with_reducible refine Det.bnd ?_ fun _ => ?_
    | split

/-! ### new objects alone -/
structure Nw (F H F' H' : Hp) : Prop where
  f : Sub F F'
  h : Sub H H'
  s : Sub F' H'
  o : ∀ a, H a ≠ none → F' a = F a
  t : ∀ a ps, F' a = some (.tbl ps) → F a = some (.tbl ps)
theorem Nw.refl {F H : Hp} (s : Sub F H) : Nw F H F H := ⟨.refl F, .refl H, s, fun _ _ => rfl, fun _ _ h => h⟩
theorem Nw.upd {F H : Hp} (s : Sub F H) {p : Addr} {o : HO} (hp : H p = none) (ho : ∀ ps, o ≠ .tbl ps) : Nw F H (upd F p o) (upd H p o) :=
  ⟨sub_upd (s.nope hp), sub_upd hp, s.upd hp, fun a h => upd_ne fun z => h (by rw [z]; exact hp), fun a ps e => by
    by_cases q : a = p
    · rw [q, upd_same] at e; exact absurd (Option.some.inj e) (ho ps)
    · rw [upd_ne q] at e; exact e⟩
theorem Nw.trans {F H F1 H1 F2 H2 : Hp} (a : Nw F H F1 H1) (b : Nw F1 H1 F2 H2) : Nw F H F2 H2 :=
  ⟨a.f.trans b.f, a.h.trans b.h, b.s, fun x h => (b.o x fun z => h (a.h.nope z)).trans (a.o x h), fun x ps e => a.t x ps (b.t x ps e)⟩
theorem Rl.nw {K : PySem.W.Frag} {T : List (Addr × Str)} {ρ : Ev} {σ : L2.St} {F H F' H' : Hp} {n : Nat} (r : Rl K T ρ n F σ H) (w : Nw F H F' H') : Post K T ρ σ F H n F' H' := by
  have un : ∀ {a : Addr} {u : HO}, H a = some u → F a = none → F' a = none := fun {a u} e f => by rw [w.o a (by rw [e]; exact fun z => nomatch z)]; exact f
  refine ⟨⟨w.s, r.len, fun i d e => ?_, fun i ds e => ?_, fun i kvs e => ?_, fun i e => ?_, r.dist, r.tabs.ext w.h, fun a ps e => r.pure a ps (w.t a ps e), r.one⟩, ⟨w.f, fun a h f => by rw [w.o a h]; exact f⟩, fun b u e => .inl (w.h b u e)⟩
  · obtain ⟨v, h1, h2⟩ := r.val i d e
    exact ⟨v, h1, h2.mono w.f⟩
  · obtain ⟨a, vs, h1, h2, h3, h4⟩ := r.own i ds e
    exact ⟨a, vs, h1, w.h _ _ h2, un h2 h3, h4.mono w.f⟩
  · obtain ⟨a, kv, h1, h2, h3, h4⟩ := r.dct i kvs e
    refine ⟨a, kv, h1, w.h _ _ h2, un h2 h3, ?_⟩
    clear h2 e h1
    induction kv generalizing kvs with
    | nil => cases kvs with
      | nil => trivial
      | cons _ _ => exact h4
    | cons q qs ih => cases kvs with
      | nil => exact h4
      | cons z zs => exact ⟨h4.1, h4.2.1.mono w.f, ih zs h4.2.2⟩
  · obtain ⟨a, x, y, z, h1, h2, h3, h4⟩ := r.deck i e
    exact ⟨a, x, y, z, h1, w.h _ _ h2, un h2 h3, h4⟩
/-- a value, or an own list as it stands -/
def Rw (K : PySem.W.Frag) (F H : Hp) (v : V) (d : D) : Prop := Rp K F v d ∨ ∃ a vs ds, v = .ref a ∧ d = .lst ds ∧ H a = some (.lst vs) ∧ Rps K F vs ds
section
variable {K : PySem.W.Frag} {F H F' H' : Hp} {v : V} {d : D}
theorem Rw.lst {ds : List D} (h : Rw K F H v (.lst ds)) (s : Sub F H) : ∃ a vs, v = .ref a ∧ SqL K H a vs ∧ Rps K F vs ds := by
  rcases h with h | ⟨a, vs, es, rfl, e, h, r⟩
  · cases h with
    | lst h r => exact ⟨_, _, rfl, s.seqL h, r⟩
  · cases e
    exact ⟨a, vs, rfl, SqL.of h, r⟩
theorem Rw.tup {ds : List D} (h : Rw K F H v (.tup ds)) (s : Sub F H) : ∃ a vs, v = .ref a ∧ SqT K H a vs ∧ Rps K F vs ds := by
  rcases h with h | ⟨a, vs, es, rfl, e, h, r⟩
  · cases h with
    | tup h r => exact ⟨_, _, rfl, s.seqT h, r⟩
  · cases e
theorem Rw.int {i : Int} (h : Rw K F H v (.int i)) : v = .int i := by
  rcases h with h | ⟨a, vs, es, rfl, e, h, r⟩
  · cases h; rfl
  · cases e
theorem Rw.bl {i : Bool} (h : Rw K F H v (.bl i)) : v = .bl i := by
  rcases h with h | ⟨a, vs, es, rfl, e, h, r⟩
  · cases h; rfl
  · cases e
theorem Rw.str {i : Str} (h : Rw K F H v (.str i)) : v = .str i := by
  rcases h with h | ⟨a, vs, es, rfl, e, h, r⟩
  · cases h; rfl
  · cases e
theorem Rw.non (h : Rw K F H v .non) : v = .non := by
  rcases h with h | ⟨a, vs, es, rfl, e, h, r⟩
  · cases h; rfl
  · cases e
theorem Rw.obj {a : Nat} (h : Rw K F H v (.obj a)) : v = .ref a := by
  rcases h with h | ⟨a, vs, es, rfl, e, h, r⟩
  · cases h; rfl
  · cases e
theorem Rp.keep (h : Rp K F v d) (w : Nw F H F' H') : Rp K F' v d := h.mono w.f
theorem Rw.keep (h : Rw K F H v d) (w : Nw F H F' H') : Rw K F' H' v d := by
  rcases h with h | ⟨a, vs, ds, rfl, rfl, h, r⟩
  · exact .inl (h.mono w.f)
  · exact .inr ⟨a, vs, ds, rfl, rfl, w.h _ _ h, r.mono w.f⟩
end

/-- two data in, one out -/
def rD (K : PySem.W.Frag) (f : D → D → W D) : R2 := fun x y H Q => ∃ F d e z, Sub F H ∧ (∀ a ps, F a ≠ some (.tbl ps)) ∧ Rw K F H x d ∧ Rw K F H y e ∧ f d e = ok z ∧ ∀ v F' H', Nw F H F' H' → Rp K F' v z → Q v H'
theorem notbl_lst (xs : List V) : ∀ ps, HO.lst xs ≠ .tbl ps := fun _ h => nomatch h
theorem notbl_tup (xs : List V) : ∀ ps, HO.tup xs ≠ .tbl ps := fun _ h => nomatch h

section
variable {X : Cx}
/-- list + list -/
theorem cat_lists {pins : List (Addr × Obj)} {s : Shared} {σ : L2.St} {H : Hp} {a b : Addr} {xs ys : List V} {Q : VK} (I : Inv X pins σ H s) (ha : SqL X.K H a xs) (hb : SqL X.K H b ys) (hz : xs.length + ys.length ≤ sizeLine)
    (q : ∀ p, H p = none → Q (.ref p) (upd H p (.lst (xs ++ ys)))) : wpAny (model X.prog X.w) X.A (binaryOp .Add (.ref a) (.ref b)) (EP X pins σ Q) X.xe s := by
  obtain ⟨its, r, ⟨⟨cls, dd, data, sl⟩, n, ho, hc, hd, hdt⟩, _⟩ := I.list ha
  obtain ⟨its2, r2, ⟨⟨cls2, dd2, data2, sl2⟩, n2, ho2, hc2, hd2, hdt2⟩, _⟩ := I.list hb
  simp only at hc hdt hc2 hdt2
  subst hc hdt hc2 hdt2
  have l1 := r.length
  have l2 := r2.length
  have e : its.toArray ++ its2.toArray = (its ++ its2).toArray := by simp
  refine concat_meets ⟨_, ho, rfl⟩ ⟨_, ho2, rfl⟩ noFill_list_add seq_list_add PySem.F.slot_list_add PySem.F.entry_list_add (PySem.F.args_list_add_2 _ _)
    (list_addW a b its.toArray its2.toArray n n2 dd dd2 sl sl2 (by rw [List.size_toArray, List.size_toArray]; omega)) ⟨ho, ho2, ?_⟩
  rw [e]
  exact ⟨.ref _, _, I.lnew (t' := s.toks) (r.append r2) (by rw [List.length_append]; omega), rfl, q _ I.fresh⟩
theorem or_add : OpR X (binaryOp .Add) (rD X.K (opS .add)) := by
  intro pins s σ H x y v u Q I rx ry ⟨F, d, e, z, sF, tF, hx, hy, hz, q⟩
  unfold opS at hz
  split at hz <;> first | (rename_i h; cases h; done) | skip
  all_goals first | (exact absurd hz stuck_ne) | skip
  all_goals (try cases ‹Op.add = _›)
  · cases hx.int; cases hy.int; cases ok_inj hz
    exact op_add pins s σ H _ _ v u Q I rx ry ⟨_, _, rfl, rfl, q _ F H (.refl sF) (.int _)⟩
  · cases hx.int; cases hy.bl; cases ok_inj hz
    refine op_add_ib pins s σ H _ _ v u Q I rx ry ⟨_, _, rfl, rfl, ?_⟩
    rename_i b
    have e : PyProof.Rows.b2i b = bI b := by cases b <;> rfl
    rw [e]
    exact q _ F H (.refl sF) (.int _)
  · cases hx.str; cases hy.str
    obtain ⟨c, hz⟩ := chk_ok hz
    cases ok_inj hz
    have c := of_decide_eq_true c
    exact op_add_str pins s σ H _ _ v u Q I rx ry ⟨_, _, rfl, rfl, by rw [sizeLine_eq]; exact c, q _ F H (.refl sF) (.str _)⟩
  · obtain ⟨c, hz⟩ := chk_ok hz
    have c := of_decide_eq_true c
    cases ok_inj hz
    obtain ⟨a, xs, rfl, h1, r1⟩ := hx.tup sF
    obtain ⟨b, ys, rfl, h2, r2⟩ := hy.tup sF
    have z1 := r1.length
    have z2 := r2.length
    refine op_catA pins s σ H _ _ v u Q I rx ry ⟨a, b, xs, ys, rfl, rfl, h1, h2, by rw [z1, z2, sizeLine_eq]; exact c, fun e => ?_, fun _ e => ?_, fun _ _ p hp => ?_⟩
    · subst e; cases r1
      rcases hy with hy | ⟨_, _, _, _, e, _⟩
      · exact q _ F H (.refl sF) hy
      · cases e
    · subst e; cases r2
      rw [List.append_nil] at q
      rcases hx with hx | ⟨_, _, _, _, e, _⟩
      · exact q _ F H (.refl sF) hx
      · cases e
    · exact q _ _ _ (.upd sF hp (notbl_tup _)) (rp_newT (sF.nope hp) (r1.app r2))
  · obtain ⟨c, hz⟩ := chk_ok hz
    have c := of_decide_eq_true c
    cases ok_inj hz
    obtain ⟨a, xs, rfl, h1, r1⟩ := hx.lst sF
    obtain ⟨b, ys, rfl, h2, r2⟩ := hy.lst sF
    have z1 := r1.length
    have z2 := r2.length
    cases rx; cases ry
    exact cat_lists I h1 h2 (by rw [z1, z2, sizeLine_eq]; exact c) fun p hp => q _ _ _ (.upd sF hp (notbl_lst _)) (rp_new (sF.nope hp) (r1.app r2))

/-! ### the other operators -/
theorem list_mulG (l : Addr) (items : Array Value) (n : Nat) (dd : Option Addr) (sl : Array (Option Value)) (x : Int) (u : Tok) (hc0 : ¬(!Builtin.List.listFitsIndex x) = true) (hc1 : ¬items.size * x.toNat > (2 ^ 63 - 1) / 8)
    (hc2 : ¬Builtin.List.listTooLong (items.size * x.toNat) = true) (hsz : (List.foldl (fun x1 x2 => x1 ++ x2) #[] (List.replicate (if items.isEmpty = true then 0 else x.toNat) items)).size ≤ sizeLine) :
    Meets (Builtin.«list.__mul__» ⟨[.ref l, .int x u], []⟩) (fun _ R s => s.heap.get? l = some { cls := .type "list", dict := dd, data := .seq items n, slots := sl } ∧
      R (.ok (.ret (Value.ref s.heap.objs.size))) { s with heap := s.heap.push { cls := Value.type "list", data := Data.seq (List.foldl (fun x1 x2 => x1 ++ x2) #[] (List.replicate (if items.isEmpty = true then 0 else x.toNat) items)) }, toks := s.toks }) :=
  .of_wp fun prog w A R s h => by
    obtain ⟨hp, g, d, tk, os⟩ := s; obtain ⟨hl, h⟩ := h
    wp_walk using AutoSeq1.wpAny_loadPart' hl; refine wpAny_ite_false (decide_eq_false (Nat.not_lt.mpr hsz)) ?_; wp_walk using AutoSeq1.wpAny_loadPart' hl; exact ⟨_, rfl, h⟩
theorem int_rmul_listG (a : Int) (t : Tok) (l : Addr) (items : Array Value) (n : Nat) (dd : Option Addr) (sl : Array (Option Value)) :
    Meets (Builtin.«int.__rmul__» ⟨[.int a t, .ref l], []⟩) (fun _ R s => s.heap.get? l = some { cls := .type "list", dict := dd, data := .seq items n, slots := sl } ∧ R (.ok (.ret Value.notImplemented)) s) :=
  .of_wp fun prog w A R s h => by obtain ⟨hp, g, d, tk, os⟩ := s; obtain ⟨hl, h⟩ := h; wp_walk using AutoSeq1.wpAny_loadPart' hl; exact ⟨_, rfl, h⟩
theorem rep_list {pins : List (Addr × Obj)} {s : Shared} {σ : L2.St} {H : Hp} {a : Addr} {xs : List V} {k : Int} {t : Tok} {Q : VK} (I : Inv X pins σ H s) (ha : SqL X.K H a xs) (h1 : 0 ≤ k) (h2 : k ≤ 1000) (hz : xs.length ≤ 1000)
    (q : ∀ p, H p = none → Q (.ref p) (upd H p (.lst (List.replicate k.toNat xs).flatten))) : wpAny (model X.prog X.w) X.A (binaryOp .Mult (.ref a) (.int k t)) (EP X pins σ Q) X.xe s := by
  obtain ⟨its, r, ⟨⟨cls, dd, data, sl⟩, n, ho, hc, hd, hdt⟩, _⟩ := I.list ha
  simp only at hc hdt
  subst hc hdt
  have hl := r.length
  have hm : xs.length * k.toNat ≤ 1000 * 1000 := Nat.mul_le_mul hz (by omega)
  have hlen : its.toArray.size * k.toNat ≤ sizeLine := by
    rw [List.size_toArray, ← hl, sizeLine_eq]; omega
  have hcap : ¬ its.toArray.size * k.toNat > (2 ^ 63 - 1) / 8 := by
    have : (sizeLine : Nat) ≤ (2 ^ 63 - 1) / 8 := by decide
    omega
  have hfit : ¬ (!Builtin.List.listFitsIndex k) = true := by
    rw [fitsIndex_both (by omega) (by omega)]
    exact Bool.false_ne_true
  have hlong : ¬ Builtin.List.listTooLong (its.toArray.size * k.toNat) = true := by
    rw [notLongL hlen]
    exact Bool.false_ne_true
  have hnew : List.foldl (fun x1 x2 => x1 ++ x2) #[] (List.replicate (if its.toArray.isEmpty = true then 0 else k.toNat) its.toArray) = (List.replicate k.toNat its).flatten.toArray := by
    have f0 : ∀ m : Nat, List.foldl (fun x1 x2 => x1 ++ x2) #[] (List.replicate m its.toArray) = (List.replicate m its).flatten.toArray := fun m => by
      have := foldl_rep its m []
      rw [List.nil_append] at this
      exact this
    rw [f0]
    cases its with
    | nil => simp
    | cons a r' => rw [if_neg (by simp)]
  have hfl : ((List.replicate k.toNat its).flatten).length ≤ sizeLine := by
    rw [PyProof.Rows.lm_len_rep_flat, Nat.mul_comm, ← List.size_toArray]; exact hlen
  refine wpAny_binaryOp_repeat_ref (T := "list") (U := "int") (by decide) ⟨_, ho, rfl⟩ (fun s' => typeIs_int s' k t) noFill_list_mul F.fills_int_mul F.slot_int_rmul repeat_list F.slot_int_index.lookup
    (call_meets F.slot_int_rmul (typeIs_int s k t) F.entry_int_rmul (F.args_int_rmul_2 _ _) (int_rmul_listG k t a its.toArray n dd sl)
      ⟨ho, rfl, ⟨_, ho, rfl⟩, call_meets F.slot_list_mul ⟨_, ho, rfl⟩ F.entry_list_mul (F.args_list_mul_2 _ _) (list_mulG a its.toArray n dd sl k t hfit hcap hlong (by rw [hnew, List.size_toArray]; exact hfl)) ⟨ho, ?_⟩⟩)
  rw [hnew]
  exact ⟨.ref _, _, I.lnew (t' := s.toks) (r.rep k.toNat) (by rw [PyProof.Rows.lm_len_rep_flat, Nat.mul_comm, sizeLine_eq]; omega), rfl, q _ I.fresh⟩
theorem tuple_mul1 (l : Addr) (items : Array Value) (n : Nat) (dd : Option Addr) (sl : Array (Option Value)) (u : Tok) :
    Meets (Builtin.«tuple.__mul__» ⟨[.ref l, .int 1 u], []⟩) (fun _ R s => s.heap.get? l = some { cls := .type "tuple", dict := dd, data := .seq items n, slots := sl } ∧ R (.ok (.ret (Value.ref l))) s) :=
  .of_wp fun prog w A R s h => by
    obtain ⟨hp, g, d, tk, os⟩ := s
    obtain ⟨hl, h⟩ := h
    have f1 := AutoSeq1.idx_int
    wp_walk using AutoSeq1.wpAny_loadPart' hl
    exact ⟨_, rfl, h⟩
theorem rep_tup1 {pins : List (Addr × Obj)} {s : Shared} {σ : L2.St} {H : Hp} {a : Addr} {xs : List V} {t : Tok} {Q : VK} (I : Inv X pins σ H s) (ha : SqT X.K H a xs)
    (q : Q (.ref a) H) : wpAny (model X.prog X.w) X.A (binaryOp .Mult (.ref a) (.int 1 t)) (EP X pins σ Q) X.xe s := by
  obtain ⟨its, r, ⟨⟨cls, dd, data, sl⟩, ho, hc, n, hd⟩, hs⟩ := I.tuple ha
  simp only at hc hd
  subst hc hd
  exact wpAny_binaryOp_repeat_ref (T := "tuple") (U := "int") (by decide) ⟨_, ho, rfl⟩ (fun s' => typeIs_int s' 1 t) noFill_tuple_mul F.fills_int_mul F.slot_int_rmul repeat_tuple F.slot_int_index.lookup
    (call_meets F.slot_int_rmul (typeIs_int s 1 t) F.entry_int_rmul (F.args_int_rmul_2 _ _) (int_rmul_tuple 1 t a its.toArray n dd sl)
      ⟨ho, rfl, ⟨_, ho, rfl⟩, call_meets F.slot_tuple_mul ⟨_, ho, rfl⟩ F.entry_tuple_mul (F.args_tuple_mul_2 _ _) (tuple_mul1 a its.toArray n dd sl t) ⟨ho, ⟨.ref a, H, I, rfl, q⟩⟩⟩)
theorem or_sub : OpR X (binaryOp .Sub) (rD X.K (opS .sub)) := by
  intro pins s σ H x y v u Q I rx ry ⟨F, d, e, z, sF, tF, hx, hy, hz, q⟩
  unfold opS at hz
  split at hz <;> first | (rename_i h; cases h; done) | skip
  all_goals first | (exact absurd hz stuck_ne) | skip
  all_goals (try cases ‹Op.sub = _›)
  · cases hx.int; cases hy.int; cases ok_inj hz
    exact op_sub pins s σ H _ _ v u Q I rx ry ⟨_, _, rfl, rfl, q _ F H (.refl sF) (.int _)⟩
  · cases hx.bl; cases hy.bl; cases ok_inj hz
    rename_i a b
    cases (show v = Value.bool a from rx)
    cases (show u = Value.bool b from ry)
    have e : ∀ b, PyProof.Rows.b2i b = bI b := fun b => by cases b <;> rfl
    exact PyProof.Rows.sub_bool ⟨.int _, H, I.tok _, ⟨_, rfl⟩, by rw [e, e]; exact q _ F H (.refl sF) (.int _)⟩
theorem or_mul : OpR X (binaryOp .Mult) (rD X.K (opS .mul)) := by
  intro pins s σ H x y v u Q I rx ry ⟨F, d, e, z, sF, tF, hx, hy, hz, q⟩
  unfold opS at hz
  split at hz <;> first | (rename_i h; cases h; done) | skip
  all_goals first | (exact absurd hz stuck_ne) | skip
  all_goals (try cases ‹Op.mul = _›)
  · cases hx.int; cases hy.int
    obtain ⟨c, hz⟩ := chk_ok hz
    cases ok_inj hz
    rename_i i j
    refine op_mul pins s σ H _ _ v u Q I rx ry ⟨_, _, rfl, rfl, ?_, q _ F H (.refl sF) (.int _)⟩
    rw [Bool.or_eq_true, decide_eq_true_eq, decide_eq_true_eq] at c
    rcases c with c | c
    · exact .inl ⟨by omega, by omega⟩
    · exact .inr ⟨by omega, by omega⟩
  · obtain ⟨c, hz⟩ := chk_ok hz
    obtain ⟨c1, c2, c3, c4⟩ := of_decide_eq_true c
    cases ok_inj hz
    cases hy.int
    obtain ⟨a, xs, rfl, h1, r1⟩ := hx.tup sF
    have z1 := r1.length
    rename_i ds k _
    by_cases k1 : k = 1
    · subst k1
      cases rx
      obtain ⟨t, rfl⟩ := ry
      refine rep_tup1 I h1 ?_
      have e1 : (List.replicate (1 : Int).toNat ds).flatten = ds := by
        show (List.replicate 1 ds).flatten = ds
        simp
      rw [e1] at q
      rcases hx with hx | ⟨_, _, _, _, e, _⟩
      · exact q _ F H (.refl sF) hx
      · cases e
    · refine op_repT pins s σ H _ _ v u Q I rx ry ⟨a, k, xs, rfl, rfl, h1, fun e => ?_, by omega, c2, by omega, fun p hp => q _ _ _ (.upd sF hp (notbl_tup _)) (rp_newT (sF.nope hp) (r1.rep _))⟩
      rw [e] at z1
      simp at z1
      omega
  · obtain ⟨c, hz⟩ := chk_ok hz
    obtain ⟨c1, c2, c3⟩ := of_decide_eq_true c
    cases ok_inj hz
    cases hy.int
    obtain ⟨a, xs, rfl, h1, r1⟩ := hx.lst sF
    have z1 := r1.length
    cases rx
    obtain ⟨t, rfl⟩ := ry
    exact rep_list I h1 c1 c2 (by omega) fun p hp => q _ _ _ (.upd sF hp (notbl_lst _)) (rp_new (sF.nope hp) (r1.rep _))
theorem or_fdiv : OpR X (binaryOp .FloorDiv) (rD X.K (opS .fdiv)) := by
  intro pins s σ H x y v u Q I rx ry ⟨F, d, e, z, sF, tF, hx, hy, hz, q⟩
  unfold opS at hz
  split at hz <;> first | (rename_i h; cases h; done) | skip
  all_goals first | (exact absurd hz stuck_ne) | skip
  all_goals (try cases ‹Op.fdiv = _›)
  obtain ⟨c, hz⟩ := chk_ok hz
  obtain ⟨c1, c2⟩ := of_decide_eq_true c
  cases ok_inj hz
  cases hx.int; cases hy.int
  refine op_fdivW pins s σ H _ _ v u Q I rx ry ⟨_, _, rfl, rfl, wide_div (b := 200) c1 ?_ (by decide) (by decide), q _ F H (.refl sF) (.int _)⟩
  have h4 : (2 : Int) ^ 200 = ((2 ^ 200 : Nat) : Int) := by norm_cast
  rw [h4] at c2
  omega
theorem or_mod : OpR X (binaryOp .Mod) (rD X.K (opS .mod)) := by
  intro pins s σ H x y v u Q I rx ry ⟨F, d, e, z, sF, tF, hx, hy, hz, q⟩
  unfold opS at hz
  split at hz <;> first | (rename_i h; cases h; done) | skip
  all_goals first | (exact absurd hz stuck_ne) | skip
  all_goals (try cases ‹Op.mod = _›)
  obtain ⟨c, hz⟩ := chk_ok hz
  have c1 := of_decide_eq_true c
  cases ok_inj hz
  cases hx.int; cases hy.int
  exact op_mod pins s σ H _ _ v u Q I rx ry ⟨_, _, rfl, rfl, c1, q _ F H (.refl sF) (.int _)⟩
theorem or_pow : OpR X (binaryOp .Pow) (rD X.K (opS .pow)) := by
  intro pins s σ H x y v u Q I rx ry ⟨F, d, e, z, sF, tF, hx, hy, hz, q⟩
  unfold opS at hz
  split at hz <;> first | (rename_i h; cases h; done) | skip
  all_goals first | (exact absurd hz stuck_ne) | skip
  all_goals (try cases ‹Op.pow = _›)
  obtain ⟨c, hz⟩ := chk_ok hz
  obtain ⟨c1, c2, c3⟩ := of_decide_eq_true c
  cases ok_inj hz
  cases hx.int; cases hy.int
  exact op_pow pins s σ H _ _ v u Q I rx ry ⟨_, _, rfl, rfl, ⟨c1, by omega, by omega⟩, q _ F H (.refl sF) (.int _)⟩
theorem or_bor : OpR X (binaryOp .BitOr) (rD X.K (opS .bor)) := by
  intro pins s σ H x y v u Q I rx ry ⟨F, d, e, z, sF, tF, hx, hy, hz, q⟩
  unfold opS at hz
  split at hz <;> first | (rename_i h; cases h; done) | skip
  all_goals first | (exact absurd hz stuck_ne) | skip
  all_goals (try cases ‹Op.bor = _›)
  cases ok_inj hz
  cases hx.int; cases hy.int
  exact op_or pins s σ H _ _ v u Q I rx ry ⟨_, _, rfl, rfl, q _ F H (.refl sF) (.int _)⟩
def opP : Op → Operator
  | .add => .Add | .sub => .Sub | .mul => .Mult | .fdiv => .FloorDiv | .mod => .Mod | .pow => .Pow | .bor => .BitOr
theorem or_op (o : Op) : OpR X (binaryOp (opP o)) (rD X.K (opS o)) := by
  cases o
  · exact or_add
  · exact or_sub
  · exact or_mul
  · exact or_fdiv
  · exact or_mod
  · exact or_pow
  · exact or_bor
end
end Z
end
-- Z3
section
set_option Elab.async false
set_option linter.all false
set_option maxRecDepth 100000
set_option maxHeartbeats 1000000
/-! Z3: comparisons, indexing, slices. -/
namespace Z
open PySem PySem.Spec PyProof.Rows L2

/-! ### as the library's data -/
mutual
def D.py : D → PyData
  | .non => .none
  | .bl b => .bool b
  | .int i => .int i
  | .str x => .str x
  | .lst xs => .list (pys xs)
  | .tup xs => .tuple (pys xs)
  | .obj _ => .dict []
def pys : List D → List PyData
  | [] => []
  | x :: xs => D.py x :: pys xs
end
mutual
theorem py_ok : ∀ d : D, d.py.canLay0 = d.ok
  | .non => by simp [D.py, D.ok, PyData.canLay0]
  | .bl b => by simp [D.py, D.ok, PyData.canLay0]
  | .int i => by simp [D.py, D.ok, PyData.canLay0]
  | .str x => by simp [D.py, D.ok, PyData.canLay0, PyData.strOk]
  | .lst xs => by simp [D.py, D.ok, PyData.canLay0, pys_ok xs]
  | .tup xs => by simp [D.py, D.ok, PyData.canLay0, pys_ok xs]
  | .obj a => by simp [D.py, D.ok, PyData.canLay0]
theorem pys_ok : ∀ ds : List D, PyData.canLayAll0 (pys ds) = oks ds
  | [] => by simp [pys, oks, PyData.canLayAll0]
  | d :: ds => by simp [pys, oks, PyData.canLayAll0, py_ok d, pys_ok ds]
end
mutual
theorem py_dep : ∀ d : D, d.ok = true → d.py.depth = d.dep
  | .non, _ => by simp [D.py, D.dep, PyData.depth]
  | .bl b, _ => by simp [D.py, D.dep, PyData.depth]
  | .int i, _ => by simp [D.py, D.dep, PyData.depth]
  | .str x, _ => by simp [D.py, D.dep, PyData.depth]
  | .lst xs, h => by simp [D.py, D.dep, PyData.depth, pys_dep xs (by simpa [D.ok] using h)]
  | .tup xs, h => by simp [D.py, D.dep, PyData.depth, pys_dep xs (by simpa [D.ok] using h)]
  | .obj a, h => by simp [D.ok] at h
theorem pys_dep : ∀ ds : List D, oks ds = true → PyData.depthAll (pys ds) = deps ds
  | [], _ => by simp [pys, deps, PyData.depthAll]
  | d :: ds, h => by
    have h2 : d.ok = true ∧ oks ds = true := by simpa [oks] using h
    simp [pys, deps, PyData.depthAll, py_dep d h2.1, pys_dep ds h2.2]
end
mutual
theorem py_eqv : ∀ (d e : D), PyData.eqv d.py e.py = D.eqv d e
  | .non, e => by cases e <;> simp [D.py, D.eqv, PyData.eqv]
  | .bl b, e => by cases e <;> simp [D.py, D.eqv, PyData.eqv]
  | .int i, e => by cases e <;> simp [D.py, D.eqv, PyData.eqv]
  | .str x, e => by cases e <;> simp [D.py, D.eqv, PyData.eqv]
  | .lst xs, e => by cases e <;> simp [D.py, D.eqv, PyData.eqv, pys_eqv xs]
  | .tup xs, e => by cases e <;> simp [D.py, D.eqv, PyData.eqv, pys_eqv xs]
  | .obj a, e => by cases e <;> simp [D.py, D.eqv, PyData.eqv]
theorem pys_eqv : ∀ (ds es : List D), PyData.eqvAll (pys ds) (pys es) = eqvs ds es
  | [], es => by cases es <;> simp [pys, eqvs, PyData.eqvAll]
  | d :: ds, es => by
    cases es with
    | nil => simp [pys, eqvs, PyData.eqvAll]
    | cons e es => simp [pys, eqvs, PyData.eqvAll, py_eqv d e, pys_eqv ds es]
end
theorem pys_map (ds : List D) : pys ds = ds.map D.py := by
  induction ds with
  | nil => rfl
  | cons d ds ih => simp [pys, ih]
section
variable {K : PySem.W.Frag} {F H : Hp}
mutual
theorem Rp.dp (s : Sub F H) : ∀ {d : D} {v : V}, Rp K F v d → d.ok = true → Dp K H v d.py
  | .non, _, h, _ => by cases h; exact .non
  | .bl b, _, h, _ => by cases h; exact .bl b
  | .int i, _, h, _ => by cases h; exact .int i
  | .str x, _, h, _ => by cases h; exact .str x
  | .lst ds, _, h, o => by cases h with | lst a b => exact .lst (s.seqL a) (Rps.dp s b (by simpa [D.ok] using o))
  | .tup ds, _, h, o => by cases h with | tup a b => exact .tup (s.seqT a) (Rps.dp s b (by simpa [D.ok] using o))
  | .obj a, _, h, o => by simp [D.ok] at o
theorem Rps.dp (s : Sub F H) : ∀ {ds : List D} {vs : List V}, Rps K F vs ds → oks ds = true → DpAll K H vs (pys ds)
  | [], _, h, _ => by cases h; exact .nil
  | d :: ds, _, h, o => by
    have h2 : d.ok = true ∧ oks ds = true := by simpa [oks] using o
    cases h with | cons a b => exact .cons (Rp.dp s a h2.1) (Rps.dp s b h2.2)
end
theorem Rw.dp {v : V} {d : D} (h : Rw K F H v d) (s : Sub F H) (o : d.ok = true) : Dp K H v d.py := by
  rcases h with h | ⟨a, vs, ds, rfl, rfl, h, r⟩
  · exact h.dp s o
  · exact .lst (SqL.of h) (r.dp s (by simpa [D.ok] using o))
end
theorem eqOk_min {d e : D} (h : eqOk d e = true) : d.ok = true ∧ e.ok = true ∧ min d.py.depth e.py.depth ≤ 40 := by
  unfold eqOk at h
  simp only [Bool.and_eq_true, Bool.or_eq_true, decide_eq_true_eq] at h
  obtain ⟨⟨h1, h2⟩, h3⟩ := h
  refine ⟨h1, h2, ?_⟩
  rw [py_dep d h1, py_dep e h2]
  rcases h3 with h3 | h3
  · exact Nat.le_trans (Nat.min_le_left _ _) h3
  · exact Nat.le_trans (Nat.min_le_right _ _) h3
theorem inD_py (x : D) (ys : List D) : ((pys ys).any fun y => PyData.eqv y x.py) = inD x ys := by
  unfold inD
  rw [pys_map, List.any_map]
  congr 1
  funext y
  exact py_eqv y x
section
variable {X : Cx}
theorem read2 {pins : List (Addr × Obj)} {s : Shared} {σ : L2.St} {H F : Hp} {x y : V} {v u : Value} {d e : D} (I : Inv X pins σ H s) (rx : RelV x v) (ry : RelV y u) (sF : Sub F H) (hx : Rw X.K F H x d) (hy : Rw X.K F H y e) (k : eqOk d e = true) :
    ∃ as bs, Reads s.heap v d.py as ∧ Reads s.heap u e.py bs ∧ PyData.canLay0 d.py = true ∧ PyData.canLay0 e.py = true ∧ min d.py.depth e.py.depth ≤ 40 := by
  obtain ⟨o1, o2, m⟩ := eqOk_min k
  obtain ⟨as, r1⟩ := Dp.reads I d.py x v (hx.dp sF o1) rx
  obtain ⟨bs, r2⟩ := Dp.reads I e.py y u (hy.dp sF o2) ry
  exact ⟨as, bs, r1, r2, by rw [py_ok]; exact o1, by rw [py_ok]; exact o2, m⟩
def cmP : Cm → CmpOp
  | .eq => .Eq | .ne => .NotEq | .lt => .Lt | .le => .LtE | .gt => .Gt | .ge => .GtE | .isN => .Is | .notN => .IsNot | .isT => .Is | .notT => .IsNot | .inn => .In | .nin => .NotIn
theorem noneD {x : V} {F H : Hp} {K : PySem.W.Frag} {d : D} (h : Rw K F H x d) : decide (x = V.non) = isNoneD d := by
  rcases h with h | ⟨a, vs, ds, rfl, rfl, h, r⟩
  · cases h <;> simp [isNoneD]
  · simp [isNoneD]
theorem relV_true {x : V} {u : Value} {F H : Hp} {K : PySem.W.Frag} {d : D} (h : Rw K F H x d) (r : RelV x u) (c : Bool) : plainIs u (.bool c) = true ∧ ((u == Value.bool c) = isBlD d c) := by
  rcases h with h | ⟨a, vs, ds, rfl, rfl, h, r'⟩
  · cases h with
    | non => cases r; exact ⟨rfl, rfl⟩
    | bl b => cases r; cases b <;> cases c <;> exact ⟨rfl, rfl⟩
    | int i => obtain ⟨t, rfl⟩ := r; exact ⟨rfl, rfl⟩
    | str i => obtain ⟨t, rfl⟩ := r; exact ⟨rfl, rfl⟩
    | lst _ _ => cases r; exact ⟨rfl, rfl⟩
    | tup _ _ => cases r; exact ⟨rfl, rfl⟩
    | obj _ => cases r; exact ⟨rfl, rfl⟩
  · cases r; exact ⟨rfl, rfl⟩
theorem or_cm (hu : X.A.units + 64 < cLine) (o : Cm) : OpR X (compareOp (cmP o)) (rD X.K (cmS o)) := by
  intro pins s σ H x y v u Q I rx ry ⟨F, d, e, z, sF, tF, hx, hy, hz, q⟩
  have fin : ∀ {b : Bool}, z = .bl b → EP X pins σ Q (.bool b) s := fun {b} e1 => by
    subst e1
    exact ⟨.bl b, H, I, rfl, q _ F H (.refl sF) (.bl _)⟩
  unfold cmS at hz
  split at hz
  · obtain ⟨c, hz⟩ := chk_ok hz
    obtain ⟨as, bs, r1, r2, l1, l2, m⟩ := read2 I rx ry sF hx hy c
    exact SeqAt.compareEq_reads r1 r2 l1 l2 (by omega) (by rw [py_eqv]; exact fin (ok_inj hz).symm)
  · obtain ⟨c, hz⟩ := chk_ok hz
    obtain ⟨as, bs, r1, r2, l1, l2, m⟩ := read2 I rx ry sF hx hy c
    exact SeqAt.compareNe_reads r1 r2 l1 l2 (by omega) (by rw [py_eqv]; exact fin (ok_inj hz).symm)
  · cases hx.int; cases hy.int; obtain ⟨t, rfl⟩ := rx; obtain ⟨t', rfl⟩ := ry
    exact lt_int (fin (ok_inj hz).symm)
  · cases hx.int; cases hy.int; obtain ⟨t, rfl⟩ := rx; obtain ⟨t', rfl⟩ := ry
    exact le_int (fin (ok_inj hz).symm)
  · cases hx.int; cases hy.int; obtain ⟨t, rfl⟩ := rx; obtain ⟨t', rfl⟩ := ry
    exact gt_int (fin (ok_inj hz).symm)
  · cases hx.int; cases hy.int; obtain ⟨t, rfl⟩ := rx; obtain ⟨t', rfl⟩ := ry
    exact ge_int (fin (ok_inj hz).symm)
  · cases hy.non; cases ry
    exact is_none_gen (by rw [rx.none_iff, noneD hx]; exact fin (ok_inj hz).symm)
  · cases hy.non; cases ry
    exact isnot_none_gen (by rw [rx.none_iff, noneD hx]; exact fin (ok_inj hz).symm)
  · cases hy.bl; cases ry
    obtain ⟨h1, h2⟩ := relV_true hx rx _
    exact wpAny_is_plain h1 (by rw [h2]; exact fin (ok_inj hz).symm)
  · cases hy.bl; cases ry
    obtain ⟨h1, h2⟩ := relV_true hx rx _
    exact wpAny_isNot_plain h1 (by rw [h2]; exact fin (ok_inj hz).symm)
  · cases hx.str; cases hy.str; obtain ⟨t, rfl⟩ := rx; obtain ⟨t', rfl⟩ := ry
    exact in_str (fin (ok_inj hz).symm)
  · obtain ⟨c, hz⟩ := chk_ok hz
    obtain ⟨as, bs, r1, r2, l1, l2, m⟩ := read2 I rx ry sF hx hy c
    refine SeqAt.in_list_reads r2 r1 (by simpa [PyData.canLay0, D.py] using l2) l1 ?_ (by rw [inD_py]; exact fin (ok_inj hz).symm)
    simp only [D.py, PyData.depth] at m
    omega
  · obtain ⟨c, hz⟩ := chk_ok hz
    obtain ⟨as, bs, r1, r2, l1, l2, m⟩ := read2 I rx ry sF hx hy c
    refine SeqAt.in_tuple_reads r2 r1 (by simpa [PyData.canLay0, D.py] using l2) l1 ?_ (by rw [inD_py]; exact fin (ok_inj hz).symm)
    simp only [D.py, PyData.depth] at m
    omega
  · cases hx.str; cases hy.str; obtain ⟨t, rfl⟩ := rx; obtain ⟨t', rfl⟩ := ry
    exact notIn_str (fin (ok_inj hz).symm)
  · obtain ⟨c, hz⟩ := chk_ok hz
    obtain ⟨as, bs, r1, r2, l1, l2, m⟩ := read2 I rx ry sF hx hy c
    refine SeqAt.notIn_list_reads r2 r1 (by simpa [PyData.canLay0, D.py] using l2) l1 ?_ (by rw [inD_py]; exact fin (ok_inj hz).symm)
    simp only [D.py, PyData.depth] at m
    omega
  · obtain ⟨c, hz⟩ := chk_ok hz
    obtain ⟨as, bs, r1, r2, l1, l2, m⟩ := read2 I rx ry sF hx hy c
    refine SeqAt.notIn_tuple_reads r2 r1 (by simpa [PyData.canLay0, D.py] using l2) l1 ?_ (by rw [inD_py]; exact fin (ok_inj hz).symm)
    simp only [D.py, PyData.depth] at m
    omega
  · exact absurd hz stuck_ne
end
end Z
end
-- Z4
section
set_option Elab.async false
set_option linter.all false
set_option maxRecDepth 100000
set_option maxHeartbeats 1000000
/-! Z4: indexing, slices. -/
namespace Z
open PySem PySem.Spec PyProof.Rows L2
theorem atD_eq {xs : List D} {i : Int} : atD xs i = atI xs i := by
  unfold atD atI ixN
  by_cases h : 0 ≤ i
  · rw [if_pos h, if_pos h]
    by_cases h2 : i < xs.length
    · rw [if_pos h2]; rfl
    · rw [if_neg h2]
      exact List.getElem?_eq_none (by omega)
  · rw [if_neg h, if_neg h]
    by_cases h2 : -(xs.length : Int) ≤ i
    · rw [if_pos h2, if_pos h2]; rfl
    · rw [if_neg h2, if_neg h2]; rfl
section
variable {K : PySem.W.Frag} {F : Hp}
theorem Rps.atI {ds : List D} {vs : List V} {i : Int} {d : D} (h : Rps K F vs ds) (e : L2.atI ds i = some d) : ∃ v, L2.atI vs i = some v ∧ Rp K F v d := by
  unfold L2.atI at e ⊢
  rw [h.length]
  cases q : ixN ds.length i with
  | none => rw [q] at e; cases e
  | some j =>
    rw [q] at e
    exact h.get e
end
section
variable {X : Cx}
theorem ir_ix : IxR X (rD X.K ixS) := by
  intro value slice pins s σ H x y v u Q I rx ry ⟨F, d, e, z, sF, tF, hx, hy, hz, q⟩ hs
  unfold ixS at hz
  split at hz
  · cases hy.int
    have hz := oD_ok hz
    rw [atD_eq] at hz
    obtain ⟨a, vs, rfl, h1, r⟩ := hx.lst sF
    obtain ⟨w, hw, rw'⟩ := r.atI hz
    exact ix_list value slice pins s σ H _ _ v u Q I rx ry ⟨a, vs, _, w, rfl, rfl, h1, hw, q _ F H (.refl sF) rw'⟩ hs
  · cases hy.int
    have hz := oD_ok hz
    rw [atD_eq] at hz
    obtain ⟨a, vs, rfl, h1, r⟩ := hx.tup sF
    obtain ⟨w, hw, rw'⟩ := r.atI hz
    exact ix_tup value slice pins s σ H _ _ v u Q I rx ry ⟨a, vs, _, w, rfl, rfl, h1, hw, q _ F H (.refl sF) rw'⟩ hs
  · rename_i xx i
    cases hx.str; cases hy.int
    obtain ⟨c, hz⟩ := chk_ok hz
    have c := of_decide_eq_true c
    have hz := oD_ok hz
    have e1 : (if 0 ≤ i then xx.cps.toList[i.toNat]? else if -(xx.length : Int) ≤ i then xx.cps.toList[(i + xx.length).toNat]? else none) = L2.atI xx.cps.toList i := by
      have hl : xx.cps.toList.length = xx.length := by simp [Str.length]
      unfold L2.atI ixN
      rw [hl]
      by_cases h : 0 ≤ i
      · rw [if_pos h, if_pos h]
        by_cases h2 : i < xx.length
        · rw [if_pos h2]; rfl
        · rw [if_neg h2]
          exact List.getElem?_eq_none (by rw [hl]; omega)
      · rw [if_neg h, if_neg h]
        by_cases h2 : -(xx.length : Int) ≤ i
        · rw [if_pos h2, if_pos h2]; rfl
        · rw [if_neg h2, if_neg h2]; rfl
    rw [e1] at hz
    cases hc : L2.atI xx.cps.toList i with
    | none => rw [hc] at hz; cases hz
    | some c0 =>
      rw [hc] at hz
      cases hz
      exact ix_str value slice pins s σ H _ _ v u Q I rx ry ⟨xx, i, c0, rfl, rfl, by rw [sizeLine_eq]; exact c, hc, q _ F H (.refl sF) (.str _)⟩ hs
  · exact absurd hz stuck_ne
def rSD (K : PySem.W.Frag) : V → Option Int → Option Int → Hp → VK → Prop := fun x lo hi H Q => ∃ F d z, Sub F H ∧ (∀ a ps, F a ≠ some (.tbl ps)) ∧ Rw K F H x d ∧ slS d lo hi = ok z ∧ ∀ v F' H', Nw F H F' H' → Rp K F' v z → Q v H'
theorem cutV_whole {vs : List V} {ds : List D} {K : PySem.W.Frag} {F : Hp} {lo hi : Option Int} (r : Rps K F vs ds) (h : HT.sIx vs.length 0 lo = 0 ∧ HT.sIx vs.length vs.length hi = vs.length) : cutD ds lo hi = ds := by
  unfold cutD
  rw [six_eq, six_eq, ← r.length, h.1, h.2]
  rw [Nat.sub_zero, List.drop_zero]
  exact List.take_of_length_le (by rw [r.length]; exact Nat.le_refl _)
theorem sr_sl : SlR X (rSD X.K) := by
  intro pins s σ H x v vl vu lo hi sl Q I rx hs pl pu ⟨F, d, z, sF, tF, hx, hz, q⟩
  unfold slS at hz
  split at hz
  · cases ok_inj hz
    obtain ⟨a, vs, rfl, h1, r⟩ := hx.lst sF
    exact sl_list pins s σ H _ v vl vu lo hi sl Q I rx hs pl pu ⟨a, vs, rfl, h1, fun p hp => q _ _ _ (.upd sF hp (notbl_lst _)) (rp_new (sF.nope hp) (r.cut lo hi))⟩
  · cases ok_inj hz
    obtain ⟨a, vs, rfl, h1, r⟩ := hx.tup sF
    refine sl_tupA pins s σ H _ v vl vu lo hi sl Q I rx hs pl pu ⟨a, vs, rfl, h1, fun w => ?_, fun _ p hp => q _ _ _ (.upd sF hp (notbl_tup _)) (rp_newT (sF.nope hp) (r.cut lo hi))⟩
    rw [cutV_whole r w] at q
    rcases hx with hx | ⟨_, _, _, _, e, _⟩
    · exact q _ F H (.refl sF) hx
    · cases e
  · rename_i zz
    obtain ⟨c, hz⟩ := chk_ok hz
    have c := of_decide_eq_true c
    cases ok_inj hz
    cases hx.str
    have e : (⟨(cutD zz.cps.toList lo hi).toArray⟩ : Str) = cutS zz lo hi := by
      unfold cutD cutS
      rw [six_eq, six_eq]
      have hl : zz.cps.toList.length = zz.length := by simp [Str.length]
      rw [hl]
    rw [e] at q
    exact sl_str pins s σ H _ v vl vu lo hi sl Q I rx hs pl pu ⟨zz, rfl, by rw [sizeLine_eq]; exact c, q _ F H (.refl sF) (.str _)⟩
  · exact absurd hz stuck_ne

theorem sliceApplied_back {M : Model} {A : Around} {E : Value → Shared → Prop} {s : Shared} {sl : Addr} {vl vu vs : Value} {n : Nat} {Q : Int × Int × Nat → Shared → Prop} (hs : s.heap.IsSliceOf sl vl vu vs) (pl : IsPart vl none) (pu : IsPart vu none) (ps : IsPart vs (some (-1)))
    {prog : Program} {w : World} (hM : M = model prog w) (h : Q ((n : Int) - 1, -1, n) s) : wpAny M A (Builtin.Slice.sliceApplied (.ref sl) (pure (n : Int))) Q E s := by
  subst hM
  obtain ⟨os, hos, hcs, hds⟩ := id hs
  unfold Builtin.Slice.sliceApplied Builtin.Slice.sliceFields
  refine wpAny_bind (wpAny_bind (wpAny_field hos hds (x := vl) rfl (wpAny_bind (wpAny_field hos hds (x := vu) rfl (wpAny_bind (wpAny_field hos hds (x := vs) rfl (wpAny_pure ?_)))))))
  refine wpAny_bind (HT.slicePart_ ps ?_)
  show wpAny _ _ (if ((-1 : Int) == 0) = true then _ else _) _ _ s
  rw [if_neg (by decide)]
  refine wpAny_bind (HT.slicePart_ pl (wpAny_bind (HT.slicePart_ pu (wpAny_bind (wpAny_pure ?_)))))
  show wpAny _ _ (match Builtin.Slice.sliceAdjust none none (-1) (n : Int) with | (lo, hi) => pure (lo, (-1 : Int), Builtin.Slice.slicePlaces lo hi (-1))) _ _ s
  have e1 : Builtin.Slice.sliceAdjust none none (-1) (n : Int) = ((n : Int) - 1, -1) := by
    unfold Builtin.Slice.sliceAdjust
    rfl
  have e2 : Builtin.Slice.slicePlaces ((n : Int) - 1) (-1) (-1) = n := by
    unfold Builtin.Slice.slicePlaces
    rw [if_neg (by decide)]
    by_cases h : (n : Int) - 1 > -1
    · rw [if_pos h]
      have : (-(-1 : Int)) = 1 := by decide
      rw [this, Int.ediv_one]
      omega
    · rw [if_neg h]
      omega
  rw [e1]
  show wpAny _ _ (pure ((n : Int) - 1, (-1 : Int), Builtin.Slice.slicePlaces ((n : Int) - 1) (-1) (-1))) _ _ s
  rw [e2]
  exact wpAny_pure h
theorem pick_back (xs : Array Value) : ((List.range xs.size).filterMap fun (m : Nat) => xs[(((xs.size : Int) - 1) + (m : Int) * (-1)).toNat]?).toArray = xs.toList.reverse.toArray := by
  congr 1
  apply List.ext_getElem?
  intro i
  have key : ∀ k, k ≤ xs.size → ((List.range k).filterMap fun (m : Nat) => xs[(((xs.size : Int) - 1) + (m : Int) * (-1)).toNat]?) = xs.toList.reverse.take k := by
    intro k
    induction k with
    | zero => intro _; rfl
    | succ k ih =>
      intro hk
      rw [List.range_succ, List.filterMap_append, ih (by omega), List.take_add_one]
      congr 1
      have hi : (((xs.size : Int) - 1) + (k : Int) * (-1)).toNat = xs.size - 1 - k := by omega
      have h1 : xs.size - 1 - k < xs.size := by omega
      have h2 : xs.toList.reverse[k]? = some xs[xs.size - 1 - k] := by
        rw [List.getElem?_reverse (by simpa using (show k < xs.size by omega))]
        simp [h1]
      rw [h2]
      have h3 : xs[(((xs.size : Int) - 1) + (k : Int) * (-1)).toNat]? = some xs[xs.size - 1 - k] := by rw [hi]; simp [h1]
      rw [List.filterMap_cons, h3]
      rfl
  rw [key xs.size (Nat.le_refl _), List.take_of_length_le (by simp)]
theorem getItem_tuple_back {prog : Program} {w : World} {A : Around} {E : Value → Shared → Prop} {s : Shared} {t sl : Addr} {items : Array Value} {vl vu vs : Value} {Q : Value → Shared → Prop} (ht : IsTup s.heap t items) (hs : s.heap.IsSliceOf sl vl vu vs) (pl : IsPart vl none) (pu : IsPart vu none) (ps : IsPart vs (some (-1)))
    (h : Q (.ref s.heap.objs.size) { s with heap := s.heap.push { cls := .type "tuple", data := .seq items.toList.reverse.toArray } })
    (hsz : items.size ≤ sizeLine) : wpAny (model prog w) A (getItem (.ref t) (.ref sl)) Q E s := by
  have htake : sizeOk (.seq items.toList.reverse.toArray) := by
    show items.toList.reverse.toArray.size ≤ sizeLine
    simpa using hsz
  obtain ⟨os, hos, hcs, hds⟩ := id hs
  have hTs : s.TypeIs (.ref sl) "slice" := ⟨os, hos, hcs⟩
  unfold getItem
  try with_reducible refine wpAny_holding ?_
  first | refine wpAny_bind (wpAny_pure ?_) | skip
  refine wpAny_bind (wpAny_sequenceKey ht.typeIs (by decide) ?_)
  refine wpAny_bind (wpAny_callSpecial?_slot (name := Str.ofString "__getitem__") ht.typeIs PyProof.Rows.slot_tuple_getitem
    (wpAny_call_entry PyProof.Rows.slot_tuple_getitem ht.typeIs PyProof.Rows.entry_tuple_getitem ?_ (PyProof.Rows.args_tuple_getitem _ _)))
  show wpAny _ _ (Builtin.Tuple.tupleItemsOf (.ref t) >>= _) _ _ s
  refine wpAny_bind (PyProof.Rows.tupleItemsOf_ ht ?_)
  refine wpAny_bind (wpAny_typeOf hTs ?_)
  rw [if_pos (by decide)]
  refine wpAny_bind (sliceApplied_back hs pl pu ps rfl ?_)
  have hno : ¬ (((((items.size : Int) - 1) == 0 && (-1 : Int) == 1 && items.size == items.size)) = true) := by
    intro q
    rw [Bool.and_eq_true, Bool.and_eq_true] at q
    exact absurd q.1.2 (by decide)
  show wpAny _ _ (if ((((items.size : Int) - 1) == 0 && (-1 : Int) == 1 && items.size == items.size)) = true then _ else _) _ _ s
  rw [if_neg hno, pick_back]
  first
    | exact wpAny_bind (m := Builtin.Tuple.tupleExact _) (wpAny_newObj_type (wpAny_pure ⟨_, rfl, wpAny_pure h⟩) htake)
    | exact wpAny_bind (m := Builtin.Tuple.tupleExact _) (wpAny_newObj_type (wpAny_bind (wpAny_pure (wpAny_pure ⟨_, rfl, wpAny_pure h⟩))) htake)
    | exact wpAny_bind (wpAny_bind (m := Builtin.Tuple.tupleExact _) (wpAny_newObj_type (wpAny_pure (wpAny_pure ⟨_, rfl, wpAny_pure h⟩)) htake))
    | exact wpAny_bind (wpAny_bind (m := Builtin.Tuple.tupleExact _) (wpAny_newObj_type (wpAny_pure ⟨_, rfl, wpAny_pure h⟩) htake))
/-- one datum in, one out -/
def uD (K : PySem.W.Frag) (f : D → W D) : V → Hp → VK → Prop := fun x H Q => ∃ F d z, Sub F H ∧ (∀ a ps, F a ≠ some (.tbl ps)) ∧ Rw K F H x d ∧ f d = ok z ∧ ∀ v F' H', Nw F H F' H' → Rp K F' v z → Q v H'
def tU (K : PySem.W.Frag) (f : D → W D) (te : TE) : TE := fun σ H Q => te σ H fun x H1 => uD K f x H1 Q
theorem pe_rev {e : Expr} {te : TE} {k : Nat} {p1 p2 p3 pos : Pos} (he : PE X e te) : PE X (.Subscript e (.Slice none none (some (.UnaryOp .USub (.Constant (.int 1) k p1) p2)) p3) pos) (tU X.K revS te) := by
  refine ⟨fun pins s σ H Q I h => ?_⟩
  refine Subscript_ (thn (he.run pins s σ H _ I h) fun v s1 ⟨x, H1, I1, r1, q1⟩ => ?_)
  obtain ⟨F, d, z, sF, tF, hx, hz, q⟩ := q1
  have hst : PO X (some (.UnaryOp .USub (.Constant (.int 1) k p1) p2)) (tPart (tUn (rU fun i => .int (-i)) (tC (.int 1)))) := po_some (pe_un un_neg pe_int)
  refine wpAny_Slice (thn (po_none.run pins s1 σ H1 (fun o H2 => o = none ∧ H2 = H1) I1 ⟨rfl, rfl⟩) fun vl s2 ⟨l, H2, I2, pl, el, e2⟩ => ?_)
  subst el e2
  refine thn (po_none.run pins s2 σ H2 (fun o H3 => o = none ∧ H3 = H2) I2 ⟨rfl, rfl⟩) fun vu s3 ⟨u, H3, I3, pu, eu, e3⟩ => ?_
  subst eu e3
  refine thn (hst.run pins s3 σ H3 (fun o H4 => o = some (-1) ∧ H4 = H3) I3 ⟨1, rfl, -1, rfl, rfl, rfl⟩) fun vs s4 ⟨o, H4, I4, ps, eo, e4⟩ => ?_
  subst eo e4
  have I5 : Inv X pins σ H4 { s4 with heap := s4.heap.push { cls := .type "slice", data := .fields #[vl, vu, vs] } } := I4.kept (t' := s4.toks) fun b ob q => Heap.get?_push_of_some _ q
  unfold revS at hz
  split at hz
  · cases ok_inj hz
    obtain ⟨a, xs, rfl, hx, r'⟩ := hx.lst sF
    cases r1
    obtain ⟨its, r, ht, hz⟩ := I5.list hx
    have hlen := r.length
    show wpAny (model X.prog X.w) X.A (subscriptTail e (.Slice none none (some (.UnaryOp .USub (.Constant (.int 1) k p1) p2)) p3) (.ref a) (.ref s4.heap.objs.size)) (EP X pins σ Q) X.xe { s4 with heap := s4.heap.push { cls := .type "slice", data := .fields #[vl, vu, vs] } }
    refine tail_any (ops := [.ref a, .ref s4.heap.objs.size]) ht.isList.typeIs (PySem.slot_list_getitem.lookup) ?_ (by with_unfolding_all rfl)
    refine wpAny_getItem_list_slice ht.isList (Heap.IsSliceOf.new _ vl vu vs) pl pu ps (by decide) ?_ (by rw [List.size_toArray]; omega)
    rw [PySem.W.krv_pick]
    have hp : H4 _ = none := I5.hok.fresh (Nat.le_refl _)
    refine ⟨.ref _, _, I5.laid (t' := s4.toks) (o := .lst xs.reverse) (fun b ob q => Heap.get?_push_of_some _ q) (Nat.le_refl _) ?_, rfl, q _ _ _ (.upd sF hp (notbl_lst _)) (rp_new (sF.nope hp) r'.rev)⟩
    exact ⟨by rw [List.length_reverse]; exact hz, _, 0, r.reverse, Heap.get?_push_size _ rfl⟩
  · cases ok_inj hz
    obtain ⟨a, xs, rfl, hx, r'⟩ := hx.tup sF
    cases r1
    obtain ⟨its, r, ht, hz⟩ := I5.tuple hx
    have hlen := r.length
    show wpAny (model X.prog X.w) X.A (subscriptTail e (.Slice none none (some (.UnaryOp .USub (.Constant (.int 1) k p1) p2)) p3) (.ref a) (.ref s4.heap.objs.size)) (EP X pins σ Q) X.xe { s4 with heap := s4.heap.push { cls := .type "slice", data := .fields #[vl, vu, vs] } }
    refine tail_any (ops := [.ref a, .ref s4.heap.objs.size]) ht.typeIs (PyProof.Rows.slot_tuple_getitem.lookup) ?_ (by with_unfolding_all rfl)
    refine getItem_tuple_back ht (Heap.IsSliceOf.new _ vl vu vs) pl pu ps ?_ (by rw [List.size_toArray]; omega)
    have hp : H4 _ = none := I5.hok.fresh (Nat.le_refl _)
    refine ⟨.ref _, _, I5.laid (t' := s4.toks) (o := .tup xs.reverse) (fun b ob q => Heap.get?_push_of_some _ q) (Nat.le_refl _) ?_, rfl, q _ _ _ (.upd sF hp (notbl_tup _)) (rp_newT (sF.nope hp) r'.rev)⟩
    exact ⟨by rw [List.length_reverse]; exact hz, _, r.reverse, IsTup.new _ _⟩
  · exact absurd hz stuck_ne
end
end Z
end
-- Z5
section
set_option Elab.async false
set_option linter.all false
set_option maxRecDepth 100000
set_option maxHeartbeats 1000000
/-! Z5: built-ins. -/
namespace Z
open PySem PySem.Spec PyProof.Rows L2

/-! ### sorted ints -/
section
variable {α : Type}
theorem insI_perm (lt : α → α → Bool) (x : α) : ∀ l : List α, (insI lt x l).Perm (x :: l)
  | [] => .refl _
  | y :: r => by
    unfold insI
    by_cases h : lt x y = true
    · rw [if_pos h]
    · rw [if_neg h]
      exact ((insI_perm lt x r).cons y).trans (.swap x y r)
theorem foldl_ins_perm (lt : α → α → Bool) : ∀ (l acc : List α), (l.foldl (fun acc x => insI lt x acc) acc).Perm (acc ++ l)
  | [], acc => by simp
  | x :: r, acc => by
    rw [List.foldl_cons]
    refine (foldl_ins_perm lt r _).trans ?_
    refine ((insI_perm lt x acc).append_right r).trans ?_
    rw [List.cons_append]
    exact List.perm_middle.symm
theorem srt_perm (lt : α → α → Bool) (l : List α) : (srt lt l).Perm l := by
  have := foldl_ins_perm lt l []
  rwa [List.nil_append] at this
end
theorem insI_le (x : Int) : ∀ l : List Int, l.Pairwise (· ≤ ·) → (insI (fun a b => decide (a < b)) x l).Pairwise (· ≤ ·)
  | [], _ => List.pairwise_singleton _ _
  | y :: r, h => by
    have h' := List.pairwise_cons.mp h
    unfold insI
    by_cases c : x < y
    · rw [if_pos (decide_eq_true c)]
      refine List.pairwise_cons.mpr ⟨fun z hz => ?_, h⟩
      rcases List.mem_cons.mp hz with e | e
      · subst e; omega
      · have := h'.1 z e; omega
    · rw [if_neg (by simpa using c)]
      refine List.pairwise_cons.mpr ⟨fun z hz => ?_, insI_le x r h'.2⟩
      rcases List.mem_cons.mp ((insI_perm _ x r).mem_iff.mp hz) with e | e
      · subst e; omega
      · exact h'.1 z e
theorem srt_le (l : List Int) : (srt (fun a b => decide (a < b)) l).Pairwise (· ≤ ·) := by
  have go : ∀ (l acc : List Int), acc.Pairwise (· ≤ ·) → (l.foldl (fun acc x => insI (fun a b => decide (a < b)) x acc) acc).Pairwise (· ≤ ·) := by
    intro l
    induction l with
    | nil => intro acc h; exact h
    | cons x r ih => intro acc h; exact ih _ (insI_le x acc h)
  exact go l [] .nil
theorem sorted_uniq : ∀ {l m : List Int}, l.Perm m → l.Pairwise (· ≤ ·) → m.Pairwise (· ≤ ·) → l = m
  | [], m, p, _, _ => by rw [List.nil_perm.mp p]
  | x :: l, m, p, hl, hm => by
    cases m with
    | nil => exact absurd p.length_eq (by simp)
    | cons y m =>
      have hl' := List.pairwise_cons.mp hl
      have hm' := List.pairwise_cons.mp hm
      have e : x = y := by
        have h1 : x ∈ y :: m := p.mem_iff.mp List.mem_cons_self
        have h2 : y ∈ x :: l := p.mem_iff.mpr List.mem_cons_self
        rcases List.mem_cons.mp h1 with e | e
        · exact e
        · rcases List.mem_cons.mp h2 with e2 | e2
          · exact e2.symm
          · have := hm'.1 x e; have := hl'.1 y e2; omega
      subst e
      rw [sorted_uniq (List.perm_cons x |>.mp p) hl'.2 hm'.2]
theorem srt_uniq {l m : List Int} (p : l.Perm m) (h : l.Pairwise (· ≤ ·)) : l = srt (fun a b => decide (a < b)) m := sorted_uniq (p.trans (srt_perm _ m).symm) h (srt_le m)

/-! ### calls by values -/
inductive Rws (K : PySem.W.Frag) (F H : Hp) : List V → List D → Prop
  | nil : Rws K F H [] []
  | cons {v : V} {vs : List V} {d : D} {ds : List D} : Rw K F H v d → Rws K F H vs ds → Rws K F H (v :: vs) (d :: ds)
theorem Rws.keep {K : PySem.W.Frag} {F H F' H' : Hp} (w : Nw F H F' H') : ∀ {vs : List V} {ds : List D}, Rws K F H vs ds → Rws K F' H' vs ds
  | _, _, .nil => .nil
  | _, _, .cons a b => .cons (a.keep w) (b.keep w)
def rB (K : PySem.W.Frag) (f : List D → W D) : List V → Hp → VK → Prop := fun vs H Q => ∃ F ds z, Sub F H ∧ (∀ a ps, F a ≠ some (.tbl ps)) ∧ Rws K F H vs ds ∧ f ds = ok z ∧ ∀ v F' H', Nw F H F' H' → Rp K F' v z → Q v H'
section
variable {X : Cx}
theorem bnd_okS {α β : Type} {m : W α} {f : α → W β} {z : β} [Inhabited β] (d : Det m) (h : bnd m f = ok z) : ∃ a, m = ok a ∧ f a = ok z := by
  rcases d with e | ⟨a, e⟩
  · rw [e] at h; exact absurd h stuck_ne
  · rw [e] at h; exact ⟨a, e, h⟩
theorem oW_ok {α : Type} [Inhabited α] {o : Option α} {z : α} (h : oW o = ok z) : o = some z := by
  cases o with
  | none => exact absurd h stuck_ne
  | some d => rw [ok_inj (show ok d = ok z from h)]
/-- a list or tuple by its items -/
theorem items_of {K : PySem.W.Frag} {F H : Hp} {v : V} {d : D} {xs : List D} (sF : Sub F H) (h : Rw K F H v d) (e : itemsD d = ok xs) : ∃ a vs, v = .ref a ∧ (SqL K H a vs ∨ SqT K H a vs) ∧ Rps K F vs xs ∧ (d = .lst xs ∨ d = .tup xs) := by
  unfold itemsD at e
  split at e
  · cases ok_inj e
    obtain ⟨a, vs, r1, r2, r3⟩ := h.lst sF
    exact ⟨a, vs, r1, .inl r2, r3, .inl rfl⟩
  · cases ok_inj e
    obtain ⟨a, vs, r1, r2, r3⟩ := h.tup sF
    exact ⟨a, vs, r1, .inr r2, r3, .inr rfl⟩
  · exact absurd e stuck_ne
theorem cb_len : CallR X (.builtin "len") (rB X.K (biS .len)) := by
  intro pins s σ H vs us Q I r ⟨F, ds, z, sF, tF, hr, hz, q⟩
  unfold biS at hz
  split at hz <;> first | (rename_i h; cases h; done) | skip
  all_goals first | (exact absurd hz stuck_ne) | skip
  all_goals (try cases ‹Bi.len = _›)
  · cases ok_inj hz
    cases hr with | cons h hn => ?_
    cases hn
    obtain ⟨a, xs, rfl, h1, r1⟩ := h.lst sF
    exact call_len_seq pins s σ H _ us Q I r ⟨a, xs, rfl, .inl h1, by rw [r1.length]; exact q _ F H (.refl sF) (.int _)⟩
  · cases ok_inj hz
    cases hr with | cons h hn => ?_
    cases hn
    obtain ⟨a, xs, rfl, h1, r1⟩ := h.tup sF
    exact call_len_seq pins s σ H _ us Q I r ⟨a, xs, rfl, .inr h1, by rw [r1.length]; exact q _ F H (.refl sF) (.int _)⟩
  · obtain ⟨c, hz⟩ := chk_ok hz
    have c := of_decide_eq_true c
    cases ok_inj hz
    cases hr with | cons h hn => ?_
    cases hn
    cases h.str
    exact call_len_str pins s σ H _ us Q I r ⟨_, rfl, by rw [sizeLine_eq]; exact c, q _ F H (.refl sF) (.int _)⟩
/-! ### isinstance -/
def tyN : D → Option String
  | .non => some "NoneType" | .bl _ => some "bool" | .int _ => some "int" | .str _ => some "str" | .lst _ => some "list" | .tup _ => some "tuple" | .obj _ => none
theorem tyx_of {K : PySem.W.Frag} {F H : Hp} {v : V} {d : D} {n : String} (sF : Sub F H) (h : Rw K F H v d) (e : tyN d = some n) : TyX K H v (.type n) := by
  have lstX : ∀ {a xs}, SqL K H a xs → TyX K H (.ref a) (.type "list") := fun {a xs} h => by
    rcases h with (h | ⟨o, h⟩) | ⟨o, its, n, h, c, _⟩
    · exact .base (.lst h)
    · exact .base (.frz h)
    · exact .kList h c
  have tupX : ∀ {a xs}, SqT K H a xs → TyX K H (.ref a) (.type "tuple") := fun {a xs} h => by
    rcases h with (h | ⟨o, h⟩) | ⟨o, its, n, h, c, _⟩
    · exact .base (.tup h)
    · exact .fTuple h
    · exact .kTuple h c
  rcases h with h | ⟨a, vs, ds, rfl, rfl, h, r⟩
  · cases h with
    | non => cases e; exact .base .non
    | bl b => cases e; exact .base (.bl b)
    | int i => cases e; exact .base (.int i)
    | str x => cases e; exact .base (.str x)
    | lst h1 h2 => cases e; exact lstX (sF.seqL h1)
    | tup h1 h2 => cases e; exact tupX (sF.seqT h1)
    | obj a => cases e
  · cases e; exact .base (.lst h)
def isK : Bi → List String
  | .isInt => ["int"] | .isBool => ["bool"] | .isStr => ["str"] | .isTup => ["tuple"] | .isLst => ["list"] | .isTL => ["tuple", "list"] | _ => []
def isAns (d : D) (ns : List String) : Bool := match tyN d with
  | some t => ns.any fun n => t == n || (t == "bool" && n == "int")
  | none => false
theorem isS {b : Bi} {d : D} {z : D} (hb : isK b ≠ []) (h : biS b [d] = ok z) : (∃ t, tyN d = some t) ∧ z = .bl (isAns d (isK b)) := by
  cases b <;> first | (exact absurd rfl hb) | skip
  all_goals (cases d <;> first | (exact absurd h stuck_ne) | (exact ⟨⟨_, rfl⟩, (ok_inj h).symm.trans (by rfl)⟩))
def kitAns (t n : String) : Bool := t == n || (t == "bool" && n == "int")
theorem kit_one {K : PySem.W.Frag} {d : D} {t n : String} (ht : tyN d = some t) (hn : n ∈ ["int", "bool", "str", "tuple", "list"]) : PySem.W.kitOne K (.type t) (.type n) = some (kitAns t n) := by
  have h : kitB t n = some (kitAns t n) := by
    cases d <;> cases ht <;> (simp only [List.mem_cons, List.not_mem_nil, or_false] at hn; rcases hn with h | h | h | h | h <;> subst h <;> decide +kernel)
  exact kit_ty h
/-- isinstance(x, T) -/
def rIs1 (K : PySem.W.Frag) (b : Bi) (n : String) : List V → Hp → VK → Prop := fun vs H Q => ∃ F v d z, vs = [v, .ty n] ∧ Sub F H ∧ Rw K F H v d ∧ biS b [d] = ok z ∧ ∀ v, Rp K F v z → Q v H
theorem cb_is1 {b : Bi} {n : String} (hb : isK b = [n]) (hn : n ∈ ["int", "bool", "str", "tuple", "list"]) : CallR X (.builtin "isinstance") (rIs1 X.K b n) := by
  intro pins s σ H vs us Q I r ⟨F, v, d, z, e, sF, hx, hz, q⟩
  subst e
  obtain ⟨⟨t, ht⟩, rfl⟩ := isS (by rw [hb]; simp) hz
  have e2 : isAns d (isK b) = kitAns t n := by
    unfold isAns
    rw [ht, hb]
    simp [kitAns]
  rw [e2] at q
  exact call_isi pins s σ H _ us Q I r ⟨v, .ty n, .type t, .type n, _, rfl, .ty n, tyx_of sF hx ht, kit_one ht hn, q _ (.bl _)⟩
/-- isinstance(x, (tuple, list)) -/
def rIs2 (K : PySem.W.Frag) : List V → Hp → VK → Prop := fun vs H Q => ∃ F v d z p, vs = [v, .ref p] ∧ H p = some (.tup [.ty "tuple", .ty "list"]) ∧ Sub F H ∧ Rw K F H v d ∧ biS .isTL [d] = ok z ∧ ∀ v, Rp K F v z → Q v H
theorem cb_is2 : CallR X (.builtin "isinstance") (rIs2 X.K) := by
  intro pins s σ H vs us Q I r ⟨F, v, d, z, p, e, hp, sF, hx, hz, q⟩
  subst e
  obtain ⟨⟨t, ht⟩, rfl⟩ := isS (b := .isTL) (by simp [isK]) hz
  have e2 : isAns d (isK .isTL) = (kitAns t "tuple" || kitAns t "list") := by
    unfold isAns
    rw [ht]
    simp [kitAns, isK]
  rw [e2] at q
  refine call_isiT pins s σ H _ us Q I r ⟨v, p, _, .type t, [.type "tuple", .type "list"], _, rfl, hp, .cons (.ty _) (.cons (.ty _) .nil), tyx_of sF hx ht, ?_, q _ (.bl _)⟩
  refine kitAny_cons (kit_one ht (by simp)) (fun h => ?_) fun h => by rw [h]; rfl
  rw [h, Bool.false_or]
  cases hk : kitAns t "list" with
  | true => exact kitAny_cons (kit_one ht (by simp)) (fun h => by rw [hk] at h; cases h) fun _ => rfl
  | false => exact kitAny_cons (kit_one ht (by simp)) (fun _ => kitAny_nil) fun h => by rw [hk] at h; cases h
/-! ### over lists -/
theorem one_of {K : PySem.W.Frag} {F H : Hp} {vs : List V} {d : D} (h : Rws K F H vs [d]) : ∃ v, vs = [v] ∧ Rw K F H v d := by
  cases h with | cons a b => cases b; exact ⟨_, rfl, a⟩
theorem two_of {K : PySem.W.Frag} {F H : Hp} {vs : List V} {d e : D} (h : Rws K F H vs [d, e]) : ∃ v u, vs = [v, u] ∧ Rw K F H v d ∧ Rw K F H u e := by
  cases h with | cons a b => cases b with | cons b c => cases c; exact ⟨_, _, rfl, a, b⟩
theorem cb_all (hc : X.calm = true) : CallR X (.builtin "all") (rB X.K (biS .all)) := by
  intro pins s σ H vs us Q I r ⟨F, ds, z, sF, tF, hr, hz, q⟩
  unfold biS at hz
  split at hz <;> first | (rename_i h; cases h; done) | skip
  all_goals first | (exact absurd hz stuck_ne) | skip
  all_goals (try cases ‹Bi.all = _›)
  obtain ⟨bs, hb, hz⟩ := bnd_okS (.oW _) hz
  cases ok_inj hz
  cases bls_map (oW_ok hb)
  obtain ⟨v, rfl, h⟩ := one_of hr
  obtain ⟨a, xs, rfl, h1, r1⟩ := h.lst sF
  rw [rps_blsV r1] at h1
  exact cr_all hc pins s σ H _ us Q I r ⟨a, bs, rfl, h1, q _ F H (.refl sF) (.bl _)⟩
theorem cb_any (hc : X.calm = true) : CallR X (.builtin "any") (rB X.K (biS .any)) := by
  intro pins s σ H vs us Q I r ⟨F, ds, z, sF, tF, hr, hz, q⟩
  unfold biS at hz
  split at hz <;> first | (rename_i h; cases h; done) | skip
  all_goals first | (exact absurd hz stuck_ne) | skip
  all_goals (try cases ‹Bi.any = _›)
  obtain ⟨bs, hb, hz⟩ := bnd_okS (.oW _) hz
  cases ok_inj hz
  cases bls_map (oW_ok hb)
  obtain ⟨v, rfl, h⟩ := one_of hr
  obtain ⟨a, xs, rfl, h1, r1⟩ := h.lst sF
  rw [rps_blsV r1] at h1
  exact cr_any hc pins s σ H _ us Q I r ⟨a, bs, rfl, h1, q _ F H (.refl sF) (.bl _)⟩
theorem cb_tuple : CallR X (.type "tuple") (rB X.K (biS .tuple)) := by
  intro pins s σ H vs us Q I r ⟨F, ds, z, sF, tF, hr, hz, q⟩
  unfold biS at hz
  split at hz <;> first | (rename_i h; cases h; done) | skip
  all_goals first | (exact absurd hz stuck_ne) | skip
  all_goals (try cases ‹Bi.tuple = _›)
  obtain ⟨bs, hb, hz⟩ := bnd_okS (det_itemsD _) hz
  cases ok_inj hz
  obtain ⟨v, rfl, h⟩ := one_of hr
  obtain ⟨a, xs, rfl, h1, r1, e⟩ := items_of sF h hb
  rcases e with e | e
  · subst e
    obtain ⟨a', xs', e', h1, r1⟩ := h.lst sF
    cases e'
    exact call_tuple_of pins s σ H _ us Q I r ⟨a, xs', rfl, .inl ⟨h1, fun p hp => q _ _ _ (.upd sF hp (notbl_tup _)) (rp_newT (sF.nope hp) r1)⟩⟩
  · subst e
    obtain ⟨a', xs', e', h1, r1⟩ := h.tup sF
    cases e'
    refine call_tuple_of pins s σ H _ us Q I r ⟨a, xs', rfl, .inr ⟨h1, ?_⟩⟩
    rcases h with hx | ⟨_, _, _, _, e, _⟩
    · exact q _ F H (.refl sF) hx
    · cases e
theorem cb_list : CallR X (.type "list") (rB X.K (biS .list)) := by
  intro pins s σ H vs us Q I r ⟨F, ds, z, sF, tF, hr, hz, q⟩
  unfold biS at hz
  split at hz <;> first | (rename_i h; cases h; done) | skip
  all_goals first | (exact absurd hz stuck_ne) | skip
  all_goals (try cases ‹Bi.list = _›)
  obtain ⟨bs, hb, hz⟩ := bnd_okS (det_itemsD _) hz
  cases ok_inj hz
  obtain ⟨v, rfl, h⟩ := one_of hr
  obtain ⟨a, xs, rfl, h1, r1, e⟩ := items_of sF h hb
  exact call_list_of pins s σ H _ us Q I r ⟨a, xs, rfl, h1, fun p hp => q _ _ _ (.upd sF hp (notbl_lst _)) (rp_new (sF.nope hp) r1)⟩
theorem cb_min2 (hc : X.calm = true) : CallR X (.builtin "min") (rB X.K (biS .min2)) := by
  intro pins s σ H vs us Q I r ⟨F, ds, z, sF, tF, hr, hz, q⟩
  unfold biS at hz
  split at hz <;> first | (rename_i h; cases h; done) | skip
  all_goals first | (exact absurd hz stuck_ne) | skip
  all_goals (try cases ‹Bi.min2 = _›)
  cases ok_inj hz
  obtain ⟨v, u, rfl, h1, h2⟩ := two_of hr
  cases h1.int; cases h2.int
  exact call_min2 hc pins s σ H _ us Q I r ⟨_, _, rfl, q _ F H (.refl sF) (.int _)⟩
theorem cb_max2 (hc : X.calm = true) : CallR X (.builtin "max") (rB X.K (biS .max2)) := by
  intro pins s σ H vs us Q I r ⟨F, ds, z, sF, tF, hr, hz, q⟩
  unfold biS at hz
  split at hz <;> first | (rename_i h; cases h; done) | skip
  all_goals first | (exact absurd hz stuck_ne) | skip
  all_goals (try cases ‹Bi.max2 = _›)
  cases ok_inj hz
  obtain ⟨v, u, rfl, h1, h2⟩ := two_of hr
  cases h1.int; cases h2.int
  exact call_max2 hc pins s σ H _ us Q I r ⟨_, _, rfl, q _ F H (.refl sF) (.int _)⟩
theorem foldl_min_le : ∀ (r : List Int) (x : Int), r.foldl min x ≤ x ∧ (∀ y ∈ r, r.foldl min x ≤ y) ∧ (r.foldl min x = x ∨ r.foldl min x ∈ r)
  | [], x => ⟨Int.le_refl _, fun y h => by simp at h, .inl rfl⟩
  | z :: r, x => by
    obtain ⟨h1, h2, h3⟩ := foldl_min_le r (min x z)
    rw [List.foldl_cons]
    refine ⟨by omega, fun y hy => ?_, ?_⟩
    · rcases List.mem_cons.mp hy with e | e
      · subst e; omega
      · exact h2 y e
    · rcases h3 with e | e
      · rw [e]
        by_cases c : x ≤ z
        · left; omega
        · right; rw [show min x z = z by omega]; exact List.mem_cons_self
      · right; exact List.mem_cons_of_mem _ e
theorem foldl_max_le : ∀ (r : List Int) (x : Int), x ≤ r.foldl max x ∧ (∀ y ∈ r, y ≤ r.foldl max x) ∧ (r.foldl max x = x ∨ r.foldl max x ∈ r)
  | [], x => ⟨Int.le_refl _, fun y h => by simp at h, .inl rfl⟩
  | z :: r, x => by
    obtain ⟨h1, h2, h3⟩ := foldl_max_le r (max x z)
    rw [List.foldl_cons]
    refine ⟨by omega, fun y hy => ?_, ?_⟩
    · rcases List.mem_cons.mp hy with e | e
      · subst e; omega
      · exact h2 y e
    · rcases h3 with e | e
      · rw [e]
        by_cases c : z ≤ x
        · left; omega
        · right; rw [show max x z = z by omega]; exact List.mem_cons_self
      · right; exact List.mem_cons_of_mem _ e
theorem cb_minL (hc : X.calm = true) : CallR X (.builtin "min") (rB X.K (biS .minL)) := by
  intro pins s σ H vs us Q I r ⟨F, ds, z, sF, tF, hr, hz, q⟩
  unfold biS at hz
  split at hz <;> first | (rename_i h; cases h; done) | skip
  all_goals first | (exact absurd hz stuck_ne) | skip
  all_goals (try cases ‹Bi.minL = _›)
  obtain ⟨ns, hb, hz2⟩ := bnd_okS (.oW _) hz
  clear hz
  cases intsD_map (oW_ok hb)
  cases ns with
  | nil => exact absurd hz2 stuck_ne
  | cons x rr =>
    cases ok_inj hz2
    obtain ⟨v, rfl, h⟩ := one_of hr
    obtain ⟨a, xs, rfl, h1, r1⟩ := h.lst sF
    rw [rps_intsV r1] at h1
    refine cr_min hc pins s σ H _ us Q I r ⟨a, _, rfl, h1, by simp, fun m hm hl => ?_⟩
    obtain ⟨g1, g2, g3⟩ := foldl_min_le rr x
    have e : m = rr.foldl min x := by
      have k1 : m ≤ rr.foldl min x := hl _ (by rcases g3 with e | e; rw [e]; exact List.mem_cons_self; exact List.mem_cons_of_mem _ e)
      have k2 : rr.foldl min x ≤ m := by
        rcases List.mem_cons.mp hm with e | e
        · subst e; exact g1
        · exact g2 m e
      omega
    subst e
    exact q _ F H (.refl sF) (.int _)
theorem cb_maxL (hc : X.calm = true) : CallR X (.builtin "max") (rB X.K (biS .maxL)) := by
  intro pins s σ H vs us Q I r ⟨F, ds, z, sF, tF, hr, hz, q⟩
  unfold biS at hz
  split at hz <;> first | (rename_i h; cases h; done) | skip
  all_goals first | (exact absurd hz stuck_ne) | skip
  all_goals (try cases ‹Bi.maxL = _›)
  obtain ⟨ns, hb, hz2⟩ := bnd_okS (.oW _) hz
  clear hz
  cases intsD_map (oW_ok hb)
  cases ns with
  | nil => exact absurd hz2 stuck_ne
  | cons x rr =>
    cases ok_inj hz2
    obtain ⟨v, rfl, h⟩ := one_of hr
    obtain ⟨a, xs, rfl, h1, r1⟩ := h.lst sF
    rw [rps_intsV r1] at h1
    refine cr_max hc pins s σ H _ us Q I r ⟨a, _, rfl, h1, by simp, fun m hm hl => ?_⟩
    obtain ⟨g1, g2, g3⟩ := foldl_max_le rr x
    have e : m = rr.foldl max x := by
      have k1 : rr.foldl max x ≤ m := hl _ (by rcases g3 with e | e; rw [e]; exact List.mem_cons_self; exact List.mem_cons_of_mem _ e)
      have k2 : m ≤ rr.foldl max x := by
        rcases List.mem_cons.mp hm with e | e
        · subst e; exact g1
        · exact g2 m e
      omega
    subst e
    exact q _ F H (.refl sF) (.int _)
theorem cb_sum (hc : X.calm = true) : CallR X (.builtin "sum") (rB X.K (biS .sum)) := by
  intro pins s σ H vs us Q I r ⟨F, ds, z, sF, tF, hr, hz, q⟩
  unfold biS at hz
  split at hz <;> first | (rename_i h; cases h; done) | skip
  all_goals first | (exact absurd hz stuck_ne) | skip
  all_goals (try cases ‹Bi.sum = _›)
  obtain ⟨ns, hb, hz2⟩ := bnd_okS (.oW _) hz
  clear hz
  cases intsD_map (oW_ok hb)
  cases ok_inj hz2
  obtain ⟨v, rfl, h⟩ := one_of hr
  obtain ⟨a, xs, rfl, h1, r1⟩ := h.lst sF
  rw [rps_intsV r1] at h1
  exact cr_sum hc pins s σ H _ us Q I r ⟨a, _, rfl, h1, q _ F H (.refl sF) (.int _)⟩
theorem cb_abs : CallR X (.builtin "abs") (rB X.K (biS .abs)) := by
  intro pins s σ H vs us Q I r ⟨F, ds, z, sF, tF, hr, hz, q⟩
  unfold biS at hz
  split at hz <;> first | (rename_i h; cases h; done) | skip
  all_goals first | (exact absurd hz stuck_ne) | skip
  all_goals (try cases ‹Bi.abs = _›)
  cases ok_inj hz
  obtain ⟨v, rfl, h⟩ := one_of hr
  cases h.int
  exact call_abs pins s σ H _ us Q I r ⟨_, rfl, q _ F H (.refl sF) (.int _)⟩
theorem cb_int : CallR X (.type "int") (rB X.K (biS .int)) := by
  intro pins s σ H vs us Q I r ⟨F, ds, z, sF, tF, hr, hz, q⟩
  unfold biS at hz
  split at hz <;> first | (rename_i h; cases h; done) | skip
  all_goals first | (exact absurd hz stuck_ne) | skip
  all_goals (try cases ‹Bi.int = _›)
  · cases ok_inj hz
    obtain ⟨v, rfl, h⟩ := one_of hr
    cases h.int
    exact call_int1 pins s σ H _ us Q I r (.inl ⟨_, rfl, q _ F H (.refl sF) (.int _)⟩)
  · cases ok_inj hz
    obtain ⟨v, rfl, h⟩ := one_of hr
    cases h.bl
    refine call_int1 pins s σ H _ us Q I r (.inr ⟨_, rfl, ?_⟩)
    rename_i b
    have e : (if b = true then (1 : Int) else 0) = bI b := by cases b <;> rfl
    rw [e]
    exact q _ F H (.refl sF) (.int _)
theorem cb_str : CallR X (.type "str") (rB X.K (biS .str)) := by
  intro pins s σ H vs us Q I r ⟨F, ds, z, sF, tF, hr, hz, q⟩
  unfold biS at hz
  split at hz <;> first | (rename_i h; cases h; done) | skip
  all_goals first | (exact absurd hz stuck_ne) | skip
  all_goals (try cases ‹Bi.str = _›)
  obtain ⟨c, hz⟩ := chk_ok hz
  have c := of_decide_eq_true c
  cases ok_inj hz
  obtain ⟨v, rfl, h⟩ := one_of hr
  cases h.int
  rename_i i
  refine call_str_int pins s σ H _ us Q I r ⟨_, rfl, ?_, q _ F H (.refl sF) (.str _)⟩
  exact Nat.lt_of_lt_of_le (PySem.Flt.log2_lt_of (k := 1700) (by decide) (Nat.lt_of_lt_of_le c (by decide))) (by decide)
theorem cb_sorted_ints {ns : List Int} {a : Addr} {pins : List (Addr × Obj)} {s : Shared} {σ : L2.St} {H F : Hp} {us : List Value} {Q : VK} (I : Inv X pins σ H s) (r : Vals [.ref a] us) (h1 : SqL X.K H a (ns.map V.int)) (sF : Sub F H)
    (q : ∀ v F' H', Nw F H F' H' → Rp X.K F' v (.lst ((srt (fun a b => decide (a < b)) ns).map .int)) → Q v H') : wpAny (model X.prog X.w) X.A (call (.builtin "sorted") us) (EP X pins σ Q) X.xe s := by
  refine cr_sortedI pins s σ H _ us Q I r ⟨a, ns, rfl, h1, fun ns' p hp hs np => ?_⟩
  rw [srt_uniq hp hs]
  exact q _ _ _ (.upd sF np (notbl_lst _)) (rp_new (sF.nope np) (rps_ints _))
theorem cb_sorted : CallR X (.builtin "sorted") (rB X.K (biS .sorted)) := by
  intro pins s σ H vs us Q I r ⟨F, ds, z, sF, tF, h, e, q⟩
  cases h with
  | nil => exact absurd e stuck_ne
  | cons h0 ht =>
    cases ht with
    | cons _ _ => rename_i d _ _ _ _ _ _; cases d <;> exact absurd e stuck_ne
    | nil =>
      rename_i v d
      cases d with
      | lst xs =>
        obtain ⟨ns, e1, e2⟩ := bnd_okS (.oW _) e
        have e1 := intsD_map (oW_ok e1)
        cases ok_inj e2
        obtain ⟨a, ws, rfl, h1, h2⟩ := h0.lst sF
        rw [e1] at h2
        rw [rps_intsV h2] at h1
        exact cb_sorted_ints I r h1 sF q
      | _ => exact absurd e stuck_ne
end
end Z
end
-- Z6
section
set_option Elab.async false
set_option linter.all false
set_option maxRecDepth 100000
set_option maxHeartbeats 1000000
/-! Z6: what holds of all trees: monotony; the readings; the slots' relation carried on. -/
namespace Z
open PySem PySem.Spec PyProof.Rows L2

/-! ### monotony -/
section
variable {α β : Type}
theorem Mono.ok (a : α) : Mono (ok a) := fun n Q Q' E E' h _ q => h a n q
theorem Mono.stuck : Mono (stuck : W α) := fun n Q Q' E E' h _ q => q
theorem Mono.rz (e : Exc) : Mono (rz e : W α) := fun n Q Q' E E' _ h q => h e n q
theorem Mono.bnd {m : W α} {f : α → W β} (h : Mono m) (g : ∀ a, Mono (f a)) : Mono (bnd m f) := fun n Q Q' E E' hQ hE q => h n _ _ _ _ (fun a n' q' => g a n' _ _ _ _ hQ hE q') hE q
theorem Mono.chk {b : Bool} {m : W α} (h : Mono m) : Mono (chk b m) := by
  cases b
  · exact Mono.stuck
  · exact h
theorem Mono.nox {m : W α} (h : Mono m) : Mono (nox m) := fun n Q Q' E E' hQ hE q => h n _ _ _ _ hQ (fun _ _ x => x) q
theorem Mono.keepN {m : W α} (h : Mono m) : Mono (keepN m) := fun n Q Q' E E' hQ hE q => h n _ _ _ _ (fun a _ x => hQ a n x) (fun e _ x => hE e n x) q
theorem Mono.ife {b : Bool} {x y : W α} (h : Mono x) (g : Mono y) : Mono (ife b x y) := by
  cases b
  · exact g
  · exact h
theorem Mono.det {m : W α} (d : Det m) : Mono m := by
  rcases d with e | ⟨z, e⟩
  · rw [e]; exact Mono.stuck
  · rw [e]; exact Mono.ok z
theorem Mono.gatW {f : D → W (List D)} (h : ∀ d, Mono (f d)) : ∀ ds, Mono (gatW f ds)
  | [] => Mono.ok _
  | d :: r => (h d).bnd fun _ => (Mono.gatW h r).bnd fun _ => .ok _
theorem Mono.tryW {m : W D} (h : Mono m) : Mono (tryW m) := fun n Q Q' E E' hQ hE q => h n _ _ _ _ (fun a n' x => hQ _ n' x) (fun e n' x => by
  split at x
  · exact hQ _ n' x
  · exact x) q
end
theorem det_zipW (d e : D) : Det (zipW d e) := by
  cases d <;> cases e <;> first | exact .stuck | exact .chk (.ok _)
theorem det_charsW (d : D) : Det (charsW d) := by
  cases d <;> first | exact .stuck | exact .chk (.ok _)
mutual
theorem det_bindT : ∀ (t : Tg) (d : D) (ρ : Ev), Det (bindT t d ρ)
  | .nm i, d, ρ => .ok _
  | .tup ts, d, ρ => by
    cases d <;> first | exact .stuck | exact det_bindTs ts _ ρ
theorem det_bindTs : ∀ (ts : Tgs) (ds : List D) (ρ : Ev), Det (bindTs ts ds ρ)
  | .nil, ds, ρ => by cases ds <;> first | exact .stuck | exact .ok _
  | .cons t r, ds, ρ => by
    cases ds with
    | nil => exact .stuck
    | cons d ds => exact (det_bindT t d ρ).bnd fun ρ' => det_bindTs r ds ρ'
end
mutual
def allE (P : Fn → Prop) : Ex → Prop
  | .tup es => allEs P es
  | .lst es => allEs P es
  | .op _ a b => allE P a ∧ allE P b
  | .neg a => allE P a
  | .not a => allE P a
  | .cmp _ a b => allE P a ∧ allE P b
  | .chain _ _ a b c => allE P a ∧ allE P b ∧ allE P c
  | .and es => allEs P es
  | .or es => allEs P es
  | .ite t a b => allE P t ∧ allE P a ∧ allE P b
  | .ix a i => allE P a ∧ allE P i
  | .slc a lo hi => allE P a ∧ allO P lo ∧ allO P hi
  | .rev a => allE P a
  | .call f es => P f ∧ allA P es
  | .bi _ es => allEs P es
  | .comp elt _ it c _ => allE P elt ∧ allI P it ∧ allO P c
  | .comp2 elt _ it c _ it2 c2 _ _ => allE P elt ∧ allI P it ∧ allO P c ∧ allI P it2 ∧ allO P c2
  | .idx a b => allE P a ∧ allE P b
  | .cnt a b => allE P a ∧ allE P b
  | .join a b => allE P a ∧ allE P b
  | .split a b => allE P a ∧ allE P b
  | .fstr es => allEs P es
  | .dget _ e => allE P e
  | .dict e => allE P e
  | .tryl e => allE P e
  | _ => True
def allEs (P : Fn → Prop) : Exs → Prop
  | .nil => True
  | .cons e r => allE P e ∧ allEs P r
def allO (P : Fn → Prop) : Ox → Prop
  | .none => True
  | .some e => allE P e
def allA (P : Fn → Prop) : As → Prop
  | .nil => True
  | .val e r => allE P e ∧ allA P r
  | .deck _ r => allA P r
def allI (P : Fn → Prop) : It → Prop
  | .seq e => allE P e
  | .rng1 a => allE P a
  | .rng2 a b => allE P a ∧ allE P b
  | .enum a => allE P a
  | .zip a b => allE P a ∧ allE P b
  | .chars a => allE P a
end
mutual
def allP (P : Fn → Prop) : Pg → Prop
  | .ix _ k => allE P k
  | _ => True
def allPs (P : Fn → Prop) : Pgs → Prop
  | .nil => True
  | .cons p r => allP P p ∧ allPs P r
def allS (P : Fn → Prop) : St → Prop
  | .set _ e => allE P e
  | .setO _ e => allE P e
  | .mkdeck _ a b => allE P a ∧ allE P b
  | .asg _ e => allE P e
  | .par ts es => allPs P ts ∧ allEs P es
  | .aug _ _ e => allE P e
  | .setix _ k e => allE P k ∧ allE P e
  | .app _ e => allE P e
  | .dput _ k e => allE P k ∧ allE P e
  | .iff t a b => allE P t ∧ allSs P a ∧ allSs P b
  | .for_ _ it b => allI P it ∧ allSs P b
  | .whl t b => allE P t ∧ allSs P b
  | .ret e => allE P e
  | .rais _ a => allO P a
  | .expr e => allE P e
  | _ => True
def allSs (P : Fn → Prop) : Sts → Prop
  | .nil => True
  | .cons s r => allS P s ∧ allSs P r
end
def MonoF (f : Fn) : Prop := ∀ as, Mono (f.sem as)
theorem mono_callW {f : Fn} (h : MonoF f) (as : List Sl) : Mono (callW f as) := by
  unfold callW
  cases as.any isDeck
  · exact (h as).keepN
  · exact h as
mutual
theorem monoE : ∀ (e : Ex) (ρ : Ev), allE MonoF e → Mono (evE e ρ)
  | .var i, ρ, _ => by unfold evE; split <;> first | exact .ok _ | exact .stuck
  | .own i, ρ, _ => by unfold evE; split <;> first | exact .ok _ | exact .stuck
  | .non, ρ, _ => .ok _
  | .bl b, ρ, _ => .ok _
  | .int i, ρ, _ => .ok _
  | .str x, ρ, _ => .ok _
  | .tup es, ρ, h => (monoEs es ρ h).bnd fun _ => .ok _
  | .lst es, ρ, h => (monoEs es ρ h).bnd fun _ => .ok _
  | .op o a b, ρ, h => (monoE a ρ h.1).bnd fun _ => (monoE b ρ h.2).bnd fun _ => .det (det_opS _ _ _)
  | .neg a, ρ, h => (monoE a ρ h).bnd fun _ => (Mono.det (det_intOf _)).bnd fun _ => .ok _
  | .not a, ρ, h => (monoE a ρ h).bnd fun _ => (Mono.det (det_asB _)).bnd fun _ => .ok _
  | .cmp o a b, ρ, h => (monoE a ρ h.1).bnd fun _ => (monoE b ρ h.2).bnd fun _ => .det (det_cmS _ _ _)
  | .chain o1 o2 a b c, ρ, h => (monoE a ρ h.1).bnd fun _ => (monoE b ρ h.2.1).bnd fun _ => (Mono.det (det_cmS _ _ _)).bnd fun _ => (Mono.det (det_asB _)).bnd fun _ => .ife ((monoE c ρ h.2.2).bnd fun _ => .det (det_cmS _ _ _)) (.ok _)
  | .and es, ρ, h => monoAnd es ρ h
  | .or es, ρ, h => monoOr es ρ h
  | .ite t a b, ρ, h => (monoE t ρ h.1).bnd fun _ => (Mono.det (det_asB _)).bnd fun _ => .ife (monoE a ρ h.2.1) (monoE b ρ h.2.2)
  | .ix a i, ρ, h => (monoE a ρ h.1).bnd fun _ => (monoE i ρ h.2).bnd fun _ => .det (det_ixS _ _)
  | .slc a lo hi, ρ, h => (monoE a ρ h.1).bnd fun _ => (monoO lo ρ h.2.1).bnd fun _ => (monoO hi ρ h.2.2).bnd fun _ => .det (det_slS _ _ _)
  | .rev a, ρ, h => (monoE a ρ h).bnd fun _ => .det (det_revS _)
  | .call f es, ρ, h => (monoA es ρ h.2).bnd fun _ => mono_callW h.1 _
  | .bi f es, ρ, h => (monoEs es ρ h).bnd fun _ => .det (det_biS _ _)
  | .comp elt t it c own, ρ, h => (monoI it ρ h.2.1).bnd fun _ => .chk <| .nox <| (Mono.gatW (fun d => (Mono.det (det_bindT t d _)).bnd fun ρ' => (monoC c ρ' h.2.2).bnd fun _ => .ife ((monoE elt ρ' h.1).bnd fun _ => .ok _) (.ok _)) _).bnd fun _ => .ok _
  | .comp2 elt t it c t2 it2 c2 own own2, ρ, h => (monoI it ρ h.2.1).bnd fun _ => .chk <| .nox <| (Mono.gatW (fun d => (Mono.det (det_bindT t d _)).bnd fun ρ' => (monoC c ρ' h.2.2.1).bnd fun _ => .ife
      ((monoI it2 ρ' h.2.2.2.1).bnd fun _ => .chk <| Mono.gatW (fun e => (Mono.det (det_bindT t2 e _)).bnd fun ρ2 => (monoC c2 ρ2 h.2.2.2.2).bnd fun _ => .ife ((monoE elt ρ2 h.1).bnd fun _ => .ok _) (.ok _)) _) (.ok _)) _).bnd fun _ => .ok _
  | .idx a b, ρ, h => (monoE a ρ h.1).bnd fun _ => (monoE b ρ h.2).bnd fun _ => (Mono.det (det_itemsD _)).bnd fun _ => .chk ((Mono.det (.oW _)).bnd fun _ => .ok _)
  | .cnt a b, ρ, h => (monoE a ρ h.1).bnd fun _ => (monoE b ρ h.2).bnd fun _ => (Mono.det (det_itemsD _)).bnd fun _ => .chk (.ok _)
  | .join a b, ρ, h => (monoE a ρ h.1).bnd fun x => (monoE b ρ h.2).bnd fun _ => by
    cases x <;> first | exact .stuck | exact (Mono.det (det_itemsD _)).bnd fun _ => (Mono.det (.oW _)).bnd fun _ => .chk (.ok _)
  | .split a b, ρ, h => (monoE a ρ h.1).bnd fun x => (monoE b ρ h.2).bnd fun y => by
    split
    · split <;> first | exact .stuck | exact .chk (.ok _)
    · exact .stuck
  | .fstr es, ρ, h => (monoEs es ρ h).bnd fun _ => (Mono.det (.oW _)).bnd fun _ => .chk (.ok _)
  | .dget i e, ρ, h => by
    unfold evE
    split
    · exact (monoE e ρ h).bnd fun _ => (Mono.det (det_intOf _)).bnd fun _ => .det (.oD _)
    · exact .stuck
  | .dict e, ρ, h => (monoE e ρ h).bnd fun x => by
    cases x <;> first | exact .stuck | exact (Mono.det (.oW _)).bnd fun _ => .chk (.ok _)
  | .dcp j, ρ, _ => by
    unfold evE
    split <;> first | exact .ok _ | exact .stuck
  | .tryl e, ρ, h => (monoE e ρ h).tryW
theorem monoEs : ∀ (es : Exs) (ρ : Ev), allEs MonoF es → Mono (evs es ρ)
  | .nil, ρ, _ => .ok _
  | .cons e r, ρ, h => (monoE e ρ h.1).bnd fun _ => (monoEs r ρ h.2).bnd fun _ => .ok _
theorem monoAnd : ∀ (es : Exs) (ρ : Ev), allEs MonoF es → Mono (evAnd es ρ)
  | .nil, ρ, _ => .stuck
  | .cons e .nil, ρ, h => monoE e ρ h.1
  | .cons e (.cons e2 r), ρ, h => (monoE e ρ h.1).bnd fun _ => (Mono.det (det_asB _)).bnd fun _ => .ife (monoAnd (.cons e2 r) ρ h.2) (.ok _)
theorem monoOr : ∀ (es : Exs) (ρ : Ev), allEs MonoF es → Mono (evOr es ρ)
  | .nil, ρ, _ => .stuck
  | .cons e .nil, ρ, h => monoE e ρ h.1
  | .cons e (.cons e2 r), ρ, h => (monoE e ρ h.1).bnd fun _ => (Mono.det (det_asB _)).bnd fun _ => .ife (.ok _) (monoOr (.cons e2 r) ρ h.2)
theorem monoO : ∀ (o : Ox) (ρ : Ev), allO MonoF o → Mono (evO o ρ)
  | .none, ρ, _ => .ok _
  | .some e, ρ, h => (monoE e ρ h).bnd fun _ => (Mono.det (det_intOf _)).bnd fun _ => .ok _
theorem monoC : ∀ (o : Ox) (ρ : Ev), allO MonoF o → Mono (evC o ρ)
  | .none, ρ, _ => .ok _
  | .some e, ρ, h => (monoE e ρ h).bnd fun _ => .det (det_asB _)
theorem monoA : ∀ (as : As) (ρ : Ev), allA MonoF as → Mono (evA as ρ)
  | .nil, ρ, _ => .ok _
  | .val e r, ρ, h => (monoE e ρ h.1).bnd fun _ => (monoA r ρ h.2).bnd fun _ => .ok _
  | .deck i r, ρ, h => by
    unfold evA
    split
    · exact (monoA r ρ h).bnd fun _ => .ok _
    · exact .stuck
theorem monoI : ∀ (it : It) (ρ : Ev), allI MonoF it → Mono (evI it ρ)
  | .seq e, ρ, h => (monoE e ρ h).bnd fun _ => .det (det_itemsD _)
  | .rng1 a, ρ, h => (monoE a ρ h).bnd fun _ => (Mono.det (det_intOf _)).bnd fun _ => .chk (.ok _)
  | .rng2 a b, ρ, h => (monoE a ρ h.1).bnd fun _ => (monoE b ρ h.2).bnd fun _ => (Mono.det (det_intOf _)).bnd fun _ => (Mono.det (det_intOf _)).bnd fun _ => .chk (.ok _)
  | .enum a, ρ, h => (monoE a ρ h).bnd fun _ => (Mono.det (det_itemsD _)).bnd fun _ => .ok _
  | .zip a b, ρ, h => (monoE a ρ h.1).bnd fun _ => (monoE b ρ h.2).bnd fun _ => .det (det_zipW _ _)
  | .chars a, ρ, h => (monoE a ρ h).bnd fun x => .det (det_charsW x)
end
theorem mono_thenF {m : W Fl} {f : Ev → W Fl} (h : Mono m) (g : ∀ ρ, Mono (f ρ)) : Mono (thenF m f) := h.bnd fun fl => by
  cases fl
  · exact g _
  · exact .ok _
theorem mono_forW {t : Tg} {b : Ev → W Fl} (h : ∀ ρ, Mono (b ρ)) : ∀ (ds : List D) (ρ : Ev), Mono (forW t b ds ρ)
  | [], ρ => .ok _
  | d :: r, ρ => (Mono.det (det_bindT t d ρ)).bnd fun ρ1 => mono_thenF (h ρ1) fun ρ2 => mono_forW h r ρ2
theorem mono_whlN {c : Ev → W Bool} {b : Ev → W Fl} (hc : ∀ ρ, Mono (c ρ)) (h : ∀ ρ, Mono (b ρ)) : ∀ (k : Nat) (ρ : Ev), Mono (whlN c b k ρ)
  | 0, ρ => .stuck
  | k + 1, ρ => (hc ρ).bnd fun _ => .ife (mono_thenF (h ρ) fun ρ2 => mono_whlN hc h k ρ2) (.ok _)
theorem mono_whlW {c : Ev → W Bool} {b : Ev → W Fl} (hc : ∀ ρ, Mono (c ρ)) (h : ∀ ρ, Mono (b ρ)) (ρ : Ev) : Mono (whlW c b ρ) := fun n Q Q' E E' hQ hE ⟨k, q⟩ => ⟨k, mono_whlN hc h k ρ n Q Q' E E' hQ hE q⟩
theorem mono_assP : ∀ (ts : Pgs) (ds : List D) (ρ : Ev), allPs MonoF ts → Mono (assP ts ds ρ)
  | .nil, ds, ρ, _ => by cases ds <;> first | exact .stuck | exact .ok _
  | .cons t r, [], ρ, _ => .stuck
  | .cons (.nm i) r, d :: ds, ρ, h => mono_assP r ds _ h.2
  | .cons (.ow i) r, d :: ds, ρ, h => by
    exact .chk (mono_assP r ds _ h.2)
  | .cons (.ix i k) r, d :: ds, ρ, h => by
    show Mono (match at_ ρ i with
      | .own xs => bnd (evE k ρ) fun y => bnd (intOf y) fun j => chk (decide (0 ≤ j ∧ j < xs.length)) (assP r ds (put ρ i (.own (xs.set j.toNat d))))
      | _ => stuck)
    cases at_ ρ i with
    | own xs => exact (monoE k ρ h.1).bnd fun _ => (Mono.det (det_intOf _)).bnd fun _ => .chk (mono_assP r ds _ h.2)
    | _ => exact .stuck
mutual
theorem monoS : ∀ (s : St) (ρ : Ev), allS MonoF s → Mono (runS s ρ)
  | .set i e, ρ, h => (monoE e ρ h).bnd fun _ => .ok _
  | .setO i e, ρ, h => (monoE e ρ h).bnd fun d => .chk (.ok _)
  | .move j i, ρ, _ => by unfold runS; split <;> first | exact .stuck | exact .ok _
  | .freeze i, ρ, _ => by unfold runS; split <;> first | exact .stuck | exact .ok _
  | .mkdeck i a b, ρ, h => (monoEs (.cons a (.cons b .nil)) ρ ⟨h.1, h.2, trivial⟩).bnd fun ds => by
    unfold deckW
    split
    · exact .chk fun n Q Q' E E' hQ hE q => hQ _ _ q
    · exact .stuck
  | .asg t e, ρ, h => (monoE e ρ h).bnd fun d => (Mono.det (det_bindT t d ρ)).bnd fun _ => .ok _
  | .par ts es, ρ, h => (monoEs es ρ h.2).bnd fun ds => (mono_assP ts ds ρ h.1).bnd fun _ => .ok _
  | .aug i o e, ρ, h => by
    unfold runS
    split
    · exact (monoE e ρ h).bnd fun _ => (Mono.det (det_opS _ _ _)).bnd fun _ => .ok _
    · exact .stuck
  | .setix i k e, ρ, h => (monoE e ρ h.2).bnd fun _ => by
    cases at_ ρ i with
    | own xs => exact (monoE k ρ h.1).bnd fun _ => (Mono.det (det_intOf _)).bnd fun _ => .chk (.ok _)
    | _ => exact .stuck
  | .app i e, ρ, h => by
    unfold runS
    split
    · exact (monoE e ρ h).bnd fun _ => .chk (.ok _)
    · exact .stuck
  | .dput i k e, ρ, h => (monoE e ρ h.2).bnd fun _ => by
    cases at_ ρ i with
    | dct xs => exact (monoE k ρ h.1).bnd fun _ => (Mono.det (det_intOf _)).bnd fun _ => .chk (.ok _)
    | _ => exact .stuck
  | .iff t a b, ρ, h => (monoE t ρ h.1).bnd fun _ => (Mono.det (det_asB _)).bnd fun _ => .ife (monoSs a ρ h.2.1) (monoSs b ρ h.2.2)
  | .for_ t it b, ρ, h => (monoI it ρ h.1).bnd fun ds => mono_forW (fun ρ' => monoSs b ρ' h.2) ds ρ
  | .whl t b, ρ, h => mono_whlW (fun ρ' => (monoE t ρ' h.1).bnd fun _ => .det (det_asB _)) (fun ρ' => monoSs b ρ' h.2) ρ
  | .ret e, ρ, h => (monoE e ρ h).bnd fun _ => .ok _
  | .rais cls .none, ρ, h => .rz _
  | .rais cls (.some e), ρ, h => (monoE e ρ h).bnd fun _ => .rz _
  | .expr e, ρ, h => (monoE e ρ h).bnd fun _ => .ok _
theorem monoSs : ∀ (s : Sts) (ρ : Ev), allSs MonoF s → Mono (runs s ρ)
  | .nil, ρ, _ => .ok _
  | .cons s r, ρ, h => mono_thenF (monoS s ρ h.1) fun ρ' => monoSs r ρ' h.2
end
theorem mono_run {m : Nat} {b : Sts} (h : allSs MonoF b) (as : List Sl) : Mono (run m b as) := (monoSs b _ h).bnd fun fl => by cases fl <;> exact .ok _
end Z
end
-- Z7
section
set_option Elab.async false
set_option linter.all false
set_option maxRecDepth 100000
set_option maxHeartbeats 1000000
/-! Z7: the readings of trees; the slots' relation carried on. -/
namespace Z
open PySem PySem.Spec PyProof.Rows L2

/-! ### slots -/
theorem at_len : ∀ {ρ : Ev} {i : Nat}, ρ.length ≤ i → at_ ρ i = .no
  | [], _, _ => rfl
  | _ :: _, 0, h => absurd h (by simp)
  | _ :: r, i + 1, h => at_len (ρ := r) (by simpa using h)
theorem put_len : ∀ (ρ : Ev) (i : Nat) (x : Sl), (put ρ i x).length = ρ.length
  | [], _, _ => rfl
  | _ :: _, 0, _ => rfl
  | _ :: r, i + 1, x => congrArg (· + 1) (put_len r i x)
theorem at_put : ∀ (ρ : Ev) (i j : Nat) (x : Sl), at_ (put ρ i x) j = if j = i then (if i < ρ.length then x else .no) else at_ ρ j
  | [], i, j, x => by
    show at_ [] j = _
    by_cases h : j = i
    · simp [h, at_]
    · simp [h, at_]
  | s :: r, 0, 0, x => by simp [put, at_]
  | s :: r, 0, j + 1, x => by simp [put, at_]
  | s :: r, i + 1, 0, x => by simp [put, at_]
  | s :: r, i + 1, j + 1, x => by
    show at_ (put r i x) j = _
    rw [at_put r i j x]
    simp [at_]
theorem wip_len (ρ : Ev) : ∀ vs : List Nat, (wip ρ vs).length = ρ.length
  | [] => rfl
  | v :: vs => by unfold wip; rw [put_len, wip_len ρ vs]
theorem at_wip (ρ : Ev) (j : Nat) : ∀ vs : List Nat, at_ (wip ρ vs) j = if j ∈ vs then .no else at_ ρ j
  | [] => by simp [wip]
  | v :: vs => by
    show at_ (put (wip ρ vs) v .no) j = _
    rw [at_put, at_wip ρ j vs]
    by_cases h : j = v
    · subst h; simp
    · simp [h]
theorem wipe_get {σ : L2.St} {j : Nat} : ∀ {vs : List Nat}, j ∉ vs → (L2.wipe σ vs)[j]? = σ[j]?
  | [], _ => rfl
  | v :: vs, h => by
    show ((L2.wipe σ vs).set v none)[j]? = _
    rw [List.getElem?_set_ne (fun e => h (by rw [e]; exact List.mem_cons_self))]
    exact wipe_get fun m => h (List.mem_cons_of_mem _ m)

/-! ### what is raised -/
def attrOf (c : Str) : Str := if c = "InvalidText" then "line" else "limit"
def ExIs (K : PySem.W.Frag) (mg : Str → Option Value) (x : Exc) (c : Value) (dd : Option Addr) (F H : Hp) : Prop :=
  ∃ C : Addr, c = .ref C ∧ mg x.cls = some (.ref C) ∧ (match x.arg with
    | none => dd = none
    | some d => ∃ a v, dd = some a ∧ H a = some (.xd [(attrOf x.cls, v)]) ∧ Rp K F v d)

section
variable {K : PySem.W.Frag} {T : List (Addr × Str)} {mg : Str → Option Value} {ρ ρ' : Ev} {σ σ' : L2.St} {F F1 F2 H H1 H2 H0 F0 : Hp} {n n0 n1 n2 : Nat}
/-- a datum, or the own list at a slot -/
def Rz (b : Bool) (K : PySem.W.Frag) (ρ : Ev) (σ : L2.St) (F : Hp) (v : V) (d : D) : Prop := match b with
  | true => Rp K F v d
  | false => Rp K F v d ∨ ∃ i ds, at_ ρ i = .own ds ∧ d = .lst ds ∧ σ[i]? = some (some v)
theorem Rz.mono {b : Bool} {v : V} {d : D} (h : Rz b K ρ σ F v d) (s : Sub F F1) : Rz b K ρ σ F1 v d := by
  cases b
  · exact h.imp_left (·.mono s)
  · exact Rp.mono s h
theorem Rz.w {b : Bool} {v : V} {d : D} (h : Rz b K ρ σ F v d) (r : Rl K T ρ n F σ H) : Rw K F H v d := by
  cases b
  · rcases h with h | ⟨i, ds, h1, h2, h3⟩
    · exact .inl h
    · obtain ⟨a, vs, e1, e2, e3, e4⟩ := r.own i ds h1
      rw [h3] at e1
      cases e1
      exact .inr ⟨a, vs, ds, rfl, h2, e2, e4⟩
  · exact .inl h
theorem Rz.of {b : Bool} {v : V} {d : D} (h : Rp K F v d) : Rz b K ρ σ F v d := by
  cases b
  · exact .inl h
  · exact h
theorem Rz.int {b : Bool} {v : V} {i : Int} (h : Rz b K ρ σ F v (.int i)) : v = .int i := by
  cases b
  · rcases h with h | ⟨i, ds, h1, h2, h3⟩
    · cases h; rfl
    · cases h2
  · cases h; rfl
theorem Rz.bl {b : Bool} {v : V} {i : Bool} (h : Rz b K ρ σ F v (.bl i)) : v = .bl i := by
  cases b
  · rcases h with h | ⟨i, ds, h1, h2, h3⟩
    · cases h; rfl
    · cases h2
  · cases h; rfl
/-- the slots stand as they stood, the heap went on -/
theorem Rl.back (r : Rl K T ρ n F σ H) (g : Grow F H F1) (k : Keep (dk ρ σ) H H1) (s : Sub F1 H1) (t : LamX.Tabs T H1) (p : ∀ a ps, F1 a ≠ some (.tbl ps))
    (dck : ∀ i a, at_ ρ i = .deck → σ[i]? = some (some (.ref a)) → ∃ x y z, H1 a = some (.lst [.int x, .int y, .int z]) ∧ DeckOk x y z n1) : Rl K T ρ n1 F1 σ H1 := by
  have stays : ∀ {i : Nat} {a : Addr} {o : HO}, big (at_ ρ i) = true → at_ ρ i ≠ .deck → σ[i]? = some (some (.ref a)) → H a = some o → (∀ ps, o ≠ .tbl ps) → H1 a = some o := fun {i a o} hb hd hσ h ht => by
    rcases k a o h with z | ⟨z, _⟩
    · exact z
    · rcases z with ⟨j, h1, h2⟩ | ⟨ps, e⟩
      · have ne : i ≠ j := fun e => hd (by rw [e]; exact h1)
        exact (r.dist i j a ne hb (by rw [h1]; rfl) hσ h2).elim
      · exact absurd e (ht ps)
  refine ⟨s, r.len, fun i d e => ?_, fun i ds e => ?_, fun i kvs e => ?_, fun i e => ?_, r.dist, t, p, r.one⟩
  · obtain ⟨v, h1, h2⟩ := r.val i d e
    exact ⟨v, h1, h2.mono g.1⟩
  · obtain ⟨a, vs, h1, h2, h3, h4⟩ := r.own i ds e
    exact ⟨a, vs, h1, stays (by rw [e]; rfl) (by rw [e]; exact fun z => nomatch z) h1 h2 (notbl_lst _), g.2 a (by rw [h2]; exact fun z => nomatch z) h3, h4.mono g.1⟩
  · obtain ⟨a, kv, h1, h2, h3, h4⟩ := r.dct i kvs e
    refine ⟨a, kv, h1, stays (by rw [e]; rfl) (by rw [e]; exact fun z => nomatch z) h1 h2 (fun _ z => nomatch z), g.2 a (by rw [h2]; exact fun z => nomatch z) h3, ?_⟩
    clear h2 e h1
    induction kv generalizing kvs with
    | nil => cases kvs with
      | nil => trivial
      | cons _ _ => exact h4
    | cons q qs ih => cases kvs with
      | nil => exact h4
      | cons z zs => exact ⟨h4.1, h4.2.1.mono g.1, ih zs h4.2.2⟩
  · obtain ⟨a, x, y, z, h1, h2, h3, h4⟩ := r.deck i e
    obtain ⟨x', y', z', e1, e2⟩ := dck i a e h1
    exact ⟨a, x', y', z', h1, e1, g.2 a (by rw [h2]; exact fun z => nomatch z) h3, e2⟩
/-- a name is set -/
theorem Rl.put (r : Rl K T ρ n F σ H) {i : Nat} {v : V} {d : D} (h : Rp K F v d) : Rl K T (put ρ i (.val d)) n F (σ.set i (some v)) H := by
  have ne : ∀ {j : Nat}, big (at_ (Z.put ρ i (.val d)) j) = true → j ≠ i ∧ at_ (Z.put ρ i (.val d)) j = at_ ρ j := fun {j} hb => by
    rw [at_put] at hb ⊢
    by_cases e : j = i
    · rw [if_pos e] at hb
      by_cases l : i < ρ.length
      · rw [if_pos l] at hb; cases hb
      · rw [if_neg l] at hb; cases hb
    · rw [if_neg e]; exact ⟨e, rfl⟩
  refine ⟨r.sub, by rw [put_len, List.length_set]; exact r.len, fun j e hj => ?_, fun j ds hj => ?_, fun j kvs hj => ?_, fun j hj => ?_, fun j l a hjl h1 h2 e1 e2 => ?_, r.tabs, r.pure, fun j l h1 h2 => ?_⟩
  · rw [at_put] at hj
    by_cases e : j = i
    · subst e
      rw [if_pos rfl] at hj
      by_cases l : j < ρ.length
      · rw [if_pos l] at hj
        cases hj
        exact ⟨v, by rw [List.getElem?_set_self (by rw [← r.len]; exact l)], h⟩
      · rw [if_neg l] at hj; cases hj
    · rw [if_neg e] at hj
      obtain ⟨u, h1, h2⟩ := r.val j _ hj
      exact ⟨u, by rw [List.getElem?_set_ne (Ne.symm e)]; exact h1, h2⟩
  · obtain ⟨e1, e2⟩ := ne (j := j) (by rw [hj]; rfl)
    obtain ⟨a, vs, h1, h2, h3, h4⟩ := r.own j ds (by rw [← e2]; exact hj)
    exact ⟨a, vs, by rw [List.getElem?_set_ne (Ne.symm e1)]; exact h1, h2, h3, h4⟩
  · obtain ⟨e1, e2⟩ := ne (j := j) (by rw [hj]; rfl)
    obtain ⟨a, vs, h1, h2, h3, h4⟩ := r.dct j kvs (by rw [← e2]; exact hj)
    exact ⟨a, vs, by rw [List.getElem?_set_ne (Ne.symm e1)]; exact h1, h2, h3, h4⟩
  · obtain ⟨e1, e2⟩ := ne (j := j) (by rw [hj]; rfl)
    obtain ⟨a, x, y, z, h1, h2⟩ := r.deck j (by rw [← e2]; exact hj)
    exact ⟨a, x, y, z, by rw [List.getElem?_set_ne (Ne.symm e1)]; exact h1, h2⟩
  · obtain ⟨k1, k2⟩ := ne h1
    obtain ⟨k3, k4⟩ := ne h2
    rw [k2] at h1
    rw [k4] at h2
    rw [List.getElem?_set_ne (Ne.symm k1)] at e1
    rw [List.getElem?_set_ne (Ne.symm k3)] at e2
    exact r.dist j l a hjl h1 h2 e1 e2
  · obtain ⟨k1, k2⟩ := ne (j := j) (by rw [h1]; rfl)
    obtain ⟨k3, k4⟩ := ne (j := l) (by rw [h2]; rfl)
    exact r.one j l (by rw [← k2]; exact h1) (by rw [← k4]; exact h2)
/-- the own names of a block are forgotten -/
theorem Rl.wipe (r : Rl K T ρ n F σ H) (vs : List Nat) : Rl K T (wip ρ vs) n F (L2.wipe σ vs) H := by
  have ne : ∀ {j : Nat}, at_ (wip ρ vs) j ≠ .no → j ∉ vs ∧ at_ (wip ρ vs) j = at_ ρ j := fun {j} hb => by
    rw [at_wip] at hb ⊢
    by_cases e : j ∈ vs
    · rw [if_pos e] at hb; exact absurd rfl hb
    · rw [if_neg e]; exact ⟨e, rfl⟩
  have bne : ∀ {j : Nat}, big (at_ (wip ρ vs) j) = true → at_ (wip ρ vs) j ≠ .no := fun {j} hb e => by rw [e] at hb; cases hb
  refine ⟨r.sub, by rw [wip_len, L2.wipe_length]; exact r.len, fun j e hj => ?_, fun j ds hj => ?_, fun j kvs hj => ?_, fun j hj => ?_, fun j l a hjl h1 h2 e1 e2 => ?_, r.tabs, r.pure, fun j l h1 h2 => ?_⟩
  · obtain ⟨e1, e2⟩ := ne (j := j) (by rw [hj]; exact fun z => nomatch z)
    obtain ⟨u, h1, h2⟩ := r.val j _ (by rw [← e2]; exact hj)
    exact ⟨u, by rw [wipe_get e1]; exact h1, h2⟩
  · obtain ⟨e1, e2⟩ := ne (j := j) (by rw [hj]; exact fun z => nomatch z)
    obtain ⟨a, vs, h1, h2⟩ := r.own j ds (by rw [← e2]; exact hj)
    exact ⟨a, vs, by rw [wipe_get e1]; exact h1, h2⟩
  · obtain ⟨e1, e2⟩ := ne (j := j) (by rw [hj]; exact fun z => nomatch z)
    obtain ⟨a, vs, h1, h2⟩ := r.dct j kvs (by rw [← e2]; exact hj)
    exact ⟨a, vs, by rw [wipe_get e1]; exact h1, h2⟩
  · obtain ⟨e1, e2⟩ := ne (j := j) (by rw [hj]; exact fun z => nomatch z)
    obtain ⟨a, x, y, z, h1, h2⟩ := r.deck j (by rw [← e2]; exact hj)
    exact ⟨a, x, y, z, by rw [wipe_get e1]; exact h1, h2⟩
  · obtain ⟨k1, k2⟩ := ne (bne h1)
    obtain ⟨k3, k4⟩ := ne (bne h2)
    rw [k2] at h1
    rw [k4] at h2
    rw [wipe_get k1] at e1
    rw [wipe_get k3] at e2
    exact r.dist j l a hjl h1 h2 e1 e2
  · obtain ⟨k1, k2⟩ := ne (j := j) (by rw [h1]; exact fun z => nomatch z)
    obtain ⟨k3, k4⟩ := ne (j := l) (by rw [h2]; exact fun z => nomatch z)
    exact r.one j l (by rw [← k2]; exact h1) (by rw [← k4]; exact h2)

/-! ### readings -/
/-- what follows a value -/
def kP (K : PySem.W.Frag) (T : List (Addr × Str)) (ρ : Ev) (σ : L2.St) (F H : Hp) (b : Bool) (Q : VK) : D → Nat → Prop := fun d n' => ∀ v F' H', Post K T ρ σ F H n' F' H' → Rz b K ρ σ F' v d → Q v H'
/-- what follows an error -/
def kE (K : PySem.W.Frag) (T : List (Addr × Str)) (mg : Str → Option Value) (ρ : Ev) (σ : L2.St) (F H : Hp) (Wh : WX) : Exc → Nat → Prop := fun x n' => ∀ F' H' c dd, Post K T ρ σ F H n' F' H' → ExIs K mg x c dd F' H' → Wh c dd σ H'
mutual
/-- the value is no own list -/
def sg : Ex → Bool
  | .own _ => false
  | .ite _ a b => sg a && sg b
  | _ => true
end
def tE (K : PySem.W.Frag) (T : List (Addr × Str)) (mg : Str → Option Value) (Wh : WX) (e : Ex) : TE := fun σ H Q => ∃ ρ n F, Rl K T ρ n F σ H ∧ evE e ρ n (kP K T ρ σ F H (sg e) Q) (kE K T mg ρ σ F H Wh)
def tT (K : PySem.W.Frag) (T : List (Addr × Str)) (mg : Str → Option Value) (Wh : WX) (e : Ex) : TT := fun σ H Q => ∃ ρ n F, Rl K T ρ n F σ H ∧ bnd (evE e ρ) asB n (fun b n' => ∀ F' H', Post K T ρ σ F H n' F' H' → Q b H') (kE K T mg ρ σ F H Wh)
/-- a value, then what follows -/
theorem tE_seq {e : Ex} {Wh : WX} {β : Type} {f : D → W β} {G : β → Nat → Prop} {Q : VK} (p0 : Post K T ρ σ F0 H0 n F H) (m : Mono (evE e ρ)) (h : bnd (evE e ρ) f n G (kE K T mg ρ σ F0 H0 Wh))
    (k : ∀ d n1 v F1 H1, Post K T ρ σ F0 H0 n1 F1 H1 → Post K T ρ σ F H n1 F1 H1 → Rz (sg e) K ρ σ F1 v d → f d n1 G (kE K T mg ρ σ F0 H0 Wh) → Q v H1) : tE K T mg Wh e σ H Q :=
  ⟨ρ, n, F, p0.rl, m n _ _ _ _ (fun d n1 h1 v F1 H1 p z => k d n1 v F1 H1 (p0.trans p) p z h1) (fun x n1 h1 F1 H1 c dd p z => h1 F1 H1 c dd (p0.trans p) z) h⟩
theorem tT_seq {e : Ex} {Wh : WX} {β : Type} {f : Bool → W β} {G : β → Nat → Prop} {Q : Bool → Hp → Prop} (p0 : Post K T ρ σ F0 H0 n F H) (m : Mono (evE e ρ)) (h : bnd (evE e ρ) (fun d => bnd (asB d) f) n G (kE K T mg ρ σ F0 H0 Wh))
    (k : ∀ d n1 F1 H1, Post K T ρ σ F0 H0 n1 F1 H1 → Post K T ρ σ F H n1 F1 H1 → f d n1 G (kE K T mg ρ σ F0 H0 Wh) → Q d H1) : tT K T mg Wh e σ H Q :=
  ⟨ρ, n, F, p0.rl, (m.bnd fun _ => Mono.det (det_asB _)) n _ _ _ _ (fun d n1 h1 F1 H1 p => k d n1 F1 H1 (p0.trans p) p h1) (fun x n1 h1 F1 H1 c dd p z => h1 F1 H1 c dd (p0.trans p) z) h⟩
theorem _root_.L2.PE.imp {X : Cx} {e : Expr} {t t' : TE} (h : PE X e t) (g : ∀ σ H Q, t' σ H Q → t σ H Q) : PE X e t' := ⟨fun pins s σ H Q I q => h.run pins s σ H Q I (g σ H Q q)⟩
theorem _root_.L2.PT.imp {X : Cx} {e : Expr} {t t' : TT} (h : PT X e t) (g : ∀ σ H Q, t' σ H Q → t σ H Q) : PT X e t' := ⟨fun pins s σ H Q I q => h.run pins s σ H Q I (g σ H Q q)⟩
theorem _root_.L2.PA.imp {X : Cx} {e : List Expr} {t t' : TA} (h : PA X e t) (g : ∀ σ H Q, t' σ H Q → t σ H Q) : PA X e t' := ⟨fun pos pins s σ H Q I q => h.run pos pins s σ H Q I (g σ H Q q)⟩
theorem _root_.L2.PO.imp {X : Cx} {e : Option Expr} {t t' : TO} (h : PO X e t) (g : ∀ σ H Q, t' σ H Q → t σ H Q) : PO X e t' := ⟨fun pins s σ H Q I q => h.run pins s σ H Q I (g σ H Q q)⟩
theorem _root_.L2.PG.imp {X : Cx} {e : Expr} {t t' : TG} (h : PG X e t) (g : ∀ v σ H Q, t' v σ H Q → t v σ H Q) : PG X e t' := ⟨fun pins s σ H v u Q I r q => h.run pins s σ H v u Q I r (g v σ H Q q)⟩
theorem _root_.L2.PI.imp {X : Cx} {tg e : Expr} {t t' : TI} (h : PI X tg e t) (g : ∀ σ H Q, t' σ H Q → t σ H Q) : PI X tg e t' := ⟨fun pins s σ H Q I q => h.run pins s σ H Q I (g σ H Q q)⟩
theorem _root_.L2.PS.imp {X : Cx} {e : Stmt} {t t' : TS} (h : PS X e t) (g : ∀ D σ H, t' D σ H → t D σ H) : PS X e t' := ⟨fun pins s σ H D I q => h.run pins s σ H D I (g D σ H q)⟩
end
end Z
end
-- Z8
section
set_option Elab.async false
set_option linter.all false
set_option maxRecDepth 100000
set_option maxHeartbeats 1000000
/-! Z8: shapes of the program's syntax; the check that a tree is a piece of it. -/
namespace Z
open PySem PySem.Spec PyProof.Rows L2

def sName : Expr → Option Str
  | .Name x _ => some x
  | _ => none
def sConst : Expr → Option Const
  | .Constant c _ _ => some c
  | _ => none
def sBin : Expr → Option (Expr × Operator × Expr)
  | .BinOp a o b _ => some (a, o, b)
  | _ => none
def sUn : Expr → Option (UnaryOp × Expr)
  | .UnaryOp o a _ => some (o, a)
  | _ => none
def sBool : Expr → Option (BoolOp × List Expr)
  | .BoolOp o l _ => some (o, l)
  | _ => none
def sCmp : Expr → Option (Expr × List CmpOp × List Expr)
  | .Compare a o l _ => some (a, o, l)
  | _ => none
def sIf : Expr → Option (Expr × Expr × Expr)
  | .IfExp t a b _ => some (t, a, b)
  | _ => none
def sSub : Expr → Option (Expr × Expr)
  | .Subscript a b _ => some (a, b)
  | _ => none
def sSlice : Expr → Option (Option Expr × Option Expr × Option Expr)
  | .Slice a b c _ => some (a, b, c)
  | _ => none
def sTup : Expr → Option (List Expr)
  | .Tuple l _ _ => some l
  | _ => none
def sLst : Expr → Option (List Expr)
  | .List l _ => some l
  | _ => none
def sCallK : Expr → Option (Expr × List Expr × List Keyword)
  | .Call f l k _ => some (f, l, k)
  | _ => none
def sAttr : Expr → Option (Expr × Str)
  | .Attribute e m _ => some (e, m)
  | _ => none
def sLc : Expr → Option (Expr × List Comprehension × Scope)
  | .ListComp e g s _ => some (e, g, s)
  | _ => none
def sLam : Expr → Option (Arguments × Expr × Scope)
  | .Lambda a b s _ => some (a, b, s)
  | _ => none
def notStar : Expr → Bool
  | .Starred _ _ => false
  | _ => true
def notSet : Expr → Bool
  | .Set _ _ _ => false
  | _ => true
section
variable {e : Expr}
theorem sName_eq {x : Str} (h : sName e = some x) : ∃ p, e = .Name x p := by cases e <;> first | (cases h; exact ⟨_, rfl⟩) | (exact absurd h (fun z => nomatch z))
theorem sConst_eq {c : Const} (h : sConst e = some c) : ∃ k p, e = .Constant c k p := by cases e <;> first | (cases h; exact ⟨_, _, rfl⟩) | (exact absurd h (fun z => nomatch z))
theorem sBin_eq {a b o} (h : sBin e = some (a, o, b)) : ∃ p, e = .BinOp a o b p := by cases e <;> first | (cases h; exact ⟨_, rfl⟩) | (exact absurd h (fun z => nomatch z))
theorem sUn_eq {a o} (h : sUn e = some (o, a)) : ∃ p, e = .UnaryOp o a p := by cases e <;> first | (cases h; exact ⟨_, rfl⟩) | (exact absurd h (fun z => nomatch z))
theorem sBool_eq {o l} (h : sBool e = some (o, l)) : ∃ p, e = .BoolOp o l p := by cases e <;> first | (cases h; exact ⟨_, rfl⟩) | (exact absurd h (fun z => nomatch z))
theorem sCmp_eq {a o l} (h : sCmp e = some (a, o, l)) : ∃ p, e = .Compare a o l p := by cases e <;> first | (cases h; exact ⟨_, rfl⟩) | (exact absurd h (fun z => nomatch z))
theorem sIf_eq {t a b} (h : sIf e = some (t, a, b)) : ∃ p, e = .IfExp t a b p := by cases e <;> first | (cases h; exact ⟨_, rfl⟩) | (exact absurd h (fun z => nomatch z))
theorem sSub_eq {a b} (h : sSub e = some (a, b)) : ∃ p, e = .Subscript a b p := by cases e <;> first | (cases h; exact ⟨_, rfl⟩) | (exact absurd h (fun z => nomatch z))
theorem sSlice_eq {a b c} (h : sSlice e = some (a, b, c)) : ∃ p, e = .Slice a b c p := by cases e <;> first | (cases h; exact ⟨_, rfl⟩) | (exact absurd h (fun z => nomatch z))
theorem sTup_eq {l} (h : sTup e = some l) : ∃ k p, e = .Tuple l k p := by cases e <;> first | (cases h; exact ⟨_, _, rfl⟩) | (exact absurd h (fun z => nomatch z))
theorem sLst_eq {l} (h : sLst e = some l) : ∃ p, e = .List l p := by cases e <;> first | (cases h; exact ⟨_, rfl⟩) | (exact absurd h (fun z => nomatch z))
theorem sCallK_eq {f l k} (h : sCallK e = some (f, l, k)) : ∃ p, e = .Call f l k p := by cases e <;> first | (cases h; exact ⟨_, rfl⟩) | (exact absurd h (fun z => nomatch z))
theorem sAttr_eq {a m} (h : sAttr e = some (a, m)) : ∃ p, e = .Attribute a m p := by cases e <;> first | (cases h; exact ⟨_, rfl⟩) | (exact absurd h (fun z => nomatch z))
theorem sLc_eq {a g s} (h : sLc e = some (a, g, s)) : ∃ p, e = .ListComp a g s p := by cases e <;> first | (cases h; exact ⟨_, rfl⟩) | (exact absurd h (fun z => nomatch z))
theorem sLam_eq {a b s} (h : sLam e = some (a, b, s)) : ∃ p, e = .Lambda a b s p := by cases e <;> first | (cases h; exact ⟨_, rfl⟩) | (exact absurd h (fun z => nomatch z))
theorem notStar_eq (h : notStar e = true) (r : List Expr) (env : Env) : starEach (e :: r) env = (false, eval e env) :: starEach r env := by cases e <;> first | rfl | (exact absurd h Bool.false_ne_true)
theorem notStar_asg (h : notStar e = true) (r : List Expr) (env : Env) : assignEach (e :: r) env = (false, assign e env) :: assignEach r env := by cases e <;> first | rfl | (exact absurd h Bool.false_ne_true)
theorem notSet_eq (h : notSet e = true) (env : Env) (x : Value) : foldedSetIterable e env x = pure x := by cases e <;> first | rfl | (exact absurd h Bool.false_ne_true)
end

/-! ### the check -/
structure CkC where
  N : List Str
  sc : Scope
  blk : Option Scope
  cs : List (Str × Int)
  lvl : Nat
  pro : List Nat
  ex : List Str
  lam : Bool
  dkk : Bool
def plainN (x : Str) : Bool := !(x == "__debug__") && !(x == "__classdict__")
def visB (sc : Scope) (x : Str) : Bool := match sc.names.lookup x with
  | some .local => true
  | some .cell => true
  | some .free => true
  | _ => false
def glB (sc : Scope) (x : Str) : Bool := (match sc.names.lookup x with
  | some .globalImplicit => true
  | _ => false) && plainN x
def locB (c : CkC) (x : Str) : Bool := match c.sc.names.lookup x with
  | some .local => true
  | some .cell => (match c.blk with
    | none => true
    | some s => (match s.names.lookup x with | some .cell => true | _ => false))
  | _ => false
def isAt (c : CkC) (i : Nat) (x : Str) : Bool := match c.N[i]? with
  | some y => y == x
  | none => false
/-- a name that is read -/
def slotB (c : CkC) (i : Nat) (e : Expr) : Bool := match sName e with
  | some x => isAt c i x && visB c.sc x && plainN x
  | none => false
/-- a name that is set -/
def setB (c : CkC) (i : Nat) (e : Expr) : Bool := match sName e with
  | some x => isAt c i x && locB c x && !c.pro.contains i
  | none => false
def cmOk (o : Cm) (p : CmpOp) (b : Expr) : Bool := decide (cmP o = p) && !behindInMarks p b
/-- a call by name without keywords -/
def sCall (e : Expr) : Option (Str × List Expr) := match sCallK e with
  | some (f, l, k) => (match k with
    | [] => (match sName f with
      | some x => some (x, l)
      | none => none)
    | _ :: _ => none)
  | none => none
def sMeth (e : Expr) : Option (Expr × Str × List Expr) := match sCallK e with
  | some (f, l, k) => (match k with
    | [] => (match sAttr f with
      | some (a, m) => some (a, m, l)
      | none => none)
    | _ :: _ => none)
  | none => none
theorem sCall_eq {e : Expr} {x : Str} {l : List Expr} (h : sCall e = some (x, l)) : ∃ p q, e = .Call (.Name x p) l [] q := by
  unfold sCall at h
  split at h
  · rename_i f l' k hk
    obtain ⟨q, rfl⟩ := sCallK_eq hk
    cases k with
    | cons _ _ => cases h
    | nil =>
      simp only at h
      split at h
      · rename_i y hy
        obtain ⟨p, rfl⟩ := sName_eq hy
        cases h
        exact ⟨p, q, rfl⟩
      · cases h
  · cases h
theorem sMeth_eq {e a : Expr} {x : Str} {l : List Expr} (h : sMeth e = some (a, x, l)) : ∃ p q, e = .Call (.Attribute a x p) l [] q := by
  unfold sMeth at h
  split at h
  · rename_i f l' k hk
    obtain ⟨q, rfl⟩ := sCallK_eq hk
    cases k with
    | cons _ _ => cases h
    | nil =>
      simp only at h
      split at h
      · rename_i y m hy
        obtain ⟨p, rfl⟩ := sAttr_eq hy
        cases h
        exact ⟨p, q, rfl⟩
      · cases h
  · cases h
def isNm (c : CkC) (x : Str) (e : Expr) : Bool := match sName e with
  | some y => (y == x) && glB c.sc x
  | none => false
/-- a built-in's name and how many arguments; those of another form: none -/
def biN : Bi → Option (Str × Nat)
  | .len => some ("len", 1) | .all => some ("all", 1) | .any => some ("any", 1) | .tuple => some ("tuple", 1) | .list => some ("list", 1)
  | .min2 => some ("min", 2) | .max2 => some ("max", 2) | .minL => some ("min", 1) | .maxL => some ("max", 1) | .sum => some ("sum", 1) | .abs => some ("abs", 1)
  | .int => some ("int", 1) | .str => some ("str", 1) | .sorted => some ("sorted", 1)
  | _ => none
/-- outer(inner(a)) -/
def biNN : Bi → Option (Str × Str)
  | .listR => some ("list", "range") | .sortedSet => some ("sorted", "set") | .lenSet => some ("len", "set")
  | _ => none
def biIs : Bi → Option Str
  | .isInt => some "int" | .isBool => some "bool" | .isStr => some "str" | .isTup => some "tuple" | .isLst => some "list"
  | _ => none
def bltN : List Str := ["len", "all", "any", "tuple", "list", "min", "max", "sum", "abs", "int", "str", "bool", "sorted", "range", "set", "isinstance", "enumerate", "zip", "dict"]
/-- the arguments' expressions of a built-in's call -/
def biA (c : CkC) (f : Bi) (e : Expr) : Option (List Expr) := match sCall e with
  | none => none
  | some (x, l) => match biN f with
    | some (y, n) => (match (x == y) && glB c.sc x && (l.length == n) with | true => some l | false => none)
    | none => match biNN f with
      | some (y, z) => (match l with
        | [r] => (match sCall r with
          | some (u, m) => (match (x == y) && glB c.sc x && (u == z) && glB c.sc u && (m.length == 1) with | true => some m | false => none)
          | none => none)
        | _ => none)
      | none => (match l with
        | [a, k] => (match (x == "isinstance") && glB c.sc x with
          | true => (match biIs f with
            | some n => (match isNm c n k with | true => some [a] | false => none)
            | none => (match f with
              | .isTL => (match sTup k with
                | some [k1, k2] => (match isNm c "tuple" k1 && isNm c "list" k2 with | true => some [a] | false => none)
                | _ => none)
              | _ => none))
          | false => none)
        | _ => none)
def sgs : Exs → Bool
  | .nil => true
  | .cons e r => sg e && sgs r
def asLen : As → Nat
  | .nil => 0
  | .val _ r => asLen r + 1
  | .deck _ r => asLen r + 1
def decks : As → Nat
  | .nil => 0
  | .val _ r => decks r
  | .deck _ r => decks r + 1
def exLen : Exs → Nat
  | .nil => 0
  | .cons _ r => exLen r + 1
mutual
def tgIs : Tg → List Nat
  | .nm i => [i]
  | .tup ts => tgsIs ts
def tgsIs : Tgs → List Nat
  | .nil => []
  | .cons t r => tgIs t ++ tgsIs r
end
mutual
def ckT (c : CkC) : Tg → Expr → Bool
  | .nm i, e => setB c i e
  | .tup ts, e => (match sTup e with
    | some l => ckTs c ts l
    | none => false)
def ckTs (c : CkC) : Tgs → List Expr → Bool
  | .nil, l => (match l with | [] => true | _ :: _ => false)
  | .cons t r, l => (match l with
    | [] => false
    | e :: l => ckT c t e && notStar e && ckTs c r l)
end
def ownP (N : List Str) : List Nat → List (Str × Nat)
  | [] => []
  | i :: r => (N[i]?.getD "", i) :: ownP N r
def subB (l m : List Nat) : Bool := l.all fun i => m.contains i
/-- the context within a comprehension -/
def CkC.inn (c : CkC) (s : Scope) : CkC := { c with sc := relS s c.sc, blk := some s, pro := [] }
/-- within a lambda -/
def CkC.lamc (c : CkC) (s : Scope) : CkC := { c with sc := s, blk := some s, pro := [], lvl := c.lvl - 2, lam := false }
def noArgs (a : Arguments) : Bool := a.posonlyargs.isEmpty && a.args.isEmpty && a.vararg.isNone && a.kwonlyargs.isEmpty && a.kw_defaults.isEmpty && a.kwarg.isNone && a.defaults.isEmpty
def oneIf : List Expr → Option Expr
  | [a] => some a
  | _ => none
mutual
def ckE (c : CkC) : Ex → Expr → Bool
  | .var i, e => slotB c i e
  | .own i, e => slotB c i e
  | .non, e => (match sConst e with | some .none => true | _ => false)
  | .bl b, e => (match sConst e with | some (.bool d) => b == d | _ => false)
  | .int i, e => (match sConst e with
    | some (.int j) => i == j
    | some _ => false
    | none => (match sName e with | some x => glB c.sc x && (c.cs.lookup x == some i) | none => false))
  | .str x, e => (match sConst e with | some (.str y) => x == y | _ => false)
  | .tup es, e => (match sTup e with | some l => ckEs c es l && sgs es && decide (l.length ≤ 1000) | none => false)
  | .lst es, e => (match sLst e with | some l => ckEs c es l && sgs es && decide (l.length ≤ 1000) | none => false)
  | .op o a b, e => (match sBin e with | some (x, p, y) => decide (p = opP o) && ckE c a x && ckE c b y | none => false)
  | .neg a, e => (match sUn e with | some (p, x) => decide (p = .USub) && ckE c a x | none => false)
  | .not a, e => (match sUn e with | some (p, x) => decide (p = .Not) && ckE c a x | none => false)
  | .cmp o a b, e => (match sCmp e with | some (x, [p], [y]) => cmOk o p y && ckE c a x && ckE c b y | _ => false)
  | .chain o1 o2 a b d, e => (match sCmp e with | some (x, [p1, p2], [y, z]) => cmOk o1 p1 y && cmOk o2 p2 z && ckE c a x && ckE c b y && ckE c d z | _ => false)
  | .and es, e => (match sBool e with | some (.And, l) => ckEs c es l && sgs es && decide (0 < l.length) | _ => false)
  | .or es, e => (match sBool e with | some (.Or, l) => ckEs c es l && sgs es && decide (0 < l.length) | _ => false)
  | .ite t a b, e => (match sIf e with | some (x, y, z) => ckE c t x && ckE c a y && ckE c b z | none => false)
  | .ix a i, e => (match sSub e with | some (x, y) => ckE c a x && ckE c i y && (sSlice y).isNone | none => false)
  | .slc a lo hi, e => (match sSub e with
    | some (x, y) => (match sSlice y with | some (l, h, none) => ckE c a x && ckO c lo l && ckO c hi h | _ => false)
    | none => false)
  | .rev a, e => (match sSub e with
    | some (x, y) => (match sSlice y with
      | some (none, none, some z) => (match sUn z with
        | some (.USub, w) => (match sConst w with | some (.int 1) => ckE c a x | _ => false)
        | _ => false)
      | _ => false)
    | none => false)
  | .call f es, e => (match sCall e with | some (x, l) => (x == f.name) && glB c.sc x && decide (f.lvl ≤ c.lvl) && ckA c es l && decide (decks es ≤ 1) && (asLen es == f.ar) | none => false)
  | .bi f es, e => (match biA c f e with | some l => ckEs c es l | none => false)
  | .comp elt t it cd own, e => (match sLc e with
    | some (x, [⟨tg, iter, ifs, 0⟩], s) => blkC c.N c.sc s (ownP c.N own) && ckI c tg it iter && ckT (c.inn s) t tg && subB (tgIs t) own && ckE (c.inn s) elt x && sg elt && ckC (c.inn s) cd ifs
    | _ => false)
  | .comp2 elt t it cd t2 it2 cd2 own own2, e => (match sLc e with
    | some (x, [⟨tg, iter, ifs, 0⟩, ⟨tg2, iter2, ifs2, 0⟩], s) => blkC c.N c.sc s (ownP c.N own) && ckI c tg it iter && ckT (c.inn s) t tg && subB (tgIs t) own && ckC (c.inn s) cd ifs && subB own2 own && ckI (c.inn s) tg2 it2 iter2 && ckT (c.inn s) t2 tg2 && subB (tgIs t2) own2 && ckE (c.inn s) elt x && sg elt && ckC (c.inn s) cd2 ifs2
    | _ => false)
  | .idx _ _, _ => false
  | .cnt _ _, _ => false
  | .join _ _, _ => false
  | .split _ _, _ => false
  | .fstr _, _ => false
  | .dget i k, e => (match sSub e with | some (x, y) => slotB c i x && ckE c k y && (sSlice y).isNone | none => false)
  | .dict _, _ => false
  | .dcp _, _ => false
  | .tryl x, e => (match sCall e with
    | some (f, [l]) => (match sLam l with
      | some (ps, b, s) => c.lam && (f == "_law_try") && glB c.sc f && noArgs ps && LamX.lamSB c.sc s && decide (2 ≤ c.lvl) && sg x && ckE (c.lamc s) x b
      | none => false)
    | _ => false)
def ckEs (c : CkC) : Exs → List Expr → Bool
  | .nil, l => (match l with | [] => true | _ :: _ => false)
  | .cons e r, l => (match l with | [] => false | x :: l => ckE c e x && notStar x && ckEs c r l)
def ckO (c : CkC) : Ox → Option Expr → Bool
  | .none, o => o.isNone
  | .some e, o => (match o with | some x => ckE c e x | none => false)
def ckC (c : CkC) : Ox → List Expr → Bool
  | .none, l => (match l with | [] => true | _ :: _ => false)
  | .some e, l => (match l with | [] => false | x :: r => (match r with | [] => ckE c e x | _ :: _ => false))
def ckA (c : CkC) : As → List Expr → Bool
  | .nil, l => (match l with | [] => true | _ :: _ => false)
  | .val e r, l => (match l with | [] => false | x :: l => ckE c e x && sg e && notStar x && ckA c r l)
  | .deck i r, l => (match l with | [] => false | x :: l => slotB c i x && notStar x && ckA c r l)
def ckI (c : CkC) (tg : Expr) : It → Expr → Bool
  | .seq e, x => ckE c e x && sg e && notSet x
  | .rng1 a, x => (match sCall x with | some (f, [y]) => (f == "range") && glB c.sc f && ckE c a y && notStar y | _ => false)
  | .rng2 a b, x => (match sCall x with | some (f, [y, z]) => (f == "range") && glB c.sc f && ckE c a y && ckE c b z && notStar y && notStar z | _ => false)
  | .enum a, x => (match sCall x with | some (f, [y]) => (f == "enumerate") && glB c.sc f && ckE c a y && sg a && notStar y && (sTup tg).isSome | _ => false)
  | .zip a b, x => (match sCall x with | some (f, [y, z]) => (f == "zip") && glB c.sc f && ckE c a y && ckE c b z && sg a && sg b && notStar y && notStar z && (sTup tg).isSome | _ => false)
  | .chars a, x => ckE c a x && notSet x
end
end Z
end
-- Z21
section
set_option Elab.async false
set_option linter.all false
set_option maxRecDepth 100000
set_option maxHeartbeats 4000000
/-! Z21: comprehensions over zip where an exception is handled. -/
namespace Z
open PySem PySem.Spec PyProof.Rows L2 HotX
open PySem.AutoSeq1 (wpAny_loadPart')
section
variable {prog : Program} {w : World} {A : Around} {E : Value → Shared → Prop} {s : Shared}
theorem next_tuple_end_hot {it t : Addr} {i : Nat} {items} {Q : Option Value → Shared → Prop} {x1 : Addr} (hot : HotAt A x1 s.heap)
    (hit : IsTupIter s.heap it t i) (ht : IsTup s.heap t items) (hx : items[i]? = none)
    (hQ : ∀ h', Heap.ExtBut it s.heap h' → Q none { s with heap := h' }) : wpAny (model prog w) A (pyNext (.ref it)) Q E s := by
  obtain ⟨o, ho, hc, hd⟩ := id hit
  obtain ⟨hh, o1, vs1, hx1, d1, c1⟩ := hot
  have nx : x1 ≠ it := fun z => by
    rw [z, ho] at hx1; cases hx1; rw [hd] at d1; cases d1; cases c1
  obtain ⟨ol, hol, _, nl, hdl⟩ := ht
  unfold pyNext
  refine wpAny_bind (wpAny_attempt (wpAny_callSpecial?_slot (name := Str.ofString "__next__") hit.typeIs slot_tupleiter_next
    (wpAny_call_entry slot_tupleiter_next hit.typeIs entry_tupleiter_next ?_ (args_tupleiter_next _))))
  show wpAny _ _ (field (.ref it) 0 >>= _) _ _ s
  refine wpAny_bind (wpAny_field ho hd (x := .ref t) rfl ?_)
  show wpAny _ _ (if (Value.ref t == Value.none) = true then _ else _) _ _ s
  rw [if_neg (show ¬ ((Value.ref t == Value.none) = true) from Bool.false_ne_true)]
  show wpAny _ _ (field (.ref it) 1 >>= _) _ _ s
  refine wpAny_bind (wpAny_field ho hd (x := .int i 0) rfl ?_)
  show wpAny _ _ (seqItems? (.ref t) >>= _) _ _ s
  refine wpAny_bind (wpAny_seqItems hol hdl ?_)
  simp only [Int.toNat_natCast, hx]
  refine wpAny_bind (wpAny_rule (wpAny_bind (wpAny_setField ho hd (by simp) ?_)))
  show wpAny _ _ (newExc (.type "StopIteration") [] >>= _) _ _ _
  refine wpAny_bind ?_
  simp only [newExc, newTuple]
  refine wpAny_bind (wpAny_newObj_type ?_ (by size_fits))
  refine wpAny_bind (m := firstArgMember _ _) (wpAny_of_eq (a := Value.none) (by first | rfl | (simp only [firstArgMember]; rfl)) ?_)
  refine wpAny_newObj_type ?_ (by size_fits)
  refine raiseNew_hot ⟨hh, o1, vs1, Heap.get?_push_of_some _ (Heap.get?_push_of_some _ (((Heap.SameBut.update ..).2 x1 nx).trans hx1)), d1, c1⟩ (Nat.ne_of_lt (Heap.lt_size (Heap.get?_push_of_some _ (((Heap.SameBut.update ..).2 x1 nx).trans hx1)))) (Heap.get?_push_size _ rfl) rfl (by first | (simp; done) | (simp; omega) | (simp only [Array.size_append]; simp; omega)) ?_
  refine wpAny_bind (wpAny_isInstance (T := "StopIteration") (b := true) ⟨_, Heap.get?_update_self _ (Heap.get?_push_size _ rfl) rfl, rfl⟩ isSubtype_stop ?_)
  refine wpAny_pure (hQ _ fun b o hb e => ?_)
  have e2 := ((Heap.SameBut.update s.heap it (Obj.mapFields fun x => x.setIfInBounds 0 Value.none)).2 b hb).trans e
  rw [Heap.get?_update_other _ _ (Nat.ne_of_gt (Heap.lt_size (Heap.get?_push_of_some _ e2)))]
  exact Heap.get?_push_of_some _ (Heap.get?_push_of_some _ e2)
theorem hot_keep {x1 d : Addr} {h h' : Heap} (hot : HotAt A x1 h) (_ : x1 ≠ d) (k : ∀ o, h.get? x1 = some o → h'.get? x1 = some o) : HotAt A x1 h' := by
  obtain ⟨hh, o1, vs1, e, d1, c1⟩ := hot
  exact ⟨hh, o1, vs1, k _ e, d1, c1⟩
theorem unpackItems_tuple_hot {t : Addr} {items : Array Value} {Q : List Value → Shared → Prop} {x1 : Addr} (hot : HotAt A x1 s.heap) (ht : IsTup s.heap t items)
    (hQ : ∀ h', Heap.ExtBut s.heap.objs.size s.heap h' → Q items.toList { s with heap := h' }) : wpAny (model prog w) A (unpackItems (.ref t) items.size none) Q E s := by
  have hlt : t ≠ s.heap.objs.size := by obtain ⟨o, ho, _⟩ := ht; exact Nat.ne_of_lt (Heap.lt_size ho)
  have hlt' : x1 ≠ s.heap.objs.size := by obtain ⟨_, o1, vs1, e, _⟩ := hot; exact Nat.ne_of_lt (Heap.lt_size e)
  unfold unpackItems
  refine wpAny_bind ?_
  · unfold notIterableAtAll
    refine wpAny_bind (wpAny_specialOf ht.typeIs slot_tuple_iter.lookup ?_)
    refine wpAny_pure ?_
    simp only [Bool.false_eq_true, if_false]
    refine wpAny_bind (wpAny_holding (iter_tuple ht ?_))
    refine wpAny_bind (wpAny_holding (draw_tuple hlt items.size 0 _ _ ⟨_, Heap.get?_push_size _ rfl, rfl, rfl⟩ (ht.push _) (by omega) fun h₁ hit₁ hs₁ => ?_))
    have hall : List.take items.size (List.drop 0 items.toList) = items.toList := by
      rw [List.drop_zero]; exact List.take_of_length_le (by simp)
    rw [hall]
    rw [if_neg (by simp)]
    have ht₁ : IsTup h₁ t items := (ht.push _).extBut hs₁.extBut hlt
    refine wpAny_bind (wpAny_holding (next_tuple_end_hot (hot_keep hot hlt' (fun o e => hs₁.extBut _ _ hlt' (Heap.get?_push_of_some _ e))) hit₁ ht₁ (by simp) fun h₂ he₂ => ?_))
    simp only [Option.isSome_none, Bool.false_eq_true, if_false]
    refine wpAny_pure (hQ h₂ fun b o hb e => he₂ b o hb (hs₁.extBut b o hb (Heap.get?_push_of_some _ e)))
theorem unpack_tuple_hot {t : Addr} {items : Array Value} {targets : List (Bool × (Value → Sem Unit))} {Q : Unit → Shared → Prop} {x1 : Addr} (hot : HotAt A x1 s.heap) (ht : IsTup s.heap t items)
    (hn : targets.length = items.size) (hstar : targets.findIdx? (·.1) = none)
    (h : ∀ h', Heap.ExtBut s.heap.objs.size s.heap h' → wpAny (model prog w) A (assignInOrder (targets.map (·.2)) items.toList) Q E { s with heap := h' }) :
    wpAny (model prog w) A (unpack (.ref t) targets) Q E s := by
  unfold unpack
  rw [hn, hstar]
  exact wpAny_bind (wpAny_holding (unpackItems_tuple_hot hot ht h))
theorem assign_Tuple_tuple_hot {env : Env} {elts : List Expr} {kk} {pos : Pos} {t : Addr} {items : Array Value} {Q : Unit → Shared → Prop} {x1 : Addr} (hot : HotAt A x1 s.heap) (ht : IsTup s.heap t items)
    (hn : (assignEach elts env).length = items.size) (hstar : (assignEach elts env).findIdx? (·.1) = none)
    (h : ∀ h', Heap.ExtBut s.heap.objs.size s.heap h' → wpAny (model prog w) A (assignInOrder ((assignEach elts env).map (·.2)) items.toList) Q E { s with heap := h' }) :
    wpAny (model prog w) A (assign (.Tuple elts kk pos) env (.ref t)) Q E s := by
  rw [assign_Tuple]
  exact wpAny_bind (wpAny_standAt (unpack_tuple_hot hot ht hn hstar h))
theorem wpAny_nextOf_list_end_hot {it l : Addr} {i : Nat} {items} {Q : Value → Shared → Prop} {x1 : Addr} (hot : HotAt A x1 s.heap)
    (hit : s.heap.IsListIter it l i) (hl : s.heap.IsList l items) (hx : items[i]? = none)
    (hE : ∀ h' e, Heap.ExtBut it s.heap h' → (∃ o, h'.get? e = some o ∧ o.cls = .type "StopIteration") → E (.ref e) { s with heap := h' }) :
    wpAny (model prog w) A (Builtin.SmallTypes.nextOf (.ref it)) Q E s := by
  obtain ⟨o, ho, hc, hd⟩ := id hit
  obtain ⟨hh, o1, vs1, hx1, d1, c1⟩ := hot
  have nx : x1 ≠ it := fun z => by
    rw [z, ho] at hx1; cases hx1; rw [hd] at d1; cases d1; cases c1
  obtain ⟨ol, hol, _, nl, hdl⟩ := hl
  unfold Builtin.SmallTypes.nextOf
  refine wpAny_bind (wpAny_callSpecial?_slot (name := Str.ofString "__next__") hit.typeIs slot_listiter_next
    (wpAny_call_entry slot_listiter_next hit.typeIs entry_listiter_next ?_ (args_listiter_next _)))
  show wpAny _ _ (field (.ref it) 0 >>= _) _ _ s
  refine wpAny_bind (wpAny_field ho hd (x := .ref l) rfl ?_)
  show wpAny _ _ (if (Value.ref l == Value.none) = true then _ else _) _ _ s
  rw [if_neg (show ¬ ((Value.ref l == Value.none) = true) from Bool.false_ne_true)]
  show wpAny _ _ (field (.ref it) 1 >>= _) _ _ s
  refine wpAny_bind (wpAny_field ho hd (x := .int i 0) rfl ?_)
  show wpAny _ _ (seqItems? (.ref l) >>= _) _ _ s
  refine wpAny_bind (wpAny_seqItems hol hdl ?_)
  simp only [Int.toNat_natCast, hx]
  refine wpAny_bind (wpAny_rule (wpAny_bind (wpAny_setField ho hd (by simp) ?_)))
  show wpAny _ _ (newExc (.type "StopIteration") [] >>= _) _ _ _
  refine wpAny_bind ?_
  simp only [newExc, newTuple]
  refine wpAny_bind (wpAny_newObj_type ?_ (by size_fits))
  refine wpAny_bind (m := firstArgMember _ _) (wpAny_of_eq (a := Value.none) (by first | rfl | (simp only [firstArgMember]; rfl)) ?_)
  refine wpAny_newObj_type ?_ (by size_fits)
  refine raiseNew_hot ⟨hh, o1, vs1, Heap.get?_push_of_some _ (Heap.get?_push_of_some _ (((Heap.SameBut.update ..).2 x1 nx).trans hx1)), d1, c1⟩ (Nat.ne_of_lt (Heap.lt_size (Heap.get?_push_of_some _ (((Heap.SameBut.update ..).2 x1 nx).trans hx1)))) (Heap.get?_push_size _ rfl) rfl (by first | (simp; done) | (simp; omega) | (simp only [Array.size_append]; simp; omega)) ?_
  refine hE _ _ (fun b o hb e => ?_) ⟨_, Heap.get?_update_self _ (Heap.get?_push_size _ rfl) rfl, rfl⟩
  have e2 := ((Heap.SameBut.update s.heap it (Obj.mapFields fun x => x.setIfInBounds 0 Value.none)).2 b hb).trans e
  rw [Heap.get?_update_other _ _ (Nat.ne_of_gt (Heap.lt_size (Heap.get?_push_of_some _ e2)))]
  exact Heap.get?_push_of_some _ (Heap.get?_push_of_some _ e2)
theorem zip_next_end_hot {z TI TO i1 i2 l1 l2 : Addr} {k1 k2 : Nat} {xs ys : Array Value} {a b : Value} {Q : Fin → Shared → Prop} {x1 : Addr} (hot : HotAt A x1 s.heap) (D : ZipApart z TI TO i1 i2 l1 l2)
    (hz : IsZip s.heap z TI TO .none) (hTI : IsPair s.heap TI (.ref i1) (.ref i2)) (hTO : IsPair s.heap TO a b)
    (h1 : s.heap.IsListIter i1 l1 k1) (h2 : s.heap.IsListIter i2 l2 k2) (hl1 : s.heap.IsList l1 xs) (hl2 : s.heap.IsList l2 ys) (hend : xs[k1]? = none ∨ ys[k2]? = none)
    (hE : ∀ h' e, (∀ c o, c ≠ z → c ≠ TO → c ≠ i1 → c ≠ i2 → s.heap.get? c = some o → h'.get? c = some o) → (∃ o, h'.get? e = some o ∧ o.cls = .type "StopIteration") → E (.ref e) { s with heap := h' }) :
    wpAny (model prog w) A (Builtin.«zip.__next__» ⟨[.ref z], []⟩) Q E s := by
  have nz : x1 ≠ z := fun q => by
    obtain ⟨_, o1, vs1, e, d1, c1⟩ := hot
    rw [q, hz] at e; cases e; cases d1; cases c1
  have n1 : x1 ≠ i1 := fun q => by
    obtain ⟨_, o1, vs1, e, d1, c1⟩ := hot
    obtain ⟨o, ho, _, hd⟩ := h1
    rw [q, ho] at e; cases e; rw [hd] at d1; cases d1; cases c1
  have nO : x1 ≠ TO := fun q => by
    obtain ⟨_, o1, vs1, e, d1, c1⟩ := hot
    rw [q, hTO] at e; cases e; cases d1
  show wpAny _ _ (field (.ref z) 2 >>= _) _ _ _
  refine wpAny_bind (wpAny_field hz rfl (x := .bool false) rfl ?_)
  show wpAny _ _ (field (.ref z) 3 >>= _) _ _ _
  refine wpAny_bind (wpAny_field hz rfl (x := .ref TI) rfl ?_)
  refine wpAny_bind (wpAny_seqItems hTI rfl ?_)
  show wpAny _ _ (Builtin.SmallTypes.ownedTupleIsFree (.ref z) >>= _) _ _ _
  refine wpAny_bind ?_
  unfold Builtin.SmallTypes.ownedTupleIsFree
  refine wpAny_bind (wpAny_field hz rfl (x := .none) rfl (wpAny_pure ?_))
  simp only [if_true]
  refine wpAny_bind (wpAny_rule ?_)
  refine wpAny_bind (wpAny_field hz rfl (x := .ref TO) rfl ?_)
  refine wpAny_bind (wpAny_setField_rec hz (by simp) fun h₁ hz₁ hs₁ => ?_)
  replace hz₁ : IsZip h₁ z TI TO .ellipsis := hz₁
  refine wpAny_bind ?_
  simp only [List.zipIdx_cons, List.zipIdx_nil, List.forIn_cons, List.forIn_nil]
  refine wpAny_bind (wpAny_bind (wpAny_onRaise ?_))
  show wpAny _ _ (Builtin.SmallTypes.nextOf (.ref i1) >>= _) _ _ _
  cases hx : xs[k1]? with
  | none =>
    refine wpAny_bind (wpAny_nextOf_list_end_hot (x1 := x1) (hot_keep hot nz fun o e => hs₁.extBut _ _ nz e) (h1.extBut hs₁.extBut D.i1z) (hl1.extBut hs₁.extBut D.l1z) hx fun h₂ e hs₂ he => ?_)
    obtain ⟨oe, hoe, hce⟩ := he
    have hz₂ : IsZip h₂ z TI TO .ellipsis := hs₂ _ _ D.i1z.symm hz₁
    have hez : e ≠ z := fun x => by subst x; rw [hz₂] at hoe; cases hoe; simp at hce
    refine wpAny_setField_rec hz₂ (by simp) fun h₃ _ hs₃ => hE h₃ e (fun c o c1 _ c3 _ x => hs₃.extBut _ _ c1 (hs₂ _ _ c3 (hs₁.extBut _ _ c1 x))) ⟨oe, hs₃.extBut _ _ hez hoe, hce⟩
  | some x =>
    have hy : ys[k2]? = none := by rcases hend with h | h; rw [hx] at h; cases h; exact h
    refine wpAny_bind (wpAny_nextOf_list_item (h1.extBut hs₁.extBut D.i1z) (hl1.extBut hs₁.extBut D.l1z) hx fun h₂ h1₂ hs₂ => wpAny_pure ?_)
    have hTO₂ : IsPair h₂ TO a b := hs₂.extBut _ _ D.TOi1 (hs₁.extBut _ _ D.TOz hTO)
    refine wpAny_bind (wpAny_seqItems hTO₂ rfl ?_)
    refine wpAny_bind (wpAny_updateSeq_pair hTO₂ fun h₃ hTO₃ hs₃ => ?_)
    refine wpAny_bind (wpAny_letGo (wpAny_pure ?_))
    refine wpAny_bind (wpAny_bind (wpAny_onRaise ?_))
    show wpAny _ _ (Builtin.SmallTypes.nextOf (.ref i2) >>= _) _ _ _
    refine wpAny_bind (wpAny_nextOf_list_end_hot (x1 := x1) (hot_keep hot nz fun o e => hs₃.extBut _ _ nO (hs₂.extBut _ _ n1 (hs₁.extBut _ _ nz e))) (((h2.extBut hs₁.extBut D.i2z).extBut hs₂.extBut D.i12.symm).extBut hs₃.extBut D.TOi2.symm)
      (((hl2.extBut hs₁.extBut D.l2z).extBut hs₂.extBut D.l2i1).extBut hs₃.extBut D.l2TO) hy fun h₄ e hs₄ he => ?_)
    obtain ⟨oe, hoe, hce⟩ := he
    have hz₄ : IsZip h₄ z TI TO .ellipsis := hs₄ _ _ D.i2z.symm (hs₃.extBut _ _ D.TOz.symm (hs₂.extBut _ _ D.i1z.symm hz₁))
    have hez : e ≠ z := fun x => by subst x; rw [hz₄] at hoe; cases hoe; simp at hce
    refine wpAny_setField_rec hz₄ (by simp) fun h₅ _ hs₅ => hE h₅ e (fun c o c1 c2 c3 c4 x => hs₅.extBut _ _ c1 (hs₄ _ _ c4 (hs₃.extBut _ _ c2 (hs₂.extBut _ _ c3 (hs₁.extBut _ _ c1 x))))) ⟨oe, hs₅.extBut _ _ hez hoe, hce⟩
theorem wpAny_pyNext_zip_end_hot {z TI TO i1 i2 l1 l2 : Addr} {k1 k2 : Nat} {xs ys : Array Value} {a b : Value} {Q : Option Value → Shared → Prop} {x1 : Addr} (hot : HotAt A x1 s.heap) (D : ZipApart z TI TO i1 i2 l1 l2)
    (hz : IsZip s.heap z TI TO .none) (hTI : IsPair s.heap TI (.ref i1) (.ref i2)) (hTO : IsPair s.heap TO a b)
    (h1 : s.heap.IsListIter i1 l1 k1) (h2 : s.heap.IsListIter i2 l2 k2) (hl1 : s.heap.IsList l1 xs) (hl2 : s.heap.IsList l2 ys) (hend : xs[k1]? = none ∨ ys[k2]? = none)
    (hQ : ∀ h', (∀ c o, c ≠ z → c ≠ TO → c ≠ i1 → c ≠ i2 → s.heap.get? c = some o → h'.get? c = some o) → Q none { s with heap := h' }) : wpAny (model prog w) A (pyNext (.ref z)) Q E s := by
  have hT : s.TypeIs (.ref z) "zip" := ⟨_, hz, rfl⟩
  unfold pyNext
  refine wpAny_bind (wpAny_attempt (wpAny_callSpecial?_slot (name := Str.ofString "__next__") hT F.slot_zip_next
    (wpAny_call_entry F.slot_zip_next hT F.entry_zip_next (zip_next_end_hot hot D hz hTI hTO h1 h2 hl1 hl2 hend fun h' e hk he => ?_) (F.args_zip_next_1 _))))
  obtain ⟨o, ho, hc⟩ := he
  refine wpAny_bind (wpAny_isInstance (T := "StopIteration") (b := true) ⟨o, ho, hc⟩ isSubtype_stop ?_)
  exact wpAny_pure (hQ _ hk)
end
end Z
end
-- Z22
section
set_option Elab.async false
set_option linter.all false
set_option maxRecDepth 100000
set_option maxHeartbeats 4000000
/-! Z22: a list comprehension over zip where an exception is handled. -/
namespace ZH
open PySem PySem.Spec PyProof.Rows L2 HotX L2H
abbrev St := L2.St
open Z (wpAny_pyNext_zip_end_hot assign_Tuple_tuple_hot)
/-- the handled exception stands wherever the context's promise holds -/
def HotP (X : Cx) : Prop := ∃ x1, ∀ pins σ H s, Inv X pins σ H s → HotAt X.A x1 s.heap
theorem hotP_of {X : Cx} (c : HotC X) : HotP X := by
  obtain ⟨p, ⟨hh, v1, e1, c1⟩, hp⟩ := c
  exact ⟨p.1, fun pins σ H s I => ⟨hh, p.2, v1, (I.pin p (List.mem_append_left _ hp)).1, e1, c1⟩⟩
theorem hotP_blk {X : Cx} {pins : List (Addr × Obj)} {σ : St} {H : Hp} {s : Shared} {scope : Scope} {ce : Env} {fp : List Addr} (c : HotC X) (I : Inv X pins σ H s) (f : ∀ b ∈ fp, FpOk X pins H b) : HotP (X.blk s H scope ce fp) := by
  obtain ⟨p, ⟨hh, v1, e1, c1⟩, hp⟩ := c
  have P1 := I.pin p (List.mem_append_left _ hp)
  have nfp : p.1 ∉ fp := fun hm => (f _ hm).2.2.2.2.2 p (List.mem_append_left _ hp) rfl
  refine ⟨p.1, fun pins' σ' H' s' J => ?_⟩
  obtain ⟨sl, e⟩ := J.base.any P1.1 P1.2.1 nfp
  exact ⟨hh, _, v1, e, e1, c1⟩
structure TurnB (P : Program) (w : World) (K : PySem.W.Frag) (tg : Expr) (J : It) (fp : List Addr) (it : Addr) (tn : Nat → Heap → Prop) : Prop where
  mem : it ∈ fp
  obj : ∀ i h, tn i h → ∀ b ∈ fp, ∃ o, h.get? b = some o ∧ ∀ v, o.data ≠ .cell v
  keep : ∀ i h h', tn i h → (∀ b ∈ fp, ∀ o, h.get? b = some o → h'.get? b = some o) → tn i h'
  item : ∀ (X : Cx), X.prog = P → X.w = w → X.K = K → HotP X → ∀ (i : Nat) (pins : List (Addr × Obj)) (s : Shared) (σ : St) (H : Hp) (E : Value → Shared → Prop), Inv X pins σ H s → (∀ b ∈ fp, FpOk X pins H b) → tn i s.heap → J.go i H →
    wpAny (model P w) X.A (pyNext (.ref it)) (fun r s1 => ∃ u, r = some u ∧
      wpAny (model P w) X.A (letOwnedTupleGo tg (.ref it) u) (fun _ s2 => ∃ x H', Inv X pins σ H' s2 ∧ RelV x u ∧ J.yld i H x H' ∧ tn (i + 1) s2.heap ∧ ∀ b ∈ fp, H' b = none) E s1) E s
  done : ∀ (X : Cx), X.prog = P → X.w = w → X.K = K → HotP X → ∀ (i : Nat) (pins : List (Addr × Obj)) (s : Shared) (σ : St) (H : Hp) (E : Value → Shared → Prop), Inv X pins σ H s → (∀ b ∈ fp, FpOk X pins H b) → tn i s.heap → J.stop i H →
    wpAny (model P w) X.A (pyNext (.ref it)) (fun r s1 => r = none ∧ Inv X pins σ H s1) E s
  self : ∀ (A : Around) (i : Nat) (s : Shared) (Q : Value → Shared → Prop) (E : Value → Shared → Prop), tn i s.heap → Q (.ref it) s → wpAny (model P w) A (pyIter (.ref it)) Q E s
def PIEB (X : Cx) (pins : List (Addr × Obj)) (σ : St) (tg : Expr) (R : It → Hp → Prop) (itv : Value) (s2 : Shared) : Prop :=
  ∃ (it : Addr) (fp : List Addr) (tn : Nat → Heap → Prop) (J : It) (H' : Hp), itv = .ref it ∧ Inv X pins σ H' s2 ∧ TurnB X.prog X.w X.K tg J fp it tn ∧ tn 0 s2.heap ∧ (∀ b ∈ fp, FpOk X pins H' b) ∧ R J H'
structure PIB (X : Cx) (tg iter : Expr) (wi : TI) : Prop where
  run : ∀ (pins : List (Addr × Obj)) (s : Shared) (σ : St) (H : Hp) (R : It → Hp → Prop), Inv X pins σ H s → wi σ H R →
    wpAny (model X.prog X.w) X.A (eval iter X.env) (fun v s1 => wpAny (model X.prog X.w) X.A (pyIter v) (PIEB X pins σ tg R) X.xe s1) X.xe s
theorem turn_zipB {P : Program} {w : World} {K : PySem.W.Frag} {elts : List Expr} {kk : Nat} {tpos : Pos} {a b z TI TO i1 i2 : Addr} (D : ZipApart z TI TO i1 i2 a b) :
    TurnB P w K (.Tuple elts kk tpos) (Itz K a b) [z, TI, TO, i1, i2] z (fun i h => IsZip h z TI TO .none ∧ IsPair h TI (.ref i1) (.ref i2) ∧ (∃ x y, IsPair h TO x y) ∧ h.IsListIter i1 a i ∧ h.IsListIter i2 b i) where
  mem := by simp
  obj := fun i h st c hc => by
    obtain ⟨hz, hTI, ⟨x, y, hTO⟩, ⟨o1, e1, _, d1⟩, ⟨o2, e2, _, d2⟩⟩ := st
    have e' : c = z ∨ c = TI ∨ c = TO ∨ c = i1 ∨ c = i2 := by simpa using hc
    rcases e' with q | q | q | q | q
    · rw [q]; exact ⟨_, hz, fun v q => nomatch q⟩
    · rw [q]; exact ⟨_, hTI, fun v q => nomatch q⟩
    · rw [q]; exact ⟨_, hTO, fun v q => nomatch q⟩
    · rw [q]; exact ⟨o1, e1, fun v q => by rw [d1] at q; cases q⟩
    · rw [q]; exact ⟨o2, e2, fun v q => by rw [d2] at q; cases q⟩
  keep := fun i h h' st k => by
    obtain ⟨hz, hTI, ⟨x, y, hTO⟩, h1, h2⟩ := st
    exact ⟨k z (by simp) _ hz, k TI (by simp) _ hTI, ⟨x, y, k TO (by simp) _ hTO⟩, h1.at fun o q => k i1 (by simp) o q, h2.at fun o q => k i2 (by simp) o q⟩
  item := by
    intro X hP hw hK hc i pins s σ H E I hf st hg
    subst hP hw hK
    obtain ⟨hz, hTI, ⟨x0, y0, hTO⟩, h1, h2⟩ := st
    obtain ⟨xs, ys, x, y, hqx, hqy, hx, hy⟩ := hg
    obtain ⟨its, rv, p, _⟩ := I.list hqx
    obtain ⟨its2, rv2, p2, _⟩ := I.list hqy
    obtain ⟨u, hu, ru⟩ := rv.get hx
    obtain ⟨u2, hu2, ru2⟩ := rv2.get hy
    have hzl : z < s.heap.objs.size := Heap.lt_size hz
    refine wpAny_pyNext_zip_item D hz hTI hTO h1 h2 p.isList p2.isList (x := u) (y := u2) (by simpa using hu) (by simpa using hu2) fun h' z' TO' h1' h2' hT hsz hk => ?_
    refine ⟨_, rfl, wpAny_letOwnedTupleGo_zip (s := { s with heap := h' }) z' fun h'' z'' sb => ?_⟩
    have hT2 : h''.get? s.heap.objs.size = some { cls := .type "tuple", data := .seq #[u, u2] } := (sb.2 _ (Nat.ne_of_gt hzl)).trans hT
    have new : ObjOk X.prog X.w (upd H s.heap.objs.size (.tup [x, y])) h'' s.heap.objs.size (.tup [x, y]) :=
      ⟨by show 2 ≤ sizeLine; decide, [u, u2], .cons ru (.cons ru2 .nil), ⟨_, hT2, rfl, _, rfl⟩⟩
    have I1 : Inv X pins σ (upd H s.heap.objs.size (.tup [x, y])) { s with heap := h'' } :=
      I.turnedNew (t' := s.toks) (ch := [z, TI, TO, i1, i2]) (fun c o hb q => (sb.2 c (fun q' => hb (by simp [q']))).trans (hk c o (fun q' => hb (by simp [q'])) (fun q' => hb (by simp [q'])) (fun q' => hb (by simp [q'])) (fun q' => hb (by simp [q'])) q)) hf (Nat.le_refl _) new
    refine ⟨.ref s.heap.objs.size, _, I1, rfl, ⟨_, x, y, rfl, I.hok.fresh (Nat.le_refl _), rfl, fun l hl => by rw [I.list_inj hl hqx]; exact hx, fun l hl => by rw [I.list_inj hl hqy]; exact hy⟩, ⟨z'', ?_, ⟨u, u2, ?_⟩, ?_, ?_⟩, fun c hcm => ?_⟩
    · exact (sb.2 _ D.TIz).trans (hk _ _ D.TIz D.TITO D.TIi1 D.TIi2 hTI)
    · exact (sb.2 _ D.TOz).trans TO'
    · exact h1'.at fun o q => (sb.2 _ D.i1z).trans q
    · exact h2'.at fun o q => (sb.2 _ D.i2z).trans q
    · have hlt : c < s.heap.objs.size := by
        have e' : c = z ∨ c = TI ∨ c = TO ∨ c = i1 ∨ c = i2 := by simpa using hcm
        rcases e' with q | q | q | q | q
        · rw [q]; exact hzl
        · rw [q]; exact Heap.lt_size hTI
        · rw [q]; exact Heap.lt_size hTO
        · rw [q]; obtain ⟨_, e1, _⟩ := h1; exact Heap.lt_size e1
        · rw [q]; obtain ⟨_, e2, _⟩ := h2; exact Heap.lt_size e2
      rw [upd_ne (Nat.ne_of_lt hlt)]
      exact (hf c hcm).1
  done := by
    intro X hP hw hK hc i pins s σ H E I hf st hg
    subst hP hw hK
    obtain ⟨hz, hTI, ⟨x0, y0, hTO⟩, h1, h2⟩ := st
    obtain ⟨xs, ys, hqx, hqy, hend⟩ := hg
    obtain ⟨its, rv, p, _⟩ := I.list hqx
    obtain ⟨its2, rv2, p2, _⟩ := I.list hqy
    have l1 := rv.length
    have l2 := rv2.length
    have he : its.toArray[i]? = none ∨ its2.toArray[i]? = none := by
      rcases hend with q | q
      · exact .inl (by simp; omega)
      · exact .inr (by simp; omega)
    obtain ⟨x1, hot⟩ := hc
    exact wpAny_pyNext_zip_end_hot (hot _ _ _ _ I) D hz hTI hTO h1 h2 p.isList p2.isList he fun h' hk => ⟨rfl, I.turnedL (t' := s.toks) (ch := [z, TI, TO, i1, i2]) (fun c o hb q =>
      hk c o (fun q' => hb (by simp [q'])) (fun q' => hb (by simp [q'])) (fun q' => hb (by simp [q'])) (fun q' => hb (by simp [q'])) q) hf⟩
  self := fun A i s Q E st h => wpAny_pyIter_zip st.1 h
theorem pi_zipB {X : Cx} {e e2 : Expr} {ta : TA} {p pos tpos : Pos} {elts : List Expr} {kk : Nat} (hg : Gl X "zip") (hm : X.mg "zip" = none) (ha : PA X [e, e2] ta)
    (hs : starEach [e, e2] X.env = (false, eval e X.env) :: starEach [e2] X.env := by rfl) (hpl : (backTo pos (starEach [e2] X.env)).any (·.1) = false := by rfl) :
    PIB X (.Tuple elts kk tpos) (.Call (.Name "zip" p) [e, e2] [] pos) (iZip X.K ta) := by
  refine ⟨fun pins s σ H R I h => ?_⟩
  refine Call_ (ld_blt I hg hm PyProof.Rows.boot_zip (PyProof.Rows.callWith_type1 (thn (ha.run pos pins s σ H _ I h) fun us s1 ⟨vs, H1, I1, r1, q1⟩ => ?_) hs hpl))
  obtain ⟨a, b, xs, ys, ex, hqx, hqy, q⟩ := q1
  subst ex
  cases r1 with
  | cons r rr =>
    cases rr with
    | cons r' rr =>
      cases rr
      cases r
      cases r'
      obtain ⟨its, rv, p1, _⟩ := I1.list hqx
      obtain ⟨its2, rv2, p2, _⟩ := I1.list hqy
      have la : a < s1.heap.objs.size := p1.lt
      have lb : b < s1.heap.objs.size := p2.lt
      refine call_zip_2 p1.isList p2.isList fun h' hz hTI hTO h1 h2 hsz hk => wpAny_pyIter_zip hz ?_
      have I2 : Inv X pins σ H1 { s1 with heap := h' } := I1.kept (t' := s1.toks) hk
      refine ⟨s1.heap.objs.size + 4, [s1.heap.objs.size + 4, s1.heap.objs.size + 2, s1.heap.objs.size + 3, s1.heap.objs.size, s1.heap.objs.size + 1], _, _, H1, rfl, I2, turn_zipB (PySem.W.ktu_apart s1.heap.objs.size a b la lb), ⟨hz, hTI, ⟨_, _, hTO⟩, h1, h2⟩, fun c hcm => ?_, q⟩
      have e' : c = s1.heap.objs.size + 4 ∨ c = s1.heap.objs.size + 2 ∨ c = s1.heap.objs.size + 3 ∨ c = s1.heap.objs.size ∨ c = s1.heap.objs.size + 1 := by simpa using hcm
      have hle : s1.heap.objs.size ≤ c := by
        rcases e' with z | z | z | z | z
        · rw [z]; exact Nat.le_add_right _ _
        · rw [z]; exact Nat.le_add_right _ _
        · rw [z]; exact Nat.le_add_right _ _
        · rw [z]; exact Nat.le_refl _
        · rw [z]; exact Nat.le_add_right _ _
      exact I1.fpOk hle (I1.hok.fresh hle)
theorem pg_tupB {X : Cx} {pos : Pos} {es : List Expr} {k : Nat} {t : TGs} {n : Nat} (hc : HotP X) (h : PGs X es t)
    (hn : (assignEach es X.env).length = n := by rfl) (hst : (assignEach es X.env).findIdx? (·.1) = none := by rfl) : PG X (.Tuple es k pos) (gTup X.K n t) := by
  refine ⟨fun pins s σ H v u Q I r hw => ?_⟩
  obtain ⟨a, xs, e1, hq, hl, hw⟩ := hw
  subst e1
  cases r
  obtain ⟨its, rv, ht, hz⟩ := I.tuple hq
  obtain ⟨x1, hot⟩ := hc
  refine assign_Tuple_tuple_hot (hot _ _ _ _ I) ht (by simp [hn, ← hl, rv.length]) hst fun h' hx => ?_
  have I1 : Inv X pins σ H { s with heap := h' } := I.kept (t' := s.toks) fun b o e => hx b o (Nat.ne_of_lt (Heap.lt_size e)) e
  exact h.run pins _ σ H xs _ Q I1 (by simpa using rv) hw
section
variable {X : Cx}
theorem lc_coreB {pins : List (Addr × Obj)} {s : Shared} {σ : St} {H : Hp} {Q : VK} {elt tg iter : Expr} {ifs : List Expr} {scope : Scope} {own : List (Str × Nat)} {pos pos' : Pos} {wi : TI} {g : TG} {tt : TT} {te : TE} {use : Option (Value → Sem Unit)} {Qf : Value → Shared → Prop}
    (hc : HotC X) (hN : X.N.Nodup) (I : Inv X pins σ H s) (hi : PIB X tg iter wi) (ok : BlkOk X.N X.env.scope scope own)
    (hg : ∀ (s : Shared) (H : Hp) (C : Addr) (cl : List (Str × Addr)) (fp : List Addr), HotP (X.blk s H scope (compEnvC scope cl C X.env) fp) → PG (X.blk s H scope (compEnvC scope cl C X.env) fp) tg g) (ht : ∀ (s : Shared) (H : Hp) (C : Addr) (cl : List (Str × Addr)) (fp : List Addr), PTs (X.blk s H scope (compEnvC scope cl C X.env) fp) ifs tt)
    (he : ∀ (s : Shared) (H : Hp) (C : Addr) (cl : List (Str × Addr)) (fp : List Addr), PE (X.blk s H scope (compEnvC scope cl C X.env) fp) elt te) (hs : ∀ x, foldedSetIterable iter X.env x = pure x)
    (h : tLc wi g tt te (own.map (·.2)) σ H Q)
    (hRR : ∀ D C s' m H', Inv X pins σ H' s' → Q (.ref D) H' → s'.heap.Ns C m → FpOk X pins H' C → compPost (model X.prog X.w) X.A X.xe use Qf (.ref D) C (.ok .next) s') :
    wpAny (model X.prog X.w) X.A (comprehension (.ListComp elt [⟨tg, iter, ifs, 0⟩] scope pos) scope X.env pos' (newList []) false (eval iter X.env) use) Qf X.xe s := by
  have hfree : ∀ y ∈ scope.names, y.2 = .free → ∃ c, X.env.cells.lookup y.1 = some c := fun y hy e => by
    rcases ok.free y hy e with k | k
    · exact I.ok.has _ (.inl k)
    · exact I.ok.has _ (.inr k)
  refine wpAny_comprehension_free (use := use) rfl hs (closure_ok hfree) ok.kind (fun y hy e => by rw [ok.uniq y hy, e])
    (thn (hi.run pins s σ H _ I h) fun xv s1 hx => thn hx fun itv s2 h2 => ?_)
  obtain ⟨it, fp, tn, J, H2, e, I2, T, st2, f2, q⟩ := h2
  subst e
  refine wpAny_newObj_type (newEnv_comp ?_) (by show 0 ≤ sizeLine; decide)
  generalize hD : s2.heap.objs.size = D
  have hDn : H2 D = none := I2.hok.fresh (Nat.le_of_eq hD)
  obtain ⟨W, ⟨m0, w0⟩, turn⟩ := q D hDn
  -- the new list
  generalize hs3 : ({ s2 with heap := s2.heap.push { cls := .type "list", data := .seq ([] : List Value).toArray } } : Shared) = s3
  have I3 : Inv X pins σ (upd H2 D (.lst [])) s3 := by
    rw [← hs3]
    refine I2.laid (t' := s2.toks) (fun b o e => Heap.get?_push_of_some _ e) (Nat.le_of_eq hD) ⟨Nat.zero_le _, [], 0, .nil, ?_⟩
    rw [← hD]
    exact Heap.get?_push_size _ rfl
  have h3 : s3.heap = s2.heap.push { cls := .type "list", data := .seq ([] : List Value).toArray } := by rw [← hs3]
  have sz : ∀ b ∈ fp, b < s2.heap.objs.size := fun b hb => by
    obtain ⟨o, e, _⟩ := T.obj _ _ st2 b hb
    exact Heap.lt_size e
  have f3 : ∀ b ∈ fp, FpOk X pins (upd H2 D (.lst [])) b ∧ b < s3.heap.objs.size := fun b hb => by
    have hlt := sz b hb
    refine ⟨⟨?_, (f2 b hb).2⟩, by rw [h3, Heap.size_push]; exact Nat.lt_succ_of_lt hlt⟩
    rw [upd_ne (by rw [← hD]; exact Nat.ne_of_lt hlt)]
    exact (f2 b hb).1
  have st3 : tn 0 s3.heap := T.keep _ _ _ st2 fun b _ o e => by rw [h3]; exact Heap.get?_push_of_some _ e
  have I4 := block_start I3 ok hN f3
  have pg := hg s3 (upd H2 D (.lst [])) s3.heap.objs.size (cellsFrom (s3.heap.objs.size + 1) scope.names (cloFrom X.env.cells scope.names [])) fp (hotP_blk hc I3 fun b hb => (f3 b hb).1)
  have pt := ht s3 (upd H2 D (.lst [])) s3.heap.objs.size (cellsFrom (s3.heap.objs.size + 1) scope.names (cloFrom X.env.cells scope.names [])) fp
  have pe := he s3 (upd H2 D (.lst [])) s3.heap.objs.size (cellsFrom (s3.heap.objs.size + 1) scope.names (cloFrom X.env.cells scope.names [])) fp
  show codeAny _ _ (.compStart (.ListComp elt [⟨tg, iter, ifs, 0⟩] scope pos) 0 (.ref it) (.ref D) (compEnvC scope (cellsFrom (s3.heap.objs.size + 1) scope.names (cloFrom X.env.cells scope.names [])) s3.heap.objs.size X.env)) (compPost (model X.prog X.w) X.A X.xe use Qf (.ref D) s3.heap.objs.size) { s3 with heap := pushCells (s3.heap.push { cls := .type "dict", data := .dict #[] }) scope.names }
  have nfp : ∀ b ∈ fp, (upd H2 D (.lst [])) b = none := fun b hb => (f3 b hb).1.1
  generalize hce : compEnvC scope (cellsFrom (s3.heap.objs.size + 1) scope.names (cloFrom X.env.cells scope.names [])) s3.heap.objs.size X.env = ce at I4 pg pt pe ⊢
  have cL : ce.locals = s3.heap.objs.size := by subst hce; rfl
  generalize hH3 : upd H2 D (.lst []) = H3 at I3 I4 pg pt pe w0 nfp f3
  generalize hs4 : ({ s3 with heap := pushCells (s3.heap.push { cls := .type "dict", data := .dict #[] }) scope.names } : Shared) = s4 at I4 ⊢
  have st4 : tn 0 s4.heap := T.keep _ _ _ st3 fun b _ o e => by rw [← hs4]; exact pushCells_keeps _ _ _ _ (Heap.get?_push_of_some _ e)
  have stat : ∀ {σ' : St} {H' : Hp} {s' : Shared}, Inv (X.blk s3 H3 scope ce fp) [] σ' H' s' → (∀ b ∈ fp, H' b = none) → ∀ b ∈ fp, FpOk (X.blk s3 H3 scope ce fp) [] H' b := fun {σ' H' s'} I' hn b hb =>
    ⟨hn b hb, (I'.ok.exf b hb).1, I'.ok.exfs b hb, .inl hb, fun x c e => (I'.ok.exf b hb).2 x c e, fun p hp => absurd (show p ∈ ([] : List (Addr × Obj)) ++ [] from hp) (by simp)⟩
  have loop : codeAny (model X.prog X.w) X.A (.compLoop (.ListComp elt [⟨tg, iter, ifs, 0⟩] scope pos) 0 (.ref it) (.ref D) ce) (compPost (model X.prog X.w) X.A X.xe use Qf (.ref D) s3.heap.objs.size) s4 := by
    refine compLoop_any (fun n s' => ∃ i H', Inv (X.blk s3 H3 scope ce fp) [] (wipe σ (own.map (·.2))) H' s' ∧ tn i s'.heap ∧ (∀ b ∈ fp, H' b = none) ∧ W i n H') ?_ m0 ⟨0, H3, I4, st4, nfp, w0⟩
    rintro n s5 ⟨i, H5, I5, st5, n5, w5⟩
    rcases turn i n H5 w5 with ⟨stop, qq⟩ | ⟨go, Nx, hNx, step⟩
    · have td := T.done (X.blk s3 H3 scope ce fp) rfl rfl rfl (hotP_blk hc I3 fun b hb => (f3 b hb).1) i [] s5 _ H5 (fun _ _ => False) I5 (stat I5 n5) st5 stop
      refine thnF td fun r s6 ⟨hr, I6⟩ => ?_
      subst hr
      -- back in the def's context
      have I7 : Inv X pins σ H5 s6 := I3.call' (ch := fp) I6.os I6.base I6.hok I6.bare fun b hb => ⟨(f3 b hb).1.2.2.2.1, (f3 b hb).1.2.1, (f3 b hb).1.2.2.2.2.1, (f3 b hb).1.2.2.2.2.2⟩
      have nC : H5 s3.heap.objs.size = none := by
        have z : H5 ce.locals = none := I6.free
        rw [cL] at z
        exact z
      obtain ⟨m, hn, _⟩ := I6.loc
      have hn : s6.heap.Ns ce.locals m := hn
      rw [cL] at hn
      exact hRR D s3.heap.objs.size s6 m H5 I7 qq hn (I3.fpOk (Nat.le_refl _) nC)
    · have ti := T.item (X.blk s3 H3 scope ce fp) rfl rfl rfl (hotP_blk hc I3 fun b hb => (f3 b hb).1) i [] s5 _ H5 (fun _ _ => False) I5 (stat I5 n5) st5 go
      refine thnF ti fun r s6 ⟨u, hr, h6⟩ => ?_
      subst hr
      refine thnF h6 fun _ s7 ⟨x, H7, I7, r7, y7, st7, n7⟩ => ?_
      have I7' := I7.pinned (stat I7 n7) (T.obj _ _ st7)
      refine thnF (pg.run _ s7 _ H7 x u _ I7' r7 (step x H7 y7)) fun _ s8 ⟨σ8, H8, I8, hw8, q8⟩ => ?_
      refine thnF (pt.run _ s8 σ8 H8 _ I8 q8) fun b s9 ⟨H9, I9, q9⟩ => ?_
      -- the turn's end
      have fin : ∀ {s' : Shared} {H' : Hp}, Inv (X.blk s3 H3 scope ce fp) ([] ++ pinsAt fp s7.heap) σ8 H' s' → Nx H' → ∃ m, m < n ∧ ∃ i H', Inv (X.blk s3 H3 scope ce fp) [] (wipe σ (own.map (·.2))) H' s' ∧ tn i s'.heap ∧ (∀ b ∈ fp, H' b = none) ∧ W i m H' := fun {s' H'} I' nx => by
        obtain ⟨m', hm, w'⟩ := hNx H' nx
        have pin' : ∀ b ∈ fp, ∀ o, s7.heap.get? b = some o → s'.heap.get? b = some o ∧ H' b = none := fun b hb o e =>
          let z := I'.pin (b, o) (List.mem_append_right _ (List.mem_append_right _ (mem_pinsAt hb e)))
          ⟨z.1, z.2.1⟩
        have hl : (wipe σ (own.map (·.2))).length = σ8.length := by rw [← hw8, wipe_length]
        refine ⟨m', hm, i + 1, H', (I'.unpinned (pins := [])).weak hl (fun j v e => ?_), T.keep _ _ _ st7 fun b hb o e => (pin' b hb o e).1, fun b hb => ?_, w'⟩
        · rw [← hw8] at e
          exact (wipe_some e).1
        · obtain ⟨o, e, _⟩ := T.obj _ _ st7 b hb
          exact (pin' b hb o e).2
      cases b with
      | false =>
        simp only [Bool.false_eq_true, if_false] at q9 ⊢
        exact fin I9 q9
      | true =>
        simp only [if_true] at q9 ⊢
        refine thnF (pe.run _ s9 σ8 H9 _ I9 q9) fun z s10 ⟨yv, H10, I10, r10, acc, hD10, hz10, nx⟩ => ?_
        exact app_ok (X := X.blk s3 H3 scope ce fp) I10 hD10 hz10 r10 fun s11 I11 => fin I11 nx
  exact codeAny_compStart_list loop (T.self X.A 0 _ _ _ st4 loop)
theorem pe_lcB {elt tg iter : Expr} {ifs : List Expr} {scope : Scope} {own : List (Str × Nat)} {pos : Pos} {wi : TI} {g : TG} {tt : TT} {te : TE} (hc : HotC X) (hN : X.N.Nodup) (hi : PIB X tg iter wi) (ok : BlkOk X.N X.env.scope scope own)
    (hg : ∀ (s : Shared) (H : Hp) (C : Addr) (cl : List (Str × Addr)) (fp : List Addr), HotP (X.blk s H scope (compEnvC scope cl C X.env) fp) → PG (X.blk s H scope (compEnvC scope cl C X.env) fp) tg g) (ht : ∀ (s : Shared) (H : Hp) (C : Addr) (cl : List (Str × Addr)) (fp : List Addr), PTs (X.blk s H scope (compEnvC scope cl C X.env) fp) ifs tt)
    (he : ∀ (s : Shared) (H : Hp) (C : Addr) (cl : List (Str × Addr)) (fp : List Addr), PE (X.blk s H scope (compEnvC scope cl C X.env) fp) elt te) (hs : ∀ x, foldedSetIterable iter X.env x = pure x := by intro _; rfl) :
    PE X (.ListComp elt [⟨tg, iter, ifs, 0⟩] scope pos) (tLc wi g tt te (own.map (·.2))) := by
  refine ⟨fun pins s σ H Q I h => ?_⟩
  rw [eval_ListComp]
  refine lc_coreB hc hN I hi ok hg ht he hs h fun D C s' m H' I' q hn f => ⟨m, hn, fun h'' sb => ?_⟩
  obtain ⟨f0, f1, f2, f3, f4, f5⟩ := f
  exact ⟨.ref D, H', I'.turned (t' := s'.toks) (fun b o hb e => (sb.2 b hb).trans e) f0 f1 f3 f4 f5, rfl, q⟩
end
end ZH
end
-- Z23
section
set_option Elab.async false
set_option linter.all false
set_option maxRecDepth 100000
set_option maxHeartbeats 4000000
/-! Z23: the names of the classes that a handled error is of (_law_kin). -/
namespace ZK
open PySem PySem.Spec PyProof.Rows L2 HotX L2H ZH
open Z (sName sName_eq sCall sCall_eq sMeth sMeth_eq sConst sConst_eq sLst sLst_eq sBin sBin_eq sLc sLc_eq sTup sTup_eq glB visB plainN notStar notStar_eq)
abbrev St := L2.St

def kCls : List Str := ["InvalidStory", "InvalidHours", "InvalidPerson", "InvalidLevel", "InvalidEvent", "InvalidOrder", "InvalidChain", "InvalidPlan", "InvalidClues", "InvalidFact", "InvalidIndex", "Unlike", "Contradiction", "NothingToUndo", "TooMany", "InvalidText"]
def kAll : List Str := ["InvalidStory", "InvalidHours", "InvalidPerson", "InvalidLevel", "InvalidEvent", "InvalidOrder", "InvalidChain", "InvalidPlan", "InvalidClues", "InvalidFact", "InvalidIndex", "Unlike", "Contradiction", "NothingToUndo", "TooMany", "InvalidText", "ValueError"]
def kNm : List Str := ["_law_e", "_law_kinds", "_law_names", "_law_name", "_law_good"]
def kTxt : Str := "story hours person level event order chain plan clues fact index unlike contra undo many text +"
def kWords : List Str := ["story", "hours", "person", "level", "event", "order", "chain", "plan", "clues", "fact", "index", "unlike", "contra", "undo", "many", "text", "+"]
/-- what isinstance answers -/
def kb (x y : Str) : Bool := (y == "ValueError") || (x == y)
def filt : List Str → List Bool → List Str
  | w :: ws, b :: bs => match b with
    | true => w :: filt ws bs
    | false => filt ws bs
  | _, _ => []
def kTold (x : Str) : Str := Txt.join " " (filt kWords (kAll.map (kb x)))
/-- the class x's facts -/
structure KinC (K : PySem.W.Frag) (mg : Str → Option Value) (x : Str) (C : Addr) : Prop where
  ec : ExcC K C
  own : ∀ y ∈ kCls, ∃ D, mg y = some (.ref D) ∧ PySem.W.kitOne K (.ref C) (.ref D) = some (x == y)
  ve : PySem.W.kitOne K (.ref C) (.type "ValueError") = some true
  bve : mg "ValueError" = none
  bis : mg "isinstance" = none
  bz : mg "zip" = none

/-- isinstance of the error that is handled -/
theorem call_isP {X : Cx} {p : Addr × Obj} {D : Addr} (hp : p ∈ X.pn) (C : ExcC X.K D) (hz : Zc (.ref D) none p.2) (hf : ∃ vs, p.2.data = .fields vs) : CallR X (.builtin "isinstance") (rIsE X.K D p.1) := by
  intro pins s σ H xs us Q I r h
  obtain ⟨c, cv, b, rfl, hcv, e, q⟩ := h
  cases r with
  | cons rx rr =>
    cases rr with
    | cons rt rr =>
      cases rr
      cases rx
      have ec := hcv _ rt
      subst ec
      obtain ⟨hget, _⟩ := I.pin p (List.mem_append.mpr (.inl hp))
      obtain ⟨vs, hv⟩ := hf
      have J : PySem.W.InstAt s.heap p.1 p.2 D none := by
        obtain ⟨a, oc, od, oda, osl⟩ := p
        obtain ⟨h1, h2⟩ := hz
        dsimp only at h1 h2 hv hget ⊢
        subst h1 h2 hv
        exact ⟨hget, rfl, rfl, trivial⟩
      exact PySem.W.kia_one (PySem.W.handS_kitx_exc C.hg C.hk C.hs C.hd C.ha C.hn C.ht C.hm) I.kIn J e (fun z => nomatch z) fun tk => ⟨.bl b, H, I.kept (t' := tk) fun _ _ z => z, rfl, q⟩

/-! ### shapes -/
def isN (x : Str) (e : Expr) : Bool := match sName e with
  | some y => y == x
  | none => false
theorem isN_eq {x : Str} {e : Expr} (h : isN x e = true) : ∃ p, e = .Name x p := by
  unfold isN at h
  split at h
  · rename_i y hy
    obtain ⟨p, rfl⟩ := sName_eq hy
    rw [beq_iff_eq] at h
    subst h
    exact ⟨p, rfl⟩
  · cases h
def isS (x : Str) (e : Expr) : Bool := match sConst e with
  | some (.str y) => y == x
  | _ => false
theorem isS_eq {x : Str} {e : Expr} (h : isS x e = true) : ∃ k p, e = .Constant (.str x) k p := by
  unfold isS at h
  split at h
  · rename_i y hy
    obtain ⟨k, p, rfl⟩ := sConst_eq hy
    rw [beq_iff_eq] at h
    subst h
    exact ⟨k, p, rfl⟩
  · cases h
def isiB (y : Str) (e : Expr) : Bool := match sCall e with
  | some (f, [a, k]) => (f == "isinstance") && isN "_law_e" a && isN y k
  | _ => false
def isisB : List Str → List Expr → Bool
  | [], [] => true
  | y :: ys, e :: es => isiB y e && isisB ys es
  | _, _ => false
theorem isiB_eq {y : Str} {e : Expr} (h : isiB y e = true) : ∃ p1 p2 p3 p4, e = .Call (.Name "isinstance" p1) [.Name "_law_e" p2, .Name y p3] [] p4 := by
  unfold isiB at h
  split at h
  · rename_i f a k hc
    obtain ⟨p, q, rfl⟩ := sCall_eq hc
    simp only [Bool.and_eq_true, beq_iff_eq] at h
    obtain ⟨⟨rfl, h2⟩, h3⟩ := h
    obtain ⟨p2, rfl⟩ := isN_eq h2
    obtain ⟨p3, rfl⟩ := isN_eq h3
    exact ⟨p, p2, p3, q, rfl⟩
  · cases h
def sAs1 : Stmt → Option (Expr × Expr)
  | .Assign [t] e _ => some (t, e)
  | _ => none
theorem sAs1_eq {s : Stmt} {t e : Expr} (h : sAs1 s = some (t, e)) : ∃ p, s = .Assign [t] e p := by
  unfold sAs1 at h
  split at h
  · cases h; exact ⟨_, rfl⟩
  · cases h
def sRet : Stmt → Option Expr
  | .Return (some e) _ => some e
  | _ => none
theorem sRet_eq {s : Stmt} {e : Expr} (h : sRet s = some e) : ∃ p, s = .Return (some e) p := by
  unfold sRet at h
  split at h
  · cases h; exact ⟨_, rfl⟩
  · cases h
def firstB (ys : List Str) (s : Stmt) : Bool := match sAs1 s with
  | some (t, e) => isN "_law_kinds" t && (match sLst e with
    | some l => isisB ys l
    | none => false)
  | none => false
theorem firstB_eq {ys : List Str} {s : Stmt} (h : firstB ys s = true) : ∃ l p1 p2 p3, s = .Assign [.Name "_law_kinds" p1] (.List l p2) p3 ∧ isisB ys l = true := by
  unfold firstB at h
  split at h
  · rename_i t e hs
    obtain ⟨p, rfl⟩ := sAs1_eq hs
    rw [Bool.and_eq_true] at h
    obtain ⟨h1, h2⟩ := h
    obtain ⟨q, rfl⟩ := isN_eq h1
    split at h2
    · rename_i l hl
      obtain ⟨r, rfl⟩ := sLst_eq hl
      exact ⟨l, q, r, p, rfl, h2⟩
    · cases h2
  · cases h
def moreB (ys : List Str) (s : Stmt) : Bool := match sAs1 s with
  | some (t, e) => isN "_law_kinds" t && (match sBin e with
    | some (a, o, b) => isN "_law_kinds" a && decide (o = .Add) && (match sLst b with
      | some l => isisB ys l
      | none => false)
    | none => false)
  | none => false
theorem moreB_eq {ys : List Str} {s : Stmt} (h : moreB ys s = true) : ∃ l p1 p2 p3 p4 p5, s = .Assign [.Name "_law_kinds" p1] (.BinOp (.Name "_law_kinds" p2) .Add (.List l p3) p4) p5 ∧ isisB ys l = true := by
  unfold moreB at h
  split at h
  · rename_i t e hs
    obtain ⟨p, rfl⟩ := sAs1_eq hs
    rw [Bool.and_eq_true] at h
    obtain ⟨h1, h2⟩ := h
    obtain ⟨q, rfl⟩ := isN_eq h1
    split at h2
    · rename_i a o b hb
      obtain ⟨r, rfl⟩ := sBin_eq hb
      simp only [Bool.and_eq_true, decide_eq_true_eq] at h2
      obtain ⟨⟨h3, rfl⟩, h4⟩ := h2
      obtain ⟨q2, rfl⟩ := isN_eq h3
      split at h4
      · rename_i l hl
        obtain ⟨r2, rfl⟩ := sLst_eq hl
        exact ⟨l, q, q2, r2, r, p, rfl, h4⟩
      · cases h4
    · cases h2
  · cases h
def namesB (s : Stmt) : Bool := match sAs1 s with
  | some (t, e) => isN "_law_names" t && isS kTxt e
  | none => false
theorem namesB_eq {s : Stmt} (h : namesB s = true) : ∃ p1 k p2 p3, s = .Assign [.Name "_law_names" p1] (.Constant (.str kTxt) k p2) p3 := by
  unfold namesB at h
  split at h
  · rename_i t e hs
    obtain ⟨p, rfl⟩ := sAs1_eq hs
    rw [Bool.and_eq_true] at h
    obtain ⟨q, rfl⟩ := isN_eq h.1
    obtain ⟨k, r, rfl⟩ := isS_eq h.2
    exact ⟨q, k, r, p, rfl⟩
  · cases h
def lineB : Expr → Bool
  | .Call (.Attribute _ _ ap) _ _ p => ap.endLine == p.line
  | _ => false
def splitB (e : Expr) : Bool := lineB e && (match sMeth e with
  | some (o, m, [a]) => isN "_law_names" o && (m == "split") && isS " " a
  | _ => false)
theorem splitB_eq {e : Expr} (h : splitB e = true) : ∃ p1 p2 k p3 p4, e = .Call (.Attribute (.Name "_law_names" p1) "split" p2) [.Constant (.str " ") k p3] [] p4 ∧ (p2.endLine == p4.line) = true := by
  unfold splitB at h
  rw [Bool.and_eq_true] at h
  obtain ⟨h0, h⟩ := h
  split at h
  · rename_i o m a hm
    obtain ⟨p, q, rfl⟩ := sMeth_eq hm
    simp only [Bool.and_eq_true, beq_iff_eq] at h
    obtain ⟨⟨h1, rfl⟩, h2⟩ := h
    obtain ⟨p1, rfl⟩ := isN_eq h1
    obtain ⟨k, p3, rfl⟩ := isS_eq h2
    exact ⟨p1, p, k, p3, q, rfl, h0⟩
  · cases h
def zipB (e : Expr) : Bool := match sCall e with
  | some (f, [a, b]) => (f == "zip") && splitB a && isN "_law_kinds" b
  | _ => false
def pairB (e : Expr) : Bool := match sTup e with
  | some [a, b] => isN "_law_name" a && isN "_law_good" b
  | _ => false
def ownK : List (Str × Nat) := [("_law_name", 3), ("_law_good", 4)]
def lkL (sc : Scope) (x : Str) : Bool := match sc.names.lookup x with
  | some .local => true
  | _ => false
def lkG (sc : Scope) (x : Str) : Bool := match sc.names.lookup x with
  | some .globalImplicit => true
  | _ => false
theorem lkL_eq {sc : Scope} {x : Str} (h : lkL sc x = true) : sc.names.lookup x = some .local := by
  unfold lkL at h
  split at h
  · assumption
  · cases h
theorem lkG_eq {sc : Scope} {x : Str} (h : lkG sc x = true) : sc.names.lookup x = some .globalImplicit := by
  unfold lkG at h
  split at h
  · assumption
  · cases h
def scB (sc s : Scope) : Bool := blkC kNm sc s ownK && lkL (relS s sc) "_law_name" && lkL (relS s sc) "_law_good"
def compB (sc : Scope) (e : Expr) : Bool := match sLc e with
  | some (x, [⟨tg, iter, [c], 0⟩], s) => scB sc s && isN "_law_name" x && pairB tg && zipB iter && isN "_law_good" c
  | _ => false
def retB (sc : Scope) (s : Stmt) : Bool := match sRet s with
  | some e => lineB e && (match sMeth e with
    | some (o, m, [a]) => isS " " o && (m == "join") && compB sc a
    | _ => false)
  | none => false
def kinB (sc : Scope) : List Stmt → Bool
  | [s1, s2, s3, s4, s5, s6, s7, s8] => firstB ["InvalidStory", "InvalidHours", "InvalidPerson"] s1 && moreB ["InvalidLevel", "InvalidEvent", "InvalidOrder"] s2 && moreB ["InvalidChain", "InvalidPlan", "InvalidClues"] s3
      && moreB ["InvalidFact", "InvalidIndex", "Unlike"] s4 && moreB ["Contradiction", "NothingToUndo", "TooMany"] s5 && moreB ["InvalidText", "ValueError"] s6 && namesB s7 && retB sc s8
  | _ => false
def kinS (sc : Scope) : Bool := lkL sc "_law_e" && lkL sc "_law_kinds" && lkL sc "_law_names" && lkG sc "isinstance" && lkG sc "zip" && kAll.all fun y => lkG sc y

/-! ### readings -/
/-- the context -/
structure KX (X : Cx) (x : Str) (p : Addr × Obj) (C : Addr) : Prop where
  hot : HotC X
  pin : p ∈ X.pn
  kin : KinC X.K X.mg x C
  zc : Zc (.ref C) none p.2
  fl : ∃ vs, p.2.data = .fields vs
  eN : X.N = kNm
  sc : kinS X.env.scope = true
section
variable {X : Cx} {x : Str} {p : Addr × Obj} {C : Addr}
theorem KX.nd (G : KX X x p C) : X.N.Nodup := by rw [G.eN]; decide +kernel
theorem KX.scs (G : KX X x p C) : (X.env.scope.names.lookup ("_law_e" : Str) = some .local ∧ X.env.scope.names.lookup ("_law_kinds" : Str) = some .local ∧ X.env.scope.names.lookup ("_law_names" : Str) = some .local) ∧ (X.env.scope.names.lookup ("isinstance" : Str) = some .globalImplicit ∧ X.env.scope.names.lookup ("zip" : Str) = some .globalImplicit) ∧ ∀ y ∈ kAll, X.env.scope.names.lookup y = some .globalImplicit := by
  have h := G.sc
  unfold kinS at h
  simp only [Bool.and_eq_true, List.all_eq_true] at h
  obtain ⟨⟨⟨⟨⟨h1, h2⟩, h3⟩, h4⟩, h5⟩, h6⟩ := h
  exact ⟨⟨lkL_eq h1, lkL_eq h2, lkL_eq h3⟩, ⟨lkG_eq h4, lkG_eq h5⟩, fun y hy => lkG_eq (h6 y hy)⟩
theorem KX.at (G : KX X x p C) : X.N[0]? = some ("_law_e" : Str) ∧ X.N[1]? = some ("_law_kinds" : Str) ∧ X.N[2]? = some ("_law_names" : Str) ∧ X.N[3]? = some ("_law_name" : Str) ∧ X.N[4]? = some ("_law_good" : Str) := by rw [G.eN]; exact ⟨rfl, rfl, rfl, rfl, rfl⟩
theorem pe_e (G : KX X x p C) {q : Pos} : PE X (.Name "_law_e" q) (tVar 0) := pe_var G.at.1 (.inl G.scs.1.1)
theorem pe_kinds (G : KX X x p C) {q : Pos} : PE X (.Name "_law_kinds" q) (tVar 1) := pe_var G.at.2.1 (.inl G.scs.1.2.1)
theorem pe_names (G : KX X x p C) {q : Pos} : PE X (.Name "_law_names" q) (tVar 2) := pe_var G.at.2.2.1 (.inl G.scs.1.2.2)
theorem kAll_cases {y : Str} (h : y ∈ kAll) : y ∈ kCls ∨ y = "ValueError" := by
  have e : kAll = kCls ++ [("ValueError" : Str)] := by decide +kernel
  rw [e, List.mem_append] at h
  rcases h with h | h
  · exact .inl h
  · exact .inr (by simpa using h)
theorem kCls_ne {y : Str} (h : y ∈ kCls) : (y == ("ValueError" : Str)) = false ∧ (y == ("__debug__" : Str)) = false := by
  have e : (kCls.all fun y => (y == ("ValueError" : Str)) == false && (y == ("__debug__" : Str)) == false) = true := by decide +kernel
  have := List.all_eq_true.mp e y h
  simp only [Bool.and_eq_true, beq_iff_eq] at this
  exact this
def tIs (a : Addr) (b : Bool) : TE := fun σ H Q => σ[0]? = some (some (.ref a)) ∧ Q (.bl b) H
theorem pe_isi (G : KX X x p C) {y : Str} {e : Expr} (hy : y ∈ kAll) (h : isiB y e = true) : PE X e (tIs p.1 (kb x y)) := by
  obtain ⟨p1, p2, p3, p4, rfl⟩ := isiB_eq h
  have hgy : Gl X y := G.scs.2.2 y hy
  have key : ∀ (v : V), (∃ cv : Value, (∀ u, RelV v u → u = cv) ∧ PySem.W.kitOne X.K (.ref C) cv = some (kb x y)) → PE X (.Name y p3) (tC v) → PE X (.Call (.Name "isinstance" p1) [.Name "_law_e" p2, .Name y p3] [] p4) (tIs p.1 (kb x y)) := fun v ⟨cv, h1, h2⟩ hv =>
    (pe_callB (call_isP G.pin G.kin.ec G.zc G.fl) G.scs.2.1.1 G.kin.bis (by decide +kernel) (pa_cons (pe_e G) (pa_cons hv pa_nil)) (by decide) (by decide) rfl rfl).imp fun σ H Q ⟨a, q⟩ => by
      exact ⟨_, a, v, cv, kb x y, rfl, h1, h2, q⟩
  rcases kAll_cases hy with hk | rfl
  · obtain ⟨D, h1, h2⟩ := G.kin.own y hk
    have e : kb x y = (x == y) := by unfold kb; rw [(kCls_ne hk).1]; rfl
    rw [e] at key ⊢
    exact key (.ref D) ⟨.ref D, fun u r => r, h2⟩ (pe_glob hgy h1 rfl (kCls_ne hk).2)
  · have e : kb x "ValueError" = true := by unfold kb; rfl
    rw [e] at key ⊢
    exact key (.ty "ValueError") ⟨.type "ValueError", fun u r => r, G.kin.ve⟩ (pe_bltn (u := .type "ValueError") hgy G.kin.bve (by decide +kernel) rfl)
def tBs (a : Addr) (bs : List Bool) : TA := fun σ H Q => σ[0]? = some (some (.ref a)) ∧ Q (bs.map V.bl) H
theorem notStar_isi {y : Str} {e : Expr} (h : isiB y e = true) : notStar e = true := by
  obtain ⟨p1, p2, p3, p4, rfl⟩ := isiB_eq h
  rfl
theorem pa_isis (G : KX X x p C) : ∀ {ys : List Str} {es : List Expr}, (∀ y ∈ ys, y ∈ kAll) → isisB ys es = true → PA X es (tBs p.1 (ys.map (kb x)))
  | [], [], _, _ => pa_nil.imp fun σ H Q h => h.2
  | y :: ys, e :: es, hy, h => by
    have h : (isiB y e && isisB ys es) = true := h
    rw [Bool.and_eq_true] at h
    exact (pa_cons (pe_isi G (hy y List.mem_cons_self) h.1) (pa_isis G (fun z hz => hy z (List.mem_cons_of_mem _ hz)) h.2) (notStar_eq (notStar_isi h.1) es X.env)).imp fun σ H Q q => ⟨q.1, q.1, q.2⟩
  | [], _ :: _, _, h => by cases h
  | _ :: _, [], _, h => by cases h
/-- where the body stands -/
def KS (H0 : Hp) (a : Addr) (bs : List Bool) (nm : Option V) (σ : St) (H : Hp) : Prop := ∃ q, σ = [some (.ref a), some (.ref q), nm, none, none] ∧ H q = some (.lst (bs.map V.bl)) ∧ Z.Sub H0 H
theorem s_first (G : KX X x p C) {ys : List Str} {s : Stmt} {H0 : Hp} (hy : ∀ y ∈ ys, y ∈ kAll) (hl : ys.length ≤ 17) (h : firstB ys s = true) :
    PS X s (fun D σ H => σ = [some (.ref p.1), none, none, none, none] ∧ Z.Sub H0 H ∧ ∀ σ' H', KS H0 p.1 (ys.map (kb x)) none σ' H' → D.nx σ' H') := by
  obtain ⟨l, p1, p2, p3, rfl, h⟩ := firstB_eq h
  refine (ps_set (i := 1) G.nd G.at.2.1 (.inl G.scs.1.2.1) (pe_lst (pa_isis G hy h)) rfl (.inr G.scs.1.2.1)).imp fun D σ H q => ?_
  obtain ⟨rfl, hs, k⟩ := q
  refine ⟨rfl, by simp only [List.length_map]; exact Nat.le_trans hl (by decide), fun q hq => k _ _ ⟨q, rfl, upd_same, fun b o e => ?_⟩⟩
  rw [upd_ne (ne_of_none (hs b o e) hq)]
  exact hs b o e
theorem s_more (G : KX X x p C) {ys : List Str} {s : Stmt} {H0 : Hp} {bs : List Bool} (hy : ∀ y ∈ ys, y ∈ kAll) (hl : ys.length ≤ 17) (hb : bs.length ≤ 17) (h : moreB ys s = true) :
    PS X s (fun D σ H => KS H0 p.1 bs none σ H ∧ ∀ σ' H', KS H0 p.1 (bs ++ ys.map (kb x)) none σ' H' → D.nx σ' H') := by
  obtain ⟨l, p1, p2, p3, p4, p5, rfl, h⟩ := moreB_eq h
  refine (ps_set (i := 1) G.nd G.at.2.1 (.inl G.scs.1.2.1) (pe_op op_cat (pe_kinds G) (pe_lst (pa_isis G hy h))) rfl (.inr G.scs.1.2.1)).imp fun D σ H q => ?_
  obtain ⟨⟨q, rfl, hq, hs⟩, k⟩ := q
  refine ⟨.ref q, rfl, rfl, by simp only [List.length_map]; exact Nat.le_trans hl (by decide), fun r hr => ⟨q, r, _, _, rfl, rfl, by rw [upd_ne (ne_of_none hq hr)]; exact hq, upd_same, by simp only [List.length_map]; exact Nat.le_trans (Nat.add_le_add hb hl) (by decide), fun t ht => k _ _ ⟨t, rfl, ?_, fun b o e => ?_⟩⟩⟩
  · rw [upd_same, List.map_append]
  · have e1 := hs b o e
    rw [upd_ne (fun z => by rw [z] at e1; rw [upd_ne (ne_of_none e1 hr)] at ht; rw [e1] at ht; cases ht), upd_ne (ne_of_none e1 hr)]
    exact e1
theorem s_names (G : KX X x p C) {s : Stmt} {H0 : Hp} {bs : List Bool} (h : namesB s = true) :
    PS X s (fun D σ H => KS H0 p.1 bs none σ H ∧ ∀ σ' H', KS H0 p.1 bs (some (.str kTxt)) σ' H' → D.nx σ' H') := by
  obtain ⟨p1, k, p2, p3, rfl⟩ := namesB_eq h
  refine (ps_set (i := 2) G.nd G.at.2.2.1 (.inl G.scs.1.2.2) pe_str rfl (.inr G.scs.1.2.2)).imp fun D σ H q => ?_
  obtain ⟨⟨q, rfl, hq, hs⟩, k⟩ := q
  exact k _ _ ⟨q, rfl, hq, hs⟩
end
end ZK
end
-- Z24
section
set_option Elab.async false
set_option linter.all false
set_option maxRecDepth 100000
set_option maxHeartbeats 4000000
/-! Z24: the return of _law_kin. -/
namespace ZK
open PySem PySem.Spec PyProof.Rows L2 HotX L2H ZH
open Z (sName sName_eq sCall sCall_eq sMeth sMeth_eq sConst sConst_eq sLst sLst_eq sBin sBin_eq sLc sLc_eq sTup sTup_eq glB visB plainN notStar notStar_eq)
theorem zipB_eq {e : Expr} (h : zipB e = true) : ∃ p1 a p2 p3, e = .Call (.Name "zip" p1) [a, .Name "_law_kinds" p2] [] p3 ∧ splitB a = true := by
  unfold zipB at h
  split at h
  · rename_i f a b hc
    obtain ⟨p, q, rfl⟩ := sCall_eq hc
    simp only [Bool.and_eq_true, beq_iff_eq] at h
    obtain ⟨⟨rfl, h2⟩, h3⟩ := h
    obtain ⟨p2, rfl⟩ := isN_eq h3
    exact ⟨p, a, p2, q, rfl, h2⟩
  · cases h
theorem pairB_eq {e : Expr} (h : pairB e = true) : ∃ p1 p2 k p3, e = .Tuple [.Name "_law_name" p1, .Name "_law_good" p2] k p3 := by
  unfold pairB at h
  split at h
  · rename_i a b hc
    obtain ⟨k, p, rfl⟩ := sTup_eq hc
    rw [Bool.and_eq_true] at h
    obtain ⟨p1, rfl⟩ := isN_eq h.1
    obtain ⟨p2, rfl⟩ := isN_eq h.2
    exact ⟨p1, p2, k, p, rfl⟩
  · cases h
theorem compB_eq {sc : Scope} {e : Expr} (h : compB sc e = true) : ∃ p1 tg iter p2 s p3, e = .ListComp (.Name "_law_name" p1) [⟨tg, iter, [.Name "_law_good" p2], 0⟩] s p3 ∧ scB sc s = true ∧ pairB tg = true ∧ zipB iter = true := by
  unfold compB at h
  split at h
  · rename_i x tg iter c s hc
    obtain ⟨p, rfl⟩ := sLc_eq hc
    simp only [Bool.and_eq_true] at h
    obtain ⟨⟨⟨⟨h1, h2⟩, h3⟩, h4⟩, h5⟩ := h
    obtain ⟨p1, rfl⟩ := isN_eq h2
    obtain ⟨p2, rfl⟩ := isN_eq h5
    exact ⟨p1, tg, iter, p2, s, p, rfl, h1, h3, h4⟩
  · cases h
theorem retB_eq {sc : Scope} {s : Stmt} (h : retB sc s = true) : ∃ k p1 p2 a p3 p4, s = .Return (some (.Call (.Attribute (.Constant (.str " ") k p1) "join" p2) [a] [] p3)) p4 ∧ (p2.endLine == p3.line) = true ∧ compB sc a = true := by
  unfold retB at h
  split at h
  · rename_i e hs
    obtain ⟨p, rfl⟩ := sRet_eq hs
    rw [Bool.and_eq_true] at h
    obtain ⟨h0, h⟩ := h
    split at h
    · rename_i o m a hm
      obtain ⟨p2, q, rfl⟩ := sMeth_eq hm
      simp only [Bool.and_eq_true, beq_iff_eq] at h
      obtain ⟨⟨h1, rfl⟩, h2⟩ := h
      obtain ⟨k, p1, rfl⟩ := isS_eq h1
      exact ⟨k, p1, p2, a, q, p, rfl, h0, h2⟩
    · cases h
  · cases h
theorem filt_snoc : ∀ (ws : List Str) (bs : List Bool) (i : Nat) (w : Str) (b : Bool), ws[i]? = some w → bs[i]? = some b → filt (ws.take (i + 1)) (bs.take (i + 1)) = filt (ws.take i) (bs.take i) ++ (match b with | true => [w] | false => [])
  | v :: ws, c :: bs, 0, w, b, h1, h2 => by
    simp only [List.getElem?_cons_zero, Option.some.injEq] at h1 h2
    subst h1 h2
    cases c <;> (simp [filt])
  | v :: ws, c :: bs, i + 1, w, b, h1, h2 => by
    have ih := filt_snoc ws bs i w b (by simpa using h1) (by simpa using h2)
    simp only [List.take_succ_cons]
    cases c
    · show filt _ _ = filt _ _ ++ _
      exact ih
    · show v :: filt _ _ = v :: filt _ _ ++ _
      rw [ih]; rfl
  | [], _, _, _, _, h1, _ => by simp at h1
  | _ :: _, [], _, _, _, _, h2 => by simp at h2
theorem filt_len : ∀ (ws : List Str) (bs : List Bool), (filt ws bs).length ≤ ws.length
  | [], [] => Nat.le_refl _
  | [], _ :: _ => Nat.le_refl _
  | _ :: _, [] => Nat.zero_le _
  | w :: ws, b :: bs => by
    have := filt_len ws bs
    cases b
    · show (filt ws bs).length ≤ _; simp; omega
    · show (w :: filt ws bs).length ≤ _; simp; omega
theorem filt_sum : ∀ (ws : List Str) (bs : List Bool), ((filt ws bs).map (·.length)).sum ≤ (ws.map (·.length)).sum
  | [], [] => Nat.le_refl _
  | [], _ :: _ => Nat.le_refl _
  | _ :: _, [] => Nat.zero_le _
  | w :: ws, b :: bs => by
    have := filt_sum ws bs
    cases b
    · show ((filt ws bs).map (·.length)).sum ≤ _; simp; omega
    · show ((w :: filt ws bs).map (·.length)).sum ≤ _; simp; omega
section
variable {X : Cx} {x : Str} {p : Addr × Obj} {C : Addr}
theorem s_ret (G : KX X x p C) {s : Stmt} {H0 : Hp} {bs : List Bool} (hb : bs.length = 17) (h : retB X.env.scope s = true) :
    PS X s (fun D σ H => KS H0 p.1 bs (some (.str kTxt)) σ H ∧ ∀ H', Z.Sub H0 H' → D.rt (.str (Txt.join " " (filt kWords bs))) H') := by
  obtain ⟨k, p1, p2, a, p3, p4, rfl, hline, hcomp⟩ := retB_eq h
  obtain ⟨q1, tg, iter, q2, sc, q3, rfl, hsc, htg, hit⟩ := compB_eq hcomp
  obtain ⟨r1, r2, kk, r3, rfl⟩ := pairB_eq htg
  obtain ⟨u1, sp, u2, u3, rfl, hsp⟩ := zipB_eq hit
  obtain ⟨v1, v2, vk, v3, v4, rfl, hl2⟩ := splitB_eq hsp
  unfold scB at hsc
  simp only [Bool.and_eq_true] at hsc
  obtain ⟨⟨hblk, hn1⟩, hn2⟩ := hsc
  have hn1 := lkL_eq hn1
  have hn2 := lkL_eq hn2
  have hsplit : PE X (.Call (.Attribute (.Name "_law_names" v1) "split" v2) [.Constant (.str " ") vk v3] [] v4) _ := pe_m1 F.slot_str_split F.type_str_split mt_split (pe_names G) pe_str rfl rfl hl2
  have hi := pi_zipB (X := X) (tpos := r3) (kk := kk) (elts := [.Name "_law_name" r1, .Name "_law_good" r2]) (p := u1) (pos := u3) (G.scs.2.1.2) G.kin.bz (pa_cons hsplit (pa_cons (pe_kinds G (q := u2)) pa_nil))
  have ok : BlkOk X.N X.env.scope sc ownK := by rw [G.eN]; exact blkOk_by hblk
  have hlc := pe_lcB (X := X) (g := gTup X.K 2 (gCons (gName 3) (gCons (gName 4) gNil))) (elt := .Name "_law_name" q1) (ifs := [.Name "_law_good" q2]) (pos := q3) G.hot G.nd hi ok
    (fun s H C' cl fp hot => pg_tupB (n := 2) hot (pgs_cons (pg_name G.nd G.at.2.2.2.1 (.inl hn1) (.inr hn1)) (pgs_cons (pg_name G.nd G.at.2.2.2.2 (.inl hn2) (.inr hn2)) pgs_nil)))
    (fun s H C' cl fp => pts_one (pt_val (pe_var G.at.2.2.2.2 (.inl hn2))))
    (fun s H C' cl fp => pe_var G.at.2.2.2.1 (.inl hn1))
  refine (ps_ret (pe_m1 F.slot_str_join F.type_str_join mt_join pe_str hlc rfl rfl hline)).imp fun D σ H q => ?_
  obtain ⟨⟨qk, rfl, hq, hs⟩, hk⟩ := q
  refine ⟨⟨" ", rfl⟩, .str kTxt, rfl, ⟨kTxt, rfl⟩, kTxt, " ", rfl, rfl, by decide +kernel, by decide +kernel, fun qs hqs => ?_⟩
  have hsplitE : Txt.split kTxt " " = kWords := by decide +kernel
  rw [hsplitE]
  have nk : qk ≠ qs := ne_of_none hq hqs
  refine ⟨.ref qk, rfl, qs, qk, kWords.map V.str, bs.map V.bl, rfl, SqL.of upd_same, SqL.of (by rw [upd_ne nk]; exact hq), fun D0 hD0 => ?_⟩
  have nDs : qs ≠ D0 := fun z => by rw [← z, upd_same] at hD0; cases hD0
  have nDk : qk ≠ D0 := fun z => by rw [← z, upd_ne nk, hq] at hD0; cases hD0
  have hS : ∀ b o, H0 b = some o → b ≠ D0 ∧ b ≠ qs := fun b o e => by
    have e1 := hs b o e
    have n1 : b ≠ qs := ne_of_none e1 hqs
    exact ⟨fun z => by (rw [← z, upd_ne n1, e1] at hD0; cases hD0), n1⟩
  have hw : kWords.length = 17 := by decide +kernel
  let inv : Nat → Hp → Prop := fun i H' => H' D0 = some (.lst ((filt (kWords.take i) (bs.take i)).map V.str)) ∧ H' qs = some (.lst (kWords.map V.str)) ∧ H' qk = some (.lst (bs.map V.bl)) ∧ Z.Sub H0 H'
  refine ⟨fun i m H' => m = 17 - i ∧ i ≤ 17 ∧ inv i H', ⟨17, rfl, Nat.zero_le _, ?_, ?_, ?_, ?_⟩, ?_⟩
  · rw [upd_same]; rfl
  · rw [upd_ne nDs, upd_same]
  · rw [upd_ne nDk, upd_ne nk]; exact hq
  · intro b o e
    rw [upd_ne (hS b o e).1, upd_ne (hS b o e).2]; exact hs b o e
  rintro i m H1 ⟨rfl, hi17, i1, i2, i3, i4⟩
  by_cases hlt : i < 17
  · have hx : (kWords.map V.str)[i]? = some (.str (kWords[i]'(by omega))) := by rw [List.getElem?_map, List.getElem?_eq_getElem (by omega)]; rfl
    have hy : (bs.map V.bl)[i]? = some (.bl (bs[i]'(by omega))) := by rw [List.getElem?_map, List.getElem?_eq_getElem (by omega)]; rfl
    refine .inr ⟨⟨_, _, _, _, SqL.of i2, SqL.of i3, hx, hy⟩, fun H' => i + 1 ≤ 17 ∧ inv (i + 1) H', fun H' hh => ⟨17 - (i + 1), by omega, rfl, hh⟩, fun v H2 yl => ?_⟩
    obtain ⟨T, x', y', rfl, hT, rfl, f1, f2⟩ := yl
    have ex := (f1 _ (SqL.of i2)).symm.trans hx
    have ey := (f2 _ (SqL.of i3)).symm.trans hy
    cases ex
    cases ey
    have nT : ∀ {b o}, H1 b = some o → b ≠ T := fun {b o} e => ne_of_none e hT
    have snoc := filt_snoc kWords bs i _ _ (List.getElem?_eq_getElem (by omega)) (List.getElem?_eq_getElem (by omega))
    have hfl : (filt (kWords.take i) (bs.take i)).length ≤ 17 := Nat.le_trans (filt_len _ _) (by rw [List.length_take]; omega)
    refine ⟨T, _, rfl, SqT.of upd_same, rfl, _, _, rfl, _, _, rfl, rfl, rfl, _, rfl, _, rfl, ?_⟩
    generalize hbb : (bs[i]'(by omega)) = bb at snoc ⊢
    cases bb with
    | false =>
      simp only [Bool.false_eq_true, if_false]
      simp only [List.append_nil] at snoc
      refine ⟨hlt, ?_, ?_, ?_, fun b o e => ?_⟩
      · rw [upd_ne (nT i1), snoc]; exact i1
      · rw [upd_ne (nT i2)]; exact i2
      · rw [upd_ne (nT i3)]; exact i3
      · rw [upd_ne (nT (i4 b o e))]; exact i4 b o e
    | true =>
      simp only [if_true]
      refine ⟨_, rfl, _, by rw [upd_ne (nT i1)]; exact i1, by rw [List.length_map]; exact Nat.lt_of_le_of_lt hfl (by decide), hlt, ?_, ?_, ?_, fun b o e => ?_⟩
      · rw [upd_same, snoc, List.map_append]; rfl
      · rw [upd_ne nDs, upd_ne (nT i2)]; exact i2
      · rw [upd_ne nDk, upd_ne (nT i3)]; exact i3
      · rw [upd_ne (hS b o e).1, upd_ne (nT (i4 b o e))]; exact i4 b o e
  · have e : i = 17 := by omega
    subst e
    refine .inl ⟨⟨_, _, SqL.of i2, SqL.of i3, .inl (by rw [List.length_map, hw]; exact Nat.le_refl _)⟩, " ", D0, filt kWords bs, rfl, rfl, .inl (SqL.of ?_), ?_, hk _ i4⟩
    · have e1 : kWords.take 17 = kWords := List.take_of_length_le (by rw [hw]; exact Nat.le_refl _)
      have e2 : bs.take 17 = bs := List.take_of_length_le (by omega)
      rw [e1, e2] at i1
      exact i1
    · have h1 := filt_len kWords bs
      have h2 := filt_sum kWords bs
      have h3 : (kWords.map (·.length)).sum ≤ 200 := by decide +kernel
      have h4 : (" " : Str).length = 1 := by decide +kernel
      rw [h4]
      omega
/-- the whole body -/
theorem s_kin (G : KX X x p C) {body : List Stmt} {H0 : Hp} (h : kinB X.env.scope body = true) :
    PSs X body (fun D σ H => σ = [some (.ref p.1), none, none, none, none] ∧ Z.Sub H0 H ∧ ∀ H', Z.Sub H0 H' → D.rt (.str (kTold x)) H') := by
  unfold kinB at h
  split at h
  · rename_i s1 s2 s3 s4 s5 s6 s7 s8
    simp only [Bool.and_eq_true] at h
    obtain ⟨⟨⟨⟨⟨⟨⟨h1, h2⟩, h3⟩, h4⟩, h5⟩, h6⟩, h7⟩, h8⟩ := h
    have sub : ∀ {l : List Str}, (l.all fun y => kAll.contains y) = true → ∀ y ∈ l, y ∈ kAll := fun {l} e y hy => List.contains_iff_mem.mp (List.all_eq_true.mp e y hy)
    have a1 := s_first (H0 := H0) G (sub (by decide +kernel)) (by decide) h1
    have a2 := s_more (H0 := H0) (bs := _) G (sub (by decide +kernel)) (by decide) (show (([("InvalidStory" : Str), "InvalidHours", "InvalidPerson"] : List Str).map (kb x)).length ≤ 17 by simp) h2
    have a3 := s_more (H0 := H0) (bs := _) G (sub (by decide +kernel)) (by decide) (show (([("InvalidStory" : Str), "InvalidHours", "InvalidPerson"] : List Str).map (kb x) ++ ([("InvalidLevel" : Str), "InvalidEvent", "InvalidOrder"] : List Str).map (kb x)).length ≤ 17 by simp) h3
    have a4 := s_more (H0 := H0) (bs := _) G (sub (by decide +kernel)) (by decide) (show (([("InvalidStory" : Str), "InvalidHours", "InvalidPerson"] : List Str).map (kb x) ++ ([("InvalidLevel" : Str), "InvalidEvent", "InvalidOrder"] : List Str).map (kb x) ++ ([("InvalidChain" : Str), "InvalidPlan", "InvalidClues"] : List Str).map (kb x)).length ≤ 17 by simp) h4
    have a5 := s_more (H0 := H0) (bs := _) G (sub (by decide +kernel)) (by decide) (show (([("InvalidStory" : Str), "InvalidHours", "InvalidPerson"] : List Str).map (kb x) ++ ([("InvalidLevel" : Str), "InvalidEvent", "InvalidOrder"] : List Str).map (kb x) ++ ([("InvalidChain" : Str), "InvalidPlan", "InvalidClues"] : List Str).map (kb x) ++ ([("InvalidFact" : Str), "InvalidIndex", "Unlike"] : List Str).map (kb x)).length ≤ 17 by simp) h5
    have a6 := s_more (H0 := H0) (bs := _) G (sub (by decide +kernel)) (by decide) (show (([("InvalidStory" : Str), "InvalidHours", "InvalidPerson"] : List Str).map (kb x) ++ ([("InvalidLevel" : Str), "InvalidEvent", "InvalidOrder"] : List Str).map (kb x) ++ ([("InvalidChain" : Str), "InvalidPlan", "InvalidClues"] : List Str).map (kb x) ++ ([("InvalidFact" : Str), "InvalidIndex", "Unlike"] : List Str).map (kb x) ++ ([("Contradiction" : Str), "NothingToUndo", "TooMany"] : List Str).map (kb x)).length ≤ 17 by simp) h6
    have a7 := s_names (H0 := H0) (bs := kAll.map (kb x)) G h7
    have a8 := s_ret (H0 := H0) (bs := kAll.map (kb x)) G (by simp [kAll]) h8
    have big := pss_cons a1 (pss_cons a2 (pss_cons a3 (pss_cons a4 (pss_cons a5 (pss_cons a6 (pss_cons a7 (pss_cons a8 pss_nil)))))))
    refine ⟨fun pins s σ H D I q => big.run pins s σ H D I ?_⟩
    obtain ⟨q1, q2, q3⟩ := q
    exact ⟨q1, q2, fun σ1 H1 k1 => ⟨k1, fun σ2 H2 k2 => ⟨k2, fun σ3 H3 k3 => ⟨k3, fun σ4 H4 k4 => ⟨k4, fun σ5 H5 k5 => ⟨k5, fun σ6 H6 k6 => ⟨k6, fun σ7 H7 k7 => ⟨k7, q3⟩⟩⟩⟩⟩⟩⟩⟩
  · cases h
end
end ZK
end
-- Z25
section
set_option Elab.async false
set_option linter.all false
set_option maxRecDepth 100000
set_option maxHeartbeats 4000000
/-! Z25: _law_kin called where its error is handled; several clauses that name their error. -/
namespace ZK
open PySem PySem.Spec PyProof.Rows L2 HotX L2H ZH
theorem run_ofH {CX : CXT} {P : Program} {w : World} {K : PySem.W.Frag} {mg : Str → Option Value} {base : Heap} {k : Nat} {f : Addr} {name qual : Str} {params : Arguments} {body : List Stmt} {scope : Scope} {dV kV doc pm cdv ct oc : Value} {an od : Option Addr}
    {osl : Array (Option Value)} {N ps : List Str} (lk : K.lookup f = some ⟨oc, od, .func (PySem.W.fnOf name qual params body scope dV kV doc pm an cdv ct), osl⟩) (hcd : PySem.W.codeIn K cdv qual = true) (S : FnScope N ps scope)
    {A : Around} {outer : List Env} {s : Shared} {H : Hp} {args : Args} {us : List Value} {vs : List V} {Q : VK} {E : XK} {p : Addr × Obj} (hr : RoomH (k + 1) A) (hot : Hot1 A p) (hpin : PinOk outer H s p) (e0 : Env0 P w K mg base A outer s H)
    (hb : BindsTo s (PySem.W.fnOf name qual params body scope dV kV doc pm an cdv ct) args (ps.zip us)) (r : Vals vs us) (hl : vs.length = ps.length)
    (hbody : RoomH k (A.deeper (envOfC qual scope s.heap.objs.size f cdv)) → ∃ t, PSs (cxH CX P w K mg base N qual scope f cdv A outer s H E p) body t ∧ t { nx := fun _ H' => Q .non H', rt := Q } (L2.start N vs) H) :
    codeAny (model P w) A (.call (.ref f) args) (CR CX outer P w H s Q E) s := by
  have KX : K.In s.heap := e0.mod.kin.keeps fun b o e => (e0.bs b o e).1
  have lim : s.heap.NoLimit := e0.mod.nolimit.keeps fun b o e => (e0.bs b o e).1
  have hkind : ∀ y ∈ ps.zip us, scope.names.lookup y.1 = some .local ∨ (scope.names.lookup y.1 = some .cell ∧ ((cellsFrom (s.heap.objs.size + 1) scope.names []).lookup y.1).isSome = true) := fun ⟨n, v⟩ hy => by
    rcases S.par n (List.of_mem_zip hy).1 with q | q
    · exact .inl q
    · exact .inr ⟨q, PySem.W.cellsFrom_some _ _ _ (.inl q)⟩
  refine codeAny_call_function hr.depth (KX _ _ lk) rfl S.co S.gen rfl (PySem.W.codeRec_of KX hcd) (hb _ _ _ _ ?_)
  refine wpAny_newFunctionEnv_cells S.kind hkind fun env he s1 x => ?_
  subst he
  refine ⟨lim.keeps x.toInCall.keep, codeAny_func ?_⟩
  obtain ⟨t, ht, hq⟩ := hbody (hr.deeper _)
  have I : Inv (cxH CX P w K mg base N qual scope f cdv A outer s H E p) [] (L2.start N vs) H s1 := inv_startH S hpin e0 hl r x
  refine wpAny_mono (ht.run [] s1 (L2.start N vs) H _ I hq) (fun fl s' hs => ?_) fun e s' hs => hs
  have fin : ∀ {σ' : St} {H' : Hp} {v : V} {u : Value}, Inv (cxH CX P w K mg base N qual scope f cdv A outer s H E p) [] σ' H' s' → RelV v u → Q v H' → CE outer P w H s Q u s' :=
    fun {σ' H' v u} J rv q => ⟨v, H', J.os, J.bare, J.base, J.hok, rv, q⟩
  cases fl with
  | ret u =>
    obtain ⟨v, σ', H', J, rv, q⟩ := hs
    exact fin J rv q
  | next =>
    obtain ⟨σ', H', J, q⟩ := hs
    exact fin (v := V.non) (u := Value.none) J rfl q
  | brk =>
    obtain ⟨_, _, _, q⟩ := hs
    exact False.elim q
  | cont =>
    obtain ⟨_, _, _, q⟩ := hs
    exact False.elim q
/-- what the head tells of _law_kin -/
structure KinF (K : PySem.W.Frag) (mg : Str → Option Value) (f : Addr) (fd : FuncData) (body : List Stmt) (scope : Scope) : Prop where
  fun_ : ∃ params dvs kws, FunD K "_law_kin" "_law_kin" params body scope dvs kws f fd
  name : mg "_law_kin" = some (.ref f)
  binds : L2.Binds K fd ["_law_e"] []
  sc : FnScope kNm ["_law_e"] scope
  kn : kinS scope = true
  bd : kinB scope body = true
theorem pe_kin {Y : Cx} {p : Addr × Obj} {x : Str} {C f : Addr} {fd : FuncData} {body : List Stmt} {scope : Scope} {k i : Nat} {q1 q2 q3 : Pos} (hot : Hot1 Y.A p) (hp : p ∈ Y.pn) (F : KinF Y.K Y.mg f fd body scope) (kc : KinC Y.K Y.mg x C) (zc : Zc (.ref C) none p.2) (fl : ∃ vs, p.2.data = .fields vs)
    (hr : RoomH (k + 1) Y.A) (hg : Gl Y "_law_kin") (hN : Y.N[i]? = some ("_law_e" : Str)) (hv : Vis Y.env.scope "_law_e") :
    PE Y (.Call (.Name "_law_kin" q1) [.Name "_law_e" q2] [] q3) (fun σ H Q => σ[i]? = some (some (.ref p.1)) ∧ ∀ H', Z.Sub H H' → Q (.str (kTold x)) H') := by
  refine ⟨fun pins s σ H Q I h => ?_⟩
  obtain ⟨hs, h⟩ := h
  obtain ⟨params, dvs, kws, FD⟩ := F.fun_
  obtain ⟨oc, od, dV, kV, doc, pm, an, cdv, ct, osl, rfl, lk, hcd, _, _⟩ := FD.ex
  refine wpAny_Call_Name_kw (ld_glob I hg F.name ?_ (by decide))
  have pa : PA Y [.Name "_law_e" q2] (tCons (tVar i) tNil) := pa_cons (pe_var hN hv) pa_nil
  refine PySem.W.callWith_K (h₀ := Y.base) I.ok.mod.kin FD.kp (thn (pa.run q3 pins s σ H (fun vs H1 => vs = [.ref p.1] ∧ H1 = H) I ⟨.ref p.1, hs, rfl, rfl⟩) fun us s1 ⟨vs, H1, I1, r, e1, e2⟩ => ⟨I1.kIn, ?_⟩) (by rfl) (by rfl)
  subst e1 e2
  have hl : us.length = 1 := by rw [← r.length]; rfl
  have b := F.binds s1 us I1.kIn (by rw [List.append_nil]; exact hl)
  rw [List.append_nil] at b
  have P1 := I1.pin p (List.mem_append_left _ hp)
  have hpin : PinOk Y.stack H1 s1 p := ⟨P1.1, P1.2.1, fun hm => (List.mem_cons.mp (I1.stkSub p.1 hm)).elim P1.2.2.1 P1.2.2.2.1, P1.2.2.2.2⟩
  have rc : codeAny (model Y.prog Y.w) Y.A (.call (.ref f) ⟨us, []⟩) (CR C8.CX0 Y.stack Y.prog Y.w H1 s1 Q C8.E0) s1 := by
    refine run_ofH (N := kNm) (ps := ["_law_e"]) (vs := [.ref p.1]) (p := p) lk hcd F.sc hr hot hpin I1.env0 b r rfl fun hr' => ?_
    have G : KX (cxH C8.CX0 Y.prog Y.w Y.K Y.mg Y.base kNm "_law_kin" scope f cdv Y.A Y.stack s1 H1 C8.E0 p) x p C :=
      ⟨⟨p, hot, List.mem_cons_self⟩, List.mem_cons_self, kc, zc, fl, rfl, F.kn⟩
    exact ⟨_, s_kin (H0 := H1) G F.bd, rfl, Z.Sub.refl _, fun H' hs' => h H' hs'⟩
  refine wpAny_call (codeAny_mono rc fun r s2 hq => ?_)
  cases r with
  | error e => exact (show False from hq).elim
  | ok fl =>
    cases fl with
    | ret u => exact I1.after hq
    | next => exact False.elim hq
    | brk => exact False.elim hq
    | cont => exact False.elim hq
def wManyA (K : PySem.W.Frag) (Wout : WX) (D : Ends) (i : Nat) : List (Value × (Addr → Value → Option Addr → TS)) → WX
  | [] => Wout
  | (c, ts) :: r => fun cls d σ H => ∃ b, PySem.W.exmOne K cls c = some b ∧ (b = true → ∀ a, H a = none → ts a cls d { nx := fun σ' H' => D.nx (σ'.set i none) H', rt := D.rt, bk := fun σ' H' => D.bk (σ'.set i none) H', ct := fun σ' H' => D.ct (σ'.set i none) H' } (σ.set i (some (.ref a))) H) ∧ (b = false → wManyA K Wout D i r cls d σ H)
inductive HdsOkA (X : Cx) (n : Str) : List ExceptHandler → List (Value × (Addr → Value → Option Addr → TS)) → Prop
  | nil : HdsOkA X n [] []
  | cons {x : Str} {c : Value} {ts : Addr → Value → Option Addr → TS} {b₀ : Stmt} {suite : List Stmt} {np pos' : Pos} {hds : List ExceptHandler} {l : List (Value × (Addr → Value → Option Addr → TS))} (hc : Names X x c)
      (hsu : ∀ (a : Addr) (oe : Obj) (cls : Value) (d : Option Addr) (pn : List (Addr × Obj)), L2N.Zn cls d oe → (∃ vs, oe.data = .fields vs) → PSs (X.suite a ((a, oe) :: pn)) (b₀ :: suite) (ts a cls d)) (r : HdsOkA X n hds l) :
      HdsOkA X n (.ExceptHandler (some (.Name x np)) (some n) (b₀ :: suite) pos' :: hds) ((c, ts) :: l)
theorem ps_try_manyA {X : Cx} {body : List Stmt} {h₀ : ExceptHandler} {hds : List ExceptHandler} {l : List (Value × (Addr → Value → Option Addr → TS))} {pos : Pos} {tb : WX → TS} {Wout : WX} {n : Str} {i : Nat} (hs : X.stack = X.env :: X.outer) (hf : X.env.frame = some X.env.locals) (hN : X.N.Nodup) (hi : X.N[i]? = some n) (hln : X.env.kindOf n = some .local) (tk : L2N.Takes X Wout)
    (hb : ∀ (W : WX) (pn : List (Addr × Obj)) (xe : Value → Shared → Prop), L2N.Takes (X.tr pn xe) W → PassesOwn (model X.prog X.w) X.A X.env xe → PSs (X.tr pn xe) body (tb W))
    (hh : HdsOkA X n (h₀ :: hds) l) : PS X (.Try body (h₀ :: hds) [] [] pos) (fun D σ H => tb (wManyA X.K Wout D i l) D σ H) := by
  refine ⟨fun pins s σ H D I h => ?_⟩
  have ok := I.ok
  have hloc : Loc X.env.scope n := .inl hln
  have hfr : X.A.frames = some (X.env :: X.outer) := by rw [ok.frames, hs]
  refine wpAny_Try_except ?_
  refine wpAny_mono ((hb (wManyA X.K Wout D i l) (X.pn ++ pins) (fun e s₁ => wpAny (model X.prog X.w) X.A (noteFrame e X.env) (fun _ s₂ => wpAny (model X.prog X.w) X.A (setFlight e none) (fun _ s₃ =>
    wpAny (model X.prog X.w) X.A (handleBy e X.env (h₀ :: hds)) (SP X pins D) X.xe s₃) X.xe s₂) X.xe s₁) (fun u s' xx => ?_) PassesOwn.looking).run [] s σ H D (I.toTry _) h) (fun f s1 hsp => ?_) (fun e s1 he => he)
  · -- the catch
    obtain ⟨a, B, sI, pins', σ', H', cls, d, rfl, J', nb, up, sky, na, os, ag, w⟩ := xx
    have J : Inv X pins σ' H' sI := J'.ofTry ok
    have sky' : Sky B (X.env :: X.outer) a (L2N.Zn cls d) X.env.locals s'.heap := by rw [← hs]; exact sky
    show wpAny (model X.prog X.w) X.A (noteFrame (.ref a) X.env) _ _ _
    refine L2N.Sky.land L2N.Zn.steady hfr hf sky' fun h3 fl3 up3 => ?_
    have J3 : Inv X pins σ' H' { s' with heap := h3 } := J.landed nb fl3.1 (up.trans up3) os ag
    obtain ⟨oe3, vs3, he3, hz3, hd3⟩ := fl3.there
    have notFr : ∀ {h : Heap} {o : Obj} {vs : Array Value}, h.FunFrames B (X.env :: X.outer) → h.get? a = some o → o.data = .fields vs → a ∉ frs (X.env :: X.outer) := fun {h o vs} ff e dd hm => by
      obtain ⟨_, o', e', hnf⟩ := ff.mem hm
      rw [e] at e'; cases e'
      exact hnf _ dd
    have nfr := notFr fl3.2.2.1 he3 hd3
    have nL : a ≠ X.env.locals := fun z => nfr (List.mem_filterMap.mpr ⟨X.env, List.mem_cons_self, by rw [hf, z]⟩)
    have nF : a ∉ X.fs := fun hm => by
      obtain ⟨e, he, q⟩ := List.mem_filterMap.mp hm
      exact nfr (List.mem_filterMap.mpr ⟨e, List.mem_cons_of_mem _ he, q⟩)
    have S3 := J3.suite he3 hd3 na nL nF
    have go : ∀ {hds' : List ExceptHandler} {l' : List (Value × (Addr → Value → Option Addr → TS))}, HdsOkA X n hds' l' → wManyA X.K Wout D i l' cls d σ' H' →
        wpAny (model X.prog X.w) X.A (handleBy (.ref a) X.env hds') (SP X pins D) X.xe { s' with heap := h3 } := by
      intro hds' l' hk
      induction hk with
      | nil =>
        intro w
        refine wpAny_handleBy_nil ?_
        obtain ⟨k1, k2, k3, oe, vs, T, oT, ts', he, hz, hd, h1, hr⟩ := id fl3
        unfold PySem.passOn
        refine wpAny_bind (wpAny_field he hd h1 ?_)
        rw [if_neg (show ¬ ((Value.ref T == Value.none) = true) from by simp)]
        have fin : wpAny (model X.prog X.w) X.A (setFlight (.ref a) X.env.frame) (fun _ s4 => wpAny (model X.prog X.w) X.A (throw (.ref a) : Sem Flow) (SP X pins D) X.xe s4) X.xe { s' with heap := h3 } := by
          rw [hf]
          refine HandSPX.setFlight_upZ fl3 fun h4 hh4 up4 => wpAny_throw (tk _ _ ?_)
          exact ⟨a, B, sI, pins, σ', H', cls, d, rfl, J, nb, (up.trans up3).trans up4, .inr (.inr (by rw [hs]; exact hh4)), na, os, ag, w⟩
        first
          | exact wpAny_bind (wpAny_pure (wpAny_bind fin))
          | exact wpAny_bind fin
      | @cons x c ts b₀ suite np pos' hds2 l2 hc hsu r ih =>
        intro w
        obtain ⟨b, hb1, hyes, hno⟩ := w
        refine wpAny_handleBy_cons (codeAny_handlers_test ?_) (by intro q; cases q)
        have LT : PySem.W.Looks (model X.prog X.w) h3 (typeOf (.ref a)) cls := fun A Q E s k q => wpAny_typeOf_ref (k _ _ he3) (by rw [hz3.1]; exact q)
        have LM := PySem.W.exm_one (M := model X.prog X.w) (J3.kIn) LT hb1
        have test : ∀ {Q : Value → Shared → Prop} {E : Value → Shared → Prop}, Q c { s' with heap := h3 } → wpAny (model X.prog X.w) (X.A.mark (some (.ref a))) (eval (.Name x np) X.env) Q E { s' with heap := h3 } := fun {Q E} q => by
          obtain ⟨hg, hdbg, hm | ⟨hm, hv, hnn⟩⟩ := hc
          · exact ld_glob (X := X.suite a ((a, oe3) :: (X.pn ++ pins))) S3 hg hm q hdbg
          · exact ld_blt (X := X.suite a ((a, oe3) :: (X.pn ++ pins))) S3 hg hm hv q hnn hdbg
        refine test (LM.here ?_)
        cases b with
        | true =>
          refine codeAny_handlers_suite_as ?_
          refine HandSPX.lands_againZ fl3 fun h4 fl4 up4 => ?_
          have J4 : Inv X pins σ' H' { s' with heap := h4 } := J.landed nb fl4.1 ((up.trans up3).trans up4) os ag
          obtain ⟨oe4, vs4, he4, hz4, hd4⟩ := fl4.there
          have S4 := J4.suite he4 hd4 na nL nF
          refine store_ok (X := X.suite a ((a, oe4) :: (X.pn ++ pins))) (v := .ref a) S4 hN hi hloc rfl (fun s5 S5 => ?_) (.inr hln)
          refine wpAny_mono ((hsu a oe4 cls d (X.pn ++ pins) hz4 ⟨_, hd4⟩).run [] s5 _ H' _ S5 (hyes rfl a na)) (fun f s6 hsp => ?_) (fun _ _ z => False.elim z)
          have end_ : ∀ {σ6 : St} {H6 : Hp} {Q : Shared → Prop}, Inv (X.suite a ((a, oe4) :: (X.pn ++ pins))) [] σ6 H6 s6 → (∀ s7, Inv X pins (σ6.set i none) H6 s7 → Q s7) →
              wpAny (model X.prog X.w) X.A (do bindName X.env n .none; unbindBehindTheSuite X.env n pos') (fun _ s7 => Q s7) X.xe s6 := fun {σ6 H6 Q} S6 hq => gone_ok (S6.unsuite ok) hN hi hln hq
          cases f with
          | next =>
            obtain ⟨σ6, H6, S6, q6⟩ := hsp
            exact end_ S6 fun s7 J7 => ⟨_, _, J7, q6⟩
          | brk =>
            obtain ⟨σ6, H6, S6, q6⟩ := hsp
            exact end_ S6 fun s7 J7 => ⟨_, _, J7, q6⟩
          | cont =>
            obtain ⟨σ6, H6, S6, q6⟩ := hsp
            exact end_ S6 fun s7 J7 => ⟨_, _, J7, q6⟩
          | ret u =>
            obtain ⟨v6, σ6, H6, S6, r6, q6⟩ := hsp
            exact end_ S6 fun s7 J7 => ⟨_, _, _, J7, r6, q6⟩
        | false =>
          show wpAny _ X.A (handleBy (.ref a) X.env hds2) _ _ _
          exact ih (hno rfl)
    exact go hh w
  · cases f with
    | next =>
      obtain ⟨σ', H', J', q⟩ := hsp
      exact wpAny_execs_nil ⟨σ', H', J'.ofTry ok, q⟩
    | brk =>
      obtain ⟨σ', H', J', q⟩ := hsp
      exact ⟨σ', H', J'.ofTry ok, q⟩
    | cont =>
      obtain ⟨σ', H', J', q⟩ := hsp
      exact ⟨σ', H', J'.ofTry ok, q⟩
    | ret u =>
      obtain ⟨v, σ', H', J', r, q⟩ := hsp
      exact ⟨v, σ', H', J'.ofTry ok, r, q⟩
end ZK
end
-- Z25l
section
set_option Elab.async false
set_option linter.all false
set_option maxRecDepth 100000
set_option maxHeartbeats 4000000
/-! Z25l: a lambda without parameters handed to a def; its errors' contexts are None; what stood stands. -/
namespace ZL
open PySem PySem.Spec PyProof.Rows L2
open LamX (CodeO TabS Tabs ExtN TabB inv_table codeO_ne among_app LamS lamEnv run_ofS)
/-- all but the tables stay, and what stood stands -/
structure ExtM (H H' : Hp) : Prop where
  n : ExtN H H'
  st : ∀ b, H b ≠ none → H' b ≠ none
theorem ExtM.refl (H : Hp) : ExtM H H := ⟨ExtN.refl H, fun _ h => h⟩
section
variable {X : Cx} {pins : List (Addr × Obj)} {σ : L2.St} {H : Hp} {s : Shared}
/-- the lambda is made: its code object is new, or found in the table -/
theorem lam_makeM {T : List (Addr × Str)} {c P : Addr} {params : Arguments} {body : Expr} {scope : Scope} {pos : Pos} {E : Value → Shared → Prop} {Q : Value → Shared → Prop} (I : Inv X pins σ H s) (TB : TabB X.base X.mg c P) (hcode : X.env.code = .ref c)
    (hm : (P, X.env.qual ++ "<lambda>") ∈ T) (hu : ∀ p ∈ T, p.1 = P → p.2 = X.env.qual ++ "<lambda>") (hT : Tabs T H) (hdef : defaultsOf params X.env = ([], [])) (hfree : ∀ y ∈ scope.names, y.2 = .free → ∃ c, X.env.cells.lookup y.1 = some c)
    (h : ∀ (f c' : Addr) (pm ctv : Value) (H1 : Hp) (s' : Shared), Inv X pins σ H1 s' → ExtM H H1 → Tabs T H1 →
      s'.heap.get? f = some (PySem.W.kla_obj "<lambda>" (X.env.qual ++ "<lambda>") params body scope (cloFrom X.env.cells scope.names []) pm c' ctv) → H1 f = none → f ∉ frs X.stack → H1 c' = some (CodeO c' (X.env.qual ++ "<lambda>")) → Q (.ref f) s') :
    wpAny (model X.prog X.w) X.A (eval (.Lambda params body scope pos) X.env) Q E s := by
  obtain ⟨ps, hP, ht, ha⟩ := hT _ hm
  refine PySem.W.kla_eval hdef ?_
  have bP : s.heap.BuiltinsAt X.mg P := TB.bm.keeps I.bk
  have hP' : s.heap.get? P = some { cls := .none, data := .fields ps } := I.hok P _ hP
  have nofr : ∀ f, s.heap.objs.size ≤ f → f ∉ frs X.stack := fun f hf z => by
    rcases List.mem_cons.mp (I.stkSub _ z) with e | e
    · have h1 := I.lt
      rw [← e] at h1
      exact Nat.lt_irrefl _ (Nat.lt_of_lt_of_le h1 hf)
    · exact I.nofs hf e
  cases hc : codeAmong pos ps.toList with
  | none =>
    refine PySem.W.kla_makeFunction (mg := X.mg) (c := c) (P := P) (ps := ps) (closure_ok hfree) I.ok.glob (I.mod.glob.keeps I.bk) hcode (TB.code.keeps I.bk) hP' ht hc TB.gP bP fun c' ctv h' tk hx hge hlt hrec htb => ?_
    obtain ⟨c2, oc, vs, t, e2, hoc, hd, hv⟩ := hrec
    cases e2
    have hsz : s.heap.objs.size ≤ h'.objs.size := Nat.le_trans hge (Nat.le_of_lt hlt)
    have nC : H c' = none := I.hok.fresh hge
    have I1 := inv_table (t' := tk) (more := #[rawInt pos.line, rawInt pos.col, .ref c']) (h' := h'.push (PySem.W.kla_obj "<lambda>" (X.env.qual ++ "<lambda>") params body scope (cloFrom X.env.cells scope.names []) ((X.mg "__name__").getD .none) c' ctv)) I hP
      (fun b o hb e => Heap.get?_push_of_some _ (hx b o hb e)) (Heap.get?_push_of_some _ htb) hge ⟨oc, vs, t, Heap.get?_push_of_some _ hoc, hd, hv⟩
    have hE : ExtN H (upd (upd H P (.tbl (ps ++ #[rawInt pos.line, rawInt pos.col, .ref c']))) c' (CodeO c' (X.env.qual ++ "<lambda>"))) := fun b o e n => by
      rw [upd_ne (ne_of_none e nC), upd_ne (fun z => n ps (Option.some.inj (e.symm.trans (by rw [z]; exact hP))))]
      exact e
    have hS : ∀ b, H b ≠ none → (upd (upd H P (.tbl (ps ++ #[rawInt pos.line, rawInt pos.col, .ref c']))) c' (CodeO c' (X.env.qual ++ "<lambda>"))) b ≠ none := fun b hb => by
      rw [upd_ne (fun z => hb (by rw [z]; exact nC))]
      by_cases z : b = P
      · rw [z, upd_same]; exact fun q => nomatch q
      · rw [upd_ne z]; exact hb
    have eL : (ps ++ #[rawInt pos.line, rawInt pos.col, .ref c']).toList = ps.toList ++ [rawInt pos.line, rawInt pos.col, .ref c'] := by simp
    refine h h'.objs.size c' ((X.mg "__name__").getD .none) ctv _ _ I1 ⟨hE, hS⟩ (fun p hp => ?_) (Heap.get?_push_size _ rfl) ?_ (nofr _ hsz) upd_same
    · by_cases hb : p.1 = P
      · rw [hu p hp hb, hb]
        refine ⟨_, by rw [upd_ne (ne_of_none hP nC), upd_same], by rw [eL]; exact PySem.TriplesOk_snoc _ _ _ _ ht, fun p' cv hcv => ?_⟩
        rw [eL] at hcv
        rcases among_app _ ht hcv with z | z
        · obtain ⟨c0, e1, e2⟩ := ha p' cv z
          exact ⟨c0, e1, hE _ _ e2 codeO_ne⟩
        · exact ⟨c', z, upd_same⟩
      · obtain ⟨ps', a1, a2, a3⟩ := hT p hp
        refine ⟨ps', by rw [upd_ne (ne_of_none a1 nC), upd_ne hb]; exact a1, a2, fun p' cv hcv => ?_⟩
        obtain ⟨c0, e1, e2⟩ := a3 p' cv hcv
        exact ⟨c0, e1, hE _ _ e2 codeO_ne⟩
    · have n1 : h'.objs.size ≠ c' := Nat.ne_of_gt hlt
      have n2 : h'.objs.size ≠ P := Nat.ne_of_gt (Nat.lt_of_lt_of_le (Heap.lt_size hP') hsz)
      rw [upd_ne n1, upd_ne n2]
      exact I.hok.fresh hsz
  | some cv =>
    obtain ⟨c', e, hco⟩ := ha pos cv hc
    subst e
    refine PySem.W.kla_makeFunctionHit (mg := X.mg) (c := c) (P := P) (ps := ps) (closure_ok hfree) I.ok.glob (I.mod.glob.keeps I.bk) hcode (TB.code.keeps I.bk) hP' ht hc bP fun ctv h' tk hx hsz => ?_
    have I1 : Inv X pins σ H { s with heap := h'.push (PySem.W.kla_obj "<lambda>" (X.env.qual ++ "<lambda>") params body scope (cloFrom X.env.cells scope.names []) ((X.mg "__name__").getD .none) c' ctv), toks := tk } := I.kept fun b o e => Heap.get?_push_of_some _ (hx b o e)
    exact h h'.objs.size c' ((X.mg "__name__").getD .none) ctv H _ I1 (ExtM.refl H) hT (Heap.get?_push_size _ rfl) (I.hok.fresh hsz) (nofr _ hsz) hco
end
/-- the context of the lambda's body, entered at s from the frames outer -/
def lamCx (X : Cx) (A : Around) (outer : List Env) (s : Shared) (H : Hp) (E : XK) (scope : Scope) (f c' : Addr) : Cx where
  prog := X.prog
  w := X.w
  K := X.K
  mg := X.mg
  base := X.base
  A := A.deeper (lamEnv X scope s.heap.objs.size f c')
  N := X.N
  s_0 := s
  H_0 := H
  env := lamEnv X scope s.heap.objs.size f c'
  outer := outer
  stack := lamEnv X scope s.heap.objs.size f c' :: outer
  ex := []
  fn := fun _ => false
  calm := true
  pn := []
  xe := fun e s' => wpAny (model X.prog X.w) (A.deeper (lamEnv X scope s.heap.objs.size f c')) (leaving (lamEnv X scope s.heap.objs.size f c') e) (fun _ s'' => L2N.CX X.prog X.w outer H s E e s'') (fun e' s'' => L2N.CX X.prog X.w outer H s E e' s'') s'
section
variable {X : Cx} {pins : List (Addr × Obj)} {σ : L2.St} {H HZ : Hp} {s s1 : Shared}
theorem lam_start2 {A : Around} {outer : List Env} {E : XK} {scope : Scope} {f c' : Addr} {h₁ : Heap} {tk : Nat} (I : Inv X pins σ H s) (L : LamS X.env.scope scope) (e0 : Env0 X.prog X.w X.K X.mg X.base A outer s1 HZ) (hd : A.handled = none)
    (un : Un (frs X.stack) [] H HZ s.heap s1.heap) (hns : h₁.Ns s1.heap.objs.size fun y => ([] : List (Str × Value)).reverse.lookup y) (kp : ∀ b o, s1.heap.get? b = some o → h₁.get? b = some o) :
    Inv (lamCx X A outer s1 HZ E scope f c') [] σ HZ { s1 with heap := h₁, toks := tk } := by
  have hfree := L.has I.ok
  have cm : ∀ {y c}, (cloFrom X.env.cells scope.names []).lookup y = some c → X.env.cells.lookup y = some c := fun {y c} e => by
    rcases cloFrom_mem (PySem.mem_of_lookup e) with hm | ⟨h1, h2⟩
    · cases hm
    · obtain ⟨c1, hc⟩ := hfree _ h1 rfl
      have hc : X.env.cells.lookup y = some c1 := hc
      have e2 : c = c1 := by
        rw [h2, hc] <;> rfl
      rw [e2]
      exact hc
  have look : ∀ {y}, scope.names.lookup y = some .free → ∃ c, (cloFrom X.env.cells scope.names []).lookup y = some c := fun {y} hl => by
    have hy : (y, NameKind.free) ∈ scope.names := PySem.mem_of_lookup hl
    exact mem_lookup (cloFrom_has (cells := X.env.cells) (acc := []) hy)
  have cellK : ∀ {c : Addr} {v : Option Value}, H c = none → s.heap.IsCell c v → h₁.IsCell c v := fun {c v} n ⟨o, ho, hd⟩ => by
    obtain ⟨sl, q⟩ := un.any ho n (by simp)
    exact ⟨_, kp _ _ q, hd⟩
  have noA : ∀ b : Addr, b ∉ (lamCx X A outer s1 HZ E scope f c').ex := fun b z => absurd (show b ∈ ([] : List Addr) from z) (by simp)
  refine ⟨⟨e0.mod, L.kind, rfl, rfl, Nat.le_refl _, fun y z c e1 e2 => I.ok.inj y z c (cm e1) (cm e2), fun y hy => ?_, fun y c z _ => ?_, fun _ => hd, Around.frames_deeper e0.frames, .inr ⟨rfl, rfl⟩, fun b z => absurd z (noA b), e0.bs, e0.bsz, fun b _ _ => noA b,
      fun b z => absurd z (noA b), e0.funs, e0.frf⟩,
    rfl, e0.bare, Un.kept kp, ⟨_, hns, fun i y v e1 e2 e3 => ?_⟩, fun y c e => ?_, e0.hok.fresh (Nat.le_refl _), fun y c e => ?_, fun q hq => absurd (show q ∈ ([] : List (Addr × Obj)) ++ [] from hq) (by simp), e0.hok.kept kp, I.len⟩
  · have hy : scope.names.lookup y = some .cell ∨ scope.names.lookup y = some .free := hy
    rcases hy with hy | hy
    · exact absurd rfl (L.own _ (PySem.mem_of_lookup hy)).2
    · exact look hy
  · have z : false = true := z
    cases z
  · have e3 : Vis scope y := e3
    rcases e3 with k | k | k
    · exact absurd rfl (L.own _ (PySem.mem_of_lookup k)).1
    · exact absurd rfl (L.own _ (PySem.mem_of_lookup k)).2
    · obtain ⟨m, hn, hl⟩ := I.loc
      have hvis : Vis X.env.scope y := (L.free _ (PySem.mem_of_lookup k) rfl).elim (fun k => .inr (.inl k)) (fun k => .inr (.inr k))
      obtain ⟨w', r, q⟩ := hl i y v e1 e2 hvis
      obtain ⟨c2, h2⟩ := look k
      refine ⟨w', r, .inr ⟨.inr k, c2, h2, ?_⟩⟩
      have c1 := cm h2
      rcases q with ⟨k', _⟩ | ⟨_, c3, e', z⟩
      · have k' : X.env.scope.names.lookup y = some .local := k'
        rcases L.free _ (PySem.mem_of_lookup k) rfl with k2 | k2 <;> rw [show X.env.scope.names.lookup y = _ from k2] at k' <;> cases k'
      · rw [c1] at e'
        cases e'
        exact cellK (I.freeC y _ c1) z
  · obtain ⟨w', z⟩ := I.cell y c (cm e)
    exact ⟨w', cellK (I.freeC y c (cm e)) z⟩
  · obtain ⟨v, o, ho, hd⟩ := I.cell y c (cm e)
    exact un.free c o ho (I.freeC y c (cm e)) (by simp)
/-- x(), in the def that got the lambda: Z is that def's context, entered at s -/
theorem pe_act {CXg : CXT} {Eg : XK} {Ng : List Str} {qg : Str} {sg : Scope} {g f c' : Addr} {cdg pm ctv : Value} {params : Arguments} {body : Expr} {scope : Scope} {k i : Nat} {a : Str} {pn : List (Addr × Obj)} {xe : Value → Shared → Prop} {W : WX} {E : XK} {tb : TE} {p1 p2 : Pos}
    (I : Inv X pins σ H s) (L : LamS X.env.scope scope) (hf : s.heap.get? f = some (PySem.W.kla_obj "<lambda>" (X.env.qual ++ "<lambda>") params body scope (cloFrom X.env.cells scope.names []) pm c' ctv)) (hfn : H f = none) (hfr : f ∉ frs X.stack)
    (hbind : bindArgs (PySem.W.kla_fn "<lambda>" (X.env.qual ++ "<lambda>") params body scope (cloFrom X.env.cells scope.names []) pm (.ref c') ctv) ⟨[], []⟩ = pure [])
    (tk : L2N.Takes ((cxOf CXg X.prog X.w X.K X.mg X.base Ng qg sg g cdg X.A X.stack s H Eg).tr pn xe) W) (hW : ∀ cls d σ' H', E cls d H' → W cls d σ' H') (hr : Room (k + 1) (X.A.deeper (envOfC qg sg s.heap.objs.size g cdg)))
    (hbody : ∀ (A : Around) (outer : List Env) (s : Shared) (H : Hp), Room k (A.deeper (lamEnv X scope s.heap.objs.size f c')) → PE (lamCx X A outer s H E scope f c') body tb)
    (hN : Ng[i]? = some a) (hv : Vis sg a) (hd : (a == ("__debug__" : Str)) = false := by decide) (hcd : (a == ("__classdict__" : Str)) = false := by decide) :
    PE ((cxOf CXg X.prog X.w X.K X.mg X.base Ng qg sg g cdg X.A X.stack s H Eg).tr pn xe) (.Call (.Name a p1) [] [] p2)
      (fun σZ HZ Q => σZ[i]? = some (some (.ref f)) ∧ HZ c' = some (CodeO c' (X.env.qual ++ "<lambda>")) ∧ tb σ HZ Q) := by
  refine ⟨fun pinsZ sZ σZ HZ Q IZ h => ?_⟩
  obtain ⟨hs, hc, ht⟩ := h
  refine wpAny_Call_Name_kw (thn ((pe_var (pos := p1) (i := i) hN hv hd hcd).run pinsZ sZ σZ HZ (fun v H1 => v = .ref f ∧ H1 = HZ) IZ ⟨.ref f, hs, rfl, rfl⟩) fun u s1 ⟨v, H1, I1, r1, q1⟩ => ?_)
  obtain ⟨ev, eH⟩ := q1
  subst ev
  rw [eH] at I1
  obtain rfl : u = Value.ref f := r1
  have of1 : s1.heap.get? f = some (PySem.W.kla_obj "<lambda>" (X.env.qual ++ "<lambda>") params body scope (cloFrom X.env.cells scope.names []) pm c' ctv) := I1.base.keep f _ hf hfn hfr (fun z => nomatch (show f ∈ ([] : List Addr) from z))
  refine PySem.W.callWith_F0 ⟨_, _, _, _, of1⟩ ?_
  have un : Un (frs X.stack) [] H HZ s.heap s1.heap := I1.base
  obtain ⟨⟨oc, vs, t, hoc, hdc, hvc⟩, _, _⟩ := I1.hok c' _ hc
  have rc : codeAny (model X.prog X.w) (X.A.deeper (envOfC qg sg s.heap.objs.size g cdg)) (.call (.ref f) ⟨[], []⟩) (CR (L2N.CX X.prog X.w) (envOfC qg sg s.heap.objs.size g cdg :: X.stack) X.prog X.w HZ s1 Q E) s1 := by
    refine PySem.W.kla_callFunE hr.depth of1 rfl L.co L.gen rfl ⟨c', oc, vs, t, rfl, hoc, hdc, hvc⟩ ?_
    rw [hbind]
    refine wpAny_pure (wpAny_newFunctionEnv (fun y hy => (L.own y hy).2) (fun y hy => absurd hy (by simp)) (fun h₁ hns hsb => ⟨I1.nolimit.fresh _ hsb, ?_⟩) L.kind)
    show codeAny _ _ (.expr body (lamEnv X scope s1.heap.objs.size f c')) _ _
    have kp : ∀ b o, s1.heap.get? b = some o → h₁.get? b = some o := fun b o e => hsb.extBut b o (Nat.ne_of_lt (Heap.lt_size e)) (Heap.get?_push_of_some _ e)
    have J : Inv (lamCx X (X.A.deeper (envOfC qg sg s.heap.objs.size g cdg)) (envOfC qg sg s.heap.objs.size g cdg :: X.stack) s1 HZ E scope f c') [] σ HZ { s1 with heap := h₁, toks := s1.toks + ([] : List (Str × Value)).length } :=
      lam_start2 I L I1.env0 hr.hd un hns kp
    refine PySem.W.kla_codeExpr (wpAny_mono ((hbody _ _ s1 HZ (hr.deeper _)).run [] _ _ HZ Q J ht) (fun v s' hq => ?_) fun e s' hq => hq)
    obtain ⟨w', H', J', rv, q⟩ := hq
    exact ⟨w', H', J'.os, J'.bare, J'.base, J'.hok, rv, q⟩
  have hx : Passes (L2N.CX X.prog X.w) ((cxOf CXg X.prog X.w X.K X.mg X.base Ng qg sg g cdg X.A X.stack s H Eg).tr pn xe) E := L2N.passes_call tk hW
  refine wpAny_call (codeAny_mono rc fun r s' hq => ?_)
  cases r with
  | error e => exact hx pinsZ σZ HZ s1 e s' I1 hq
  | ok fl =>
    cases fl with
    | ret u => exact I1.after hq
    | next => exact False.elim hq
    | brk => exact False.elim hq
    | cont => exact False.elim hq
end
/-- the def that calls what it got: a calls it; TT: what it makes of the lambda's reading -/
def GivesTo (X : Cx) (Ng : List Str) (x : Str) (sg : Scope) (g : Addr) (cdg : Value) (bg : List Stmt) (a : Str) (q : Str) (TT : (XK → Hp → VK → Prop) → Hp → VK → Prop) : Prop :=
  ∀ (f c' : Addr) (s : Shared) (H : Hp) (Q : VK) (tl : XK → Hp → VK → Prop),
    (∀ (W : WX) (pn : List (Addr × Obj)) (xe : Value → Shared → Prop) (E : XK) (p1 p2 : Pos), L2N.Takes ((cxOf C8.CX0 X.prog X.w X.K X.mg X.base Ng x sg g cdg X.A X.stack s H C8.E0).tr pn xe) W → (∀ cls d σ' H', E cls d H' → W cls d σ' H') →
      PE ((cxOf C8.CX0 X.prog X.w X.K X.mg X.base Ng x sg g cdg X.A X.stack s H C8.E0).tr pn xe) (.Call (.Name a p1) [] [] p2) (fun σZ HZ Q => σZ[0]? = some (some (.ref f)) ∧ HZ c' = some (CodeO c' q) ∧ tl E HZ Q)) →
    H c' = some (CodeO c' q) → TT tl H Q →
    ∃ t, PSs (cxOf C8.CX0 X.prog X.w X.K X.mg X.base Ng x sg g cdg X.A X.stack s H C8.E0).nox bg t ∧ t { nx := fun _ H' => Q .non H', rt := Q } (L2.start Ng [.ref f]) H
def tLam (T : List (Addr × Str)) (TT : (XK → Hp → VK → Prop) → Hp → VK → Prop) (t : XK → TE) : TE := fun σ H Q => Tabs T H ∧ ∀ H1, ExtM H H1 → Tabs T H1 → TT (fun E H' Q' => t E σ H' Q') H1 Q
section
variable {X : Cx}
/-- x(lambda: body) -/
theorem pe_lamcall {T : List (Addr × Str)} {TT : (XK → Hp → VK → Prop) → Hp → VK → Prop} {x a : Str} {g c P : Addr} {k : Nat} {pg : Arguments} {bg : List Stmt} {sg : Scope} {dV kV doc pm cdv ct oc : Value} {an od : Option Addr} {osl : Array (Option Value)} {Ng : List Str}
    {params : Arguments} {body : Expr} {scope : Scope} {t : XK → TE} {p lpos pos : Pos} (hg : Gl X x) (hm : X.mg x = some (.ref g)) (hk : PySem.W.keepIn X.K (.ref g) = true)
    (lk : X.K.lookup g = some ⟨oc, od, .func (PySem.W.fnOf x x pg bg sg dV kV doc pm an cdv ct), osl⟩) (hcg : PySem.W.codeIn X.K cdv x = true) (hb : L2.Binds X.K (PySem.W.fnOf x x pg bg sg dV kV doc pm an cdv ct) [a] []) (Sg : FnScope Ng [a] sg) (hNg : Ng[0]? = some a) (hva : Vis sg a)
    (hG : GivesTo X Ng x sg g cdv bg a (X.env.qual ++ "<lambda>") TT)
    (TB : TabB X.base X.mg c P) (hcode : X.env.code = .ref c) (hmT : (P, X.env.qual ++ "<lambda>") ∈ T) (hu : ∀ p ∈ T, p.1 = P → p.2 = X.env.qual ++ "<lambda>") (hr : Room (k + 2) X.A) (L : LamS X.env.scope scope) (hdef : defaultsOf params X.env = ([], []))
    (hbind : ∀ (q : Str) (cl : List (Str × Addr)) (pm cv ctv : Value), bindArgs (PySem.W.kla_fn "<lambda>" q params body scope cl pm cv ctv) ⟨[], []⟩ = pure [])
    (hbody : ∀ (A : Around) (outer : List Env) (s : Shared) (H : Hp) (E : XK) (f c' : Addr), Room k (A.deeper (lamEnv X scope s.heap.objs.size f c')) → PE (lamCx X A outer s H E scope f c') body (t E))
    (hdb : (x == ("__debug__" : Str)) = false := by decide) (hd : (a == ("__debug__" : Str)) = false := by decide) (hcd : (a == ("__classdict__" : Str)) = false := by decide) :
    PE X (.Call (.Name x p) [.Lambda params body scope lpos] [] pos) (tLam T TT t) := by
  refine ⟨fun pins s σ H Q I h => ?_⟩
  obtain ⟨hT, h⟩ := h
  refine wpAny_Call_Name_kw (ld_glob I hg hm ?_ hdb)
  refine PySem.W.callWith_K (h₀ := X.base) I.ok.mod.kin hk ?_ (by rfl) (by rfl)
  show wpAny _ _ (spliced ((false, eval (.Lambda params body scope lpos) X.env) :: backTo pos (starEach [] X.env))) _ _ s
  refine Calls.spliced_cons (lam_makeM I TB hcode hmT hu hT hdef (L.has I.ok) fun f c' pm' ctv H1 s' I1 eN T1 hf hfn hfr hco => ?_)
  refine Calls.spliced_nil ⟨I1.kIn, ?_⟩
  have rc : codeAny (model X.prog X.w) X.A (.call (.ref g) ⟨[.ref f], []⟩) (CR C8.CX0 X.stack X.prog X.w H1 s' Q C8.E0) s' := by
    refine run_ofS (N := Ng) (ps := [a]) (us := [.ref f]) (vs := [.ref f]) lk hcg Sg hr I1.env0 (hb s' [.ref f] I1.kIn rfl) (.cons rfl .nil) rfl fun hr' => ?_
    obtain ⟨t', ht', hq'⟩ := hG f c' s' H1 Q (fun E H' Q' => t E σ H' Q') (fun W pn xe E p1 p2 tk hW => pe_act (i := 0) I1 L hf hfn hfr (hbind _ _ _ _ _) tk hW hr' (fun A outer s H hr2 => hbody A outer s H E f c' hr2) hNg hva hd hcd) hco (h H1 eN T1)
    exact ⟨t', ht'.nox, hq'⟩
  refine wpAny_call (codeAny_mono rc fun r s2 hq => ?_)
  cases r with
  | error e => exact (show False from hq).elim
  | ok fl =>
    cases fl with
    | ret u => exact I1.after hq
    | next => exact False.elim hq
    | brk => exact False.elim hq
    | cont => exact False.elim hq
end
end ZL
end
-- Z26
section
set_option Elab.async false
set_option linter.all false
set_option maxRecDepth 100000
set_option maxHeartbeats 4000000
/-! Z26: _law_try's body. -/
namespace ZK
open PySem PySem.Spec PyProof.Rows L2 HotX L2H ZH
open Z (sName sName_eq sCall sCall_eq sMeth sMeth_eq sConst sConst_eq sLst sLst_eq sBin sBin_eq sLc sLc_eq sTup sTup_eq glB visB plainN notStar notStar_eq)
def tNm : List Str := ["_law_call_so", "_law_found", "_law_e"]
def kErr : List Str := ["InvalidStory", "InvalidHours", "InvalidPerson", "InvalidLevel", "InvalidEvent", "InvalidOrder", "InvalidChain", "InvalidPlan", "InvalidClues", "InvalidFact", "InvalidIndex", "Unlike", "Contradiction", "NothingToUndo"]
def sTry : Stmt → Option (List Stmt × List ExceptHandler)
  | .Try b h [] [] _ => some (b, h)
  | _ => none
theorem sTry_eq {s : Stmt} {b : List Stmt} {h : List ExceptHandler} (e : sTry s = some (b, h)) : ∃ p, s = .Try b h [] [] p := by
  unfold sTry at e
  split at e
  · cases e; exact ⟨_, rfl⟩
  · cases e
def sEh : ExceptHandler → Option (Expr × Str × List Stmt)
  | .ExceptHandler (some e) (some n) b _ => some (e, n, b)
  | _ => none
theorem sEh_eq {h : ExceptHandler} {e : Expr} {n : Str} {b : List Stmt} (q : sEh h = some (e, n, b)) : ∃ p, h = .ExceptHandler (some e) (some n) b p := by
  unfold sEh at q
  split at q
  · cases q; exact ⟨_, rfl⟩
  · cases q
def sCall0 : Expr → Option Expr
  | .Call f [] [] _ => some f
  | _ => none
theorem sCall0_eq {e f : Expr} (h : sCall0 e = some f) : ∃ p, e = .Call f [] [] p := by
  unfold sCall0 at h
  split at h
  · cases h; exact ⟨_, rfl⟩
  · cases h
def ehB (x : Str) (h : ExceptHandler) : Bool := match sEh h with
  | some (e, n, _ :: _) => isN x e && (n == "_law_e")
  | _ => false
theorem ehB_eq {x : Str} {h : ExceptHandler} (q : ehB x h = true) : ∃ p1 b l p2, h = .ExceptHandler (some (.Name x p1)) (some "_law_e") (b :: l) p2 := by
  unfold ehB at q
  split at q
  · rename_i e n b l he
    obtain ⟨p, rfl⟩ := sEh_eq he
    simp only [Bool.and_eq_true, beq_iff_eq] at q
    obtain ⟨q1, rfl⟩ := q
    obtain ⟨p1, rfl⟩ := isN_eq q1
    exact ⟨p1, b, l, p, rfl⟩
  · cases q
def kinCB (e : Expr) : Bool := match sCall e with
  | some (f, [a]) => (f == "_law_kin") && isN "_law_e" a
  | _ => false
def ehK (h : ExceptHandler) : Bool := match sEh h with
  | some (e, n, [s]) => isN "TaleError" e && (n == "_law_e") && (match sAs1 s with
    | some (t, c) => isN "_law_found" t && kinCB c
    | none => false)
  | _ => false
theorem ehK_eq {h : ExceptHandler} (q : ehK h = true) : ∃ p1 p2 p3 p4 p5 p6 p7, h = .ExceptHandler (some (.Name "TaleError" p1)) (some "_law_e") [.Assign [.Name "_law_found" p2] (.Call (.Name "_law_kin" p3) [.Name "_law_e" p4] [] p5) p6] p7 := by
  unfold ehK at q
  split at q
  · rename_i e n s he
    obtain ⟨p, rfl⟩ := sEh_eq he
    simp only [Bool.and_eq_true, beq_iff_eq] at q
    obtain ⟨⟨q1, rfl⟩, q2⟩ := q
    obtain ⟨p1, rfl⟩ := isN_eq q1
    split at q2
    · rename_i t c hs
      obtain ⟨p6, rfl⟩ := sAs1_eq hs
      rw [Bool.and_eq_true] at q2
      obtain ⟨p2, rfl⟩ := isN_eq q2.1
      have q3 := q2.2
      unfold kinCB at q3
      split at q3
      · rename_i f a hc
        obtain ⟨p3, p5, rfl⟩ := sCall_eq hc
        simp only [Bool.and_eq_true, beq_iff_eq] at q3
        obtain ⟨rfl, q4⟩ := q3
        obtain ⟨p4, rfl⟩ := isN_eq q4
        exact ⟨p1, p2, p3, p4, p5, p6, p, rfl⟩
      · cases q3
    · cases q2
  · cases q
def toldB (s : Stmt) : Bool := match sAs1 s with
  | some (t, e) => isN "_law_found" t && (match sTup e with
    | some [a, b] => isS "told" a && (match sCall0 b with
      | some f => isN "_law_call_so" f
      | none => false)
    | _ => false)
  | none => false
theorem toldB_eq {s : Stmt} (h : toldB s = true) : ∃ p1 k1 p2 p3 p4 k2 p5 p6, s = .Assign [.Name "_law_found" p1] (.Tuple [.Constant (.str "told") k1 p2, .Call (.Name "_law_call_so" p3) [] [] p4] k2 p5) p6 := by
  unfold toldB at h
  split at h
  · rename_i t e hs
    obtain ⟨p6, rfl⟩ := sAs1_eq hs
    rw [Bool.and_eq_true] at h
    obtain ⟨h1, h2⟩ := h
    obtain ⟨p1, rfl⟩ := isN_eq h1
    split at h2
    · rename_i a b ht
      obtain ⟨k2, p5, rfl⟩ := sTup_eq ht
      rw [Bool.and_eq_true] at h2
      obtain ⟨h3, h4⟩ := h2
      obtain ⟨k1, p2, rfl⟩ := isS_eq h3
      split at h4
      · rename_i f hf
        obtain ⟨p4, rfl⟩ := sCall0_eq hf
        obtain ⟨p3, rfl⟩ := isN_eq h4
        exact ⟨p1, k1, p2, p3, p4, k2, p5, p6, rfl⟩
      · cases h4
    · cases h2
  · cases h
def noneB (s : Stmt) : Bool := match sAs1 s with
  | some (t, e) => isN "_law_found" t && (match sConst e with
    | some .none => true
    | _ => false)
  | none => false
theorem noneB_eq {s : Stmt} (h : noneB s = true) : ∃ p1 k p2 p3, s = .Assign [.Name "_law_found" p1] (.Constant .none k p2) p3 := by
  unfold noneB at h
  split at h
  · rename_i t e hs
    obtain ⟨p3, rfl⟩ := sAs1_eq hs
    rw [Bool.and_eq_true] at h
    obtain ⟨p1, rfl⟩ := isN_eq h.1
    have h2 := h.2
    split at h2
    · rename_i hc
      obtain ⟨k, p2, rfl⟩ := sConst_eq hc
      exact ⟨p1, k, p2, p3, rfl⟩
    · cases h2
  · cases h
def endB (s : Stmt) : Bool := match sRet s with
  | some e => isN "_law_found" e
  | none => false
theorem endB_eq {s : Stmt} (h : endB s = true) : ∃ p1 p2, s = .Return (some (.Name "_law_found" p1)) p2 := by
  unfold endB at h
  split at h
  · rename_i e hs
    obtain ⟨p, rfl⟩ := sRet_eq hs
    obtain ⟨p1, rfl⟩ := isN_eq h
    exact ⟨p1, p, rfl⟩
  · cases h
def midB (s : Stmt) : Bool := match sTry s with
  | some ([b], [h1, h2, h3]) => toldB b && ehB "InvalidText" h1 && ehB "TooMany" h2 && ehK h3
  | _ => false
def tryB : List Stmt → Bool
  | [s1, s2, s3] => noneB s1 && midB s2 && endB s3
  | _ => false
def tryS (sc : Scope) : Bool := lkL sc "_law_call_so" && lkL sc "_law_found" && lkL sc "_law_e" && lkG sc "InvalidText" && lkG sc "TooMany" && lkG sc "TaleError" && lkG sc "_law_kin"

structure TryF (K : PySem.W.Frag) (mg : Str → Option Value) (C1 C2 C3 : Addr) : Prop where
  kin : ∃ f fd body scope, KinF K mg f fd body scope
  m1 : mg "InvalidText" = some (.ref C1)
  m2 : mg "TooMany" = some (.ref C2)
  m3 : mg "TaleError" = some (.ref C3)
  cls : ∀ x ∈ kErr, ∃ C, mg x = some (.ref C) ∧ KinC K mg x C ∧ PySem.W.exmOne K (.ref C) (.ref C1) = some false ∧ PySem.W.exmOne K (.ref C) (.ref C2) = some false ∧ PySem.W.exmOne K (.ref C) (.ref C3) = some true
/-- an error that is told by its name -/
def ETry (mg : Str → Option Value) (Q : VK) : XK := fun cls d H' => d = none ∧ ∃ x ∈ kErr, ∃ C, mg x = some (.ref C) ∧ cls = .ref C ∧ ∀ H'', Z.Sub H' H'' → Q (.str (kTold x)) H''
def TTry (mg : Str → Option Value) : (XK → Hp → VK → Prop) → Hp → VK → Prop := fun tl H Q => tl (ETry mg Q) H fun v H' => ∀ T0, H' T0 = none → Q (.ref T0) (upd H' T0 (.tup [.str "told", v]))
theorem takesN0 {X : Cx} : L2N.Takes X (fun _ _ _ _ => False) := fun _ _ x => by
  obtain ⟨_, _, _, _, _, _, _, _, _, _, _, _, _, _, _, _, z⟩ := x
  exact z.elim
theorem PE.more {X : Cx} {e : Expr} {t : TE} (h : PE X e t) : PE X e (fun σ H Q => ∃ Q', t σ H Q' ∧ ∀ v H', Q' v H' → Q v H') :=
  ⟨fun pins s σ H Q I ⟨Q', q, k⟩ => thn (h.run pins s σ H Q' I q) fun u s1 ⟨v, H1, I1, r1, q1⟩ => ⟨v, H1, I1, r1, k _ _ q1⟩⟩
theorem try_gives {X : Cx} {sg : Scope} {g C1 C2 C3 : Addr} {cdg : Value} {bg : List Stmt} {q : Str} {k : Nat} (F : TryF X.K X.mg C1 C2 C3) (hs : tryS sg = true) (hb : tryB bg = true) (hr : Room (k + 2) X.A) :
    ZL.GivesTo X tNm "_law_try" sg g cdg bg "_law_call_so" q (TTry X.mg) := by
  intro f c' s H Q tl act hc h
  unfold tryS at hs
  simp only [Bool.and_eq_true] at hs
  obtain ⟨⟨⟨⟨⟨⟨l1, l2⟩, l3⟩, g1⟩, g2⟩, g3⟩, g4⟩ := hs
  have l1 := lkL_eq l1
  have l2 := lkL_eq l2
  have l3 := lkL_eq l3
  have g1 := lkG_eq g1
  have g2 := lkG_eq g2
  have g3 := lkG_eq g3
  have g4 := lkG_eq g4
  unfold tryB at hb
  split at hb
  · rename_i s1 s2 s3
    simp only [Bool.and_eq_true] at hb
    obtain ⟨⟨b1, b2⟩, b3⟩ := hb
    obtain ⟨u1, uk, u2, u3, rfl⟩ := noneB_eq b1
    obtain ⟨v1, v2, rfl⟩ := endB_eq b3
    unfold midB at b2
    split at b2
    · rename_i b h1 h2 h3 hm
      obtain ⟨pt, rfl⟩ := sTry_eq hm
      simp only [Bool.and_eq_true] at b2
      obtain ⟨⟨⟨c0, c1⟩, c2⟩, c3⟩ := b2
      obtain ⟨w1, wk1, w2, w3, w4, wk2, w5, w6, rfl⟩ := toldB_eq c0
      obtain ⟨x1, xb1, xl1, x2, rfl⟩ := ehB_eq c1
      obtain ⟨y1, yb1, yl1, y2, rfl⟩ := ehB_eq c2
      obtain ⟨z1, z2, z3, z4, z5, z6, z7, rfl⟩ := ehK_eq c3
      let X0 : Cx := (cxOf C8.CX0 X.prog X.w X.K X.mg X.base tNm "_law_try" sg g cdg X.A X.stack s H C8.E0)
      let Y : Cx := X0.nox
      have hrA : Room (k + 1) X0.A := hr.deeper _
      have hN : Y.N.Nodup := by show tNm.Nodup; decide +kernel
      have n0 : Y.N[0]? = some ("_law_call_so" : Str) := rfl
      have n1 : Y.N[1]? = some ("_law_found" : Str) := rfl
      have n2 : Y.N[2]? = some ("_law_e" : Str) := rfl
      have hl2 : Y.env.scope.names.lookup ("_law_found" : Str) = some .local := l2
      have hl3 : Y.env.scope.names.lookup ("_law_e" : Str) = some .local := l3
      have no : ∀ {Z : Cx} {l : List Stmt}, PSs Z l (fun _ _ _ => False) := ⟨fun _ _ _ _ _ _ z => z.elim⟩
      let ts3 : Addr → Value → Option Addr → TS := fun a cls d D σ H => d = none ∧ ∃ x ∈ kErr, ∃ C, X.mg x = some (.ref C) ∧ cls = .ref C ∧ (σ.length = 3 → σ[2]? = some (some (.ref a)) ∧ ∀ H'', Z.Sub H H'' → D.nx (σ.set 1 (some (.str (kTold x)))) H'')
      have hh : HdsOkA Y "_law_e" [.ExceptHandler (some (.Name "InvalidText" x1)) (some "_law_e") (xb1 :: xl1) x2, .ExceptHandler (some (.Name "TooMany" y1)) (some "_law_e") (yb1 :: yl1) y2, .ExceptHandler (some (.Name "TaleError" z1)) (some "_law_e") [.Assign [.Name "_law_found" z2] (.Call (.Name "_law_kin" z3) [.Name "_law_e" z4] [] z5) z6] z7]
          [(.ref C1, fun _ _ _ _ _ _ => False), (.ref C2, fun _ _ _ _ _ _ => False), (.ref C3, ts3)] := by
        refine .cons ⟨g1, by decide, .inl F.m1⟩ (fun _ _ _ _ _ _ _ => no) (.cons ⟨g2, by decide, .inl F.m2⟩ (fun _ _ _ _ _ _ _ => no) (.cons ⟨g3, by decide, .inl F.m3⟩ (fun a oe cls d pn hz hf => ?_) .nil))
        refine ⟨fun pins s σ H D I h => ?_⟩
        obtain ⟨rfl, x, hx, C, hm, rfl, h23⟩ := h
        obtain ⟨h2, h3⟩ := h23 I.len
        obtain ⟨C', hm', kc, _⟩ := F.cls x hx
        have hC : C = C' := by rw [hm] at hm'; cases hm'; rfl
        subst hC
        obtain ⟨fk, fd, body, scope, KF⟩ := F.kin
        have hr2 : RoomH (k + 1) (Y.suite a ((a, oe) :: pn)).A := ⟨hrA.dp, hrA.un⟩
        have hot : Hot1 (Y.suite a ((a, oe) :: pn)).A (a, oe) := by
          obtain ⟨vs, hv⟩ := hf
          exact ⟨rfl, vs, hv, hz.2.2 vs hv⟩
        have hp := pe_kin (Y := Y.suite a ((a, oe) :: pn)) (p := (a, oe)) (i := 2) (q1 := z3) (q2 := z4) (q3 := z5) hot List.mem_cons_self KF kc hz.zc hf hr2 g4 n2 (.inl hl3)
        have hq := pss_one (ps_set (X := Y.suite a ((a, oe) :: pn)) (i := 1) (pos := z6) (pos' := z2) hN n1 (.inl hl2) hp rfl (.inr hl2))
        exact hq.run pins s σ H D I ⟨h2, h3⟩
      have tr := ps_try_manyA (X := Y) (pos := pt) (n := "_law_e") (i := 2) (Wout := fun _ _ _ _ => False)
        (body := [.Assign [.Name "_law_found" w1] (.Tuple [.Constant (.str "told") wk1 w2, .Call (.Name "_law_call_so" w3) [] [] w4] wk2 w5) w6])
        (tb := fun W D σ H => ∃ (Ech : XK) (Qk : VK), (∀ cls d σ' H', Ech cls d H' → W cls d σ' H') ∧ σ[0]? = some (some (.ref f)) ∧ H c' = some (LamX.CodeO c' q) ∧ tl Ech H Qk ∧ ∀ v H', Qk v H' → ∀ T0, H' T0 = none → D.nx (σ.set 1 (some (.ref T0))) (upd H' T0 (.tup [.str "told", v])))
        rfl rfl hN n2 l3 takesN0 (fun W pn xe tk _ => ⟨fun pins s' σ H' D I h' => by
          obtain ⟨Ech, Qk, hW, h1, h2, h3, h4⟩ := h'
          have hp := PE.more (act W pn xe Ech w3 w4 tk hW)
          have hq := pss_one (ps_set (X := X0.tr pn xe) (i := 1) (pos := w6) (pos' := w1) hN n1 (.inl hl2) (pe_tup (x1 := wk2) (pos := w5) (pa_cons (pe_str (x := "told") (j := wk1) (pos := w2)) (pa_cons hp pa_nil))) rfl (.inr hl2))
          exact hq.run pins s' σ H' D I ⟨Qk, ⟨h1, h2, h3⟩, fun v H2 hv => ⟨(by decide : 2 ≤ sizeLine), fun T0 hT => h4 v H2 hv T0 hT⟩⟩⟩) hh
      have hret := ps_ret (pos := v2) (pe_var (X := Y) (pos := v1) n1 (.inl hl2))
      have h0 := ps_set (X := Y) (i := 1) (pos := u3) (pos' := u1) hN n1 (.inl hl2) (pe_non (j := uk) (pos := u2)) rfl (.inr hl2)
      refine ⟨_, pss_cons h0 (pss_cons tr (pss_cons hret pss_nil)), ?_⟩
      refine ⟨_, _, fun cls d σ' H' e => ?_, rfl, hc, h, fun v H' hv T0 hT => ⟨.ref T0, rfl, hv T0 hT⟩⟩
      obtain ⟨rfl, x, hx, C, hm, rfl, h2⟩ := e
      obtain ⟨C', hm', kc, e1, e2, e3⟩ := F.cls x hx
      have hC : C = C' := by rw [hm] at hm'; cases hm'; rfl
      subst hC
      refine ⟨false, e1, fun z => absurd z Bool.false_ne_true, fun _ => ⟨false, e2, fun z => absurd z Bool.false_ne_true, fun _ => ⟨true, e3, fun _ a ha => ?_, fun z => absurd z.symm Bool.false_ne_true⟩⟩⟩
      refine ⟨rfl, x, hx, C, hm, rfl, fun hl => ?_⟩
      rw [List.length_set] at hl
      match σ', hl with
      | [a0, a1, a2], _ => exact ⟨rfl, fun H'' hs' => ⟨.str (kTold x), rfl, h2 H'' hs'⟩⟩
    · cases b2
  · cases hb
end ZK
end
-- Z9
section
set_option Elab.async false
set_option linter.all false
set_option maxRecDepth 100000
set_option maxHeartbeats 1000000
/-! Z9: each form's rule over the readings of its parts. -/
namespace Z
open PySem PySem.Spec PyProof.Rows L2

def veB : List Value := [.type "ValueError", .type "Exception", .type "BaseException", .type "object"]
/-- what a def with lambdas knows of them: its table of code objects, _law_try -/
structure Lm (T : List (Addr × Str)) (X : Cx) : Prop where
  tab : ∃ c P, LamX.TabB X.base X.mg c P ∧ X.env.code = .ref c ∧ (P, X.env.qual ++ "<lambda>") ∈ T ∧ ∀ p ∈ T, p.1 = P → p.2 = X.env.qual ++ "<lambda>"
  tf : ∃ C1 C2 C3, ZK.TryF X.K X.mg C1 C2 C3
  td : ∃ (params : Arguments) (body : List Stmt) (scope : Scope) (dvs : List V) (kws : List (Str × V)) (f : Addr) (fd : FuncData), FunD X.K "_law_try" "_law_try" params body scope dvs kws f fd ∧ X.mg "_law_try" = some (.ref f) ∧ L2.Binds X.K fd ["_law_call_so"] [] ∧ FnScope ZK.tNm ["_law_call_so"] scope ∧ ZK.tryS scope = true ∧ ZK.tryB body = true
/-- what is promised of _law_deck -/
def spDeck : Sp := fun vs H Q _ => ∃ i k : Int, vs = [.int i, .int k] ∧ ∀ (p : Addr) (x y : Int), H p = none → 0 ≤ x → 0 ≤ y → y < 2147483648 → Q (.ref p) (upd H p (.lst [.int x, .int y, .int k]))
structure DkF (P : Program) (w : World) (K : PySem.W.Frag) (mg : Str → Option Value) (base : Heap) : Prop where
  ex : ∃ g fd ps, mg "_law_deck" = some (.ref g) ∧ PySem.W.keepIn K (.ref g) = true ∧ Binds K fd ps [] ∧ FnOk P w K mg base (L2N.CX P w) 1 g fd ps spDeck
structure Good (T : List (Addr × Str)) (X : Cx) (c : CkC) (Wh : WX) : Prop where
  calm : X.calm = true
  nd : X.N.Nodup
  eN : X.N = c.N
  room : Room c.lvl X.A
  sc : X.env.scope = c.sc
  fn : ∀ x, (c.blk = none ∨ ∃ s, c.blk = some s ∧ s.names.lookup x = some .cell) → X.fn x = true
  takes : L2N.Takes X Wh
  blt : ∀ x ∈ bltN, X.mg x = none
  cst : ∀ x i, c.cs.lookup x = some i → ∃ t, X.mg x = some (.int i t)
  lam : c.lam = true → Lm T X
  dk : c.dkk = true → DkF X.prog X.w X.K X.mg X.base
  exs : ∀ x ∈ c.ex, ∃ C, X.mg x = some (.ref C) ∧ PySem.W.excIn X.K C veB "ValueError.__new__" = true ∧ PySem.W.keepIn X.K (.ref C) = true ∧ Raises X (.ref C)

theorem visB_vis {sc : Scope} {x : Str} (h : visB sc x = true) : Vis sc x := by
  unfold visB at h
  split at h
  · rename_i e; exact .inl e
  · rename_i e; exact .inr (.inl e)
  · rename_i e; exact .inr (.inr e)
  · cases h
theorem plainN_eq {x : Str} (h : plainN x = true) : (x == ("__debug__" : Str)) = false ∧ (x == ("__classdict__" : Str)) = false := by
  unfold plainN at h
  simp only [Bool.and_eq_true, Bool.not_eq_true'] at h
  exact h
theorem isAt_eq {c : CkC} {i : Nat} {x : Str} (h : isAt c i x = true) : c.N[i]? = some x := by
  unfold isAt at h
  split at h
  · rename_i y e; rw [e, eq_of_beq h]
  · cases h
theorem slotB_eq {c : CkC} {i : Nat} {e : Expr} (h : slotB c i e = true) : ∃ x p, e = .Name x p ∧ c.N[i]? = some x ∧ Vis c.sc x ∧ (x == ("__debug__" : Str)) = false ∧ (x == ("__classdict__" : Str)) = false := by
  unfold slotB at h
  split at h
  · rename_i x hx
    obtain ⟨p, rfl⟩ := sName_eq hx
    simp only [Bool.and_eq_true] at h
    exact ⟨x, p, rfl, isAt_eq h.1.1, visB_vis h.1.2, plainN_eq h.2⟩
  · cases h
section
variable {X : Cx} {T : List (Addr × Str)} {c : CkC} {Wh : WX}
theorem Good.gl (G : Good T X c Wh) {x : Str} (h : glB c.sc x = true) : Gl X x ∧ (x == ("__debug__" : Str)) = false := by
  unfold glB at h
  rw [Bool.and_eq_true] at h
  refine ⟨?_, (plainN_eq h.2).1⟩
  show X.env.scope.names.lookup x = some .globalImplicit
  rw [G.sc]
  have h1 := h.1
  split at h1
  · rename_i e; exact e
  · cases h1
theorem Good.setB (G : Good T X c Wh) {i : Nat} {e : Expr} (h : setB c i e = true) : ∃ x p, e = .Name x p ∧ X.N[i]? = some x ∧ Loc X.env.scope x ∧ (X.fn x = true ∨ X.env.scope.names.lookup x = some .local) ∧ i ∉ c.pro := by
  unfold Z.setB at h
  split at h
  · rename_i x hx
    obtain ⟨p, rfl⟩ := sName_eq hx
    simp only [Bool.and_eq_true, Bool.not_eq_true'] at h
    obtain ⟨⟨h1, h2⟩, h3⟩ := h
    refine ⟨x, p, rfl, by rw [G.eN]; exact isAt_eq h1, ?_⟩
    have hp : i ∉ c.pro := fun m => by
      rw [List.contains_iff_mem.mpr m] at h3; cases h3
    unfold locB at h2
    rw [G.sc]
    split at h2
    · rename_i e; exact ⟨.inl e, .inr e, hp⟩
    · rename_i e
      refine ⟨.inr e, .inl (G.fn x ?_), hp⟩
      split at h2
      · rename_i hb; exact .inl hb
      · rename_i s hb
        split at h2
        · rename_i hs; exact .inr ⟨s, hb, hs⟩
        · cases h2
    · cases h2
  · cases h

/-! ### names, constants -/
variable {e a b d : Expr} {x y z : Ex} {pos : Pos}
abbrev RE (X : Cx) (T : List (Addr × Str)) (Wh : WX) (x : Ex) : TE := tE X.K T X.mg Wh x
abbrev RT (X : Cx) (T : List (Addr × Str)) (Wh : WX) (x : Ex) : TT := tT X.K T X.mg Wh x
theorem r_var {i : Nat} (G : Good T X c Wh) (h : slotB c i e = true) : PE X e (RE X T Wh (.var i)) := by
  obtain ⟨x, p, rfl, h1, h2, h3, h4⟩ := slotB_eq h
  refine (pe_var (by rw [G.eN]; exact h1) (by rw [G.sc]; exact h2) h3 h4).imp fun σ H Q ⟨ρ, n, F, r, q⟩ => ?_
  have q : (match at_ ρ i with | .val d => ok d | _ => (stuck : W D)) n _ _ := q
  cases hd : at_ ρ i with
  | val d =>
    rw [hd] at q
    obtain ⟨v, e1, e2⟩ := r.val i d hd
    exact ⟨v, e1, q v F H (.refl r) (Rz.of e2)⟩
  | _ => rw [hd] at q; exact q.elim
theorem r_own {i : Nat} (G : Good T X c Wh) (h : slotB c i e = true) : PE X e (RE X T Wh (.own i)) := by
  obtain ⟨x, p, rfl, h1, h2, h3, h4⟩ := slotB_eq h
  refine (pe_var (by rw [G.eN]; exact h1) (by rw [G.sc]; exact h2) h3 h4).imp fun σ H Q ⟨ρ, n, F, r, q⟩ => ?_
  have q : (match at_ ρ i with | .own ds => ok (D.lst ds) | _ => (stuck : W D)) n _ _ := q
  cases hd : at_ ρ i with
  | own ds =>
    rw [hd] at q
    obtain ⟨a, vs, e1, e2⟩ := r.own i ds hd
    exact ⟨.ref a, e1, q _ F H (.refl r) (.inr ⟨i, ds, hd, rfl, e1⟩)⟩
  | _ => rw [hd] at q; exact q.elim
theorem r_const {v : V} {dd : D} (hp : PE X e (tC v)) (hx : ∀ ρ, evE x ρ = ok dd) (hv : ∀ K F, Rp K F v dd) : PE X e (RE X T Wh x) :=
  hp.imp fun σ H Q ⟨ρ, n, F, r, q⟩ => by
    rw [hx] at q
    exact q v F H (.refl r) (Rz.of (hv _ _))

/-! ### operations -/
theorem r_op {o : Op} (ma : ∀ ρ, Mono (evE x ρ)) (mb : ∀ ρ, Mono (evE y ρ)) (ha : PE X a (RE X T Wh x)) (hb : PE X b (RE X T Wh y)) : PE X (.BinOp a (opP o) b pos) (RE X T Wh (.op o x y)) :=
  (pe_op (or_op o) ha hb).imp fun σ H Q ⟨ρ, n, F, r, q⟩ =>
    tE_seq (.refl r) (ma ρ) q fun d1 n1 v1 F1 H1 p0 _ z1 h1 => tE_seq p0 (mb ρ) h1 fun d2 n2 v2 F2 H2 q0 q1 z2 h2 => by
      obtain ⟨z, e1, hk⟩ := (det_opS o d1 d2).get h2
      exact ⟨F2, d1, d2, z, q0.rl.sub, q0.rl.pure, (z1.mono q1.grow.1).w q0.rl, z2.w q0.rl, e1, fun v F' H' nw rp => hk v F' H' (q0.trans (q0.rl.nw nw)) (Rz.of rp)⟩
theorem r_neg (ma : ∀ ρ, Mono (evE x ρ)) (ha : PE X a (RE X T Wh x)) : PE X (.UnaryOp .USub a pos) (RE X T Wh (.neg x)) :=
  (pe_un un_neg ha).imp fun σ H Q ⟨ρ, n, F, r, q⟩ =>
    tE_seq (.refl r) (ma ρ) q fun d1 n1 v1 F1 H1 p0 _ z1 h1 => by
      cases d1 with
      | int i => exact ⟨i, z1.int, h1 _ F1 H1 p0 (Rz.of (.int _))⟩
      | _ => exact h1.elim
theorem r_not (ma : ∀ ρ, Mono (evE x ρ)) (ha : PE X a (RE X T Wh x)) : PE X (.UnaryOp .Not a pos) (RE X T Wh (.not x)) :=
  (pe_not ha).imp fun σ H Q ⟨ρ, n, F, r, q⟩ =>
    tE_seq (.refl r) (ma ρ) q fun d1 n1 v1 F1 H1 p0 _ z1 h1 => by
      cases d1 with
      | bl i => exact ⟨i, z1.bl, h1 _ F1 H1 p0 (Rz.of (.bl _))⟩
      | _ => exact h1.elim
theorem r_notT (ma : ∀ ρ, Mono (evE x ρ)) (ha : PT X a (RT X T Wh x)) : PT X (.UnaryOp .Not a pos) (RT X T Wh (.not x)) :=
  (pt_not ha).imp fun σ H Q ⟨ρ, n, F, r, q⟩ =>
    tT_seq (.refl r) (ma ρ) q fun d1 n1 F1 H1 p0 _ h1 => h1 F1 H1 p0
theorem r_cmp {o : Cm} (G : Good T X c Wh) {p : CmpOp} (hm : cmOk o p b = true) (ma : ∀ ρ, Mono (evE x ρ)) (mb : ∀ ρ, Mono (evE y ρ)) (ha : PE X a (RE X T Wh x)) (hb : PE X b (RE X T Wh y)) : PE X (.Compare a [p] [b] pos) (RE X T Wh (.cmp o x y)) ∧ PT X (.Compare a [p] [b] pos) (RT X T Wh (.cmp o x y)) := by
  unfold cmOk at hm
  simp only [Bool.and_eq_true, Bool.not_eq_true', decide_eq_true_eq] at hm
  obtain ⟨rfl, hm⟩ := hm
  constructor
  · exact (pe_cmpR (or_cm G.room.units o) ha hb hm).imp fun σ H Q ⟨ρ, n, F, r, q⟩ =>
      tE_seq (.refl r) (ma ρ) q fun d1 n1 v1 F1 H1 p0 _ z1 h1 => tE_seq p0 (mb ρ) h1 fun d2 n2 v2 F2 H2 q0 q1 z2 h2 => by
        obtain ⟨z, e1, hk⟩ := (det_cmS o d1 d2).get h2
        exact ⟨F2, d1, d2, z, q0.rl.sub, q0.rl.pure, (z1.mono q1.grow.1).w q0.rl, z2.w q0.rl, e1, fun v F' H' nw rp => hk v F' H' (q0.trans (q0.rl.nw nw)) (Rz.of rp)⟩
  · exact (pt_cmpR (or_cm G.room.units o) ha hb hm).imp fun σ H Q ⟨ρ, n, F, r, q⟩ =>
      tE_seq (f := fun d1 => bnd (evE y ρ) fun d2 => bnd (cmS o d1 d2) asB) (.refl r) (ma ρ) q fun d1 n1 v1 F1 H1 p0 _ z1 h1 => tE_seq p0 (mb ρ) h1 fun d2 n2 v2 F2 H2 q0 q1 z2 h2 => by
        obtain ⟨z, e1, hk⟩ := (det_cmS o d1 d2).get h2
        refine ⟨F2, d1, d2, z, q0.rl.sub, q0.rl.pure, (z1.mono q1.grow.1).w q0.rl, z2.w q0.rl, e1, fun v F' H' nw rp => ?_⟩
        cases z with
        | bl k => cases rp; exact ⟨k, rfl, hk F' H' (q0.trans (q0.rl.nw nw))⟩
        | _ => exact hk.elim
/-- any other form's test is its value's -/
theorem r_val (ma : ∀ ρ, Mono (evE x ρ)) (ha : PE X a (RE X T Wh x)) (he : ∀ whole, isTrue a X.env whole = (do let v ← whole; standAt a.pos; holding [v] (truthy v))) : PT X a (RT X T Wh x) :=
  (pt_val ha he).imp fun σ H Q ⟨ρ, n, F, r, q⟩ =>
    tE_seq (.refl r) (ma ρ) q fun d1 n1 v1 F1 H1 p0 _ z1 h1 => by
      cases d1 with
      | bl i => exact ⟨i, z1.bl, h1 F1 H1 p0⟩
      | _ => exact h1.elim
theorem r_chain {o1 o2 : Cm} (G : Good T X c Wh) {p1 p2 : CmpOp} (hm1 : cmOk o1 p1 b = true) (hm2 : cmOk o2 p2 d = true) (ma : ∀ ρ, Mono (evE x ρ)) (mb : ∀ ρ, Mono (evE y ρ)) (md : ∀ ρ, Mono (evE z ρ)) (ha : PE X a (RE X T Wh x)) (hb : PE X b (RE X T Wh y)) (hd : PE X d (RE X T Wh z)) :
    PE X (.Compare a [p1, p2] [b, d] pos) (RE X T Wh (.chain o1 o2 x y z)) ∧ PT X (.Compare a [p1, p2] [b, d] pos) (RT X T Wh (.chain o1 o2 x y z)) := by
  unfold cmOk at hm1 hm2
  simp only [Bool.and_eq_true, Bool.not_eq_true', decide_eq_true_eq] at hm1 hm2
  obtain ⟨rfl, hm1⟩ := hm1
  obtain ⟨rfl, hm2⟩ := hm2
  have hm : lastMarks [cmP o1, cmP o2] [b, d] = false := hm2
  constructor
  · exact (pe_chain (or_cm G.room.units o1) (or_cm G.room.units o2) ha hb hd hm).imp fun σ H Q ⟨ρ, n, F, r, q⟩ =>
      tE_seq (.refl r) (ma ρ) q fun d1 n1 v1 F1 H1 p0 _ z1 h1 => tE_seq p0 (mb ρ) h1 fun d2 n2 v2 F2 H2 q0 q1 z2 h2 => by
        obtain ⟨zz, e1, hk⟩ := (det_cmS o1 d1 d2).get h2
        refine ⟨F2, d1, d2, zz, q0.rl.sub, q0.rl.pure, (z1.mono q1.grow.1).w q0.rl, z2.w q0.rl, e1, fun v F' H' nw rp => ?_⟩
        cases zz with
        | bl k =>
          cases rp
          have pp := q0.trans (q0.rl.nw nw)
          refine ⟨k, rfl, ?_⟩
          cases k with
          | false => exact hk _ F' H' pp (Rz.of (.bl _))
          | true =>
            exact tE_seq pp (md ρ) hk fun d3 n3 v3 F3 H3 s0 s1 z3 h3 => by
              obtain ⟨zz, e1, hk⟩ := (det_cmS o2 d2 d3).get h3
              exact ⟨F3, d2, d3, zz, s0.rl.sub, s0.rl.pure, ((z2.mono nw.f).mono s1.grow.1).w s0.rl, z3.w s0.rl, e1, fun v F' H' nw rp => hk v F' H' (s0.trans (s0.rl.nw nw)) (Rz.of rp)⟩
        | _ => exact hk.elim
  · exact (pt_chain (or_cm G.room.units o1) (or_cm G.room.units o2) ha hb hd hm).imp fun σ H Q ⟨ρ, n, F, r, q⟩ =>
      tE_seq (f := fun d1 => bnd (evE y ρ) fun d2 => bnd (cmS o1 d1 d2) fun dd => bnd (asB dd) fun k => bnd (ife k (bnd (evE z ρ) fun d3 => cmS o2 d2 d3) (ok (.bl false))) asB) (.refl r) (ma ρ) q fun d1 n1 v1 F1 H1 p0 _ z1 h1 => tE_seq p0 (mb ρ) h1 fun d2 n2 v2 F2 H2 q0 q1 z2 h2 => by
        obtain ⟨zz, e1, hk⟩ := (det_cmS o1 d1 d2).get h2
        refine ⟨F2, d1, d2, zz, q0.rl.sub, q0.rl.pure, (z1.mono q1.grow.1).w q0.rl, z2.w q0.rl, e1, fun v F' H' nw rp => ?_⟩
        cases zz with
        | bl k =>
          cases rp
          have pp := q0.trans (q0.rl.nw nw)
          refine ⟨k, rfl, ?_⟩
          cases k with
          | false => exact ⟨false, rfl, hk F' H' pp⟩
          | true =>
            exact tE_seq (f := fun d3 => bnd (cmS o2 d2 d3) asB) pp (md ρ) hk fun d3 n3 v3 F3 H3 s0 s1 z3 h3 => by
              obtain ⟨zz, e1, hk⟩ := (det_cmS o2 d2 d3).get h3
              refine ⟨F3, d2, d3, zz, s0.rl.sub, s0.rl.pure, ((z2.mono nw.f).mono s1.grow.1).w s0.rl, z3.w s0.rl, e1, fun v F' H' nw rp => ?_⟩
              cases zz with
              | bl k => cases rp; exact ⟨k, rfl, hk F' H' (s0.trans (s0.rl.nw nw))⟩
              | _ => exact hk.elim
        | _ => exact hk.elim
theorem Rz.weak {bb : Bool} {K : PySem.W.Frag} {ρ : Ev} {σ : L2.St} {F : Hp} {v : V} {d : D} {b1 : Bool} (h : Rz bb K ρ σ F v d) (hb : b1 = true → bb = true) : Rz b1 K ρ σ F v d := by
  cases b1 with
  | true => rw [hb rfl] at h; exact h
  | false =>
    cases bb with
    | true => exact .inl h
    | false => exact h
theorem r_ite (mt : ∀ ρ, Mono (evE z ρ)) (ma : ∀ ρ, Mono (evE x ρ)) (mb : ∀ ρ, Mono (evE y ρ)) (ht : PT X d (RT X T Wh z)) (ha : PE X a (RE X T Wh x)) (hb : PE X b (RE X T Wh y)) : PE X (.IfExp d a b pos) (RE X T Wh (.ite z x y)) :=
  (pe_ifExp ht ha hb).imp fun σ H Q ⟨ρ, n, F, r, q⟩ =>
    tT_seq (.refl r) (mt ρ) q fun d1 n1 F1 H1 p0 _ h1 => by
      cases d1 with
      | true =>
        refine ⟨ρ, n1, F1, p0.rl, ma ρ _ _ _ _ _ (fun dd n2 hk v F2 H2 p2 z2 => hk v F2 H2 (p0.trans p2) (z2.weak fun e => ?_)) (fun xx n2 hk F2 H2 c dd p2 z2 => hk F2 H2 c dd (p0.trans p2) z2) h1⟩
        have e : (sg x && sg y) = true := e
        rw [Bool.and_eq_true] at e
        exact e.1
      | false =>
        refine ⟨ρ, n1, F1, p0.rl, mb ρ _ _ _ _ _ (fun dd n2 hk v F2 H2 p2 z2 => hk v F2 H2 (p0.trans p2) (z2.weak fun e => ?_)) (fun xx n2 hk F2 H2 c dd p2 z2 => hk F2 H2 c dd (p0.trans p2) z2) h1⟩
        have e : (sg x && sg y) = true := e
        rw [Bool.and_eq_true] at e
        exact e.2
theorem r_iteT (mt : ∀ ρ, Mono (evE z ρ)) (ma : ∀ ρ, Mono (evE x ρ)) (mb : ∀ ρ, Mono (evE y ρ)) (ht : PT X d (RT X T Wh z)) (ha : PT X a (RT X T Wh x)) (hb : PT X b (RT X T Wh y)) : PT X (.IfExp d a b pos) (RT X T Wh (.ite z x y)) := by
  refine ⟨fun pins s σ H Q I ⟨ρ, n, F, r, q⟩ => ?_⟩
  have q' : tT X.K T X.mg Wh z σ H fun k H1 => if k = true then RT X T Wh x σ H1 Q else RT X T Wh y σ H1 Q :=
    tT_seq (f := fun k => bnd (ife k (evE x ρ) (evE y ρ)) asB) (.refl r) (mt ρ) q fun d1 n1 F1 H1 p0 _ h1 => by
      cases d1 with
      | true => exact ⟨ρ, n1, F1, p0.rl, ((ma ρ).bnd fun _ => Mono.det (det_asB _)) _ _ _ _ _ (fun dd n2 hk F2 H2 p2 => hk F2 H2 (p0.trans p2)) (fun xx n2 hk F2 H2 c dd p2 z2 => hk F2 H2 c dd (p0.trans p2) z2) h1⟩
      | false => exact ⟨ρ, n1, F1, p0.rl, ((mb ρ).bnd fun _ => Mono.det (det_asB _)) _ _ _ _ _ (fun dd n2 hk F2 H2 p2 => hk F2 H2 (p0.trans p2)) (fun xx n2 hk F2 H2 c dd p2 z2 => hk F2 H2 c dd (p0.trans p2) z2) h1⟩
  refine isTrue_IfExp (thn (ht.run pins s σ H _ I q') fun k s1 ⟨H1, I1, q1⟩ => ?_)
  cases k with
  | true => exact ha.run pins s1 σ H1 Q I1 q1
  | false => exact hb.run pins s1 σ H1 Q I1 q1
theorem plainIx_of (h : (sSlice b).isNone = true) : PlainIx b := by
  intro o i
  cases b <;> first | rfl | (exact absurd h Bool.false_ne_true)
theorem r_ix (hs : (sSlice b).isNone = true) (ma : ∀ ρ, Mono (evE x ρ)) (mb : ∀ ρ, Mono (evE y ρ)) (ha : PE X a (RE X T Wh x)) (hb : PE X b (RE X T Wh y)) : PE X (.Subscript a b pos) (RE X T Wh (.ix x y)) :=
  (pe_ix ir_ix ha hb (plainIx_of hs)).imp fun σ H Q ⟨ρ, n, F, r, q⟩ =>
    tE_seq (.refl r) (ma ρ) q fun d1 n1 v1 F1 H1 p0 _ z1 h1 => tE_seq p0 (mb ρ) h1 fun d2 n2 v2 F2 H2 q0 q1 z2 h2 => by
      obtain ⟨zz, e1, hk⟩ := (det_ixS d1 d2).get h2
      exact ⟨F2, d1, d2, zz, q0.rl.sub, q0.rl.pure, (z1.mono q1.grow.1).w q0.rl, z2.w q0.rl, e1, fun v F' H' nw rp => hk v F' H' (q0.trans (q0.rl.nw nw)) (Rz.of rp)⟩
theorem r_rev {k : Nat} {p1 p2 p3 : Pos} (ma : ∀ ρ, Mono (evE x ρ)) (ha : PE X a (RE X T Wh x)) : PE X (.Subscript a (.Slice none none (some (.UnaryOp .USub (.Constant (.int 1) k p1) p2)) p3) pos) (RE X T Wh (.rev x)) :=
  (pe_rev ha).imp fun σ H Q ⟨ρ, n, F, r, q⟩ =>
    tE_seq (.refl r) (ma ρ) q fun d1 n1 v1 F1 H1 p0 _ z1 h1 => by
      obtain ⟨zz, e1, hk⟩ := (det_revS d1).get h1
      exact ⟨F1, d1, zz, p0.rl.sub, p0.rl.pure, z1.w p0.rl, e1, fun v F' H' nw rp => hk v F' H' (p0.trans (p0.rl.nw nw)) (Rz.of rp)⟩
end
end Z
end
-- Z10
section
set_option Elab.async false
set_option linter.all false
set_option maxRecDepth 100000
set_option maxHeartbeats 1000000
/-! Z10: and, or, displays, arguments, calls, built-ins. -/
namespace Z
open PySem PySem.Spec PyProof.Rows L2

section
variable {X : Cx} {T : List (Addr × Str)} {c : CkC} {Wh : WX} {e a b d : Expr} {x y z : Ex} {pos : Pos} {l : List Expr} {es r : Exs}
/-- a reading by any meaning -/
def gE (K : PySem.W.Frag) (T : List (Addr × Str)) (mg : Str → Option Value) (Wh : WX) (b : Bool) (m : Ev → W D) : TE := fun σ H Q => ∃ ρ n F, Rl K T ρ n F σ H ∧ m ρ n (kP K T ρ σ F H b Q) (kE K T mg ρ σ F H Wh)
def gT (K : PySem.W.Frag) (T : List (Addr × Str)) (mg : Str → Option Value) (Wh : WX) (m : Ev → W D) : TT := fun σ H Q => ∃ ρ n F, Rl K T ρ n F σ H ∧ bnd (m ρ) asB n (fun b n' => ∀ F' H', Post K T ρ σ F H n' F' H' → Q b H') (kE K T mg ρ σ F H Wh)
/-- further, from behind a step -/
theorem gE_at {m : Ev → W D} {bb : Bool} {ρ : Ev} {σ : L2.St} {n1 : Nat} {F F1 H H1 : Hp} {Q : VK} {K : PySem.W.Frag} {mg : Str → Option Value} (p0 : Post K T ρ σ F H n1 F1 H1) (mm : Mono (m ρ)) (h : m ρ n1 (kP K T ρ σ F H bb Q) (kE K T mg ρ σ F H Wh)) : gE K T mg Wh bb m σ H1 Q :=
  ⟨ρ, n1, F1, p0.rl, mm _ _ _ _ _ (fun dd n2 hk v F2 H2 p2 z2 => hk v F2 H2 (p0.trans p2) z2) (fun xx n2 hk F2 H2 c dd p2 z2 => hk F2 H2 c dd (p0.trans p2) z2) h⟩
theorem gT_at {m : Ev → W D} {ρ : Ev} {σ : L2.St} {n1 : Nat} {F F1 H H1 : Hp} {Q : Bool → Hp → Prop} {K : PySem.W.Frag} {mg : Str → Option Value} (p0 : Post K T ρ σ F H n1 F1 H1) (mm : Mono (m ρ)) (h : bnd (m ρ) asB n1 (fun b n' => ∀ F' H', Post K T ρ σ F H n' F' H' → Q b H') (kE K T mg ρ σ F H Wh)) : gT K T mg Wh m σ H1 Q :=
  ⟨ρ, n1, F1, p0.rl, (mm.bnd fun _ => Mono.det (det_asB _)) _ _ _ _ _ (fun dd n2 hk F2 H2 p2 => hk F2 H2 (p0.trans p2)) (fun xx n2 hk F2 H2 c dd p2 z2 => hk F2 H2 c dd (p0.trans p2) z2) h⟩
theorem gE_of (h : sg x = true) : gE X.K T X.mg Wh true (evE x) = RE X T Wh x := by
  unfold RE tE gE
  rw [h]
abbrev GE (X : Cx) (T : List (Addr × Str)) (Wh : WX) (m : Ev → W D) : TE := gE X.K T X.mg Wh true m
abbrev GT (X : Cx) (T : List (Addr × Str)) (Wh : WX) (m : Ev → W D) : TT := gT X.K T X.mg Wh m
theorem and_one {op} (h : sg x = true) (ha : PE X a (RE X T Wh x)) : PE X (.BoolOp op [a] pos) (GE X T Wh (evAnd (.cons x .nil))) := by
  have e : GE X T Wh (evAnd (.cons x .nil)) = RE X T Wh x := gE_of h
  rw [e]
  exact pe_one ha
theorem or_one {op} (h : sg x = true) (ha : PE X a (RE X T Wh x)) : PE X (.BoolOp op [a] pos) (GE X T Wh (evOr (.cons x .nil))) := by
  have e : GE X T Wh (evOr (.cons x .nil)) = RE X T Wh x := gE_of h
  rw [e]
  exact pe_one ha
theorem and_cons (ma : ∀ ρ, Mono (evE x ρ)) (mr : ∀ ρ, Mono (evAnd (.cons y r) ρ)) (ha : PE X a (RE X T Wh x)) (hr : PE X (.BoolOp .And (b :: l) pos) (GE X T Wh (evAnd (.cons y r)))) : PE X (.BoolOp .And (a :: b :: l) pos) (GE X T Wh (evAnd (.cons x (.cons y r)))) :=
  (pe_and ha hr).imp fun σ H Q ⟨ρ, n, F, rl, q⟩ =>
    tE_seq (.refl rl) (ma ρ) q fun d1 n1 v1 F1 H1 p0 _ z1 h1 => by
      cases d1 with
      | bl k =>
        refine ⟨k, z1.bl, ?_⟩
        cases k with
        | true => exact gE_at p0 (mr ρ) h1
        | false => exact h1 _ F1 H1 p0 (Rz.of (.bl _))
      | _ => exact h1.elim
theorem or_cons (ma : ∀ ρ, Mono (evE x ρ)) (mr : ∀ ρ, Mono (evOr (.cons y r) ρ)) (ha : PE X a (RE X T Wh x)) (hr : PE X (.BoolOp .Or (b :: l) pos) (GE X T Wh (evOr (.cons y r)))) : PE X (.BoolOp .Or (a :: b :: l) pos) (GE X T Wh (evOr (.cons x (.cons y r)))) :=
  (pe_or ha hr).imp fun σ H Q ⟨ρ, n, F, rl, q⟩ =>
    tE_seq (.refl rl) (ma ρ) q fun d1 n1 v1 F1 H1 p0 _ z1 h1 => by
      cases d1 with
      | bl k =>
        refine ⟨k, z1.bl, ?_⟩
        cases k with
        | false => exact gE_at p0 (mr ρ) h1
        | true => exact h1 _ F1 H1 p0 (Rz.of (.bl _))
      | _ => exact h1.elim
theorem andT_one (ha : PT X a (RT X T Wh x)) : PW X (.BoolOp .And [a] pos) (GT X T Wh (evAnd (.cons x .nil))) := pw_and1 ha
theorem orT_one (ha : PT X a (RT X T Wh x)) : PW X (.BoolOp .Or [a] pos) (GT X T Wh (evOr (.cons x .nil))) := pw_or1 ha
theorem PWimp {X : Cx} {e : Expr} {t t' : TT} (h : PW X e t) (g : ∀ σ H Q, t' σ H Q → t σ H Q) : PW X e t' := ⟨fun w pins s σ H Q I q => h.run w pins s σ H Q I (g σ H Q q)⟩
theorem andT_cons (ma : ∀ ρ, Mono (evE x ρ)) (mr : ∀ ρ, Mono (evAnd (.cons y r) ρ)) (ha : PT X a (RT X T Wh x)) (hr : PW X (.BoolOp .And (b :: l) pos) (GT X T Wh (evAnd (.cons y r)))) : PW X (.BoolOp .And (a :: b :: l) pos) (GT X T Wh (evAnd (.cons x (.cons y r)))) :=
  PWimp (pw_and ha hr) fun σ H Q ⟨ρ, n, F, rl, q⟩ =>
    tT_seq (f := fun k => bnd (ife k (evAnd (.cons y r) ρ) (ok (D.bl false))) asB) (.refl rl) (ma ρ) q fun k n1 F1 H1 p0 _ h1 => by
      cases k with
      | true => exact gT_at p0 (mr ρ) h1
      | false => exact h1 F1 H1 p0
theorem orT_cons (ma : ∀ ρ, Mono (evE x ρ)) (mr : ∀ ρ, Mono (evOr (.cons y r) ρ)) (ha : PT X a (RT X T Wh x)) (hr : PW X (.BoolOp .Or (b :: l) pos) (GT X T Wh (evOr (.cons y r)))) : PW X (.BoolOp .Or (a :: b :: l) pos) (GT X T Wh (evOr (.cons x (.cons y r)))) :=
  PWimp (pw_or ha hr) fun σ H Q ⟨ρ, n, F, rl, q⟩ =>
    tT_seq (f := fun k => bnd (ife k (ok (D.bl true)) (evOr (.cons y r) ρ)) asB) (.refl rl) (ma ρ) q fun k n1 F1 H1 p0 _ h1 => by
      cases k with
      | false => exact gT_at p0 (mr ρ) h1
      | true => exact h1 F1 H1 p0

/-! ### lists of values -/
inductive Rzs (bb : Bool) (K : PySem.W.Frag) (ρ : Ev) (σ : L2.St) (F : Hp) : List V → List D → Prop
  | nil : Rzs bb K ρ σ F [] []
  | cons {v : V} {vs : List V} {d : D} {ds : List D} : Rz bb K ρ σ F v d → Rzs bb K ρ σ F vs ds → Rzs bb K ρ σ F (v :: vs) (d :: ds)
theorem Rzs.rps {K : PySem.W.Frag} {ρ : Ev} {σ : L2.St} {F : Hp} {vs : List V} {ds : List D} (h : Rzs true K ρ σ F vs ds) : Rps K F vs ds := by
  induction h with
  | nil => exact .nil
  | cons a _ ih => exact .cons a ih
theorem Rzs.rws {bb : Bool} {K : PySem.W.Frag} {ρ : Ev} {σ : L2.St} {F H : Hp} {n : Nat} {vs : List V} {ds : List D} (h : Rzs bb K ρ σ F vs ds) (r : Rl K T ρ n F σ H) : Rws K F H vs ds := by
  induction h with
  | nil => exact .nil
  | cons a _ ih => exact .cons (a.w r) ih
def tEs (K : PySem.W.Frag) (T : List (Addr × Str)) (mg : Str → Option Value) (Wh : WX) (bb : Bool) (es : Exs) : TA := fun σ H Q => ∃ ρ n F, Rl K T ρ n F σ H ∧ evs es ρ n (fun ds n' => ∀ vs F' H', Post K T ρ σ F H n' F' H' → Rzs bb K ρ σ F' vs ds → vs.length = exLen es → Q vs H') (kE K T mg ρ σ F H Wh)
theorem a_nil {bb : Bool} : PA X [] (tEs X.K T X.mg Wh bb .nil) := pa_nil.imp fun σ H Q ⟨ρ, n, F, r, q⟩ => q [] F H (.refl r) .nil rfl
theorem a_cons {bb : Bool} (hs : notStar a = true) (hb : bb = true → sg x = true) (ma : ∀ ρ, Mono (evE x ρ)) (mr : ∀ ρ, Mono (evs r ρ)) (ha : PE X a (RE X T Wh x)) (hr : PA X l (tEs X.K T X.mg Wh bb r)) : PA X (a :: l) (tEs X.K T X.mg Wh bb (.cons x r)) :=
  (pa_cons ha hr (notStar_eq hs l X.env)).imp fun σ H Q ⟨ρ, n, F, rl, q⟩ =>
    tE_seq (.refl rl) (ma ρ) q fun d1 n1 v1 F1 H1 p0 _ z1 h1 =>
      ⟨ρ, n1, F1, p0.rl, mr ρ _ _ _ _ _ (fun ds n2 hk vs F2 H2 p2 rz hl => hk (v1 :: vs) F2 H2 (p0.trans p2) (.cons ((z1.mono p2.grow.1).weak hb) rz) (by show vs.length + 1 = exLen r + 1; rw [hl])) (fun xx n2 hk F2 H2 c dd p2 z2 => hk F2 H2 c dd (p0.trans p2) z2) h1⟩
theorem r_tup {k : Nat} (hz : exLen es ≤ 1000) (me : ∀ ρ, Mono (evs es ρ)) (h : PA X l (tEs X.K T X.mg Wh true es)) : PE X (.Tuple l k pos) (RE X T Wh (.tup es)) :=
  (pe_tup h).imp fun σ H Q ⟨ρ, n, F, r, q⟩ =>
    ⟨ρ, n, F, r, me ρ _ _ _ _ _ (fun ds n2 hk vs F2 H2 p2 rz hl => ⟨by rw [sizeLine_eq, hl]; omega, fun p hp => hk _ _ _ (p2.trans (p2.rl.nw (.upd p2.rl.sub hp (notbl_tup _)))) (rp_newT (p2.rl.sub.nope hp) rz.rps)⟩) (fun _ _ z => z) q⟩
theorem r_lst (hz : exLen es ≤ 1000) (me : ∀ ρ, Mono (evs es ρ)) (h : PA X l (tEs X.K T X.mg Wh true es)) : PE X (.List l pos) (RE X T Wh (.lst es)) :=
  (pe_lst h).imp fun σ H Q ⟨ρ, n, F, r, q⟩ =>
    ⟨ρ, n, F, r, me ρ _ _ _ _ _ (fun ds n2 hk vs F2 H2 p2 rz hl => ⟨by rw [sizeLine_eq, hl]; omega, fun p hp => hk _ _ _ (p2.trans (p2.rl.nw (.upd p2.rl.sub hp (notbl_lst _)))) (rp_new (p2.rl.sub.nope hp) rz.rps)⟩) (fun _ _ z => z) q⟩

/-! ### calls of defs -/
inductive Ar (K : PySem.W.Frag) (ρ : Ev) (σ : L2.St) (F : Hp) : List V → List Sl → Prop
  | nil : Ar K ρ σ F [] []
  | val {v : V} {vs : List V} {d : D} {ss : List Sl} : Rp K F v d → Ar K ρ σ F vs ss → Ar K ρ σ F (v :: vs) (.val d :: ss)
  | deck {i : Nat} {v : V} {vs : List V} {ss : List Sl} : at_ ρ i = .deck → σ[i]? = some (some v) → Ar K ρ σ F vs ss → Ar K ρ σ F (v :: vs) (.deck :: ss)
section
variable {K : PySem.W.Frag} {ρ : Ev} {σ : L2.St} {F H F1 H1 : Hp} {n n1 : Nat} {vs : List V} {ss : List Sl}
theorem Ar.length (h : Ar K ρ σ F vs ss) : ss.length = vs.length := by
  induction h with
  | nil => rfl
  | val _ _ ih => simp [ih]
  | deck _ _ _ ih => simp [ih]
theorem Ar.val_at (h : Ar K ρ σ F vs ss) : ∀ i d, at_ ss i = .val d → ∃ v, vs[i]? = some v ∧ Rp K F v d := by
  induction h with
  | nil => intro i d e; cases e
  | val a _ ih =>
    intro i d e
    cases i with
    | zero => cases e; exact ⟨_, rfl, a⟩
    | succ i => exact ih i d e
  | deck _ _ _ ih =>
    intro i d e
    cases i with
    | zero => cases e
    | succ i => exact ih i d e
theorem Ar.deck_at (h : Ar K ρ σ F vs ss) : ∀ i, at_ ss i = .deck → ∃ j v, vs[i]? = some v ∧ at_ ρ j = .deck ∧ σ[j]? = some (some v) := by
  induction h with
  | nil => intro i e; cases e
  | val a _ ih =>
    intro i e
    cases i with
    | zero => cases e
    | succ i => exact ih i e
  | deck a b _ ih =>
    intro i e
    cases i with
    | zero => exact ⟨_, _, rfl, a, b⟩
    | succ i => exact ih i e
theorem Ar.no (h : Ar K ρ σ F vs ss) : ∀ i, (∃ d, at_ ss i = .val d) ∨ at_ ss i = .deck ∨ at_ ss i = .no := by
  induction h with
  | nil => intro i; exact .inr (.inr rfl)
  | val a _ ih =>
    intro i
    cases i with
    | zero => exact .inl ⟨_, rfl⟩
    | succ i => exact ih i
  | deck a b _ ih =>
    intro i
    cases i with
    | zero => exact .inr (.inl rfl)
    | succ i => exact ih i
end
def decksS : List Sl → Nat
  | [] => 0
  | s :: r => (match isDeck s with | true => 1 | false => 0) + decksS r
theorem decksS_pos : ∀ {ss : List Sl} {i : Nat}, at_ ss i = .deck → 1 ≤ decksS ss
  | s :: r, 0, h => by
    have h : s = .deck := h
    subst h
    show 1 ≤ 1 + _; omega
  | s :: r, i + 1, h => by
    have := decksS_pos (ss := r) (i := i) h
    show 1 ≤ _ + decksS r; omega
theorem decksS_one : ∀ {ss : List Sl} {i j : Nat}, decksS ss ≤ 1 → at_ ss i = .deck → at_ ss j = .deck → i = j
  | s :: r, 0, 0, _, _, _ => rfl
  | s :: r, 0, j + 1, h, h1, h2 => by
    have h1 : s = .deck := h1
    subst h1
    have := decksS_pos (ss := r) (i := j) h2
    have h : 1 + decksS r ≤ 1 := h
    omega
  | s :: r, i + 1, 0, h, h1, h2 => by
    have h2 : s = .deck := h2
    subst h2
    have := decksS_pos (ss := r) (i := i) h1
    have h : 1 + decksS r ≤ 1 := h
    omega
  | s :: r, i + 1, j + 1, h, h1, h2 => by
    have h' : decksS r ≤ 1 := by
      have h : _ + decksS r ≤ 1 := h
      omega
    rw [decksS_one (ss := r) h' h1 h2]
theorem any_deck : ∀ {ss : List Sl}, ss.any isDeck = true → ∃ i, at_ ss i = .deck
  | s :: r, h => by
    rw [List.any_cons] at h
    cases hs : isDeck s with
    | true =>
      refine ⟨0, ?_⟩
      cases s <;> first | rfl | cases hs
    | false =>
      rw [hs, Bool.false_or] at h
      obtain ⟨i, e⟩ := any_deck h
      exact ⟨i + 1, e⟩
theorem no_deck : ∀ {ss : List Sl}, ss.any isDeck = false → ∀ i, at_ ss i ≠ .deck
  | [], _, _, e => nomatch e
  | s :: r, h, 0, e => by
    have e : s = .deck := e
    subst e
    cases h
  | s :: r, h, i + 1, e => by
    rw [List.any_cons, Bool.or_eq_false_iff] at h
    exact no_deck h.2 i e
section
variable {K : PySem.W.Frag} {ρ : Ev} {σ : L2.St} {F H F1 H1 : Hp} {n n1 : Nat} {vs : List V} {ss : List Sl}
theorem some_map {vs : List V} {i : Nat} {v : V} (h : vs[i]? = some v) : (vs.map some)[i]? = some (some v) := by rw [List.getElem?_map, h]; rfl
theorem some_map' {vs : List V} {i : Nat} {v : V} (h : (vs.map some)[i]? = some (some v)) : vs[i]? = some v := by
  rw [List.getElem?_map] at h
  cases q : vs[i]? with
  | none => rw [q] at h; cases h
  | some u => rw [q] at h; cases h; rfl
/-- the callee's slots at the entry -/
theorem Ar.rl (h : Ar K ρ σ F vs ss) (r : Rl K T ρ n F σ H) (hd : decksS ss ≤ 1) : Rl K T ss n F (vs.map some) H := by
  have big_deck : ∀ i, big (at_ ss i) = true → at_ ss i = .deck := fun i e => by
    rcases h.no i with ⟨d, z⟩ | z | z
    · rw [z] at e; cases e
    · exact z
    · rw [z] at e; cases e
  refine ⟨r.sub, by rw [List.length_map, h.length], fun i d e => ?_, fun i ds e => ?_, fun i ds e => ?_, fun i e => ?_, fun i j a hij h1 h2 _ _ => ?_, r.tabs, r.pure, fun i j h1 h2 => decksS_one hd h1 h2⟩
  · obtain ⟨v, e1, e2⟩ := h.val_at i d e
    exact ⟨v, some_map e1, e2⟩
  · have := big_deck i (by rw [e]; rfl)
    rw [e] at this; cases this
  · have := big_deck i (by rw [e]; rfl)
    rw [e] at this; cases this
  · obtain ⟨j, v, e1, e2, e3⟩ := h.deck_at i e
    obtain ⟨a, x, y, z, k1, k2⟩ := r.deck j e2
    rw [e3] at k1
    cases k1
    exact ⟨a, x, y, z, some_map e1, k2⟩
  · exact absurd (decksS_one hd (big_deck i h1) (big_deck j h2)) hij
theorem Ar.dk (h : Ar K ρ σ F vs ss) {a : Addr} (q : Z.dk ss (vs.map some) a) : Z.dk ρ σ a := by
  obtain ⟨i, e1, e2⟩ := q
  obtain ⟨j, v, k1, k2, k3⟩ := h.deck_at i e1
  have := some_map' e2
  rw [k1] at this
  cases this
  exact ⟨j, k2, k3⟩
/-- behind the callee -/
theorem Ar.back (h : Ar K ρ σ F vs ss) (r : Rl K T ρ n F σ H) (p : Post K T ss (vs.map some) F H n1 F1 H1) : Post K T ρ σ F H (match ss.any isDeck with | true => n1 | false => n) F1 H1 := by
  have k : Keep (Z.dk ρ σ) H H1 := p.keep.mono fun b q => h.dk q
  refine ⟨r.back p.grow k p.rl.sub p.rl.tabs p.rl.pure fun i a e1 e2 => ?_, p.grow, k⟩
  cases hs : ss.any isDeck with
  | true =>
    obtain ⟨j, e⟩ := any_deck hs
    obtain ⟨l, v, k1, k2, k3⟩ := h.deck_at j e
    obtain ⟨b, x, y, z, m1, m2, _, m4⟩ := p.rl.deck j e
    have := some_map' m1
    rw [k1] at this
    cases this
    have il := r.one i l e1 k2
    subst il
    rw [e2] at k3
    cases k3
    exact ⟨x, y, z, m2, m4⟩
  | false =>
    obtain ⟨b, x, y, z, m1, m2, m3, m4⟩ := r.deck i e1
    rw [e2] at m1
    cases m1
    refine ⟨x, y, z, ?_, m4⟩
    rcases p.keep _ _ m2 with q | ⟨q | ⟨ps, q⟩, _⟩
    · exact q
    · obtain ⟨j, q1, _⟩ := q
      exact absurd q1 (no_deck hs j)
    · cases q
end

/-- what a def promises of a meaning -/
def callP (K : PySem.W.Frag) (T : List (Addr × Str)) (mg : Str → Option Value) (m : List Sl → W D) (ss : List Sl) (n : Nat) (F : Hp) (vs : List V) (H : Hp) (Q : VK) (E : XK) : Prop :=
  m ss n (fun d n' => ∀ v F' H', Post K T ss (vs.map some) F H n' F' H' → Rp K F' v d → Q v H') fun x n' => ∀ F' H' c dd, Post K T ss (vs.map some) F H n' F' H' → ExIs K mg x c dd F' H' → E c dd H'
structure Ent (P : Program) (w : World) (K : PySem.W.Frag) (mg : Str → Option Value) (base : Heap) (T : List (Addr × Str)) (f : Fn) : Prop where
  ex : ∃ g fd ps ds dvs sp, mg f.name = some (.ref g) ∧ PySem.W.keepIn K (.ref g) = true ∧ Binds K fd ps ds ∧ Vals dvs ds ∧ FnOk P w K mg base (L2N.CX P w) f.lvl g fd ps sp ∧
    ∀ ss n F vs H Q E, ss.length = f.ar → Rl K T ss n F (vs.map some) H → (∀ i, (∃ d, at_ ss i = .val d) ∨ at_ ss i = .deck ∨ at_ ss i = .no) → callP K T mg f.sem ss n F vs H Q E → sp (vs ++ dvs) H Q E
  mono : MonoF f
abbrev EntX (X : Cx) (T : List (Addr × Str)) : Fn → Prop := Ent X.prog X.w X.K X.mg X.base T

/-- a call whose wish of exceptions leans on the slots, with defaults -/
theorem run_fnD {CX : CXT} {k : Nat} {f : Addr} {fd : FuncData} {ps : List Str} {sp : Sp} {dvs : List V} {dv : List Value} {E : L2.St → XK} {pins : List (Addr × Obj)} {σ : L2.St} {H : Hp} {s : Shared} {Q : VK} {us : List Value} {vs : List V}
    (F : FnOk X.prog X.w X.K X.mg X.base CX k f fd ps sp) (hr : Room k X.A) (hb : Binds X.K fd ps dv) (hd : Vals dvs dv) (hx : PassesAt CX X σ (E σ))
    (I : Inv X pins σ H s) (r : Vals vs us) (h : sp (vs ++ dvs) H Q (E σ)) : wpAny (model X.prog X.w) X.A (call (.ref f) us) (EP X pins σ Q) X.xe s := by
  have r2 : Vals (vs ++ dvs) (us ++ dv) := r.append hd
  have hl : (us ++ dv).length = ps.length := by rw [← r2.length]; exact F.len _ _ _ _ h
  refine wpAny_call (codeAny_mono (F.run X.A X.stack s H ⟨us, []⟩ (us ++ dv) (vs ++ dvs) Q (E σ) hr I.env0 (hb s us I.kIn hl) r2 h) fun r s' hq => ?_)
  cases r with
  | error e => exact hx pins H s e s' I hq
  | ok fl =>
    cases fl with
    | ret u => exact I.after hq
    | next => exact False.elim hq
    | brk => exact False.elim hq
    | cont => exact False.elim hq
theorem pe_callD {CX : CXT} {k : Nat} {f : Addr} {fd : FuncData} {ps : List Str} {sp : Sp} {dvs : List V} {dv : List Value} {E : L2.St → XK} {x : Str} {p : Pos} {t : TA} (F : FnOk X.prog X.w X.K X.mg X.base CX k f fd ps sp) (hr : Room k X.A) (hg : Gl X x) (hm : X.mg x = some (.ref f)) (hk : PySem.W.keepIn X.K (.ref f) = true) (hb : Binds X.K fd ps dv) (hd : Vals dvs dv) (hx : ∀ σ, PassesAt CX X σ (E σ))
    (ha : PA X l t) (hdb : (x == ("__debug__" : Str)) = false) (hst : l.all notStar = true) (hne : l ≠ []) :
    PE X (.Call (.Name x p) l [] pos) (fun σ H Q => t σ H fun vs H1 => sp (vs ++ dvs) H1 Q (E σ)) := by
  have noStar : ∀ (m : List Expr), m.all notStar = true → (backTo pos (starEach m X.env)).any (·.1) = false := by
    intro m
    induction m with
    | nil => intro _; rfl
    | cons a r ih =>
      intro h
      rw [List.all_cons, Bool.and_eq_true] at h
      rw [notStar_eq h.1]
      show (false || (backTo pos (starEach r X.env)).any (·.1)) = false
      rw [ih h.2]; rfl
  refine ⟨fun pins s σ H Q I h => ?_⟩
  refine wpAny_Call_Name_kw (ld_glob I hg hm ?_ hdb)
  cases l with
  | nil => exact absurd rfl hne
  | cons a r =>
    have h1 := hst
    rw [List.all_cons, Bool.and_eq_true] at h1
    refine PySem.W.callWith_K (h₀ := X.base) I.ok.mod.kin hk (thn (ha.run pos pins s σ H _ I h) fun us s1 ⟨vs, H1, I1, r, q⟩ => ⟨I1.kIn, ?_⟩) (notStar_eq h1.1 r X.env) (noStar r h1.2)
    exact run_fnD F hr hb hd (hx σ) I1 r q
theorem pe_callD0 {CX : CXT} {k : Nat} {f : Addr} {fd : FuncData} {ps : List Str} {sp : Sp} {dvs : List V} {dv : List Value} {E : L2.St → XK} {x : Str} {p : Pos} (F : FnOk X.prog X.w X.K X.mg X.base CX k f fd ps sp) (hr : Room k X.A) (hg : Gl X x) (hm : X.mg x = some (.ref f)) (hk : PySem.W.keepIn X.K (.ref f) = true) (hb : Binds X.K fd ps dv) (hd : Vals dvs dv) (hx : ∀ σ, PassesAt CX X σ (E σ))
    (hdb : (x == ("__debug__" : Str)) = false) :
    PE X (.Call (.Name x p) [] [] pos) (fun σ H Q => sp ([] ++ dvs) H Q (E σ)) := by
  refine ⟨fun pins s σ H Q I h => ?_⟩
  refine wpAny_Call_Name_kw (ld_glob I hg hm ?_ hdb)
  exact PySem.W.callWith_K0 I.kIn hk (run_fnD (us := []) F hr hb hd (hx σ) I .nil h)
end
end Z
end
-- Z11
section
set_option Elab.async false
set_option linter.all false
set_option maxRecDepth 100000
set_option maxHeartbeats 1000000
/-! Z11: arguments, calls, built-ins, slices. -/
namespace Z
open PySem PySem.Spec PyProof.Rows L2

section
variable {X : Cx} {T : List (Addr × Str)} {c : CkC} {Wh : WX} {e a b d : Expr} {x y z : Ex} {pos p2 : Pos} {l : List Expr} {es r : Exs} {as : As}
def tAs (K : PySem.W.Frag) (T : List (Addr × Str)) (mg : Str → Option Value) (Wh : WX) (as : As) : TA := fun σ H Q => ∃ ρ n F, Rl K T ρ n F σ H ∧ evA as ρ n (fun ss n' => ∀ vs F' H', Post K T ρ σ F H n' F' H' → Ar K ρ σ F' vs ss → ss.length = asLen as → decksS ss = decks as → Q vs H') (kE K T mg ρ σ F H Wh)
theorem Ar.mono {K : PySem.W.Frag} {ρ : Ev} {σ : L2.St} {F F1 : Hp} {vs : List V} {ss : List Sl} (h : Ar K ρ σ F vs ss) (s : Sub F F1) : Ar K ρ σ F1 vs ss := by
  induction h with
  | nil => exact .nil
  | val a _ ih => exact .val (a.mono s) ih
  | deck a b _ ih => exact .deck a b ih
theorem ar_nil : PA X [] (tAs X.K T X.mg Wh .nil) := pa_nil.imp fun σ H Q ⟨ρ, n, F, r, q⟩ => q [] F H (.refl r) .nil rfl rfl
theorem ar_val (hs : notStar a = true) (hb : sg x = true) (ma : ∀ ρ, Mono (evE x ρ)) (mr : ∀ ρ, Mono (evA as ρ)) (ha : PE X a (RE X T Wh x)) (hr : PA X l (tAs X.K T X.mg Wh as)) : PA X (a :: l) (tAs X.K T X.mg Wh (.val x as)) :=
  (pa_cons ha hr (notStar_eq hs l X.env)).imp fun σ H Q ⟨ρ, n, F, rl, q⟩ =>
    tE_seq (.refl rl) (ma ρ) q fun d1 n1 v1 F1 H1 p0 _ z1 h1 => by
      rw [hb] at z1
      exact ⟨ρ, n1, F1, p0.rl, mr ρ _ _ _ _ _ (fun ss n2 hk vs F2 H2 p2 rz hl hd => hk (v1 :: vs) F2 H2 (p0.trans p2) (.val (Rp.mono p2.grow.1 z1) rz) (by show ss.length + 1 = asLen as + 1; rw [hl]) (by show 0 + decksS ss = decks as; rw [hd, Nat.zero_add])) (fun xx n2 hk F2 H2 c dd p2 z2 => hk F2 H2 c dd (p0.trans p2) z2) h1⟩
theorem ar_deck {i : Nat} (G : Good T X c Wh) (h : slotB c i a = true) (hs : notStar a = true) (mr : ∀ ρ, Mono (evA as ρ)) (hr : PA X l (tAs X.K T X.mg Wh as)) : PA X (a :: l) (tAs X.K T X.mg Wh (.deck i as)) := by
  obtain ⟨x, p, rfl, h1, h2, h3, h4⟩ := slotB_eq h
  refine (pa_cons (pe_var (by rw [G.eN]; exact h1) (by rw [G.sc]; exact h2) h3 h4) hr (notStar_eq hs l X.env)).imp fun σ H Q ⟨ρ, n, F, rl, q⟩ => ?_
  have q : (match at_ ρ i with | .deck => bnd (evA as ρ) fun xs => ok (Sl.deck :: xs) | _ => (stuck : W (List Sl))) n _ _ := q
  cases hd : at_ ρ i with
  | deck =>
    rw [hd] at q
    obtain ⟨a, x, y, z, e1, e2⟩ := rl.deck i hd
    exact ⟨.ref a, e1, ρ, n, F, rl, mr ρ _ _ _ _ _ (fun ss n2 hk vs F2 H2 p2 rz hl hdk => hk (.ref a :: vs) F2 H2 p2 (.deck hd e1 rz) (by show ss.length + 1 = asLen as + 1; rw [hl]) (by show 1 + decksS ss = decks as + 1; rw [hdk, Nat.add_comm])) (fun _ _ z => z) q⟩
  | _ => rw [hd] at q; exact q.elim
theorem call_arg {K : PySem.W.Frag} {mg : Str → Option Value} {ρ : Ev} {σ : L2.St} {F H F1 H1 : Hp} {n1 : Nat} {vs : List V} {ss : List Sl} {f : Fn} {Q : VK} (mf : MonoF f) (p0 : Post K T ρ σ F H n1 F1 H1) (ar : Ar K ρ σ F1 vs ss)
    (h : callW f ss n1 (kP K T ρ σ F H true Q) (kE K T mg ρ σ F H Wh)) : callP K T mg f.sem ss n1 F1 vs H1 Q (WE Wh σ) := by
  unfold callW at h
  have ab : ∀ {n2 : Nat} {F2 H2 : Hp}, Post K T ss (vs.map some) F1 H1 n2 F2 H2 → Post K T ρ σ F H (match ss.any isDeck with | true => n2 | false => n1) F2 H2 := fun p2 => p0.trans (ar.back p0.rl p2)
  cases hs : ss.any isDeck with
  | true =>
    rw [hs] at h ab
    exact mf ss _ _ _ _ _ (fun d n2 hk v F2 H2 p2 rp => hk v F2 H2 (ab p2) rp) (fun xx n2 hk F2 H2 c dd p2 z2 => hk F2 H2 c dd (ab p2) z2) h
  | false =>
    rw [hs] at h ab
    exact mf ss _ _ _ _ _ (fun d n2 hk v F2 H2 p2 rp => hk v F2 H2 (ab p2) rp) (fun xx n2 hk F2 H2 c dd p2 z2 => hk F2 H2 c dd (ab p2) z2) h
theorem r_call {f : Fn} {p : Pos} (G : Good T X c Wh) (hf : EntX X T f) (hg : glB c.sc f.name = true) (hl : f.lvl ≤ c.lvl) (ha : asLen as = f.ar) (hd : decks as ≤ 1) (hst : l.all notStar = true) (hll : l.length = asLen as) (ma : ∀ ρ, Mono (evA as ρ)) (h : PA X l (tAs X.K T X.mg Wh as)) :
    PE X (.Call (.Name f.name p) l [] pos) (RE X T Wh (.call f as)) := by
  obtain ⟨g, fd, ps, ds, dvs, sp, h1, h2, h3, h4, h5, h6⟩ := hf.ex
  obtain ⟨g1, g2⟩ := G.gl hg
  have red : ∀ σ H Q, RE X T Wh (.call f as) σ H Q → tAs X.K T X.mg Wh as σ H fun vs H1 => sp (vs ++ dvs) H1 Q (WE Wh σ) := fun σ H Q ⟨ρ, n, F, rl, q⟩ =>
    ⟨ρ, n, F, rl, ma ρ _ _ _ _ _ (fun ss n2 hk vs F2 H2 p2 ar hls hds => h6 ss n2 F2 vs H2 Q (WE Wh σ) (hls.trans ha) (ar.rl p2.rl (by rw [hds]; exact hd)) ar.no (call_arg hf.mono p2 ar hk)) (fun _ _ z => z) q⟩
  cases l with
  | nil =>
    cases as with
    | nil =>
      refine (pe_callD0 h5 (G.room.mono hl) g1 h1 h2 h3 h4 (fun σ => L2N.passAt G.takes σ) g2).imp fun σ H Q q => ?_
      obtain ⟨ρ, n, F, rl, q⟩ := red σ H Q q
      exact q [] F H (.refl rl) .nil rfl rfl
    | val _ _ => cases hll
    | deck _ _ => cases hll
  | cons a r => exact (pe_callD h5 (G.room.mono hl) g1 h1 h2 h3 h4 (fun σ => L2N.passAt G.takes σ) h g2 hst (fun z => nomatch z)).imp red

/-! ### built-ins -/
theorem noStars : ∀ (m : List Expr) (env : Env), m.all notStar = true → (backTo pos (starEach m env)).any (·.1) = false := by
  intro m env
  induction m with
  | nil => intro _; rfl
  | cons a r ih =>
    intro h
    rw [List.all_cons, Bool.and_eq_true] at h
    rw [notStar_eq h.1]
    show (false || (backTo pos (starEach r env)).any (·.1)) = false
    rw [ih h.2]; rfl
theorem red_bi {B : Bi} (me : ∀ ρ, Mono (evs es ρ)) : ∀ σ H Q, RE X T Wh (.bi B es) σ H Q → tCB (rB X.K (biS B)) (tEs X.K T X.mg Wh false es) σ H Q := fun σ H Q ⟨ρ, n, F, rl, q⟩ =>
  ⟨ρ, n, F, rl, me ρ _ _ _ _ _ (fun ds n2 hk vs F2 H2 p2 rz hl => by
    obtain ⟨zz, e1, hk⟩ := (det_biS B ds).get hk
    exact ⟨F2, ds, zz, p2.rl.sub, p2.rl.pure, rz.rws p2.rl, e1, fun v F' H' nw rp => hk v F' H' (p2.trans (p2.rl.nw nw)) (Rz.of rp)⟩) (fun _ _ z => z) q⟩
theorem r_biB {B : Bi} {x : Str} {idS : String} {p : Pos} (hc : CallR X (.builtin idS) (rB X.K (biS B))) (hg : Gl X x) (hm : X.mg x = none) (hv : bootBuiltins x = some (.builtin idS)) (hn : x ≠ "__name__") (hdb : (x == ("__debug__" : Str)) = false) (hst : l.all notStar = true) (hne : l ≠ []) (me : ∀ ρ, Mono (evs es ρ)) (ha : PA X l (tEs X.K T X.mg Wh false es)) :
    PE X (.Call (.Name x p) l [] pos) (RE X T Wh (.bi B es)) := by
  cases l with
  | nil => exact absurd rfl hne
  | cons e r =>
    have h1 := hst
    rw [List.all_cons, Bool.and_eq_true] at h1
    exact (pe_callB hc hg hm hv ha hn hdb (notStar_eq h1.1 r X.env) (noStars r X.env h1.2)).imp (red_bi me)
theorem r_biT {B : Bi} {x : Str} {idS : String} {p : Pos} (hc : CallR X (.type idS) (rB X.K (biS B))) (hg : Gl X x) (hm : X.mg x = none) (hv : bootBuiltins x = some (.type idS)) (hn : x ≠ "__name__") (hdb : (x == ("__debug__" : Str)) = false) (hst : l.all notStar = true) (hne : l ≠ []) (me : ∀ ρ, Mono (evs es ρ)) (ha : PA X l (tEs X.K T X.mg Wh false es)) :
    PE X (.Call (.Name x p) l [] pos) (RE X T Wh (.bi B es)) := by
  cases l with
  | nil => exact absurd rfl hne
  | cons e r =>
    have h1 := hst
    rw [List.all_cons, Bool.and_eq_true] at h1
    exact (pe_callTy hc hg hm hv ha hn hdb (notStar_eq h1.1 r X.env) (noStars r X.env h1.2)).imp (red_bi me)
/-- isinstance(a, T) -/
theorem r_is1 {B : Bi} {n : String} {p pk : Pos} {xs : Str} (hx : xs = Str.ofString n) (hb : isK B = [n]) (hn : n ∈ ["int", "bool", "str", "tuple", "list"]) (hv : bootBuiltins xs = some (.type n)) (hg : Gl X "isinstance") (hm : X.mg "isinstance" = none) (hgk : Gl X xs) (hmk : X.mg xs = none) (hnk : xs ≠ "__name__") (hdk : (xs == ("__debug__" : Str)) = false)
    (hs : notStar a = true) (ma : ∀ ρ, Mono (evE x ρ)) (ha : PE X a (RE X T Wh x)) : PE X (.Call (.Name "isinstance" p) [a, .Name xs pk] [] pos) (RE X T Wh (.bi B (.cons x .nil))) := by
  have hk : PE X (.Name xs pk) (tC (.ty n)) := pe_bltn hgk hmk hv rfl hnk hdk
  have hA : PA X [a, .Name xs pk] (tCons (RE X T Wh x) (tCons (tC (.ty n)) tNil)) := pa_cons ha (pa_cons hk pa_nil) (notStar_eq hs _ _)
  refine (pe_callB (cb_is1 hb hn) hg hm boot_isinstance hA (by decide) (by decide) (notStar_eq hs _ _) rfl).imp fun σ H Q ⟨ρ, n, F, rl, q⟩ =>
    tE_seq (f := fun d => bnd (ok [d]) fun ds => biS B ds) (.refl rl) (ma ρ) q fun d1 n1 v1 F1 H1 p0 _ z1 h1 => ?_
  obtain ⟨zz, e1, hk⟩ := (det_biS B [d1]).get h1
  exact ⟨F1, v1, d1, zz, rfl, p0.rl.sub, z1.w p0.rl, e1, fun v rp => hk v F1 H1 p0 (Rz.of rp)⟩
theorem r_isTL {p q1 q2 q3 : Pos} {kk : Nat} (hg : Gl X "isinstance") (hm : X.mg "isinstance" = none) (hg1 : Gl X "tuple") (hm1 : X.mg "tuple" = none) (hg2 : Gl X "list") (hm2 : X.mg "list" = none)
    (hs : notStar a = true) (ma : ∀ ρ, Mono (evE x ρ)) (ha : PE X a (RE X T Wh x)) : PE X (.Call (.Name "isinstance" p) [a, .Tuple [.Name "tuple" q1, .Name "list" q2] kk q3] [] pos) (RE X T Wh (.bi .isTL (.cons x .nil))) := by
  have k1 : PE X (.Name "tuple" q1) (tC (.ty "tuple")) := pe_bltn hg1 hm1 boot_tuple rfl
  have k2 : PE X (.Name "list" q2) (tC (.ty "list")) := pe_bltn hg2 hm2 boot_list rfl
  have hk : PE X (.Tuple [.Name "tuple" q1, .Name "list" q2] kk q3) (tTup (tCons (tC (.ty "tuple")) (tCons (tC (.ty "list")) tNil))) := pe_tup (pa_cons k1 (pa_cons k2 pa_nil))
  have hA := pa_cons ha (pa_cons hk pa_nil) (notStar_eq hs _ _)
  refine (pe_callB cb_is2 hg hm boot_isinstance hA (by decide) (by decide) (notStar_eq hs _ _) rfl).imp fun σ H Q ⟨ρ, n, F, rl, q⟩ =>
    tE_seq (f := fun d => bnd (ok [d]) fun ds => biS .isTL ds) (.refl rl) (ma ρ) q fun d1 n1 v1 F1 H1 p0 _ z1 h1 => ?_
  obtain ⟨zz, e1, hk⟩ := (det_biS .isTL [d1]).get h1
  refine ⟨by rw [sizeLine_eq]; decide, fun pp hp => ?_⟩
  have p1 := p0.trans (p0.rl.nw (.upd p0.rl.sub hp (notbl_tup [.ty "tuple", .ty "list"])))
  exact ⟨_, v1, d1, zz, pp, rfl, upd_same, p1.rl.sub, (z1.mono (sub_upd (p0.rl.sub.nope hp))).w p1.rl, e1, fun v rp => hk v _ _ p1 (Rz.of rp)⟩

/-! ### slices -/
def tOs (K : PySem.W.Frag) (T : List (Addr × Str)) (mg : Str → Option Value) (Wh : WX) (o : Ox) : TO := fun σ H Q => ∃ ρ n F, Rl K T ρ n F σ H ∧ evO o ρ n (fun i n' => ∀ F' H', Post K T ρ σ F H n' F' H' → Q i H') (kE K T mg ρ σ F H Wh)
theorem o_none : PO X none (tOs X.K T X.mg Wh .none) := po_none.imp fun σ H Q ⟨ρ, n, F, r, q⟩ => q F H (.refl r)
theorem o_some (ma : ∀ ρ, Mono (evE x ρ)) (ha : PE X a (RE X T Wh x)) : PO X (some a) (tOs X.K T X.mg Wh (.some x)) := (po_some ha).imp fun σ H Q ⟨ρ, n, F, rl, q⟩ =>
  tE_seq (f := fun d => bnd (intOf d) fun i => ok (some i)) (.refl rl) (ma ρ) q fun d1 n1 v1 F1 H1 p0 _ z1 h1 => by
    cases d1 with
    | int i => exact ⟨i, z1.int, h1 F1 H1 p0⟩
    | _ => exact h1.elim
theorem r_slc {lo hi : Option Expr} {l h : Ox} (ma : ∀ ρ, Mono (evE x ρ)) (ml : ∀ ρ, Mono (evO l ρ)) (mh : ∀ ρ, Mono (evO h ρ)) (ha : PE X a (RE X T Wh x)) (hl : PO X lo (tOs X.K T X.mg Wh l)) (hh : PO X hi (tOs X.K T X.mg Wh h)) :
    PE X (.Subscript a (.Slice lo hi none p2) pos) (RE X T Wh (.slc x l h)) :=
  (pe_slice sr_sl ha hl hh).imp fun σ H Q ⟨ρ, n, F, rl, q⟩ =>
    tE_seq (.refl rl) (ma ρ) q fun d1 n1 v1 F1 H1 p0 _ z1 h1 =>
      ⟨ρ, n1, F1, p0.rl, ml ρ _ _ _ _ _ (fun i n2 hk F2 H2 q0 => ⟨ρ, n2, F2, q0.rl, mh ρ _ _ _ _ _ (fun j n3 hk F3 H3 s0 => by
          obtain ⟨zz, e1, hk⟩ := (det_slS d1 i j).get hk
          exact ⟨F3, d1, zz, s0.rl.sub, s0.rl.pure, ((z1.mono q0.grow.1).mono s0.grow.1).w s0.rl, e1, fun v F' H' nw rp => hk v F' H' (p0.trans (q0.trans (s0.trans (s0.rl.nw nw)))) (Rz.of rp)⟩)
        (fun xx n2 hk F2 H2 c dd p2 z2 => hk F2 H2 c dd (p0.trans (q0.trans p2)) z2) hk⟩) (fun xx n2 hk F2 H2 c dd p2 z2 => hk F2 H2 c dd (p0.trans p2) z2) h1⟩
end
end Z
end
-- Z5s
section
set_option Elab.async false
set_option linter.all false
set_option maxRecDepth 100000
set_option maxHeartbeats 4000000
/-! Z5s: set of ints, sorted, its size; list(range). -/
namespace Z
open PySem PySem.Spec PyProof.Rows L2

section
variable {P : Program} {w : World} {A : Around} {E : Value → Shared → Prop} {s : Shared}
set_option maxRecDepth 100000 in
set_option maxHeartbeats 3200000 in
theorem call_set_lstI {l : Addr} {items : Array Value} (ns : List Int) {Q : Value → Shared → Prop} (hh : A.handled = none) (hl : s.heap.IsList l items) (hit : IntsAre items.toList ns) (hb : ns.length + 1 < scanBound)
    (h : ∀ (h' : Heap) (tk c : Nat), SetR w h' s.heap.objs.size (fun j => decide (j ∈ ns)) c → c ≤ ns.length → (∀ b o, s.heap.get? b = some o → h'.get? b = some o) → Q (.ref s.heap.objs.size) { s with heap := h', toks := tk }) :
    wpAny (model P w) A (call (.type "set") [.ref l]) Q E s := by
  have hisz : items.size = ns.length := by
    have q := IntsAre.length hit
    rw [Array.length_toList] at q
    exact q
  obtain ⟨c, tl, hmro⟩ := F.called_set.mro
  have hmade := F.called_set.made
  have hsub := F.called_set.sub
  refine wpAny_call (codeAny_of_tree ?_)
  show wpAny _ _ (callAny (.type "set") _) _ _ _
  refine wpAny_pure ⟨Code.quiet_builtin _ (by decide +kernel), codeAny_builtin F.entry_type_call ?_⟩
  rw [Around.under_plain (weight_type_call_type "set" [.ref l] []) rfl]
  have h1 := F.called_set.notType
  have h2 := F.called_set.canCreate
  have hct := F.typeCall_set_1 (.ref l)
  repeat (any_goals (first | assumption | wp_step))

  refine codeAny_mono (code_set_led1 (.ref l) (E := E) (Q₁ := fun obj s₁ => obj = .ref s.heap.objs.size ∧ s₁ = { s with heap := s.heap.push { cls := .type "set", dict := none, data := .set #[] 0 (.fresh 0 0 (!w.params.followText "set-order")) } }) ⟨rfl, rfl⟩) fun r s₁ hr => ?_
  cases r with
  | error e => exact hr
  | ok fl =>
    cases fl with
    | ret obj =>
      obtain ⟨rfl, rfl⟩ := hr
      have hS : (s.heap.push { cls := .type "set", dict := none, data := .set #[] 0 (.fresh 0 0 (!w.params.followText "set-order")) }).get? s.heap.objs.size = some { cls := .type "set", dict := none, data := .set #[] 0 (.fresh 0 0 (!w.params.followText "set-order")) } := Heap.get?_push_size _ rfl
      have hT : Shared.TypeIs { s with heap := s.heap.push { cls := .type "set", dict := none, data := .set #[] 0 (.fresh 0 0 (!w.params.followText "set-order")) } } (.ref s.heap.objs.size) "set" := ⟨_, hS, rfl⟩
      have hli := F.called_set.init.lookup
      have hbi := F.called_set.init.bind (.ref s.heap.objs.size)
      repeat (any_goals (first | assumption | wp_step))

      refine codeAny_mono (codeAny_call_builtin (R := wants (fun r s₂ => r = .none ∧ ∃ h' tk c, s₂ = { s with heap := h', toks := tk } ∧ SetR w h' s.heap.objs.size (fun j => decide (j ∈ ns)) c ∧ c ≤ ns.length ∧
          (∀ b o, s.heap.get? b = some o → h'.get? b = some o)) E) F.called_set.init.plain F.entry_set_init (check_set_init_1 hT ?_)) fun r₂ s₂ hr₂ => ?_
      · obtain ⟨ol, hol, hcl, nl, hdl⟩ := hl
        obtain ⟨ocls, odict, odata, oslots⟩ := ol
        simp only at hcl hdl
        subst hcl; subst hdl
        have hol' : (s.heap.push { cls := .type "set", dict := none, data := .set #[] 0 (.fresh 0 0 (!w.params.followText "set-order")) }).get? l = some { cls := .type "list", dict := odict, data := .seq items nl, slots := oslots } := Heap.get?_push_of_some _ hol
        have hsls := F.sub_list_set
        have hslf := F.sub_list_frozenset
        have hne : (Value.type "list" == Value.type "dict") = false := by decide
        have hl1 : (s.heap.push { cls := .type "set", dict := none, data := .set #[] 0 (.fresh 0 0 (!w.params.followText "set-order")) }).IsList l items := ⟨_, hol', rfl, nl, rfl⟩
        unfold Builtin.«set.__init__» noKeywords Builtin.Frozenset.updateFrom
        generalize hPI : pyIter = PI
        wp_walk
        subst hPI

        refine wpAny_pyIter_list hl1 ?_
        refine wpAny_bind (wpAny_runValue ?_)
        have hlS : l < s.heap.objs.size := Heap.lt_size hol
        have hh3 : A.in1.in1.in1.handled = none := by simp [hh]
        have hz1 : (s.heap.push { cls := .type "set", dict := none, data := .set #[] 0 (.fresh 0 0 (!w.params.followText "set-order")) }).objs.size = s.heap.objs.size + 1 := Heap.size_push ..
        have hneI : l ≠ (s.heap.push { cls := .type "set", dict := none, data := .set #[] 0 (.fresh 0 0 (!w.params.followText "set-order")) }).objs.size := by
          rw [Heap.size_push]; exact Nat.ne_of_lt (Nat.lt_succ_of_lt hlS)
        have hSf : s.heap.objs.size ∉ [(s.heap.push { cls := .type "set", dict := none, data := .set #[] 0 (.fresh 0 0 (!w.params.followText "set-order")) }).objs.size, l] := by
          rw [Heap.size_push]; simp only [List.mem_cons, List.mem_singleton, List.not_mem_nil, or_false, not_or]
          exact ⟨Nat.ne_of_lt (Nat.lt_succ_self _), Nat.ne_of_gt hlS⟩
        have hval : ∀ (i : Nat) (v : Value), items[i]? = some v → ∃ k t, ns[i]? = some k ∧ v = .int k t := fun i v hv => by
          have hi : i < ns.length := by rw [← hisz]; exact (Array.getElem?_eq_some_iff.mp hv).1
          obtain ⟨t, e⟩ := PyProof.Rows.IntsAre.int_at hit i v (by rw [Array.getElem?_toList]; exact hv)
          refine ⟨ns[i], t, List.getElem?_eq_getElem hi, ?_⟩
          rw [e, List.getD_eq_getElem?_getD, List.getElem?_eq_getElem hi] <;> rfl
        refine set_update_ints ((Walks.list hh3 _ l hneI items).toS) s.heap.objs.size
          hSf ns hisz hb hval (items.size - 0) 0 _ (by omega) (Nat.zero_le _)
          ⟨⟨_, Heap.get?_push_size _ rfl, rfl, rfl⟩, (hl1.push _)⟩ ?hS0 ?hR
        case hS0 =>
          have hget : ((s.heap.push { cls := .type "set", dict := none, data := .set #[] 0 (.fresh 0 0 (!w.params.followText "set-order")) }).push { cls := .type "list_iterator", data := .fields #[.ref l, .int 0 0] }).get? s.heap.objs.size
              = some { cls := .type "set", dict := none, data := .set #[] 0 (.fresh 0 0 (!w.params.followText "set-order")) } := Heap.get?_push_of_some _ hS
          exact ⟨0, Nat.le_refl 0, setR_new_at hget⟩
        case hR =>
          intro s' c' hm hc' hS'
          obtain ⟨h', g2, d', tk', os'⟩ := s'
          have eg : g2 = s.gens := hm.gens
          have ed : d' = s.drawn := hm.drawn
          have eo : os' = s.os := hm.os
          subst eg; subst ed; subst eo
          show wpAny _ _ _ _ _ _
          refine wpAny_pure ?_
          show wpAny _ _ (ret Value.none) _ _ _
          rw [hisz] at hc'
          refine wpAny_pure ⟨rfl, h', tk', c', rfl, hS', hc', fun b o e => ?_⟩
          have hb0 : b < s.heap.objs.size := Heap.lt_size e
          have hb1 : b ≠ s.heap.objs.size := Nat.ne_of_lt hb0
          have hb2 : b ≠ (s.heap.push { cls := .type "set", dict := none, data := .set #[] 0 (.fresh 0 0 (!w.params.followText "set-order")) }).objs.size := by
            rw [Heap.size_push]; exact Nat.ne_of_lt (Nat.lt_succ_of_lt hb0)
          exact hm.heap b o (by simp only [List.mem_cons, List.mem_singleton, List.not_mem_nil, or_false, not_or]; exact ⟨hb1, hb2⟩) (Heap.get?_push_of_some _ (Heap.get?_push_of_some _ e))

      · cases r₂ with
        | error e => exact hr₂
        | ok fl₂ =>
          cases fl₂ with
          | ret r =>
            obtain ⟨rfl, h', tk, c', rfl, hS', hc', hk'⟩ := hr₂
            repeat (any_goals (first | assumption | wp_step))
            exact h _ _ _ hS' hc' hk'
          | _ => exact hr₂.elim
    | _ => exact hr.elim

end

/-! ### sets of ints by data -/
theorem dup_mem {l : List Int} {k : Int} : k ∈ l.eraseDups ↔ k ∈ l := List.mem_eraseDups
theorem dup_nodup : ∀ (n : Nat) (l : List Int), l.length ≤ n → l.eraseDups.Nodup
  | 0, l, h => by
    have e : l = [] := List.length_eq_zero_iff.mp (by omega)
    subst e
    simp
  | n + 1, [], h => by simp
  | n + 1, a :: l, h => by
    rw [List.eraseDups_cons, List.nodup_cons]
    refine ⟨fun m => ?_, dup_nodup n _ (Nat.le_trans (List.length_filter_le _ _) (by simpa using h))⟩
    have := dup_mem.mp m
    simp at this
theorem len_of {l m : List Int} (h : l.Nodup) (hm : ∀ k, k ∈ l ↔ k ∈ m) : l.length = m.eraseDups.length :=
  ((List.perm_ext_iff_of_nodup h (dup_nodup _ m (Nat.le_refl _))).mpr fun k => (hm k).trans dup_mem.symm).length_eq
end Z
end
-- Z11s
section
set_option Elab.async false
set_option linter.all false
set_option maxRecDepth 100000
set_option maxHeartbeats 2000000
/-! Z11s: list(range(a)), sorted(set(a)), len(set(a)). -/
namespace Z
open PySem PySem.Spec PyProof.Rows L2

section
variable {X : Cx} {T : List (Addr × Str)} {c : CkC} {Wh : WX} {a : Expr} {x : Ex} {pos p p2 q2 : Pos} {ta : TE}
theorem r_listR (hc : X.calm = true) (hg : Gl X "list") (hm : X.mg "list" = none) (hg2 : Gl X "range") (hm2 : X.mg "range" = none) (hs : notStar a = true) (ma : ∀ ρ, Mono (evE x ρ)) (ha : PE X a (RE X T Wh x)) :
    PE X (.Call (.Name "list" p) [.Call (.Name "range" p2) [a] [] q2] [] pos) (RE X T Wh (.bi .listR (.cons x .nil))) :=
  (pe_listRg hc hg hm (prg_1 hg2 hm2 ha (notStar_eq hs _ _))).imp fun σ H Q ⟨ρ, n, F, rl, q⟩ =>
    tE_seq (f := fun d => bnd (ok [d]) fun ds => biS .listR ds) (.refl rl) (ma ρ) q fun d1 n1 v1 F1 H1 p0 _ z1 h1 => by
      cases d1 with
      | int j =>
        have h1 : chk (decide (-100000 ≤ j ∧ j ≤ 100000)) (ok (D.lst ((List.range j.toNat).map fun (i : Nat) => D.int (i : Int)))) n1 _ _ := h1
        cases hj : decide (-100000 ≤ j ∧ j ≤ 100000) with
        | false => rw [hj] at h1; exact h1.elim
        | true =>
          rw [hj] at h1
          obtain ⟨j0, j1⟩ := of_decide_eq_true hj
          refine ⟨j, by rw [z1.int], ⟨by omega, by omega, by omega, by omega, by omega⟩, fun u hu => h1 _ _ _ (p0.trans (p0.rl.nw (.upd p0.rl.sub hu (notbl_lst _)))) (Rz.of (rp_new (p0.rl.sub.nope hu) ?_))⟩
          have e : rgV 0 j = ((List.range j.toNat).map fun (i : Nat) => (i : Int)).map V.int := by
            unfold rgV
            rw [List.map_map, Int.sub_zero]
            congr 1
            funext i
            simp
          have e2 : ((List.range j.toNat).map fun (i : Nat) => D.int (i : Int)) = ((List.range j.toNat).map fun (i : Nat) => (i : Int)).map D.int := by rw [List.map_map]; rfl
          rw [e, e2]
          exact rps_ints _
      | _ => exact h1.elim
def tSet (K : PySem.W.Frag) (ta : TE) (k : List Int → Hp → Prop) : L2.St → Hp → Prop := fun σ H => ta σ H fun x H1 => ∃ (l : Addr) (ns : List Int), x = .ref l ∧ (SqL K H1 l (ns.map V.int) ∨ SqT K H1 l (ns.map V.int)) ∧ ns.length ≤ 60 ∧ k ns H1
theorem set_run {pins : List (Addr × Obj)} {σ : L2.St} {H1 : Hp} {s1 : Shared} {l : Addr} {ns : List Int} {E : Value → Shared → Prop} {Q : Value → Shared → Prop} (hc : X.calm = true) (I1 : Inv X pins σ H1 s1) (hq : SqL X.K H1 l (ns.map V.int) ∨ SqT X.K H1 l (ns.map V.int)) (hl : ns.length ≤ 60)
    (h : ∀ (h' : Heap) (tk c : Nat), SetR X.w h' s1.heap.objs.size (fun j => decide (j ∈ ns)) c → c ≤ ns.length → (∀ b o, s1.heap.get? b = some o → h'.get? b = some o) → Q (.ref s1.heap.objs.size) { s1 with heap := h', toks := tk }) : wpAny (model X.prog X.w) X.A (call (.type "set") [.ref l]) Q E s1 := by
  have hd := I1.ok.hd hc
  rcases hq with hq | hq
  · obtain ⟨its, rv, pl, hz⟩ := I1.list hq
    exact call_set_lstI ns hd pl.isList (ints_of_vals rv) (by unfold scanBound; omega) h
  · obtain ⟨its, rv, pt, hz⟩ := I1.tuple hq
    exact call_set_tupI ns hd (show s1.heap.IsTuple l its.toArray from pt) (ints_of_vals rv) (by unfold scanBound; omega) h
theorem srt_end {pins : List (Addr × Obj)} {σ : L2.St} {H1 : Hp} {s2 : Shared} {a : Addr} {S : Int → Bool} {c : Nat} {Q : VK} (hc : X.calm = true) (I2 : Inv X pins σ H1 s2) (R : SetR X.w s2.heap a S c) (h64 : c < 64)
    (q : ∀ (ms : List Int) (u : Addr), ms.Pairwise (· < ·) → (∀ k : Int, k ∈ ms ↔ S k = true) → H1 u = none → Q (.ref u) (upd H1 u (.lst (ms.map V.int)))) : wpAny (model X.prog X.w) X.A (call (.builtin "sorted") [.ref a]) (EP X pins σ Q) X.xe s2 := by
  refine sorted_set R (I2.ok.hd hc) h64 fun s' u out c' ms k g o hp hgt hi hs hmem hlen => ?_
  have hlen' : (ms.map V.int).length ≤ sizeLine := by rw [List.length_map, hlen, sizeLine_eq]; omega
  have hn : H1 u = none := I2.hok.fresh hp
  have J : Inv X pins σ (upd H1 u (.lst (ms.map V.int))) { s2 with heap := s'.heap, gens := s'.gens, drawn := s'.drawn, toks := s'.toks } :=
    I2.call (ch := []) (Un.laid k hp hn) (I2.hok.laid k hp ⟨hlen', out.toList, c', vals_of_ints hi, hgt⟩) (by rw [g]; exact I2.bare) (fun _ z => nomatch z)
  have e : s' = { s2 with heap := s'.heap, gens := s'.gens, drawn := s'.drawn, toks := s'.toks } := by
    cases s'
    cases s2
    cases o
    rfl
  rw [e]
  exact ⟨.ref u, _, J, rfl, q ms u hs hmem hn⟩
theorem pe_srtSet (hc : X.calm = true) (hg : Gl X "sorted") (hm : X.mg "sorted" = none) (hg2 : Gl X "set") (hm2 : X.mg "set" = none) (ha : PE X a ta) (na : starEach [a] X.env = (false, eval a X.env) :: starEach [] X.env) :
    PE X (.Call (.Name "sorted" p) [.Call (.Name "set" p2) [a] [] q2] [] pos) (fun σ H Q => tSet X.K ta (fun ns H1 => ∀ (ms : List Int) (u : Addr), ms.Pairwise (· < ·) → (∀ k : Int, k ∈ ms ↔ k ∈ ns) → H1 u = none → Q (.ref u) (upd H1 u (.lst (ms.map V.int)))) σ H) := by
  refine ⟨fun pins s σ H Q I h => ?_⟩
  refine Call_ (ld_blt I hg hm boot_sorted ?_)
  refine PyProof.Rows.callWith_builtin1 (PyProof.Rows.args_cons ?_ rfl) rfl rfl
  refine Call_ (ld_blt I hg2 hm2 boot_set ?_)
  refine PyProof.Rows.callWith_type1 (PyProof.Rows.args_cons (thn (ha.run pins s σ H _ I h) fun v s1 ⟨x, H1, I1, r1, q1⟩ => PyProof.Rows.args_nil ?_) na) na rfl
  obtain ⟨l, ns, rfl, hq, hl, q1⟩ := q1
  cases r1
  refine set_run hc I1 hq hl fun h' tk c R hcn hk => ?_
  refine PyProof.Rows.args_nil ?_
  have I2 : Inv X pins σ H1 { s1 with heap := h', toks := tk } := I1.kept fun b o e => hk b o e
  exact srt_end hc I2 R (by omega) fun ms u hms hmem hn => q1 ms u hms (fun k => by rw [hmem k]; simp) hn
theorem pe_lenSetA (hc : X.calm = true) (hg : Gl X "len") (hm : X.mg "len" = none) (hg2 : Gl X "set") (hm2 : X.mg "set" = none) (ha : PE X a ta) (na : starEach [a] X.env = (false, eval a X.env) :: starEach [] X.env) :
    PE X (.Call (.Name "len" p) [.Call (.Name "set" p2) [a] [] q2] [] pos) (fun σ H Q => tSet X.K ta (fun ns H1 => Q (.int (ns.eraseDups.length : Nat)) H1) σ H) := by
  refine ⟨fun pins s σ H Q I h => ?_⟩
  refine Call_ (ld_blt I hg hm boot_len ?_)
  refine PyProof.Rows.callWith_builtin1 (PyProof.Rows.args_cons ?_ rfl) rfl rfl
  refine Call_ (ld_blt I hg2 hm2 boot_set ?_)
  refine PyProof.Rows.callWith_type1 (PyProof.Rows.args_cons (thn (ha.run pins s σ H _ I h) fun v s1 ⟨x, H1, I1, r1, q1⟩ => PyProof.Rows.args_nil ?_) na) na rfl
  obtain ⟨l, ns, rfl, hq, hl, q1⟩ := q1
  cases r1
  refine set_run hc I1 hq hl fun h' tk c R hcn hk => ?_
  refine PyProof.Rows.args_nil ?_
  have I2 : Inv X pins σ H1 { s1 with heap := h', toks := tk } := I1.kept fun b o e => hk b o e
  obtain ⟨o, es, ep, t, ho, hex, hd, _, nd, hmem, _, hf, hn, _⟩ := R
  have hsz : es.size = ns.eraseDups.length := by
    have e := len_of (m := ns) nd (fun k => by rw [← hmem k]; simp)
    rw [List.length_map, Array.length_toList] at e
    exact e
  exact call_len_set ho hex hd hf (by rw [hn]; omega) ⟨.int ns.eraseDups.length, H1, I2.tok _, ⟨_, by rw [hsz]⟩, q1⟩
theorem srt_lt {l : List Int} (h : l.Pairwise (· < ·)) {m : List Int} (hm : ∀ k, k ∈ l ↔ k ∈ m) : l = srtSet m :=
  srt_uniq ((List.perm_ext_iff_of_nodup (h.imp fun z => by omega) (dup_nodup _ m (Nat.le_refl _))).mpr fun k => (hm k).trans dup_mem.symm) (h.imp fun z => by omega)
theorem r_sortedSet (hc : X.calm = true) (hg : Gl X "sorted") (hm : X.mg "sorted" = none) (hg2 : Gl X "set") (hm2 : X.mg "set" = none) (hs : notStar a = true) (ma : ∀ ρ, Mono (evE x ρ)) (ha : PE X a (RE X T Wh x)) :
    PE X (.Call (.Name "sorted" p) [.Call (.Name "set" p2) [a] [] q2] [] pos) (RE X T Wh (.bi .sortedSet (.cons x .nil))) :=
  (pe_srtSet hc hg hm hg2 hm2 ha (notStar_eq hs _ _)).imp fun σ H Q ⟨ρ, n, F, rl, q⟩ =>
    tE_seq (f := fun d => bnd (ok [d]) fun ds => biS .sortedSet ds) (.refl rl) (ma ρ) q fun d1 n1 v1 F1 H1 p0 _ z1 h1 => by
      obtain ⟨zz, e1, hk⟩ := (det_biS .sortedSet [d1]).get h1
      obtain ⟨xs, e2, e3⟩ := bnd_okS (det_itemsD d1) (show bnd (itemsD d1) (fun xs => bnd (oW (intsD xs)) fun ns => chk (decide (ns.length ≤ 60)) (ok (D.lst ((srtSet ns).map .int)))) = ok zz from e1)
      obtain ⟨ns, e4, e5⟩ := bnd_okS (.oW _) e3
      obtain ⟨hl, e6⟩ := chk_ok e5
      cases ok_inj e6
      have e4 := intsD_map (oW_ok e4)
      obtain ⟨u, vs, rfl, h2, r2, _⟩ := items_of p0.rl.sub (z1.w p0.rl) e2
      rw [e4] at r2
      rw [rps_intsV r2] at h2
      refine ⟨u, ns, rfl, h2, of_decide_eq_true hl, fun ms w hms hmem hw => ?_⟩
      rw [srt_lt hms hmem]
      exact hk _ _ _ (p0.trans (p0.rl.nw (.upd p0.rl.sub hw (notbl_lst _)))) (Rz.of (rp_new (p0.rl.sub.nope hw) (rps_ints _)))
theorem r_lenSet (hc : X.calm = true) (hg : Gl X "len") (hm : X.mg "len" = none) (hg2 : Gl X "set") (hm2 : X.mg "set" = none) (hs : notStar a = true) (ma : ∀ ρ, Mono (evE x ρ)) (ha : PE X a (RE X T Wh x)) :
    PE X (.Call (.Name "len" p) [.Call (.Name "set" p2) [a] [] q2] [] pos) (RE X T Wh (.bi .lenSet (.cons x .nil))) :=
  (pe_lenSetA hc hg hm hg2 hm2 ha (notStar_eq hs _ _)).imp fun σ H Q ⟨ρ, n, F, rl, q⟩ =>
    tE_seq (f := fun d => bnd (ok [d]) fun ds => biS .lenSet ds) (.refl rl) (ma ρ) q fun d1 n1 v1 F1 H1 p0 _ z1 h1 => by
      obtain ⟨zz, e1, hk⟩ := (det_biS .lenSet [d1]).get h1
      obtain ⟨xs, e2, e3⟩ := bnd_okS (det_itemsD d1) (show bnd (itemsD d1) (fun xs => bnd (oW (intsD xs)) fun ns => chk (decide (ns.length ≤ 60)) (ok (D.int ns.eraseDups.length))) = ok zz from e1)
      obtain ⟨ns, e4, e5⟩ := bnd_okS (.oW _) e3
      obtain ⟨hl, e6⟩ := chk_ok e5
      cases ok_inj e6
      have e4 := intsD_map (oW_ok e4)
      obtain ⟨u, vs, rfl, h2, r2, _⟩ := items_of p0.rl.sub (z1.w p0.rl) e2
      rw [e4] at r2
      rw [rps_intsV r2] at h2
      exact ⟨u, ns, rfl, h2, of_decide_eq_true hl, hk _ _ _ p0 (Rz.of (.int _))⟩
end
end Z
end
-- Z12
section
set_option Elab.async false
set_option linter.all false
set_option maxRecDepth 100000
set_option maxHeartbeats 1000000
/-! Z12: what loops walk. -/
namespace Z
open PySem PySem.Spec PyProof.Rows L2

/-! ### enumerate of a tuple -/
section
open PySem.Sem (wp)
open AutoSeq1 (wpAny_loadPart')
theorem meets_enumT (l : Addr) (items : Array Value) (n : Nat) (dct : Option Addr) (sl : Array (Option Value)) :
    Meets (Builtin.«enumerate.__new__» ⟨[.type "enumerate", .ref l], []⟩) (fun _ R s => s.heap.get? l = some { cls := .type "tuple", dict := dct, data := .seq items n, slots := sl } ∧
      R (.ok (.ret (.ref (s.heap.push { cls := .type "tuple_iterator", data := .fields #[.ref l, .int 0 0] }).objs.size)))
        { s with heap := (s.heap.push { cls := .type "tuple_iterator", data := .fields #[.ref l, .int 0 0] }).push { cls := .type "enumerate", data := .fields #[.none, .bool false, .ref s.heap.objs.size, rawInt 0, .none, .none] } }) :=
  .of_wp fun prog w A R s h => by
    obtain ⟨hp, g, d, tk, os⟩ := s; obtain ⟨hl, h⟩ := h
    have hsub := sub_enumerate
    have hL : Heap.IsTuple (Shared.heap ⟨hp, g, d, tk, os⟩) l items := ⟨_, hl, rfl, n, rfl⟩
    wp_walk using wpAny_loadPart' hl
    refine wpAny_stack_any fun st => wpAny_pure ?_
    split
    · rename_i c _ _ _ _ _
      cases (c == Value.type "enumerate")
      · wp_walk using wpAny_loadPart' hl, wpAny_pyIter_tuple hL
        exact ⟨_, rfl, h⟩
      · wp_walk using wpAny_loadPart' hl, wpAny_pyIter_tuple hL
        exact ⟨_, rfl, h⟩
    · wp_walk using wpAny_loadPart' hl, wpAny_pyIter_tuple hL
      exact ⟨_, rfl, h⟩
variable {prog : Program} {w : World} {A : Around} {E : Value → Shared → Prop} {s : Shared}
theorem call_enumT {l : Addr} {items : Array Value} {Q : Value → Shared → Prop} (hL : s.heap.IsTuple l items)
    (h : ∀ h', IsEnum h' (s.heap.objs.size + 1) s.heap.objs.size 0 .none → h'.IsTupleIter s.heap.objs.size l 0 → h'.objs.size = s.heap.objs.size + 2 →
      (∀ b o, s.heap.get? b = some o → h'.get? b = some o) → Q (.ref (s.heap.objs.size + 1)) { s with heap := h' }) :
    wpAny (model prog w) A (call (.type "enumerate") [.ref l]) Q E s := by
  obtain ⟨⟨c, dct, dt, sl⟩, hl, hc, n, hd⟩ := hL
  replace hc : c = .type "tuple" := hc
  replace hd : dt = .seq items n := hd
  subst hc hd
  refine callType_new F.called_enumerate (by decide) (F.typeCall_enumerate_1 _) (F.newCall_enumerate_1 _) (fun obj => F.args_object_init_2 obj _) F.entry_enumerate_new
    (meets_enumT l items n dct sl) ⟨hl, ?_⟩
  have hz : (s.heap.push { cls := .type "tuple_iterator", data := .fields #[.ref l, .int 0 0] }).objs.size = s.heap.objs.size + 1 := Heap.size_push ..
  show _ ∧ _
  rw [hz]
  have he : IsEnum ((s.heap.push { cls := .type "tuple_iterator", data := .fields #[.ref l, .int 0 0] }).push
      { cls := .type "enumerate", data := .fields #[.none, .bool false, .ref s.heap.objs.size, rawInt 0, .none, .none] }) (s.heap.objs.size + 1) s.heap.objs.size 0 .none := by
    have := Heap.get?_push_size (s.heap.push { cls := .type "tuple_iterator", data := .fields #[.ref l, .int 0 0] })
      (o := { cls := .type "enumerate", data := .fields #[.none, .bool false, .ref s.heap.objs.size, rawInt 0, .none, .none] }) rfl
    rw [hz] at this; exact this
  refine ⟨⟨_, he, rfl⟩, h _ he ⟨_, Heap.get?_push_of_some _ (Heap.get?_push_size _ rfl), rfl, rfl⟩ (by rw [Heap.size_push, hz]) fun b o x => Heap.get?_push_of_some _ (Heap.get?_push_of_some _ x)⟩
end

def IteT (K : PySem.W.Frag) (a : Addr) : L2.It :=
  ⟨fun i H => ∃ (xs : List V) (x : V), SqT K H a xs ∧ xs[i]? = some x, fun i H v H' => ∃ T x, v = .ref T ∧ H T = none ∧ H' = upd H T (.tup [.int (i : Nat), x]) ∧ ∀ xs, SqT K H a xs → xs[i]? = some x, fun i H => ∃ xs : List V, SqT K H a xs ∧ xs.length ≤ i⟩
theorem turn_enumT {P : Program} {w : World} {K : PySem.W.Frag} {elts : List Expr} {kk : Nat} {tpos : Pos} (a e it : Addr) :
    Turn P w K (.Tuple elts kk tpos) (IteT K a) [e, it] e (fun i h => (∃ old, IsEnum h e it ((i : Nat) : Int) old) ∧ h.IsTupleIter it a i ∧ e ≠ it) where
  mem := by simp
  obj := fun i h st b hb => by
    obtain ⟨⟨old, he⟩, ⟨o, ho, hc, hd⟩, _⟩ := st
    have e' : b = e ∨ b = it := by simpa using hb
    rcases e' with z | z
    · rw [z]; exact ⟨_, he, fun v q => nomatch q⟩
    · rw [z]; exact ⟨o, ho, fun v q => by rw [hd] at q; cases q⟩
  keep := fun i h h' st k => let ⟨⟨old, he⟩, hi, hne⟩ := st; ⟨⟨old, k e (by simp) _ he⟩, hi.at fun o q => k it (by simp) o q, hne⟩
  item := by
    intro X hP hw hK hc i pins s σ H E I hf st hg
    subst hP hw hK
    obtain ⟨⟨old, he⟩, hit, hne⟩ := st
    obtain ⟨xs, x, hq, hx⟩ := hg
    obtain ⟨its, rv, p, hz⟩ := I.tuple hq
    have hil : i < its.toArray.size := by
      have := (List.getElem?_eq_some_iff.mp hx).1
      have := rv.length
      simp only [List.size_toArray]; omega
    have hel : e < s.heap.objs.size := Heap.lt_size he
    have hil' : it < s.heap.objs.size := by obtain ⟨_, q, _⟩ := hit; exact Heap.lt_size q
    have ai : a ≠ it := fun z => by
      obtain ⟨o, ho, hc, _⟩ := p
      obtain ⟨o', ho', hc', _⟩ := hit
      rw [z, ho'] at ho; cases ho; rw [hc'] at hc; injection hc with hc; exact absurd hc (by decide)
    have ae : e ≠ a := fun z => by
      obtain ⟨o, ho, hc, _⟩ := p
      rw [← z, he] at ho; cases ho; injection hc with hc; exact absurd hc (by decide)
    refine wpAny_pyNext_enum_itemD (Draws.tuple (show X.A.in1.handled = none from I.ok.hd hc) it a ai its.toArray) he ⟨hit, (show s.heap.IsTuple a its.toArray from p)⟩ hil hne (by simp [hne, ae]) fun u h' tk hu ho hst hT hsz hk => ?_
    obtain ⟨hit', _⟩ := hst
    refine ⟨_, rfl, wpAny_letOwnedTupleGo_enum (s := { s with heap := h', toks := tk + 1 }) ho fun h'' he' sb => ?_⟩
    have ru : RelV x u := by
      obtain ⟨u', hu', ru⟩ := rv.get hx
      have hu : its[i]? = some u := by simpa using hu
      rw [hu'] at hu
      cases hu
      exact ru
    have hT2 : h''.get? s.heap.objs.size = some { cls := .type "tuple", data := .seq #[.int i tk, u] } := (sb.2 _ (Nat.ne_of_gt hel)).trans hT
    have new : ObjOk X.prog X.w (upd H s.heap.objs.size (.tup [.int (i : Nat), x])) h'' s.heap.objs.size (.tup [.int (i : Nat), x]) :=
      ⟨by show 2 ≤ sizeLine; decide, [.int i tk, u], .cons ⟨_, rfl⟩ (.cons ru .nil), ⟨_, hT2, rfl, _, rfl⟩⟩
    have I1 : Inv X pins σ (upd H s.heap.objs.size (.tup [.int (i : Nat), x])) { s with heap := h'', toks := tk + 1 } :=
      I.turnedNew (ch := [e, it]) (fun b ob hb q => (sb.2 b (fun z => hb (by simp [z]))).trans (hk b ob (fun z => hb (by simp [z])) (fun z => hb (by simp [z])) q)) hf (Nat.le_refl _) new
    refine ⟨.ref s.heap.objs.size, _, I1, rfl, ⟨_, x, rfl, I.hok.fresh (Nat.le_refl _), rfl, fun ys hy => by rw [I.tuple_inj hy hq]; exact hx⟩, ⟨⟨u, ?_⟩, hit'.at fun o q => (sb.2 it (Ne.symm hne)).trans q, hne⟩, fun b hb => ?_⟩
    · have e1 : ((i + 1 : Nat) : Int) = (i : Int) + 1 := by omega
      rw [e1]; exact he'
    · have hb' : b < s.heap.objs.size := by
        have e' : b = e ∨ b = it := by simpa using hb
        rcases e' with z | z
        · rw [z]; exact hel
        · rw [z]; exact hil'
      rw [upd_ne (Nat.ne_of_lt hb')]
      exact (hf b hb).1
  done := by
    intro X hP hw hK hc i pins s σ H E I hf st hg
    subst hP hw hK
    obtain ⟨⟨old, he⟩, hit, hne⟩ := st
    obtain ⟨xs, hq, hx⟩ := hg
    obtain ⟨its, rv, p, hz⟩ := I.tuple hq
    obtain ⟨f0, f1, f2, f3, f4, f5⟩ := hf it (by simp)
    have hl := rv.length
    have hT : s.TypeIs (.ref e) "enumerate" := ⟨_, he, rfl⟩
    unfold pyNext
    refine wpAny_bind (wpAny_attempt (wpAny_callSpecial?_slot (name := Str.ofString "__next__") hT F.slot_enumerate_next
      (wpAny_call_entry F.slot_enumerate_next hT F.entry_enumerate_next ?_ (F.args_enumerate_next_1 _))))
    show wpAny _ _ (field (.ref e) 2 >>= _) _ _ _
    refine wpAny_bind (wpAny_field he rfl (x := .ref it) rfl ?_)
    refine wpAny_bind (wpAny_nextOf_tuple_end (show X.A.in1.handled = none from I.ok.hd hc) hit (show s.heap.IsTuple a its.toArray from p) (by simp; omega) fun h' x he' hx' => ?_)
    obtain ⟨o, ho, hcc⟩ := hx'
    refine wpAny_bind (wpAny_isInstance (T := "StopIteration") (b := true) ⟨o, ho, hcc⟩ isSubtype_stop ?_)
    exact wpAny_pure ⟨rfl, I.turned (t' := s.toks) (fun b o hb q => he' b o hb q) f0 f1 f3 f4 f5⟩
  self := fun A i s Q E st h => let ⟨⟨_, he⟩, _⟩ := st; wpAny_pyIter_enum he h
def iEnumA (K : PySem.W.Frag) (ta : TA) : TI := fun σ H R => ta σ H fun vs H1 => ∃ a xs, vs = [.ref a] ∧ (SqL K H1 a xs ∧ (xs.length ≤ sizeLine → R (Ite K a) H1) ∨ SqT K H1 a xs ∧ (xs.length ≤ sizeLine → R (IteT K a) H1))
theorem pi_enumA {X : Cx} {e : Expr} {ta : TA} {p pos tpos : Pos} {elts : List Expr} {kk : Nat} (hg : Gl X "enumerate") (hm : X.mg "enumerate" = none) (ha : PA X [e] ta) (hs : starEach [e] X.env = [(false, eval e X.env)]) :
    PI X (.Tuple elts kk tpos) (.Call (.Name "enumerate" p) [e] [] pos) (iEnumA X.K ta) := by
  refine ⟨fun pins s σ H R I h => ?_⟩
  refine Call_ (ld_blt I hg hm boot_enumerate (PyProof.Rows.callWith_type1 (thn (ha.run pos pins s σ H _ I h) fun us s1 ⟨vs, H1, I1, r1, q1⟩ => ?_) hs rfl))
  obtain ⟨a, xs, ex, q1⟩ := q1
  subst ex
  cases r1 with
  | cons r rr =>
    cases rr
    cases r
    have fpo : ∀ b ∈ [s1.heap.objs.size + 1, s1.heap.objs.size], FpOk X pins H1 b := fun b hb => by
      have e' : b = s1.heap.objs.size + 1 ∨ b = s1.heap.objs.size := by simpa using hb
      have hle : s1.heap.objs.size ≤ b := by
        rcases e' with z | z
        · rw [z]; exact Nat.le_add_right _ _
        · rw [z]; exact Nat.le_refl _
      exact I1.fpOk hle (I1.hok.fresh hle)
    rcases q1 with ⟨hq, q⟩ | ⟨hq, q⟩
    · obtain ⟨its, rv, p', hz⟩ := I1.list hq
      refine call_enumerate_list p'.isList fun h' he hit hsz hk => wpAny_pyIter_enum he ?_
      have I2 : Inv X pins σ H1 { s1 with heap := h' } := I1.kept (t' := s1.toks) hk
      exact ⟨s1.heap.objs.size + 1, [s1.heap.objs.size + 1, s1.heap.objs.size], _, _, H1, rfl, I2, turn_enum a (s1.heap.objs.size + 1) s1.heap.objs.size, ⟨⟨.none, he⟩, hit, Nat.succ_ne_self _⟩, fpo, q hz⟩
    · obtain ⟨its, rv, p', hz⟩ := I1.tuple hq
      refine call_enumT (show s1.heap.IsTuple a its.toArray from p') fun h' he hit hsz hk => wpAny_pyIter_enum he ?_
      have I2 : Inv X pins σ H1 { s1 with heap := h' } := I1.kept (t' := s1.toks) hk
      exact ⟨s1.heap.objs.size + 1, [s1.heap.objs.size + 1, s1.heap.objs.size], _, _, H1, rfl, I2, turn_enumT a (s1.heap.objs.size + 1) s1.heap.objs.size, ⟨⟨.none, he⟩, hit, Nat.succ_ne_self _⟩, fpo, q hz⟩
theorem pi_seq {X : Cx} {tg l : Expr} {tl : TE} (hl : PE X l tl) : PI X tg l (fun σ H R => tl σ H fun x H1 => ∃ a xs, x = .ref a ∧ (SqL X.K H1 a xs ∧ (xs.length ≤ sizeLine → R (Itl X.K a) H1) ∨ SqT X.K H1 a xs ∧ (xs.length ≤ sizeLine → R (Itt X.K a) H1))) := by
  refine ⟨fun pins s σ H R I h => ?_⟩
  refine thn (hl.run pins s σ H _ I h) fun v s1 ⟨x, H1, I1, r1, q1⟩ => ?_
  obtain ⟨a, xs, e, q1⟩ := q1
  subst e
  cases r1
  have fpo : ∀ b ∈ [s1.heap.objs.size], FpOk X pins H1 b := fun b hb => by
    have e : b = s1.heap.objs.size := by simpa using hb
    subst e
    exact I1.fpOk (Nat.le_refl _) (I1.hok.fresh (Nat.le_refl _))
  rcases q1 with ⟨hq, q⟩ | ⟨hq, q⟩
  · obtain ⟨its, rv, p, hz⟩ := I1.list hq
    refine wpAny_pyIter_list p.isList ?_
    exact ⟨s1.heap.objs.size, [s1.heap.objs.size], _, _, H1, rfl, I1.kept (t' := s1.toks) fun b o e => Heap.get?_push_of_some _ e, turn_list a _, ⟨_, Heap.get?_push_size _ rfl, rfl, rfl⟩, fpo, q hz⟩
  · obtain ⟨its, rv, p, hz⟩ := I1.tuple hq
    refine wpAny_pyIter_tuple (show s1.heap.IsTuple a its.toArray from p) ?_
    exact ⟨s1.heap.objs.size, [s1.heap.objs.size], _, _, H1, rfl, I1.kept (t' := s1.toks) fun b o e => Heap.get?_push_of_some _ e, turn_tuple a _, ⟨_, Heap.get?_push_size _ rfl, rfl, rfl⟩, fpo, q hz⟩

/-! ### what an iterator gives, by data -/
structure ItOk (K : PySem.W.Frag) (J : L2.It) (ds : List D) (F : Hp) : Prop where
  len : ds.length ≤ sizeLine
  goes : ∀ i H, i < ds.length → Sub F H → J.go i H
  stops : ∀ H, Sub F H → J.stop ds.length H
  yields : ∀ i H x H' F1 d, Sub F F1 → Sub F1 H → ds[i]? = some d → J.yld i H x H' → ∃ F2, Nw F1 H F2 H' ∧ Rp K F2 x d
theorem ItOk.mono {K : PySem.W.Frag} {J : L2.It} {ds : List D} {F F1 : Hp} (h : ItOk K J ds F) (s : Sub F F1) : ItOk K J ds F1 :=
  ⟨h.len, fun i H hi k => h.goes i H hi (s.trans k), fun H k => h.stops H (s.trans k), fun i H x H' F2 d k1 k2 => h.yields i H x H' F2 d (s.trans k1) k2⟩
section
variable {K : PySem.W.Frag} {F : Hp} {a b : Addr} {vs ws : List V} {ds es : List D}
theorem ok_list (hz : vs.length ≤ sizeLine) (h : SqL K F a vs) (r : Rps K F vs ds) : ItOk K (Itl K a) ds F where
  len := by rw [← r.length]; exact hz
  goes := fun i H hi s => by
    rw [← r.length] at hi
    exact ⟨vs, vs[i], s.seqL h, by simp [hi]⟩
  stops := fun H s => ⟨vs, s.seqL h, by rw [r.length]; exact Nat.le_refl _⟩
  yields := fun i H x H' F1 d s1 s2 e y => by
    obtain ⟨rfl, y⟩ := y
    obtain ⟨v, e1, e2⟩ := r.get e
    have := y vs (s2.seqL (s1.seqL h))
    rw [e1] at this
    cases this
    exact ⟨F1, .refl s2, e2.mono s1⟩
theorem ok_tup (hz : vs.length ≤ sizeLine) (h : SqT K F a vs) (r : Rps K F vs ds) : ItOk K (Itt K a) ds F where
  len := by rw [← r.length]; exact hz
  goes := fun i H hi s => by
    rw [← r.length] at hi
    exact ⟨vs, vs[i], s.seqT h, by simp [hi]⟩
  stops := fun H s => ⟨vs, s.seqT h, by rw [r.length]; exact Nat.le_refl _⟩
  yields := fun i H x H' F1 d s1 s2 e y => by
    obtain ⟨rfl, y⟩ := y
    obtain ⟨v, e1, e2⟩ := r.get e
    have := y vs (s2.seqT (s1.seqT h))
    rw [e1] at this
    cases this
    exact ⟨F1, .refl s2, e2.mono s1⟩
theorem rngD_get {lo hi : Int} {i : Nat} {d : D} (e : (rngD lo hi)[i]? = some d) : d = .int (lo + i) ∧ i < (hi - lo).toNat := by
  unfold rngD at e
  rw [List.getElem?_map] at e
  by_cases h : i < (hi - lo).toNat
  · rw [List.getElem?_eq_getElem (by simpa using h), List.getElem_range] at e
    cases e
    exact ⟨rfl, h⟩
  · rw [List.getElem?_eq_none (by simpa using h)] at e
    cases e
theorem rngD_len {lo hi : Int} : (rngD lo hi).length = (hi - lo).toNat := by simp [rngD]
theorem ok_rng {lo hi : Int} (hz : (hi - lo).toNat ≤ sizeLine) : ItOk K (Itr lo (hi - lo).toNat) (rngD lo hi) F where
  len := by rw [rngD_len]; exact hz
  goes := fun i H hi s => by rw [rngD_len] at hi; exact hi
  stops := fun H s => by rw [rngD_len]; exact Nat.le_refl _
  yields := fun i H x H' F1 d s1 s2 e y => by
    obtain ⟨rfl, rfl⟩ := y
    obtain ⟨rfl, _⟩ := rngD_get e
    exact ⟨F1, .refl s2, .int _⟩
theorem enumD_len : ∀ (n : Nat) (xs : List D), (enumD n xs).length = xs.length
  | _, [] => rfl
  | n, x :: xs => congrArg (· + 1) (enumD_len (n + 1) xs)
theorem enumD_get : ∀ (n : Nat) (xs : List D) (i : Nat) (d : D), (enumD n xs)[i]? = some d → ∃ x, xs[i]? = some x ∧ d = .tup [.int ((n + i : Nat) : Int), x]
  | n, [], i, d, e => by cases e
  | n, x :: xs, 0, d, e => by cases e; exact ⟨x, rfl, rfl⟩
  | n, x :: xs, i + 1, d, e => by
    obtain ⟨y, h1, h2⟩ := enumD_get (n + 1) xs i d e
    refine ⟨y, h1, ?_⟩
    rw [h2, show n + 1 + i = n + (i + 1) by omega]
theorem zipD_len : ∀ (xs ys : List D), (zipD xs ys).length = min xs.length ys.length
  | [], _ => by simp [zipD]
  | _ :: _, [] => by simp [zipD]
  | x :: xs, y :: ys => by simp [zipD, zipD_len xs ys]
theorem zipD_get : ∀ (xs ys : List D) (i : Nat) (d : D), (zipD xs ys)[i]? = some d → ∃ x y, xs[i]? = some x ∧ ys[i]? = some y ∧ d = .tup [x, y]
  | [], _, i, d, e => by cases e
  | _ :: _, [], i, d, e => by cases e
  | x :: xs, y :: ys, 0, d, e => by cases e; exact ⟨x, y, rfl, rfl, rfl⟩
  | x :: xs, y :: ys, i + 1, d, e => zipD_get xs ys i d e
theorem ok_pair {F1 H : Hp} {T : Addr} {x y : V} {dx dy : D} (s : Sub F1 H) (hn : H T = none) (rx : Rp K F1 x dx) (ry : Rp K F1 y dy) : ∃ F2, Nw F1 H F2 (upd H T (.tup [x, y])) ∧ Rp K F2 (.ref T) (.tup [dx, dy]) :=
  ⟨_, .upd s hn (notbl_tup _), rp_newT (s.nope hn) (.cons rx (.cons ry .nil))⟩
theorem ok_enumL (hz : vs.length ≤ sizeLine) (h : SqL K F a vs) (r : Rps K F vs ds) : ItOk K (Ite K a) (enumD 0 ds) F where
  len := by rw [enumD_len, ← r.length]; exact hz
  goes := fun i H hi s => by
    rw [enumD_len, ← r.length] at hi
    exact ⟨vs, vs[i], s.seqL h, by simp [hi]⟩
  stops := fun H s => ⟨vs, s.seqL h, by rw [enumD_len, r.length]; exact Nat.le_refl _⟩
  yields := fun i H x H' F1 d s1 s2 e y => by
    obtain ⟨T, u, rfl, hn, rfl, y⟩ := y
    obtain ⟨dd, h1, rfl⟩ := enumD_get 0 ds i d e
    obtain ⟨v, e1, e2⟩ := r.get h1
    have := y vs (s2.seqL (s1.seqL h))
    rw [e1] at this
    cases this
    rw [Nat.zero_add]
    exact ok_pair s2 hn (.int _) (e2.mono s1)
theorem ok_enumT (hz : vs.length ≤ sizeLine) (h : SqT K F a vs) (r : Rps K F vs ds) : ItOk K (IteT K a) (enumD 0 ds) F where
  len := by rw [enumD_len, ← r.length]; exact hz
  goes := fun i H hi s => by
    rw [enumD_len, ← r.length] at hi
    exact ⟨vs, vs[i], s.seqT h, by simp [hi]⟩
  stops := fun H s => ⟨vs, s.seqT h, by rw [enumD_len, r.length]; exact Nat.le_refl _⟩
  yields := fun i H x H' F1 d s1 s2 e y => by
    obtain ⟨T, u, rfl, hn, rfl, y⟩ := y
    obtain ⟨dd, h1, rfl⟩ := enumD_get 0 ds i d e
    obtain ⟨v, e1, e2⟩ := r.get h1
    have := y vs (s2.seqT (s1.seqT h))
    rw [e1] at this
    cases this
    rw [Nat.zero_add]
    exact ok_pair s2 hn (.int _) (e2.mono s1)
theorem ok_zipL (hz : ds.length ≤ sizeLine) (h : SqL K F a vs) (r : Rps K F vs ds) (h' : SqL K F b ws) (r' : Rps K F ws es) : ItOk K (Itz K a b) (zipD ds es) F where
  len := by rw [zipD_len]; omega
  goes := fun i H hi s => by
    rw [zipD_len, ← r.length, ← r'.length] at hi
    have h1 : i < vs.length := by omega
    have h2 : i < ws.length := by omega
    exact ⟨vs, ws, vs[i], ws[i], s.seqL h, s.seqL h', by simp [h1], by simp [h2]⟩
  stops := fun H s => ⟨vs, ws, s.seqL h, s.seqL h', by rw [zipD_len, r.length, r'.length]; omega⟩
  yields := fun i H x H' F1 d s1 s2 e y => by
    obtain ⟨T, u, u2, rfl, hn, rfl, y, y2⟩ := y
    obtain ⟨dx, dy, h1, h2, rfl⟩ := zipD_get ds es i d e
    obtain ⟨v, e1, e2⟩ := r.get h1
    obtain ⟨v2, e3, e4⟩ := r'.get h2
    have := y vs (s2.seqL (s1.seqL h))
    rw [e1] at this
    cases this
    have := y2 ws (s2.seqL (s1.seqL h'))
    rw [e3] at this
    cases this
    exact ok_pair s2 hn (e2.mono s1) (e4.mono s1)
theorem ok_zipT (hz : ds.length ≤ sizeLine) (h : SqT K F a vs) (r : Rps K F vs ds) (h' : SqT K F b ws) (r' : Rps K F ws es) : ItOk K (RZ.ItzT K a b) (zipD ds es) F where
  len := by rw [zipD_len]; omega
  goes := fun i H hi s => by
    rw [zipD_len, ← r.length, ← r'.length] at hi
    have h1 : i < vs.length := by omega
    have h2 : i < ws.length := by omega
    exact ⟨vs, ws, vs[i], ws[i], s.seqT h, s.seqT h', by simp [h1], by simp [h2]⟩
  stops := fun H s => ⟨vs, ws, s.seqT h, s.seqT h', by rw [zipD_len, r.length, r'.length]; omega⟩
  yields := fun i H x H' F1 d s1 s2 e y => by
    obtain ⟨T, u, u2, rfl, hn, rfl, y, y2⟩ := y
    obtain ⟨dx, dy, h1, h2, rfl⟩ := zipD_get ds es i d e
    obtain ⟨v, e1, e2⟩ := r.get h1
    obtain ⟨v2, e3, e4⟩ := r'.get h2
    have := y vs (s2.seqT (s1.seqT h))
    rw [e1] at this
    cases this
    have := y2 ws (s2.seqT (s1.seqT h'))
    rw [e3] at this
    cases this
    exact ok_pair s2 hn (e2.mono s1) (e4.mono s1)
theorem ok_chars {z : Str} (hz : z.length ≤ sizeLine) : ItOk K (Its z) (z.cps.toList.map fun c => .str ⟨#[c]⟩) F where
  len := by rw [List.length_map, Array.length_toList]; exact hz
  goes := fun i H hi s => by rw [List.length_map, Array.length_toList] at hi; exact hi
  stops := fun H s => by simp [Its]
  yields := fun i H x H' F1 d s1 s2 e y => by
    obtain ⟨rfl, ch, h1, rfl⟩ := y
    rw [List.getElem?_map] at e
    have h2 : z.cps.toList[i]? = some ch := by simpa using h1
    rw [h2] at e
    cases e
    exact ⟨F1, .refl s2, .str _⟩
end
end Z
end
-- Z13
section
set_option Elab.async false
set_option linter.all false
set_option maxRecDepth 100000
set_option maxHeartbeats 1000000
/-! Z13: iterables, targets, comprehensions. -/
namespace Z
open PySem PySem.Spec PyProof.Rows L2

section
variable {X : Cx} {T : List (Addr × Str)} {c : CkC} {Wh : WX} {e a b d tg : Expr} {x y z : Ex} {pos p2 : Pos} {l : List Expr} {es r : Exs} {as : As}
def tI (K : PySem.W.Frag) (T : List (Addr × Str)) (mg : Str → Option Value) (Wh : WX) (it : It) : TI := fun σ H R => ∃ ρ n F, Rl K T ρ n F σ H ∧ evI it ρ n (fun ds n' => ∀ J F' H', Post K T ρ σ F H n' F' H' → ItOk K J ds F' → R J H') (kE K T mg ρ σ F H Wh)
abbrev RI (X : Cx) (T : List (Addr × Str)) (Wh : WX) (it : It) : TI := tI X.K T X.mg Wh it
theorem i_seq (hb : sg x = true) (ma : ∀ ρ, Mono (evE x ρ)) (ha : PE X a (RE X T Wh x)) : PI X tg a (RI X T Wh (.seq x)) :=
  (pi_seq ha).imp fun σ H R ⟨ρ, n, F, rl, q⟩ =>
    tE_seq (.refl rl) (ma ρ) q fun d1 n1 v1 F1 H1 p0 _ z1 h1 => by
      rw [hb] at z1
      have z1 : Rp X.K F1 v1 d1 := z1
      cases z1 with
      | lst hs rs => exact ⟨_, _, rfl, .inl ⟨p0.rl.sub.seqL hs, fun hz => h1 _ F1 H1 p0 (ok_list hz hs rs)⟩⟩
      | tup hs rs => exact ⟨_, _, rfl, .inr ⟨p0.rl.sub.seqT hs, fun hz => h1 _ F1 H1 p0 (ok_tup hz hs rs)⟩⟩
      | _ => exact h1.elim
theorem chkd {α : Type} {p : Prop} [Decidable p] {m : W α} {n : Nat} {Q : α → Nat → Prop} {E : Exc → Nat → Prop} (h : chk (decide p) m n Q E) : p ∧ m n Q E := by
  cases hj : decide p with
  | false => rw [hj] at h; exact h.elim
  | true => rw [hj] at h; exact ⟨of_decide_eq_true hj, h⟩
theorem chkb {α : Type} {b : Bool} {m : W α} {n : Nat} {Q : α → Nat → Prop} {E : Exc → Nat → Prop} (h : chk b m n Q E) : b = true ∧ m n Q E := by
  cases b with
  | false => exact h.elim
  | true => exact ⟨rfl, h⟩
theorem i_rng1 {p : Pos} (hg : Gl X "range") (hm : X.mg "range" = none) (hs : notStar a = true) (ma : ∀ ρ, Mono (evE x ρ)) (ha : PE X a (RE X T Wh x)) : PI X tg (.Call (.Name "range" p) [a] [] pos) (RI X T Wh (.rng1 x)) :=
  (pi_range1 hg hm (pa_cons ha pa_nil (notStar_eq hs _ _)) (notStar_eq hs _ _)).imp fun σ H R ⟨ρ, n, F, rl, q⟩ =>
    tE_seq (f := fun d => bnd (intOf d) fun j => chk (decide (-100000 ≤ j ∧ j ≤ 100000)) (ok (rngD 0 j))) (.refl rl) (ma ρ) q fun d1 n1 v1 F1 H1 p0 _ z1 h1 => by
      cases d1 with
      | int j =>
        obtain ⟨⟨hj1, hj2⟩, h1⟩ := chkd (p := -100000 ≤ j ∧ j ≤ 100000) h1
        refine ⟨j, by rw [z1.int], by omega, by omega, ?_⟩
        have := h1 (Itr 0 (j - 0).toNat) F1 H1 p0 (ok_rng (by have := sizeLine_eq; omega))
        simpa using this
      | _ => exact h1.elim
theorem i_rng2 {p : Pos} (hg : Gl X "range") (hm : X.mg "range" = none) (hs : notStar a = true) (hs2 : notStar b = true) (ma : ∀ ρ, Mono (evE x ρ)) (mb : ∀ ρ, Mono (evE y ρ)) (ha : PE X a (RE X T Wh x)) (hb : PE X b (RE X T Wh y)) : PI X tg (.Call (.Name "range" p) [a, b] [] pos) (RI X T Wh (.rng2 x y)) :=
  (pi_range2 hg hm (pa_cons ha (pa_cons hb pa_nil (notStar_eq hs2 _ _)) (notStar_eq hs _ _)) (by rw [notStar_eq hs, notStar_eq hs2]; rfl) (notStar_eq hs2 _ _)).imp fun σ H R ⟨ρ, n, F, rl, q⟩ =>
    tE_seq (.refl rl) (ma ρ) q fun d1 n1 v1 F1 H1 p0 _ z1 h1 => tE_seq (f := fun d2 => bnd (intOf d1) fun i => bnd (intOf d2) fun j => chk (decide ((-100000 ≤ i ∧ i ≤ 100000) ∧ (-100000 ≤ j ∧ j ≤ 100000))) (ok (rngD i j))) p0 (mb ρ) h1 fun d2 n2 v2 F2 H2 q0 q1 z2 h2 => by
      cases d1 with
      | int i =>
        cases d2 with
        | int j =>
          obtain ⟨⟨⟨hi1, hi2⟩, hj1, hj2⟩, h2⟩ := chkd (p := (-100000 ≤ i ∧ i ≤ 100000) ∧ (-100000 ≤ j ∧ j ≤ 100000)) h2
          refine ⟨i, j, by rw [z1.int, z2.int], ⟨by omega, by omega, by omega, by omega⟩, ?_⟩
          exact h2 (Itr i (j - i).toNat) F2 H2 q0 (ok_rng (by have := sizeLine_eq; omega))
        | _ => exact h2.elim
      | _ => exact h2.elim
theorem i_enum {p tpos : Pos} {elts : List Expr} {kk : Nat} (hg : Gl X "enumerate") (hm : X.mg "enumerate" = none) (hs : notStar a = true) (hb : sg x = true) (ma : ∀ ρ, Mono (evE x ρ)) (ha : PE X a (RE X T Wh x)) :
    PI X (.Tuple elts kk tpos) (.Call (.Name "enumerate" p) [a] [] pos) (RI X T Wh (.enum x)) :=
  (pi_enumA hg hm (pa_cons ha pa_nil (notStar_eq hs _ _)) (notStar_eq hs _ _)).imp fun σ H R ⟨ρ, n, F, rl, q⟩ =>
    tE_seq (.refl rl) (ma ρ) q fun d1 n1 v1 F1 H1 p0 _ z1 h1 => by
      rw [hb] at z1
      have z1 : Rp X.K F1 v1 d1 := z1
      cases z1 with
      | lst hs rs => exact ⟨_, _, rfl, .inl ⟨p0.rl.sub.seqL hs, fun hz => h1 _ F1 H1 p0 (ok_enumL hz hs rs)⟩⟩
      | tup hs rs => exact ⟨_, _, rfl, .inr ⟨p0.rl.sub.seqT hs, fun hz => h1 _ F1 H1 p0 (ok_enumT hz hs rs)⟩⟩
      | _ => exact h1.elim
theorem i_zip {p tpos : Pos} {elts : List Expr} {kk : Nat} (hg : Gl X "zip") (hm : X.mg "zip" = none) (hs : notStar a = true) (hs2 : notStar b = true) (hb : sg x = true) (hb2 : sg y = true) (ma : ∀ ρ, Mono (evE x ρ)) (mb : ∀ ρ, Mono (evE y ρ)) (ha : PE X a (RE X T Wh x)) (hbb : PE X b (RE X T Wh y)) :
    PI X (.Tuple elts kk tpos) (.Call (.Name "zip" p) [a, b] [] pos) (RI X T Wh (.zip x y)) :=
  (RZ.pi_zipA hg hm (pa_cons ha (pa_cons hbb pa_nil (notStar_eq hs2 _ _)) (notStar_eq hs _ _)) (notStar_eq hs _ _) (noStars [b] _ (by rw [List.all_cons, hs2]; rfl))).imp fun σ H R ⟨ρ, n, F, rl, q⟩ =>
    tE_seq (.refl rl) (ma ρ) q fun d1 n1 v1 F1 H1 p0 _ z1 h1 => tE_seq p0 (mb ρ) h1 fun d2 n2 v2 F2 H2 q0 q1 z2 h2 => by
      rw [hb] at z1
      rw [hb2] at z2
      have z1 : Rp X.K F2 v1 d1 := Rp.mono q1.grow.1 z1
      have z2 : Rp X.K F2 v2 d2 := z2
      cases z1 with
      | lst hs rs =>
        cases z2 with
        | lst hs2 rs2 =>
          obtain ⟨hz, h2⟩ := chkd h2
          exact ⟨_, _, _, _, rfl, .inl ⟨q0.rl.sub.seqL hs, q0.rl.sub.seqL hs2, h2 _ F2 H2 q0 (ok_zipL (by rw [sizeLine_eq]; exact hz) hs rs hs2 rs2)⟩⟩
        | _ => exact h2.elim
      | tup hs rs =>
        cases z2 with
        | tup hs2 rs2 =>
          obtain ⟨hz, h2⟩ := chkd h2
          exact ⟨_, _, _, _, rfl, .inr ⟨q0.rl.sub.seqT hs, q0.rl.sub.seqT hs2, h2 _ F2 H2 q0 (ok_zipT (by rw [sizeLine_eq]; exact hz) hs rs hs2 rs2)⟩⟩
        | _ => exact h2.elim
      | _ => cases z2 <;> exact h2.elim
theorem i_chars (ma : ∀ ρ, Mono (evE x ρ)) (ha : PE X a (RE X T Wh x)) : PI X tg a (RI X T Wh (.chars x)) :=
  (pi_str ha).imp fun σ H R ⟨ρ, n, F, rl, q⟩ =>
    tE_seq (.refl rl) (ma ρ) q fun d1 n1 v1 F1 H1 p0 _ z1 h1 => by
      cases d1 with
      | str s =>
        obtain ⟨hz, h1⟩ := chkd h1
        exact ⟨s, (z1.w p0.rl).str, h1 _ F1 H1 p0 (ok_chars (by rw [sizeLine_eq]; exact hz))⟩
      | _ => exact h1.elim

/-! ### targets -/
mutual
theorem bindT_big : ∀ (t : Tg) (d : D) (ρ ρ' : Ev), bindT t d ρ = ok ρ' → ∀ i, big (at_ ρ' i) = true → at_ ρ' i = at_ ρ i
  | .nm j, d, ρ, ρ', h, i, hb => by
    have e : Z.put ρ j (.val d) = ρ' := ok_inj h
    subst e
    rw [at_put] at hb ⊢
    by_cases e : i = j
    · rw [if_pos e] at hb
      split at hb <;> cases hb
    · rw [if_neg e]
  | .tup ts, d, ρ, ρ', h, i, hb => by
    cases d with
    | tup ds => exact bindTs_big ts ds ρ ρ' h i hb
    | _ => exact absurd h stuck_ne
theorem bindTs_big : ∀ (ts : Tgs) (ds : List D) (ρ ρ' : Ev), bindTs ts ds ρ = ok ρ' → ∀ i, big (at_ ρ' i) = true → at_ ρ' i = at_ ρ i
  | .nil, ds, ρ, ρ', h, i, hb => by
    cases ds with
    | nil => cases ok_inj h; rfl
    | cons _ _ => exact absurd h stuck_ne
  | .cons t r, ds, ρ, ρ', h, i, hb => by
    cases ds with
    | nil => exact absurd h stuck_ne
    | cons d ds =>
      obtain ⟨ρ1, h1, h2⟩ := bnd_okS (det_bindT t d ρ) h
      have e2 := bindTs_big r ds ρ1 ρ' h2 i hb
      rw [e2] at hb ⊢
      exact bindT_big t d ρ ρ1 h1 i hb
end
instance : Inhabited Ev := ⟨[]⟩
theorem wipe_set {σ : L2.St} {v : Option V} {i : Nat} : ∀ {vs : List Nat}, i ∈ vs → L2.wipe (σ.set i v) vs = L2.wipe σ vs
  | w :: vs, h => by
    show (L2.wipe (σ.set i v) vs).set w none = (L2.wipe σ vs).set w none
    by_cases hi : i ∈ vs
    · rw [wipe_set hi]
    · have e : i = w := by
        rcases List.mem_cons.mp h with z | z
        · exact z
        · exact absurd z hi
      subst e
      apply List.ext_getElem?
      intro k
      by_cases hk : i = k
      · subst hk
        simp [List.getElem?_set, L2.wipe_length]
      · rw [List.getElem?_set_ne hk, List.getElem?_set_ne hk]
        by_cases hv : k ∈ vs
        · have ez : ∀ (σ : L2.St) (vs : List Nat), k ∈ vs → (L2.wipe σ vs)[k]? = if k < σ.length then some none else none := by
            intro σ vs
            induction vs with
            | nil => intro h; cases h
            | cons u us ih =>
              intro hm
              show ((L2.wipe σ us).set u none)[k]? = _
              by_cases hu : u = k
              · subst hu
                rw [List.getElem?_set, if_pos rfl, L2.wipe_length]
              · rw [List.getElem?_set_ne hu]
                exact ih ((List.mem_cons.mp hm).resolve_left (fun z => hu z.symm))
          rw [ez _ _ hv, ez _ _ hv, List.length_set]
        · rw [wipe_get hv, wipe_get hv, List.getElem?_set_ne hk]
theorem wip_put {ρ : Ev} {v : Sl} {i : Nat} : ∀ {vs : List Nat}, i ∈ vs → wip (Z.put ρ i v) vs = wip ρ vs := fun {vs} h => by
  have hl : (wip (Z.put ρ i v) vs).length = (wip ρ vs).length := by rw [wip_len, wip_len, put_len]
  have ext : ∀ (a b : Ev), a.length = b.length → (∀ j, at_ a j = at_ b j) → a = b := by
    intro a
    induction a with
    | nil => intro b hl _; cases b with | nil => rfl | cons _ _ => cases hl
    | cons s a ih =>
      intro b hl hj
      cases b with
      | nil => cases hl
      | cons u b =>
        have h0 : s = u := hj 0
        rw [h0, ih b (by simpa using hl) (fun j => hj (j + 1))]
  refine ext _ _ hl fun j => ?_
  rw [at_wip, at_wip]
  by_cases hj : j ∈ vs
  · rw [if_pos hj, if_pos hj]
  · rw [if_neg hj, if_neg hj, at_put, if_neg (fun z => hj (by rw [z]; exact h))]
theorem subB_mem {l m : List Nat} (h : subB l m = true) : ∀ i ∈ l, i ∈ m := fun i hi => by
  have := List.all_eq_true.mp h i hi
  simpa using this
mutual
theorem bindT_wip : ∀ (t : Tg) (d : D) (ρ ρ' : Ev) (vs : List Nat), bindT t d ρ = ok ρ' → (∀ i ∈ tgIs t, i ∈ vs) → wip ρ' vs = wip ρ vs
  | .nm j, d, ρ, ρ', vs, h, hv => by
    have e : Z.put ρ j (.val d) = ρ' := ok_inj h
    subst e
    exact wip_put (hv j (by simp [tgIs]))
  | .tup ts, d, ρ, ρ', vs, h, hv => by
    cases d with
    | tup ds => exact bindTs_wip ts ds ρ ρ' vs h hv
    | _ => exact absurd h stuck_ne
theorem bindTs_wip : ∀ (ts : Tgs) (ds : List D) (ρ ρ' : Ev) (vs : List Nat), bindTs ts ds ρ = ok ρ' → (∀ i ∈ tgsIs ts, i ∈ vs) → wip ρ' vs = wip ρ vs
  | .nil, ds, ρ, ρ', vs, h, hv => by
    cases ds with
    | nil => cases ok_inj h; rfl
    | cons _ _ => exact absurd h stuck_ne
  | .cons t r, ds, ρ, ρ', vs, h, hv => by
    cases ds with
    | nil => exact absurd h stuck_ne
    | cons d ds =>
      obtain ⟨ρ1, h1, h2⟩ := bnd_okS (det_bindT t d ρ) h
      rw [bindTs_wip r ds ρ1 ρ' vs h2 (fun i hi => hv i (by show i ∈ tgIs t ++ tgsIs r; exact List.mem_append_right _ hi))]
      exact bindT_wip t d ρ ρ1 vs h1 (fun i hi => hv i (by show i ∈ tgIs t ++ tgsIs r; exact List.mem_append_left _ hi))
end
/-- a target's reading: the slots that it sets alone -/
def tG (K : PySem.W.Frag) (T : List (Addr × Str)) (t : Tg) : TG := fun v σ H Q => ∃ ρ n F d ρ', Rl K T ρ n F σ H ∧ Rp K F v d ∧ bindT t d ρ = ok ρ' ∧ ∀ σ', Rl K T ρ' n F σ' H → (∀ vs, (∀ i ∈ tgIs t, i ∈ vs) → L2.wipe σ' vs = L2.wipe σ vs) → (∀ i, i ∉ tgIs t → σ'[i]? = σ[i]?) → Q σ' H
def tGs (K : PySem.W.Frag) (T : List (Addr × Str)) (ts : Tgs) : TGs := fun vs σ H Q => ∃ ρ n F ds ρ', Rl K T ρ n F σ H ∧ Rps K F vs ds ∧ bindTs ts ds ρ = ok ρ' ∧ ∀ σ', Rl K T ρ' n F σ' H → (∀ us, (∀ i ∈ tgsIs ts, i ∈ us) → L2.wipe σ' us = L2.wipe σ us) → (∀ i, i ∉ tgsIs ts → σ'[i]? = σ[i]?) → Q σ' H
theorem _root_.L2.PGs.imp {X : Cx} {e : List Expr} {t t' : TGs} (h : PGs X e t) (g : ∀ v σ H Q, t' v σ H Q → t v σ H Q) : PGs X e t' := ⟨fun pins s σ H v u Q I r q => h.run pins s σ H v u Q I r (g v σ H Q q)⟩
def tgsLen : Tgs → Nat
  | .nil => 0
  | .cons _ r => tgsLen r + 1
theorem bindTs_len : ∀ (ts : Tgs) (ds : List D) (ρ ρ' : Ev), bindTs ts ds ρ = ok ρ' → ds.length = tgsLen ts
  | .nil, ds, ρ, ρ', h => by
    cases ds with
    | nil => rfl
    | cons _ _ => exact absurd h stuck_ne
  | .cons t r, ds, ρ, ρ', h => by
    cases ds with
    | nil => exact absurd h stuck_ne
    | cons d ds =>
      obtain ⟨ρ1, h1, h2⟩ := bnd_okS (det_bindT t d ρ) h
      show ds.length + 1 = tgsLen r + 1
      rw [bindTs_len r ds ρ1 ρ' h2]
theorem asg_len : ∀ (ts : Tgs) (l : List Expr) (env : Env), ckTs c ts l = true → (assignEach l env).length = tgsLen ts ∧ (assignEach l env).findIdx? (·.1) = none
  | .nil, l, env, h => by
    cases l with
    | nil => exact ⟨rfl, rfl⟩
    | cons _ _ => cases h
  | .cons t r, l, env, h => by
    cases l with
    | nil => cases h
    | cons e l =>
      have h : (ckT c t e && notStar e && ckTs c r l) = true := h
      simp only [Bool.and_eq_true] at h
      obtain ⟨i1, i2⟩ := asg_len r l env h.2
      rw [notStar_asg h.1.2]
      refine ⟨by rw [List.length_cons, i1]; rfl, ?_⟩
      rw [List.findIdx?_cons]
      simp [i2]
mutual
theorem g_t : ∀ (t : Tg) (e : Expr), Good T X c Wh → ckT c t e = true → PG X e (tG X.K T t)
  | .nm i, e, G, h => by
    obtain ⟨x, p, rfl, h1, h2, h3, _⟩ := G.setB (i := i) (e := e) h
    refine (pg_name G.nd h1 h2 h3).imp fun v σ H Q ⟨ρ, n, F, d, ρ', r, rv, e, k⟩ => ?_
    have e : Z.put ρ i (.val d) = ρ' := ok_inj e
    subst e
    refine k _ (r.put rv) (fun vs hv => wipe_set (hv i (by simp [tgIs]))) fun j hj => ?_
    rw [List.getElem?_set_ne (fun z => hj (by simp [tgIs, z]))]
  | .tup ts, e, G, h => by
    unfold ckT at h
    split at h
    · rename_i l hl
      obtain ⟨kk, p, rfl⟩ := sTup_eq hl
      obtain ⟨k1, k2⟩ := asg_len ts l X.env h
      refine (pg_tup G.calm (g_ts ts l G h) k1 k2).imp fun v σ H Q ⟨ρ, n, F, d, ρ', r, rv, e, k⟩ => ?_
      cases d with
      | tup ds =>
        cases rv with
        | tup hs rs =>
          refine ⟨_, _, rfl, r.sub.seqT hs, ?_, ρ, n, F, ds, ρ', r, rs, e, k⟩
          rw [rs.length]
          exact bindTs_len ts ds ρ ρ' e
      | _ => exact absurd e stuck_ne
    · cases h
theorem g_ts : ∀ (ts : Tgs) (l : List Expr), Good T X c Wh → ckTs c ts l = true → PGs X l (tGs X.K T ts)
  | .nil, l, G, h => by
    cases l with
    | nil =>
      refine pgs_nil.imp fun v σ H Q ⟨ρ, n, F, ds, ρ', r, rv, e, k⟩ => ?_
      cases ds with
      | nil =>
        cases rv
        cases ok_inj e
        exact ⟨rfl, k σ r (fun _ _ => rfl) fun _ _ => rfl⟩
      | cons _ _ => exact absurd e stuck_ne
    | cons _ _ => cases h
  | .cons t ts, l, G, h => by
    cases l with
    | nil => cases h
    | cons e l =>
      have h : (ckT c t e && notStar e && ckTs c ts l) = true := h
      simp only [Bool.and_eq_true] at h
      refine (pgs_cons (g_t t e G h.1.1) (g_ts ts l G h.2) (by rw [notStar_asg h.1.2]; rfl)).imp fun v σ H Q ⟨ρ, n, F, ds, ρ', r, rv, e, k⟩ => ?_
      cases ds with
      | nil => exact absurd e stuck_ne
      | cons d ds =>
        cases rv with
        | cons rv rvs =>
          obtain ⟨ρ1, h1, h2⟩ := bnd_okS (det_bindT t d ρ) e
          refine ⟨_, _, rfl, ρ, n, F, d, ρ1, r, rv, h1, fun σ1 r1 w1 g1 => ⟨ρ1, n, F, ds, ρ', r1, rvs, h2, fun σ2 r2 w2 g2 => k σ2 r2 (fun us hu => ?_) fun i hi => ?_⟩⟩
          · rw [w2 us (fun i hi => hu i (by show i ∈ tgIs t ++ tgsIs ts; exact List.mem_append_right _ hi)), w1 us (fun i hi => hu i (by show i ∈ tgIs t ++ tgsIs ts; exact List.mem_append_left _ hi))]
          · have hi : i ∉ tgIs t ++ tgsIs ts := hi
            rw [List.mem_append, not_or] at hi
            rw [g2 i hi.2, g1 i hi.1]
end
end
end Z
end
-- Z14
section
set_option Elab.async false
set_option linter.all false
set_option maxRecDepth 100000
set_option maxHeartbeats 1000000
/-! Z14: an untracked own object changes; comprehensions. -/
namespace Z
open PySem PySem.Spec PyProof.Rows L2

def loose : Option HO → Prop
  | none => True
  | some (.lst _) => True
  | some (.dK _) => True
  | _ => False
section
variable {K : PySem.W.Frag} {T : List (Addr × Str)} {mg : Str → Option Value} {ρ ρ' : Ev} {σ σ' : L2.St} {F F1 F2 H H1 H2 H0 F0 : Hp} {n n0 n1 n2 : Nat} {D0 : Addr} {o : HO}
theorem tabs_upd (t : LamX.Tabs T H) (hl : loose (H D0)) : LamX.Tabs T (upd H D0 o) := fun p hp => by
  obtain ⟨ps, h1, h2, h3⟩ := t p hp
  have ne : ∀ {b u}, H b = some u → (∀ xs, u ≠ .lst xs) → (∀ xs, u ≠ .dK xs) → b ≠ D0 := fun {b u} e k1 k2 z => by
    rw [← z, e] at hl
    cases u with
    | lst xs => exact k1 xs rfl
    | dK xs => exact k2 xs rfl
    | _ => exact hl
  refine ⟨ps, by rw [upd_ne (ne h1 (fun _ z => nomatch z) (fun _ z => nomatch z))]; exact h1, h2, fun pos cv hc => ?_⟩
  obtain ⟨c, e1, e2⟩ := h3 pos cv hc
  exact ⟨c, e1, by rw [upd_ne (ne e2 (fun _ z => by unfold LamX.CodeO at z; exact nomatch z) (fun _ z => by unfold LamX.CodeO at z; exact nomatch z))]; exact e2⟩
/-- an object that no slot and no datum knows is written -/
theorem Rl.chg (r : Rl K T ρ n F σ H) (hf : F D0 = none) (hl : loose (H D0)) (hn : ∀ i, big (at_ ρ i) = true → σ[i]? ≠ some (some (.ref D0))) : Rl K T ρ n F σ (upd H D0 o) := by
  refine ⟨fun a u e => ?_, r.len, r.val, fun i ds e => ?_, fun i kvs e => ?_, fun i e => ?_, r.dist, tabs_upd r.tabs hl, r.pure, r.one⟩
  · rw [upd_ne (fun z => by rw [z, hf] at e; cases e)]; exact r.sub a u e
  · obtain ⟨a, vs, h1, h2, h3⟩ := r.own i ds e
    exact ⟨a, vs, h1, by rw [upd_ne (fun z => hn i (by rw [e]; rfl) (by rw [h1, z]))]; exact h2, h3⟩
  · obtain ⟨a, vs, h1, h2, h3⟩ := r.dct i kvs e
    exact ⟨a, vs, h1, by rw [upd_ne (fun z => hn i (by rw [e]; rfl) (by rw [h1, z]))]; exact h2, h3⟩
  · obtain ⟨a, x, y, z, h1, h2, h3⟩ := r.deck i e
    exact ⟨a, x, y, z, h1, by rw [upd_ne (fun z => hn i (by rw [e]; rfl) (by rw [h1, z]))]; exact h2, h3⟩
theorem Rl.big_at (r : Rl K T ρ n F σ H) {i : Nat} (h : big (at_ ρ i) = true) : ∃ a o, σ[i]? = some (some (.ref a)) ∧ H a = some o ∧ F a = none ∧ loose (some o) := by
  cases e : at_ ρ i with
  | own ds => obtain ⟨a, vs, h1, h2, h3, _⟩ := r.own i ds e; exact ⟨a, _, h1, h2, h3, trivial⟩
  | dct ds => obtain ⟨a, vs, h1, h2, h3, _⟩ := r.dct i ds e; exact ⟨a, _, h1, h2, h3, trivial⟩
  | deck => obtain ⟨a, x, y, z, h1, h2, h3, _⟩ := r.deck i e; exact ⟨a, _, h1, h2, h3, trivial⟩
  | no => rw [e] at h; cases h
  | val d => rw [e] at h; cases h
/-- within a comprehension: the new list at D0 -/
structure Lc (K : PySem.W.Frag) (T : List (Addr × Str)) (ρ : Ev) (σ : L2.St) (own : List Nat) (F0 H0 : Hp) (D0 : Addr) (n : Nat) (F H : Hp) (acc : List V) (dacc : List D) : Prop where
  rl : Rl K T (wip ρ own) n F (L2.wipe σ own) H
  grow : Grow F0 H0 F
  keep : Keep (dk ρ σ) H0 H
  here : H D0 = some (.lst acc)
  free : F D0 = none
  rp : Rps K F acc dacc
  new : H0 D0 = none
variable {own : List Nat} {acc : List V} {dacc : List D}
theorem plain_at (hp : plainAt ρ own = true) {i : Nat} (h : big (at_ ρ i) = true) : i ∉ own := fun hi => by
  have := List.all_eq_true.mp hp i hi
  rw [h] at this; cases this
theorem Lc.start (r0 : Rl K T ρ n0 F0 σ H0) (p : Post K T ρ σ F0 H0 n F H) (hd : H D0 = none) : Lc K T ρ σ own F0 H0 D0 n F (upd H D0 (.lst [])) [] [] where
  rl := (p.rl.wipe own).chg (p.rl.sub.nope hd) (by rw [hd]; trivial) fun i hb e => by
    obtain ⟨a, o, h1, h2, _⟩ := (p.rl.wipe own).big_at hb
    rw [e] at h1
    cases h1
    rw [hd] at h2; cases h2
  grow := p.grow
  keep := fun b o e => by
    have : b ≠ D0 := fun z => by
      have := p.keep.nope hd
      rw [← z, e] at this; cases this
    rw [upd_ne this]
    exact p.keep b o e
  here := upd_same
  free := p.rl.sub.nope hd
  rp := .nil
  new := p.keep.nope hd
theorem dk_wip (hp : plainAt ρ own = true) {a : Addr} (h : dk ρ σ a) : dk (wip ρ own) (L2.wipe σ own) a := by
  obtain ⟨i, e1, e2⟩ := h
  have hi := plain_at hp (i := i) (by rw [e1]; rfl)
  exact ⟨i, by rw [at_wip, if_neg hi]; exact e1, by rw [wipe_get hi]; exact e2⟩
theorem wip_dk {a : Addr} (h : dk (wip ρ own) (L2.wipe σ own) a) : dk ρ σ a := by
  obtain ⟨i, e1, e2⟩ := h
  have hi : i ∉ own := fun hi => by rw [at_wip, if_pos hi] at e1; cases e1
  rw [at_wip, if_neg hi] at e1
  rw [wipe_get hi] at e2
  exact ⟨i, e1, e2⟩
theorem Lc.done (r0 : Rl K T ρ n0 F0 σ H0) (hp : plainAt ρ own = true) (c : Lc K T ρ σ own F0 H0 D0 n F H acc dacc) : Post K T ρ σ F0 H0 n (upd F D0 (.lst acc)) H := by
  have s : Sub (upd F D0 (.lst acc)) H := fun a o e => by
    by_cases q : a = D0
    · rw [q, upd_same] at e; rw [q, ← Option.some.inj e]; exact c.here
    · rw [upd_ne q] at e; exact c.rl.sub a o e
  have g : Grow F0 H0 (upd F D0 (.lst acc)) := ⟨c.grow.1.trans (sub_upd c.free), fun a h f => by
    rw [upd_ne (fun z => h (by rw [z]; exact c.new))]; exact c.grow.2 a h f⟩
  refine ⟨r0.back g c.keep s c.rl.tabs (fun a ps e => ?_) fun i a e1 e2 => ?_, g, c.keep⟩
  · by_cases q : a = D0
    · rw [q, upd_same] at e; cases e
    · rw [upd_ne q] at e; exact c.rl.pure a ps e
  · have hi := plain_at hp (i := i) (by rw [e1]; rfl)
    obtain ⟨b, x, y, z, h1, h2, h3, h4⟩ := c.rl.deck i (by rw [at_wip, if_neg hi]; exact e1)
    rw [wipe_get hi, e2] at h1
    cases h1
    exact ⟨x, y, z, h2, h4⟩
theorem Lc.val (c : Lc K T ρ σ own F0 H0 D0 n F H acc dacc) : Rp K (upd F D0 (.lst acc)) (.ref D0) (.lst dacc) := rp_new c.free c.rp
theorem Lc.nos (r0 : Rl K T ρ n0 F0 σ H0) (c : Lc K T ρ σ own F0 H0 D0 n F H acc dacc) : ∀ i, big (at_ (wip ρ own) i) = true → (L2.wipe σ own)[i]? ≠ some (some (.ref D0)) := fun i hb e => by
  have hi : i ∉ own := fun hi => by rw [at_wip, if_pos hi] at hb; cases hb
  rw [at_wip, if_neg hi] at hb
  rw [wipe_get hi] at e
  obtain ⟨a, o, h1, h2, _⟩ := r0.big_at hb
  rw [e] at h1
  cases h1
  rw [c.new] at h2; cases h2
/-- a step of the block: from the wiped slots, by slots that differ in the block's own names alone -/
theorem Lc.step (r0 : Rl K T ρ n0 F0 σ H0) (c : Lc K T ρ σ own F0 H0 D0 n F H acc dacc) (hw : wip ρ' own = wip ρ own) (hs : L2.wipe σ' own = L2.wipe σ own) (hb : ∀ i, big (at_ ρ' i) = true → i ∉ own)
    (p : Post K T ρ' σ' F H n1 F1 H1) : Lc K T ρ σ own F0 H0 D0 n1 F1 H1 acc dacc := by
  have dk' : ∀ a, dk ρ' σ' a → dk ρ σ a := fun a ⟨i, e1, e2⟩ => by
    have hi := hb i (by rw [e1]; rfl)
    refine wip_dk (own := own) ⟨i, ?_, ?_⟩
    · rw [← hw, at_wip, if_neg hi]; exact e1
    · rw [← hs, wipe_get hi]; exact e2
  have nd : ¬ dk ρ' σ' D0 := fun h => by
    obtain ⟨i, e1, e2⟩ := dk' D0 h
    obtain ⟨a, x, y, z, h1, h2, _⟩ := r0.deck i e1
    rw [e2] at h1
    cases h1
    rw [c.new] at h2; cases h2
  refine ⟨?_, c.grow.trans c.keep p.grow, c.keep.trans (p.keep.mono dk'), ?_, p.grow.2 D0 (by rw [c.here]; exact fun z => nomatch z) c.free, c.rp.mono p.grow.1, c.new⟩
  · rw [← hw, ← hs]; exact p.rl.wipe own
  · rcases p.keep D0 _ c.here with z | ⟨z | ⟨ps, z⟩, _⟩
    · exact z
    · exact absurd z nd
    · cases z
theorem Lc.app {v : V} {d : D} (r0 : Rl K T ρ n0 F0 σ H0) (c : Lc K T ρ σ own F0 H0 D0 n F H acc dacc) (h : Rp K F v d) : Lc K T ρ σ own F0 H0 D0 n F (upd H D0 (.lst (acc ++ [v]))) (acc ++ [v]) (dacc ++ [d]) where
  rl := c.rl.chg c.free (by rw [c.here]; trivial) (c.nos r0)
  grow := c.grow
  keep := fun b o e => by
    have : b ≠ D0 := fun z => by rw [z, c.new] at e; cases e
    rw [upd_ne this]
    exact c.keep b o e
  here := upd_same
  free := c.free
  rp := c.rp.app (.cons h .nil)
  new := c.new
end

/-! ### the rule -/
abbrev NoX : WX := fun _ _ _ _ => False
def tC (K : PySem.W.Frag) (T : List (Addr × Str)) (mg : Str → Option Value) (cd : Ox) : TT := fun σ H Q => ∃ ρ n F, Rl K T ρ n F σ H ∧ evC cd ρ n (fun b n' => ∀ F' H', Post K T ρ σ F H n' F' H' → Q b H') (kE K T mg ρ σ F H NoX)
theorem kNo {K : PySem.W.Frag} {T : List (Addr × Str)} {mg : Str → Option Value} {ρ : Ev} {σ : L2.St} {F H : Hp} {Wh : WX} : ∀ (x : Exc) (n' : Nat), False → kE K T mg ρ σ F H Wh x n' := fun _ _ z => z.elim
section
variable {K : PySem.W.Frag} {T : List (Addr × Str)} {mg : Str → Option Value} {Wh : WX} {ρ : Ev} {σ : L2.St} {t : Tg} {it : It} {cd : Ox} {elt : Ex} {own : List Nat}
def fC (t : Tg) (cd : Ox) (elt : Ex) (own : List Nat) (ρ : Ev) : D → W (List D) := fun d => bnd (bindT t d (wip ρ own)) fun ρ' => bnd (evC cd ρ') fun k => ife k (bnd (evE elt ρ') fun y => ok [y]) (ok [])
theorem wipe_twice (σ : L2.St) (vs : List Nat) : L2.wipe (L2.wipe σ vs) vs = L2.wipe σ vs := by
  have key : ∀ us : List Nat, (∀ i ∈ us, i ∈ vs) → L2.wipe (L2.wipe σ vs) us = L2.wipe σ vs := by
    intro us
    induction us with
    | nil => intro _; rfl
    | cons u us ih =>
      intro h
      show (L2.wipe (L2.wipe σ vs) us).set u none = L2.wipe σ vs
      rw [ih fun i hi => h i (List.mem_cons_of_mem _ hi)]
      apply List.ext_getElem?
      intro k
      by_cases hk : u = k
      · subst hk
        rw [List.getElem?_set, if_pos rfl]
        have hu : u ∈ vs := h u List.mem_cons_self
        have ez : ∀ (vs : List Nat), u ∈ vs → (L2.wipe σ vs)[u]? = if u < σ.length then some none else none := by
          intro vs
          induction vs with
          | nil => intro h; cases h
          | cons w ws ih =>
            intro hm
            show ((L2.wipe σ ws).set w none)[u]? = _
            by_cases hw : w = u
            · subst hw
              rw [List.getElem?_set, if_pos rfl, L2.wipe_length]
            · rw [List.getElem?_set_ne hw]
              exact ih ((List.mem_cons.mp hm).resolve_left (fun z => hw z.symm))
        rw [ez vs hu, L2.wipe_length]
      · rw [List.getElem?_set_ne hk]
  exact key vs fun _ h => h
theorem wip_twice (ρ : Ev) (vs : List Nat) : wip (wip ρ vs) vs = wip ρ vs := by
  have key : ∀ us : List Nat, (∀ i ∈ us, i ∈ vs) → wip (wip ρ vs) us = wip ρ vs := by
    intro us
    induction us with
    | nil => intro _; rfl
    | cons u us ih =>
      intro h
      show Z.put (wip (wip ρ vs) us) u .no = wip ρ vs
      rw [ih fun i hi => h i (List.mem_cons_of_mem _ hi)]
      have hu : at_ (wip ρ vs) u = .no := by rw [at_wip, if_pos (h u List.mem_cons_self)]
      have pn : ∀ (r : Ev) (i : Nat), at_ r i = .no → Z.put r i .no = r := by
        intro r
        induction r with
        | nil => intro i _; rfl
        | cons s r ih =>
          intro i h
          cases i with
          | zero => have h : s = .no := h; rw [h]; rfl
          | succ i => show s :: Z.put r i .no = s :: r; rw [ih i h]
      exact pn _ _ hu
  exact key vs fun _ h => h
/-- from the tree's meaning to the rule's reading -/
theorem red_comp (mI : ∀ ρ, Mono (evI it ρ)) (mC : ∀ ρ, Mono (evC cd ρ)) (mE : ∀ ρ, Mono (evE elt ρ)) (ht : ∀ i ∈ tgIs t, i ∈ own) (hb : sg elt = true) :
    ∀ σ H Q, tE K T mg Wh (.comp elt t it cd own) σ H Q → tLc (tI K T mg Wh it) (tG K T t) (tC K T mg cd) (tE K T mg NoX elt) own σ H Q := fun σ H0 Q ⟨ρ, n0, F0, r0, q⟩ => by
  refine ⟨ρ, n0, F0, r0, mI ρ _ _ _ _ _ (fun ds n1 hk J F1 H1 p1 ok => ?_) (fun _ _ z => z) q⟩
  obtain ⟨hp, hk⟩ := chkb hk
  have hk : bnd (gatW (fC t cd elt own ρ) ds) (fun ys => Z.ok (D.lst ys)) n1 (kP K T ρ σ F0 H0 true Q) (fun _ _ => False) := hk
  intro D0 hD
  refine ⟨fun i m H => m = ds.length - i ∧ i ≤ ds.length ∧ ∃ n F acc dacc, Lc K T ρ σ own F0 H0 D0 n F H acc dacc ∧ Sub F1 F ∧ acc.length ≤ i ∧ bnd (gatW (fC t cd elt own ρ) (ds.drop i)) (fun ys => Z.ok (D.lst (dacc ++ ys))) n (kP K T ρ σ F0 H0 true Q) (fun _ _ => False), ⟨ds.length, by simp, Nat.zero_le _, n1, F1, [], [], .start r0 p1 hD, Sub.refl _, Nat.le_refl _, hk⟩, ?_⟩
  rintro i m H ⟨rfl, hi, n, F, acc, dacc, lc, s1, hacc, w⟩
  by_cases hlt : i < ds.length
  · refine .inr ⟨ok.goes i H hlt (s1.trans lc.rl.sub), fun H' => i + 1 ≤ ds.length ∧ ∃ n F acc dacc, Lc K T ρ σ own F0 H0 D0 n F H' acc dacc ∧ Sub F1 F ∧ acc.length ≤ i + 1 ∧ bnd (gatW (fC t cd elt own ρ) (ds.drop (i + 1))) (fun ys => Z.ok (D.lst (dacc ++ ys))) n (kP K T ρ σ F0 H0 true Q) (fun _ _ => False), fun H' hh => ⟨ds.length - (i + 1), by omega, rfl, hh⟩, fun x H' y => ?_⟩
    obtain ⟨F2, nw, rx⟩ := ok.yields i H x H' F ds[i] s1 lc.rl.sub (by simp [hlt]) y
    have lc2 := lc.step r0 (wip_twice ρ own) (wipe_twice σ own) (fun j hj => fun hjo => by rw [at_wip, if_pos hjo] at hj; cases hj) (lc.rl.nw nw)
    rw [List.drop_eq_getElem_cons hlt] at w
    have w : bnd (bindT t ds[i] (wip ρ own)) (fun ρ' => bnd (evC cd ρ') fun k => bnd (ife k (bnd (evE elt ρ') fun y => Z.ok [y]) (Z.ok [])) fun ys => bnd (gatW (fC t cd elt own ρ) (ds.drop (i + 1))) fun zs => Z.ok (D.lst (dacc ++ (ys ++ zs)))) n (kP K T ρ σ F0 H0 true Q) (fun _ _ => False) := w
    obtain ⟨ρ', e1, w⟩ := (det_bindT t ds[i] (wip ρ own)).get w
    have hw : wip ρ' own = wip ρ own := (bindT_wip t _ _ _ own e1 ht).trans (wip_twice ρ own)
    have hbig : ∀ j, big (at_ ρ' j) = true → j ∉ own := fun j hj hjo => by
      rw [bindT_big t _ _ _ e1 j hj, at_wip, if_pos hjo] at hj; cases hj
    refine ⟨wip ρ own, n, F2, ds[i], ρ', lc2.rl, rx, e1, fun σ' r' wv _ => ?_⟩
    have hs : L2.wipe σ' own = L2.wipe σ own := (wv own ht).trans (wipe_twice σ own)
    refine ⟨hs, ρ', n, F2, r', mC ρ' _ _ _ _ _ (fun k n3 hk3 F3 H3 p3 => ?_) kNo w⟩
    have lc3 := lc2.step r0 hw hs hbig p3
    have s3 : Sub F1 F3 := (s1.trans nw.f).trans p3.grow.1
    cases k with
    | false => exact ⟨by omega, n3, F3, acc, dacc, lc3, s3, by omega, hk3⟩
    | true =>
      refine ⟨ρ', n3, F3, p3.rl, mE ρ' _ _ _ _ _ (fun yd n4 hk4 yv F4 H4 p4 ry => ?_) kNo hk3⟩
      rw [hb] at ry
      have lc4 := lc3.step r0 hw hs hbig p4
      have hl := ok.len
      refine ⟨acc, lc4.here, by omega, by omega, n4, F4, acc ++ [yv], dacc ++ [yd], lc4.app r0 ry, s3.trans p4.grow.1, by rw [List.length_append]; simp; omega, ?_⟩
      have e : (fun zs => Z.ok (D.lst ((dacc ++ [yd]) ++ zs))) = fun zs => Z.ok (D.lst (dacc ++ ([yd] ++ zs))) := by
        funext zs; rw [List.append_assoc]
      rw [e]
      exact hk4
  · have e : i = ds.length := by omega
    subst e
    rw [List.drop_length] at w
    have w : kP K T ρ σ F0 H0 true Q (D.lst (dacc ++ [])) n := w
    rw [List.append_nil] at w
    exact .inl ⟨ok.stops H (s1.trans lc.rl.sub), w _ _ _ (lc.done r0 hp) lc.val⟩
theorem wipe_sub {σ : L2.St} {own own2 : List Nat} (h : ∀ i ∈ own2, i ∈ own) : L2.wipe (L2.wipe σ own2) own = L2.wipe σ own := by
  have key : ∀ us : List Nat, (∀ i ∈ us, i ∈ own) → L2.wipe (L2.wipe σ us) own = L2.wipe σ own := by
    intro us
    induction us with
    | nil => intro _; rfl
    | cons u us ih =>
      intro h
      show L2.wipe ((L2.wipe σ us).set u none) own = L2.wipe σ own
      rw [wipe_set (h u List.mem_cons_self), ih fun i hi => h i (List.mem_cons_of_mem _ hi)]
  exact key own2 h
theorem wip_sub {ρ : Ev} {own own2 : List Nat} (h : ∀ i ∈ own2, i ∈ own) : wip (wip ρ own2) own = wip ρ own := by
  have key : ∀ us : List Nat, (∀ i ∈ us, i ∈ own) → wip (wip ρ us) own = wip ρ own := by
    intro us
    induction us with
    | nil => intro _; rfl
    | cons u us ih =>
      intro h
      show wip (Z.put (wip ρ us) u .no) own = wip ρ own
      rw [wip_put (h u List.mem_cons_self), ih fun i hi => h i (List.mem_cons_of_mem _ hi)]
  exact key own2 h
def fC2 (t : Tg) (cd : Ox) (t2 : Tg) (it2 : It) (cd2 : Ox) (elt : Ex) (own own2 : List Nat) (ρ : Ev) : D → W (List D) := fun d => bnd (bindT t d (wip ρ own)) fun ρ' => bnd (evC cd ρ') fun k => ife k
  (bnd (evI it2 ρ') fun es => chk (plainAt ρ' own2 && decide (es.length ≤ 4000)) (gatW (fC t2 cd2 elt own2 ρ') es)) (ok [])
theorem red_comp2 {t2 : Tg} {it2 : It} {cd2 : Ox} {own2 : List Nat} (mI : ∀ ρ, Mono (evI it ρ)) (mC : ∀ ρ, Mono (evC cd ρ)) (mI2 : ∀ ρ, Mono (evI it2 ρ)) (mC2 : ∀ ρ, Mono (evC cd2 ρ)) (mE : ∀ ρ, Mono (evE elt ρ)) (ht : ∀ i ∈ tgIs t, i ∈ own) (ht2 : ∀ i ∈ tgIs t2, i ∈ own2) (ho : ∀ i ∈ own2, i ∈ own) (hb : sg elt = true) :
    ∀ σ H Q, tE K T mg Wh (.comp2 elt t it cd t2 it2 cd2 own own2) σ H Q → tLc2 (tI K T mg Wh it) (tG K T t) (tC K T mg cd) (tI K T mg NoX it2) (tG K T t2) (tC K T mg cd2) (tE K T mg NoX elt) own own2 σ H Q := fun σ H0 Q ⟨ρ, n0, F0, r0, q⟩ => by
  refine ⟨ρ, n0, F0, r0, mI ρ _ _ _ _ _ (fun ds n1 hk J F1 H1 p1 ok => ?_) (fun _ _ z => z) q⟩
  obtain ⟨hp, hk⟩ := chkb hk
  rw [Bool.and_eq_true, decide_eq_true_eq] at hp
  obtain ⟨hp, hds⟩ := hp
  have hk : bnd (gatW (fC2 t cd t2 it2 cd2 elt own own2 ρ) ds) (fun ys => Z.ok (D.lst ys)) n1 (kP K T ρ σ F0 H0 true Q) (fun _ _ => False) := hk
  intro D0 hD
  refine ⟨fun i m H => m = ds.length - i ∧ i ≤ ds.length ∧ ∃ n F acc dacc, Lc K T ρ σ own F0 H0 D0 n F H acc dacc ∧ Sub F1 F ∧ acc.length ≤ 4000 * i ∧ bnd (gatW (fC2 t cd t2 it2 cd2 elt own own2 ρ) (ds.drop i)) (fun ys => Z.ok (D.lst (dacc ++ ys))) n (kP K T ρ σ F0 H0 true Q) (fun _ _ => False), ⟨ds.length, by simp, Nat.zero_le _, n1, F1, [], [], .start r0 p1 hD, Sub.refl _, Nat.zero_le _, hk⟩, ?_⟩
  rintro i m H ⟨rfl, hi, n, F, acc, dacc, lc, s1, hacc, w⟩
  by_cases hlt : i < ds.length
  · refine .inr ⟨ok.goes i H hlt (s1.trans lc.rl.sub), fun H' => i + 1 ≤ ds.length ∧ ∃ n F acc dacc, Lc K T ρ σ own F0 H0 D0 n F H' acc dacc ∧ Sub F1 F ∧ acc.length ≤ 4000 * (i + 1) ∧ bnd (gatW (fC2 t cd t2 it2 cd2 elt own own2 ρ) (ds.drop (i + 1))) (fun ys => Z.ok (D.lst (dacc ++ ys))) n (kP K T ρ σ F0 H0 true Q) (fun _ _ => False), fun H' hh => ⟨ds.length - (i + 1), by omega, rfl, hh⟩, fun x H' y => ?_⟩
    obtain ⟨F2, nw, rx⟩ := ok.yields i H x H' F ds[i] s1 lc.rl.sub (by simp [hlt]) y
    have lc2 := lc.step r0 (wip_twice ρ own) (wipe_twice σ own) (fun j hj => fun hjo => by rw [at_wip, if_pos hjo] at hj; cases hj) (lc.rl.nw nw)
    rw [List.drop_eq_getElem_cons hlt] at w
    have w : bnd (bindT t ds[i] (wip ρ own)) (fun ρ' => bnd (evC cd ρ') fun k => bnd (ife k (bnd (evI it2 ρ') fun es => chk (plainAt ρ' own2 && decide (es.length ≤ 4000)) (gatW (fC t2 cd2 elt own2 ρ') es)) (Z.ok [])) fun ys => bnd (gatW (fC2 t cd t2 it2 cd2 elt own own2 ρ) (ds.drop (i + 1))) fun zs => Z.ok (D.lst (dacc ++ (ys ++ zs)))) n (kP K T ρ σ F0 H0 true Q) (fun _ _ => False) := w
    obtain ⟨ρ', e1, w⟩ := (det_bindT t ds[i] (wip ρ own)).get w
    have hw : wip ρ' own = wip ρ own := (bindT_wip t _ _ _ own e1 ht).trans (wip_twice ρ own)
    have hbig : ∀ j, big (at_ ρ' j) = true → j ∉ own := fun j hj hjo => by
      rw [bindT_big t _ _ _ e1 j hj, at_wip, if_pos hjo] at hj; cases hj
    refine ⟨wip ρ own, n, F2, ds[i], ρ', lc2.rl, rx, e1, fun σ' r' wv _ => ?_⟩
    have hs : L2.wipe σ' own = L2.wipe σ own := (wv own ht).trans (wipe_twice σ own)
    refine ⟨hs, ρ', n, F2, r', mC ρ' _ _ _ _ _ (fun k n3 hk3 F3 H3 p3 => ?_) kNo w⟩
    have lc3 := lc2.step r0 hw hs hbig p3
    have s3 : Sub F1 F3 := (s1.trans nw.f).trans p3.grow.1
    cases k with
    | false => exact ⟨by omega, n3, F3, acc, dacc, lc3, s3, by omega, hk3⟩
    | true =>
      refine ⟨ρ', n3, F3, p3.rl, mI2 ρ' _ _ _ _ _ (fun es n4 hk4 J1 F4 H4 p4 ok1 => ?_) kNo hk3⟩
      have hk4 : bnd (chk (plainAt ρ' own2 && decide (es.length ≤ 4000)) (gatW (fC t2 cd2 elt own2 ρ') es)) (fun ys => bnd (gatW (fC2 t cd t2 it2 cd2 elt own own2 ρ) (ds.drop (i + 1))) fun zs => Z.ok (D.lst (dacc ++ (ys ++ zs)))) n4 (kP K T ρ σ F0 H0 true Q) (fun _ _ => False) := hk4
      rw [bnd_chk] at hk4
      obtain ⟨hp2, hk4⟩ := chkb hk4
      rw [Bool.and_eq_true, decide_eq_true_eq] at hp2
      obtain ⟨hp2, hes⟩ := hp2
      have lc4 := lc3.step r0 hw hs hbig p4
      have s4 : Sub F1 F4 := s3.trans p4.grow.1
      -- the inner slots
      have nos2 : ∀ {n F H acc dacc}, Lc K T ρ σ own F0 H0 D0 n F H acc dacc → ∀ j, big (at_ (wip ρ' own2) j) = true → (L2.wipe σ' own2)[j]? ≠ some (some (.ref D0)) := fun {n F H acc dacc} lc j hj => by
        have h2 : j ∉ own2 := fun z => by rw [at_wip, if_pos z] at hj; cases hj
        rw [at_wip, if_neg h2] at hj
        have h3 := hbig j hj
        rw [wipe_get h2, ← wipe_get h3, hs]
        refine lc.nos r0 j ?_
        rw [← hw, at_wip, if_neg h3]; exact hj
      refine ⟨fun j m H => m = es.length - j ∧ j ≤ es.length ∧ ∃ n F acc dacc, Lc K T ρ σ own F0 H0 D0 n F H acc dacc ∧ Rl K T (wip ρ' own2) n F (L2.wipe σ' own2) H ∧ Sub F1 F ∧ Sub F4 F ∧ acc.length ≤ 4000 * i + j ∧
          bnd (gatW (fC t2 cd2 elt own2 ρ') (es.drop j)) (fun ys => bnd (gatW (fC2 t cd t2 it2 cd2 elt own own2 ρ) (ds.drop (i + 1))) fun zs => Z.ok (D.lst (dacc ++ (ys ++ zs)))) n (kP K T ρ σ F0 H0 true Q) (fun _ _ => False),
        ⟨es.length, by simp, Nat.zero_le _, n4, F4, acc, dacc, lc4, p4.rl.wipe own2, s4, Sub.refl _, by omega, hk4⟩, ?_⟩
      rintro j m5 H5 ⟨rfl, hj, n5, F5, acc5, dacc5, lc5, r5, s5, s45, hacc5, w5⟩
      by_cases hjt : j < es.length
      · refine .inr ⟨ok1.goes j H5 hjt (s45.trans lc5.rl.sub), fun H' => j + 1 ≤ es.length ∧ ∃ n F acc dacc, Lc K T ρ σ own F0 H0 D0 n F H' acc dacc ∧ Rl K T (wip ρ' own2) n F (L2.wipe σ' own2) H' ∧ Sub F1 F ∧ Sub F4 F ∧ acc.length ≤ 4000 * i + (j + 1) ∧
            bnd (gatW (fC t2 cd2 elt own2 ρ') (es.drop (j + 1))) (fun ys => bnd (gatW (fC2 t cd t2 it2 cd2 elt own own2 ρ) (ds.drop (i + 1))) fun zs => Z.ok (D.lst (dacc ++ (ys ++ zs)))) n (kP K T ρ σ F0 H0 true Q) (fun _ _ => False), fun H' hh => ⟨es.length - (j + 1), by omega, rfl, hh⟩, fun x1 H6 y1 => ?_⟩
        obtain ⟨F6, nw6, rx6⟩ := ok1.yields j H5 x1 H6 F5 es[j] s45 lc5.rl.sub (by simp [hjt]) y1
        have lc6 := lc5.step r0 ((wip_sub ho).trans hw) ((wipe_sub ho).trans hs) (fun k hk hko => by
          have h2 : k ∉ own2 := fun z => by rw [at_wip, if_pos z] at hk; cases hk
          rw [at_wip, if_neg h2] at hk
          exact hbig k hk hko) (r5.nw nw6)
        have r6 := (r5.nw nw6).rl
        rw [List.drop_eq_getElem_cons hjt] at w5
        have w5 : bnd (bindT t2 es[j] (wip ρ' own2)) (fun ρ2 => bnd (evC cd2 ρ2) fun k => bnd (ife k (bnd (evE elt ρ2) fun y => Z.ok [y]) (Z.ok [])) fun us => bnd (gatW (fC t2 cd2 elt own2 ρ') (es.drop (j + 1))) fun vs => bnd (gatW (fC2 t cd t2 it2 cd2 elt own own2 ρ) (ds.drop (i + 1))) fun zs => Z.ok (D.lst (dacc5 ++ ((us ++ vs) ++ zs)))) n5 (kP K T ρ σ F0 H0 true Q) (fun _ _ => False) := w5
        obtain ⟨ρ2, e2, w5⟩ := (det_bindT t2 es[j] (wip ρ' own2)).get w5
        have hw2 : wip ρ2 own2 = wip ρ' own2 := (bindT_wip t2 _ _ _ own2 e2 ht2).trans (wip_twice ρ' own2)
        have hw3 : wip ρ2 own = wip ρ own := ((bindT_wip t2 _ _ _ own e2 fun k hk => ho k (ht2 k hk)).trans (wip_sub ho)).trans hw
        have hbig2 : ∀ k, big (at_ ρ2 k) = true → k ∉ own := fun k hk hko => by
          rw [bindT_big t2 _ _ _ e2 k hk] at hk
          have h2 : k ∉ own2 := fun z => by rw [at_wip, if_pos z] at hk; cases hk
          rw [at_wip, if_neg h2] at hk
          exact hbig k hk hko
        refine ⟨wip ρ' own2, n5, F6, es[j], ρ2, r6, rx6, e2, fun σ2 rr2 wv2 _ => ?_⟩
        have hs2 : L2.wipe σ2 own2 = L2.wipe σ' own2 := (wv2 own2 ht2).trans (wipe_twice σ' own2)
        have hs3 : L2.wipe σ2 own = L2.wipe σ own := ((wv2 own fun k hk => ho k (ht2 k hk)).trans (wipe_sub ho)).trans hs
        refine ⟨hs2, ρ2, n5, F6, rr2, mC2 ρ2 _ _ _ _ _ (fun k n7 hk7 F7 H7 p7 => ?_) kNo w5⟩
        have lc7 := lc6.step r0 hw3 hs3 hbig2 p7
        have s7 : Sub F5 F7 := nw6.f.trans p7.grow.1
        have r7 : Rl K T (wip ρ' own2) n7 F7 (L2.wipe σ' own2) H7 := by rw [← hw2, ← hs2]; exact p7.rl.wipe own2
        cases k with
        | false => exact ⟨by omega, n7, F7, acc5, dacc5, lc7, r7, s5.trans s7, s45.trans s7, by omega, hk7⟩
        | true =>
          refine ⟨ρ2, n7, F7, p7.rl, mE ρ2 _ _ _ _ _ (fun yd n8 hk8 yv F8 H8 p8 ry => ?_) kNo hk7⟩
          rw [hb] at ry
          have lc8 := lc7.step r0 hw3 hs3 hbig2 p8
          have s8 : Sub F5 F8 := s7.trans p8.grow.1
          have r8 : Rl K T (wip ρ' own2) n8 F8 (L2.wipe σ' own2) H8 := by rw [← hw2, ← hs2]; exact p8.rl.wipe own2
          refine ⟨acc5, lc8.here, by rw [sizeLine_eq]; omega, by omega, n8, F8, acc5 ++ [yv], dacc5 ++ [yd], lc8.app r0 ry, r8.chg lc8.free (by rw [lc8.here]; trivial) (nos2 lc8), s5.trans s8, s45.trans s8, by rw [List.length_append]; simp; omega, ?_⟩
          have e : (fun vs => bnd (gatW (fC2 t cd t2 it2 cd2 elt own own2 ρ) (ds.drop (i + 1))) fun zs => Z.ok (D.lst ((dacc5 ++ [yd]) ++ (vs ++ zs)))) = fun vs => bnd (gatW (fC2 t cd t2 it2 cd2 elt own own2 ρ) (ds.drop (i + 1))) fun zs => Z.ok (D.lst (dacc5 ++ (([yd] ++ vs) ++ zs))) := by
            funext vs; congr 1; funext zs; rw [List.append_assoc, List.append_assoc]
          rw [e]
          exact hk8
      · have e : j = es.length := by omega
        subst e
        rw [List.drop_length] at w5
        exact .inl ⟨ok1.stops H5 (s45.trans lc5.rl.sub), by omega, n5, F5, acc5, dacc5, lc5, s5, by omega, w5⟩
  · have e : i = ds.length := by omega
    subst e
    rw [List.drop_length] at w
    have w : kP K T ρ σ F0 H0 true Q (D.lst (dacc ++ [])) n := w
    rw [List.append_nil] at w
    exact .inl ⟨ok.stops H (s1.trans lc.rl.sub), w _ _ _ (lc.done r0 hp) lc.val⟩
end
end Z
end
-- Z11t
section
set_option Elab.async false
set_option linter.all false
set_option maxRecDepth 100000
set_option maxHeartbeats 1000000
/-! Z11t: _law_try(lambda: ..). -/
namespace Z
open PySem PySem.Spec PyProof.Rows L2

section
variable {K : PySem.W.Frag} {T : List (Addr × Str)} {mg : Str → Option Value} {ρ : Ev} {σ : L2.St} {F F1 H H1 H2 : Hp} {n n1 : Nat}
/-- the slots over a heap that went on but for tables -/
theorem Rl.extM (r : Rl K T ρ n F σ H) (e : ZL.ExtM H H1) (t : LamX.Tabs T H1) : Rl K T ρ n F σ H1 := by
  refine ⟨fun a o h => e.n a o (r.sub a o h) (fun ps z => r.pure a ps (by rw [h, z])), r.len, r.val, fun i ds h => ?_, fun i kvs h => ?_, fun i h => ?_, r.dist, t, r.pure, r.one⟩
  · obtain ⟨a, vs, h1, h2, h3, h4⟩ := r.own i ds h
    exact ⟨a, vs, h1, e.n a _ h2 (notbl_lst _), h3, h4⟩
  · obtain ⟨a, kv, h1, h2, h3⟩ := r.dct i kvs h
    exact ⟨a, kv, h1, e.n a _ h2 (fun _ z => nomatch z), h3⟩
  · obtain ⟨a, x, y, z, h1, h2, h3⟩ := r.deck i h
    exact ⟨a, x, y, z, h1, e.n a _ h2 (notbl_lst _), h3⟩
theorem Post.extM (e : ZL.ExtM H H1) (p : Post K T ρ σ F H1 n1 F1 H2) : Post K T ρ σ F H n1 F1 H2 := by
  refine ⟨p.rl, ⟨p.grow.1, fun a h f => p.grow.2 a (e.st a h) f⟩, fun b o h => ?_⟩
  have go : (∀ ps, o ≠ .tbl ps) → _ := fun q => p.keep b o (e.n b o h q)
  by_cases q : ∃ ps, o = .tbl ps
  · refine .inr ⟨.inr q, fun z => e.st b (by rw [h]; exact fun z => nomatch z) (p.keep.nope z)⟩
  · exact go fun ps z => q ⟨ps, z⟩
/-- what stands stays, behind -/
theorem Post.sub {n0 : Nat} (p : Post K T ρ σ F H n1 F1 H1) (s : Sub H1 H2) : Post K T ρ σ F H n1 F1 H2 :=
  p.trans (p.rl.nw ⟨.refl _, s, p.rl.sub.trans s, fun _ _ => rfl, fun _ _ h => h⟩)
theorem kinN_told : ∀ {x : Str} {k : Str}, kinN.lookup x = some k → x ∈ ZK.kErr ∧ k = ZK.kTold x := by
  intro x k h
  have h2 := PySem.mem_of_lookup h
  revert h2
  have : ∀ p ∈ kinN, p.1 ∈ ZK.kErr ∧ p.2 = ZK.kTold p.1 := by decide +kernel
  exact fun h2 => this _ h2
end
theorem noArgs_eq {a : Arguments} (h : noArgs a = true) : a = ⟨[], [], none, [], [], none, []⟩ := by
  obtain ⟨a1, a2, a3, a4, a5, a6, a7⟩ := a
  unfold noArgs at h
  simp only [Bool.and_eq_true, List.isEmpty_iff, Option.isNone_iff_eq_none] at h
  obtain ⟨⟨⟨⟨⟨⟨rfl, rfl⟩, rfl⟩, rfl⟩, rfl⟩, rfl⟩, rfl⟩ := h
  rfl
section
variable {X : Cx} {T : List (Addr × Str)} {c : CkC} {Wh : WX} {e a b d : Expr} {x y z : Ex} {pos p2 : Pos}
theorem Good.lamc (G : Good T X c Wh) {scope : Scope} (hl : 2 ≤ c.lvl) (L : LamX.LamS X.env.scope scope) (A : Around) (outer : List Env) (s : Shared) (H : Hp) (E : XK) (f c' : Addr) (hr : Room (c.lvl - 2) (A.deeper (LamX.lamEnv X scope s.heap.objs.size f c'))) :
    Good T (ZL.lamCx X A outer s H E scope f c') (c.lamc scope) (fun c d _ H => E c d H) where
  calm := rfl
  nd := G.nd
  eN := G.eN
  room := hr
  sc := rfl
  fn := fun x h => by
    rcases h with h | ⟨s', h1, h2⟩
    · cases h
    · cases h1
      exact absurd rfl (L.own _ (PySem.mem_of_lookup h2)).2
  takes := L2N.takes_of (X := ZL.lamCx X A outer s H E scope f c') (E := E) rfl rfl rfl rfl
  blt := G.blt
  cst := G.cst
  exs := G.exs
  lam := fun h => nomatch h
  dk := G.dk
theorem r_tryl {params : Arguments} {scope : Scope} {p lpos : Pos} (G : Good T X c Wh) (hlm : c.lam = true) (hg : glB c.sc "_law_try" = true) (hl : 2 ≤ c.lvl) (L : LamX.LamS c.sc scope) (hp : noArgs params = true) (hs : sg x = true) (mx : ∀ ρ, Mono (evE x ρ))
    (hb : ∀ (A : Around) (outer : List Env) (s : Shared) (H : Hp) (E : XK) (f c' : Addr), Room (c.lvl - 2) (A.deeper (LamX.lamEnv X scope s.heap.objs.size f c')) → PE (ZL.lamCx X A outer s H E scope f c') b (RE (ZL.lamCx X A outer s H E scope f c') T (fun c d _ H => E c d H) x)) :
    PE X (.Call (.Name "_law_try" p) [.Lambda params b scope lpos] [] pos) (RE X T Wh (.tryl x)) := by
  have M := G.lam hlm
  obtain ⟨cc, P, TB, hcode, hmT, hu⟩ := M.tab
  obtain ⟨C1, C2, C3, TF⟩ := M.tf
  obtain ⟨pg, bg, sg', dvs, kws, g, fd, FD, hm, hbd, S, hts, htb⟩ := M.td
  obtain ⟨oc, od, dV, kV, doc, pm, an, cdv, ct, osl, rfl, lk, hcd, _, _⟩ := FD.ex
  rw [← G.sc] at L
  have hr : Room (c.lvl - 2 + 2) X.A := by rw [Nat.sub_add_cancel hl]; exact G.room
  cases noArgs_eq hp
  have h0 := ZL.pe_lamcall (TT := ZK.TTry X.mg) (t := fun E => tE X.K T X.mg (fun c d _ H => E c d H) x) (k := c.lvl - 2) (p := p) (lpos := lpos) (pos := pos) (body := b) (params := ⟨[], [], none, [], [], none, []⟩)
    (G.gl hg).1 hm FD.kp lk hcd hbd S rfl (.inl (by unfold ZK.tryS at hts; simp only [Bool.and_eq_true] at hts; exact ZK.lkL_eq hts.1.1.1.1.1.1)) (ZK.try_gives (k := c.lvl - 2) TF hts htb hr) TB hcode hmT hu hr L rfl (fun _ _ _ _ _ => rfl) hb
  refine h0.imp fun σ H Q ⟨ρ, n, F, r, q⟩ => ⟨r.tabs, fun H1 eM t1 => ?_⟩
  refine ⟨ρ, n, F, r.extM eM t1, ?_⟩
  have q : evE x ρ n _ _ := q
  refine mx ρ n _ _ _ _ (fun d n1 hk v F1 H2 p1 rz T0 hT => ?_) (fun xx n1 hk F1 H2 cc dd p1 ex => ?_) q
  · have p2 := p1.extM eM
    have p3 := p2.trans (p2.rl.new (p := T0) (o := .tup [.str sTold, v]) hT (notbl_tup _))
    have rv : Rp X.K F1 v d := by rw [hs] at rz; exact rz
    exact hk (.ref T0) _ _ p3 (Rz.of (rp_newT (p2.rl.sub.nope hT) (.cons (.str sTold) (.cons rv .nil))))
  · obtain ⟨C, rfl, hmC, hda⟩ := ex
    have hk : (match kinD xx with | some k => kP X.K T ρ σ F H (sg (.tryl x)) Q k n1 | none => False) := hk
    obtain ⟨ecls, earg⟩ := xx
    cases earg with
    | some d => exact (show False from hk).elim
    | none =>
      have hda : dd = none := hda
      subst hda
      have e1 : kinD ⟨ecls, none⟩ = (kinN.lookup ecls).map .str := rfl
      rw [e1] at hk
      cases hl2 : kinN.lookup ecls with
      | none => rw [hl2] at hk; exact hk.elim
      | some k =>
        rw [hl2] at hk
        obtain ⟨hm1, rfl⟩ := kinN_told hl2
        refine ⟨rfl, ecls, hm1, C, hmC, rfl, fun H'' sb => ?_⟩
        exact hk _ F1 H'' ((p1.extM eM).sub (n0 := n) sb) (Rz.of (.str _))
end
/-! ### an item of a dict -/
section
variable {K : PySem.W.Frag} {F : Hp}
theorem DRel.get {i : Int} {d : D} : ∀ {kv : List (Key × V)} {ps : List (Int × D)}, DRel K F kv ps → dctAt ps i = some d → ∃ v, valV kv (.inl i) = some v ∧ Rp K F v d
  | [], [], _, e => by cases e
  | [], _ :: _, h, _ => h.elim
  | _ :: _, [], h, _ => h.elim
  | (k, v) :: r, (j, x) :: s, h, e => by
    obtain ⟨h1, h2, h3⟩ := h
    subst h1
    have e : (if j = i then some x else dctAt s i) = some d := e
    by_cases hj : j = i
    · rw [if_pos hj] at e
      cases e
      subst hj
      exact ⟨v, valV_pos rfl, h2⟩
    · rw [if_neg hj] at e
      obtain ⟨w, a, b⟩ := DRel.get h3 e
      exact ⟨w, by rw [valV_neg (by simp [hj])]; exact a, b⟩
end
section
variable {X : Cx} {T : List (Addr × Str)} {c : CkC} {Wh : WX} {e a b d : Expr} {x y z : Ex} {pos p2 : Pos}
theorem r_dget {i : Nat} (G : Good T X c Wh) (h : slotB c i a = true) (hs : (sSlice b).isNone = true) (my : ∀ ρ, Mono (evE y ρ)) (hb : PE X b (RE X T Wh y)) : PE X (.Subscript a b pos) (RE X T Wh (.dget i y)) := by
  obtain ⟨x, p, rfl, h1, h2, h3, h4⟩ := slotB_eq h
  have ns : NoSl b := by
    intro ov iv
    cases b <;> first | rfl | (exact absurd hs Bool.false_ne_true)
  refine (pe_dget (hu_of G.room) (pe_var (by rw [G.eN]; exact h1) (by rw [G.sc]; exact h2) h3 h4) hb ns).imp fun σ H Q ⟨ρ, n, F, r, q⟩ => ?_
  have q : (match at_ ρ i with | .dct kvs => bnd (evE y ρ) fun x => bnd (intOf x) fun k => oD (dctAt kvs k) | _ => (stuck : W D)) n _ _ := q
  cases hd : at_ ρ i with
  | dct kvs =>
    rw [hd] at q
    obtain ⟨a, kv, e1, e2, e3, e4⟩ := r.dct i kvs hd
    refine ⟨.ref a, e1, tE_seq (.refl r) (my ρ) q fun d1 n1 v1 F1 H1 p0 _ z1 h1 => ?_⟩
    cases d1 with
    | int k =>
      have h1 : oD (dctAt kvs k) n1 _ _ := h1
      cases hk : dctAt kvs k with
      | none => rw [hk] at h1; exact h1.elim
      | some d =>
        rw [hk] at h1
        obtain ⟨a', kv', g1, g2, g3, g4⟩ := p0.rl.dct i kvs hd
        rw [e1] at g1
        cases g1
        obtain ⟨v, w1, w2⟩ := g4.get hk
        have ev := z1.int
        subst ev
        exact ⟨a, v, rfl, by have := DGet.k (k := .inl k) g2; rw [w1] at this; exact this, h1 v F1 H1 p0 (Rz.of w2)⟩
    | _ => exact h1.elim
  | _ => rw [hd] at q; exact q.elim
end
end Z
end
-- Z15
section
set_option Elab.async false
set_option linter.all false
set_option maxRecDepth 100000
set_option maxHeartbeats 2000000
/-! Z15: the check's word: a tree that passes means what the piece of the program does. -/
namespace Z
open PySem PySem.Spec PyProof.Rows L2

section
variable {T : List (Addr × Str)}
mutual
theorem monoOf : ∀ (x : Ex) (P : Fn → Prop), (∀ f, P f → MonoF f) → allE P x → allE MonoF x
  | .tup es, P, h, a => monosOf es P h a
  | .lst es, P, h, a => monosOf es P h a
  | .op _ x y, P, h, a => ⟨monoOf x P h a.1, monoOf y P h a.2⟩
  | .neg x, P, h, a => monoOf x P h a
  | .not x, P, h, a => monoOf x P h a
  | .cmp _ x y, P, h, a => ⟨monoOf x P h a.1, monoOf y P h a.2⟩
  | .chain _ _ x y z, P, h, a => ⟨monoOf x P h a.1, monoOf y P h a.2.1, monoOf z P h a.2.2⟩
  | .and es, P, h, a => monosOf es P h a
  | .or es, P, h, a => monosOf es P h a
  | .ite x y z, P, h, a => ⟨monoOf x P h a.1, monoOf y P h a.2.1, monoOf z P h a.2.2⟩
  | .ix x y, P, h, a => ⟨monoOf x P h a.1, monoOf y P h a.2⟩
  | .slc x l u, P, h, a => ⟨monoOf x P h a.1, monoOOf l P h a.2.1, monoOOf u P h a.2.2⟩
  | .rev x, P, h, a => monoOf x P h a
  | .call f es, P, h, a => ⟨h f a.1, monoAOf es P h a.2⟩
  | .bi _ es, P, h, a => monosOf es P h a
  | .comp elt _ it c _, P, h, a => ⟨monoOf elt P h a.1, monoIOf it P h a.2.1, monoOOf c P h a.2.2⟩
  | .comp2 elt _ it c _ it2 c2 _ _, P, h, a => ⟨monoOf elt P h a.1, monoIOf it P h a.2.1, monoOOf c P h a.2.2.1, monoIOf it2 P h a.2.2.2.1, monoOOf c2 P h a.2.2.2.2⟩
  | .idx x y, P, h, a => ⟨monoOf x P h a.1, monoOf y P h a.2⟩
  | .cnt x y, P, h, a => ⟨monoOf x P h a.1, monoOf y P h a.2⟩
  | .join x y, P, h, a => ⟨monoOf x P h a.1, monoOf y P h a.2⟩
  | .split x y, P, h, a => ⟨monoOf x P h a.1, monoOf y P h a.2⟩
  | .fstr es, P, h, a => monosOf es P h a
  | .dget _ x, P, h, a => monoOf x P h a
  | .dict x, P, h, a => monoOf x P h a
  | .dcp _, _, _, _ => trivial
  | .tryl x, P, h, a => monoOf x P h a
  | .var _, _, _, _ => trivial
  | .own _, _, _, _ => trivial
  | .non, _, _, _ => trivial
  | .bl _, _, _, _ => trivial
  | .int _, _, _, _ => trivial
  | .str _, _, _, _ => trivial
theorem monosOf : ∀ (x : Exs) (P : Fn → Prop), (∀ f, P f → MonoF f) → allEs P x → allEs MonoF x
  | .nil, _, _, _ => trivial
  | .cons e r, P, h, a => ⟨monoOf e P h a.1, monosOf r P h a.2⟩
theorem monoOOf : ∀ (x : Ox) (P : Fn → Prop), (∀ f, P f → MonoF f) → allO P x → allO MonoF x
  | .none, _, _, _ => trivial
  | .some e, P, h, a => monoOf e P h a
theorem monoAOf : ∀ (x : As) (P : Fn → Prop), (∀ f, P f → MonoF f) → allA P x → allA MonoF x
  | .nil, _, _, _ => trivial
  | .val e r, P, h, a => ⟨monoOf e P h a.1, monoAOf r P h a.2⟩
  | .deck _ r, P, h, a => monoAOf r P h a
theorem monoIOf : ∀ (x : It) (P : Fn → Prop), (∀ f, P f → MonoF f) → allI P x → allI MonoF x
  | .seq e, P, h, a => monoOf e P h a
  | .rng1 e, P, h, a => monoOf e P h a
  | .rng2 e f, P, h, a => ⟨monoOf e P h a.1, monoOf f P h a.2⟩
  | .enum e, P, h, a => monoOf e P h a
  | .zip e f, P, h, a => ⟨monoOf e P h a.1, monoOf f P h a.2⟩
  | .chars e, P, h, a => monoOf e P h a
end
section
variable {X : Cx}
theorem mE {x : Ex} (a : allE (EntX X T) x) : ∀ ρ, Mono (evE x ρ) := fun ρ => monoE x ρ (monoOf x _ (fun _ h => h.mono) a)
theorem mEs {x : Exs} (a : allEs (EntX X T) x) : ∀ ρ, Mono (evs x ρ) := fun ρ => monoEs x ρ (monosOf x _ (fun _ h => h.mono) a)
theorem mAnd {x : Exs} (a : allEs (EntX X T) x) : ∀ ρ, Mono (evAnd x ρ) := fun ρ => monoAnd x ρ (monosOf x _ (fun _ h => h.mono) a)
theorem mOr {x : Exs} (a : allEs (EntX X T) x) : ∀ ρ, Mono (evOr x ρ) := fun ρ => monoOr x ρ (monosOf x _ (fun _ h => h.mono) a)
theorem mO {x : Ox} (a : allO (EntX X T) x) : ∀ ρ, Mono (evO x ρ) := fun ρ => monoO x ρ (monoOOf x _ (fun _ h => h.mono) a)
theorem mC {x : Ox} (a : allO (EntX X T) x) : ∀ ρ, Mono (evC x ρ) := fun ρ => monoC x ρ (monoOOf x _ (fun _ h => h.mono) a)
theorem mA {x : As} (a : allA (EntX X T) x) : ∀ ρ, Mono (evA x ρ) := fun ρ => monoA x ρ (monoAOf x _ (fun _ h => h.mono) a)
theorem mI {x : It} (a : allI (EntX X T) x) : ∀ ρ, Mono (evI x ρ) := fun ρ => monoI x ρ (monoIOf x _ (fun _ h => h.mono) a)
end
theorem ownP_snd (N : List Str) : ∀ l : List Nat, (ownP N l).map (·.2) = l
  | [] => rfl
  | i :: r => by show i :: (ownP N r).map (·.2) = i :: r; rw [ownP_snd N r]
/-- within a comprehension's block -/
theorem Good.inn {X : Cx} {c : CkC} {Wh : WX} (G : Good T X c Wh) (sc : Scope) (s : Shared) (H : Hp) (C : Addr) (cl : List (Str × Addr)) (fp : List Addr) : Good T (X.blk s H sc (compEnvC sc cl C X.env) fp) (c.inn sc) NoX where
  calm := G.calm
  nd := G.nd
  eN := G.eN
  room := G.room
  sc := by show relS sc X.env.scope = relS sc c.sc; rw [G.sc]
  fn := fun x h => by
    rcases h with z | ⟨s', z, h⟩
    · cases z
    · cases z
      show (sc.names.lookup x == some .cell) = true
      rw [h]; rfl
  takes := fun u s' ⟨a, B, sI, pins, σ, H, cls, d, e, I, nb, up, sky, na, os, ag, w⟩ => w
  blt := G.blt
  cst := G.cst
  exs := G.exs
  lam := fun h => ⟨(G.lam h).tab, (G.lam h).tf, (G.lam h).td⟩
  dk := G.dk
structure Snd (X : Cx) (T : List (Addr × Str)) (Wh : WX) (e : Expr) (x : Ex) : Prop where
  pe : PE X e (RE X T Wh x)
  pt : PT X e (RT X T Wh x)
theorem ckEs_len {c : CkC} : ∀ {es : Exs} {l : List Expr}, ckEs c es l = true → l.length = exLen es ∧ l.all notStar = true
  | .nil, [], _ => ⟨rfl, rfl⟩
  | .nil, _ :: _, h => by cases h
  | .cons e r, [], h => by cases h
  | .cons e r, x :: l, h => by
    have h : (ckE c e x && notStar x && ckEs c r l) = true := h
    simp only [Bool.and_eq_true] at h
    obtain ⟨a, b⟩ := ckEs_len (es := r) h.2
    exact ⟨by show l.length + 1 = exLen r + 1; rw [a], by rw [List.all_cons, h.1.2, b]; rfl⟩
theorem ckA_len {c : CkC} : ∀ {as : As} {l : List Expr}, ckA c as l = true → l.length = asLen as ∧ l.all notStar = true
  | .nil, [], _ => ⟨rfl, rfl⟩
  | .nil, _ :: _, h => by cases h
  | .val e r, [], h => by cases h
  | .deck i r, [], h => by cases h
  | .val e r, x :: l, h => by
    have h : (ckE c e x && sg e && notStar x && ckA c r l) = true := h
    simp only [Bool.and_eq_true] at h
    obtain ⟨a, b⟩ := ckA_len (as := r) h.2
    exact ⟨by show l.length + 1 = asLen r + 1; rw [a], by rw [List.all_cons, h.1.2, b]; rfl⟩
  | .deck i r, x :: l, h => by
    have h : (slotB c i x && notStar x && ckA c r l) = true := h
    simp only [Bool.and_eq_true] at h
    obtain ⟨a, b⟩ := ckA_len (as := r) h.2
    exact ⟨by show l.length + 1 = asLen r + 1; rw [a], by rw [List.all_cons, h.1.2, b]; rfl⟩
theorem slot_plain {c : CkC} {i : Nat} {X : Cx} {e : Expr} (h : slotB c i e = true) : ∀ whole, isTrue e X.env whole = (do let v ← whole; standAt e.pos; holding [v] (truthy v)) := by
  obtain ⟨x, p, rfl, _⟩ := slotB_eq h
  intro _; rfl
theorem blt_none {X : Cx} {c : CkC} {Wh : WX} (G : Good T X c Wh) {x : Str} (h : bltN.contains x = true) : X.mg x = none := G.blt x (List.contains_iff_mem.mp h)
theorem isNm_eq {X : Cx} {c : CkC} {Wh : WX} (G : Good T X c Wh) {x : Str} {e : Expr} (h : isNm c x e = true) : ∃ p, e = .Name x p ∧ Gl X x ∧ (x == ("__debug__" : Str)) = false := by
  unfold isNm at h
  split at h
  · rename_i y hy
    obtain ⟨p, rfl⟩ := sName_eq hy
    simp only [Bool.and_eq_true] at h
    obtain ⟨h1, h2⟩ := h
    have e := eq_of_beq h1
    subst e
    exact ⟨p, rfl, G.gl h2⟩
  · cases h
/-- a built-in's call, by its arguments -/
theorem snd_bi {X : Cx} {c : CkC} {Wh : WX} {f : Bi} {es : Exs} {e : Expr} {l : List Expr} (G : Good T X c Wh) (h : biA c f e = some l) (hk : ckEs c es l = true) (me : ∀ ρ, Mono (evs es ρ)) (ha : PA X l (tEs X.K T X.mg Wh false es)) (h1 : ∀ (x : Ex) (a : Expr), es = .cons x .nil → l = [a] → PE X a (RE X T Wh x) ∧ (∀ ρ, Mono (evE x ρ))) : PE X e (RE X T Wh (.bi f es)) := by
  obtain ⟨k1, k2⟩ := ckEs_len hk
  have one : ∀ a, l = [a] → notStar a = true ∧ ∃ x, es = .cons x .nil := fun a e => by
    subst e
    rw [List.all_cons, Bool.and_eq_true] at k2
    refine ⟨k2.1, ?_⟩
    cases es with
    | nil => cases k1
    | cons x r =>
      cases r with
      | nil => exact ⟨x, rfl⟩
      | cons y r => have k1 : 1 = exLen r + 1 + 1 := k1; omega
  unfold biA at h
  split at h
  · cases h
  · rename_i x m hx
    obtain ⟨p, q, rfl⟩ := sCall_eq hx
    split at h
    · rename_i y n hn
      split at h
      · rename_i hc
        cases h
        simp only [Bool.and_eq_true] at hc
        obtain ⟨⟨c1, c2⟩, c3⟩ := hc
        have ex := eq_of_beq c1
        subst ex
        obtain ⟨g1, g2⟩ := G.gl c2
        have hl : l.length = n := eq_of_beq c3
        have ne : 0 < n → l ≠ [] := fun z e => by rw [e] at hl; rw [← hl] at z; exact absurd z (Nat.lt_irrefl _)
        cases f <;> cases hn
        · exact r_biB cb_len g1 (blt_none G (by decide)) boot_len (by decide) g2 k2 (ne (by decide)) me ha
        · exact r_biB (cb_all G.calm) g1 (blt_none G (by decide)) boot_all (by decide) g2 k2 (ne (by decide)) me ha
        · exact r_biB (cb_any G.calm) g1 (blt_none G (by decide)) boot_any (by decide) g2 k2 (ne (by decide)) me ha
        · exact r_biT cb_tuple g1 (blt_none G (by decide)) boot_tuple (by decide) g2 k2 (ne (by decide)) me ha
        · exact r_biT cb_list g1 (blt_none G (by decide)) boot_list (by decide) g2 k2 (ne (by decide)) me ha
        · exact r_biB (cb_min2 G.calm) g1 (blt_none G (by decide)) boot_min (by decide) g2 k2 (ne (by decide)) me ha
        · exact r_biB (cb_max2 G.calm) g1 (blt_none G (by decide)) boot_max (by decide) g2 k2 (ne (by decide)) me ha
        · exact r_biB (cb_minL G.calm) g1 (blt_none G (by decide)) boot_min (by decide) g2 k2 (ne (by decide)) me ha
        · exact r_biB (cb_maxL G.calm) g1 (blt_none G (by decide)) boot_max (by decide) g2 k2 (ne (by decide)) me ha
        · exact r_biB (cb_sum G.calm) g1 (blt_none G (by decide)) boot_sum (by decide) g2 k2 (ne (by decide)) me ha
        · exact r_biB cb_abs g1 (blt_none G (by decide)) boot_abs (by decide) g2 k2 (ne (by decide)) me ha
        · exact r_biT cb_int g1 (blt_none G (by decide)) boot_int (by decide) g2 k2 (ne (by decide)) me ha
        · exact r_biT cb_str g1 (blt_none G (by decide)) boot_str (by decide) g2 k2 (ne (by decide)) me ha
        · exact r_biB cb_sorted g1 (blt_none G (by decide)) boot_sorted (by decide) g2 k2 (ne (by decide)) me ha
      · cases h
    · rename_i hn
      split at h
      · rename_i y z hz
        split at h
        · rename_i r
          split at h
          · rename_i u m hu
            obtain ⟨p2, q2, rfl⟩ := sCall_eq hu
            split at h
            · rename_i hc
              cases h
              simp only [Bool.and_eq_true] at hc
              obtain ⟨⟨⟨⟨c1, c2⟩, c3⟩, c4⟩, c5⟩ := hc
              have ex := eq_of_beq c1
              have eu := eq_of_beq c3
              subst ex eu
              obtain ⟨g1, g2⟩ := G.gl c2
              obtain ⟨g3, g4⟩ := G.gl c4
              have hl : l.length = 1 := eq_of_beq c5
              obtain ⟨b, rfl⟩ := List.length_eq_one_iff.mp hl
              obtain ⟨ns, x, rfl⟩ := one b rfl
              obtain ⟨pe, m1⟩ := h1 x b rfl rfl
              cases f <;> cases hz
              · exact r_listR G.calm g1 (blt_none G (by decide)) g3 (blt_none G (by decide)) ns m1 pe
              · exact r_sortedSet G.calm g1 (blt_none G (by decide)) g3 (blt_none G (by decide)) ns m1 pe
              · exact r_lenSet G.calm g1 (blt_none G (by decide)) g3 (blt_none G (by decide)) ns m1 pe
            · cases h
          · cases h
        · cases h
      · split at h
        · rename_i a k
          split at h
          · rename_i hc
            rw [Bool.and_eq_true] at hc
            have ex := eq_of_beq hc.1
            subst ex
            obtain ⟨g1, g2⟩ := G.gl hc.2
            split at h
            · rename_i nn hnn
              split at h
              · rename_i hnm
                cases h
                obtain ⟨ns, x, rfl⟩ := one a rfl
                obtain ⟨pe, m1⟩ := h1 x a rfl rfl
                obtain ⟨pk, rfl, g3, g4⟩ := isNm_eq G hnm
                cases f <;> cases hnn
                · exact r_is1 (n := "int") rfl rfl (by decide) boot_int g1 (blt_none G (by decide)) g3 (blt_none G (by decide)) (by decide) g4 ns m1 pe
                · exact r_is1 (n := "bool") rfl rfl (by decide) boot_bool g1 (blt_none G (by decide)) g3 (blt_none G (by decide)) (by decide) g4 ns m1 pe
                · exact r_is1 (n := "str") rfl rfl (by decide) boot_str g1 (blt_none G (by decide)) g3 (blt_none G (by decide)) (by decide) g4 ns m1 pe
                · exact r_is1 (n := "tuple") rfl rfl (by decide) boot_tuple g1 (blt_none G (by decide)) g3 (blt_none G (by decide)) (by decide) g4 ns m1 pe
                · exact r_is1 (n := "list") rfl rfl (by decide) boot_list g1 (blt_none G (by decide)) g3 (blt_none G (by decide)) (by decide) g4 ns m1 pe
              · cases h
            · split at h
              · split at h
                · rename_i k1' k2' hkt
                  split at h
                  · rename_i hnm
                    cases h
                    rw [Bool.and_eq_true] at hnm
                    obtain ⟨ns, x, rfl⟩ := one a rfl
                    obtain ⟨pe, m1⟩ := h1 x a rfl rfl
                    obtain ⟨kk, pp, rfl⟩ := sTup_eq hkt
                    obtain ⟨q1, rfl, g3, g4⟩ := isNm_eq G hnm.1
                    obtain ⟨q2, rfl, g5, g6⟩ := isNm_eq G hnm.2
                    exact r_isTL g1 (blt_none G (by decide)) g3 (blt_none G (by decide)) g5 (blt_none G (by decide)) ns m1 pe
                  · cases h
                · cases h
              · cases h
          · cases h
        · cases h
theorem ckI_set {c : CkC} {tg e : Expr} : ∀ {it : It}, ckI c tg it e = true → ∀ env x, foldedSetIterable e env x = pure x
  | .seq x, h => by
    have h : (ckE c x e && sg x && notSet e) = true := h
    rw [Bool.and_eq_true] at h
    exact notSet_eq h.2
  | .chars x, h => by
    have h : (ckE c x e && notSet e) = true := h
    rw [Bool.and_eq_true] at h
    exact notSet_eq h.2
  | .rng1 x, h => by
    unfold ckI at h
    split at h
    · rename_i hx
      obtain ⟨p, q, rfl⟩ := sCall_eq hx
      exact fun _ _ => rfl
    · cases h
  | .rng2 x y, h => by
    unfold ckI at h
    split at h
    · rename_i hx
      obtain ⟨p, q, rfl⟩ := sCall_eq hx
      exact fun _ _ => rfl
    · cases h
  | .enum x, h => by
    unfold ckI at h
    split at h
    · rename_i hx
      obtain ⟨p, q, rfl⟩ := sCall_eq hx
      exact fun _ _ => rfl
    · cases h
  | .zip x y, h => by
    unfold ckI at h
    split at h
    · rename_i hx
      obtain ⟨p, q, rfl⟩ := sCall_eq hx
      exact fun _ _ => rfl
    · cases h
mutual
theorem snd : ∀ (x : Ex) (X : Cx) (c : CkC) (Wh : WX) (e : Expr), Good T X c Wh → ckE c x e = true → allE (EntX X T) x → Snd X T Wh e x
  | .var i, X, c, Wh, e, G, h, a => ⟨r_var G h, r_val (mE (T := T) (X := X) a) (r_var G h) (slot_plain h)⟩
  | .own i, X, c, Wh, e, G, h, a => ⟨r_own G h, r_val (mE (T := T) (X := X) a) (r_own G h) (slot_plain h)⟩
  | .non, X, c, Wh, e, G, h, a => by
    unfold ckE at h
    split at h
    · rename_i hc
      obtain ⟨k, p, rfl⟩ := sConst_eq hc
      have h1 : PE X (.Constant .none k p) (RE X T Wh .non) := r_const pe_non (fun _ => rfl) (fun _ _ => .non)
      exact ⟨h1, r_val (mE (T := T) (X := X) a) h1 fun _ => rfl⟩
    · cases h
  | .bl b, X, c, Wh, e, G, h, a => by
    unfold ckE at h
    split at h
    · rename_i d hc
      obtain ⟨k, p, rfl⟩ := sConst_eq hc
      have eb := eq_of_beq h
      subst eb
      have h1 : PE X (.Constant (.bool b) k p) (RE X T Wh (.bl b)) := r_const pe_bl (fun _ => rfl) (fun _ _ => .bl b)
      exact ⟨h1, r_val (mE (T := T) (X := X) a) h1 fun _ => rfl⟩
    · cases h
  | .int i, X, c, Wh, e, G, h, a => by
    unfold ckE at h
    split at h
    · rename_i j hc
      obtain ⟨k, p, rfl⟩ := sConst_eq hc
      have eb := eq_of_beq h
      subst eb
      have h1 : PE X (.Constant (.int i) k p) (RE X T Wh (.int i)) := r_const pe_int (fun _ => rfl) (fun _ _ => .int i)
      exact ⟨h1, r_val (mE (T := T) (X := X) a) h1 fun _ => rfl⟩
    · cases h
    · split at h
      · rename_i x hx
        obtain ⟨p, rfl⟩ := sName_eq hx
        rw [Bool.and_eq_true] at h
        obtain ⟨g1, g2⟩ := G.gl h.1
        obtain ⟨t, ht⟩ := G.cst x i (eq_of_beq h.2)
        have h1 : PE X (.Name x p) (RE X T Wh (.int i)) := r_const (v := .int i) (pe_glob g1 ht ⟨t, rfl⟩ g2) (fun _ => rfl) (fun _ _ => .int i)
        exact ⟨h1, r_val (mE (T := T) (X := X) a) h1 fun _ => rfl⟩
      · cases h
  | .str x, X, c, Wh, e, G, h, a => by
    unfold ckE at h
    split at h
    · rename_i d hc
      obtain ⟨k, p, rfl⟩ := sConst_eq hc
      have eb := eq_of_beq h
      subst eb
      have h1 : PE X (.Constant (.str x) k p) (RE X T Wh (.str x)) := r_const pe_str (fun _ => rfl) (fun _ _ => .str x)
      exact ⟨h1, r_val (mE (T := T) (X := X) a) h1 fun _ => rfl⟩
    · cases h
  | .tup es, X, c, Wh, e, G, h, a => by
    unfold ckE at h
    split at h
    · rename_i l hl
      obtain ⟨k, p, rfl⟩ := sTup_eq hl
      simp only [Bool.and_eq_true, decide_eq_true_eq] at h
      obtain ⟨⟨k1, k2⟩, k3⟩ := h
      have h1 : PE X (.Tuple l k p) (RE X T Wh (.tup es)) := r_tup (by rw [← (ckEs_len k1).1]; exact k3) (mEs (T := T) (X := X) a) (sndEs es X c Wh l true G k1 a fun _ => k2)
      exact ⟨h1, r_val (mE (T := T) (X := X) (x := .tup es) a) h1 fun _ => rfl⟩
    · cases h
  | .lst es, X, c, Wh, e, G, h, a => by
    unfold ckE at h
    split at h
    · rename_i l hl
      obtain ⟨p, rfl⟩ := sLst_eq hl
      simp only [Bool.and_eq_true, decide_eq_true_eq] at h
      obtain ⟨⟨k1, k2⟩, k3⟩ := h
      have h1 : PE X (.List l p) (RE X T Wh (.lst es)) := r_lst (by rw [← (ckEs_len k1).1]; exact k3) (mEs (T := T) (X := X) a) (sndEs es X c Wh l true G k1 a fun _ => k2)
      exact ⟨h1, r_val (mE (T := T) (X := X) (x := .lst es) a) h1 fun _ => rfl⟩
    · cases h
  | .op o x y, X, c, Wh, e, G, h, a => by
    unfold ckE at h
    split at h
    · rename_i u p v hl
      obtain ⟨q, rfl⟩ := sBin_eq hl
      simp only [Bool.and_eq_true, decide_eq_true_eq] at h
      obtain ⟨⟨k1, k2⟩, k3⟩ := h
      subst k1
      have h1 : PE X (.BinOp u (opP o) v q) (RE X T Wh (.op o x y)) := r_op (mE (T := T) (X := X) a.1) (mE (T := T) (X := X) a.2) (snd x X c Wh u G k2 a.1).pe (snd y X c Wh v G k3 a.2).pe
      exact ⟨h1, r_val (mE (T := T) (X := X) (x := .op o x y) a) h1 fun _ => rfl⟩
    · cases h
  | .neg x, X, c, Wh, e, G, h, a => by
    unfold ckE at h
    split at h
    · rename_i p u hl
      obtain ⟨q, rfl⟩ := sUn_eq hl
      simp only [Bool.and_eq_true, decide_eq_true_eq] at h
      obtain ⟨k1, k2⟩ := h
      subst k1
      have h1 : PE X (.UnaryOp .USub u q) (RE X T Wh (.neg x)) := r_neg (mE (T := T) (X := X) a) (snd x X c Wh u G k2 a).pe
      exact ⟨h1, r_val (mE (T := T) (X := X) (x := .neg x) a) h1 fun _ => rfl⟩
    · cases h
  | .not x, X, c, Wh, e, G, h, a => by
    unfold ckE at h
    split at h
    · rename_i p u hl
      obtain ⟨q, rfl⟩ := sUn_eq hl
      simp only [Bool.and_eq_true, decide_eq_true_eq] at h
      obtain ⟨k1, k2⟩ := h
      subst k1
      have s := snd x X c Wh u G k2 a
      exact ⟨r_not (mE (T := T) (X := X) a) s.pe, r_notT (mE (T := T) (X := X) a) s.pt⟩
    · cases h
  | .cmp o x y, X, c, Wh, e, G, h, a => by
    unfold ckE at h
    split at h
    · rename_i u p v hl
      obtain ⟨q, rfl⟩ := sCmp_eq hl
      simp only [Bool.and_eq_true] at h
      obtain ⟨⟨k1, k2⟩, k3⟩ := h
      obtain ⟨h1, h2⟩ := r_cmp (T := T) (pos := q) G k1 (mE (T := T) (X := X) a.1) (mE (T := T) (X := X) a.2) (snd x X c Wh u G k2 a.1).pe (snd y X c Wh v G k3 a.2).pe
      exact ⟨h1, h2⟩
    · cases h
  | .chain o1 o2 x y z, X, c, Wh, e, G, h, a => by
    unfold ckE at h
    split at h
    · rename_i u p1 p2 v w hl
      obtain ⟨q, rfl⟩ := sCmp_eq hl
      simp only [Bool.and_eq_true] at h
      obtain ⟨⟨⟨⟨k1, k2⟩, k3⟩, k4⟩, k5⟩ := h
      obtain ⟨h1, h2⟩ := r_chain (T := T) (pos := q) G k1 k2 (mE (T := T) (X := X) a.1) (mE (T := T) (X := X) a.2.1) (mE (T := T) (X := X) a.2.2) (snd x X c Wh u G k3 a.1).pe (snd y X c Wh v G k4 a.2.1).pe (snd z X c Wh w G k5 a.2.2).pe
      exact ⟨h1, h2⟩
    · cases h
  | .and es, X, c, Wh, e, G, h, a => by
    unfold ckE at h
    split at h
    · rename_i l hl
      obtain ⟨q, rfl⟩ := sBool_eq hl
      simp only [Bool.and_eq_true, decide_eq_true_eq] at h
      obtain ⟨⟨k1, k2⟩, k3⟩ := h
      obtain ⟨h1, h2⟩ := sndAnd es X c Wh l q G k1 a k2 (List.ne_nil_of_length_pos k3)
      exact ⟨h1, h2.pt⟩
    · cases h
  | .or es, X, c, Wh, e, G, h, a => by
    unfold ckE at h
    split at h
    · rename_i l hl
      obtain ⟨q, rfl⟩ := sBool_eq hl
      simp only [Bool.and_eq_true, decide_eq_true_eq] at h
      obtain ⟨⟨k1, k2⟩, k3⟩ := h
      obtain ⟨h1, h2⟩ := sndOr es X c Wh l q G k1 a k2 (List.ne_nil_of_length_pos k3)
      exact ⟨h1, h2.pt⟩
    · cases h
  | .ite t x y, X, c, Wh, e, G, h, a => by
    unfold ckE at h
    split at h
    · rename_i u v w hl
      obtain ⟨q, rfl⟩ := sIf_eq hl
      simp only [Bool.and_eq_true] at h
      obtain ⟨⟨k1, k2⟩, k3⟩ := h
      have s1 := snd t X c Wh u G k1 a.1
      have s2 := snd x X c Wh v G k2 a.2.1
      have s3 := snd y X c Wh w G k3 a.2.2
      exact ⟨r_ite (mE (T := T) (X := X) a.1) (mE (T := T) (X := X) a.2.1) (mE (T := T) (X := X) a.2.2) s1.pt s2.pe s3.pe, r_iteT (mE (T := T) (X := X) a.1) (mE (T := T) (X := X) a.2.1) (mE (T := T) (X := X) a.2.2) s1.pt s2.pt s3.pt⟩
    · cases h
  | .ix x y, X, c, Wh, e, G, h, a => by
    unfold ckE at h
    split at h
    · rename_i u v hl
      obtain ⟨q, rfl⟩ := sSub_eq hl
      simp only [Bool.and_eq_true] at h
      obtain ⟨⟨k1, k2⟩, k3⟩ := h
      have h1 : PE X (.Subscript u v q) (RE X T Wh (.ix x y)) := r_ix k3 (mE (T := T) (X := X) a.1) (mE (T := T) (X := X) a.2) (snd x X c Wh u G k1 a.1).pe (snd y X c Wh v G k2 a.2).pe
      exact ⟨h1, r_val (mE (T := T) (X := X) (x := .ix x y) a) h1 fun _ => rfl⟩
    · cases h
  | .slc x lo hi, X, c, Wh, e, G, h, a => by
    unfold ckE at h
    split at h
    · rename_i u v hl
      obtain ⟨q, rfl⟩ := sSub_eq hl
      split at h
      · rename_i l r hs
        obtain ⟨q2, rfl⟩ := sSlice_eq hs
        simp only [Bool.and_eq_true] at h
        obtain ⟨⟨k1, k2⟩, k3⟩ := h
        have h1 : PE X (.Subscript u (.Slice l r none q2) q) (RE X T Wh (.slc x lo hi)) := r_slc (mE (T := T) (X := X) a.1) (mO (T := T) (X := X) a.2.1) (mO (T := T) (X := X) a.2.2) (snd x X c Wh u G k1 a.1).pe (sndO lo X c Wh l G k2 a.2.1) (sndO hi X c Wh r G k3 a.2.2)
        exact ⟨h1, r_val (mE (T := T) (X := X) (x := .slc x lo hi) a) h1 fun _ => rfl⟩
      · cases h
    · cases h
  | .rev x, X, c, Wh, e, G, h, a => by
    unfold ckE at h
    split at h
    · rename_i u v hl
      obtain ⟨q, rfl⟩ := sSub_eq hl
      split at h
      · rename_i z hs
        obtain ⟨q2, rfl⟩ := sSlice_eq hs
        split at h
        · rename_i w hw
          obtain ⟨q3, rfl⟩ := sUn_eq hw
          split at h
          · rename_i hc
            obtain ⟨k, q4, rfl⟩ := sConst_eq hc
            have h1 : PE X (.Subscript u (.Slice none none (some (.UnaryOp .USub (.Constant (.int 1) k q4) q3)) q2) q) (RE X T Wh (.rev x)) := r_rev (mE (T := T) (X := X) a) (snd x X c Wh u G h a).pe
            exact ⟨h1, r_val (mE (T := T) (X := X) (x := .rev x) a) h1 fun _ => rfl⟩
          · cases h
        · cases h
      · cases h
    · cases h
  | .call f es, X, c, Wh, e, G, h, a => by
    unfold ckE at h
    split at h
    · rename_i y l hl
      obtain ⟨p, q, rfl⟩ := sCall_eq hl
      simp only [Bool.and_eq_true, decide_eq_true_eq] at h
      obtain ⟨⟨⟨⟨⟨k1, k2⟩, k3⟩, k4⟩, k5⟩, k6⟩ := h
      have ey := eq_of_beq k1
      subst ey
      obtain ⟨k7, k8⟩ := ckA_len k4
      have h1 : PE X (.Call (.Name f.name p) l [] q) (RE X T Wh (.call f es)) := r_call G a.1 k2 k3 (eq_of_beq k6) k5 k8 k7 (mA (T := T) (X := X) a.2) (sndA es X c Wh l G k4 a.2)
      exact ⟨h1, r_val (mE (T := T) (X := X) (x := .call f es) a) h1 fun _ => rfl⟩
    · cases h
  | .bi f es, X, c, Wh, e, G, h, a => by
    unfold ckE at h
    split at h
    · rename_i l hl
      have h1 : PE X e (RE X T Wh (.bi f es)) := snd_bi G hl h (mEs (T := T) (X := X) a) (sndEs es X c Wh l false G h a fun z => nomatch z) (sndOne es X c Wh l G h a)
      refine ⟨h1, r_val (mE (T := T) (X := X) (x := .bi f es) a) h1 ?_⟩
      unfold biA at hl
      split at hl
      · cases hl
      · rename_i hx
        obtain ⟨p, q, rfl⟩ := sCall_eq hx
        exact fun _ => rfl
    · cases h
  | .comp elt t it cd own, X, c, Wh, e, G, h, a => by
    unfold ckE at h
    split at h
    · rename_i u tg iter ifs s hl
      obtain ⟨q, rfl⟩ := sLc_eq hl
      simp only [Bool.and_eq_true] at h
      obtain ⟨⟨⟨⟨⟨⟨k1, k2⟩, k3⟩, k4⟩, k5⟩, k6⟩, k7⟩ := h
      have ok : BlkOk X.N X.env.scope s (ownP c.N own) := by rw [G.eN, G.sc]; exact blkOk_by k1
      obtain ⟨i1, i2⟩ := sndI it X c Wh tg iter G k2 a.2.1
      have r0 := pe_lc (te := RE X T NoX elt) (tt := tC X.K T X.mg cd) (g := tG X.K T t) (pos := q) G.calm G.nd i1 ok (fun s' H C cl fp => g_t (X := X.blk s' H s (compEnvC s cl C X.env) fp) (T := T) t tg (G.inn s s' H C cl fp) k3) (fun s' H C cl fp => sndC cd (X.blk s' H s (compEnvC s cl C X.env) fp) (c.inn s) ifs (G.inn s s' H C cl fp) k7 a.2.2) (fun s' H C cl fp => (snd elt (X.blk s' H s (compEnvC s cl C X.env) fp) (c.inn s) NoX u (G.inn s s' H C cl fp) k5 a.1).pe) (fun x => i2 X.env x)
      rw [ownP_snd] at r0
      have h1 : PE X (.ListComp u [⟨tg, iter, ifs, 0⟩] s q) (RE X T Wh (.comp elt t it cd own)) := r0.imp (red_comp (mI (T := T) (X := X) a.2.1) (mC (T := T) (X := X) a.2.2) (mE (T := T) (X := X) a.1) (subB_mem k4) k6)
      exact ⟨h1, r_val (mE (T := T) (X := X) (x := .comp elt t it cd own) a) h1 fun _ => rfl⟩
    · cases h
  | .comp2 elt t it cd t2 it2 cd2 own own2, X, c, Wh, e, G, h, a => by
    unfold ckE at h
    split at h
    · rename_i u tg iter ifs tg2 iter2 ifs2 s hl
      obtain ⟨q, rfl⟩ := sLc_eq hl
      simp only [Bool.and_eq_true] at h
      obtain ⟨⟨⟨⟨⟨⟨⟨⟨⟨⟨⟨k1, k2⟩, k3⟩, k4⟩, k5⟩, k6⟩, k7⟩, k8⟩, k9⟩, k10⟩, k11⟩, k12⟩ := h
      have ok : BlkOk X.N X.env.scope s (ownP c.N own) := by rw [G.eN, G.sc]; exact blkOk_by k1
      obtain ⟨i1, i2⟩ := sndI it X c Wh tg iter G k2 a.2.1
      have j := fun s' H C cl fp => sndI it2 (X.blk s' H s (compEnvC s cl C X.env) fp) (c.inn s) NoX tg2 iter2 (G.inn s s' H C cl fp) k7 a.2.2.2.1
      have r0 := pe_lc2 (te := RE X T NoX elt) (tt := tC X.K T X.mg cd) (g := tG X.K T t) (tt1 := tC X.K T X.mg cd2) (g1 := tG X.K T t2) (wi1 := RI X T NoX it2) (pos := q) (vs1 := own2) G.calm G.nd i1 ok (by rw [ownP_snd]; exact subB_mem k6) (fun s' H C cl fp => g_t (X := X.blk s' H s (compEnvC s cl C X.env) fp) (T := T) t tg (G.inn s s' H C cl fp) k3) (fun s' H C cl fp => sndC cd (X.blk s' H s (compEnvC s cl C X.env) fp) (c.inn s) ifs (G.inn s s' H C cl fp) k5 a.2.2.1)
        (fun s' H C cl fp => (j s' H C cl fp).1) (fun s' H C cl fp => g_t (X := X.blk s' H s (compEnvC s cl C X.env) fp) (T := T) t2 tg2 (G.inn s s' H C cl fp) k8) (fun s' H C cl fp => sndC cd2 (X.blk s' H s (compEnvC s cl C X.env) fp) (c.inn s) ifs2 (G.inn s s' H C cl fp) k12 a.2.2.2.2) (fun s' H C cl fp => (snd elt (X.blk s' H s (compEnvC s cl C X.env) fp) (c.inn s) NoX u (G.inn s s' H C cl fp) k10 a.1).pe) (fun x => i2 X.env x) (ckI_set k7)
      rw [ownP_snd] at r0
      have h1 : PE X (.ListComp u [⟨tg, iter, ifs, 0⟩, ⟨tg2, iter2, ifs2, 0⟩] s q) (RE X T Wh (.comp2 elt t it cd t2 it2 cd2 own own2)) := r0.imp (red_comp2 (mI (T := T) (X := X) a.2.1) (mC (T := T) (X := X) a.2.2.1) (mI (T := T) (X := X) a.2.2.2.1) (mC (T := T) (X := X) a.2.2.2.2) (mE (T := T) (X := X) a.1) (subB_mem k4) (subB_mem k9) (subB_mem k6) k11)
      exact ⟨h1, r_val (mE (T := T) (X := X) (x := .comp2 elt t it cd t2 it2 cd2 own own2) a) h1 fun _ => rfl⟩
    · cases h
  | .idx _ _, X, c, Wh, e, G, h, a => by cases h
  | .cnt _ _, X, c, Wh, e, G, h, a => by cases h
  | .join _ _, X, c, Wh, e, G, h, a => by cases h
  | .split _ _, X, c, Wh, e, G, h, a => by cases h
  | .fstr _, X, c, Wh, e, G, h, a => by cases h
  | .dget i y, X, c, Wh, e, G, h, a => by
    unfold ckE at h
    split at h
    · rename_i u v hl
      obtain ⟨q, rfl⟩ := sSub_eq hl
      simp only [Bool.and_eq_true] at h
      obtain ⟨⟨k1, k2⟩, k3⟩ := h
      have h1 : PE X (.Subscript u v q) (RE X T Wh (.dget i y)) := r_dget G k1 k3 (mE (T := T) (X := X) a) (snd y X c Wh v G k2 a).pe
      exact ⟨h1, r_val (mE (T := T) (X := X) (x := .dget i y) a) h1 fun _ => rfl⟩
    · cases h
  | .dict _, X, c, Wh, e, G, h, a => by cases h
  | .dcp _, X, c, Wh, e, G, h, a => by cases h
  | .tryl x, X, c, Wh, e, G, h, a => by
    unfold ckE at h
    split at h
    · rename_i f l hl
      obtain ⟨p, q, rfl⟩ := sCall_eq hl
      split at h
      · rename_i ps b s hs
        obtain ⟨lp, rfl⟩ := sLam_eq hs
        simp only [Bool.and_eq_true, decide_eq_true_eq] at h
        obtain ⟨⟨⟨⟨⟨⟨⟨k1, k2⟩, k3⟩, k4⟩, k5⟩, k6⟩, k7⟩, k8⟩ := h
        have ef := eq_of_beq k2
        subst ef
        have L := LamX.lamS_by k5
        have h1 : PE X (.Call (.Name "_law_try" p) [.Lambda ps b s lp] [] q) (RE X T Wh (.tryl x)) := r_tryl G k1 k3 k6 L k4 k7 (mE (T := T) (X := X) a) fun A outer s' H E f c' hr => (snd x (ZL.lamCx X A outer s' H E s f c') (c.lamc s) _ b (G.lamc k6 (by rw [G.sc]; exact L) A outer s' H E f c' hr) k8 a).pe
        exact ⟨h1, r_val (mE (T := T) (X := X) (x := .tryl x) a) h1 fun _ => rfl⟩
      · cases h
    · cases h
theorem sndOne : ∀ (es : Exs) (X : Cx) (c : CkC) (Wh : WX) (l : List Expr), Good T X c Wh → ckEs c es l = true → allEs (EntX X T) es → ∀ (x : Ex) (a : Expr), es = .cons x .nil → l = [a] → PE X a (RE X T Wh x) ∧ (∀ ρ, Mono (evE x ρ))
  | .nil, X, c, Wh, l, G, h, a => fun x b e _ => nomatch e
  | .cons y r, X, c, Wh, l, G, h, a => fun x b e el => by
    subst el
    injection e with e1 e2
    subst e1 e2
    have h : (ckE c y b && notStar b && ckEs c .nil []) = true := h
    simp only [Bool.and_eq_true] at h
    exact ⟨(snd y X c Wh b G h.1.1 a.1).pe, mE (T := T) (X := X) a.1⟩
theorem sndEs : ∀ (es : Exs) (X : Cx) (c : CkC) (Wh : WX) (l : List Expr) (bb : Bool), Good T X c Wh → ckEs c es l = true → allEs (EntX X T) es → (bb = true → sgs es = true) → PA X l (tEs X.K T X.mg Wh bb es)
  | .nil, X, c, Wh, l, bb, G, h, a, hb => by
    cases l with
    | nil => exact a_nil
    | cons _ _ => cases h
  | .cons x r, X, c, Wh, l, bb, G, h, a, hb => by
    cases l with
    | nil => cases h
    | cons e l =>
      have h : (ckE c x e && notStar e && ckEs c r l) = true := h
      simp only [Bool.and_eq_true] at h
      have hb' : bb = true → (sg x && sgs r) = true := hb
      exact a_cons h.1.2 (fun z => (Bool.and_eq_true _ _ ▸ hb' z).1) (mE (T := T) (X := X) a.1) (mEs (T := T) (X := X) a.2) (snd x X c Wh e G h.1.1 a.1).pe (sndEs r X c Wh l bb G h.2 a.2 fun z => (Bool.and_eq_true _ _ ▸ hb' z).2)
theorem sndAnd : ∀ (es : Exs) (X : Cx) (c : CkC) (Wh : WX) (l : List Expr) (pos : Pos), Good T X c Wh → ckEs c es l = true → allEs (EntX X T) es → sgs es = true → l ≠ [] → PE X (.BoolOp .And l pos) (GE X T Wh (evAnd es)) ∧ PW X (.BoolOp .And l pos) (GT X T Wh (evAnd es))
  | .nil, X, c, Wh, l, pos, G, h, a, hb, hl => by
    cases l with
    | nil => exact absurd rfl hl
    | cons _ _ => cases h
  | .cons x r, X, c, Wh, l, pos, G, h, a, hb, hl => by
    cases l with
    | nil => cases h
    | cons e l =>
      have h : (ckE c x e && notStar e && ckEs c r l) = true := h
      simp only [Bool.and_eq_true] at h
      have hb : (sg x && sgs r) = true := hb
      rw [Bool.and_eq_true] at hb
      have s := snd x X c Wh e G h.1.1 a.1
      cases r with
      | nil =>
        cases l with
        | nil => exact ⟨and_one hb.1 s.pe, andT_one s.pt⟩
        | cons _ _ => exact absurd h.2 Bool.false_ne_true
      | cons y r =>
        cases l with
        | nil => exact absurd h.2 Bool.false_ne_true
        | cons f l =>
          obtain ⟨i1, i2⟩ := sndAnd (.cons y r) X c Wh (f :: l) pos G h.2 a.2 hb.2 (fun z => nomatch z)
          exact ⟨and_cons (mE (T := T) (X := X) a.1) (mAnd (T := T) (X := X) a.2) s.pe i1, andT_cons (mE (T := T) (X := X) a.1) (mAnd (T := T) (X := X) a.2) s.pt i2⟩
theorem sndOr : ∀ (es : Exs) (X : Cx) (c : CkC) (Wh : WX) (l : List Expr) (pos : Pos), Good T X c Wh → ckEs c es l = true → allEs (EntX X T) es → sgs es = true → l ≠ [] → PE X (.BoolOp .Or l pos) (GE X T Wh (evOr es)) ∧ PW X (.BoolOp .Or l pos) (GT X T Wh (evOr es))
  | .nil, X, c, Wh, l, pos, G, h, a, hb, hl => by
    cases l with
    | nil => exact absurd rfl hl
    | cons _ _ => cases h
  | .cons x r, X, c, Wh, l, pos, G, h, a, hb, hl => by
    cases l with
    | nil => cases h
    | cons e l =>
      have h : (ckE c x e && notStar e && ckEs c r l) = true := h
      simp only [Bool.and_eq_true] at h
      have hb : (sg x && sgs r) = true := hb
      rw [Bool.and_eq_true] at hb
      have s := snd x X c Wh e G h.1.1 a.1
      cases r with
      | nil =>
        cases l with
        | nil => exact ⟨or_one hb.1 s.pe, orT_one s.pt⟩
        | cons _ _ => exact absurd h.2 Bool.false_ne_true
      | cons y r =>
        cases l with
        | nil => exact absurd h.2 Bool.false_ne_true
        | cons f l =>
          obtain ⟨i1, i2⟩ := sndOr (.cons y r) X c Wh (f :: l) pos G h.2 a.2 hb.2 (fun z => nomatch z)
          exact ⟨or_cons (mE (T := T) (X := X) a.1) (mOr (T := T) (X := X) a.2) s.pe i1, orT_cons (mE (T := T) (X := X) a.1) (mOr (T := T) (X := X) a.2) s.pt i2⟩
theorem sndO : ∀ (o : Ox) (X : Cx) (c : CkC) (Wh : WX) (l : Option Expr), Good T X c Wh → ckO c o l = true → allO (EntX X T) o → PO X l (tOs X.K T X.mg Wh o)
  | .none, X, c, Wh, l, G, h, a => by
    cases l with
    | none => exact o_none
    | some _ => cases h
  | .some x, X, c, Wh, l, G, h, a => by
    cases l with
    | none => cases h
    | some e => exact o_some (mE (T := T) (X := X) a) (snd x X c Wh e G h a).pe
theorem sndC : ∀ (o : Ox) (X : Cx) (c : CkC) (l : List Expr), Good T X c NoX → ckC c o l = true → allO (EntX X T) o → PTs X l (tC X.K T X.mg o)
  | .none, X, c, l, G, h, a => by
    cases l with
    | nil =>
      refine ⟨fun pins s σ H Q I q => pts_nil.run pins s σ H Q I ?_⟩
      obtain ⟨ρ, n, F, r, q⟩ := q
      exact q F H (.refl r)
    | cons _ _ => cases h
  | .some x, X, c, l, G, h, a => by
    cases l with
    | nil => cases h
    | cons e l =>
      cases l with
      | nil => exact pts_one (snd x X c NoX e G h a).pt
      | cons _ _ => cases h
theorem sndA : ∀ (as : As) (X : Cx) (c : CkC) (Wh : WX) (l : List Expr), Good T X c Wh → ckA c as l = true → allA (EntX X T) as → PA X l (tAs X.K T X.mg Wh as)
  | .nil, X, c, Wh, l, G, h, a => by
    cases l with
    | nil => exact ar_nil
    | cons _ _ => cases h
  | .val x r, X, c, Wh, l, G, h, a => by
    cases l with
    | nil => cases h
    | cons e l =>
      have h : (ckE c x e && sg x && notStar e && ckA c r l) = true := h
      simp only [Bool.and_eq_true] at h
      exact ar_val h.1.2 h.1.1.2 (mE (T := T) (X := X) a.1) (mA (T := T) (X := X) a.2) (snd x X c Wh e G h.1.1.1 a.1).pe (sndA r X c Wh l G h.2 a.2)
  | .deck i r, X, c, Wh, l, G, h, a => by
    cases l with
    | nil => cases h
    | cons e l =>
      have h : (slotB c i e && notStar e && ckA c r l) = true := h
      simp only [Bool.and_eq_true] at h
      exact ar_deck G h.1.1 h.1.2 (mA (T := T) (X := X) a) (sndA r X c Wh l G h.2 a)
theorem sndI : ∀ (it : It) (X : Cx) (c : CkC) (Wh : WX) (tg e : Expr), Good T X c Wh → ckI c tg it e = true → allI (EntX X T) it → PI X tg e (RI X T Wh it) ∧ ∀ env x, foldedSetIterable e env x = pure x
  | .seq x, X, c, Wh, tg, e, G, h, a => by
    have h : (ckE c x e && sg x && notSet e) = true := h
    simp only [Bool.and_eq_true] at h
    exact ⟨i_seq h.1.2 (mE (T := T) (X := X) a) (snd x X c Wh e G h.1.1 a).pe, notSet_eq h.2⟩
  | .rng1 x, X, c, Wh, tg, e, G, h, a => by
    unfold ckI at h
    split at h
    · rename_i f y hx
      obtain ⟨p, q, rfl⟩ := sCall_eq hx
      simp only [Bool.and_eq_true] at h
      obtain ⟨⟨⟨k1, k2⟩, k3⟩, k4⟩ := h
      have ef := eq_of_beq k1
      subst ef
      exact ⟨i_rng1 (G.gl k2).1 (blt_none G (by decide)) k4 (mE (T := T) (X := X) a) (snd x X c Wh y G k3 a).pe, fun _ _ => rfl⟩
    · cases h
  | .rng2 x x2, X, c, Wh, tg, e, G, h, a => by
    unfold ckI at h
    split at h
    · rename_i f y z hx
      obtain ⟨p, q, rfl⟩ := sCall_eq hx
      simp only [Bool.and_eq_true] at h
      obtain ⟨⟨⟨⟨⟨k1, k2⟩, k3⟩, k4⟩, k5⟩, k6⟩ := h
      have ef := eq_of_beq k1
      subst ef
      exact ⟨i_rng2 (G.gl k2).1 (blt_none G (by decide)) k5 k6 (mE (T := T) (X := X) a.1) (mE (T := T) (X := X) a.2) (snd x X c Wh y G k3 a.1).pe (snd x2 X c Wh z G k4 a.2).pe, fun _ _ => rfl⟩
    · cases h
  | .enum x, X, c, Wh, tg, e, G, h, a => by
    unfold ckI at h
    split at h
    · rename_i f y hx
      obtain ⟨p, q, rfl⟩ := sCall_eq hx
      simp only [Bool.and_eq_true] at h
      obtain ⟨⟨⟨⟨⟨k1, k2⟩, k3⟩, k4⟩, k5⟩, k6⟩ := h
      have ef := eq_of_beq k1
      subst ef
      obtain ⟨l, hl⟩ := Option.isSome_iff_exists.mp k6
      obtain ⟨kk, pt, rfl⟩ := sTup_eq hl
      exact ⟨i_enum (G.gl k2).1 (blt_none G (by decide)) k5 k4 (mE (T := T) (X := X) a) (snd x X c Wh y G k3 a).pe, fun _ _ => rfl⟩
    · cases h
  | .zip x x2, X, c, Wh, tg, e, G, h, a => by
    unfold ckI at h
    split at h
    · rename_i f y z hx
      obtain ⟨p, q, rfl⟩ := sCall_eq hx
      simp only [Bool.and_eq_true] at h
      obtain ⟨⟨⟨⟨⟨⟨⟨⟨k1, k2⟩, k3⟩, k4⟩, k5⟩, k6⟩, k7⟩, k8⟩, k9⟩ := h
      have ef := eq_of_beq k1
      subst ef
      obtain ⟨l, hl⟩ := Option.isSome_iff_exists.mp k9
      obtain ⟨kk, pt, rfl⟩ := sTup_eq hl
      exact ⟨i_zip (G.gl k2).1 (blt_none G (by decide)) k7 k8 k5 k6 (mE (T := T) (X := X) a.1) (mE (T := T) (X := X) a.2) (snd x X c Wh y G k3 a.1).pe (snd x2 X c Wh z G k4 a.2).pe, fun _ _ => rfl⟩
    · cases h
  | .chars x, X, c, Wh, tg, e, G, h, a => by
    have h : (ckE c x e && notSet e) = true := h
    simp only [Bool.and_eq_true] at h
    exact ⟨i_chars (mE (T := T) (X := X) a) (snd x X c Wh e G h.1 a).pe, notSet_eq h.2⟩
end
end
end Z
end
-- Z16
section
set_option Elab.async false
set_option linter.all false
set_option maxRecDepth 100000
set_option maxHeartbeats 1000000
/-! Z16: statements: what stands through a def's body; own lists. -/
namespace Z
open PySem PySem.Spec PyProof.Rows L2

section
variable {K : PySem.W.Frag} {T : List (Addr × Str)} {mg : Str → Option Value} {pr : List Nat} {F0 H0 : Hp} {D0 : Addr → Prop} {ρ ρ' : Ev} {σ σ' : L2.St} {F F1 F' H H1 H' Hs : Hp} {n n1 n' : Nat} {Wh : WX}
/-- through a def's body: F0, H0, D0 are the entry's -/
structure Fra (K : PySem.W.Frag) (T : List (Addr × Str)) (pr : List Nat) (F0 H0 : Hp) (D0 : Addr → Prop) (ρ : Ev) (n : Nat) (F : Hp) (σ : L2.St) (H : Hp) : Prop where
  rl : Rl K T ρ n F σ H
  grow : Grow F0 H0 F
  keep : Keep D0 H0 H
  dks : ∀ a, D0 a → ∃ i, i ∈ pr ∧ at_ ρ i = .deck ∧ σ[i]? = some (some (.ref a))
  bigs : ∀ i a, big (at_ ρ i) = true → σ[i]? = some (some (.ref a)) → D0 a ∨ H0 a = none
theorem Fra.step (f : Fra K T pr F0 H0 D0 ρ n F σ H) (p : Post K T ρ σ F H n' F' H') : Fra K T pr F0 H0 D0 ρ n' F' σ H' where
  rl := p.rl
  grow := f.grow.trans f.keep p.grow
  keep := fun b o e => by
    have there : H' b ≠ none := fun z => by
      have h1 := p.keep.nope z
      have h2 := f.keep.nope h1
      rw [e] at h2; cases h2
    rcases f.keep b o e with h1 | ⟨h1, _⟩
    · rcases p.keep b o h1 with h2 | ⟨⟨i, h2, h3⟩ | h2, h4⟩
      · exact .inl h2
      · rcases f.bigs i b (by rw [h2]; rfl) h3 with h5 | h5
        · exact .inr ⟨.inl h5, h4⟩
        · rw [e] at h5; cases h5
      · exact .inr ⟨.inr h2, h4⟩
    · exact .inr ⟨h1, there⟩
  dks := f.dks
  bigs := f.bigs
theorem Fra.put {v : V} {d : D} {i : Nat} (f : Fra K T pr F0 H0 D0 ρ n F σ H) (hi : i ∉ pr) (h : Rp K F v d) : Fra K T pr F0 H0 D0 (Z.put ρ i (.val d)) n F (σ.set i (some v)) H where
  rl := f.rl.put h
  grow := f.grow
  keep := f.keep
  dks := fun a ha => by
    obtain ⟨j, h1, h2, h3⟩ := f.dks a ha
    have ne : j ≠ i := fun z => hi (by rw [← z]; exact h1)
    exact ⟨j, h1, by rw [at_put, if_neg ne]; exact h2, by rw [List.getElem?_set_ne (Ne.symm ne)]; exact h3⟩
  bigs := fun j a hb e => by
    have ne : j ≠ i := fun z => by
      rw [at_put, if_pos z] at hb
      split at hb <;> cases hb
    rw [at_put, if_neg ne] at hb
    rw [List.getElem?_set_ne (Ne.symm ne)] at e
    exact f.bigs j a hb e
theorem DRel.mono {K : PySem.W.Frag} {F F' : Hp} (s : Sub F F') : ∀ {kv : List (Key × V)} {ps : List (Int × D)}, DRel K F kv ps → DRel K F' kv ps
  | [], [], _ => trivial
  | [], _ :: _, h => h.elim
  | _ :: _, [], h => h.elim
  | _ :: _, _ :: _, h => ⟨h.1, h.2.1.mono s, DRel.mono s h.2.2⟩
/-- the object of a slot -/
def ObS (K : PySem.W.Frag) (F H : Hp) (n : Nat) : Sl → Addr → Prop
  | .own ds, a => ∃ vs, H a = some (.lst vs) ∧ F a = none ∧ Rps K F vs ds
  | .dct ps, a => ∃ kv, H a = some (.dK kv) ∧ F a = none ∧ DRel K F kv ps
  | .deck, a => ∃ x y z, H a = some (.lst [.int x, .int y, .int z]) ∧ F a = none ∧ DeckOk x y z n
  | _, _ => False
theorem ObS.big {K : PySem.W.Frag} {F H : Hp} {n : Nat} {s : Sl} {a : Addr} (h : ObS K F H n s a) : big s = true := by
  cases s <;> first | rfl | exact h.elim
theorem ObS.som {K : PySem.W.Frag} {F H : Hp} {n : Nat} {s : Sl} {a : Addr} (h : ObS K F H n s a) : (∃ u, H a = some u ∧ ∀ ps, u ≠ .tbl ps) ∧ F a = none := by
  cases s <;> first | exact h.elim | skip
  · obtain ⟨vs, h1, h2, _⟩ := h; exact ⟨⟨_, h1, notbl_lst _⟩, h2⟩
  · obtain ⟨vs, h1, h2, _⟩ := h; exact ⟨⟨_, h1, fun _ z => nomatch z⟩, h2⟩
  · obtain ⟨x, y, z, h1, h2, _⟩ := h; exact ⟨⟨_, h1, notbl_lst _⟩, h2⟩
theorem ObS.keep {K : PySem.W.Frag} {F H F' H' : Hp} {n : Nat} {s : Sl} {a : Addr} (h : ObS K F H n s a) (k : ∀ u, H a = some u → (∀ ps, u ≠ .tbl ps) → H' a = some u) (f : F' a = none) (sb : Sub F F') : ObS K F' H' n s a := by
  cases s <;> first | exact h.elim | skip
  · obtain ⟨vs, h1, h2, h3⟩ := h; exact ⟨vs, k _ h1 (notbl_lst _), f, h3.mono sb⟩
  · obtain ⟨vs, h1, h2, h3⟩ := h; exact ⟨vs, k _ h1 (fun _ z => nomatch z), f, h3.mono sb⟩
  · obtain ⟨x, y, z, h1, h2, h3⟩ := h; exact ⟨x, y, z, k _ h1 (notbl_lst _), f, h3⟩
theorem Rl.obS (r : Rl K T ρ n F σ H) {i : Nat} (hb : big (at_ ρ i) = true) : ∃ a, σ[i]? = some (some (.ref a)) ∧ ObS K F H n (at_ ρ i) a := by
  cases e : at_ ρ i with
  | no => rw [e] at hb; cases hb
  | val _ => rw [e] at hb; cases hb
  | own ds => obtain ⟨a, vs, h1, h2⟩ := r.own i ds e; exact ⟨a, h1, vs, h2⟩
  | dct ds => obtain ⟨a, vs, h1, h2⟩ := r.dct i ds e; exact ⟨a, h1, vs, h2⟩
  | deck => obtain ⟨a, x, y, z, h1, h2⟩ := r.deck i e; exact ⟨a, h1, x, y, z, h2⟩
/-- an object of its own comes to a slot -/
theorem Rl.putS {s : Sl} {i : Nat} {a : Addr} (r : Rl K T ρ n F σ H) (hn : ∀ j, big (at_ ρ j) = true → σ[j]? ≠ some (some (.ref a))) (h : ObS K F H n s a) (hd : s = .deck → ∀ j, j ≠ i → at_ ρ j ≠ .deck) :
    Rl K T (Z.put ρ i s) n F (σ.set i (some (.ref a))) H := by
  have hb := h.big
  have other : ∀ {j : Nat}, j ≠ i → at_ (Z.put ρ i s) j = at_ ρ j ∧ (σ.set i (some (V.ref a)))[j]? = σ[j]? := fun {j} ne => ⟨by rw [at_put, if_neg ne], List.getElem?_set_ne (Ne.symm ne)⟩
  have same : ∀ {t : Sl}, at_ (Z.put ρ i s) i = t → t ≠ .no → t = s ∧ (σ.set i (some (V.ref a)))[i]? = some (some (.ref a)) := fun {t} e hs => by
    rw [at_put, if_pos rfl] at e
    by_cases l : i < ρ.length
    · rw [if_pos l] at e
      exact ⟨e.symm, List.getElem?_set_self (by rw [← r.len]; exact l)⟩
    · rw [if_neg l] at e; exact absurd e.symm hs
  have bigO : ∀ {j : Nat}, j ≠ i → Z.big (at_ (Z.put ρ i s) j) = true → ∀ b, (σ.set i (some (V.ref a)))[j]? = some (some (.ref b)) → b ≠ a := fun {j} ne hb b e z => by
    rw [(other ne).1] at hb
    rw [(other ne).2, z] at e
    exact hn j hb e
  refine ⟨r.sub, by rw [put_len, List.length_set]; exact r.len, fun j d e => ?_, fun j ds' e => ?_, fun j kvs e => ?_, fun j e => ?_, fun j l b hjl h1 h2 e1 e2 => ?_, r.tabs, r.pure, fun j l h1 h2 => ?_⟩
  · by_cases ne : j = i
    · subst ne
      obtain ⟨z, _⟩ := same e (fun z => nomatch z)
      rw [← z] at hb; cases hb
    · rw [(other ne).1] at e; rw [(other ne).2]; exact r.val j d e
  · by_cases ne : j = i
    · subst ne
      obtain ⟨z, z2⟩ := same e (fun z => nomatch z)
      subst z
      obtain ⟨vs, g⟩ := h
      exact ⟨a, vs, z2, g⟩
    · rw [(other ne).1] at e; rw [(other ne).2]; exact r.own j ds' e
  · by_cases ne : j = i
    · subst ne
      obtain ⟨z, z2⟩ := same e (fun z => nomatch z)
      subst z
      obtain ⟨vs, g⟩ := h
      exact ⟨a, vs, z2, g⟩
    · rw [(other ne).1] at e; rw [(other ne).2]; exact r.dct j kvs e
  · by_cases ne : j = i
    · subst ne
      obtain ⟨z, z2⟩ := same e (fun z => nomatch z)
      subst z
      obtain ⟨x, y, z, g⟩ := h
      exact ⟨a, x, y, z, z2, g⟩
    · rw [(other ne).1] at e; rw [(other ne).2]; exact r.deck j e
  · by_cases nj : j = i
    · subst nj
      have hs := same (t := at_ (Z.put ρ j s) j) rfl (fun z => by rw [z] at h1; cases h1)
      rw [hs.2] at e1
      cases e1
      exact bigO (Ne.symm hjl) h2 _ e2 rfl
    · by_cases nl : l = i
      · subst nl
        have hs := same (t := at_ (Z.put ρ l s) l) rfl (fun z => by rw [z] at h2; cases h2)
        rw [hs.2] at e2
        cases e2
        exact bigO nj h1 _ e1 rfl
      · rw [(other nj).1] at h1
        rw [(other nl).1] at h2
        rw [(other nj).2] at e1
        rw [(other nl).2] at e2
        exact r.dist j l b hjl h1 h2 e1 e2
  · by_cases nj : j = i
    · by_cases nl : l = i
      · rw [nj, nl]
      · subst nj
        obtain ⟨z, _⟩ := same h1 (fun z => nomatch z)
        rw [(other nl).1] at h2
        exact absurd h2 (hd z.symm l nl)
    · by_cases nl : l = i
      · subst nl
        obtain ⟨z, _⟩ := same h2 (fun z => nomatch z)
        rw [(other nj).1] at h1
        exact absurd h1 (hd z.symm j nj)
      · rw [(other nj).1] at h1
        rw [(other nl).1] at h2
        exact r.one j l h1 h2
/-- an own list comes to a slot -/
theorem Rl.putO {i : Nat} {a : Addr} {vs : List V} {ds : List D} (r : Rl K T ρ n F σ H) (hn : ∀ j, big (at_ ρ j) = true → σ[j]? ≠ some (some (.ref a))) (h : H a = some (.lst vs)) (hf : F a = none) (rp : Rps K F vs ds) :
    Rl K T (Z.put ρ i (.own ds)) n F (σ.set i (some (.ref a))) H := r.putS hn ⟨vs, h, hf, rp⟩ fun z => nomatch z
theorem Fra.putS {s : Sl} {i : Nat} {a : Addr} (f : Fra K T pr F0 H0 D0 ρ n F σ H) (hi : i ∉ pr) (hn : ∀ j, big (at_ ρ j) = true → σ[j]? ≠ some (some (.ref a))) (h : ObS K F H n s a) (hd : s = .deck → ∀ j, j ≠ i → at_ ρ j ≠ .deck) (h0 : H0 a = none) :
    Fra K T pr F0 H0 D0 (Z.put ρ i s) n F (σ.set i (some (.ref a))) H := by
  refine ⟨f.rl.putS hn h hd, f.grow, f.keep, fun b hb => ?_, fun j b hb e => ?_⟩
  · obtain ⟨j, h1, h2, h3⟩ := f.dks b hb
    have ne : j ≠ i := fun z => hi (by rw [← z]; exact h1)
    refine ⟨j, h1, ?_, by rw [List.getElem?_set_ne (Ne.symm ne)]; exact h3⟩
    rw [at_put, if_neg ne]; exact h2
  · by_cases ne : j = i
    · subst ne
      rw [at_put, if_pos rfl] at hb
      by_cases l : j < ρ.length
      · rw [List.getElem?_set_self (by rw [← f.rl.len]; exact l)] at e
        cases e
        exact .inr h0
      · rw [if_neg l] at hb; cases hb
    · rw [at_put, if_neg ne] at hb
      rw [List.getElem?_set_ne (Ne.symm ne)] at e
      exact f.bigs j b hb e
/-- a value of a kind: a datum, or a new own object (Hs: what stood at the start) -/
def Fv (K : PySem.W.Frag) (F H Hs : Hp) : Bool → V → D → Prop
  | false, v, d => Rp K F v d
  | true, v, d => ∃ a, v = .ref a ∧ Hs a = none ∧ slO d ≠ .deck ∧ ObS K F H 0 (slO d) a
def slV : Bool → D → Sl
  | false, d => .val d
  | true, d => slO d
theorem slO_deck {d : D} : slO d ≠ .deck := by
  intro z
  unfold slO at z
  split at z
  · cases z
  · split at z <;> cases z
  · cases z
theorem ObS.chg {K : PySem.W.Frag} {F H : Hp} {n m : Nat} {s : Sl} {a : Addr} (h : ObS K F H n s a) (hs : s ≠ .deck) : ObS K F H m s a := by
  cases s <;> first | exact h.elim | exact h | exact absurd rfl hs
theorem Fv.step {k : Bool} {v : V} {d : D} (h : Fv K F H Hs k v d) (hk : Keep (dk ρ σ) H H') (hd : ∀ a, Hs a = none → ¬ dk ρ σ a) (g : Grow F H F') : Fv K F' H' Hs k v d := by
  cases k with
  | false => exact Rp.mono g.1 h
  | true =>
    obtain ⟨a, e1, e3, e0, e4⟩ := h
    obtain ⟨⟨u0, hu0, _⟩, hf⟩ := e4.som
    refine ⟨a, e1, e3, e0, e4.keep (fun u hu ht => ?_) (g.2 a (by rw [hu0]; exact fun z => nomatch z) hf) g.1⟩
    rcases hk a _ hu with z | ⟨z | ⟨ps, z⟩, _⟩
    · exact z
    · exact absurd z (hd a e3)
    · exact absurd z (ht ps)
theorem Fv.fresh {k : Bool} {v : V} {d : D} (h : Fv K F H Hs k v d) (hs : ∀ j b, big (at_ ρ j) = true → σ[j]? = some (some (.ref b)) → Hs b ≠ none) : k = true → ∀ j, big (at_ ρ j) = true → σ[j]? ≠ some (some v) := fun hk j hb e => by
  subst hk
  obtain ⟨a, rfl, e3, _⟩ := h
  exact hs j a hb e e3
theorem Fra.putV {k : Bool} {v : V} {d : D} {i : Nat} (f : Fra K T pr F0 H0 D0 ρ n F σ H) (hi : i ∉ pr) (hs : k = true → ∀ j, big (at_ ρ j) = true → σ[j]? ≠ some (some v)) (h0 : ∀ a, Hs a = none → H0 a = none) (h : Fv K F H Hs k v d) :
    Fra K T pr F0 H0 D0 (Z.put ρ i (slV k d)) n F (σ.set i (some v)) H := by
  cases k with
  | false => exact f.put hi h
  | true =>
    obtain ⟨a, rfl, e3, e0, e4⟩ := h
    exact f.putS hi (fun j hb e => hs rfl j hb e) (e4.chg e0) (fun z => absurd z e0) (h0 a e3)
/-- what follows an error in a body -/
def kE0 (K : PySem.W.Frag) (T : List (Addr × Str)) (mg : Str → Option Value) (pr : List Nat) (F0 H0 : Hp) (D0 : Addr → Prop) (Wh : WX) : Exc → Nat → Prop := fun x n' => ∀ ρ' σ' F' H' c dd, Fra K T pr F0 H0 D0 ρ' n' F' σ' H' → ExIs K mg x c dd F' H' → Wh c dd σ' H'
theorem kE0_of (f : Fra K T pr F0 H0 D0 ρ n F σ H) : ∀ (x : Exc) (n' : Nat), kE0 K T mg pr F0 H0 D0 Wh x n' → kE K T mg ρ σ F H Wh x n' := fun x n' h F' H' c dd p e => h ρ σ F' H' c dd (f.step p) e
def kS (K : PySem.W.Frag) (T : List (Addr × Str)) (pr : List Nat) (F0 H0 : Hp) (D0 : Addr → Prop) (F : Hp) (D : Ends) : Fl → Nat → Prop
  | .nx ρ', n' => ∀ σ' F' H', Fra K T pr F0 H0 D0 ρ' n' F' σ' H' → Sub F F' → D.nx σ' H'
  | .rt d, n' => ∀ ρ' v σ' F' H', Fra K T pr F0 H0 D0 ρ' n' F' σ' H' → Rp K F' v d → D.rt v H'
def tM (K : PySem.W.Frag) (T : List (Addr × Str)) (mg : Str → Option Value) (pr : List Nat) (F0 H0 : Hp) (D0 : Addr → Prop) (Wh : WX) (m : Ev → W Fl) : TS := fun D σ H => ∃ ρ n F, Fra K T pr F0 H0 D0 ρ n F σ H ∧ m ρ n (kS K T pr F0 H0 D0 F D) (kE0 K T mg pr F0 H0 D0 Wh)
end

/-! ### an expression of a kind -/
section
variable {X : Cx} {T : List (Addr × Str)} {c : CkC} {Wh : WX} {e a b d : Expr} {x y z : Ex} {pos : Pos} {l : List Expr} {es : Exs}
def gV (K : PySem.W.Frag) (T : List (Addr × Str)) (mg : Str → Option Value) (Wh : WX) (k : Bool) (x : Ex) : TE := fun σ H Q => ∃ ρ n F, Rl K T ρ n F σ H ∧ evE x ρ n (fun d n' => ∀ v F' H', Post K T ρ σ F H n' F' H' → Fv K F' H' H k v d → Q v H') (kE K T mg ρ σ F H Wh)
abbrev RV (X : Cx) (T : List (Addr × Str)) (Wh : WX) (k : Bool) (x : Ex) : TE := gV X.K T X.mg Wh k x
theorem v_val (hb : sg x = true) (ma : ∀ ρ, Mono (evE x ρ)) (ha : PE X a (RE X T Wh x)) : PE X a (RV X T Wh false x) := ha.imp fun σ H Q ⟨ρ, n, F, rl, q⟩ =>
  ⟨ρ, n, F, rl, ma ρ _ _ _ _ _ (fun d n' hk v F' H' p z => hk v F' H' p (by rw [hb] at z; exact z)) (fun _ _ z => z) q⟩
/-- a loose object comes beside -/
theorem Post.add {K : PySem.W.Frag} {ρ : Ev} {σ : L2.St} {F H F1 H1 : Hp} {n1 : Nat} {p : Addr} {o : HO} (P : Post K T ρ σ F H n1 F1 H1) (hp : H1 p = none) : Post K T ρ σ F H n1 F1 (upd H1 p o) := by
  refine ⟨P.rl.chg (P.rl.sub.nope hp) (by rw [hp]; trivial) fun i hb e => ?_, P.grow, fun b u e => ?_⟩
  · obtain ⟨a, u, h1, h2, _⟩ := P.rl.big_at hb
    rw [e] at h1
    cases h1
    rw [hp] at h2; cases h2
  · have : b ≠ p := fun z => by
      have := P.keep.nope hp
      rw [← z, e] at this; cases this
    rw [upd_ne this]
    exact P.keep b u e
theorem v_new {K : PySem.W.Frag} {ρ : Ev} {σ : L2.St} {F H F1 H1 : Hp} {n1 : Nat} {vs : List V} {ds : List D} {Q : VK} (P : Post K T ρ σ F H n1 F1 H1) (r : Rps K F1 vs ds) (hk : ∀ v F' H', Post K T ρ σ F H n1 F' H' → Fv K F' H' H true v (.lst ds) → Q v H') : ∀ p, H1 p = none → Q (.ref p) (upd H1 p (.lst vs)) := fun p hp =>
  hk _ F1 _ (P.add hp) ⟨p, rfl, P.keep.nope hp, slO_deck, (show ObS K F1 (upd H1 p (.lst vs)) 0 (.own ds) p from ⟨vs, upd_same, P.rl.sub.nope hp, r⟩)⟩
theorem v_lst (hz : exLen es ≤ 1000) (me : ∀ ρ, Mono (evs es ρ)) (h : PA X l (tEs X.K T X.mg Wh true es)) : PE X (.List l pos) (RV X T Wh true (.lst es)) :=
  (pe_lst h).imp fun σ H Q ⟨ρ, n, F, r, q⟩ =>
    ⟨ρ, n, F, r, me ρ _ _ _ _ _ (fun ds n2 hk vs F2 H2 p2 rz hl => ⟨by rw [sizeLine_eq, hl]; omega, v_new p2 rz.rps hk⟩) (fun _ _ z => z) q⟩
def rMulL (K : PySem.W.Frag) : R2 := fun x y H Q => ∃ a xs k, x = .ref a ∧ y = .int k ∧ SqL K H a xs ∧ 0 ≤ k ∧ k ≤ 1000 ∧ xs.length ≤ 1000 ∧ ∀ p, H p = none → Q (.ref p) (upd H p (.lst (List.replicate k.toNat xs).flatten))
theorem or_mulL : OpR X (binaryOp .Mult) (rMulL X.K) := by
  intro pins s σ H x y v u Q I rx ry h0
  obtain ⟨a, xs, k, rfl, rfl, h, k0, k1, hz, q⟩ := h0
  cases rx
  obtain ⟨t, rfl⟩ := ry
  exact rep_list I h k0 k1 hz q
theorem v_mul (me : ∀ ρ, Mono (evs es ρ)) (mb : ∀ ρ, Mono (evE y ρ)) (ha : PE X a (RE X T Wh (.lst es))) (hb : PE X b (RE X T Wh y)) : PE X (.BinOp a .Mult b pos) (RV X T Wh true (.op .mul (.lst es) y)) :=
  (pe_op or_mulL ha hb).imp fun σ H Q ⟨ρ, n, F, r, q⟩ => by
    have q : evs es ρ n (fun ds n1 => bnd (evE y ρ) (fun d2 => opS .mul (.lst ds) d2) n1 (fun d n' => ∀ v F' H', Post X.K T ρ σ F H n' F' H' → Fv X.K F' H' H true v d → Q v H') (kE X.K T X.mg ρ σ F H Wh)) (kE X.K T X.mg ρ σ F H Wh) := q
    refine ⟨ρ, n, F, r, me ρ _ _ _ _ _ (fun ds n1 hk v1 F1 H1 p0 z1 => tE_seq p0 (mb ρ) hk fun d2 n2 v2 F2 H2 q0 q1 z2 h2 => ?_) (fun _ _ z => z) q⟩
    cases d2 with
    | int k =>
      obtain ⟨⟨c1, c2, c3⟩, h2⟩ := chkd (p := 0 ≤ k ∧ k ≤ 1000 ∧ ds.length ≤ 1000) h2
      obtain ⟨p, xs, rfl, h3, r3⟩ := ((z1.mono q1.grow.1).w q0.rl).lst q0.rl.sub
      exact ⟨p, xs, _, rfl, z2.int, h3, c1, c2, by rw [r3.length]; exact c3, v_new q0 (r3.rep _) h2⟩
    | _ => exact h2.elim
theorem v_list {p : Pos} (hg : Gl X "list") (hm : X.mg "list" = none) (hs : notStar a = true) (ma : ∀ ρ, Mono (evE x ρ)) (ha : PE X a (RE X T Wh x)) : PE X (.Call (.Name "list" p) [a] [] pos) (RV X T Wh true (.bi .list (.cons x .nil))) :=
  (pe_callTy call_list_of hg hm boot_list (pa_cons ha pa_nil (notStar_eq hs _ _)) (by decide) (by decide) (notStar_eq hs _ _) rfl).imp fun σ H Q ⟨ρ, n, F, r, q⟩ =>
    tE_seq (f := fun d => bnd (ok [d]) fun ds => biS .list ds) (.refl r) (ma ρ) q fun d1 n1 v1 F1 H1 p0 _ z1 h1 => by
      obtain ⟨zz, e1, hk⟩ := (det_biS .list [d1]).get h1
      have e1 : bnd (itemsD d1) (fun xs => ok (D.lst xs)) = ok zz := e1
      obtain ⟨bs, hb, hz⟩ := bnd_okS (det_itemsD _) e1
      cases ok_inj hz
      obtain ⟨p, xs, rfl, h2, r2, _⟩ := items_of p0.rl.sub (z1.w p0.rl) hb
      exact ⟨p, xs, rfl, h2, v_new p0 r2 hk⟩
/-! ### dicts -/
theorem pairsD_dctD : ∀ (ps : List (Int × D)), pairsD (ps.map fun p => D.tup [.int p.1, p.2]) = some ps
  | [] => rfl
  | (k, d) :: r => by
    show (match D.tup [.int k, d], pairsD (r.map fun p => D.tup [.int p.1, p.2]) with
      | .tup [.int k, x], some ps => some ((k, x) :: ps)
      | _, _ => none) = _
    rw [pairsD_dctD r]
theorem slO_dct (ps : List (Int × D)) : slO (dctD ps) = .dct ps := by
  show (match pairsD (ps.map fun p => D.tup [.int p.1, p.2]) with | some ps => Sl.dct ps | none => .no) = _
  rw [pairsD_dctD]
section
variable {K : PySem.W.Frag} {F : Hp}
theorem DRel.any {i : Int} : ∀ {kv : List (Key × V)} {ps : List (Int × D)}, DRel K F kv ps → (kv.any fun q => decide (q.1 = .inl i)) = ps.any fun p => decide (p.1 = i)
  | [], [], _ => rfl
  | [], _ :: _, h => h.elim
  | _ :: _, [], h => h.elim
  | (k, v) :: r, (j, d) :: s, h => by
    obtain ⟨h1, h2, h3⟩ := h
    subst h1
    rw [List.any_cons, List.any_cons, DRel.any h3]
    congr 1
    simp
theorem DRel.map {i : Int} {v : V} {d : D} (hv : Rp K F v d) : ∀ {kv : List (Key × V)} {ps : List (Int × D)}, DRel K F kv ps → DRel K F (kv.map fun q => if q.1 = .inl i then (q.1, v) else q) (ps.map fun p => if p.1 = i then (p.1, d) else p)
  | [], [], _ => trivial
  | [], _ :: _, h => h.elim
  | _ :: _, [], h => h.elim
  | (k, w) :: r, (j, e) :: s, h => by
    obtain ⟨h1, h2, h3⟩ := h
    subst h1
    rw [List.map_cons, List.map_cons]
    by_cases hj : j = i
    · subst hj
      simp only [if_true]
      exact ⟨rfl, hv, DRel.map hv h3⟩
    · rw [if_neg (by simp [hj]), if_neg hj]
      exact ⟨rfl, h2, DRel.map hv h3⟩
theorem DRel.app : ∀ {kv kw : List (Key × V)} {ps qs : List (Int × D)}, DRel K F kv ps → DRel K F kw qs → DRel K F (kv ++ kw) (ps ++ qs)
  | [], _, [], _, _, g => g
  | [], _, _ :: _, _, h, _ => h.elim
  | _ :: _, _, [], _, h, _ => h.elim
  | _ :: _, _, _ :: _, _, h, g => ⟨h.1, h.2.1, DRel.app h.2.2 g⟩
theorem DRel.put {i : Int} {v : V} {d : D} {kv : List (Key × V)} {ps : List (Int × D)} (h : DRel K F kv ps) (hv : Rp K F v d) : DRel K F (putK kv (.inl i) v) (dctPut ps i d) := by
  unfold putK dctPut
  rw [h.any]
  by_cases hc : (ps.any fun p => decide (p.1 = i)) = true
  · rw [if_pos hc, if_pos hc]; exact h.map hv
  · rw [if_neg hc, if_neg hc]; exact h.app ⟨rfl, hv, trivial⟩
theorem DRel.fold : ∀ {kw : List (Key × V)} {qs : List (Int × D)} {kv : List (Key × V)} {ps : List (Int × D)}, DRel K F kw qs → DRel K F kv ps → DRel K F (kw.foldl (fun acc kv => putK acc kv.1 kv.2) kv) (qs.foldl (fun acc p => dctPut acc p.1 p.2) ps)
  | [], [], _, _, _, h => h
  | [], _ :: _, _, _, g, _ => g.elim
  | _ :: _, [], _, _, g, _ => g.elim
  | (k, v) :: r, (j, e) :: s, kv, ps, g, h => by
    obtain ⟨h1, h2, h3⟩ := g
    subst h1
    exact DRel.fold (kw := r) (qs := s) (kv := putK kv (.inl j) v) (ps := dctPut ps j e) h3 (h.put h2)
theorem DRel.length : ∀ {kv : List (Key × V)} {ps : List (Int × D)}, DRel K F kv ps → kv.length = ps.length
  | [], [], _ => rfl
  | [], _ :: _, h => h.elim
  | _ :: _, [], h => h.elim
  | _ :: _, _ :: _, h => by rw [List.length_cons, List.length_cons, DRel.length h.2.2]
theorem pairsD_cons {d : D} {ds : List D} {ps : List (Int × D)} (e : pairsD (d :: ds) = some ps) : ∃ k x ps', d = .tup [.int k, x] ∧ pairsD ds = some ps' ∧ ps = (k, x) :: ps' := by
  unfold pairsD at e
  split at e
  · rename_i k x ps' hp
    cases e
    exact ⟨k, x, ps', rfl, hp, rfl⟩
  · cases e
theorem pairs_rel {H : Hp} (sF : Sub F H) : ∀ {ds : List D} {ps : List (Int × D)} {vs : List V}, pairsD ds = some ps → Rps K F vs ds → ∃ (as : List Addr) (kvs : List (Key × V)), vs = as.map V.ref ∧ Paired (fun p kv => SqT K H p [kV kv.1, kv.2]) as kvs ∧ DRel K F kvs ps
  | [], _, _, e, r => by cases e; cases r; exact ⟨[], [], rfl, .nil, trivial⟩
  | d :: ds, ps, vs, e, r => by
    cases r with
    | cons r1 r2 =>
      obtain ⟨k, x, ps', rfl, hp, rfl⟩ := pairsD_cons e
      obtain ⟨as, kvs, h1, h2, h3⟩ := pairs_rel sF hp r2
      cases r1 with
      | tup q1 q2 =>
        cases q2 with
        | cons w1 q3 =>
          cases q3 with
          | cons w2 q4 =>
            cases q4
            cases w1
            rename_i a v
            exact ⟨a :: as, (.inl k, v) :: kvs, by rw [h1]; rfl, .cons (sF.seqT q1) h2, rfl, w2, h3⟩
end
theorem v_newD {K : PySem.W.Frag} {ρ : Ev} {σ : L2.St} {F H F1 H1 : Hp} {n1 : Nat} {kv : List (Key × V)} {ps : List (Int × D)} {Q : VK} (P : Post K T ρ σ F H n1 F1 H1) (r : DRel K F1 kv ps) (hk : ∀ v F' H', Post K T ρ σ F H n1 F' H' → Fv K F' H' H true v (dctD ps) → Q v H') : ∀ p, H1 p = none → Q (.ref p) (upd H1 p (.dK kv)) := fun p hp =>
  hk _ F1 _ (P.add hp) ⟨p, rfl, P.keep.nope hp, slO_deck, by rw [slO_dct]; exact ⟨kv, upd_same, P.rl.sub.nope hp, r⟩⟩
theorem v_dict {p : Pos} (hc : X.calm = true) (hg : Gl X "dict") (hm : X.mg "dict" = none) (hs : notStar a = true) (ma : ∀ ρ, Mono (evE x ρ)) (ha : PE X a (RE X T Wh x)) : PE X (.Call (.Name "dict" p) [a] [] pos) (RV X T Wh true (.dict x)) :=
  (pe_callTy (call_dictP hc) hg hm boot_dict (pa_cons ha pa_nil (notStar_eq hs _ _)) (by decide) (by decide) (notStar_eq hs _ _) rfl).imp fun σ H Q ⟨ρ, n, F, r, q⟩ =>
    tE_seq (f := fun d => match d with
      | .lst xs => bnd (oW (pairsD xs)) fun ps => chk (decide (xs.length ≤ 1000)) (ok (dctD (dctAll ps)))
      | _ => stuck) (.refl r) (ma ρ) q fun d1 n1 v1 F1 H1 p0 _ z1 h1 => by
      cases d1 with
      | lst xs =>
        obtain ⟨b, vs, rfl, h3, r3⟩ := (z1.w p0.rl).lst p0.rl.sub
        have h1 : bnd (oW (pairsD xs)) (fun ps => chk (decide (xs.length ≤ 1000)) (ok (dctD (dctAll ps)))) n1 _ _ := h1
        cases hp : pairsD xs with
        | none => rw [hp] at h1; exact h1.elim
        | some ps =>
          rw [hp] at h1
          obtain ⟨hz, h1⟩ := chkb h1
          obtain ⟨as, kvs, e1, e2, e3⟩ := pairs_rel p0.rl.sub hp r3
          subst e1
          exact ⟨b, as, kvs, rfl, h3, e2, v_newD p0 (DRel.fold e3 (show DRel X.K F1 [] [] from trivial)) h1⟩
      | _ => exact h1.elim
theorem v_dcp {j : Nat} {p : Pos} (G : Good T X c Wh) (hg : Gl X "dict") (hm : X.mg "dict" = none) (h : slotB c j a = true) : PE X (.Call (.Name "dict" p) [a] [] pos) (RV X T Wh true (.dcp j)) := by
  obtain ⟨x, q, rfl, h1, h2, h3, h4⟩ := slotB_eq h
  refine (pe_callTy call_dictD hg hm boot_dict (pa_cons (pe_var (by rw [G.eN]; exact h1) (by rw [G.sc]; exact h2) h3 h4) pa_nil) (by decide) (by decide) rfl rfl).imp fun σ H Q ⟨ρ, n, F, r, q⟩ => ?_
  have q : (match at_ ρ j with | .dct kvs => ok (dctD kvs) | _ => (stuck : W D)) n _ _ := q
  cases hd : at_ ρ j with
  | dct kvs =>
    rw [hd] at q
    obtain ⟨b, kv, e1, e2, e3, e4⟩ := r.dct j kvs hd
    exact ⟨.ref b, e1, b, kv, rfl, .inl e2, v_newD (.refl r) e4 q⟩
  | _ => rw [hd] at q; exact q.elim
def isDct : Ex → Bool
  | .dict _ => true
  | .dcp _ => true
  | _ => false
def ckD (c : CkC) : Ex → Expr → Bool
  | .dict y, e => (match sCall e with | some (f, [a]) => (f == "dict") && glB c.sc f && notStar a && ckE c y a | _ => false)
  | .dcp j, e => (match sCall e with | some (f, [a]) => (f == "dict") && glB c.sc f && slotB c j a | _ => false)
  | _, _ => false
/-- the kind's check -/
def ckK (c : CkC) (k : Bool) (x : Ex) (e : Expr) : Bool := match k with
  | false => ckE c x e && sg x
  | true => match isDct x with
    | true => ckD c x e
    | false => ckE c x e && (match x with
      | .lst _ => true
      | .op .mul (.lst _) _ => true
      | .bi .list (.cons _ .nil) => true
      | _ => false)
theorem sndD (G : Good T X c Wh) (h : ckD c x e = true) (a : allE (EntX X T) x) : PE X e (RV X T Wh true x) := by
  cases x <;> try (exact absurd h Bool.false_ne_true)
  · rename_i y
    rw [ckD] at h
    split at h
    · rename_i f b hl
      obtain ⟨p, q, rfl⟩ := sCall_eq hl
      simp only [Bool.and_eq_true] at h
      obtain ⟨⟨⟨k1, k2⟩, k3⟩, k4⟩ := h
      have ef := eq_of_beq k1
      subst ef
      exact v_dict G.calm (G.gl k2).1 (blt_none G (by decide)) k3 (mE (T := T) (X := X) a) (snd y X c Wh b G k4 a).pe
    · cases h
  · rename_i j
    rw [ckD] at h
    split at h
    · rename_i f b hl
      obtain ⟨p, q, rfl⟩ := sCall_eq hl
      simp only [Bool.and_eq_true] at h
      obtain ⟨⟨k1, k2⟩, k3⟩ := h
      have ef := eq_of_beq k1
      subst ef
      exact v_dcp G (G.gl k2).1 (blt_none G (by decide)) k3
    · cases h
theorem sndK {k : Bool} (G : Good T X c Wh) (h : ckK c k x e = true) (a : allE (EntX X T) x) : PE X e (RV X T Wh k x) := by
  cases k with
  | false =>
    have h : (ckE c x e && sg x) = true := h
    rw [Bool.and_eq_true] at h
    exact v_val h.2 (mE (T := T) (X := X) a) (snd x X c Wh e G h.1 a).pe
  | true =>
    unfold ckK at h
    simp only at h
    cases hx : isDct x with
    | true => rw [hx] at h; exact sndD G h a
    | false =>
    rw [hx] at h
    have h : (ckE c x e && _) = true := h
    rw [Bool.and_eq_true] at h
    obtain ⟨h1, h2⟩ := h
    split at h2
    · rename_i es
      unfold ckE at h1
      split at h1
      · rename_i l hl
        obtain ⟨p, rfl⟩ := sLst_eq hl
        simp only [Bool.and_eq_true, decide_eq_true_eq] at h1
        obtain ⟨⟨k1, k2⟩, k3⟩ := h1
        exact v_lst (by rw [← (ckEs_len k1).1]; exact k3) (mEs (T := T) (X := X) a) (sndEs es X c Wh l true G k1 a fun _ => k2)
      · cases h1
    · rename_i es y
      rw [ckE] at h1
      split at h1
      · rename_i u p v hl
        obtain ⟨q, rfl⟩ := sBin_eq hl
        simp only [Bool.and_eq_true, decide_eq_true_eq] at h1
        obtain ⟨⟨k1, k2⟩, k3⟩ := h1
        subst k1
        exact v_mul (mEs (T := T) (X := X) a.1) (mE (T := T) (X := X) a.2) (snd (.lst es) X c Wh u G k2 a.1).pe (snd y X c Wh v G k3 a.2).pe
      · cases h1
    · rename_i x
      unfold ckE at h1
      split at h1
      · rename_i l hl
        unfold biA at hl
        split at hl
        · cases hl
        · rename_i f m hx
          obtain ⟨p, q, rfl⟩ := sCall_eq hx
          have hl : (match (f == "list") && glB c.sc f && (m.length == 1) with | true => some m | false => none) = some l := hl
          split at hl
          · rename_i hc
            cases hl
            simp only [Bool.and_eq_true] at hc
            have ef := eq_of_beq hc.1.1
            subst ef
            cases l with
            | nil => cases h1
            | cons u l =>
              cases l with
              | cons _ _ => exact absurd (eq_of_beq hc.2) (by simp)
              | nil =>
                have h1 : (ckE c x u && notStar u && ckEs c .nil []) = true := h1
                simp only [Bool.and_eq_true] at h1
                exact v_list (G.gl hc.1.2).1 (blt_none G (by decide)) h1.1.2 (mE (T := T) (X := X) a.1) (snd x X c Wh u G h1.1.1 a.1).pe
          · cases hl
      · cases h1
    · cases h2
end
end Z
end
-- Z17
section
set_option Elab.async false
set_option linter.all false
set_option maxRecDepth 100000
set_option maxHeartbeats 1000000
/-! Z17: statements, one by one. -/
namespace Z
open PySem PySem.Spec PyProof.Rows L2

section
variable {K : PySem.W.Frag} {T : List (Addr × Str)} {mg : Str → Option Value} {pr : List Nat} {F0 H0 : Hp} {D0 : Addr → Prop} {ρ ρ' : Ev} {σ σ' : L2.St} {F F1 F' H H1 H' Hs : Hp} {n n1 n' : Nat} {Wh : WX} {e x : Ex} {β : Type}
theorem fE {g : D → W β} {G : β → Nat → Prop} {Q : VK} (f : Fra K T pr F0 H0 D0 ρ n F σ H) (m : Mono (evE e ρ)) (h : bnd (evE e ρ) g n G (kE0 K T mg pr F0 H0 D0 Wh))
    (k : ∀ d n1 v F1 H1, Post K T ρ σ F H n1 F1 H1 → Rz (sg e) K ρ σ F1 v d → g d n1 G (kE0 K T mg pr F0 H0 D0 Wh) → Q v H1) : tE K T mg Wh e σ H Q :=
  ⟨ρ, n, F, f.rl, m _ _ _ _ _ (fun d n1 hk v F1 H1 p z => k d n1 v F1 H1 p z hk) (kE0_of f) h⟩
theorem fT {g : Bool → W β} {G : β → Nat → Prop} {Q : Bool → Hp → Prop} (f : Fra K T pr F0 H0 D0 ρ n F σ H) (m : Mono (evE e ρ)) (h : bnd (evE e ρ) (fun d => bnd (asB d) g) n G (kE0 K T mg pr F0 H0 D0 Wh))
    (k : ∀ b n1 F1 H1, Post K T ρ σ F H n1 F1 H1 → g b n1 G (kE0 K T mg pr F0 H0 D0 Wh) → Q b H1) : tT K T mg Wh e σ H Q :=
  ⟨ρ, n, F, f.rl, (m.bnd fun _ => Mono.det (det_asB _)) _ _ _ _ _ (fun b n1 hk F1 H1 p => k b n1 F1 H1 p hk) (kE0_of f) h⟩
theorem fV {k : Bool} {g : D → W β} {G : β → Nat → Prop} {Q : VK} (f : Fra K T pr F0 H0 D0 ρ n F σ H) (m : Mono (evE x ρ)) (h : bnd (evE x ρ) g n G (kE0 K T mg pr F0 H0 D0 Wh))
    (kk : ∀ d n1 v F1 H1, Post K T ρ σ F H n1 F1 H1 → Fv K F1 H1 H k v d → g d n1 G (kE0 K T mg pr F0 H0 D0 Wh) → Q v H1) : gV K T mg Wh k x σ H Q :=
  ⟨ρ, n, F, f.rl, m _ _ _ _ _ (fun d n1 hk v F1 H1 p z => kk d n1 v F1 H1 p z hk) (kE0_of f) h⟩
theorem fI {it : It} {g : List D → W β} {G : β → Nat → Prop} {R : L2.It → Hp → Prop} (f : Fra K T pr F0 H0 D0 ρ n F σ H) (m : Mono (evI it ρ)) (h : bnd (evI it ρ) g n G (kE0 K T mg pr F0 H0 D0 Wh))
    (k : ∀ ds n1 J F1 H1, Post K T ρ σ F H n1 F1 H1 → ItOk K J ds F1 → g ds n1 G (kE0 K T mg pr F0 H0 D0 Wh) → R J H1) : tI K T mg Wh it σ H R :=
  ⟨ρ, n, F, f.rl, m _ _ _ _ _ (fun ds n1 hk J F1 H1 p z => k ds n1 J F1 H1 p z hk) (kE0_of f) h⟩
theorem Fra.hs (f : Fra K T pr F0 H0 D0 ρ n F σ H) : ∀ j b, big (at_ ρ j) = true → σ[j]? = some (some (.ref b)) → H b ≠ none := fun j b hb e z => by
  obtain ⟨a, o, h1, h2, _⟩ := f.rl.big_at hb
  rw [e] at h1
  cases h1
  rw [z] at h2; cases h2
theorem Fra.h0 (f : Fra K T pr F0 H0 D0 ρ n F σ H) : ∀ a, H a = none → H0 a = none := fun a h => f.keep.nope h
/-- a slot is forgotten -/
theorem Rl.drop (r : Rl K T ρ n F σ H) (i : Nat) : Rl K T (Z.put ρ i .no) n F σ H := by
  have ne : ∀ {j : Nat}, at_ (Z.put ρ i .no) j ≠ .no → j ≠ i ∧ at_ (Z.put ρ i .no) j = at_ ρ j := fun {j} hb => by
    rw [at_put] at hb ⊢
    by_cases e : j = i
    · rw [if_pos e] at hb; split at hb <;> exact absurd rfl hb
    · rw [if_neg e]; exact ⟨e, rfl⟩
  have bne : ∀ {j : Nat}, big (at_ (Z.put ρ i .no) j) = true → at_ (Z.put ρ i .no) j ≠ .no := fun {j} hb e => by rw [e] at hb; cases hb
  refine ⟨r.sub, by rw [put_len]; exact r.len, fun j d e => ?_, fun j d e => ?_, fun j d e => ?_, fun j e => ?_, fun j l a hjl h1 h2 e1 e2 => ?_, r.tabs, r.pure, fun j l h1 h2 => ?_⟩
  · exact r.val j d (by rw [← (ne (j := j) (by rw [e]; exact fun z => nomatch z)).2]; exact e)
  · exact r.own j d (by rw [← (ne (j := j) (by rw [e]; exact fun z => nomatch z)).2]; exact e)
  · exact r.dct j d (by rw [← (ne (j := j) (by rw [e]; exact fun z => nomatch z)).2]; exact e)
  · exact r.deck j (by rw [← (ne (j := j) (by rw [e]; exact fun z => nomatch z)).2]; exact e)
  · rw [(ne (bne h1)).2] at h1
    rw [(ne (bne h2)).2] at h2
    exact r.dist j l a hjl h1 h2 e1 e2
  · exact r.one j l (by rw [← (ne (j := j) (by rw [h1]; exact fun z => nomatch z)).2]; exact h1) (by rw [← (ne (j := l) (by rw [h2]; exact fun z => nomatch z)).2]; exact h2)
theorem Fra.drop (f : Fra K T pr F0 H0 D0 ρ n F σ H) {i : Nat} (hi : at_ ρ i ≠ .deck) : Fra K T pr F0 H0 D0 (Z.put ρ i .no) n F σ H where
  rl := f.rl.drop i
  grow := f.grow
  keep := f.keep
  dks := fun a ha => by
    obtain ⟨j, h1, h2, h3⟩ := f.dks a ha
    have ne : j ≠ i := fun z => hi (by rw [← z]; exact h2)
    exact ⟨j, h1, by rw [at_put, if_neg ne]; exact h2, h3⟩
  bigs := fun j a hb e => by
    have ne : j ≠ i := fun z => by
      rw [at_put, if_pos z] at hb
      split at hb <;> cases hb
    rw [at_put, if_neg ne] at hb
    exact f.bigs j a hb e
/-- an own address is none of the entry's -/
theorem Fra.own_new (f : Fra K T pr F0 H0 D0 ρ n F σ H) {i : Nat} {a : Addr} (hb : big (at_ ρ i) = true) (hd : at_ ρ i ≠ .deck) (e : σ[i]? = some (some (.ref a))) : H0 a = none ∧ ¬ D0 a := by
  have nd : ¬ D0 a := fun h => by
    obtain ⟨j, _, h2, h3⟩ := f.dks a h
    have ne : i ≠ j := fun z => hd (by rw [z]; exact h2)
    exact f.rl.dist i j a ne hb (by rw [h2]; rfl) e h3
  exact ⟨(f.bigs i a hb e).resolve_left nd, nd⟩
/-- an own list is made a datum -/
theorem Fra.frz {i : Nat} {ds : List D} (f : Fra K T pr F0 H0 D0 ρ n F σ H) (hi : at_ ρ i = .own ds) : ∃ F', Fra K T pr F0 H0 D0 (Z.put ρ i (.val (.lst ds))) n F' σ H ∧ Sub F F' := by
  obtain ⟨a, vs, h1, h2, h3, h4⟩ := f.rl.own i ds hi
  obtain ⟨n0, nd⟩ := f.own_new (i := i) (a := a) (by rw [hi]; rfl) (by rw [hi]; exact fun z => nomatch z) h1
  have sF : Sub F (upd F a (.lst vs)) := sub_upd h3
  have hl : i < ρ.length := by
    rcases Nat.lt_or_ge i ρ.length with z | z
    · exact z
    · rw [at_len z] at hi; cases hi
  have ne : ∀ {j : Nat}, big (at_ (Z.put ρ i (.val (.lst ds))) j) = true → j ≠ i ∧ at_ (Z.put ρ i (.val (.lst ds))) j = at_ ρ j := fun {j} hb => by
    rw [at_put] at hb ⊢
    by_cases e : j = i
    · rw [if_pos e, if_pos hl] at hb; cases hb
    · rw [if_neg e]; exact ⟨e, rfl⟩
  have apart : ∀ {j : Nat} {b : Addr}, j ≠ i → big (at_ ρ j) = true → σ[j]? = some (some (.ref b)) → b ≠ a := fun {j b} hj hb e z => f.rl.dist j i a hj hb (by rw [hi]; rfl) (by rw [e, z]) h1
  refine ⟨upd F a (.lst vs), ⟨⟨fun b o e => ?_, by rw [put_len]; exact f.rl.len, fun j d e => ?_, fun j ds' e => ?_, fun j kvs e => ?_, fun j e => ?_, fun j l b hjl hb1 hb2 e1 e2 => ?_, f.rl.tabs, fun b ps e => ?_, fun j l e1 e2 => ?_⟩, ?_, f.keep, fun b hb => ?_, fun j b hb e => ?_⟩, sF⟩
  · by_cases q : b = a
    · rw [q, upd_same] at e; rw [q, ← Option.some.inj e]; exact h2
    · rw [upd_ne q] at e; exact f.rl.sub b o e
  · rw [at_put] at e
    by_cases q : j = i
    · rw [if_pos q, if_pos hl] at e
      cases e
      subst q
      exact ⟨.ref a, h1, rp_new h3 h4⟩
    · rw [if_neg q] at e
      obtain ⟨v, k1, k2⟩ := f.rl.val j d e
      exact ⟨v, k1, k2.mono sF⟩
  · obtain ⟨q1, q2⟩ := ne (j := j) (by rw [e]; rfl)
    rw [q2] at e
    obtain ⟨b, ws, k1, k2, k3, k4⟩ := f.rl.own j ds' e
    exact ⟨b, ws, k1, k2, by rw [upd_ne (apart q1 (by rw [e]; rfl) k1)]; exact k3, k4.mono sF⟩
  · obtain ⟨q1, q2⟩ := ne (j := j) (by rw [e]; rfl)
    rw [q2] at e
    obtain ⟨b, kv, k1, k2, k3, k4⟩ := f.rl.dct j kvs e
    refine ⟨b, kv, k1, k2, by rw [upd_ne (apart q1 (by rw [e]; rfl) k1)]; exact k3, ?_⟩
    clear k2 e k1 q2
    induction kv generalizing kvs with
    | nil => cases kvs with
      | nil => trivial
      | cons _ _ => exact k4
    | cons q qs ih => cases kvs with
      | nil => exact k4
      | cons z zs => exact ⟨k4.1, k4.2.1.mono sF, ih zs k4.2.2⟩
  · obtain ⟨q1, q2⟩ := ne (j := j) (by rw [e]; rfl)
    rw [q2] at e
    obtain ⟨b, x, y, z, k1, k2, k3, k4⟩ := f.rl.deck j e
    exact ⟨b, x, y, z, k1, k2, by rw [upd_ne (apart q1 (by rw [e]; rfl) k1)]; exact k3, k4⟩
  · rw [(ne hb1).2] at hb1
    rw [(ne hb2).2] at hb2
    exact f.rl.dist j l b hjl hb1 hb2 e1 e2
  · by_cases q : b = a
    · rw [q, upd_same] at e; cases e
    · rw [upd_ne q] at e; exact f.rl.pure b ps e
  · exact f.rl.one j l (by rw [← (ne (j := j) (by rw [e1]; rfl)).2]; exact e1) (by rw [← (ne (j := l) (by rw [e2]; rfl)).2]; exact e2)
  · exact ⟨f.grow.1.trans sF, fun b hb hf => by rw [upd_ne (fun z => hb (by rw [z]; exact n0))]; exact f.grow.2 b hb hf⟩
  · obtain ⟨j, k1, k2, k3⟩ := f.dks b hb
    have nj : j ≠ i := fun z => by rw [z, hi] at k2; cases k2
    exact ⟨j, k1, by rw [at_put, if_neg nj]; exact k2, k3⟩
  · obtain ⟨q1, q2⟩ := ne hb
    rw [q2] at hb
    exact f.bigs j b hb e
theorem put_put : ∀ (r : Ev) (i : Nat) (s u : Sl), Z.put (Z.put r i s) i u = Z.put r i u
  | [], _, _, _ => rfl
  | q :: r, 0, _, _ => rfl
  | q :: r, i + 1, s, u => by show q :: Z.put (Z.put r i s) i u = q :: Z.put r i u; rw [put_put r i s u]
/-- an own object is written -/
theorem Fra.wrS {i : Nat} {s : Sl} {o : HO} {a : Addr} (f : Fra K T pr F0 H0 D0 ρ n F σ H) (hb0 : big (at_ ρ i) = true) (hs0 : at_ ρ i ≠ .deck) (h1 : σ[i]? = some (some (.ref a))) (hr : ObS K F (upd H a o) n s a) (hsd : s ≠ .deck) :
    Fra K T pr F0 H0 D0 (Z.put ρ i s) n F σ (upd H a o) := by
  obtain ⟨a', u, g1, h2, h3, h4⟩ := f.rl.big_at hb0
  rw [h1] at g1
  cases g1
  obtain ⟨n0, nd⟩ := f.own_new (i := i) (a := a) hb0 hs0 h1
  have hl : i < ρ.length := by
    rcases Nat.lt_or_ge i ρ.length with z | z
    · exact z
    · rw [at_len z] at hb0; cases hb0
  have d0 := f.drop (i := i) hs0
  have nos : ∀ j, big (at_ (Z.put ρ i .no) j) = true → σ[j]? ≠ some (some (.ref a)) := fun j hb e => by
    have ne : j ≠ i := fun z => by
      rw [at_put, if_pos z] at hb
      split at hb <;> cases hb
    rw [at_put, if_neg ne] at hb
    exact f.rl.dist j i a ne hb hb0 e h1
  have r1 := d0.rl.chg (o := o) h3 (by rw [h2]; exact h4) nos
  have r2 := r1.putS (i := i) nos hr (fun z => absurd z hsd)
  have eρ : Z.put (Z.put ρ i .no) i s = Z.put ρ i s := put_put _ _ _ _
  have eσ : σ.set i (some (.ref a)) = σ := by
    apply List.ext_getElem?
    intro k
    by_cases hk : i = k
    · subst hk
      rw [List.getElem?_set_self (by rw [← f.rl.len]; exact hl), h1]
    · rw [List.getElem?_set_ne hk]
  rw [eρ, eσ] at r2
  refine ⟨r2, f.grow, fun b o e => ?_, fun b hb => ?_, fun j b hb e => ?_⟩
  · have : b ≠ a := fun z => by rw [z, n0] at e; cases e
    rw [upd_ne this]
    exact f.keep b o e
  · obtain ⟨j, k1, k2, k3⟩ := f.dks b hb
    have nj : j ≠ i := fun z => by rw [z] at k2; exact hs0 k2
    exact ⟨j, k1, by rw [at_put, if_neg nj]; exact k2, k3⟩
  · by_cases nj : j = i
    · subst nj
      rw [h1] at e
      cases e
      exact .inr n0
    · rw [at_put, if_neg nj] at hb
      exact f.bigs j b hb e
/-- an own list is written -/
theorem Fra.wr {i : Nat} {ds es : List D} {a : Addr} {ws : List V} (f : Fra K T pr F0 H0 D0 ρ n F σ H) (hi : at_ ρ i = .own ds) (h1 : σ[i]? = some (some (.ref a))) (hr : Rps K F ws es) :
    Fra K T pr F0 H0 D0 (Z.put ρ i (.own es)) n F σ (upd H a (.lst ws)) := by
  obtain ⟨a', vs, g1, h2, h3, h4⟩ := f.rl.own i ds hi
  rw [h1] at g1
  cases g1
  exact f.wrS (by rw [hi]; rfl) (by rw [hi]; exact fun z => nomatch z) h1 ⟨ws, upd_same, h3, hr⟩ fun z => nomatch z
/-- a loose object comes beside -/
theorem Fra.addO {p : Addr} {o : HO} (f : Fra K T pr F0 H0 D0 ρ n F σ H) (hp : H p = none) : Fra K T pr F0 H0 D0 ρ n F σ (upd H p o) :=
  f.step (Post.add (.refl f.rl) hp)
theorem noDk_at {i : Nat} (h : noDk ρ i = true) : ∀ j, j ≠ i → at_ ρ j ≠ .deck := fun j ne e => by
  have e2 : at_ (Z.put ρ i .no) j = .deck := by rw [at_put, if_neg ne]; exact e
  unfold noDk at h
  rw [List.all_eq_true] at h
  have mem : ∀ (r : Ev) (j : Nat), at_ r j = .deck → Sl.deck ∈ r := by
    intro r
    induction r with
    | nil => intro j z; cases z
    | cons q r ih =>
      intro j z
      cases j with
      | zero => have z : q = .deck := z; rw [z]; exact List.mem_cons_self
      | succ j => exact List.mem_cons_of_mem _ (ih j z)
  have := h _ (mem _ _ e2)
  cases this
/-- no draws' list: their count may be any -/
theorem Fra.cnt {i m : Nat} (f : Fra K T pr F0 H0 D0 ρ n F σ H) (hi : i ∉ pr) (h : noDk ρ i = true) : Fra K T pr F0 H0 D0 (Z.put ρ i .no) m F σ H := by
  have nd := noDk_at h
  have no : ∀ j, at_ (Z.put ρ i .no) j ≠ .deck := fun j e => by
    by_cases ne : j = i
    · rw [at_put, if_pos ne] at e; split at e <;> cases e
    · rw [at_put, if_neg ne] at e; exact nd j ne e
  have r := f.rl.drop i
  refine ⟨⟨r.sub, r.len, r.val, r.own, r.dct, fun j e => absurd e (no j), r.dist, r.tabs, r.pure, r.one⟩, f.grow, f.keep, fun b hb => ?_, fun j b hb e => ?_⟩
  · obtain ⟨j, k1, k2, k3⟩ := f.dks b hb
    have ne : j ≠ i := fun z => hi (by rw [← z]; exact k1)
    exact absurd k2 (nd j ne)
  · by_cases ne : j = i
    · rw [at_put, if_pos ne] at hb; split at hb <;> cases hb
    · rw [at_put, if_neg ne] at hb; exact f.bigs j b hb e
end
end Z
end
-- Z18
section
set_option Elab.async false
set_option linter.all false
set_option maxRecDepth 100000
set_option maxHeartbeats 1000000
/-! Z18: statements: shapes, swapped stores, the check. -/
namespace Z
open PySem PySem.Spec PyProof.Rows L2

def tAssign : Stmt → Option (Expr × Expr)
  | .Assign l v _ => (match l with
    | [t] => some (t, v)
    | _ => none)
  | _ => none
def tIfs : Stmt → Option (Expr × List Stmt × List Stmt)
  | .If t a b _ => some (t, a, b)
  | _ => none
def tFors : Stmt → Option (Expr × Expr × List Stmt)
  | .For t i b o _ => (match o with | [] => some (t, i, b) | _ :: _ => none)
  | _ => none
def tWhls : Stmt → Option (Expr × List Stmt)
  | .While t b o _ => (match o with | [] => some (t, b) | _ :: _ => none)
  | _ => none
def tRets : Stmt → Option (Option Expr)
  | .Return e _ => some e
  | _ => none
def tRaiss : Stmt → Option Expr
  | .Raise e f _ => (match e, f with | some e, none => some e | _, _ => none)
  | _ => none
def tExprs : Stmt → Option Expr
  | .Expr e _ => some e
  | _ => none
section
variable {s : Stmt}
theorem tAssign_eq {t v} (h : tAssign s = some (t, v)) : ∃ p, s = .Assign [t] v p := by
  cases s <;> try (cases h; done)
  rename_i l v' p
  cases l with
  | nil => cases h
  | cons a r =>
    cases r with
    | nil => cases h; exact ⟨p, rfl⟩
    | cons _ _ => cases h
theorem tIfs_eq {t a b} (h : tIfs s = some (t, a, b)) : ∃ p, s = .If t a b p := by cases s <;> first | (cases h; exact ⟨_, rfl⟩) | (exact absurd h (fun z => nomatch z))
theorem tFors_eq {t a b} (h : tFors s = some (t, a, b)) : ∃ p, s = .For t a b [] p := by
  cases s <;> try (cases h; done)
  rename_i t' i' b' o p
  cases o with
  | nil => cases h; exact ⟨p, rfl⟩
  | cons _ _ => cases h
theorem tWhls_eq {t b} (h : tWhls s = some (t, b)) : ∃ p, s = .While t b [] p := by
  cases s <;> try (cases h; done)
  rename_i t' b' o p
  cases o with
  | nil => cases h; exact ⟨p, rfl⟩
  | cons _ _ => cases h
theorem tRets_eq {e} (h : tRets s = some e) : ∃ p, s = .Return e p := by cases s <;> first | (cases h; exact ⟨_, rfl⟩) | (exact absurd h (fun z => nomatch z))
theorem tExprs_eq {e} (h : tExprs s = some e) : ∃ p, s = .Expr e p := by cases s <;> first | (cases h; exact ⟨_, rfl⟩) | (exact absurd h (fun z => nomatch z))
theorem tRaiss_eq {e} (h : tRaiss s = some e) : ∃ p, s = .Raise (some e) none p := by
  cases s <;> try (cases h; done)
  rename_i a b p
  cases a with
  | none => cases b <;> cases h
  | some a =>
    cases b with
    | none => cases h; exact ⟨p, rfl⟩
    | some _ => cases h
end
def noComp : Expr → Bool
  | .ListComp _ _ _ _ => false
  | .SetComp _ _ _ _ => false
  | .DictComp _ _ _ _ _ => false
  | _ => true
theorem noComp_sw {v : Expr} (h : noComp v = true) (t : Option Expr) (l : Nat) (env : Env) : swapsWith v t l env = pure false := by
  cases v <;> first | rfl | (exact absurd h Bool.false_ne_true)
theorem sole_sub {o i v : Expr} {p : Pos} (l : Nat) (env : Env) (h : noComp v = true) : swapsWithSole [.Subscript o i p] v l env = pure false := by unfold swapsWithSole; exact noComp_sw h _ l env
theorem stores_sub {o i v : Expr} {p : Pos} (env : Env) : swappedStores [.Subscript o i p] v env = pure none := by cases v <;> rfl
theorem sole_tup {ts : List Expr} {k : Nat} {v : Expr} {p : Pos} (l : Nat) (env : Env) (h : noComp v = true) : swapsWithSole [.Tuple ts k p] v l env = pure false := by unfold swapsWithSole; exact noComp_sw h _ l env
theorem stores_tup {ts : List Expr} {k : Nat} {v : Expr} {p : Pos} (env : Env) (h : (sTup v).isNone = true) : swappedStores [.Tuple ts k p] v env = pure none := by cases v <;> first | rfl | (exact absurd h Bool.false_ne_true)
/-- which stores a pair has: none: from the left -/
def swN (sc : Scope) (line : Nat) (ts : List Expr) : List Str := ts.filterMap fun
  | .Name id pos => if (sc.names.lookup id == some .local) && pos.line == line then some id else none
  | _ => none
def swQ (sc : Scope) (ts vs : List Expr) : Option (Option (List Str)) :=
  if (swN sc ((ts.head?.map (·.pos.line)).getD 0) ts).length != ts.length || (swN sc ((ts.head?.map (·.pos.line)).getD 0) ts).eraseDups.length != (swN sc ((ts.head?.map (·.pos.line)).getD 0) ts).length then some none
  else if vs.all (foldedForSure 8) then some none
  else if vs.all (constantsAlone 8) then none
  else some (some (swN sc ((ts.head?.map (·.pos.line)).getD 0) ts))
theorem stores_pair {t1 t2 v1 v2 : Expr} {k k2 : Nat} {p p2 : Pos} {env : Env} {r : Option (List Str)} (hk : env.scope.kind = .function) (h1 : notStar v1 = true) (h2 : notStar v2 = true) (h : swQ env.scope [t1, t2] [v1, v2] = some r) : swappedStores [.Tuple [t1, t2] k p] (.Tuple [v1, v2] k2 p2) env = pure r := by
  have hb : (env.blockKind != .function) = false := by
    have : env.blockKind = .function := by unfold Env.blockKind; rw [hk]; rfl
    rw [this]; rfl
  unfold swappedStores
  simp only [hb, Bool.or_false, List.length_cons, List.length_nil]
  unfold swQ at h
  generalize hL : List.filterMap (_ : Expr → Option Str) [t1, t2] = L
  have hL' : swN env.scope (([t1, t2].head?.map (·.pos.line)).getD 0) [t1, t2] = L := by
    rw [← hL]
    unfold swN
    congr 1
  rw [hL'] at h
  refine (if_neg (by decide)).trans ?_
  refine (if_neg ?_).trans ?_
  · intro z
    cases v1 <;> first | (exact absurd h1 Bool.false_ne_true) | (cases v2 <;> first | (exact absurd z Bool.false_ne_true) | (exact absurd h2 Bool.false_ne_true))
  split at h
  · rename_i hc
    cases h
    have hc' : (L.length != 0 + 1 + 1 || L.eraseDups.length != L.length) = true := hc
    rw [if_pos hc']
  · rename_i hc
    have hc' : ¬ (L.length != 0 + 1 + 1 || L.eraseDups.length != L.length) = true := hc
    rw [if_neg hc']
    split at h
    · rename_i hc
      cases h
      rw [if_pos hc]
    · rename_i hc
      rw [if_neg hc]
      split at h
      · cases h
      · rename_i hc
        cases h
        rw [if_neg hc]
/-- the kind of a target -/
def pgK : Pg → Bool
  | .ow _ => true
  | _ => false
def pgI : Pg → Nat
  | .nm i => i
  | .ow i => i
  | .ix i _ => i
/-- a target's check -/
def ckP (c : CkC) : Pg → Expr → Bool
  | .nm i, e => setB c i e
  | .ow i, e => setB c i e
  | .ix i k, e => (match sSub e with
    | some (o, kx) => slotB c i o && ckE c k kx && (sSlice kx).isNone
    | none => false)
/-- both are names: swapped, or from the left -/
def pgN : Pg → Bool
  | .ix _ _ => false
  | _ => true
def pairOk (c : CkC) (t1 t2 : Pg) (x1 x2 v1 v2 : Expr) : Bool := match swQ c.sc [x1, x2] [v1, v2] with
  | some none => true
  | some (some l) => (match sName x1, sName x2 with
    | some a, some b => decide (l = [a, b]) && pgN t1 && pgN t2 && !(pgI t1 == pgI t2) && (match c.sc.names.lookup a, c.sc.names.lookup b with | some .local, some .local => true | _, _ => false)
    | _, _ => false)
  | none => false
def okTT : Pg → Pg → Bool
  | .ix _ _, .nm _ => true
  | a, b => pgN a && pgN b
def isCallE (e : Expr) : Bool := (sCallK e).isSome
def mLine : Expr → Bool
  | .Call (.Attribute _ _ ap) _ _ cp => ap.endLine == cp.line
  | _ => false
def isFrz : St → Bool
  | .freeze _ => true
  | _ => false
mutual
def ckS (c : CkC) : St → Stmt → Bool
  | .set i e, s => (match tAssign s with | some (t, v) => setB c i t && ckK c false e v | none => false)
  | .setO i e, s => (match tAssign s with | some (t, v) => setB c i t && ckK c true e v && noComp v | none => false)
  | .move j i, s => (match tAssign s with | some (t, v) => setB c j t && slotB c i v && !c.pro.contains i && !(i == j) | none => false)
  | .freeze _, _ => false
  | .mkdeck i a b, s => (match tAssign s with
    | some (t, v) => (match sCall v with
      | some (f, l) => c.dkk && setB c i t && (f == "_law_deck") && glB c.sc f && decide (1 ≤ c.lvl) && decide (l.length = 2) && ckEs c (.cons a (.cons b .nil)) l
      | none => false)
    | none => false)
  | .asg t e, s => (match tAssign s with | some (tg, v) => ckT c t tg && ckE c e v && sg e && noComp v && (sTup v).isNone && (sTup tg).isSome | none => false)
  | .par (.cons t1 (.cons t2 .nil)) (.cons e1 (.cons e2 .nil)), s => (match tAssign s with
    | some (tg, v) => (match sTup tg, sTup v with
      | some [x1, x2], some [v1, v2] => ckP c t1 x1 && ckP c t2 x2 && notStar x1 && notStar x2 && ckK c (pgK t1) e1 v1 && ckK c (pgK t2) e2 v2 && notStar v1 && notStar v2 && pairOk c t1 t2 x1 x2 v1 v2 && okTT t1 t2
      | _, _ => false)
    | none => false)
  | .par _ _, _ => false
  | .aug _ _ _, _ => false
  | .setix i k e, s => (match tAssign s with
    | some (tg, v) => (match sSub tg with
      | some (o, kx) => slotB c i o && ckE c k kx && (sSlice kx).isNone && ckE c e v && sg e && noComp v
      | none => false)
    | none => false)
  | .app i e, s => (match tExprs s with
    | some y => (match sMeth y with
      | some (o, m, [x]) => (m == "append") && slotB c i o && ckE c e x && sg e && notStar x && mLine y
      | _ => false)
    | none => false)
  | .dput i k e, s => (match tAssign s with
    | some (tg, v) => (match sSub tg with
      | some (o, kx) => slotB c i o && ckE c k kx && (sSlice kx).isNone && ckE c e v && sg e && noComp v
      | none => false)
    | none => false)
  | .iff t a b, s => (match tIfs s with | some (x, l, m) => ckE c t x && ckSs c a l && ckSs c b m | none => false)
  | .for_ t it b, s => (match tFors s with | some (tg, i, l) => ckT c t tg && ckI c tg it i && ckSs c b l | none => false)
  | .whl t b, s => (match tWhls s with | some (x, l) => ckE c t x && ckSs c b l | none => false)
  | .ret e, s => (match tRets s with
    | some (some x) => ckE c e x && sg e
    | some none => (match e with | .non => true | _ => false)
    | none => false)
  | .rais cls a, s => (match a with
    | .none => (match tRaiss s with
      | some x => (match sCall x with
        | some (f, [m]) => (f == cls) && glB c.sc f && c.ex.contains f && (match sConst m with | some (.str _) => true | _ => false)
        | _ => false)
      | none => false)
    | .some _ => false)
  | .expr e, s => (match tExprs s with | some x => ckE c e x && isCallE x | none => false)
def ckSs (c : CkC) : Sts → List Stmt → Bool
  | .nil, l => (match l with | [] => true | _ :: _ => false)
  | .cons s r, l => (match isFrz s with
    | true => ckSs c r l
    | false => (match l with | [] => false | st :: l => ckS c s st && ckSs c r l))
end
end Z
end
-- Z19
section
set_option Elab.async false
set_option linter.all false
set_option maxRecDepth 100000
set_option maxHeartbeats 2000000
/-! Z19: the check's word of statements. -/
namespace Z
open PySem PySem.Spec PyProof.Rows L2

section
variable {K : PySem.W.Frag} {T : List (Addr × Str)} {mg : Str → Option Value} {pr : List Nat} {F0 H0 : Hp} {D0 : Addr → Prop} {ρ ρ' : Ev} {σ σ' : L2.St} {F F1 F' H H1 H' Hs : Hp} {n n1 n' : Nat} {Wh : WX} {e x : Ex}
theorem kS_sub {D : Ends} (s : Sub F F1) : ∀ (fl : Fl) (n : Nat), kS K T pr F0 H0 D0 F D fl n → kS K T pr F0 H0 D0 F1 D fl n
  | .nx ρ, n, h => fun σ' F' H' f s' => h σ' F' H' f (s.trans s')
  | .rt d, n, h => h
theorem tM_at {m : Ev → W Fl} {D : Ends} (f : Fra K T pr F0 H0 D0 ρ n F σ H) (s : Sub F1 F) (mm : Mono (m ρ)) (h : m ρ n (kS K T pr F0 H0 D0 F1 D) (kE0 K T mg pr F0 H0 D0 Wh)) : tM K T mg pr F0 H0 D0 Wh m D σ H :=
  ⟨ρ, n, F, f, mm _ _ _ _ _ (fun fl n1 hk => kS_sub s fl n1 hk) (fun _ _ z => z) h⟩
mutual
theorem bindT_at : ∀ (t : Tg) (d : D) (ρ ρ' : Ev), bindT t d ρ = ok ρ' → ∀ i, i ∉ tgIs t → at_ ρ' i = at_ ρ i
  | .nm j, d, ρ, ρ', h, i, hi => by
    have e : Z.put ρ j (.val d) = ρ' := ok_inj h
    subst e
    rw [at_put, if_neg (fun z => hi (by simp [tgIs, z]))]
  | .tup ts, d, ρ, ρ', h, i, hi => by
    cases d with
    | tup ds => exact bindTs_at ts ds ρ ρ' h i hi
    | _ => exact absurd h stuck_ne
theorem bindTs_at : ∀ (ts : Tgs) (ds : List D) (ρ ρ' : Ev), bindTs ts ds ρ = ok ρ' → ∀ i, i ∉ tgsIs ts → at_ ρ' i = at_ ρ i
  | .nil, ds, ρ, ρ', h, i, hi => by
    cases ds with
    | nil => cases ok_inj h; rfl
    | cons _ _ => exact absurd h stuck_ne
  | .cons t r, ds, ρ, ρ', h, i, hi => by
    cases ds with
    | nil => exact absurd h stuck_ne
    | cons d ds =>
      obtain ⟨ρ1, h1, h2⟩ := bnd_okS (det_bindT t d ρ) h
      have hi : i ∉ tgIs t ++ tgsIs r := hi
      rw [List.mem_append, not_or] at hi
      rw [bindTs_at r ds ρ1 ρ' h2 i hi.2, bindT_at t d ρ ρ1 h1 i hi.1]
end
mutual
theorem bindT_nb : ∀ (t : Tg) (d : D) (ρ ρ' : Ev), bindT t d ρ = ok ρ' → ∀ i, i ∈ tgIs t → big (at_ ρ' i) = false
  | .nm j, d, ρ, ρ', h, i, hi => by
    have e : Z.put ρ j (.val d) = ρ' := ok_inj h
    subst e
    have hi : i = j := by simpa [tgIs] using hi
    rw [at_put, if_pos hi]
    split <;> rfl
  | .tup ts, d, ρ, ρ', h, i, hi => by
    cases d with
    | tup ds => exact bindTs_nb ts ds ρ ρ' h i hi
    | _ => exact absurd h stuck_ne
theorem bindTs_nb : ∀ (ts : Tgs) (ds : List D) (ρ ρ' : Ev), bindTs ts ds ρ = ok ρ' → ∀ i, i ∈ tgsIs ts → big (at_ ρ' i) = false
  | .nil, ds, ρ, ρ', h, i, hi => by simp [tgsIs] at hi
  | .cons t r, ds, ρ, ρ', h, i, hi => by
    cases ds with
    | nil => exact absurd h stuck_ne
    | cons d ds =>
      obtain ⟨ρ1, h1, h2⟩ := bnd_okS (det_bindT t d ρ) h
      have hi : i ∈ tgIs t ++ tgsIs r := hi
      by_cases hr : i ∈ tgsIs r
      · exact bindTs_nb r ds ρ1 ρ' h2 i hr
      · have ht := (List.mem_append.mp hi).resolve_right hr
        rw [bindTs_at r ds ρ1 ρ' h2 i hr]
        exact bindT_nb t d ρ ρ1 h1 i ht
end
theorem Fra.bind {t : Tg} {d : D} (f : Fra K T pr F0 H0 D0 ρ n F σ H) (e : bindT t d ρ = ok ρ') (r : Rl K T ρ' n F σ' H) (hs : ∀ i, i ∉ tgIs t → σ'[i]? = σ[i]?) (hp : ∀ i ∈ tgIs t, i ∉ pr) : Fra K T pr F0 H0 D0 ρ' n F σ' H where
  rl := r
  grow := f.grow
  keep := f.keep
  dks := fun a ha => by
    obtain ⟨j, h1, h2, h3⟩ := f.dks a ha
    have nj : j ∉ tgIs t := fun z => hp j z h1
    exact ⟨j, h1, by rw [bindT_at t d ρ ρ' e j nj]; exact h2, by rw [hs j nj]; exact h3⟩
  bigs := fun j a hb e' => by
    have nj : j ∉ tgIs t := fun z => by rw [bindT_nb t d ρ ρ' e j z] at hb; cases hb
    rw [bindT_at t d ρ ρ' e j nj] at hb
    rw [hs j nj] at e'
    exact f.bigs j a hb e'
mutual
theorem ckT_pro {c : CkC} : ∀ (t : Tg) (e : Expr), ckT c t e = true → ∀ i ∈ tgIs t, i ∉ c.pro
  | .nm j, e, h, i, hi => by
    have hi : i = j := by simpa [tgIs] using hi
    subst hi
    have h : setB c i e = true := h
    unfold setB at h
    split at h
    · simp only [Bool.and_eq_true, Bool.not_eq_true'] at h
      intro m
      rw [List.contains_iff_mem.mpr m] at h
      cases h.2
    · cases h
  | .tup ts, e, h, i, hi => by
    unfold ckT at h
    split at h
    · rename_i l _
      exact ckTs_pro ts l h i hi
    · cases h
theorem ckTs_pro {c : CkC} : ∀ (ts : Tgs) (l : List Expr), ckTs c ts l = true → ∀ i ∈ tgsIs ts, i ∉ c.pro
  | .nil, l, h, i, hi => by simp [tgsIs] at hi
  | .cons t r, l, h, i, hi => by
    cases l with
    | nil => cases h
    | cons e l =>
      have h : (ckT c t e && notStar e && ckTs c r l) = true := h
      simp only [Bool.and_eq_true] at h
      have hi : i ∈ tgIs t ++ tgsIs r := hi
      rcases List.mem_append.mp hi with z | z
      · exact ckT_pro t e h.1.1 i z
      · exact ckTs_pro r l h.2 i z
end
end

section
variable {X : Cx} {T : List (Addr × Str)} {c : CkC} {Wh : WX} {F0 H0 : Hp} {D0 : Addr → Prop}
abbrev RM (X : Cx) (T : List (Addr × Str)) (c : CkC) (F0 H0 : Hp) (D0 : Addr → Prop) (Wh : WX) (m : Ev → W Fl) : TS := tM X.K T X.mg c.pro F0 H0 D0 Wh m
theorem _root_.L2.PSs.imp {X : Cx} {e : List Stmt} {t t' : TS} (h : PSs X e t) (g : ∀ D σ H, t' D σ H → t D σ H) : PSs X e t' := ⟨fun pins s σ H D I q => h.run pins s σ H D I (g D σ H q)⟩
/-- name = value, the swap or not -/
theorem set_comp {x : Ex} {i : Nat} {y : Str} {py spos : Pos} {v : Expr} (G : Good T X c Wh) (h : ckE c x v = true) (a : allE (EntX X T) x) (hn : noComp v = false) (hi : X.N[i]? = some y) (hx : Loc X.env.scope y) (hf : X.fn y = true ∨ X.env.scope.names.lookup y = some .local) :
    PS X (.Assign [.Name y py] v spos) (tAsg (RE X T Wh x) (gName i)) := by
  have he := (snd x X c Wh v G h a).pe
  refine ⟨fun pins s σ H D I q => ?_⟩
  have noC : ∀ {b : Bool}, swapsWith v (some (.Name y py)) spos.line X.env = pure b → b = false → wpAny (model X.prog X.w) X.A (exec (.Assign [.Name y py] v spos) X.env) (SP X pins D) X.xe s := fun {b} e z => by
    subst z
    exact (ps_set G.nd hi hx he e hf).run pins s σ H D I q
  cases x with
  | comp elt t it cd own =>
    unfold ckE at h
    split at h
    · rename_i u tg iter ifs sc hl
      obtain ⟨q0, rfl⟩ := sLc_eq hl
      cases hb : X.env.blockKind == .function && X.env.kindOf y == some .local && py.line == q0.line && !(sc.names.any fun (n, k) => n == y && (k == .local || k == .cell)) with
      | false => exact noC (b := false) (by show pure _ = _; exact congrArg pure hb) rfl
      | true =>
        have hsw : swapsWith (.ListComp u [⟨tg, iter, ifs, 0⟩] sc q0) (some (.Name y py)) spos.line X.env = pure true := by show pure _ = _; exact congrArg pure hb
        simp only [Bool.and_eq_true] at hb
        have hyl : X.env.scope.names.lookup y = some .local := eq_of_beq hb.1.1.2
        simp only [Bool.and_eq_true] at h
        obtain ⟨⟨⟨⟨⟨⟨k1, k2⟩, k3⟩, k4⟩, k5⟩, k6⟩, k7⟩ := h
        have ok : BlkOk X.N X.env.scope sc (ownP c.N own) := by rw [G.eN, G.sc]; exact blkOk_by k1
        obtain ⟨i1, i2⟩ := sndI it X c Wh tg iter G k2 a.2.1
        have r0 := ps_setLc (te := RE X T NoX elt) (tt := tC X.K T X.mg cd) (g := tG X.K T t) G.calm G.nd hi hyl hsw i1 ok (fun s' H C cl fp => g_t (X := X.blk s' H sc (compEnvC sc cl C X.env) fp) (T := T) t tg (G.inn sc s' H C cl fp) k3) (fun s' H C cl fp => sndC cd (X.blk s' H sc (compEnvC sc cl C X.env) fp) (c.inn sc) ifs (G.inn sc s' H C cl fp) k7 a.2.2) (fun s' H C cl fp => (snd elt (X.blk s' H sc (compEnvC sc cl C X.env) fp) (c.inn sc) NoX u (G.inn sc s' H C cl fp) k5 a.1).pe) (fun x => i2 X.env x)
        rw [ownP_snd] at r0
        exact r0.run pins s σ H D I (red_comp (mI (T := T) (X := X) a.2.1) (mC (T := T) (X := X) a.2.2) (mE (T := T) (X := X) a.1) (subB_mem k4) k6 σ H _ q)
    · cases h
  | comp2 elt t it cd t2 it2 cd2 own own2 =>
    unfold ckE at h
    split at h
    · rename_i u tg iter ifs tg2 iter2 ifs2 sc hl
      obtain ⟨q0, rfl⟩ := sLc_eq hl
      cases hb : X.env.blockKind == .function && X.env.kindOf y == some .local && py.line == q0.line && !(sc.names.any fun (n, k) => n == y && (k == .local || k == .cell)) with
      | false => exact noC (b := false) (by show pure _ = _; exact congrArg pure hb) rfl
      | true =>
        have hsw : swapsWith (.ListComp u [⟨tg, iter, ifs, 0⟩, ⟨tg2, iter2, ifs2, 0⟩] sc q0) (some (.Name y py)) spos.line X.env = pure true := by show pure _ = _; exact congrArg pure hb
        simp only [Bool.and_eq_true] at hb
        have hyl : X.env.scope.names.lookup y = some .local := eq_of_beq hb.1.1.2
        simp only [Bool.and_eq_true] at h
        obtain ⟨⟨⟨⟨⟨⟨⟨⟨⟨⟨⟨k1, k2⟩, k3⟩, k4⟩, k5⟩, k6⟩, k7⟩, k8⟩, k9⟩, k10⟩, k11⟩, k12⟩ := h
        have ok : BlkOk X.N X.env.scope sc (ownP c.N own) := by rw [G.eN, G.sc]; exact blkOk_by k1
        obtain ⟨i1, i2⟩ := sndI it X c Wh tg iter G k2 a.2.1
        have j := fun s' H C cl fp => sndI it2 (X.blk s' H sc (compEnvC sc cl C X.env) fp) (c.inn sc) NoX tg2 iter2 (G.inn sc s' H C cl fp) k7 a.2.2.2.1
        have r0 := ps_setLc2 (vs1 := own2) (te := RE X T NoX elt) (tt := tC X.K T X.mg cd) (g := tG X.K T t) (tt1 := tC X.K T X.mg cd2) (g1 := tG X.K T t2) (wi1 := RI X T NoX it2) G.calm G.nd hi hyl hsw i1 ok (by rw [ownP_snd]; exact subB_mem k6) (fun s' H C cl fp => g_t (X := X.blk s' H sc (compEnvC sc cl C X.env) fp) (T := T) t tg (G.inn sc s' H C cl fp) k3) (fun s' H C cl fp => sndC cd (X.blk s' H sc (compEnvC sc cl C X.env) fp) (c.inn sc) ifs (G.inn sc s' H C cl fp) k5 a.2.2.1)
          (fun s' H C cl fp => (j s' H C cl fp).1) (fun s' H C cl fp => g_t (X := X.blk s' H sc (compEnvC sc cl C X.env) fp) (T := T) t2 tg2 (G.inn sc s' H C cl fp) k8) (fun s' H C cl fp => sndC cd2 (X.blk s' H sc (compEnvC sc cl C X.env) fp) (c.inn sc) ifs2 (G.inn sc s' H C cl fp) k12 a.2.2.2.2) (fun s' H C cl fp => (snd elt (X.blk s' H sc (compEnvC sc cl C X.env) fp) (c.inn sc) NoX u (G.inn sc s' H C cl fp) k10 a.1).pe) (fun x => i2 X.env x) (ckI_set k7)
        rw [ownP_snd] at r0
        exact r0.run pins s σ H D I (red_comp2 (mI (T := T) (X := X) a.2.1) (mC (T := T) (X := X) a.2.2.1) (mI (T := T) (X := X) a.2.2.2.1) (mC (T := T) (X := X) a.2.2.2.2) (mE (T := T) (X := X) a.1) (subB_mem k4) (subB_mem k9) (subB_mem k6) k11 σ H _ q)
    · cases h
  | _ => cases v <;> first | (cases hn; done) | (exact absurd h Bool.false_ne_true)
/-- a value of a kind to a name -/
theorem s_set {k : Bool} {x : Ex} {i : Nat} {t v : Expr} {spos : Pos} (G : Good T X c Wh) (ht : setB c i t = true) (h : ckK c k x v = true) (a : allE (EntX X T) x) (hc : k = true → noComp v = true) (g : D → Ev → W Fl) (hg : ∀ d ρ n D E, g d ρ n D E → (Z.ok (Fl.nx (Z.put ρ i (slV k d))) : W Fl) n D E) :
    PS X (.Assign [t] v spos) (RM X T c F0 H0 D0 Wh fun ρ => bnd (evE x ρ) fun d => g d ρ) := by
  obtain ⟨y, py, rfl, h1, h2, h3, h4⟩ := G.setB ht
  have hk := sndK (T := T) G h a
  have base : PS X (.Assign [.Name y py] v spos) (tAsg (RV X T Wh k x) (gName i)) := by
    cases hn : noComp v with
    | true => exact ps_set G.nd h1 h2 hk (noComp_sw hn _ _ _) h3
    | false =>
      cases k with
      | true => rw [hc rfl] at hn; cases hn
      | false =>
        have h : (ckE c x v && sg x) = true := h
        rw [Bool.and_eq_true] at h
        refine (set_comp G h.1 a hn h1 h2 h3).imp fun D σ H ⟨ρ, n, F, rl, q⟩ => ⟨ρ, n, F, rl, (mE (T := T) (X := X) a) ρ _ _ _ _ _ (fun d n' hk v F' H' p z => hk v F' H' p (by rw [h.2] at z; exact z)) (fun _ _ z => z) q⟩
  refine base.imp fun D σ H ⟨ρ, n, F, f, q⟩ => ?_
  exact fV f ((mE (T := T) (X := X) a) ρ) q fun d n1 v F1 H1 p z hk => hg d ρ n1 _ _ hk _ F1 H1 ((f.step p).putV h4 (z.fresh f.hs) f.h0 z) p.grow.1
theorem s_setix {i : Nat} {k x : Ex} {o kx v : Expr} {tp spos : Pos} (G : Good T X c Wh) (ho : slotB c i o = true) (hk : ckE c k kx = true) (hi : (sSlice kx).isNone = true) (hx : ckE c x v = true) (hs : sg x = true) (hn : noComp v = true) (ak : allE (EntX X T) k) (ax : allE (EntX X T) x) :
    PS X (.Assign [.Subscript o kx tp] v spos) (RM X T c F0 H0 D0 Wh (runS (.setix i k x))) := by
  obtain ⟨y, p, rfl, h1, h2, h3, h4⟩ := slotB_eq ho
  have hg : PG X (.Subscript (.Name y p) kx tp) (gSub (tVar i) (RE X T Wh k) rSetL) := pg_sub (pe_var (by rw [G.eN]; exact h1) (by rw [G.sc]; exact h2) h3 h4) (snd k X c Wh kx G hk ak).pe set_list (by intro u; cases kx <;> first | rfl | (exact absurd hi Bool.false_ne_true))
  refine (ps_asg (snd x X c Wh v G hx ax).pe hg (sole_sub _ _ hn) (stores_sub _)).imp fun D σ H ⟨ρ, n, F, f, q⟩ => ?_
  refine fE f ((mE (T := T) (X := X) ax) ρ) q fun d n1 v1 F1 H1 p1 z1 q1 => ?_
  rw [hs] at z1
  have z1 : Rp X.K F1 v1 d := z1
  have q1 : (match at_ ρ i with | .own xs => bnd (evE k ρ) (fun y => bnd (intOf y) fun j => chk (decide (0 ≤ j ∧ j < xs.length)) (Z.ok (Fl.nx (Z.put ρ i (.own (xs.set j.toNat d)))))) | _ => (stuck : W Fl)) n1 _ _ := q1
  cases hd : at_ ρ i with
  | own ds =>
    rw [hd] at q1
    obtain ⟨a, vs, e1, e2, e3, e4⟩ := f.rl.own i ds hd
    refine ⟨.ref a, e1, fE (f.step p1) ((mE (T := T) (X := X) ak) ρ) q1 fun d2 n2 v2 F2 H2 p2 z2 q2 => ?_⟩
    cases d2 with
    | int j =>
      obtain ⟨⟨j0, j1⟩, q2⟩ := chkd (p := 0 ≤ j ∧ j < ds.length) q2
      obtain ⟨b, ws, g1, g2, g3, g4⟩ := ((f.step p1).step p2).rl.own i ds hd
      rw [e1] at g1
      cases g1
      refine ⟨a, ws, j, j.toNat, rfl, z2.int, g2, ?_, q2 σ F2 _ (((f.step p1).step p2).wr hd e1 (Rps.set (z1.mono p2.grow.1) _ g4)) (p1.grow.1.trans p2.grow.1)⟩
      have hl := g4.length
      unfold ixN
      rw [if_pos j0, if_pos (by omega)]
    | _ => exact q2.elim
  | _ => rw [hd] at q1; exact q1.elim
theorem s_dput {i : Nat} {k x : Ex} {o kx v : Expr} {tp spos : Pos} (G : Good T X c Wh) (ho : slotB c i o = true) (hk : ckE c k kx = true) (hi : (sSlice kx).isNone = true) (hx : ckE c x v = true) (hs : sg x = true) (hn : noComp v = true) (ak : allE (EntX X T) k) (ax : allE (EntX X T) x) :
    PS X (.Assign [.Subscript o kx tp] v spos) (RM X T c F0 H0 D0 Wh (runS (.dput i k x))) := by
  obtain ⟨y, p, rfl, h1, h2, h3, h4⟩ := slotB_eq ho
  refine (ps_dput (hu_of G.room) (pe_var (by rw [G.eN]; exact h1) (by rw [G.sc]; exact h2) h3 h4) (snd k X c Wh kx G hk ak).pe (snd x X c Wh v G hx ax).pe (noComp_sw hn _ _ _)).imp fun D σ H ⟨ρ, n, F, f, q⟩ => ?_
  refine fE f ((mE (T := T) (X := X) ax) ρ) q fun d n1 v1 F1 H1 p1 z1 q1 => ?_
  rw [hs] at z1
  have z1 : Rp X.K F1 v1 d := z1
  have q1 : (match at_ ρ i with | .dct xs => bnd (evE k ρ) (fun y => bnd (intOf y) fun j => chk (decide (xs.length ≤ 1000)) (Z.ok (Fl.nx (Z.put ρ i (.dct (dctPut xs j d)))))) | _ => (stuck : W Fl)) n1 _ _ := q1
  cases hd : at_ ρ i with
  | dct ds =>
    rw [hd] at q1
    obtain ⟨a, vs, e1, e2, e3, e4⟩ := f.rl.dct i ds hd
    refine ⟨.ref a, e1, fE (f.step p1) ((mE (T := T) (X := X) ak) ρ) q1 fun d2 n2 v2 F2 H2 p2 z2 q2 => ?_⟩
    cases d2 with
    | int j =>
      obtain ⟨j0, q2⟩ := chkd q2
      have f2 := (f.step p1).step p2
      obtain ⟨b, ws, g1, g2, g3, g4⟩ := f2.rl.dct i ds hd
      rw [e1] at g1
      cases g1
      have ev := z2.int
      subst ev
      have hl := g4.length
      refine ⟨a, _, rfl, DPut.k (k := .inl j) g2 (by rw [sizeLine_eq]; omega), q2 σ F2 _ (f2.wrS (s := .dct (dctPut ds j d)) (by rw [hd]; rfl) (by rw [hd]; exact fun z => nomatch z) e1 ⟨_, upd_same, g3, g4.put (z1.mono p2.grow.1)⟩ fun z => nomatch z) (p1.grow.1.trans p2.grow.1)⟩
    | _ => exact q2.elim
  | _ => rw [hd] at q1; exact q1.elim
theorem deckW_inv {i : Nat} {ρ : Ev} {ds : List D} {n : Nat} {Q : Fl → Nat → Prop} {E : Exc → Nat → Prop} (h : deckW i ρ ds n Q E) : ∃ i0 k0, ds = [.int i0, .int k0] ∧ ((0 ≤ k0 ∧ k0 ≤ 1000) ∧ noDk ρ i = true) ∧ Q (.nx (Z.put ρ i .deck)) crd := by
  unfold deckW at h
  split at h
  · rename_i i0 k0
    obtain ⟨hc, hk⟩ := chkb h
    rw [Bool.and_eq_true, decide_eq_true_eq] at hc
    exact ⟨i0, k0, rfl, hc, hk⟩
  · exact h.elim
/-- _law_deck: a new list of three numbers -/
theorem s_mkdeck {i : Nat} {x y : Ex} {t : Expr} {l : List Expr} {p cp spos : Pos} (G : Good T X c Wh) (hdk : c.dkk = true) (ht : setB c i t = true) (hg : glB c.sc "_law_deck" = true) (hlv : 1 ≤ c.lvl) (h2 : l.length = 2) (hk : ckEs c (.cons x (.cons y .nil)) l = true) (a : allE (EntX X T) x ∧ allE (EntX X T) y) :
    PS X (.Assign [t] (.Call (.Name "_law_deck" p) l [] cp) spos) (RM X T c F0 H0 D0 Wh (runS (.mkdeck i x y))) := by
  obtain ⟨z, py, rfl, h1, h2', h3, h4⟩ := G.setB ht
  obtain ⟨g, fd, ps, k1, k2, k3, k4⟩ := (G.dk hdk).ex
  obtain ⟨g1, g2⟩ := G.gl hg
  have aa : allEs (EntX X T) (.cons x (.cons y .nil)) := ⟨a.1, a.2, trivial⟩
  have hA := sndEs (.cons x (.cons y .nil)) X c Wh l false G hk aa fun z => nomatch z
  have hst := (ckEs_len hk).2
  cases l with
  | nil => cases h2
  | cons u r =>
  refine (ps_set G.nd h1 h2' (pe_callD k4 (G.room.mono hlv) g1 k1 k2 k3 .nil (fun σ => L2N.passAt G.takes σ) hA g2 hst (fun z => nomatch z)) (noComp_sw rfl _ _ _) h3).imp fun D σ H ⟨ρ, n, F, f, q⟩ => ?_
  have q : bnd (evs (.cons x (.cons y .nil)) ρ) (fun ds => deckW i ρ ds) n _ _ := q
  refine ⟨ρ, n, F, f.rl, mEs (T := T) (X := X) aa ρ _ _ _ _ _ (fun ds n2 hk vs F2 H2 p2 rz hl => ?_) (kE0_of f) q⟩
  have rw2 := rz.rws p2.rl
  obtain ⟨i0, k0, rfl, hc, hk⟩ := deckW_inv hk
  · cases rw2 with
    | cons r1 r2 =>
      cases r2 with
      | cons r2 r3 =>
        cases r3
        refine ⟨_, _, by rw [r1.int, r2.int]; rfl, fun q0 x0 y0 hq hx hy0 hy1 => ?_⟩
        have f2 : Fra X.K T c.pro F0 H0 D0 ρ n2 F2 σ H2 := f.step p2
        have f3 := f2.cnt (m := crd) h4 hc.2
        have f3' := f3.addO (p := q0) (o := .lst [.int x0, .int y0, .int k0]) hq
        have nd := noDk_at hc.2
        have nos : ∀ j, big (at_ (Z.put ρ i .no) j) = true → σ[j]? ≠ some (some (.ref q0)) := fun j hb e => f3.hs j q0 hb e hq
        have f4 := f3'.putS (s := .deck) (i := i) (a := q0) h4 nos ⟨x0, y0, k0, upd_same, f2.rl.sub.nope hq, hx, hy0, hy1, hc.1.1, by unfold crd; omega⟩ (fun _ j ne e => by rw [at_put, if_neg ne] at e; exact nd j ne e) (f3.h0 q0 hq)
        rw [put_put] at f4
        exact hk _ F2 _ f4 p2.grow.1
theorem s_app {i : Nat} {x : Ex} {o v : Expr} {ap cp sp : Pos} (G : Good T X c Wh) (ho : slotB c i o = true) (hx : ckE c x v = true) (hs : sg x = true) (hv : notStar v = true) (hl : (ap.endLine == cp.line) = true) (ax : allE (EntX X T) x) :
    PS X (.Expr (.Call (.Attribute o "append" ap) [v] [] cp) sp) (RM X T c F0 H0 D0 Wh (runS (.app i x))) := by
  obtain ⟨y, p, rfl, h1, h2, h3, h4⟩ := slotB_eq ho
  have hA : PA X [v] (tCons (RE X T Wh x) tNil) := pa_cons (snd x X c Wh v G hx ax).pe pa_nil (notStar_eq hv _ _)
  have hfew : ((backTo cp (starEach [v] X.env)).all (fun x => !x.1) && (backToKw cp (keywordEach [] X.env)).all (fun x => x.1.isSome) && decide ([v].length + ([] : List Keyword).length + (if ([] : List Keyword).isEmpty then 0 else 1) < 30)) = true := by
    rw [notStar_eq hv]; rfl
  refine (ps_expr (pe_bm PySem.F.plainAttrs_list PySem.F.slot_list_append PySem.F.type_list_append mt_append (pe_var (by rw [G.eN]; exact h1) (by rw [G.sc]; exact h2) h3 h4) hA rfl hfew hl (notStar_eq hv _ _) rfl) rfl).imp fun D σ H ⟨ρ, n, F, f, q⟩ => ?_
  have q : (match at_ ρ i with | .own xs => bnd (evE x ρ) fun d => chk (decide (xs.length < lim)) (Z.ok (Fl.nx (Z.put ρ i (.own (xs ++ [d]))))) | _ => (stuck : W Fl)) n _ _ := q
  cases hd : at_ ρ i with
  | own ds =>
    rw [hd] at q
    obtain ⟨a, vs, e1, e2, e3, e4⟩ := f.rl.own i ds hd
    refine ⟨.ref a, e1, .inl ⟨rfl, vs, SqL.of e2⟩, fE f ((mE (T := T) (X := X) ax) ρ) q fun d n1 v1 F1 H1 p1 z1 q1 => ?_⟩
    rw [hs] at z1
    have z1 : Rp X.K F1 v1 d := z1
    obtain ⟨hz, q1⟩ := chkd q1
    obtain ⟨b, ws, g1, g2, g3, g4⟩ := (f.step p1).rl.own i ds hd
    rw [e1] at g1
    cases g1
    exact ⟨a, ws, v1, rfl, rfl, g2, by rw [g4.length, sizeLine_eq]; exact hz, q1 σ F1 _ ((f.step p1).wr hd e1 (g4.app (.cons z1 .nil))) p1.grow.1⟩
  | _ => rw [hd] at q; exact q.elim
theorem s_move {i j : Nat} {t v : Expr} {sp : Pos} (G : Good T X c Wh) (ht : setB c j t = true) (hv : slotB c i v = true) (hi : i ∉ c.pro) (hij : i ≠ j) :
    PS X (.Assign [t] v sp) (RM X T c F0 H0 D0 Wh (runS (.move j i))) := by
  obtain ⟨y, py, rfl, h1, h2, h3, h4⟩ := G.setB ht
  obtain ⟨u, p, rfl, k1, k2, k3, k4⟩ := slotB_eq hv
  refine (ps_set G.nd h1 h2 (pe_var (by rw [G.eN]; exact k1) (by rw [G.sc]; exact k2) k3 k4) (noComp_sw rfl _ _ _) h3).imp fun D σ H ⟨ρ, n, F, f, q⟩ => ?_
  have q : (match at_ ρ i with
    | .own xs => Z.ok (Fl.nx (Z.put (Z.put ρ i .no) j (.own xs)))
    | .dct xs => Z.ok (Fl.nx (Z.put (Z.put ρ i .no) j (.dct xs)))
    | _ => (stuck : W Fl)) n _ _ := q
  have go : ∀ s, at_ ρ i = s → s ≠ .deck → big s = true → (Z.ok (Fl.nx (Z.put (Z.put ρ i .no) j s)) : W Fl) n (kS X.K T c.pro F0 H0 D0 F D) (kE0 X.K T X.mg c.pro F0 H0 D0 Wh) → ∃ v, σ[i]? = some (some v) ∧ D.nx (σ.set j (some v)) H := fun s hd hs hb q => by
    obtain ⟨a, e1, e2⟩ := f.rl.obS (i := i) (by rw [hd]; exact hb)
    refine ⟨.ref a, e1, q _ F H ?_ (Sub.refl F)⟩
    have fd := f.drop (i := i) (by rw [hd]; exact hs)
    obtain ⟨n0, nd⟩ := f.own_new (i := i) (a := a) (by rw [hd]; exact hb) (by rw [hd]; exact hs) e1
    refine fd.putS h4 (fun k hb' e => ?_) (by rw [hd] at e2; exact e2) (fun z => absurd z hs) n0
    have ne : k ≠ i := fun z => by
      rw [at_put, if_pos z] at hb'
      split at hb' <;> cases hb'
    rw [at_put, if_neg ne] at hb'
    exact f.rl.dist k i a ne hb' (by rw [hd]; exact hb) e e1
  cases hd : at_ ρ i with
  | own ds => rw [hd] at q; exact go _ hd (fun z => nomatch z) rfl q
  | dct ds => rw [hd] at q; exact go _ hd (fun z => nomatch z) rfl q
  | _ => rw [hd] at q; exact q.elim
theorem s_asg {t : Tg} {x : Ex} {tg v : Expr} {sp : Pos} (G : Good T X c Wh) (ht : ckT c t tg = true) (hx : ckE c x v = true) (hs : sg x = true) (hn : noComp v = true) (hv : (sTup v).isNone = true) (htt : (sTup tg).isSome = true) (ax : allE (EntX X T) x) :
    PS X (.Assign [tg] v sp) (RM X T c F0 H0 D0 Wh (runS (.asg t x))) := by
  obtain ⟨ts, hts⟩ := Option.isSome_iff_exists.mp htt
  have hg := g_t (T := T) t tg G ht
  have hpro := ckT_pro t tg ht
  obtain ⟨kk, pp, rfl⟩ := sTup_eq hts
  refine (ps_asg (snd x X c Wh v G hx ax).pe hg (sole_tup _ _ hn) (stores_tup _ hv)).imp fun D σ H ⟨ρ, n, F, f, q⟩ => ?_
  refine fE f ((mE (T := T) (X := X) ax) ρ) q fun d n1 v1 F1 H1 p1 z1 q1 => ?_
  rw [hs] at z1
  obtain ⟨ρ', e, hk⟩ := (det_bindT t d ρ).get q1
  exact ⟨ρ, n1, F1, d, ρ', p1.rl, z1, e, fun σ' r' _ hh => hk σ' F1 H1 ((f.step p1).bind e r' hh hpro) p1.grow.1⟩
theorem s_ret {x : Ex} {v : Expr} {sp : Pos} (G : Good T X c Wh) (hx : ckE c x v = true) (hs : sg x = true) (ax : allE (EntX X T) x) : PS X (.Return (some v) sp) (RM X T c F0 H0 D0 Wh (runS (.ret x))) :=
  (ps_ret (snd x X c Wh v G hx ax).pe).imp fun D σ H ⟨ρ, n, F, f, q⟩ =>
    fE f ((mE (T := T) (X := X) ax) ρ) q fun d n1 v1 F1 H1 p1 z1 q1 => by
      rw [hs] at z1
      exact q1 ρ v1 σ F1 H1 (f.step p1) z1
theorem s_retN {sp : Pos} : PS X (.Return none sp) (RM X T c F0 H0 D0 Wh (runS (.ret .non))) :=
  ps_retN.imp fun D σ H ⟨ρ, n, F, f, q⟩ => q ρ .non σ F H f .non
theorem s_rais {cls m : Str} {p p2 pos rp : Pos} {j : Nat} (G : Good T X c Wh) (hg : glB c.sc cls = true) (hm : cls ∈ c.ex) : PS X (.Raise (some (.Call (.Name cls p) [.Constant (.str m) j p2] [] pos)) none rp) (RM X T c F0 H0 D0 Wh (runS (.rais cls .none))) := by
  obtain ⟨C, h1, h2, h3, h4⟩ := G.exs cls hm
  obtain ⟨g1, g2⟩ := G.gl hg
  exact (L2N.ps_raise G.calm G.takes (L2N.pmk_own PySem.F.excBase_ValueError h2 h1 h3 h4 g1 g2)).imp fun D σ H ⟨ρ, n, F, f, q⟩ => q ρ σ F H (.ref C) none f ⟨C, rfl, h1, rfl⟩
theorem s_expr {x : Ex} {v : Expr} {sp : Pos} (G : Good T X c Wh) (hx : ckE c x v = true) (hc : isCallE v = true) (ax : allE (EntX X T) x) : PS X (.Expr v sp) (RM X T c F0 H0 D0 Wh (runS (.expr x))) := by
  have hn : noComp v = true := by cases v <;> first | rfl | (exact absurd hc Bool.false_ne_true)
  exact (ps_expr (snd x X c Wh v G hx ax).pe (noComp_sw hn _ _ _)).imp fun D σ H ⟨ρ, n, F, f, q⟩ =>
    fE f ((mE (T := T) (X := X) ax) ρ) q fun d n1 v1 F1 H1 p1 z1 q1 => q1 σ F1 H1 (f.step p1) p1.grow.1
theorem s_iff {t : Ex} {a b : Sts} {v : Expr} {l m : List Stmt} {sp : Pos} (mt : ∀ ρ, Mono (evE t ρ)) (ma : ∀ ρ, Mono (runs a ρ)) (mb : ∀ ρ, Mono (runs b ρ)) (ht : PT X v (RT X T Wh t)) (ha : PSs X l (RM X T c F0 H0 D0 Wh (runs a))) (hb : PSs X m (RM X T c F0 H0 D0 Wh (runs b))) :
    PS X (.If v l m sp) (RM X T c F0 H0 D0 Wh (runS (.iff t a b))) :=
  (ps_if ht ha hb).imp fun D σ H ⟨ρ, n, F, f, q⟩ =>
    fT f (mt ρ) q fun k n1 F1 H1 p1 q1 => by
      cases k with
      | true => exact tM_at (f.step p1) p1.grow.1 (ma ρ) q1
      | false => exact tM_at (f.step p1) p1.grow.1 (mb ρ) q1
/-- behind a body -/
theorem kS_then {F F1 : Hp} {D : Ends} {N : L2.St → Hp → Prop} {g : Ev → W Fl} (hN : ∀ ρ' n' σ' F' H', Fra X.K T c.pro F0 H0 D0 ρ' n' F' σ' H' → Sub F1 F' → g ρ' n' (kS X.K T c.pro F0 H0 D0 F D) (kE0 X.K T X.mg c.pro F0 H0 D0 Wh) → N σ' H') :
    ∀ (fl : Fl) (n' : Nat), (match fl with | .nx ρ => g ρ | .rt d => Z.ok (Fl.rt d)) n' (kS X.K T c.pro F0 H0 D0 F D) (kE0 X.K T X.mg c.pro F0 H0 D0 Wh) → kS X.K T c.pro F0 H0 D0 F1 { D with nx := N, ct := N, bk := D.nx } fl n'
  | .nx ρ, n', h => fun σ' F' H' f s => hN ρ n' σ' F' H' f s h
  | .rt d, n', h => h
theorem s_for {t : Tg} {it : It} {b : Sts} {tg i : Expr} {l : List Stmt} {sp : Pos} (G : Good T X c Wh) (hp : PassesOwn (model X.prog X.w) X.A X.env X.xe) (ht : ckT c t tg = true) (mi : ∀ ρ, Mono (evI it ρ)) (mb : ∀ ρ, Mono (runs b ρ)) (hi : PI X tg i (RI X T Wh it)) (hs : ∀ x, foldedSetIterable i X.env x = pure x) (hb : PSs X l (RM X T c F0 H0 D0 Wh (runs b))) :
    PS X (.For tg i l [] sp) (RM X T c F0 H0 D0 Wh (runS (.for_ t it b))) := by
  have hpro := ckT_pro t tg ht
  refine (ps_for hp G.calm hi (g_t (T := T) t tg G ht) hb hs).imp fun D σ H ⟨ρ, n, Fs, f, q⟩ => ?_
  refine fI f (mi ρ) q fun ds n1 J F1 H1 p1 ok q1 => ?_
  refine ⟨fun i m σ H => m = ds.length - i ∧ i ≤ ds.length ∧ ∃ ρ n F, Fra X.K T c.pro F0 H0 D0 ρ n F σ H ∧ Sub F1 F ∧ forW t (fun ρ' => runs b ρ') (ds.drop i) ρ n (kS X.K T c.pro F0 H0 D0 Fs D) (kE0 X.K T X.mg c.pro F0 H0 D0 Wh), ⟨ds.length, by simp, Nat.zero_le _, ρ, n1, F1, f.step p1, Sub.refl _, q1⟩, ?_⟩
  rintro i m σ2 H2 ⟨rfl, hi2, ρ2, n2, F2, f2, s2, w⟩
  by_cases hlt : i < ds.length
  · refine .inr ⟨ok.goes i H2 hlt (s2.trans f2.rl.sub), fun σ' H' => i + 1 ≤ ds.length ∧ ∃ ρ n F, Fra X.K T c.pro F0 H0 D0 ρ n F σ' H' ∧ Sub F1 F ∧ forW t (fun ρ' => runs b ρ') (ds.drop (i + 1)) ρ n (kS X.K T c.pro F0 H0 D0 Fs D) (kE0 X.K T X.mg c.pro F0 H0 D0 Wh), fun σ' H' hh => ⟨ds.length - (i + 1), by omega, rfl, hh⟩, fun x H3 y => ?_⟩
    obtain ⟨F3, nw, rx⟩ := ok.yields i H2 x H3 F2 ds[i] s2 f2.rl.sub (by simp [hlt]) y
    have f3 := f2.step (f2.rl.nw nw)
    rw [List.drop_eq_getElem_cons hlt] at w
    obtain ⟨ρ', e1, w⟩ := (det_bindT t ds[i] ρ2).get w
    refine ⟨ρ2, n2, F3, ds[i], ρ', f3.rl, rx, e1, fun σ' r' _ hh => ⟨ρ', n2, F3, f3.bind e1 r' hh hpro, mb ρ' _ _ _ _ _ (kS_then fun ρ4 n4 σ4 F4 H4 f4 s4 h4 => ⟨by omega, ρ4, n4, F4, f4, (s2.trans nw.f).trans s4, h4⟩) (fun _ _ z => z) w⟩⟩
  · have e : i = ds.length := by omega
    subst e
    rw [List.drop_length] at w
    exact .inl ⟨ok.stops H2 (s2.trans f2.rl.sub), w σ2 F2 H2 f2 (p1.grow.1.trans s2)⟩
theorem s_whl {t : Ex} {b : Sts} {v : Expr} {l : List Stmt} {sp : Pos} (hp : PassesOwn (model X.prog X.w) X.A X.env X.xe) (mt : ∀ ρ, Mono (evE t ρ)) (mb : ∀ ρ, Mono (runs b ρ)) (ht : PT X v (RT X T Wh t)) (hb : PSs X l (RM X T c F0 H0 D0 Wh (runs b))) :
    PS X (.While v l [] sp) (RM X T c F0 H0 D0 Wh (runS (.whl t b))) := by
  refine (ps_while hp ht hb).imp fun D σ H ⟨ρ, n, Fs, f, k0, q⟩ => ?_
  refine ⟨fun m σ H => ∃ ρ n F, Fra X.K T c.pro F0 H0 D0 ρ n F σ H ∧ Sub Fs F ∧ whlN (fun ρ' => bnd (evE t ρ') fun x => asB x) (fun ρ' => runs b ρ') m ρ n (kS X.K T c.pro F0 H0 D0 Fs D) (kE0 X.K T X.mg c.pro F0 H0 D0 Wh), ⟨k0, ρ, n, Fs, f, Sub.refl _, q⟩, ?_⟩
  rintro m σ2 H2 ⟨ρ2, n2, F2, f2, s2, w⟩
  cases m with
  | zero => exact w.elim
  | succ m =>
    have w : bnd (evE t ρ2) (fun d => bnd (asB d) fun k => ife k (thenF (runs b ρ2) fun ρ' => whlN (fun ρ' => bnd (evE t ρ') fun x => asB x) (fun ρ' => runs b ρ') m ρ') (Z.ok (Fl.nx ρ2))) n2 _ _ := w
    refine fT f2 (mt ρ2) w fun k n3 F3 H3 p3 q3 => ?_
    cases k with
    | true =>
      refine ⟨fun σ' H' => ∃ ρ n F, Fra X.K T c.pro F0 H0 D0 ρ n F σ' H' ∧ Sub Fs F ∧ whlN (fun ρ' => bnd (evE t ρ') fun x => asB x) (fun ρ' => runs b ρ') m ρ n (kS X.K T c.pro F0 H0 D0 Fs D) (kE0 X.K T X.mg c.pro F0 H0 D0 Wh), fun σ' H' hh => ⟨m, by omega, hh⟩, ρ2, n3, F3, f2.step p3, mb ρ2 _ _ _ _ _ (kS_then fun ρ4 n4 σ4 F4 H4 f4 s4 h4 => ⟨ρ4, n4, F4, f4, (s2.trans p3.grow.1).trans s4, h4⟩) (fun _ _ z => z) q3⟩
    | false => exact q3 σ2 F3 H3 (f2.step p3) (s2.trans p3.grow.1)
/-- two values -/
def t2V (K : PySem.W.Frag) (T : List (Addr × Str)) (mg : Str → Option Value) (Wh : WX) (k1 k2 : Bool) (x y : Ex) : TA := fun σ H Q => ∃ ρ n F, Rl K T ρ n F σ H ∧ bnd (evE x ρ) (fun d1 => bnd (evE y ρ) fun d2 => Z.ok (d1, d2)) n
  (fun p n' => ∀ v w F' H', Post K T ρ σ F H n' F' H' → Fv K F' H' H k1 v p.1 → Fv K F' H' H k2 w p.2 → (k1 = true → k2 = true → v ≠ w) → Q [v, w] H') (kE K T mg ρ σ F H Wh)
theorem a_two {k1 k2 : Bool} {x y : Ex} {v1 v2 : Expr} (h1 : notStar v1 = true) (h2 : notStar v2 = true) (m1 : ∀ ρ, Mono (evE x ρ)) (m2 : ∀ ρ, Mono (evE y ρ)) (p1 : PE X v1 (RV X T Wh k1 x)) (p2 : PE X v2 (RV X T Wh k2 y)) : PA X [v1, v2] (t2V X.K T X.mg Wh k1 k2 x y) :=
  (pa_cons p1 (pa_cons p2 pa_nil (notStar_eq h2 _ _)) (notStar_eq h1 _ _)).imp fun σ H Q ⟨ρ, n, F, rl, q⟩ => by
    refine ⟨ρ, n, F, rl, m1 ρ _ _ _ _ _ (fun d1 n1 hk v F1 H1 P1 z1 => ⟨ρ, n1, F1, P1.rl, m2 ρ _ _ _ _ _ (fun d2 n2 hk2 w F2 H2 P2 z2 => ?_) (fun xx n2 hk F2 H2 c dd p2 z2 => hk F2 H2 c dd (P1.trans p2) z2) hk⟩) (fun _ _ z => z) q⟩
    have nod : ∀ a, H a = none → ¬ dk ρ σ a := fun a hn ⟨i, e1, e2⟩ => by
      obtain ⟨b, x, y, z, g1, g2, _⟩ := rl.deck i e1
      rw [e2] at g1
      cases g1
      rw [hn] at g2; cases g2
    have z1' := z1.step P2.keep nod P2.grow
    have z2' : Fv X.K F2 H2 H k2 w d2 := by
      cases k2 with
      | false => exact z2
      | true =>
        obtain ⟨a, e1, e3, e0, e4⟩ := z2
        exact ⟨a, e1, P1.keep.nope e3, e0, e4⟩
    refine hk2 v w F2 H2 (P1.trans P2) z1' z2' fun e1 e2 e3 => ?_
    subst e1 e2
    obtain ⟨a, rfl, _, _, g4⟩ := z1
    obtain ⟨⟨u, g4, _⟩, _⟩ := g4.som
    obtain ⟨b, g5, g6, _⟩ := z2
    rw [g5] at e3
    cases e3
    rw [g6] at g4; cases g4
theorem Fv.add {K : PySem.W.Frag} {F H Hs : Hp} {k : Bool} {v : V} {d : D} {p : Addr} {o : HO} (h : Fv K F H Hs k v d) (hp : H p = none) : Fv K F (upd H p o) Hs k v d := by
  cases k with
  | false => exact h
  | true =>
    obtain ⟨a, e1, e3, e0, e4⟩ := h
    exact ⟨a, e1, e3, e0, e4.keep (fun u hu _ => by rw [upd_ne (ne_of_none hu hp)]; exact hu) e4.som.2 (.refl F)⟩
theorem par_names {t1 t2 : Pg} {x y : Ex} {x1 x2 v1 v2 : Expr} {kk k2 : Nat} {tp vp sp : Pos} (G : Good T X c Wh) (n1 : pgN t1 = true) (n2 : pgN t2 = true) (g1 : setB c (pgI t1) x1 = true) (g2 : setB c (pgI t2) x2 = true) (s1 : notStar x1 = true) (s2 : notStar x2 = true)
    (k1 : ckK c (pgK t1) x v1 = true) (k2' : ckK c (pgK t2) y v2 = true) (w1 : notStar v1 = true) (w2 : notStar v2 = true) (hok : pairOk c t1 t2 x1 x2 v1 v2 = true) (ax : allE (EntX X T) x) (ay : allE (EntX X T) y) :
    PS X (.Assign [.Tuple [x1, x2] kk tp] (.Tuple [v1, v2] k2 vp) sp) (RM X T c F0 H0 D0 Wh (runS (.par (.cons t1 (.cons t2 .nil)) (.cons x (.cons y .nil))))) := by
  obtain ⟨a1, q1, rfl, h1, h2, h3, h4⟩ := G.setB g1
  obtain ⟨a2, q2, rfl, j1, j2, j3, j4⟩ := G.setB g2
  have hA := a_two (T := T) w1 w2 (mE (T := T) (X := X) ax) (mE (T := T) (X := X) ay) (sndK G k1 ax) (sndK G k2' ay)
  -- both ways of storing
  have base : PS X (.Assign [.Tuple [.Name a1 q1, .Name a2 q2] kk tp] (.Tuple [v1, v2] k2 vp) sp) (fun D σ H => t2V X.K T X.mg Wh (pgK t1) (pgK t2) x y σ H fun vs H1 => ∃ v w, vs = [v, w] ∧ D.nx ((σ.set (pgI t1) (some v)).set (pgI t2) (some w)) H1 ∧ ∀ p, H1 p = none → D.nx ((σ.set (pgI t1) (some v)).set (pgI t2) (some w)) (upd H1 p (.tup [v, w]))) := by
    refine ⟨fun pins s σ H D I q => ?_⟩
    unfold pairOk at hok
    have kf : X.env.scope.kind = .function := I.ok.kind
    rw [← G.sc] at hok
    split at hok
    · rename_i hq
      have hw := stores_pair (k := kk) (k2 := k2) (p := tp) (p2 := vp) kf w1 w2 hq
      have hpg : PG X (.Tuple [.Name a1 q1, .Name a2 q2] kk tp) (gTup X.K 2 (gCons (gName (pgI t1)) (gCons (gName (pgI t2)) gNil))) := pg_tup G.calm (pgs_cons (pg_name G.nd h1 h2 h3) (pgs_cons (pg_name G.nd j1 j2 j3) pgs_nil))
      refine (ps_asg (pe_tup hA) hpg (by unfold swapsWithSole; rfl) hw).run pins s σ H D I ?_
      obtain ⟨ρ, n, F, rl, q⟩ := q
      refine ⟨ρ, n, F, rl, ((mE (T := T) (X := X) ax) ρ).bnd (fun _ => ((mE (T := T) (X := X) ay) ρ).bnd fun _ => .ok _) _ _ _ _ _ (fun p n' hk v w F' H' P z1 z2 z3 => ?_) (fun _ _ z => z) q⟩
      obtain ⟨v', w', e, _, k4⟩ := hk v w F' H' P z1 z2 z3
      cases e
      exact ⟨by rw [sizeLine_eq]; show 2 ≤ 16777216; decide, fun p hp => ⟨p, [v, w], rfl, SqT.of upd_same, rfl, v, [w], rfl, w, [], rfl, rfl, k4 p hp⟩⟩
    · rename_i l hq
      have hw := stores_pair (k := kk) (k2 := k2) (p := tp) (p2 := vp) kf w1 w2 hq
      have hok : (decide (l = [a1, a2]) && pgN t1 && pgN t2 && !(pgI t1 == pgI t2) && (match X.env.scope.names.lookup a1, X.env.scope.names.lookup a2 with | some .local, some .local => true | _, _ => false)) = true := hok
      simp only [Bool.and_eq_true, decide_eq_true_eq, Bool.not_eq_true', beq_eq_false_iff_ne] at hok
      obtain ⟨⟨⟨⟨e1, _⟩, _⟩, e2⟩, e3⟩ := hok
      subst e1
      split at e3
      · rename_i l1 l2
        refine (ps_par G.calm G.nd h1 j1 e2 l1 l2 hA hw (by unfold swapsWithSole; rfl)).run pins s σ H D I ?_
        obtain ⟨ρ, n, F, rl, q⟩ := q
        refine ⟨ρ, n, F, rl, ((mE (T := T) (X := X) ax) ρ).bnd (fun _ => ((mE (T := T) (X := X) ay) ρ).bnd fun _ => .ok _) _ _ _ _ _ (fun p n' hk v w F' H' P z1 z2 z3 => ?_) (fun _ _ z => z) q⟩
        obtain ⟨v', w', e, k4, _⟩ := hk v w F' H' P z1 z2 z3
        exact ⟨v', w', e, k4⟩
      · cases e3
    · cases hok
  refine base.imp fun D σ H ⟨ρ, n, F, f, q⟩ => ?_
  have q : bnd (evE x ρ) (fun d1 => bnd (evE y ρ) fun d2 => bnd (assP (.cons t1 (.cons t2 .nil)) [d1, d2] ρ) fun ρ' => Z.ok (Fl.nx ρ')) n (kS X.K T c.pro F0 H0 D0 F D) (kE0 X.K T X.mg c.pro F0 H0 D0 Wh) := q
  have q : bnd (bnd (evE x ρ) (fun d1 => bnd (evE y ρ) fun d2 => Z.ok (d1, d2))) (fun p => bnd (assP (.cons t1 (.cons t2 .nil)) [p.1, p.2] ρ) fun ρ' => Z.ok (Fl.nx ρ')) n (kS X.K T c.pro F0 H0 D0 F D) (kE0 X.K T X.mg c.pro F0 H0 D0 Wh) := q
  refine ⟨ρ, n, F, f.rl, ((mE (T := T) (X := X) ax) ρ).bnd (fun _ => ((mE (T := T) (X := X) ay) ρ).bnd fun _ => .ok _) _ _ _ _ _ (fun p n' hk v w F' H' P z1 z2 z3 => ?_) (kE0_of f) q⟩
  obtain ⟨d1, d2⟩ := p
  have hk : (Z.ok (Fl.nx (Z.put (Z.put ρ (pgI t1) (slV (pgK t1) d1)) (pgI t2) (slV (pgK t2) d2))) : W Fl) n' (kS X.K T c.pro F0 H0 D0 F D) (kE0 X.K T X.mg c.pro F0 H0 D0 Wh) := by
    cases t1 with
    | ix _ _ => cases n1
    | nm i =>
      cases t2 with
      | ix _ _ => cases n2
      | nm j => exact hk
      | ow j => exact (chkb hk).2
    | ow i =>
      cases t2 with
      | ix _ _ => cases n2
      | nm j => exact (chkb hk).2
      | ow j => exact (chkb (chkb hk).2).2
  have fin : ∀ {H2 : Hp}, Post X.K T ρ σ F H n' F' H2 → Fv X.K F' H2 H (pgK t1) v d1 → Fv X.K F' H2 H (pgK t2) w d2 → D.nx ((σ.set (pgI t1) (some v)).set (pgI t2) (some w)) H2 := fun {H2} P z1 z2 => by
    have f1 := (f.step P).putV h4 (z1.fresh f.hs) f.h0 z1
    refine hk _ F' H2 (f1.putV j4 (fun e2 j hb e => ?_) f.h0 z2) P.grow.1
    by_cases ne : j = pgI t1
    · subst ne
      rw [at_put, if_pos rfl] at hb
      by_cases l : pgI t1 < ρ.length
      · rw [List.getElem?_set_self (by rw [← f.rl.len]; exact l)] at e
        rw [if_pos l] at hb
        cases e
        refine z3 ?_ e2 rfl
        cases hk1 : pgK t1 with
        | true => rfl
        | false => rw [hk1] at hb; cases hb
      · rw [if_neg l] at hb; cases hb
    · rw [at_put, if_neg ne] at hb
      rw [List.getElem?_set_ne (Ne.symm ne)] at e
      exact z2.fresh f.hs e2 j hb e
  exact ⟨v, w, rfl, fin P z1 z2, fun p hp => fin (P.add hp) (z1.add hp) (z2.add hp)⟩
theorem par_ix {i j : Nat} {k x y : Ex} {o kx x2 v1 v2 : Expr} {kk k2 : Nat} {op tp vp sp : Pos} (G : Good T X c Wh) (ho : slotB c i o = true) (hk : ckE c k kx = true) (hi : (sSlice kx).isNone = true) (g2 : setB c j x2 = true) (s2 : notStar x2 = true)
    (k1 : ckK c false x v1 = true) (k2' : ckK c false y v2 = true) (w1 : notStar v1 = true) (w2 : notStar v2 = true) (hok : pairOk c (.ix i k) (.nm j) (.Subscript o kx op) x2 v1 v2 = true) (ak : allE (EntX X T) k) (ax : allE (EntX X T) x) (ay : allE (EntX X T) y) :
    PS X (.Assign [.Tuple [.Subscript o kx op, x2] kk tp] (.Tuple [v1, v2] k2 vp) sp) (RM X T c F0 H0 D0 Wh (runS (.par (.cons (.ix i k) (.cons (.nm j) .nil)) (.cons x (.cons y .nil))))) := by
  obtain ⟨a2, q2, rfl, j1, j2, j3, j4⟩ := G.setB g2
  obtain ⟨u, p, rfl, h1, h2, h3, h4⟩ := slotB_eq ho
  have hA := a_two (T := T) w1 w2 (mE (T := T) (X := X) ax) (mE (T := T) (X := X) ay) (sndK G k1 ax) (sndK G k2' ay)
  have hg : PG X (.Subscript (.Name u p) kx op) (gSub (tVar i) (RE X T Wh k) rSetL) := pg_sub (pe_var (by rw [G.eN]; exact h1) (by rw [G.sc]; exact h2) h3 h4) (snd k X c Wh kx G hk ak).pe set_list (by intro u; cases kx <;> first | rfl | (exact absurd hi Bool.false_ne_true))
  refine ⟨fun pins s σ H D I q => ?_⟩
  have kf : X.env.scope.kind = .function := I.ok.kind
  unfold pairOk at hok
  rw [← G.sc] at hok
  have hw : swappedStores [.Tuple [.Subscript (.Name u p) kx op, .Name a2 q2] kk tp] (.Tuple [v1, v2] k2 vp) X.env = pure none := by
    split at hok
    · rename_i hq
      exact stores_pair (k := kk) (k2 := k2) (p := tp) (p2 := vp) kf w1 w2 hq
    · cases hok
    · cases hok
  have hpg : PG X (.Tuple [.Subscript (.Name u p) kx op, .Name a2 q2] kk tp) (gTup X.K 2 (gCons (gSub (tVar i) (RE X T Wh k) rSetL) (gCons (gName j) gNil))) := pg_tup G.calm (pgs_cons hg (pgs_cons (pg_name G.nd j1 j2 j3) pgs_nil))
  refine (ps_asg (pe_tup hA) hpg (by unfold swapsWithSole; rfl) hw).run pins s σ H D I ?_
  obtain ⟨ρ, n, F, f, q⟩ := q
  have q : bnd (evE x ρ) (fun d1 => bnd (evE y ρ) fun d2 => bnd (assP (.cons (.ix i k) (.cons (.nm j) .nil)) [d1, d2] ρ) fun ρ' => Z.ok (Fl.nx ρ')) n (kS X.K T c.pro F0 H0 D0 F D) (kE0 X.K T X.mg c.pro F0 H0 D0 Wh) := q
  have q : bnd (bnd (evE x ρ) (fun d1 => bnd (evE y ρ) fun d2 => Z.ok (d1, d2))) (fun p => bnd (assP (.cons (.ix i k) (.cons (.nm j) .nil)) [p.1, p.2] ρ) fun ρ' => Z.ok (Fl.nx ρ')) n (kS X.K T c.pro F0 H0 D0 F D) (kE0 X.K T X.mg c.pro F0 H0 D0 Wh) := q
  refine ⟨ρ, n, F, f.rl, ((mE (T := T) (X := X) ax) ρ).bnd (fun _ => ((mE (T := T) (X := X) ay) ρ).bnd fun _ => .ok _) _ _ _ _ _ (fun pp n' hk v w F' H' P z1 z2 _ => ?_) (kE0_of f) q⟩
  obtain ⟨d1, d2⟩ := pp
  refine ⟨by rw [sizeLine_eq]; show 2 ≤ 16777216; decide, fun a hp => ⟨a, [v, w], rfl, SqT.of upd_same, rfl, v, [w], rfl, ?_⟩⟩
  have f2 := f.step (P.add (o := .tup [v, w]) hp)
  have hk : bnd (match at_ ρ i with
      | .own xs => bnd (evE k ρ) fun y => bnd (intOf y) fun jj => chk (decide (0 ≤ jj ∧ jj < xs.length)) (Z.ok (Z.put (Z.put ρ i (.own (xs.set jj.toNat d1))) j (.val d2)))
      | _ => (stuck : W Ev)) (fun ρ' => Z.ok (Fl.nx ρ')) n' (kS X.K T c.pro F0 H0 D0 F D) (kE0 X.K T X.mg c.pro F0 H0 D0 Wh) := hk
  cases hd : at_ ρ i with
  | own ds =>
    rw [hd] at hk
    obtain ⟨b, vs, e1, e2, e3, e4⟩ := f2.rl.own i ds hd
    have hk : bnd (evE k ρ) (fun y => bnd (intOf y) fun jj => bnd (chk (decide (0 ≤ jj ∧ jj < ds.length)) (Z.ok (Z.put (Z.put ρ i (.own (ds.set jj.toNat d1))) j (.val d2)))) (fun ρ' => Z.ok (Fl.nx ρ'))) n' (kS X.K T c.pro F0 H0 D0 F D) (kE0 X.K T X.mg c.pro F0 H0 D0 Wh) := hk
    refine ⟨.ref b, e1, fE f2 ((mE (T := T) (X := X) ak) ρ) hk fun d3 n3 v3 F3 H3 p3 z3 q3 => ?_⟩
    cases d3 with
    | int jj =>
      have q3 : bnd (chk (decide (0 ≤ jj ∧ jj < ds.length)) (Z.ok (Z.put (Z.put ρ i (.own (ds.set jj.toNat d1))) j (.val d2)))) (fun ρ' => Z.ok (Fl.nx ρ')) n3 (kS X.K T c.pro F0 H0 D0 F D) (kE0 X.K T X.mg c.pro F0 H0 D0 Wh) := q3
      rw [bnd_chk] at q3
      obtain ⟨⟨j0, jl⟩, q3⟩ := chkd q3
      have f3 := f2.step p3
      obtain ⟨b', ws, m1, m2, m3, m4⟩ := f3.rl.own i ds hd
      rw [e1] at m1
      cases m1
      refine ⟨b, ws, jj, jj.toNat, rfl, z3.int, m2, ?_, w, [], rfl, rfl, ?_⟩
      · have hl := m4.length
        unfold ixN
        rw [if_pos j0, if_pos (by omega)]
      · have f4 := f3.wr hd e1 (Rps.set (Rp.mono p3.grow.1 z1) jj.toNat m4)
        exact q3 _ F3 _ (f4.put j4 (Rp.mono p3.grow.1 z2)) (P.grow.1.trans p3.grow.1)
    | _ => exact q3.elim
  | _ => rw [hd] at hk; exact hk.elim

mutual
theorem allS_mono : ∀ (s : St) (P : Fn → Prop), (∀ f, P f → MonoF f) → allS P s → allS MonoF s
  | .set _ e, P, h, a => monoOf e P h a
  | .setO _ e, P, h, a => monoOf e P h a
  | .mkdeck _ x y, P, h, a => ⟨monoOf x P h a.1, monoOf y P h a.2⟩
  | .asg _ e, P, h, a => monoOf e P h a
  | .par ts es, P, h, a => ⟨allPs_mono ts P h a.1, monosOf es P h a.2⟩
  | .aug _ _ e, P, h, a => monoOf e P h a
  | .setix _ k e, P, h, a => ⟨monoOf k P h a.1, monoOf e P h a.2⟩
  | .app _ e, P, h, a => monoOf e P h a
  | .dput _ k e, P, h, a => ⟨monoOf k P h a.1, monoOf e P h a.2⟩
  | .iff t x y, P, h, a => ⟨monoOf t P h a.1, allSs_mono x P h a.2.1, allSs_mono y P h a.2.2⟩
  | .for_ _ it b, P, h, a => ⟨monoIOf it P h a.1, allSs_mono b P h a.2⟩
  | .whl t b, P, h, a => ⟨monoOf t P h a.1, allSs_mono b P h a.2⟩
  | .ret e, P, h, a => monoOf e P h a
  | .rais _ o, P, h, a => monoOOf o P h a
  | .expr e, P, h, a => monoOf e P h a
  | .move _ _, _, _, _ => trivial
  | .freeze _, _, _, _ => trivial
theorem allSs_mono : ∀ (s : Sts) (P : Fn → Prop), (∀ f, P f → MonoF f) → allSs P s → allSs MonoF s
  | .nil, _, _, _ => trivial
  | .cons s r, P, h, a => ⟨allS_mono s P h a.1, allSs_mono r P h a.2⟩
theorem allPs_mono : ∀ (s : Pgs) (P : Fn → Prop), (∀ f, P f → MonoF f) → allPs P s → allPs MonoF s
  | .nil, _, _, _ => trivial
  | .cons (.ix _ k) r, P, h, a => ⟨monoOf k P h a.1, allPs_mono r P h a.2⟩
  | .cons (.nm _) r, P, h, a => ⟨trivial, allPs_mono r P h a.2⟩
  | .cons (.ow _) r, P, h, a => ⟨trivial, allPs_mono r P h a.2⟩
end
theorem mSs {X : Cx} {s : Sts} (a : allSs (EntX X T) s) : ∀ ρ, Mono (runs s ρ) := fun ρ => monoSs s ρ (allSs_mono s _ (fun _ h => h.mono) a)
theorem mS {X : Cx} {s : St} (a : allS (EntX X T) s) : ∀ ρ, Mono (runS s ρ) := fun ρ => monoS s ρ (allS_mono s _ (fun _ h => h.mono) a)
end
section
variable {T : List (Addr × Str)} {F0 H0 : Hp} {D0 : Addr → Prop}
mutual
theorem sndS : ∀ (s : St) (X : Cx) (c : CkC) (Wh : WX) (st : Stmt), Good T X c Wh → PassesOwn (model X.prog X.w) X.A X.env X.xe → ckS c s st = true → allS (EntX X T) s → PS X st (RM X T c F0 H0 D0 Wh (runS s))
  | .set i e, X, c, Wh, st, G, hp, h, a => by
    unfold ckS at h
    split at h
    · rename_i t v ht
      obtain ⟨p, rfl⟩ := tAssign_eq ht
      rw [Bool.and_eq_true] at h
      exact s_set (k := false) G h.1 h.2 a (fun z => nomatch z) (fun d ρ => Z.ok (.nx (Z.put ρ i (.val d)))) fun d ρ n D E h => h
    · cases h
  | .setO i e, X, c, Wh, st, G, hp, h, a => by
    unfold ckS at h
    split at h
    · rename_i t v ht
      obtain ⟨p, rfl⟩ := tAssign_eq ht
      simp only [Bool.and_eq_true] at h
      exact s_set (k := true) G h.1.1 h.1.2 a (fun _ => h.2) (fun d ρ => chk (!isNoS (slO d)) (Z.ok (.nx (Z.put ρ i (slO d))))) fun d ρ n D E h => (chkb h).2
    · cases h
  | .move j i, X, c, Wh, st, G, hp, h, a => by
    unfold ckS at h
    split at h
    · rename_i t v ht
      obtain ⟨p, rfl⟩ := tAssign_eq ht
      simp only [Bool.and_eq_true, Bool.not_eq_true', beq_eq_false_iff_ne] at h
      obtain ⟨⟨⟨h1, h2⟩, h3⟩, h4⟩ := h
      exact s_move G h1 h2 (fun m => by rw [List.contains_iff_mem.mpr m] at h3; cases h3) h4
    · cases h
  | .freeze _, X, c, Wh, st, G, hp, h, a => by cases h
  | .mkdeck i x y, X, c, Wh, st, G, hp, h, a => by
    unfold ckS at h
    split at h
    · rename_i t v ht
      obtain ⟨p, rfl⟩ := tAssign_eq ht
      split at h
      · rename_i f l hl
        obtain ⟨p1, p2, rfl⟩ := sCall_eq hl
        simp only [Bool.and_eq_true, decide_eq_true_eq] at h
        obtain ⟨⟨⟨⟨⟨⟨k1, k2⟩, k3⟩, k4⟩, k5⟩, k6⟩, k7⟩ := h
        have ef := eq_of_beq k3
        subst ef
        exact s_mkdeck G k1 k2 k4 k5 k6 k7 a
      · cases h
    · cases h
  | .asg t e, X, c, Wh, st, G, hp, h, a => by
    unfold ckS at h
    split at h
    · rename_i tg v ht
      obtain ⟨p, rfl⟩ := tAssign_eq ht
      simp only [Bool.and_eq_true] at h
      obtain ⟨⟨⟨⟨⟨h1, h2⟩, h3⟩, h4⟩, h5⟩, h6⟩ := h
      exact s_asg G h1 h2 h3 h4 h5 h6 a
    · cases h
  | .par ts es, X, c, Wh, st, G, hp, h, a => by
    cases ts with
    | nil => cases h
    | cons t1 ts =>
      cases ts with
      | nil => cases h
      | cons t2 ts =>
        cases ts with
        | cons _ _ => cases h
        | nil =>
          cases es with
          | nil => cases h
          | cons e1 es =>
            cases es with
            | nil => cases h
            | cons e2 es =>
              cases es with
              | cons _ _ => cases h
              | nil =>
                unfold ckS at h
                split at h
                · rename_i tg v ht
                  obtain ⟨p, rfl⟩ := tAssign_eq ht
                  split at h
                  · rename_i x1 x2 v1 v2 hx hv
                    obtain ⟨kk, tp, rfl⟩ := sTup_eq hx
                    obtain ⟨k2, vp, rfl⟩ := sTup_eq hv
                    simp only [Bool.and_eq_true] at h
                    obtain ⟨⟨⟨⟨⟨⟨⟨⟨⟨h1, h2⟩, h3⟩, h4⟩, h5⟩, h6⟩, h7⟩, h8⟩, h9⟩, h10⟩ := h
                    obtain ⟨ap, ax, ay, _⟩ := a
                    cases t1 with
                    | nm i =>
                      cases t2 with
                      | nm j => exact par_names G rfl rfl h1 h2 h3 h4 h5 h6 h7 h8 h9 ax ay
                      | ow j => exact par_names G rfl rfl h1 h2 h3 h4 h5 h6 h7 h8 h9 ax ay
                      | ix j k => exact absurd h10 Bool.false_ne_true
                    | ow i =>
                      cases t2 with
                      | nm j => exact par_names G rfl rfl h1 h2 h3 h4 h5 h6 h7 h8 h9 ax ay
                      | ow j => exact par_names G rfl rfl h1 h2 h3 h4 h5 h6 h7 h8 h9 ax ay
                      | ix j k => exact absurd h10 Bool.false_ne_true
                    | ix i k =>
                      cases t2 with
                      | nm j =>
                        have hq : (match sSub x1 with | some (o, kx) => slotB c i o && ckE c k kx && (sSlice kx).isNone | none => false) = true := h1
                        cases ho : sSub x1 with
                        | none => rw [ho] at hq; cases hq
                        | some pr =>
                          obtain ⟨o, kx⟩ := pr
                          rw [ho] at hq
                          have hq : (slotB c i o && ckE c k kx && (sSlice kx).isNone) = true := hq
                          obtain ⟨op, rfl⟩ := sSub_eq ho
                          rw [Bool.and_eq_true, Bool.and_eq_true] at hq
                          exact par_ix G hq.1.1 hq.1.2 hq.2 h2 h4 h5 h6 h7 h8 h9 ap.1 ax ay
                      | ow j => exact absurd h10 Bool.false_ne_true
                      | ix j k => exact absurd h10 Bool.false_ne_true
                  · cases h
                · cases h
  | .aug _ _ _, X, c, Wh, st, G, hp, h, a => by cases h
  | .setix i k e, X, c, Wh, st, G, hp, h, a => by
    unfold ckS at h
    split at h
    · rename_i tg v ht
      obtain ⟨p, rfl⟩ := tAssign_eq ht
      split at h
      · rename_i o kx ho
        obtain ⟨op, rfl⟩ := sSub_eq ho
        simp only [Bool.and_eq_true] at h
        obtain ⟨⟨⟨⟨⟨h1, h2⟩, h3⟩, h4⟩, h5⟩, h6⟩ := h
        exact s_setix G h1 h2 h3 h4 h5 h6 a.1 a.2
      · cases h
    · cases h
  | .app i e, X, c, Wh, st, G, hp, h, a => by
    unfold ckS at h
    split at h
    · rename_i y hy
      obtain ⟨p, rfl⟩ := tExprs_eq hy
      split at h
      · rename_i o m x hm
        obtain ⟨ap, cp, rfl⟩ := sMeth_eq hm
        simp only [Bool.and_eq_true] at h
        obtain ⟨⟨⟨⟨⟨h1, h2⟩, h3⟩, h4⟩, h5⟩, h6⟩ := h
        have em := eq_of_beq h1
        subst em
        exact s_app G h2 h3 h4 h5 h6 a
      · cases h
    · cases h
  | .dput i k x, X, c, Wh, st, G, hp, h, a => by
    unfold ckS at h
    split at h
    · rename_i tg v ht
      obtain ⟨p, rfl⟩ := tAssign_eq ht
      split at h
      · rename_i o kx hsb
        obtain ⟨p1, rfl⟩ := sSub_eq hsb
        simp only [Bool.and_eq_true] at h
        obtain ⟨⟨⟨⟨⟨k1, k2⟩, k3⟩, k4⟩, k5⟩, k6⟩ := h
        exact s_dput G k1 k2 k3 k4 k5 k6 a.1 a.2
      · cases h
    · cases h
  | .iff t x y, X, c, Wh, st, G, hp, h, a => by
    unfold ckS at h
    split at h
    · rename_i v l m hv
      obtain ⟨p, rfl⟩ := tIfs_eq hv
      simp only [Bool.and_eq_true] at h
      exact s_iff (mE (T := T) (X := X) a.1) (mSs (T := T) (X := X) a.2.1) (mSs (T := T) (X := X) a.2.2) (snd t X c Wh v G h.1.1 a.1).pt (sndSs x X c Wh l G hp h.1.2 a.2.1) (sndSs y X c Wh m G hp h.2 a.2.2)
    · cases h
  | .for_ t it b, X, c, Wh, st, G, hp, h, a => by
    unfold ckS at h
    split at h
    · rename_i tg i l hv
      obtain ⟨p, rfl⟩ := tFors_eq hv
      simp only [Bool.and_eq_true] at h
      obtain ⟨i1, i2⟩ := sndI it X c Wh tg i G h.1.2 a.1
      exact s_for G hp h.1.1 (mI (T := T) (X := X) a.1) (mSs (T := T) (X := X) a.2) i1 (i2 X.env) (sndSs b X c Wh l G hp h.2 a.2)
    · cases h
  | .whl t b, X, c, Wh, st, G, hp, h, a => by
    unfold ckS at h
    split at h
    · rename_i v l hv
      obtain ⟨p, rfl⟩ := tWhls_eq hv
      simp only [Bool.and_eq_true] at h
      exact s_whl hp (mE (T := T) (X := X) a.1) (mSs (T := T) (X := X) a.2) (snd t X c Wh v G h.1 a.1).pt (sndSs b X c Wh l G hp h.2 a.2)
    · cases h
  | .ret e, X, c, Wh, st, G, hp, h, a => by
    unfold ckS at h
    split at h
    · rename_i x hx
      obtain ⟨p, rfl⟩ := tRets_eq hx
      rw [Bool.and_eq_true] at h
      exact s_ret G h.1 h.2 a
    · rename_i hx
      obtain ⟨p, rfl⟩ := tRets_eq hx
      cases e <;> first | (exact s_retN) | (exact absurd h Bool.false_ne_true)
    · cases h
  | .rais cls o, X, c, Wh, st, G, hp, h, a => by
    cases o with
    | some _ => cases h
    | none =>
      unfold ckS at h
      simp only at h
      split at h
      · rename_i x hx
        obtain ⟨p, rfl⟩ := tRaiss_eq hx
        split at h
        · rename_i f m hm
          obtain ⟨p1, p2, rfl⟩ := sCall_eq hm
          simp only [Bool.and_eq_true] at h
          obtain ⟨⟨⟨h1, h2⟩, h3⟩, h4⟩ := h
          have ef := eq_of_beq h1
          subst ef
          split at h4
          · rename_i z hz
            obtain ⟨k, p3, rfl⟩ := sConst_eq hz
            exact s_rais G h2 (List.contains_iff_mem.mp h3)
          · cases h4
        · cases h
      · cases h
  | .expr e, X, c, Wh, st, G, hp, h, a => by
    unfold ckS at h
    split at h
    · rename_i x hx
      obtain ⟨p, rfl⟩ := tExprs_eq hx
      rw [Bool.and_eq_true] at h
      exact s_expr G h.1 h.2 a
    · cases h
theorem sndSs : ∀ (s : Sts) (X : Cx) (c : CkC) (Wh : WX) (l : List Stmt), Good T X c Wh → PassesOwn (model X.prog X.w) X.A X.env X.xe → ckSs c s l = true → allSs (EntX X T) s → PSs X l (RM X T c F0 H0 D0 Wh (runs s))
  | .nil, X, c, Wh, l, G, hp, h, a => by
    cases l with
    | nil => exact pss_nil.imp fun D σ H ⟨ρ, n, F, f, q⟩ => q σ F H f (Sub.refl F)
    | cons _ _ => cases h
  | .cons s r, X, c, Wh, l, G, hp, h, a => by
    unfold ckSs at h
    cases hf : isFrz s with
    | true =>
      rw [hf] at h
      have ih := sndSs r X c Wh l G hp h a.2
      cases s with
      | freeze i =>
        refine ih.imp fun D σ H ⟨ρ, n, F, f, q⟩ => ?_
        have q : thenF (match at_ ρ i with | .own xs => Z.ok (.nx (Z.put ρ i (.val (.lst xs)))) | _ => stuck) (fun ρ' => runs r ρ') n _ _ := q
        cases hd : at_ ρ i with
        | own ds =>
          rw [hd] at q
          obtain ⟨F', f', s'⟩ := f.frz hd
          exact tM_at f' s' (mSs (T := T) (X := X) a.2 _) q
        | _ => rw [hd] at q; exact q.elim
      | _ => cases hf
    | false =>
      rw [hf] at h
      cases l with
      | nil => cases h
      | cons st l =>
        have h : (ckS c s st && ckSs c r l) = true := h
        rw [Bool.and_eq_true] at h
        refine (pss_cons (sndS s X c Wh st G hp h.1 a.1) (sndSs r X c Wh l G hp h.2 a.2)).imp fun D σ H ⟨ρ, n, F, f, q⟩ => ?_
        refine ⟨ρ, n, F, f, mS (T := T) (X := X) a.1 ρ _ _ _ _ _ (fun fl n' hk => ?_) (fun _ _ z => z) q⟩
        cases fl with
        | nx ρ' => exact fun σ' F' H' f' s' => tM_at f' s' (mSs (T := T) (X := X) a.2 ρ') hk
        | rt d => exact hk
end
end
end Z
end
-- Z20
section
set_option Elab.async false
set_option linter.all false
set_option maxRecDepth 100000
set_option maxHeartbeats 1000000
/-! Z20: a def keeps its tree's promise. -/
namespace Z
open PySem PySem.Spec PyProof.Rows L2

theorem at_app : ∀ (ss t : Ev) (i : Nat), at_ (ss ++ t) i = if i < ss.length then at_ ss i else at_ t (i - ss.length)
  | [], t, i => by simp
  | s :: r, t, 0 => by simp [at_]
  | s :: r, t, i + 1 => by
    show at_ (r ++ t) i = _
    rw [at_app r t i]
    simp [at_]
theorem at_rep : ∀ (m i : Nat), at_ (List.replicate m Sl.no) i = .no
  | 0, i => rfl
  | m + 1, 0 => rfl
  | m + 1, i + 1 => by rw [List.replicate_succ]; exact at_rep m i
theorem at_vals : ∀ (ds : List D) (i : Nat), at_ (ds.map Sl.val) i = match ds[i]? with | some d => .val d | none => .no
  | [], i => rfl
  | d :: r, 0 => rfl
  | d :: r, i + 1 => by
    show at_ (r.map Sl.val) i = _
    rw [at_vals r i]
    simp
section
variable {K : PySem.W.Frag} {T : List (Addr × Str)} {mg : Str → Option Value} {pr : List Nat} {F0 H0 : Hp} {ρ ρ' : Ev} {σ σ' σ0 : L2.St} {F F1 F' H H1 H' : Hp} {n n0 n' : Nat} {ss : List Sl} {vs dvs : List V} {ds : List D}
/-- slots without a word behind -/
theorem Rl.ext (r : Rl K T ρ n F σ H) (m : Nat) : Rl K T (ρ ++ List.replicate m .no) n F (σ ++ List.replicate m none) H := by
  have ne : ∀ {i : Nat}, at_ (ρ ++ List.replicate m .no) i ≠ .no → at_ (ρ ++ List.replicate m .no) i = at_ ρ i ∧ i < ρ.length := fun {i} h => by
    rw [at_app] at h ⊢
    by_cases l : i < ρ.length
    · rw [if_pos l]; exact ⟨rfl, l⟩
    · rw [if_neg l, at_rep] at h; exact absurd rfl h
  have get : ∀ {i : Nat}, i < ρ.length → (σ ++ List.replicate m (none : Option V))[i]? = σ[i]? := fun {i} l => List.getElem?_append_left (by rw [← r.len]; exact l)
  have bne : ∀ {i : Nat}, big (at_ (ρ ++ List.replicate m .no) i) = true → at_ (ρ ++ List.replicate m .no) i ≠ .no := fun {i} h e => by rw [e] at h; cases h
  refine ⟨r.sub, by simp [r.len], fun i d e => ?_, fun i d e => ?_, fun i d e => ?_, fun i e => ?_, fun i j a hij h1 h2 e1 e2 => ?_, r.tabs, r.pure, fun i j h1 h2 => ?_⟩
  · obtain ⟨e1, l⟩ := ne (i := i) (by rw [e]; exact fun z => nomatch z)
    rw [get l]; exact r.val i d (by rw [← e1]; exact e)
  · obtain ⟨e1, l⟩ := ne (i := i) (by rw [e]; exact fun z => nomatch z)
    rw [get l]; exact r.own i d (by rw [← e1]; exact e)
  · obtain ⟨e1, l⟩ := ne (i := i) (by rw [e]; exact fun z => nomatch z)
    rw [get l]; exact r.dct i d (by rw [← e1]; exact e)
  · obtain ⟨e1, l⟩ := ne (i := i) (by rw [e]; exact fun z => nomatch z)
    rw [get l]; exact r.deck i (by rw [← e1]; exact e)
  · obtain ⟨k1, l1⟩ := ne (bne h1)
    obtain ⟨k2, l2⟩ := ne (bne h2)
    rw [k1] at h1
    rw [k2] at h2
    rw [get l1] at e1
    rw [get l2] at e2
    exact r.dist i j a hij h1 h2 e1 e2
  · obtain ⟨k1, l1⟩ := ne (i := i) (by rw [h1]; exact fun z => nomatch z)
    obtain ⟨k2, l2⟩ := ne (i := j) (by rw [h2]; exact fun z => nomatch z)
    exact r.one i j (by rw [← k1]; exact h1) (by rw [← k2]; exact h2)
/-- data behind -/
theorem Rl.dfl (r : Rl K T ss n F (vs.map some) H) (h : Rps K F dvs ds) : Rl K T (ss ++ ds.map .val) n F ((vs ++ dvs).map some) H := by
  have hl : ss.length = vs.length := by have := r.len; simpa using this
  have ne : ∀ {i : Nat}, big (at_ (ss ++ ds.map .val) i) = true → at_ (ss ++ ds.map .val) i = at_ ss i ∧ i < ss.length := fun {i} h => by
    rw [at_app] at h ⊢
    by_cases l : i < ss.length
    · rw [if_pos l]; exact ⟨rfl, l⟩
    · rw [if_neg l, at_vals] at h; split at h <;> cases h
  have get : ∀ {i : Nat}, i < ss.length → ((vs ++ dvs).map some)[i]? = (vs.map some)[i]? := fun {i} l => by
    rw [List.map_append]
    exact List.getElem?_append_left (by rw [List.length_map, ← hl]; exact l)
  refine ⟨r.sub, by simp [hl, h.length], fun i d e => ?_, fun i d e => ?_, fun i d e => ?_, fun i e => ?_, fun i j a hij h1 h2 e1 e2 => ?_, r.tabs, r.pure, fun i j h1 h2 => ?_⟩
  · by_cases l : i < ss.length
    · rw [get l]
      rw [at_app, if_pos l] at e
      exact r.val i d e
    · rw [at_app, if_neg l, at_vals] at e
      split at e
      · rename_i d' hd
        cases e
        obtain ⟨v, k1, k2⟩ := h.get hd
        refine ⟨v, ?_, k2⟩
        rw [List.map_append, List.getElem?_append_right (by rw [List.length_map, ← hl]; omega), List.length_map, ← hl, List.getElem?_map, k1]
        rfl
      · cases e
  · obtain ⟨e1, l⟩ := ne (i := i) (by rw [e]; rfl)
    rw [get l]; exact r.own i d (by rw [← e1]; exact e)
  · obtain ⟨e1, l⟩ := ne (i := i) (by rw [e]; rfl)
    rw [get l]; exact r.dct i d (by rw [← e1]; exact e)
  · obtain ⟨e1, l⟩ := ne (i := i) (by rw [e]; rfl)
    rw [get l]; exact r.deck i (by rw [← e1]; exact e)
  · obtain ⟨k1, l1⟩ := ne h1
    obtain ⟨k2, l2⟩ := ne h2
    rw [k1] at h1
    rw [k2] at h2
    rw [get l1] at e1
    rw [get l2] at e2
    exact r.dist i j a hij h1 h2 e1 e2
  · obtain ⟨k1, l1⟩ := ne (i := i) (by rw [h1]; rfl)
    obtain ⟨k2, l2⟩ := ne (i := j) (by rw [h2]; rfl)
    exact r.one i j (by rw [← k1]; exact h1) (by rw [← k2]; exact h2)
/-- at a body's end, seen from the entry -/
theorem Fra.post (r0 : Rl K T ss n0 F0 σ0 H0) (f : Fra K T pr F0 H0 (dk ss σ0) ρ n F σ H) : Post K T ss σ0 F0 H0 n F H := by
  refine ⟨r0.back f.grow f.keep f.rl.sub f.rl.tabs f.rl.pure fun i a e1 e2 => ?_, f.grow, f.keep⟩
  obtain ⟨j, _, h2, h3⟩ := f.dks a ⟨i, e1, e2⟩
  obtain ⟨b, x, y, z, k1, k2, _, k4⟩ := f.rl.deck j h2
  rw [h3] at k1
  cases k1
  exact ⟨x, y, z, k2, k4⟩
/-- the entry's slots less data at the end -/
theorem Post.cut (r0 : Rl K T ss n0 F0 (vs.map some) H0) (p : Post K T (ss ++ ds.map .val) ((vs ++ dvs).map some) F0 H0 n F H) : Post K T ss (vs.map some) F0 H0 n F H := by
  have hl : ss.length = vs.length := by have := r0.len; simpa using this
  have up : ∀ {i : Nat} {a : Addr}, at_ ss i = .deck → (vs.map some)[i]? = some (some (.ref a)) → at_ (ss ++ ds.map .val) i = .deck ∧ ((vs ++ dvs).map some)[i]? = some (some (.ref a)) := fun {i a} e1 e2 => by
    have l : i < ss.length := by
      rcases Nat.lt_or_ge i ss.length with z | z
      · exact z
      · rw [at_len z] at e1; cases e1
    rw [at_app, if_pos l, List.map_append, List.getElem?_append_left (by rw [List.length_map, ← hl]; exact l)]
    exact ⟨e1, e2⟩
  have k : Keep (dk ss (vs.map some)) H0 H := fun b o e => by
    rcases p.keep b o e with z | ⟨⟨i, z1, z2⟩ | z, z3⟩
    · exact .inl z
    · refine .inr ⟨.inl ⟨i, ?_⟩, z3⟩
      have l : i < ss.length := by
        rcases Nat.lt_or_ge i ss.length with q | q
        · exact q
        · rw [at_app, if_neg (by omega), at_vals] at z1; split at z1 <;> cases z1
      rw [at_app, if_pos l] at z1
      rw [List.map_append, List.getElem?_append_left (by rw [List.length_map, ← hl]; exact l)] at z2
      exact ⟨z1, z2⟩
    · exact .inr ⟨.inr z, z3⟩
  refine ⟨r0.back p.grow k p.rl.sub p.rl.tabs p.rl.pure fun i a e1 e2 => ?_, p.grow, k⟩
  obtain ⟨u1, u2⟩ := up e1 e2
  obtain ⟨b, x, y, z, k1, k2, _, k4⟩ := p.rl.deck i u1
  rw [u2] at k1
  cases k1
  exact ⟨x, y, z, k2, k4⟩
end

/-- the draws' list stands where it may -/
def okDk (pro : List Nat) : Nat → List Sl → Bool
  | _, [] => true
  | i, s :: r => (match isDeck s with | true => pro.contains i | false => true) && okDk pro (i + 1) r
theorem okDk_at {pro : List Nat} : ∀ {ss : List Sl} {i j : Nat}, okDk pro i ss = true → at_ ss j = .deck → i + j ∈ pro
  | s :: r, i, 0, h, e => by
    have e : s = .deck := e
    subst e
    have h : (pro.contains i && okDk pro (i + 1) r) = true := h
    rw [Bool.and_eq_true] at h
    exact List.contains_iff_mem.mp h.1
  | s :: r, i, j + 1, h, e => by
    have h : (_ && okDk pro (i + 1) r) = true := h
    rw [Bool.and_eq_true] at h
    have := okDk_at (ss := r) (j := j) h.2 e
    rw [show i + (j + 1) = i + 1 + j by omega]
    exact this
/-- what a def of this tree does -/
def semD (m : Nat) (b : Sts) (pro : List Nat) (dds : List D) : List Sl → W D := fun as => chk (okDk pro 0 as) (run m b (as ++ dds.map .val))
theorem mono_semD {m : Nat} {b : Sts} {pro : List Nat} {dds : List D} (h : allSs MonoF b) (as : List Sl) : Mono (semD m b pro dds as) := .chk (mono_run h _)

/-- what the head tells of names -/
structure Glo (K : PySem.W.Frag) (mg : Str → Option Value) (cs : List (Str × Int)) (ex : List Str) : Prop where
  blt : ∀ x ∈ bltN, mg x = none
  cst : ∀ x i, cs.lookup x = some i → ∃ t, mg x = some (.int i t)
  exs : ∀ x ∈ ex, ∃ C, mg x = some (.ref C) ∧ PySem.W.excIn K C veB "ValueError.__new__" = true ∧ PySem.W.keepIn K (.ref C) = true ∧ PySem.W.subIn K (.ref C) (.type "BaseException") = some true ∧ PySem.W.typeIn K (.ref C) = some (.type "type")
/-- a def's body without its first text -/
def isDoc : Stmt → Bool
  | .Expr e _ => (match sConst e with
    | some (.str _) => true
    | _ => false)
  | _ => false
def noDoc : List Stmt → List Stmt
  | [] => []
  | s :: r => (match isDoc s with
    | true => r
    | false => s :: r)
theorem isDoc_eq {s : Stmt} (h : isDoc s = true) : ∃ x j p q, s = .Expr (.Constant (.str x) j p) q := by
  cases s <;> try (cases h; done)
  rename_i e q
  unfold isDoc at h
  simp only at h
  split at h
  · rename_i x hx
    obtain ⟨j, p, rfl⟩ := sConst_eq hx
    exact ⟨x, j, p, q, rfl⟩
  · cases h
theorem pss_doc {X : Cx} {l : List Stmt} {t : TS} (h : PSs X (noDoc l) t) : PSs X l t := by
  cases l with
  | nil => exact h
  | cons s r =>
    cases hd : isDoc s with
    | true =>
      have h : PSs X (match isDoc s with | true => r | false => s :: r) t := h
      rw [hd] at h
      obtain ⟨x, j, p, q, rfl⟩ := isDoc_eq hd
      exact (pss_cons ps_doc h).imp fun D σ H q => q
    | false =>
      have h : PSs X (match isDoc s with | true => r | false => s :: r) t := h
      rw [hd] at h
      exact h
def plainS (ss : List Sl) : Prop := ∀ i, (∃ d, at_ ss i = .val d) ∨ at_ ss i = .deck ∨ at_ ss i = .no
theorem plain_dfl {ss : List Sl} {ds : List D} (h : plainS ss) : plainS (ss ++ ds.map .val) := fun i => by
  rw [at_app]
  by_cases l : i < ss.length
  · rw [if_pos l]; exact h i
  · rw [if_neg l, at_vals]
    split
    · exact .inl ⟨_, rfl⟩
    · exact .inr (.inr rfl)
theorem okDk_vals {pro : List Nat} : ∀ (ds : List D) (i : Nat), okDk pro i (ds.map .val) = true
  | [], _ => rfl
  | d :: r, i => okDk_vals r (i + 1)
theorem okDk_dfl {pro : List Nat} {ds : List D} : ∀ {ss : List Sl} {i : Nat}, okDk pro i ss = true → okDk pro i (ss ++ ds.map .val) = true
  | [], i, _ => okDk_vals ds i
  | s :: r, i, h => by
    have h : (_ && okDk pro (i + 1) r) = true := h
    rw [Bool.and_eq_true] at h
    show (_ && okDk pro (i + 1) (r ++ ds.map .val)) = true
    rw [Bool.and_eq_true]
    exact ⟨h.1, okDk_dfl h.2⟩
section
variable {P : Program} {w : World} {K : PySem.W.Frag} {mg : Str → Option Value} {base : Heap} {T : List (Addr × Str)} {x qual : Str} {params : Arguments} {body : List Stmt} {scope : Scope} {dvs : List V} {kws : List (Str × V)} {f : Addr} {fd : FuncData}
/-- the name of its lambdas -/
def lamQ (qual : Str) : Str := qual ++ ".<locals>." ++ "<lambda>"
/-- what a def with lambdas knows -/
structure LamF (T : List (Addr × Str)) (K : PySem.W.Frag) (mg : Str → Option Value) (base : Heap) (qual : Str) (fd : FuncData) : Prop where
  tab : ∃ c P, LamX.TabB base mg c P ∧ fd.code = .ref c ∧ (P, lamQ qual) ∈ T ∧ ∀ p ∈ T, p.1 = P → p.2 = lamQ qual
  tf : ∃ C1 C2 C3, ZK.TryF K mg C1 C2 C3
  td : ∃ (params : Arguments) (body : List Stmt) (scope : Scope) (dvs : List V) (kws : List (Str × V)) (f : Addr) (fd : FuncData), FunD K "_law_try" "_law_try" params body scope dvs kws f fd ∧ mg "_law_try" = some (.ref f) ∧ L2.Binds K fd ["_law_call_so"] [] ∧ FnScope ZK.tNm ["_law_call_so"] scope ∧ ZK.tryS scope = true ∧ ZK.tryB body = true
/-- what is promised of a def of this tree -/
def spT (K : PySem.W.Frag) (T : List (Addr × Str)) (mg : Str → Option Value) (m : Nat) (b : Sts) (ps : List Str) (pro : List Nat) : Sp := fun vs H Q E => ∃ ss n F, ss.length = ps.length ∧ Rl K T ss n F (vs.map some) H ∧ plainS ss ∧ okDk pro 0 ss = true ∧ callP K T mg (run m b) ss n F vs H Q E
theorem fnok_of {N ps : List Str} {k : Nat} {b : Sts} {pro : List Nat} {cs : List (Str × Int)} {ex : List Str} {lam dkk : Bool} (hlam : lam = true → LamF T K mg base qual fd) (hdkk : dkk = true → DkF P w K mg base)
    (F : FunD K x qual params body scope dvs kws f fd) (S : FnScope N ps scope) (g : Glo K mg cs ex)
    (hck : ckSs ⟨N, scope, none, cs, k, pro, ex, lam, dkk⟩ b (noDoc body) = true) (hall : allSs (Ent P w K mg base T) b) : FnOk P w K mg base (L2N.CX P w) (k + 1) f fd ps (spT K T mg N.length b ps pro) := by
  have hmono : allSs MonoF b := allSs_mono b _ (fun _ h => h.mono) hall
  obtain ⟨oc_, od_, dV_, kV_, doc_, pm_, an_, cdv, ct_, osl_, efd, lk_, hcd_, hdf_, hkw_⟩ := F.ex
  subst efd
  have hN : ps.length ≤ N.length := by have := congrArg List.length S.pre; rw [List.length_take] at this; omega
  refine fn_of lk_ hcd_ S (fun vs H Q E h => ?_) (fun A outer s H vs Q E hr hsp => ?_)
  · obtain ⟨ss, n, F1, hl, r, _⟩ := h
    have := r.len
    rw [List.length_map] at this
    omega
  · obtain ⟨ss, n, F1, hl, r, pl, hdk, h⟩ := hsp
    have hv : vs.length = ss.length := by have := r.len; rw [List.length_map] at this; omega
    let X := cxOf (L2N.CX P w) P w K mg base N qual scope f cdv A outer s H E
    have hcode : X.env.code = cdv := rfl
    have G : Good T X ⟨N, scope, none, cs, k, pro, ex, lam, dkk⟩ (fun c d _ H => E c d H) := {
      calm := rfl
      nd := S.nd
      eN := rfl
      room := hr
      sc := rfl
      fn := fun _ _ => rfl
      takes := L2N.takes_of (X := X) (E := E) rfl rfl rfl rfl
      blt := g.blt
      cst := g.cst
      exs := fun x hx => by
        obtain ⟨C, h1, h2, h3, h4, h5⟩ := g.exs x hx
        exact ⟨C, h1, h2, h3, raises_own h4 h5⟩
      lam := fun h => by
        have L := hlam h
        exact ⟨L.tab, L.tf, L.td⟩
      dk := hdkk }
    have hp : PassesOwn (model X.prog X.w) X.A X.env X.xe := passes_of (X := X) rfl
    refine ⟨_, pss_doc (sndSs (T := T) (F0 := F1) (H0 := H) (D0 := dk ss (vs.map some)) b X _ _ (noDoc body) G hp hck hall), ?_⟩
    have hst : L2.start N vs = vs.map some ++ List.replicate (N.length - ss.length) none := by unfold L2.start; rw [hv]
    have f0 : Fra K T pro F1 H (dk ss (vs.map some)) (ss ++ List.replicate (N.length - ss.length) Sl.no) n F1 (L2.start N vs) H := by
      rw [hst]
      refine ⟨r.ext _, Grow.refl _ _, Keep.refl _ _, fun a ha => ?_, fun i a hb e => ?_⟩
      · obtain ⟨i, e1, e2⟩ := ha
        have l : i < ss.length := by
          rcases Nat.lt_or_ge i ss.length with z | z
          · exact z
          · rw [at_len z] at e1; cases e1
        refine ⟨i, by have := okDk_at hdk e1; simpa using this, by rw [at_app, if_pos l]; exact e1, by rw [List.getElem?_append_left (by rw [List.length_map]; omega)]; exact e2⟩
      · rw [at_app] at hb
        by_cases l : i < ss.length
        · rw [if_pos l] at hb
          rw [List.getElem?_append_left (by rw [List.length_map]; omega)] at e
          rcases pl i with ⟨d, z⟩ | z | z
          · rw [z] at hb; cases hb
          · exact .inl ⟨i, z, e⟩
          · rw [z] at hb; cases hb
        · rw [if_neg l, at_rep] at hb; cases hb
    refine ⟨ss ++ List.replicate (N.length - ss.length) Sl.no, n, F1, f0, ?_⟩
    have h : runs b (ss ++ List.replicate (N.length - ss.length) Sl.no) n _ _ := h
    refine monoSs b _ hmono n _ _ _ _ (fun fl n' hk => ?_) (fun xx n' hk => ?_) h
    · cases fl with
      | nx ρ' => exact fun σ' F' H' f' _ => hk .non F' H' (f'.post r) .non
      | rt d => exact fun ρ' v σ' F' H' f' rv => hk v F' H' (f'.post r) rv
    · exact fun ρ' σ' F' H' c dd f' e => hk F' H' c dd (f'.post r) e
theorem ent_of {N ps : List Str} {k : Nat} {b : Sts} {pro : List Nat} {cs : List (Str × Int)} {ex : List Str} {dv : List Value} {dds : List D} {ar : Nat} {lam dkk : Bool} (hlam : lam = true → LamF T K mg base qual fd) (hdkk : dkk = true → DkF P w K mg base)
    (F : FunD K x qual params body scope dvs kws f fd) (hm : mg x = some (.ref f)) (S : FnScope N ps scope) (g : Glo K mg cs ex) (hb : Binds K fd ps dv) (hd : Vals dvs dv) (hdd : ∀ F, Rps K F dvs dds) (har : ar + dds.length = ps.length)
    (hck : ckSs ⟨N, scope, none, cs, k, pro, ex, lam, dkk⟩ b (noDoc body) = true) (hall : allSs (Ent P w K mg base T) b) : Ent P w K mg base T ⟨x, ar, k + 1, semD N.length b pro dds⟩ := by
  have hmono : allSs MonoF b := allSs_mono b _ (fun _ h => h.mono) hall
  refine ⟨⟨f, fd, ps, dv, dvs, spT K T mg N.length b ps pro, hm, F.kp, hb, hd, fnok_of hlam hdkk F S g hck hall, fun ss n F1 vs H Q E hl r pl h => ?_⟩, mono_semD hmono⟩
  · have h : chk (okDk pro 0 ss) (run N.length b (ss ++ dds.map .val)) n _ _ := h
    obtain ⟨hdk, h⟩ := chkb h
    have hd2 := hdd F1
    refine ⟨ss ++ dds.map .val, n, F1, by rw [List.length_append, List.length_map, hl]; exact har, r.dfl hd2, plain_dfl pl, okDk_dfl hdk, ?_⟩
    · exact mono_run hmono _ n _ _ _ _ (fun d n' hk v F' H' p rv => hk v F' H' (p.cut r) rv) (fun xx n' hk F' H' c dd p e => hk F' H' c dd (p.cut r) e) h
end
end Z
end
-- Z20p
section
set_option Elab.async false
set_option linter.all false
set_option maxRecDepth 100000
set_option maxHeartbeats 1000000
/-! Z20p: draws: _law_pick, _law_deck. -/
namespace Z
open PySem PySem.Spec PyProof.Rows L2

/-- any number below -/
def pickSem : List Sl → W D
  | [.deck, .val (.int m)] => fun n Q _ => 1 ≤ n ∧ 1 ≤ m ∧ m < 1073741824 ∧ ∀ k : Int, 0 ≤ k → k < m → Q (.int k) (n - 1)
  | _ => stuck
def spPick : Sp := fun vs H Q _ => ∃ (a : Addr) (m x y z : Int) (n : Nat), vs = [.ref a, .int m] ∧ H a = some (.lst [.int x, .int y, .int z]) ∧ DeckOk x y z (n + 1) ∧ 1 ≤ m ∧ m < 1073741824 ∧
  ∀ k x' y' z' : Int, 0 ≤ k → k < m → DeckOk x' y' z' n → Q (.int k) (upd H a (.lst [.int x', .int y', .int z']))
def fPick : Fn := ⟨"_law_pick", 2, 1, pickSem⟩
section
variable {P : Program} {w : World} {K : PySem.W.Frag} {mg : Str → Option Value} {base : Heap} {T : List (Addr × Str)}
theorem ent_pick {g : Addr} {fd : FuncData} {ps : List Str} (hm : mg "_law_pick" = some (.ref g)) (kp : PySem.W.keepIn K (.ref g) = true) (hb : Binds K fd ps []) (F : FnOk P w K mg base (L2N.CX P w) 1 g fd ps spPick) : Ent P w K mg base T fPick := by
  refine ⟨⟨g, fd, ps, [], [], spPick, hm, kp, hb, .nil, F, fun ss n F vs H Q E hl r pl h => ?_⟩, fun ss n Q Q' E E' hQ hE h => ?_⟩
  · have h : pickSem ss n _ _ := h
    unfold pickSem at h
    split at h
    · obtain ⟨h1, h2, h3, h4⟩ := h
      obtain ⟨a, x, y, z, e1, e2, e3, e4⟩ := r.deck 0 rfl
      obtain ⟨v, e5, e6⟩ := r.val 1 _ rfl
      cases e6
      have hlen := r.len
      match vs, hlen, e1, e5 with
      | [v1, v2], _, e1, e5 =>
        cases e1
        cases e5
        obtain ⟨n', rfl⟩ : ∃ n', n = n' + 1 := ⟨n - 1, by omega⟩
        refine ⟨a, _, x, y, z, n', rfl, e2, e4, h2, h3, fun k x' y' z' k0 k1 hd => ?_⟩
        refine h4 k k0 k1 (.int k) F _ ⟨?_, Grow.refl _ _, ?_⟩ (.int k)
        · refine r.back (Grow.refl _ _) ?_ ?_ ?_ r.pure ?_
          · intro b o e
            by_cases hb : b = a
            · subst hb
              exact .inr ⟨.inl ⟨0, rfl, rfl⟩, by rw [upd_same]; exact fun z => nomatch z⟩
            · exact .inl (by rw [upd_ne hb]; exact e)
          · intro b o e
            rw [upd_ne (fun z => by rw [z, e3] at e; cases e)]
            exact r.sub b o e
          · exact tabs_upd r.tabs (by rw [e2]; trivial)
          · intro i b e1 e2
            have hi := r.one i 0 e1 rfl
            subst hi
            cases e2
            exact ⟨x', y', z', upd_same, hd⟩
        · intro b o e
          by_cases hb : b = a
          · subst hb
            exact .inr ⟨.inl ⟨0, rfl, rfl⟩, by rw [upd_same]; exact fun z => nomatch z⟩
          · exact .inl (by rw [upd_ne hb]; exact e)
    · exact h.elim
  · have h : pickSem ss n _ _ := h
    show pickSem ss n _ _
    unfold pickSem at h ⊢
    split at h
    · exact ⟨h.1, h.2.1, h.2.2.1, fun k k0 k1 => hQ _ _ (h.2.2.2 k k0 k1)⟩
    · exact h.elim
end
/-- a def without a word -/
theorem ent_stuck {P : Program} {w : World} {K : PySem.W.Frag} {mg : Str → Option Value} {base : Heap} {T : List (Addr × Str)} {x : Str} {g : Addr} {fd : FuncData} {ps : List Str} {ar k : Nat} (hm : mg x = some (.ref g)) (kp : PySem.W.keepIn K (.ref g) = true) (hb : Binds K fd ps []) : Ent P w K mg base T ⟨x, ar, k, fun _ => stuck⟩ :=
  ⟨⟨g, fd, ps, [], [], fun _ _ _ _ => False, hm, kp, hb, .nil, ⟨fun _ _ _ _ h => h.elim, fun _ _ _ _ _ _ _ _ _ _ _ _ _ h => h.elim⟩, fun _ _ _ _ _ _ _ _ _ _ h => h.elim⟩, fun _ _ _ _ _ _ _ _ h => h.elim⟩
/-- the draw's numbers -/
theorem deck_next {y z m : Int} {n : Nat} (h : DeckOk x y z (n + 1)) : (y + 15485867 * (z + 1)).natAbs < 2 ^ 64 ∧ 0 ≤ y + 15485867 * (z + 1) := by
  obtain ⟨h1, h2, h3, h4, h5⟩ := h
  omega
end Z
end
-- Z27
section
set_option Elab.async false
set_option linter.all false
set_option maxRecDepth 100000
set_option maxHeartbeats 1000000
/-! Z27: what the head tells; the law's end. -/
namespace Z
open PySem PySem.Spec PyProof.Rows L2

def excCB (K : PySem.W.Frag) (D : Addr) : Bool := He.eqO (PySem.W.findIn K (.ref D) "__getattribute__") (some (some (.builtin "BaseException.__getattribute__"))) && (He.eqO (PySem.W.findIn K (.ref D) "__getattr__") (some none) &&
  (decide (PySem.W.subIn K (.ref D) (.type "BaseException") = some true) && (PySem.W.hasDictIn K D && (He.eqO (PySem.W.findIn K (.ref D) "__class__") (some (some (.builtin "object.__class__"))) &&
  (He.eqO (PySem.W.specialIn K (.builtin "object.__class__") "__get__") (some (some (.builtin "getset_descriptor.__get__"))) && (decide (PySem.W.takesIn K (.builtin "object.__class__") = some true) && decide (PySem.W.mroIn K D (.type "object") = some true)))))))
theorem excCB_ok {K : PySem.W.Frag} {D : Addr} (h : excCB K D = true) : ExcC K D := by
  unfold excCB at h
  simp only [Bool.and_eq_true, decide_eq_true_eq] at h
  obtain ⟨h1, h2, h3, h4, h5, h6, h7, h8⟩ := h
  exact ⟨He.eqO_ok h1, He.eqO_ok h2, h3, h4, He.eqO_ok h5, He.eqO_ok h6, h7, h8⟩
def kerrB (K : PySem.W.Frag) (x : Str) : Bool := excCB K (He.ga K x) && (ZK.kCls.all (fun y => decide (PySem.W.kitOne K (.ref (He.ga K x)) (.ref (He.ga K y)) = some (x == y))) && (decide (PySem.W.kitOne K (.ref (He.ga K x)) (.type "ValueError") = some true) &&
  (decide (PySem.W.exmOne K (.ref (He.ga K x)) (.ref (He.ga K "InvalidText")) = some false) && (decide (PySem.W.exmOne K (.ref (He.ga K x)) (.ref (He.ga K "TooMany")) = some false) && decide (PySem.W.exmOne K (.ref (He.ga K x)) (.ref (He.ga K "TaleError")) = some true)))))
def exB (K : PySem.W.Frag) : Bool := ZK.kErr.all (kerrB K)
theorem tryF_of {K : PySem.W.Frag} {mg : Str → Option Value} (glo : ∀ x : Str, x ∈ ("TaleError" : Str) :: ZK.kCls → mg x = some (.ref (He.ga K x))) (fv : mg "ValueError" = none) (fi : mg "isinstance" = none) (fz : mg "zip" = none) (hx : exB K = true)
    (kin : ∃ f fd body scope, ZK.KinF K mg f fd body scope) : ∃ C1 C2 C3, ZK.TryF K mg C1 C2 C3 := by
  refine ⟨_, _, _, kin, glo "InvalidText" (by decide), glo "TooMany" (by decide), glo "TaleError" List.mem_cons_self, fun x hxm => ?_⟩
  have hk := List.all_eq_true.mp hx x hxm
  unfold kerrB at hk
  simp only [Bool.and_eq_true, decide_eq_true_eq, List.all_eq_true] at hk
  obtain ⟨h1, h2, h3, h4, h5, h6⟩ := hk
  have hc : ∀ x ∈ ZK.kErr, x ∈ ZK.kCls := by decide
  have hm := hc x hxm
  exact ⟨_, glo x (List.mem_cons_of_mem _ hm), ⟨excCB_ok h1, fun y hy => ⟨_, glo y (List.mem_cons_of_mem _ hy), h2 y hy⟩, h3, fv, fi, fz⟩, h4, h5, h6⟩
/-- the tables of the defs with lambdas -/
def tabT (K : PySem.W.Frag) (tf : List He.Defn) : List (Addr × Str) := tf.map fun p => ((He.cT K p).2, lamQ p.1)
def tabN (K : PySem.W.Frag) (tf : List He.Defn) : Bool := decide ((tf.map fun p => (He.cT K p).2).Nodup)
theorem nodup_at {α β : Type} {f : α → β} : ∀ {l : List α} {x y : α}, (l.map f).Nodup → x ∈ l → y ∈ l → f x = f y → x = y
  | [], _, _, _, h, _, _ => by cases h
  | a :: l, x, y, hn, hx, hy, e => by
    rw [List.map_cons, List.nodup_cons] at hn
    cases hx with
    | head =>
      cases hy with
      | head => rfl
      | tail _ hy' => exact absurd (List.mem_map.mpr ⟨y, hy', e.symm⟩) hn.1
    | tail _ hx' =>
      cases hy with
      | head => exact absurd (List.mem_map.mpr ⟨x, hx', e⟩) hn.1
      | tail _ hy' => exact nodup_at hn.2 hx' hy' e
theorem lamF_of {K : PySem.W.Frag} {mg : Str → Option Value} {base : Heap} {tf : List He.Defn} {x : Str} {params : Arguments} {body : List Stmt} {scope : Scope} {dvs : List V} {kws : List (Str × V)} {fd : FuncData} (F : FunD K x x params body scope dvs kws (He.fAd K (x, none)) fd)
    (hm : (x, none) ∈ tf) (hn : tabN K tf = true) (tb : ∀ p ∈ tf, LamX.TabB base mg (He.cT K p).1 (He.cT K p).2) (h1 : ∃ C1 C2 C3, ZK.TryF K mg C1 C2 C3)
    (h2 : ∃ (params : Arguments) (body : List Stmt) (scope : Scope) (dvs : List V) (kws : List (Str × V)) (f : Addr) (fd : FuncData), FunD K "_law_try" "_law_try" params body scope dvs kws f fd ∧ mg "_law_try" = some (.ref f) ∧ L2.Binds K fd ["_law_call_so"] [] ∧ FnScope ZK.tNm ["_law_call_so"] scope ∧ ZK.tryS scope = true ∧ ZK.tryB body = true) :
    LamF (tabT K tf) K mg base x fd := by
  obtain ⟨oc, od, dV, kV, doc, pm, an, cdv, ct, osl, rfl, lk, hcd, _, _⟩ := F.ex
  obtain ⟨c, rfl⟩ := He.codeIn_ref hcd
  have e := He.codeOf_eq lk rfl
  refine ⟨⟨(He.cT K (x, none)).1, (He.cT K (x, none)).2, tb _ hm, ?_, List.mem_map.mpr ⟨_, hm, rfl⟩, fun p hp e2 => ?_⟩, h1, h2⟩
  · show Value.ref c = .ref (He.codeOf K (x, none))
    rw [e]
  · obtain ⟨q, hq, rfl⟩ := List.mem_map.mp hp
    have := nodup_at (of_decide_eq_true hn) hq hm e2
    rw [this]
section
variable {l : PySem.W.OpenLaw} {w : World} {K : PySem.W.Frag} {mg : Str → Option Value} {h : Heap} {fa : Addr}
theorem lawAt_of {tf : List He.Defn} {N : List Str} {b : Sts} {params : Arguments} {body : List Stmt} {scope : Scope} {dvs : List V} {kws : List (Str × V)} {fd : FuncData} {k n : Nat} {x : Str} {cs : List (Str × Int)} {ex : List Str} {lam dkk : Bool}
    (hhd : ∀ p ∈ tf, PySem.W.CodeHd h (He.cT K p).1 (He.cT K p).2) (hout : ∀ p ∈ tf, K.lookup (He.cT K p).2 = none) (hempty : ∀ p ∈ tf, h.get? (He.cT K p).2 = some { cls := .none, data := .fields #[] })
    (hbd : ∀ (s : Shared) (u : Value), BindsTo s fd ⟨[u], []⟩ [(x, u)])
    (hM : ∀ ns : List Int, ns.length ≤ n → (∀ z ∈ ns, Builtin.Int.intBits z ≤ 1048576) → ∀ (Q : D → Nat → Prop) (E : Exc → Nat → Prop), (∀ n', Q (.bl true) n') → run N.length b [.val (.lst (ns.map .int))] 0 Q E)
    (hF : ∀ base : Heap, K.In base → base.Ns mainGlobals mg → (∀ p ∈ tf, LamX.TabB base mg (He.cT K p).1 (He.cT K p).2) → FnOk l.prog w K mg base (L2N.CX l.prog w) k fa fd [x] (spT K (tabT K tf) mg N.length b [x] [])) :
    LamX.LawAtS l w K (L2N.CX l.prog w) k n x mg fa h := by
  refine ⟨fd, tf.map (He.cT K), spT K (tabT K tf) mg N.length b [x] [], fun p hp => ?_, fun p hp => ?_, fun p hp => ?_, hbd, fun H a ns hl hb hT hS => ?_, fun base KX G tb => hF base KX G fun p hp => tb _ (List.mem_map.mpr ⟨p, hp, rfl⟩)⟩
  · obtain ⟨q, hq, rfl⟩ := List.mem_map.mp hp; exact hempty q hq
  · obtain ⟨q, hq, rfl⟩ := List.mem_map.mp hp; exact hout q hq
  · obtain ⟨q, hq, rfl⟩ := List.mem_map.mp hp; exact hhd q hq
  · let F : Hp := fun b => if b = a then (match H a with | some (.tbl _) => none | o => o) else none
    have hFa : ∀ b o, F b = some o → b = a ∧ H a = some o ∧ ∀ ps, o ≠ .tbl ps := fun b o e => by
      by_cases hb : b = a
      · have e : (if b = a then (match H a with | some (.tbl _) => none | o => o) else none) = some o := e
        rw [if_pos hb] at e
        refine ⟨hb, ?_⟩
        split at e
        · cases e
        · rename_i z
          exact ⟨e, fun ps q => z ps (by rw [e, q])⟩
      · have e : (if b = a then (match H a with | some (.tbl _) => none | o => o) else none) = some o := e
        rw [if_neg hb] at e; cases e
    have sF : Sub F H := fun b o e => by obtain ⟨rfl, z, _⟩ := hFa b o e; exact z
    have hq : SqL K F a (ns.map V.int) := by
      have up : ∀ o, H a = some o → (∀ ps, o ≠ .tbl ps) → F a = some o := fun o e ht => by
        show (if a = a then (match H a with | some (.tbl _) => none | o => o) else none) = some o
        rw [if_pos rfl, e]
        cases o with
        | tbl ps => exact absurd rfl (ht ps)
        | _ => rfl
      rcases hS with (z | ⟨o, z⟩) | z
      · exact .inl (.inl (up _ z (notbl_lst _)))
      · exact .inl (.inr ⟨o, up _ z (fun _ q => nomatch q)⟩)
      · exact .inr z
    refine ⟨[.val (.lst (ns.map .int))], 0, F, rfl, ⟨sF, rfl, fun i d e => ?_, fun i d e => ?_, fun i d e => ?_, fun i e => ?_, fun i j b hij h1 h2 _ _ => ?_, fun p hp => ?_, fun b ps e => (hFa b _ e).2.2 ps rfl, fun i j e => ?_⟩, fun i => ?_, rfl, hM ns hl hb _ _ fun n' v F' H' p rv => by cases rv; rfl⟩
    · cases i with
      | zero => cases e; exact ⟨.ref a, rfl, .lst hq (rps_ints ns)⟩
      | succ i => cases e
    · cases i <;> cases e
    · cases i <;> cases e
    · cases i <;> cases e
    · cases i <;> cases h1
    · obtain ⟨q, hq, rfl⟩ := List.mem_map.mp hp
      exact LamX.TabS.nil (hT _ (List.mem_map.mpr ⟨q, hq, rfl⟩))
    · cases i <;> cases e
    · cases i with
      | zero => exact .inl ⟨_, rfl⟩
      | succ i => exact .inr (.inr rfl)
theorem cx_no (P : Program) (H : Hp) (s : Shared) (e : Value) (s' : Shared) : L2N.CX P w [] H s (fun _ _ _ => False) e s' → False := fun ⟨_, _, _, _, _, _, _, _, _, _, _, _, z⟩ => z
end
end Z
end
-- H01
section
set_option Elab.async false
set_option linter.all false
set_option maxRecDepth 100000
set_option maxHeartbeats 0
namespace Z
open PySem PySem.Spec PyProof.Rows L2
def top (i : Nat) : Stmt := PySem.Challenge.pw_hearsays_k01_stories_recognized.main.body.getD i (.Pass ⟨0, 0, 0, 0⟩)
def hdd_0 : List He.DefD := [⟨("no_bounds", none), "no_bounds", "no_bounds", defArgs (top 1), defBody (top 1), defScope (top 1), [], []⟩, ⟨("lesser", none), "lesser", "lesser", defArgs (top 2), defBody (top 2), defScope (top 2), [], []⟩, ⟨("summed", none), "summed", "summed", defArgs (top 3), defBody (top 3), defScope (top 3), [], []⟩, ⟨("closer", none), "closer", "closer", defArgs (top 4), defBody (top 4), defScope (top 4), [], []⟩, ⟨("with_bound", none), "with_bound", "with_bound", defArgs (top 5), defBody (top 5), defScope (top 5), [], []⟩, ⟨("is_within", none), "is_within", "is_within", defArgs (top 28), defBody (top 28), defScope (top 28), [], []⟩, ⟨("has_items", none), "has_items", "has_items", defArgs (top 29), defBody (top 29), defScope (top 29), [], []⟩, ⟨("is_event_value", none), "is_event_value", "is_event_value", defArgs (top 30), defBody (top 30), defScope (top 30), [], []⟩, ⟨("is_end", none), "is_end", "is_end", defArgs (top 31), defBody (top 31), defScope (top 31), [], []⟩, ⟨("is_fact_value", none), "is_fact_value", "is_fact_value", defArgs (top 32), defBody (top 32), defScope (top 32), [], []⟩, ⟨("is_shape", none), "is_shape", "is_shape", defArgs (top 33), defBody (top 33), defScope (top 33), [], []⟩, ⟨("with_fact", none), "with_fact", "with_fact", defArgs (top 34), defBody (top 34), defScope (top 34), [], []⟩, ⟨("bounds_of", none), "bounds_of", "bounds_of", defArgs (top 35), defBody (top 35), defScope (top 35), [], []⟩, ⟨("is_story_value", none), "is_story_value", "is_story_value", defArgs (top 36), defBody (top 36), defScope (top 36), [], []⟩, ⟨("keeps", none), "keeps", "keeps", defArgs (top 37), defBody (top 37), defScope (top 37), [], []⟩, ⟨("are_hours", none), "are_hours", "are_hours", defArgs (top 38), defBody (top 38), defScope (top 38), [], []⟩, ⟨("need_story", none), "need_story", "need_story", defArgs (top 39), defBody (top 39), defScope (top 39), [], []⟩, ⟨("is_story", none), "is_story", "is_story", defArgs (top 40), defBody (top 40), defScope (top 40), [], []⟩, ⟨("is_hours", none), "is_hours", "is_hours", defArgs (top 41), defBody (top 41), defScope (top 41), [], []⟩, ⟨("_law_deck", none), "_law_deck", "_law_deck", defArgs (top 43), defBody (top 43), defScope (top 43), [], []⟩, ⟨("_law_pick", none), "_law_pick", "_law_pick", defArgs (top 44), defBody (top 44), defScope (top 44), [], []⟩, ⟨("_law_whole", none), "_law_whole", "_law_whole", defArgs (top 45), defBody (top 45), defScope (top 45), [], []⟩, ⟨("_law_one", none), "_law_one", "_law_one", defArgs (top 46), defBody (top 46), defScope (top 46), [], []⟩, ⟨("_law_sort", none), "_law_sort", "_law_sort", defArgs (top 47), defBody (top 47), defScope (top 47), [], []⟩, ⟨("_law_same", none), "_law_same", "_law_same", defArgs (top 48), defBody (top 48), defScope (top 48), [], []⟩, ⟨("_law_kin", none), "_law_kin", "_law_kin", defArgs (top 49), defBody (top 49), defScope (top 49), [], []⟩, ⟨("_law_try", none), "_law_try", "_law_try", defArgs (top 50), defBody (top 50), defScope (top 50), [], []⟩, ⟨("_law_event", none), "_law_event", "_law_event", defArgs (top 51), defBody (top 51), defScope (top 51), [], []⟩, ⟨("_law_end", none), "_law_end", "_law_end", defArgs (top 52), defBody (top 52), defScope (top 52), [], []⟩, ⟨("_law_fact", none), "_law_fact", "_law_fact", defArgs (top 53), defBody (top 53), defScope (top 53), [], []⟩]
def hdd_1 : List He.DefD := [⟨("_law_story", none), "_law_story", "_law_story", defArgs (top 54), defBody (top 54), defScope (top 54), [], []⟩, ⟨("_law_steps", none), "_law_steps", "_law_steps", defArgs (top 55), defBody (top 55), defScope (top 55), [], []⟩, ⟨("_law_early", none), "_law_early", "_law_early", defArgs (top 56), defBody (top 56), defScope (top 56), [], []⟩, ⟨("_law_keeps", none), "_law_keeps", "_law_keeps", defArgs (top 57), defBody (top 57), defScope (top 57), [], []⟩, ⟨("_law_number", none), "_law_number", "_law_number", defArgs (top 58), defBody (top 58), defScope (top 58), [], []⟩, ⟨("_law_is_event", none), "_law_is_event", "_law_is_event", defArgs (top 59), defBody (top 59), defScope (top 59), [], []⟩, ⟨("_law_is_fact", none), "_law_is_fact", "_law_is_fact", defArgs (top 60), defBody (top 60), defScope (top 60), [], []⟩, ⟨("_law_is_story", none), "_law_is_story", "_law_is_story", defArgs (top 61), defBody (top 61), defScope (top 61), [], []⟩, ⟨("_law_spoilt", none), "_law_spoilt", "_law_spoilt", defArgs (top 62), defBody (top 62), defScope (top 62), [], []⟩, ⟨("_law_hours_right", none), "_law_hours_right", "_law_hours_right", defArgs (top 63), defBody (top 63), defScope (top 63), [], []⟩, ⟨("law", none), "law", "law", defArgs (top 64), defBody (top 64), defScope (top 64), [], []⟩]
def hdd : List He.DefD := hdd_0 ++ hdd_1
def hfa_0 : List He.Fa := [.glo "no_bounds", .glo "lesser", .glo "summed", .glo "closer", .glo "with_bound", .glo "is_within", .glo "has_items", .glo "is_event_value", .glo "is_end", .glo "is_fact_value", .glo "is_shape", .glo "with_fact", .glo "bounds_of", .glo "is_story_value", .glo "keeps", .glo "are_hours", .glo "need_story", .glo "is_story", .glo "is_hours", .glo "_law_deck", .glo "_law_pick", .glo "_law_whole", .glo "_law_one", .glo "_law_sort", .glo "_law_same", .glo "_law_kin", .glo "_law_try", .glo "_law_event", .glo "_law_end", .glo "_law_fact"]
def hfa_1 : List He.Fa := [.glo "_law_story", .glo "_law_steps", .glo "_law_early", .glo "_law_keeps", .glo "_law_number", .glo "_law_is_event", .glo "_law_is_fact", .glo "_law_is_story", .glo "_law_spoilt", .glo "_law_hours_right", .glo "law", .glo "TaleError", .glo "InvalidStory", .glo "InvalidHours", .glo "InvalidPerson", .glo "InvalidLevel", .glo "InvalidEvent", .glo "InvalidOrder", .glo "InvalidChain", .glo "InvalidPlan", .glo "InvalidClues", .glo "InvalidFact", .glo "InvalidIndex", .glo "Unlike", .glo "Contradiction", .glo "NothingToUndo", .glo "TooMany", .glo "InvalidText", .exc "InvalidStory", .exc "InvalidHours"]
def hfa_2 : List He.Fa := [.exc "InvalidPerson", .exc "InvalidLevel", .exc "InvalidEvent", .exc "InvalidOrder", .exc "InvalidChain", .exc "InvalidPlan", .exc "InvalidClues", .exc "InvalidFact", .exc "InvalidIndex", .exc "Unlike", .exc "Contradiction", .exc "NothingToUndo", .int "MOST" (1000000000000000000000000000000), .int "MOST_EVENTS" (5), .int "MOST_FACTS" (4), .free "len", .free "all", .free "any", .free "tuple", .free "list", .free "min", .free "max", .free "sum", .free "abs", .free "int", .free "str", .free "bool", .free "sorted", .free "range", .free "set"]
def hfa_3 : List He.Fa := [.free "isinstance", .free "enumerate", .free "zip", .free "dict", .free "ValueError"]
def hfa : List He.Fa := hfa_0 ++ hfa_1 ++ hfa_2 ++ hfa_3
def htf : List He.Defn := [("law", none)]
def hex (K : PySem.W.Frag) : Bool := exB K && tabN K htf
abbrev hR : PySem.W.OpenRow := PySem.W.OpenLaw.row PySem.Challenge.rw_hearsays_k01_stories_recognized
abbrev hHk : PySem.W.Hook := He.hookX 6 hfa hdd [] htf hex
def hob (s : PySem.W.SharedT) : He.AlX := He.obsX 6 hfa hdd [] htf hex (HandSHeadRun.getT s)
theorem hob_eq (s : PySem.W.SharedT) : hob s = hHk.obs s.abs := He.obsX_eq (HandSHeadRun.getT_eq s)
def hnm_0 : List Str := ["no_bounds", "lesser", "summed", "closer", "with_bound", "TaleError", "InvalidStory", "InvalidHours", "InvalidPerson", "InvalidLevel", "InvalidEvent", "InvalidOrder", "InvalidChain", "InvalidPlan", "InvalidClues", "InvalidFact", "InvalidIndex", "Unlike", "Contradiction", "NothingToUndo", "TooMany", "InvalidText", "MOST", "MOST_EVENTS", "MOST_FACTS", "is_within", "has_items", "is_event_value", "is_end", "is_fact_value"]
def hnm_1 : List Str := ["is_shape", "with_fact", "bounds_of", "is_story_value", "keeps", "are_hours", "need_story", "is_story", "is_hours", "_law_deck", "_law_pick", "_law_whole", "_law_one", "_law_sort", "_law_same", "_law_kin", "_law_try", "_law_event", "_law_end", "_law_fact", "_law_story", "_law_steps", "_law_early", "_law_keeps", "_law_number", "_law_is_event", "_law_is_fact", "_law_is_story", "_law_spoilt", "_law_hours_right"]
def hnm : List Str := hnm_0 ++ hnm_1
theorem hrun (w : World) : HandSHeadRun.RunEq hR (PySem.W.view hR.prog [64]) hHk hob 6000 hnm w := by
  intro os
  kernel_rfl
end Z
end
-- T01
section
set_option Elab.async false
set_option linter.all false
set_option maxRecDepth 100000
set_option maxHeartbeats 4000000
namespace Z
open PySem PySem.Spec PyProof.Rows L2
def cs : List (Str × Int) := [("MOST", 1000000000000000000000000000000), ("MOST_EVENTS", 5), ("MOST_FACTS", 4)]
def exs : List Str := ["InvalidStory", "InvalidHours", "InvalidPerson", "InvalidLevel", "InvalidEvent", "InvalidOrder", "InvalidChain", "InvalidPlan", "InvalidClues", "InvalidFact", "InvalidIndex", "Unlike", "Contradiction", "NothingToUndo"]
def n_no_bounds : List Str := ["size", "other", "one"]
def t_no_bounds : Sts := (.cons (.ret (.bi .tuple (.cons (.comp (.bi .tuple (.cons (.comp (.ite (.cmp .eq (.var 2) (.var 1)) (.int 0) .non) (.nm 1) (.rng1 (.var 0)) .none [1]) .nil)) (.nm 2) (.rng1 (.var 0)) .none [2]) .nil))) .nil)
def f_no_bounds : Fn := ⟨"no_bounds", 1, 1, semD 3 t_no_bounds [] []⟩
def n_lesser : List Str := ["one", "other"]
def t_lesser : Sts := (.cons (.iff (.or (.cons (.cmp .isN (.var 0) .non) (.cons (.cmp .isN (.var 1) .non) .nil))) (.cons (.ret (.ite (.cmp .isN (.var 1) .non) (.var 0) (.var 1))) .nil) .nil) (.cons (.ret (.bi .min2 (.cons (.var 0) (.cons (.var 1) .nil)))) .nil))
def f_lesser : Fn := ⟨"lesser", 2, 1, semD 2 t_lesser [] []⟩
def n_summed : List Str := ["one", "other"]
def t_summed : Sts := (.cons (.ret (.ite (.or (.cons (.cmp .isN (.var 0) .non) (.cons (.cmp .isN (.var 1) .non) .nil))) .non (.op .add (.var 0) (.var 1)))) .nil)
def f_summed : Fn := ⟨"summed", 2, 1, semD 2 t_summed [] []⟩
def n_closer : List Str := ["bounds", "first", "second", "one", "other", "most"]
def t_closer : Sts := (.cons (.ret (.call f_lesser (.val (.ix (.ix (.var 0) (.var 1)) (.var 2)) (.val (.call f_summed (.val (.call f_summed (.val (.ix (.ix (.var 0) (.var 1)) (.var 3)) (.val (.var 5) .nil))) (.val (.ix (.ix (.var 0) (.var 4)) (.var 2)) .nil))) .nil)))) .nil)
def f_closer : Fn := ⟨"closer", 6, 2, semD 6 t_closer [] []⟩
def n_with_bound : List Str := ["bounds", "one", "other", "most", "back", "size", "second", "first"]
def t_with_bound : Sts := (.cons (.iff (.cmp .isN (.var 0) .non) (.cons (.ret .non) .nil) .nil) (.cons (.set 4 (.ix (.ix (.var 0) (.var 2)) (.var 1))) (.cons (.iff (.and (.cons (.cmp .notN (.var 4) .non) (.cons (.cmp .lt (.op .add (.var 4) (.var 3)) (.int 0)) .nil))) (.cons (.ret .non) .nil) .nil) (.cons (.iff (.and (.cons (.cmp .notN (.ix (.ix (.var 0) (.var 1)) (.var 2)) .non) (.cons (.cmp .le (.ix (.ix (.var 0) (.var 1)) (.var 2)) (.var 3)) .nil))) (.cons (.ret (.var 0)) .nil) .nil) (.cons (.set 5 (.bi .listR (.cons (.bi .len (.cons (.var 0) .nil)) .nil))) (.cons (.ret (.bi .tuple (.cons (.comp (.bi .tuple (.cons (.comp (.call f_closer (.val (.var 0) (.val (.var 7) (.val (.var 6) (.val (.var 1) (.val (.var 2) (.val (.var 3) .nil))))))) (.nm 6) (.seq (.var 5)) .none [6]) .nil)) (.nm 7) (.seq (.var 5)) .none [7]) .nil))) .nil))))))
def f_with_bound : Fn := ⟨"with_bound", 4, 3, semD 8 t_with_bound [] []⟩
def n_is_within : List Str := ["value", "low", "high"]
def t_is_within : Sts := (.cons (.ret (.and (.cons (.bi .isInt (.cons (.var 0) .nil)) (.cons (.not (.bi .isBool (.cons (.var 0) .nil))) (.cons (.chain .le .le (.var 1) (.var 0) (.var 2)) .nil))))) .nil)
def f_is_within : Fn := ⟨"is_within", 3, 1, semD 3 t_is_within [] []⟩
def n_has_items : List Str := ["value", "low", "high"]
def t_has_items : Sts := (.cons (.ret (.and (.cons (.bi .isTup (.cons (.var 0) .nil)) (.cons (.chain .le .le (.var 1) (.bi .len (.cons (.var 0) .nil)) (.var 2)) .nil)))) .nil)
def f_has_items : Fn := ⟨"has_items", 3, 1, semD 3 t_has_items [] []⟩
def n_is_event_value : List Str := ["many", "value", "one", "other"]
def t_is_event_value : Sts := (.cons (.iff (.or (.cons (.not (.call f_has_items (.val (.var 1) (.val (.int 2) (.val (.int 3) .nil))))) (.cons (.not (.bi .isStr (.cons (.ix (.var 1) (.int 0)) .nil))) .nil))) (.cons (.ret (.bl false)) .nil) .nil) (.cons (.iff (.cmp .eq (.ix (.var 1) (.int 0)) (.str (Str.ofString "learn"))) (.cons (.ret (.and (.cons (.cmp .eq (.bi .len (.cons (.var 1) .nil)) (.int 3)) (.cons (.call f_is_within (.val (.ix (.var 1) (.int 1)) (.val (.int 0) (.val (.op .sub (.var 0) (.int 1)) .nil)))) (.cons (.call f_is_within (.val (.ix (.var 1) (.int 2)) (.val (.int 1) (.val (.int 2) .nil)))) .nil))))) .nil) .nil) (.cons (.iff (.or (.cons (.cmp .ne (.ix (.var 1) (.int 0)) (.str (Str.ofString "meet"))) (.cons (.cmp .ne (.bi .len (.cons (.var 1) .nil)) (.int 2)) (.cons (.not (.call f_has_items (.val (.ix (.var 1) (.int 1)) (.val (.int 2) (.val (.var 0) .nil))))) .nil)))) (.cons (.ret (.bl false)) .nil) .nil)
  (.cons (.iff (.not (.bi .all (.cons (.comp (.call f_is_within (.val (.var 2) (.val (.int 0) (.val (.op .sub (.var 0) (.int 1)) .nil)))) (.nm 2) (.seq (.ix (.var 1) (.int 1))) .none [2]) .nil))) (.cons (.ret (.bl false)) .nil) .nil) (.cons (.ret (.bi .all (.cons (.comp (.cmp .lt (.var 2) (.var 3)) (.tup (.cons (.nm 2) (.cons (.nm 3) .nil))) (.zip (.ix (.var 1) (.int 1)) (.slc (.ix (.var 1) (.int 1)) (.some (.int 1)) .none)) .none [2, 3]) .nil))) .nil)))))
def f_is_event_value : Fn := ⟨"is_event_value", 2, 2, semD 4 t_is_event_value [] []⟩
def n_is_end : List Str := ["value"]
def t_is_end : Sts := (.cons (.ret (.or (.cons (.cmp .isN (.var 0) .non) (.cons (.call f_is_within (.val (.var 0) (.val (.neg (.int 1000000000000000000000000000000)) (.val (.int 1000000000000000000000000000000) .nil)))) .nil)))) .nil)
def f_is_end : Fn := ⟨"is_end", 1, 2, semD 1 t_is_end [] []⟩
def n_is_fact_value : List Str := ["size", "value"]
def t_is_fact_value : Sts := (.cons (.iff (.or (.cons (.not (.call f_has_items (.val (.var 1) (.val (.int 4) (.val (.int 4) .nil))))) (.cons (.not (.call f_is_within (.val (.ix (.var 1) (.int 0)) (.val (.int 0) (.val (.op .sub (.var 0) (.int 1)) .nil))))) (.cons (.not (.call f_is_within (.val (.ix (.var 1) (.int 1)) (.val (.int 0) (.val (.op .sub (.var 0) (.int 1)) .nil))))) .nil)))) (.cons (.ret (.bl false)) .nil) .nil) (.cons (.iff (.or (.cons (.cmp .eq (.ix (.var 1) (.int 0)) (.ix (.var 1) (.int 1))) (.cons (.not (.call f_is_end (.val (.ix (.var 1) (.int 2)) .nil))) (.cons (.not (.call f_is_end (.val (.ix (.var 1) (.int 3)) .nil))) .nil)))) (.cons (.ret (.bl false)) .nil) .nil) (.cons (.iff (.or (.cons (.cmp .isN (.ix (.var 1) (.int 2)) .non) (.cons (.cmp .isN (.ix (.var 1) (.int 3)) .non) .nil))) (.cons (.ret (.cmp .ne (.ix (.var 1) (.int 2)) (.ix (.var 1) (.int 3)))) .nil) .nil) (.cons (.ret (.cmp .le (.ix (.var
  1) (.int 2)) (.ix (.var 1) (.int 3)))) .nil))))
def f_is_fact_value : Fn := ⟨"is_fact_value", 2, 3, semD 2 t_is_fact_value [] []⟩
def n_is_shape : List Str := ["value", "one"]
def t_is_shape : Sts := (.cons (.iff (.or (.cons (.not (.call f_has_items (.val (.var 0) (.val (.int 3) (.val (.int 3) .nil))))) (.cons (.not (.call f_is_within (.val (.ix (.var 0) (.int 0)) (.val (.int 2) (.val (.int 5) .nil))))) (.cons (.not (.call f_has_items (.val (.ix (.var 0) (.int 1)) (.val (.int 1) (.val (.int 5) .nil))))) .nil)))) (.cons (.ret (.bl false)) .nil) .nil) (.cons (.iff (.or (.cons (.not (.bi .all (.cons (.comp (.call f_is_event_value (.val (.ix (.var 0) (.int 0)) (.val (.var 1) .nil))) (.nm 1) (.seq (.ix (.var 0) (.int 1))) .none [1]) .nil))) (.cons (.not (.call f_has_items (.val (.ix (.var 0) (.int 2)) (.val (.int 0) (.val (.int 4) .nil))))) .nil))) (.cons (.ret (.bl false)) .nil) .nil) (.cons (.ret (.bi .all (.cons (.comp (.call f_is_fact_value (.val (.bi .len (.cons (.ix (.var 0) (.int 1)) .nil)) (.val (.var 1) .nil))) (.nm 1) (.seq (.ix (.var 0) (.int 2))) .none [1]) .nil))) .nil)))
def f_is_shape : Fn := ⟨"is_shape", 1, 4, semD 2 t_is_shape [] []⟩
def n_with_fact : List Str := ["bounds", "fact", "one", "other", "low", "high"]
def t_with_fact : Sts := (.cons (.asg (.tup (.cons (.nm 2) (.cons (.nm 3) (.cons (.nm 4) (.cons (.nm 5) .nil))))) (.var 1)) (.cons (.iff (.cmp .notN (.var 4) .non) (.cons (.set 0 (.call f_with_bound (.val (.var 0) (.val (.var 2) (.val (.var 3) (.val (.neg (.var 4)) .nil)))))) .nil) .nil) (.cons (.iff (.cmp .notN (.var 5) .non) (.cons (.set 0 (.call f_with_bound (.val (.var 0) (.val (.var 3) (.val (.var 2) (.val (.var 5) .nil)))))) .nil) .nil) (.cons (.ret (.var 0)) .nil))))
def f_with_fact : Fn := ⟨"with_fact", 2, 4, semD 6 t_with_fact [] []⟩
def n_bounds_of : List Str := ["story", "bounds", "fact"]
def t_bounds_of : Sts := (.cons (.set 1 (.call f_no_bounds (.val (.bi .len (.cons (.ix (.var 0) (.int 1)) .nil)) .nil))) (.cons (.for_ (.nm 2) (.seq (.ix (.var 0) (.int 2))) (.cons (.set 1 (.call f_with_fact (.val (.var 1) (.val (.var 2) .nil)))) .nil)) (.cons (.ret (.var 1)) .nil)))
def f_bounds_of : Fn := ⟨"bounds_of", 1, 5, semD 3 t_bounds_of [] []⟩
def n_is_story_value : List Str := ["value"]
def t_is_story_value : Sts := (.cons (.ret (.and (.cons (.call f_is_shape (.val (.var 0) .nil)) (.cons (.cmp .notN (.call f_bounds_of (.val (.var 0) .nil)) .non) .nil)))) .nil)
def f_is_story_value : Fn := ⟨"is_story_value", 1, 6, semD 1 t_is_story_value [] []⟩
def n_keeps : List Str := ["hours", "fact", "one", "other", "low", "high", "gap"]
def t_keeps : Sts := (.cons (.asg (.tup (.cons (.nm 2) (.cons (.nm 3) (.cons (.nm 4) (.cons (.nm 5) .nil))))) (.var 1)) (.cons (.set 6 (.op .sub (.ix (.var 0) (.var 3)) (.ix (.var 0) (.var 2)))) (.cons (.ret (.and (.cons (.or (.cons (.cmp .isN (.var 4) .non) (.cons (.cmp .ge (.var 6) (.var 4)) .nil))) (.cons (.or (.cons (.cmp .isN (.var 5) .non) (.cons (.cmp .le (.var 6) (.var 5)) .nil))) .nil)))) .nil)))
def f_keeps : Fn := ⟨"keeps", 2, 1, semD 7 t_keeps [] []⟩
def n_are_hours : List Str := ["story", "value", "size", "one", "fact"]
def t_are_hours : Sts := (.cons (.set 2 (.bi .len (.cons (.ix (.var 0) (.int 1)) .nil))) (.cons (.iff (.or (.cons (.not (.call f_has_items (.val (.var 1) (.val (.var 2) (.val (.var 2) .nil))))) (.cons (.not (.bi .all (.cons (.comp (.call f_is_within (.val (.var 3) (.val (.op .mul (.neg (.int 10)) (.int 1000000000000000000000000000000)) (.val (.op .mul (.int 10) (.int 1000000000000000000000000000000)) .nil)))) (.nm 3) (.seq (.var 1)) .none [3]) .nil))) .nil))) (.cons (.ret (.bl false)) .nil) .nil) (.cons (.ret (.bi .all (.cons (.comp (.call f_keeps (.val (.var 1) (.val (.var 4) .nil))) (.nm 4) (.seq (.ix (.var 0) (.int 2))) .none [4]) .nil))) .nil)))
def f_are_hours : Fn := ⟨"are_hours", 2, 2, semD 5 t_are_hours [] []⟩
def n_need_story : List Str := ["value"]
def t_need_story : Sts := (.cons (.iff (.not (.call f_is_story_value (.val (.var 0) .nil))) (.cons (.rais (Str.ofString "InvalidStory") .none) .nil) .nil) .nil)
def f_need_story : Fn := ⟨"need_story", 1, 7, semD 1 t_need_story [] []⟩
def n_is_story : List Str := ["value"]
def t_is_story : Sts := (.cons (.ret (.call f_is_story_value (.val (.var 0) .nil))) .nil)
def f_is_story : Fn := ⟨"is_story", 1, 7, semD 1 t_is_story [] []⟩
def n_is_hours : List Str := ["story", "value"]
def t_is_hours : Sts := (.cons (.expr (.call f_need_story (.val (.var 0) .nil))) (.cons (.ret (.call f_are_hours (.val (.var 0) (.val (.var 1) .nil)))) .nil))
def f_is_hours : Fn := ⟨"is_hours", 2, 8, semD 2 t_is_hours [] []⟩
def n__law_whole : List Str := ["_law_thing"]
def t__law_whole : Sts := (.cons (.ret (.and (.cons (.bi .isInt (.cons (.var 0) .nil)) (.cons (.not (.bi .isBool (.cons (.var 0) .nil))) .nil)))) .nil)
def f__law_whole : Fn := ⟨"_law_whole", 1, 1, semD 1 t__law_whole [] []⟩
def n__law_one : List Str := ["_law_deck_here", "_law_some"]
def t__law_one : Sts := (.cons (.ret (.ix (.var 1) (.call fPick (.deck 0 (.val (.bi .len (.cons (.var 1) .nil)) .nil))))) .nil)
def f__law_one : Fn := ⟨"_law_one", 2, 2, semD 2 t__law_one [0] []⟩
def n__law_sort : List Str := ["_law_thing"]
def t__law_sort : Sts := (.cons (.iff (.bi .isBool (.cons (.var 0) .nil)) (.cons (.ret (.int 1)) .nil) .nil) (.cons (.iff (.bi .isInt (.cons (.var 0) .nil)) (.cons (.ret (.int 2)) .nil) .nil) (.cons (.iff (.bi .isStr (.cons (.var 0) .nil)) (.cons (.ret (.int 3)) .nil) .nil) (.cons (.iff (.bi .isLst (.cons (.var 0) .nil)) (.cons (.ret (.int 4)) .nil) .nil) (.cons (.ret (.ite (.bi .isTup (.cons (.var 0) .nil)) (.int 5) (.int 6))) .nil)))))
def f__law_sort : Fn := ⟨"_law_sort", 1, 1, semD 1 t__law_sort [] []⟩
def n__law_same : List Str := ["_law_told", "_law_due", "_law_k", "_law_part"]
def t__law_same (fr : Fn) : Sts := (.cons (.iff (.cmp .ne (.call f__law_sort (.val (.var 0) .nil)) (.call f__law_sort (.val (.var 1) .nil))) (.cons (.ret (.bl false)) .nil) .nil) (.cons (.iff (.and (.cons (.cmp .gt (.call f__law_sort (.val (.var 0) .nil)) (.int 3)) (.cons (.cmp .lt (.call f__law_sort (.val (.var 0) .nil)) (.int 6)) .nil))) (.cons (.iff (.cmp .ne (.bi .len (.cons (.var 0) .nil)) (.bi .len (.cons (.var 1) .nil))) (.cons (.ret (.bl false)) .nil) .nil) (.cons (.ret (.cmp .eq (.comp (.var 2) (.tup (.cons (.nm 2) (.cons (.nm 3) .nil))) (.enum (.var 0)) (.some (.not (.call fr (.val (.var 3) (.val (.ix (.var 1) (.var 2)) .nil))))) [2, 3]) (.lst .nil))) .nil)) .nil) (.cons (.ret (.cmp .eq (.var 0) (.var 1))) .nil)))
def f__law_same_ : Nat → Fn
  | 0 => ⟨"_law_same", 2, 1, fun _ => stuck⟩
  | k + 1 => ⟨"_law_same", 2, k + 2, semD 4 (t__law_same (f__law_same_ k)) [] []⟩
def f__law_same : Fn := f__law_same_ 12
def n__law_event : List Str := ["_law_deck_here", "_law_many", "_law_first", "_law_there", "_law_one_here"]
def t__law_event : Sts := (.cons (.iff (.or (.cons (.var 2) (.cons (.cmp .eq (.call fPick (.deck 0 (.val (.int 7) .nil))) (.int 0)) .nil))) (.cons (.ret (.tup (.cons (.str (Str.ofString "learn")) (.cons (.call fPick (.deck 0 (.val (.var 1) .nil))) (.cons (.ite (.cmp .gt (.call fPick (.deck 0 (.val (.int 3) .nil))) (.int 0)) (.int 1) (.int 2)) .nil))))) .nil) .nil) (.cons (.set 3 (.comp (.var 4) (.nm 4) (.rng1 (.var 1)) (.some (.cmp .eq (.call fPick (.deck 0 (.val (.int 2) .nil))) (.int 0))) [4])) (.cons (.iff (.cmp .lt (.bi .len (.cons (.var 3) .nil)) (.int 2)) (.cons (.set 4 (.call fPick (.deck 0 (.val (.var 1) .nil)))) (.cons (.set 3 (.bi .sorted (.cons (.lst (.cons (.var 4) (.cons (.op .mod (.op .add (.op .add (.var 4) (.int 1)) (.call fPick (.deck 0 (.val (.op .sub (.var 1) (.int 1)) .nil)))) (.var 1)) .nil))) .nil))) .nil)) .nil) (.cons (.ret (.tup (.cons (.str
  (Str.ofString "meet")) (.cons (.bi .tuple (.cons (.var 3) .nil)) .nil)))) .nil))))
def f__law_event : Fn := ⟨"_law_event", 3, 2, semD 5 t__law_event [0] []⟩
def n__law_end : List Str := ["_law_deck_here", "_law_wide"]
def t__law_end : Sts := (.cons (.ret (.call f__law_one (.deck 0 (.val (.lst (.cons (.int 0) (.cons (.int 0) (.cons (.int 1) (.cons (.int 1) (.cons (.int 2) (.cons (.neg (.int 1)) (.cons (.int 3) (.cons (.var 1) .nil))))))))) .nil)))) .nil)
def f__law_end : Fn := ⟨"_law_end", 2, 3, semD 2 t__law_end [0] []⟩
def n__law_fact : List Str := ["_law_deck_here", "_law_size", "_law_wide", "_law_one_here", "_law_other", "_law_low"]
def t__law_fact : Sts := (.cons (.set 3 (.call fPick (.deck 0 (.val (.var 1) .nil)))) (.cons (.set 4 (.op .mod (.op .add (.op .add (.var 3) (.int 1)) (.call fPick (.deck 0 (.val (.op .sub (.var 1) (.int 1)) .nil)))) (.var 1))) (.cons (.set 5 (.call f__law_one (.deck 0 (.val (.lst (.cons .non (.cons (.call f__law_end (.deck 0 (.val (.var 2) .nil))) (.cons (.call f__law_end (.deck 0 (.val (.var 2) .nil))) .nil)))) .nil)))) (.cons (.iff (.cmp .isN (.var 5) .non) (.cons (.ret (.tup (.cons (.var 3) (.cons (.var 4) (.cons .non (.cons (.call f__law_end (.deck 0 (.val (.var 2) .nil))) .nil)))))) .nil) .nil) (.cons (.ret (.tup (.cons (.var 3) (.cons (.var 4) (.cons (.var 5) (.cons (.call f__law_one (.deck 0 (.val (.lst (.cons .non (.cons .non (.cons (.bi .min2 (.cons (.op .pow (.int 10) (.int 30)) (.cons (.op .add (.var 5) (.call fPick (.deck 0 (.val (.int 3) .nil)))) .nil))) .nil)))) .nil))) .nil))))))
  .nil)))))
def f__law_fact : Fn := ⟨"_law_fact", 3, 4, semD 6 t__law_fact [0] []⟩
def n__law_steps : List Str := ["_law_bonds", "_law_found", "_law_one_here", "_law_other", "_law_low", "_law_high"]
def t__law_steps : Sts := (.cons (.setO 1 (.lst .nil)) (.cons (.for_ (.tup (.cons (.nm 2) (.cons (.nm 3) (.cons (.nm 4) (.cons (.nm 5) .nil))))) (.seq (.var 0)) (.cons (.iff (.cmp .notN (.var 4) .non) (.cons (.app 1 (.tup (.cons (.var 2) (.cons (.var 3) (.cons (.var 4) .nil))))) .nil) .nil) (.cons (.iff (.cmp .notN (.var 5) .non) (.cons (.app 1 (.tup (.cons (.var 3) (.cons (.var 2) (.cons (.neg (.var 5)) .nil))))) .nil) .nil) .nil))) (.cons (.freeze 1) (.cons (.ret (.var 1)) .nil))))
def f__law_steps : Fn := ⟨"_law_steps", 1, 1, semD 6 t__law_steps [] []⟩
def n__law_early : List Str := ["_law_story_here", "_law_more", "_law_steps_here", "_law_found", "_law_turn", "_law_calm", "_law_one_here", "_law_other", "_law_least"]
def t__law_early : Sts := (.cons (.par (.cons (.nm 2) (.cons (.ow 3) .nil)) (.cons (.op .add (.call f__law_steps (.val (.ix (.var 0) (.int 2)) .nil)) (.bi .list (.cons (.var 1) .nil))) (.cons (.op .mul (.lst (.cons (.int 0) .nil)) (.bi .len (.cons (.ix (.var 0) (.int 1)) .nil))) .nil))) (.cons (.for_ (.nm 4) (.rng1 (.op .add (.bi .len (.cons (.ix (.var 0) (.int 1)) .nil)) (.int 2))) (.cons (.set 5 (.bl true)) (.cons (.for_ (.tup (.cons (.nm 6) (.cons (.nm 7) (.cons (.nm 8) .nil)))) (.seq (.var 2)) (.cons (.iff (.cmp .lt (.ix (.own 3) (.var 7)) (.op .add (.ix (.own 3) (.var 6)) (.var 8))) (.cons (.par (.cons (.ix 3 (.var 7)) (.cons (.nm 5) .nil)) (.cons (.op .add (.ix (.own 3) (.var 6)) (.var 8)) (.cons (.bl false) .nil))) .nil) .nil) .nil)) (.cons (.iff (.var 5) (.cons (.freeze 3) (.cons (.ret (.var 3)) .nil)) .nil) .nil)))) (.cons (.ret .non) .nil)))
def f__law_early : Fn := ⟨"_law_early", 2, 2, semD 9 t__law_early [] []⟩
def n__law_story : List Str := ["_law_deck_here", "_law_most", "_law_wide", "_law_many", "_law_size", "_law_events", "_law_bonds", "_law_at", "_law_turn", "_law_more"]
def t__law_story : Sts := (.cons (.par (.cons (.nm 3) (.cons (.nm 4) .nil)) (.cons (.op .add (.int 2) (.call fPick (.deck 0 (.val (.int 4) .nil)))) (.cons (.op .add (.int 1) (.call fPick (.deck 0 (.val (.var 1) .nil)))) .nil))) (.cons (.par (.cons (.nm 5) (.cons (.nm 6) .nil)) (.cons (.bi .tuple (.cons (.comp (.call f__law_event (.deck 0 (.val (.var 3) (.val (.cmp .eq (.var 7) (.int 0)) .nil)))) (.nm 7) (.rng1 (.var 4)) .none [7]) .nil)) (.cons (.tup .nil) .nil))) (.cons (.for_ (.nm 8) (.rng1 (.ite (.cmp .gt (.var 4) (.int 1)) (.call fPick (.deck 0 (.val (.int 5) .nil))) (.int 0))) (.cons (.set 9 (.op .add (.var 6) (.tup (.cons (.call f__law_fact (.deck 0 (.val (.var 4) (.val (.var 2) .nil)))) .nil)))) (.cons (.iff (.cmp .notN (.call f__law_early (.val (.tup (.cons (.var 3) (.cons (.var 5) (.cons (.var 9) .nil)))) (.val (.tup .nil) .nil))) .non) (.cons (.set 6 (.var 9)) .nil) .nil) .nil))) (.cons
  (.ret (.tup (.cons (.var 3) (.cons (.var 5) (.cons (.var 6) .nil))))) .nil))))
def f__law_story : Fn := ⟨"_law_story", 3, 5, semD 10 t__law_story [0] []⟩
def n__law_keeps : List Str := ["_law_hours", "_law_bonds", "_law_one_here", "_law_other", "_law_low", "_law_high", "_law_gap"]
def t__law_keeps : Sts := (.cons (.for_ (.tup (.cons (.nm 2) (.cons (.nm 3) (.cons (.nm 4) (.cons (.nm 5) .nil))))) (.seq (.var 1)) (.cons (.set 6 (.op .sub (.ix (.var 0) (.var 3)) (.ix (.var 0) (.var 2)))) (.cons (.iff (.or (.cons (.and (.cons (.cmp .notN (.var 4) .non) (.cons (.cmp .lt (.var 6) (.var 4)) .nil))) (.cons (.and (.cons (.cmp .notN (.var 5) .non) (.cons (.cmp .gt (.var 6) (.var 5)) .nil))) .nil))) (.cons (.ret (.bl false)) .nil) .nil) .nil))) (.cons (.ret (.bl true)) .nil))
def f__law_keeps : Fn := ⟨"_law_keeps", 2, 1, semD 7 t__law_keeps [] []⟩
def n__law_number : List Str := ["_law_thing", "_law_low", "_law_high"]
def t__law_number : Sts := (.cons (.ret (.and (.cons (.call f__law_whole (.val (.var 0) .nil)) (.cons (.chain .le .le (.var 1) (.var 0) (.var 2)) .nil)))) .nil)
def f__law_number : Fn := ⟨"_law_number", 3, 2, semD 3 t__law_number [] []⟩
def n__law_is_event : List Str := ["_law_many", "_law_thing", "_law_one_here"]
def t__law_is_event : Sts := (.cons (.iff (.or (.cons (.not (.bi .isTup (.cons (.var 1) .nil))) (.cons (.cmp .nin (.bi .len (.cons (.var 1) .nil)) (.lst (.cons (.int 2) (.cons (.int 3) .nil)))) (.cons (.not (.bi .isStr (.cons (.ix (.var 1) (.int 0)) .nil))) .nil)))) (.cons (.ret (.bl false)) .nil) .nil) (.cons (.iff (.cmp .eq (.ix (.var 1) (.int 0)) (.str (Str.ofString "learn"))) (.cons (.iff (.or (.cons (.cmp .ne (.bi .len (.cons (.var 1) .nil)) (.int 3)) (.cons (.not (.call f__law_number (.val (.ix (.var 1) (.int 1)) (.val (.int 0) (.val (.op .sub (.var 0) (.int 1)) .nil))))) .nil))) (.cons (.ret (.bl false)) .nil) .nil) (.cons (.ret (.call f__law_number (.val (.ix (.var 1) (.int 2)) (.val (.int 1) (.val (.int 2) .nil))))) .nil)) .nil) (.cons (.iff (.or (.cons (.cmp .ne (.ix (.var 1) (.int 0)) (.str (Str.ofString "meet"))) (.cons (.cmp .ne (.bi .len (.cons (.var 1) .nil)) (.int 2)) (.cons (.not (.bi .isTup (.cons
  (.ix (.var 1) (.int 1)) .nil))) .nil)))) (.cons (.ret (.bl false)) .nil) .nil) (.cons (.iff (.not (.chain .le .le (.int 2) (.bi .len (.cons (.ix (.var 1) (.int 1)) .nil)) (.var 0))) (.cons (.ret (.bl false)) .nil) .nil) (.cons (.iff (.cmp .ne (.comp (.var 2) (.nm 2) (.seq (.ix (.var 1) (.int 1))) (.some (.not (.call f__law_number (.val (.var 2) (.val (.int 0) (.val (.op .sub (.var 0) (.int 1)) .nil)))))) [2]) (.lst .nil)) (.cons (.ret (.bl false)) .nil) .nil) (.cons (.ret (.cmp .eq (.bi .list (.cons (.ix (.var 1) (.int 1)) .nil)) (.bi .sortedSet (.cons (.ix (.var 1) (.int 1)) .nil)))) .nil))))))
def f__law_is_event : Fn := ⟨"_law_is_event", 2, 3, semD 3 t__law_is_event [] []⟩
def n__law_is_fact : List Str := ["_law_size", "_law_thing", "_law_one_here", "_law_ends", "_law_end_here"]
def t__law_is_fact : Sts := (.cons (.iff (.or (.cons (.not (.bi .isTup (.cons (.var 1) .nil))) (.cons (.cmp .ne (.bi .len (.cons (.var 1) .nil)) (.int 4)) .nil))) (.cons (.ret (.bl false)) .nil) .nil) (.cons (.iff (.or (.cons (.cmp .ne (.comp (.var 2) (.nm 2) (.seq (.slc (.var 1) .none (.some (.int 2)))) (.some (.not (.call f__law_number (.val (.var 2) (.val (.int 0) (.val (.op .sub (.var 0) (.int 1)) .nil)))))) [2]) (.lst .nil)) (.cons (.cmp .eq (.ix (.var 1) (.int 0)) (.ix (.var 1) (.int 1))) .nil))) (.cons (.ret (.bl false)) .nil) .nil) (.cons (.set 3 (.comp (.var 4) (.nm 4) (.seq (.slc (.var 1) (.some (.int 2)) .none)) (.some (.cmp .notN (.var 4) .non)) [4])) (.cons (.iff (.cmp .ne (.comp (.var 4) (.nm 4) (.seq (.var 3)) (.some (.not (.call f__law_number (.val (.var 4) (.val (.neg (.op .pow (.int 10) (.int 30))) (.val (.op .pow (.int 10) (.int 30)) .nil)))))) [4]) (.lst .nil)) (.cons (.ret (.bl false)) .nil)
  .nil) (.cons (.iff (.or (.cons (.cmp .isN (.ix (.var 1) (.int 2)) .non) (.cons (.cmp .isN (.ix (.var 1) (.int 3)) .non) .nil))) (.cons (.ret (.or (.cons (.cmp .notN (.ix (.var 1) (.int 2)) .non) (.cons (.cmp .notN (.ix (.var 1) (.int 3)) .non) .nil)))) .nil) .nil) (.cons (.ret (.cmp .le (.ix (.var 1) (.int 2)) (.ix (.var 1) (.int 3)))) .nil))))))
def f__law_is_fact : Fn := ⟨"_law_is_fact", 2, 3, semD 5 t__law_is_fact [] []⟩
def n__law_is_story : List Str := ["_law_thing", "_law_many", "_law_events", "_law_facts", "_law_one_here"]
def t__law_is_story : Sts := (.cons (.iff (.or (.cons (.not (.bi .isTup (.cons (.var 0) .nil))) (.cons (.cmp .ne (.bi .len (.cons (.var 0) .nil)) (.int 3)) (.cons (.not (.call f__law_number (.val (.ix (.var 0) (.int 0)) (.val (.int 2) (.val (.int 5) .nil))))) .nil)))) (.cons (.ret (.bl false)) .nil) .nil) (.cons (.asg (.tup (.cons (.nm 1) (.cons (.nm 2) (.cons (.nm 3) .nil)))) (.var 0)) (.cons (.iff (.or (.cons (.not (.bi .isTup (.cons (.var 2) .nil))) (.cons (.not (.chain .le .le (.int 1) (.bi .len (.cons (.var 2) .nil)) (.int 5))) .nil))) (.cons (.ret (.bl false)) .nil) .nil) (.cons (.iff (.cmp .ne (.comp (.var 4) (.nm 4) (.seq (.var 2)) (.some (.not (.call f__law_is_event (.val (.var 1) (.val (.var 4) .nil))))) [4]) (.lst .nil)) (.cons (.ret (.bl false)) .nil) .nil) (.cons (.iff (.or (.cons (.not (.bi .isTup (.cons (.var 3) .nil))) (.cons (.cmp .gt (.bi .len (.cons (.var 3) .nil)) (.int 4)) .nil))) (.cons (.ret
  (.bl false)) .nil) .nil) (.cons (.iff (.cmp .ne (.comp (.var 4) (.nm 4) (.seq (.var 3)) (.some (.not (.call f__law_is_fact (.val (.bi .len (.cons (.var 2) .nil)) (.val (.var 4) .nil))))) [4]) (.lst .nil)) (.cons (.ret (.bl false)) .nil) .nil) (.cons (.ret (.cmp .notN (.call f__law_early (.val (.var 0) (.val (.tup .nil) .nil))) .non)) .nil)))))))
def f__law_is_story : Fn := ⟨"_law_is_story", 1, 4, semD 5 t__law_is_story [] []⟩
def n__law_spoilt : List Str := ["_law_deck_here", "_law_thing", "_law_rows", "_law_at", "_law_other", "_law_some"]
def t__law_spoilt (fr : Fn) : Sts := (.cons (.iff (.and (.cons (.bi .isTL (.cons (.var 1) .nil)) (.cons (.cmp .gt (.bi .len (.cons (.var 1) .nil)) (.int 0)) (.cons (.cmp .gt (.call fPick (.deck 0 (.val (.int 7) .nil))) (.int 0)) .nil)))) (.cons (.setO 2 (.bi .list (.cons (.var 1) .nil))) (.cons (.set 3 (.call fPick (.deck 0 (.val (.bi .len (.cons (.own 2) .nil)) .nil)))) (.cons (.setix 2 (.var 3) (.call fr (.deck 0 (.val (.ix (.own 2) (.var 3)) .nil)))) (.cons (.freeze 2) (.cons (.ret (.ite (.bi .isTup (.cons (.var 1) .nil)) (.bi .tuple (.cons (.var 2) .nil)) (.var 2))) .nil))))) .nil) (.cons (.iff (.bi .isTL (.cons (.var 1) .nil)) (.cons (.set 4 (.ite (.bi .isTup (.cons (.var 1) .nil)) (.bi .list (.cons (.var 1) .nil)) (.bi .tuple (.cons (.var 1) .nil)))) (.cons (.set 5 (.lst (.cons (.var 4) (.cons (.op .add (.var 1) (.slc (.var 1) .none (.some (.int 1)))) (.cons (.slc (.var 1) (.some (.int 1)) .none) .nil)))))
  (.cons (.ret (.call f__law_one (.deck 0 (.val (.op .add (.var 5) (.lst (.cons (.rev (.var 1)) (.cons (.tup (.cons (.int 0) (.cons (.int 1) .nil))) (.cons .non .nil))))) .nil)))) .nil))) .nil) (.cons (.iff (.bi .isStr (.cons (.var 1) .nil)) (.cons (.ret (.call f__law_one (.deck 0 (.val (.lst (.cons (.str (Str.ofString "learn")) (.cons (.str (Str.ofString "meet")) (.cons (.str (Str.ofString "")) (.cons .non (.cons (.int 0) (.cons (.str (Str.ofString "Meet")) .nil))))))) .nil)))) .nil) .nil) (.cons (.iff (.call f__law_whole (.val (.var 1) .nil)) (.cons (.set 5 (.lst (.cons (.op .sub (.int 1) (.var 1)) (.cons (.op .add (.var 1) (.int 1)) (.cons (.int 0) (.cons (.bl true) (.cons (.bl false) (.cons .non .nil)))))))) (.cons (.ret (.call f__law_one (.deck 0 (.val (.op .add (.var 5) (.lst (.cons (.str (Str.ofString "1")) (.cons (.neg (.int 5)) (.cons (.int 3) (.cons (.op .pow (.int 10) (.int 31))
  .nil)))))) .nil)))) .nil)) .nil) (.cons (.ret (.call f__law_one (.deck 0 (.val (.lst (.cons .non (.cons (.int 0) (.cons (.str (Str.ofString "x")) (.cons (.tup .nil) (.cons (.lst .nil) (.cons (.bl true) (.cons (.int 5) (.cons (.op .pow (.int 10) (.int 30)) .nil))))))))) .nil)))) .nil)))))
def f__law_spoilt_ : Nat → Fn
  | 0 => ⟨"_law_spoilt", 2, 2, fun _ => stuck⟩
  | k + 1 => ⟨"_law_spoilt", 2, k + 3, semD 6 (t__law_spoilt (f__law_spoilt_ k)) [0] []⟩
def f__law_spoilt : Fn := f__law_spoilt_ 12
def n__law_hours_right : List Str := ["_law_deck_here", "_law_story_here", "_law_first", "_law_some", "_law_turn", "_law_thing", "_law_good", "_law_bad", "_law_one_here"]
def t__law_hours_right : Sts := (.cons (.set 2 (.bi .tuple (.cons (.call f__law_early (.val (.var 1) (.val (.tup .nil) .nil))) .nil))) (.cons (.setO 3 (.lst (.cons (.var 2) (.cons (.op .add (.var 2) (.tup (.cons (.int 0) .nil))) (.cons (.bi .list (.cons (.var 2) .nil)) .nil))))) (.cons (.for_ (.nm 4) (.rng1 (.int 12)) (.cons (.app 3 (.call f__law_spoilt (.deck 0 (.val (.var 2) .nil)))) .nil)) (.cons (.freeze 3) (.cons (.for_ (.nm 5) (.seq (.var 3)) (.cons (.set 6 (.and (.cons (.bi .isTup (.cons (.var 5) .nil)) (.cons (.cmp .eq (.bi .len (.cons (.var 5) .nil)) (.bi .len (.cons (.var 2) .nil))) .nil)))) (.cons (.iff (.var 6) (.cons (.set 7 (.comp (.var 8) (.nm 8) (.seq (.var 5)) (.some (.or (.cons (.not (.call f__law_whole (.val (.var 8) .nil))) (.cons (.cmp .gt (.bi .abs (.cons (.var 8) .nil)) (.op .pow (.int 10) (.int 31))) .nil)))) [8])) (.cons (.set 6 (.and (.cons (.cmp .eq (.var 7) (.lst .nil)) (.cons (.call
  f__law_keeps (.val (.var 5) (.val (.ix (.var 1) (.int 2)) .nil))) .nil)))) .nil)) .nil) (.cons (.iff (.not (.call f__law_same (.val (.call f_is_hours (.val (.var 1) (.val (.var 5) .nil))) (.val (.var 6) .nil)))) (.cons (.ret (.bl false)) .nil) .nil) .nil)))) (.cons (.ret (.bl true)) .nil))))))
def f__law_hours_right : Fn := ⟨"_law_hours_right", 2, 16, semD 9 t__law_hours_right [0] []⟩
def n_law : List Str := ["_law_script", "_law_cell", "_law_deck_here", "_law_story_here", "_law_bent", "_law_some", "_law_thing", "_law_k", "_law_good", "_law_two", "_law_rows", "_law_due", "_law_tight"]
def t_law : Sts := (.cons (.for_ (.nm 1) (.seq (.slc (.op .add (.lst (.cons (.int 0) .nil)) (.var 0)) .none (.some (.int 10)))) (.cons (.mkdeck 2 (.var 1) (.int 1)) (.cons (.set 3 (.call f__law_story (.deck 2 (.val (.int 5) (.val (.op .pow (.int 10) (.int 30)) .nil))))) (.cons (.set 4 (.call f__law_spoilt (.deck 2 (.val (.var 3) .nil)))) (.cons (.set 5 (.lst (.cons (.var 3) (.cons (.var 4) (.cons (.call f__law_spoilt (.deck 2 (.val (.var 4) .nil))) (.cons (.ix (.var 3) (.int 1)) .nil)))))) (.cons (.set 5 (.op .add (.var 5) (.lst (.cons (.bi .list (.cons (.var 3) .nil)) (.cons .non (.cons (.tup .nil) (.cons (.slc (.var 3) .none (.some (.int 2))) .nil))))))) (.cons (.for_ (.nm 6) (.seq (.op .add (.var 5) (.comp (.call f__law_spoilt (.deck 2 (.val (.var 3) .nil))) (.nm 7) (.rng1 (.int 40)) .none [7]))) (.cons (.set 8 (.call f__law_is_story (.val (.var 6) .nil))) (.cons (.iff (.not (.call f__law_same (.val
  (.call f_is_story (.val (.var 6) .nil)) (.val (.var 8) .nil)))) (.cons (.ret (.bl false)) .nil) .nil) (.cons (.iff (.and (.cons (.not (.var 8)) (.cons (.cmp .ne (.tryl (.call f_is_hours (.val (.var 6) (.val .non .nil)))) (.str (Str.ofString "story +"))) .nil))) (.cons (.ret (.bl false)) .nil) .nil) .nil)))) (.cons (.iff (.not (.call f__law_hours_right (.deck 2 (.val (.var 3) .nil)))) (.cons (.ret (.bl false)) .nil) .nil) .nil)))))))) (.cons (.set 9 (.tup (.cons (.tup (.cons (.str (Str.ofString "learn")) (.cons (.int 0) (.cons (.int 1) .nil)))) (.cons (.tup (.cons (.str (Str.ofString "meet")) (.cons (.tup (.cons (.int 0) (.cons (.int 1) .nil))) .nil))) .nil)))) (.cons (.setO 10 (.lst (.cons (.tup (.cons (.int 2) (.cons (.var 9) (.cons (.tup (.cons (.tup (.cons (.int 0) (.cons (.int 1) (.cons (.int 0) (.cons (.int 0) .nil))))) (.cons (.tup (.cons (.int 1) (.cons (.int 0) (.cons (.int 0)
  (.cons .non .nil))))) .nil))) .nil)))) .nil))) (.cons (.app 10 (.tup (.cons (.int 2) (.cons (.var 9) (.cons (.tup (.cons (.tup (.cons (.int 0) (.cons (.int 1) (.cons (.int 1) (.cons (.int 1) .nil))))) (.cons (.tup (.cons (.int 1) (.cons (.int 0) (.cons (.int 0) (.cons .non .nil))))) .nil))) .nil))))) (.cons (.set 10 (.op .add (.own 10) (.lst (.cons (.tup (.cons (.int 2) (.cons (.var 9) (.cons (.tup (.cons (.tup (.cons (.int 0) (.cons (.int 1) (.cons .non (.cons .non .nil))))) .nil)) .nil)))) (.cons (.tup (.cons (.int 2) (.cons (.var 9) (.cons (.op .mul (.tup (.cons (.tup (.cons (.int 0) (.cons (.int 1) (.cons (.int 0) (.cons (.int 1) .nil))))) .nil)) (.int 4)) .nil)))) .nil))))) (.cons (.set 10 (.op .add (.var 10) (.lst (.cons (.tup (.cons (.int 2) (.cons (.var 9) (.cons (.op .mul (.tup (.cons (.tup (.cons (.int 0) (.cons (.int 1) (.cons (.int 0) (.cons (.int 1) .nil))))) .nil)) (.int 5))
  .nil)))) (.cons (.tup (.cons (.int 6) (.cons (.var 9) (.cons (.tup .nil) .nil)))) .nil))))) (.cons (.set 10 (.op .add (.var 10) (.lst (.cons (.tup (.cons (.int 2) (.cons (.tup .nil) (.cons (.tup .nil) .nil)))) (.cons (.tup (.cons (.int 2) (.cons (.op .mul (.var 9) (.int 3)) (.cons (.tup .nil) .nil)))) .nil))))) (.cons (.set 10 (.op .add (.var 10) (.lst (.cons (.tup (.cons (.int 2) (.cons (.tup (.cons (.tup (.cons (.str (Str.ofString "meet")) (.cons (.tup (.cons (.int 1) (.cons (.int 0) .nil))) .nil))) .nil)) (.cons (.tup .nil) .nil)))) (.cons (.tup (.cons (.int 2) (.cons (.tup (.cons (.tup (.cons (.str (Str.ofString "learn")) (.cons (.int 0) (.cons (.int 3) .nil)))) .nil)) (.cons (.tup .nil) .nil)))) .nil))))) (.cons (.set 10 (.op .add (.var 10) (.lst (.cons (.tup (.cons (.int 2) (.cons (.var 9) (.cons (.tup (.cons (.tup (.cons (.int 0) (.cons (.int 0) (.cons (.int 0) (.cons (.int 0)
  .nil))))) .nil)) .nil)))) (.cons (.tup (.cons (.int 2) (.cons (.slc (.var 9) (.some (.int 1)) .none) (.cons (.tup .nil) .nil)))) .nil))))) (.cons (.set 11 (.op .add (.op .add (.lst (.cons (.bl true) (.cons (.bl false) (.cons (.bl false) (.cons (.bl true) .nil))))) (.op .mul (.lst (.cons (.bl false) .nil)) (.int 7))) (.lst (.cons (.bl true) .nil)))) (.cons (.iff (.cmp .ne (.comp (.call f_is_story (.val (.var 6) .nil)) (.nm 6) (.seq (.var 10)) .none [6]) (.var 11)) (.cons (.ret (.bl false)) .nil) .nil) (.cons (.set 12 (.tup (.cons (.int 2) (.cons (.var 9) (.cons (.tup (.cons (.tup (.cons (.int 0) (.cons (.int 1) (.cons (.int 0) (.cons (.int 3) .nil))))) .nil)) .nil))))) (.cons (.ret (.and (.cons (.cmp .isT (.call f_is_hours (.val (.var 12) (.val (.tup (.cons (.int 4) (.cons (.int 7) .nil))) .nil))) (.bl true)) (.cons (.cmp .isT (.call f_is_hours (.val (.var 12) (.val (.tup (.cons (.int 4)
  (.cons (.int 8) .nil))) .nil))) (.bl false)) .nil)))) .nil)))))))))))))
def f_law : Fn := ⟨"law", 1, 19, semD 13 t_law [] []⟩
end Z
end
-- C01
section
set_option Elab.async false
set_option linter.all false
set_option maxRecDepth 100000
set_option maxHeartbeats 4000000
namespace Z
open PySem PySem.Spec PyProof.Rows L2
theorem k_no_bounds : ckSs ⟨n_no_bounds, defScope (top 1), none, cs, 0, [], exs, false, false⟩ t_no_bounds (noDoc (defBody (top 1))) = true := by decide +kernel
theorem sc_no_bounds : FnScope n_no_bounds ["size"] (defScope (top 1)) := ⟨rfl, rfl, rfl, by decide +kernel, rfl, by decide +kernel, by decide +kernel⟩
theorem k_lesser : ckSs ⟨n_lesser, defScope (top 2), none, cs, 0, [], exs, false, false⟩ t_lesser (noDoc (defBody (top 2))) = true := by decide +kernel
theorem sc_lesser : FnScope n_lesser ["one", "other"] (defScope (top 2)) := ⟨rfl, rfl, rfl, by decide +kernel, rfl, by decide +kernel, by decide +kernel⟩
theorem k_summed : ckSs ⟨n_summed, defScope (top 3), none, cs, 0, [], exs, false, false⟩ t_summed (noDoc (defBody (top 3))) = true := by decide +kernel
theorem sc_summed : FnScope n_summed ["one", "other"] (defScope (top 3)) := ⟨rfl, rfl, rfl, by decide +kernel, rfl, by decide +kernel, by decide +kernel⟩
theorem k_closer : ckSs ⟨n_closer, defScope (top 4), none, cs, 1, [], exs, false, false⟩ t_closer (noDoc (defBody (top 4))) = true := by decide +kernel
theorem sc_closer : FnScope n_closer ["bounds", "first", "second", "one", "other", "most"] (defScope (top 4)) := ⟨rfl, rfl, rfl, by decide +kernel, rfl, by decide +kernel, by decide +kernel⟩
theorem k_with_bound : ckSs ⟨n_with_bound, defScope (top 5), none, cs, 2, [], exs, false, false⟩ t_with_bound (noDoc (defBody (top 5))) = true := by decide +kernel
theorem sc_with_bound : FnScope n_with_bound ["bounds", "one", "other", "most"] (defScope (top 5)) := ⟨rfl, rfl, rfl, by decide +kernel, rfl, by decide +kernel, by decide +kernel⟩
theorem k_is_within : ckSs ⟨n_is_within, defScope (top 28), none, cs, 0, [], exs, false, false⟩ t_is_within (noDoc (defBody (top 28))) = true := by decide +kernel
theorem sc_is_within : FnScope n_is_within ["value", "low", "high"] (defScope (top 28)) := ⟨rfl, rfl, rfl, by decide +kernel, rfl, by decide +kernel, by decide +kernel⟩
theorem k_has_items : ckSs ⟨n_has_items, defScope (top 29), none, cs, 0, [], exs, false, false⟩ t_has_items (noDoc (defBody (top 29))) = true := by decide +kernel
theorem sc_has_items : FnScope n_has_items ["value", "low", "high"] (defScope (top 29)) := ⟨rfl, rfl, rfl, by decide +kernel, rfl, by decide +kernel, by decide +kernel⟩
theorem k_is_event_value : ckSs ⟨n_is_event_value, defScope (top 30), none, cs, 1, [], exs, false, false⟩ t_is_event_value (noDoc (defBody (top 30))) = true := by decide +kernel
theorem sc_is_event_value : FnScope n_is_event_value ["many", "value"] (defScope (top 30)) := ⟨rfl, rfl, rfl, by decide +kernel, rfl, by decide +kernel, by decide +kernel⟩
theorem k_is_end : ckSs ⟨n_is_end, defScope (top 31), none, cs, 1, [], exs, false, false⟩ t_is_end (noDoc (defBody (top 31))) = true := by decide +kernel
theorem sc_is_end : FnScope n_is_end ["value"] (defScope (top 31)) := ⟨rfl, rfl, rfl, by decide +kernel, rfl, by decide +kernel, by decide +kernel⟩
theorem k_is_fact_value : ckSs ⟨n_is_fact_value, defScope (top 32), none, cs, 2, [], exs, false, false⟩ t_is_fact_value (noDoc (defBody (top 32))) = true := by decide +kernel
theorem sc_is_fact_value : FnScope n_is_fact_value ["size", "value"] (defScope (top 32)) := ⟨rfl, rfl, rfl, by decide +kernel, rfl, by decide +kernel, by decide +kernel⟩
theorem k_is_shape : ckSs ⟨n_is_shape, defScope (top 33), none, cs, 3, [], exs, false, false⟩ t_is_shape (noDoc (defBody (top 33))) = true := by decide +kernel
theorem sc_is_shape : FnScope n_is_shape ["value"] (defScope (top 33)) := ⟨rfl, rfl, rfl, by decide +kernel, rfl, by decide +kernel, by decide +kernel⟩
theorem k_with_fact : ckSs ⟨n_with_fact, defScope (top 34), none, cs, 3, [], exs, false, false⟩ t_with_fact (noDoc (defBody (top 34))) = true := by decide +kernel
theorem sc_with_fact : FnScope n_with_fact ["bounds", "fact"] (defScope (top 34)) := ⟨rfl, rfl, rfl, by decide +kernel, rfl, by decide +kernel, by decide +kernel⟩
theorem k_bounds_of : ckSs ⟨n_bounds_of, defScope (top 35), none, cs, 4, [], exs, false, false⟩ t_bounds_of (noDoc (defBody (top 35))) = true := by decide +kernel
theorem sc_bounds_of : FnScope n_bounds_of ["story"] (defScope (top 35)) := ⟨rfl, rfl, rfl, by decide +kernel, rfl, by decide +kernel, by decide +kernel⟩
theorem k_is_story_value : ckSs ⟨n_is_story_value, defScope (top 36), none, cs, 5, [], exs, false, false⟩ t_is_story_value (noDoc (defBody (top 36))) = true := by decide +kernel
theorem sc_is_story_value : FnScope n_is_story_value ["value"] (defScope (top 36)) := ⟨rfl, rfl, rfl, by decide +kernel, rfl, by decide +kernel, by decide +kernel⟩
theorem k_keeps : ckSs ⟨n_keeps, defScope (top 37), none, cs, 0, [], exs, false, false⟩ t_keeps (noDoc (defBody (top 37))) = true := by decide +kernel
theorem sc_keeps : FnScope n_keeps ["hours", "fact"] (defScope (top 37)) := ⟨rfl, rfl, rfl, by decide +kernel, rfl, by decide +kernel, by decide +kernel⟩
theorem k_are_hours : ckSs ⟨n_are_hours, defScope (top 38), none, cs, 1, [], exs, false, false⟩ t_are_hours (noDoc (defBody (top 38))) = true := by decide +kernel
theorem sc_are_hours : FnScope n_are_hours ["story", "value"] (defScope (top 38)) := ⟨rfl, rfl, rfl, by decide +kernel, rfl, by decide +kernel, by decide +kernel⟩
theorem k_need_story : ckSs ⟨n_need_story, defScope (top 39), none, cs, 6, [], exs, false, false⟩ t_need_story (noDoc (defBody (top 39))) = true := by decide +kernel
theorem sc_need_story : FnScope n_need_story ["value"] (defScope (top 39)) := ⟨rfl, rfl, rfl, by decide +kernel, rfl, by decide +kernel, by decide +kernel⟩
theorem k_is_story : ckSs ⟨n_is_story, defScope (top 40), none, cs, 6, [], exs, false, false⟩ t_is_story (noDoc (defBody (top 40))) = true := by decide +kernel
theorem sc_is_story : FnScope n_is_story ["value"] (defScope (top 40)) := ⟨rfl, rfl, rfl, by decide +kernel, rfl, by decide +kernel, by decide +kernel⟩
theorem k_is_hours : ckSs ⟨n_is_hours, defScope (top 41), none, cs, 7, [], exs, false, false⟩ t_is_hours (noDoc (defBody (top 41))) = true := by decide +kernel
theorem sc_is_hours : FnScope n_is_hours ["story", "value"] (defScope (top 41)) := ⟨rfl, rfl, rfl, by decide +kernel, rfl, by decide +kernel, by decide +kernel⟩
theorem k__law_whole : ckSs ⟨n__law_whole, defScope (top 45), none, cs, 0, [], exs, false, false⟩ t__law_whole (noDoc (defBody (top 45))) = true := by decide +kernel
theorem sc__law_whole : FnScope n__law_whole ["_law_thing"] (defScope (top 45)) := ⟨rfl, rfl, rfl, by decide +kernel, rfl, by decide +kernel, by decide +kernel⟩
theorem k__law_one : ckSs ⟨n__law_one, defScope (top 46), none, cs, 1, [0], exs, false, false⟩ t__law_one (noDoc (defBody (top 46))) = true := by decide +kernel
theorem sc__law_one : FnScope n__law_one ["_law_deck_here", "_law_some"] (defScope (top 46)) := ⟨rfl, rfl, rfl, by decide +kernel, rfl, by decide +kernel, by decide +kernel⟩
theorem k__law_sort : ckSs ⟨n__law_sort, defScope (top 47), none, cs, 0, [], exs, false, false⟩ t__law_sort (noDoc (defBody (top 47))) = true := by decide +kernel
theorem sc__law_sort : FnScope n__law_sort ["_law_thing"] (defScope (top 47)) := ⟨rfl, rfl, rfl, by decide +kernel, rfl, by decide +kernel, by decide +kernel⟩
theorem k__law_same : ∀ k, k < 12 → ckSs ⟨n__law_same, defScope (top 48), none, cs, k + 1, [], exs, false, false⟩ (t__law_same (f__law_same_ k)) (noDoc (defBody (top 48))) = true := by decide +kernel
theorem sc__law_same : FnScope n__law_same ["_law_told", "_law_due"] (defScope (top 48)) := ⟨rfl, rfl, rfl, by decide +kernel, rfl, by decide +kernel, by decide +kernel⟩
theorem k__law_event : ckSs ⟨n__law_event, defScope (top 51), none, cs, 1, [0], exs, false, false⟩ t__law_event (noDoc (defBody (top 51))) = true := by decide +kernel
theorem sc__law_event : FnScope n__law_event ["_law_deck_here", "_law_many", "_law_first"] (defScope (top 51)) := ⟨rfl, rfl, rfl, by decide +kernel, rfl, by decide +kernel, by decide +kernel⟩
theorem k__law_end : ckSs ⟨n__law_end, defScope (top 52), none, cs, 2, [0], exs, false, false⟩ t__law_end (noDoc (defBody (top 52))) = true := by decide +kernel
theorem sc__law_end : FnScope n__law_end ["_law_deck_here", "_law_wide"] (defScope (top 52)) := ⟨rfl, rfl, rfl, by decide +kernel, rfl, by decide +kernel, by decide +kernel⟩
theorem k__law_fact : ckSs ⟨n__law_fact, defScope (top 53), none, cs, 3, [0], exs, false, false⟩ t__law_fact (noDoc (defBody (top 53))) = true := by decide +kernel
theorem sc__law_fact : FnScope n__law_fact ["_law_deck_here", "_law_size", "_law_wide"] (defScope (top 53)) := ⟨rfl, rfl, rfl, by decide +kernel, rfl, by decide +kernel, by decide +kernel⟩
theorem k__law_steps : ckSs ⟨n__law_steps, defScope (top 55), none, cs, 0, [], exs, false, false⟩ t__law_steps (noDoc (defBody (top 55))) = true := by decide +kernel
theorem sc__law_steps : FnScope n__law_steps ["_law_bonds"] (defScope (top 55)) := ⟨rfl, rfl, rfl, by decide +kernel, rfl, by decide +kernel, by decide +kernel⟩
theorem k__law_early : ckSs ⟨n__law_early, defScope (top 56), none, cs, 1, [], exs, false, false⟩ t__law_early (noDoc (defBody (top 56))) = true := by decide +kernel
theorem sc__law_early : FnScope n__law_early ["_law_story_here", "_law_more"] (defScope (top 56)) := ⟨rfl, rfl, rfl, by decide +kernel, rfl, by decide +kernel, by decide +kernel⟩
theorem k__law_story : ckSs ⟨n__law_story, defScope (top 54), none, cs, 4, [0], exs, false, false⟩ t__law_story (noDoc (defBody (top 54))) = true := by decide +kernel
theorem sc__law_story : FnScope n__law_story ["_law_deck_here", "_law_most", "_law_wide"] (defScope (top 54)) := ⟨rfl, rfl, rfl, by decide +kernel, rfl, by decide +kernel, by decide +kernel⟩
theorem k__law_keeps : ckSs ⟨n__law_keeps, defScope (top 57), none, cs, 0, [], exs, false, false⟩ t__law_keeps (noDoc (defBody (top 57))) = true := by decide +kernel
theorem sc__law_keeps : FnScope n__law_keeps ["_law_hours", "_law_bonds"] (defScope (top 57)) := ⟨rfl, rfl, rfl, by decide +kernel, rfl, by decide +kernel, by decide +kernel⟩
theorem k__law_number : ckSs ⟨n__law_number, defScope (top 58), none, cs, 1, [], exs, false, false⟩ t__law_number (noDoc (defBody (top 58))) = true := by decide +kernel
theorem sc__law_number : FnScope n__law_number ["_law_thing", "_law_low", "_law_high"] (defScope (top 58)) := ⟨rfl, rfl, rfl, by decide +kernel, rfl, by decide +kernel, by decide +kernel⟩
theorem k__law_is_event : ckSs ⟨n__law_is_event, defScope (top 59), none, cs, 2, [], exs, false, false⟩ t__law_is_event (noDoc (defBody (top 59))) = true := by decide +kernel
theorem sc__law_is_event : FnScope n__law_is_event ["_law_many", "_law_thing"] (defScope (top 59)) := ⟨rfl, rfl, rfl, by decide +kernel, rfl, by decide +kernel, by decide +kernel⟩
theorem k__law_is_fact : ckSs ⟨n__law_is_fact, defScope (top 60), none, cs, 2, [], exs, false, false⟩ t__law_is_fact (noDoc (defBody (top 60))) = true := by decide +kernel
theorem sc__law_is_fact : FnScope n__law_is_fact ["_law_size", "_law_thing"] (defScope (top 60)) := ⟨rfl, rfl, rfl, by decide +kernel, rfl, by decide +kernel, by decide +kernel⟩
theorem k__law_is_story : ckSs ⟨n__law_is_story, defScope (top 61), none, cs, 3, [], exs, false, false⟩ t__law_is_story (noDoc (defBody (top 61))) = true := by decide +kernel
theorem sc__law_is_story : FnScope n__law_is_story ["_law_thing"] (defScope (top 61)) := ⟨rfl, rfl, rfl, by decide +kernel, rfl, by decide +kernel, by decide +kernel⟩
theorem k__law_spoilt : ∀ k, k < 12 → ckSs ⟨n__law_spoilt, defScope (top 62), none, cs, k + 2, [0], exs, false, false⟩ (t__law_spoilt (f__law_spoilt_ k)) (noDoc (defBody (top 62))) = true := by decide +kernel
theorem sc__law_spoilt : FnScope n__law_spoilt ["_law_deck_here", "_law_thing"] (defScope (top 62)) := ⟨rfl, rfl, rfl, by decide +kernel, rfl, by decide +kernel, by decide +kernel⟩
theorem k__law_hours_right : ckSs ⟨n__law_hours_right, defScope (top 63), none, cs, 15, [0], exs, false, false⟩ t__law_hours_right (noDoc (defBody (top 63))) = true := by decide +kernel
theorem sc__law_hours_right : FnScope n__law_hours_right ["_law_deck_here", "_law_story_here"] (defScope (top 63)) := ⟨rfl, rfl, rfl, by decide +kernel, rfl, by decide +kernel, by decide +kernel⟩
theorem k_law : ckSs ⟨n_law, defScope (top 64), none, cs, 18, [], exs, true, true⟩ t_law (noDoc (defBody (top 64))) = true := by decide +kernel
theorem sc_law : FnScope n_law ["_law_script"] (defScope (top 64)) := ⟨rfl, rfl, rfl, by decide +kernel, rfl, by decide +kernel, by decide +kernel⟩
end Z
end
-- P01
section
set_option Elab.async false
set_option linter.all false
set_option maxRecDepth 100000
set_option maxHeartbeats 4000000
namespace Z
open PySem PySem.Spec PyProof.Rows L2
abbrev FnP (K : PySem.W.Frag) (x : Str) (st : Stmt) (f : Addr) (fd : FuncData) : Prop := FunD K x x (defArgs st) (defBody st) (defScope st) [] [] f fd
section
variable {P : Program} {w : World} {K : PySem.W.Frag} {mg : Str → Option Value} {base : Heap} {f : Addr} {fd : FuncData}
theorem ite_dec {c : Prop} [Decidable c] {A B : Prop} (h1 : c → A) (h2 : ¬ c → B) : if decide c = true then A else B := by
  by_cases h : c
  · rw [if_pos (decide_eq_true h)]; exact h1 h
  · rw [if_neg (by simp [h])]; exact h2 h
def nDeck : List Str := ["_law_cell", "_law_turn"]
abbrev sDeck : Stmt := top 43
theorem scDeck : FnScope nDeck nDeck (defScope sDeck) := ⟨rfl, rfl, rfl, by decide +kernel, rfl, by decide +kernel, by decide +kernel⟩
theorem ok_deck (F : FnP K "_law_deck" sDeck f fd) : FnOk P w K mg base (L2N.CX P w) 1 f fd nDeck spDeck := by
  refine F.ok scDeck (fun vs H Q E h => ?_) (fun cdv A outer s H vs Q E hr h => ⟨_, PSs.nox (pss_cons (ps_if (pt_cmpR op_ge (pv 0) (pe_op op_pow pe_int pe_int) (nomark _))
        (pss_one (ps_ret (pe_lst (pa_cons (pe_op op_sub (pv 0) (pe_op op_pow pe_int pe_int)) (pa_cons (pe_op op_mod (pv 0) pe_int) (pa_cons (pv 1) pa_nil))))))
        pss_nil)
      (pss_one (ps_ret (pe_lst (pa_cons pe_int (pa_cons (pe_op op_mod (pv 0) pe_int) (pa_cons (pv 1) pa_nil))))))), ?_⟩)
  · obtain ⟨i, k, rfl, _⟩ := h
    rfl
  ·
    obtain ⟨i, k, rfl, q⟩ := h
    have p18 : CPow 10 18 := ⟨by decide, by decide, by decide⟩
    refine ⟨_, rfl, 10, 18, rfl, rfl, p18, i, _, rfl, rfl, _, rfl, ?_⟩
    refine ite_dec (fun hc => ?_) (fun hc => ?_)
    · have hc : (10 : Int) ^ 18 ≤ i := hc
      refine ⟨_, rfl, 10, 18, rfl, rfl, p18, i, _, rfl, rfl, _, rfl, i, 2147483579, rfl, rfl, (by decide : (0 : Int) < 2147483579), _, rfl, ⟨by rw [sizeLine_eq]; exact (by decide : 3 ≤ 16777216), fun p hp => q p _ _ hp ?_ ?_ ?_⟩⟩
      · show 0 ≤ i - (10 : Int) ^ 18
        omega
      · exact Int.emod_nonneg _ (by decide)
      · have := Int.emod_lt_of_pos i (show (0 : Int) < 2147483579 by decide)
        omega
    · refine ⟨_, rfl, i, 2147483579, rfl, rfl, (by decide : (0 : Int) < 2147483579), _, rfl, ⟨by rw [sizeLine_eq]; exact (by decide : 3 ≤ 16777216), fun p hp => q p _ _ hp (by decide) ?_ ?_⟩⟩
      · exact Int.emod_nonneg _ (by decide)
      · have := Int.emod_lt_of_pos i (show (0 : Int) < 2147483579 by decide)
        omega
def nPick : List Str := ["_law_deck_here", "_law_size", "_law_found", "_law_number_here"]
abbrev sPick : Stmt := top 44
theorem scPick : FnScope nPick ["_law_deck_here", "_law_size"] (defScope sPick) := ⟨rfl, rfl, rfl, by decide +kernel, rfl, by decide +kernel, by decide +kernel⟩
theorem ok_pick (F : FnP K "_law_pick" sPick f fd) (gI : mg "int" = none) : FnOk P w K mg base (L2N.CX P w) 1 f fd ["_law_deck_here", "_law_size"] spPick := by
  refine F.ok scPick (fun vs H Q E h => ?_) (fun cdv A outer s H vs Q E hr h => ⟨_, PSs.nox (pss_cons (ps_if (pt_cmpR op_gt (pe_ix ix_list (pv 0) pe_int (fun _ _ => rfl)) pe_int (nomark _))
        (pss_cons (ps_set (i := 2) scPick.nd rfl (.inl rfl) (pe_op op_mod (pe_callTy call_int1 rfl gI boot_int (pa_cons (pe_ix ix_list (pv 0) pe_int (fun _ _ => rfl)) pa_nil) (by decide) (by decide)) (pv 1)))
          (pss_cons (ps_asg (pe_op op_fdiv (pe_ix ix_list (pv 0) pe_int (fun _ _ => rfl)) (pv 1)) (pg_sub (pv 0) pe_int set_list (fun _ => rfl)))
            (pss_one (ps_ret (pv 2)))))
        pss_nil)
      (pss_cons (ps_asg (pe_op op_add (pe_ix ix_list (pv 0) pe_int (fun _ _ => rfl)) pe_int) (pg_sub (pv 0) pe_int set_list (fun _ => rfl)))
        (pss_cons (ps_set (i := 3) scPick.nd rfl (.inl rfl) (pe_op op_mod (pe_op op_pow (pe_op op_add (pe_ix ix_list (pv 0) pe_int (fun _ _ => rfl)) (pe_op op_mul pe_int (pe_ix ix_list (pv 0) pe_int (fun _ _ => rfl)))) pe_int) pe_int))
          (pss_cons (ps_set (i := 2) scPick.nd rfl (.inl rfl) (pe_op op_fdiv (pe_op op_mod (pe_op op_pow (pe_op op_add (pv 3) (pe_op op_mul pe_int (pe_ix ix_list (pv 0) pe_int (fun _ _ => rfl)))) pe_int) pe_int) pe_int))
            (pss_one (ps_ret (pe_op op_mod (pe_callTy call_int1 rfl gI boot_int (pa_cons (pv 2) pa_nil) (by decide) (by decide)) (pv 1)))))))), ?_⟩)
  · obtain ⟨a, m, x, y, z, n, rfl, _⟩ := h
    rfl
  · obtain ⟨a, m, x, y, z, n, rfl, hH, hd, hm1, hm2, q⟩ := h
    obtain ⟨d1, d2, d3, d4, d5⟩ := hd
    have hH2 : ∀ z', (upd H a (.lst [.int x, .int y, .int z'])) a = some (.lst [.int x, .int y, .int z']) := fun _ => upd_same
    refine ⟨_, rfl, a, [.int x, .int y, .int z], 0, .int x, rfl, rfl, SqL.of hH, rfl, x, 1, rfl, rfl, _, rfl, ite_dec (fun hc => ?_) (fun hc => ?_)⟩
    · refine ⟨_, rfl, a, _, 0, .int x, rfl, rfl, SqL.of hH, rfl, .inl ⟨x, rfl, _, rfl, x, m, rfl, rfl, by omega, ?_⟩⟩
      refine ⟨_, rfl, a, _, 0, .int x, rfl, rfl, SqL.of hH, rfl, _, rfl, x, m, rfl, rfl, ⟨by omega, by omega⟩, ?_⟩
      refine ⟨_, rfl, a, _, 0, 0, rfl, rfl, hH, rfl, _, rfl, ?_⟩
      exact q (x % m) (x / m) y z (Int.emod_nonneg _ (by omega)) (Int.emod_lt_of_pos _ (by omega)) ⟨Int.ediv_nonneg d1 (by omega), d2, d3, d4, by omega⟩
    · refine ⟨_, rfl, a, _, 2, .int z, rfl, rfl, SqL.of hH, rfl, z, 1, rfl, rfl, _, rfl, a, _, 2, 2, rfl, rfl, hH, rfl, ?_⟩
      have h3 : upd H a (.lst [.int x, .int y, .int (z + 1)]) a = some (.lst [.int x, .int y, .int (z + 1)]) := upd_same
      have b1 : 0 ≤ y + 15485867 * (z + 1) := by omega
      have b2 : (y + 15485867 * (z + 1)).natAbs < 2 ^ 64 := by omega
      have b3 := Int.emod_nonneg ((y + 15485867 * (z + 1)) ^ (5 : Int).toNat) (show (2147483647 : Int) ≠ 0 by decide)
      have b4 := Int.emod_lt_of_pos ((y + 15485867 * (z + 1)) ^ (5 : Int).toNat) (show (0 : Int) < 2147483647 by decide)
      refine ⟨_, rfl, a, _, 1, .int y, rfl, rfl, SqL.of h3, rfl, _, rfl, a, _, 2, .int (z + 1), rfl, rfl, SqL.of h3, rfl, 15485867, z + 1, rfl, rfl, .inl ⟨by decide, by decide⟩, y, _, rfl, rfl, _, 5, rfl, rfl, ⟨by decide, by decide, b2⟩, _, 2147483647, rfl, rfl, (by decide : (0 : Int) < 2147483647), ?_⟩
      have hu : ∃ u, (y + 15485867 * (z + 1)) ^ (5 : Int).toNat % 2147483647 = u := ⟨_, rfl⟩
      obtain ⟨u, hu⟩ := hu
      rw [hu] at b3 b4
      show tSeq _ _ _ ((L2.start nPick [.ref a, .int m]).set 3 (some (.int ((y + 15485867 * (z + 1)) ^ (5 : Int).toNat % 2147483647)))) _
      rw [hu]
      refine ⟨_, rfl, _, rfl, a, _, 2, .int (z + 1), rfl, rfl, SqL.of h3, rfl, 7919, z + 1, rfl, rfl, .inl ⟨by decide, by decide⟩, u, _, rfl, rfl, _, 3, rfl, rfl, ⟨by decide, by decide, by omega⟩, _, 2147483629, rfl, rfl, (by decide : (0 : Int) < 2147483629), _, 32, rfl, rfl, ⟨by decide, by decide⟩, ?_⟩
      refine ⟨_, rfl, .inl ⟨_, rfl, _, rfl, _, m, rfl, rfl, by omega, ?_⟩⟩
      exact q (_ % m) x y (z + 1) (Int.emod_nonneg _ (by omega)) (Int.emod_lt_of_pos _ (by omega)) ⟨d1, d2, d3, by omega, by omega⟩
end
end Z
end
-- E01
section
set_option Elab.async false
set_option linter.all false
set_option maxRecDepth 100000
set_option maxHeartbeats 4000000
namespace Z
open PySem PySem.Spec PyProof.Rows L2
section
variable {P : Program} {w : World} {K : PySem.W.Frag} {mg : Str → Option Value} {base : Heap}
structure Ctx (P : Program) (w : World) (K : PySem.W.Frag) (mg : Str → Option Value) (base : Heap) : Prop where
  sd : He.SaysD hfa hdd K
  KX : K.In base
  G : base.Ns mainGlobals mg
  ex : hex K = true
  tb : ∀ p ∈ htf, LamX.TabB base mg (He.cT K p).1 (He.cT K p).2
theorem c_glo (sd : He.SaysD hfa hdd K) (KX : K.In base) (G : base.Ns mainGlobals mg) : Glo K mg cs exs := by
  refine ⟨fun x hx => ?_, fun x i hx => ?_, fun x hx => ?_⟩
  · have hb : ∀ x ∈ bltN, mg x = none := by
      intro x hx
      simp only [bltN, List.mem_cons, List.not_mem_nil, or_false] at hx
      rcases hx with rfl | rfl | rfl | rfl | rfl | rfl | rfl | rfl | rfl | rfl | rfl | rfl | rfl | rfl | rfl | rfl | rfl | rfl | rfl
      · exact He.free_ok KX G (sd.fact 75 rfl)
      · exact He.free_ok KX G (sd.fact 76 rfl)
      · exact He.free_ok KX G (sd.fact 77 rfl)
      · exact He.free_ok KX G (sd.fact 78 rfl)
      · exact He.free_ok KX G (sd.fact 79 rfl)
      · exact He.free_ok KX G (sd.fact 80 rfl)
      · exact He.free_ok KX G (sd.fact 81 rfl)
      · exact He.free_ok KX G (sd.fact 82 rfl)
      · exact He.free_ok KX G (sd.fact 83 rfl)
      · exact He.free_ok KX G (sd.fact 84 rfl)
      · exact He.free_ok KX G (sd.fact 85 rfl)
      · exact He.free_ok KX G (sd.fact 86 rfl)
      · exact He.free_ok KX G (sd.fact 87 rfl)
      · exact He.free_ok KX G (sd.fact 88 rfl)
      · exact He.free_ok KX G (sd.fact 89 rfl)
      · exact He.free_ok KX G (sd.fact 90 rfl)
      · exact He.free_ok KX G (sd.fact 91 rfl)
      · exact He.free_ok KX G (sd.fact 92 rfl)
      · exact He.free_ok KX G (sd.fact 93 rfl)
    exact hb x hx
  · have hm : (x, i) ∈ cs := PySem.mem_of_lookup hx
    simp only [cs, List.mem_cons, List.not_mem_nil, or_false, Prod.mk.injEq] at hm
    rcases hm with ⟨rfl, rfl⟩ | ⟨rfl, rfl⟩ | ⟨rfl, rfl⟩
    · exact He.int_ok KX G (sd.fact 72 rfl)
    · exact He.int_ok KX G (sd.fact 73 rfl)
    · exact He.int_ok KX G (sd.fact 74 rfl)
  · simp only [exs, List.mem_cons, List.not_mem_nil, or_false] at hx
    rcases hx with rfl | rfl | rfl | rfl | rfl | rfl | rfl | rfl | rfl | rfl | rfl | rfl | rfl | rfl
    · obtain ⟨h1, h2, h3, h4⟩ := He.exc_ok (sd.fact 58 rfl)
      exact ⟨_, He.glo_ok KX G (sd.fact 42 rfl), h1, h2, h3, h4⟩
    · obtain ⟨h1, h2, h3, h4⟩ := He.exc_ok (sd.fact 59 rfl)
      exact ⟨_, He.glo_ok KX G (sd.fact 43 rfl), h1, h2, h3, h4⟩
    · obtain ⟨h1, h2, h3, h4⟩ := He.exc_ok (sd.fact 60 rfl)
      exact ⟨_, He.glo_ok KX G (sd.fact 44 rfl), h1, h2, h3, h4⟩
    · obtain ⟨h1, h2, h3, h4⟩ := He.exc_ok (sd.fact 61 rfl)
      exact ⟨_, He.glo_ok KX G (sd.fact 45 rfl), h1, h2, h3, h4⟩
    · obtain ⟨h1, h2, h3, h4⟩ := He.exc_ok (sd.fact 62 rfl)
      exact ⟨_, He.glo_ok KX G (sd.fact 46 rfl), h1, h2, h3, h4⟩
    · obtain ⟨h1, h2, h3, h4⟩ := He.exc_ok (sd.fact 63 rfl)
      exact ⟨_, He.glo_ok KX G (sd.fact 47 rfl), h1, h2, h3, h4⟩
    · obtain ⟨h1, h2, h3, h4⟩ := He.exc_ok (sd.fact 64 rfl)
      exact ⟨_, He.glo_ok KX G (sd.fact 48 rfl), h1, h2, h3, h4⟩
    · obtain ⟨h1, h2, h3, h4⟩ := He.exc_ok (sd.fact 65 rfl)
      exact ⟨_, He.glo_ok KX G (sd.fact 49 rfl), h1, h2, h3, h4⟩
    · obtain ⟨h1, h2, h3, h4⟩ := He.exc_ok (sd.fact 66 rfl)
      exact ⟨_, He.glo_ok KX G (sd.fact 50 rfl), h1, h2, h3, h4⟩
    · obtain ⟨h1, h2, h3, h4⟩ := He.exc_ok (sd.fact 67 rfl)
      exact ⟨_, He.glo_ok KX G (sd.fact 51 rfl), h1, h2, h3, h4⟩
    · obtain ⟨h1, h2, h3, h4⟩ := He.exc_ok (sd.fact 68 rfl)
      exact ⟨_, He.glo_ok KX G (sd.fact 52 rfl), h1, h2, h3, h4⟩
    · obtain ⟨h1, h2, h3, h4⟩ := He.exc_ok (sd.fact 69 rfl)
      exact ⟨_, He.glo_ok KX G (sd.fact 53 rfl), h1, h2, h3, h4⟩
    · obtain ⟨h1, h2, h3, h4⟩ := He.exc_ok (sd.fact 70 rfl)
      exact ⟨_, He.glo_ok KX G (sd.fact 54 rfl), h1, h2, h3, h4⟩
    · obtain ⟨h1, h2, h3, h4⟩ := He.exc_ok (sd.fact 71 rfl)
      exact ⟨_, He.glo_ok KX G (sd.fact 55 rfl), h1, h2, h3, h4⟩
theorem Ctx.g (C : Ctx P w K mg base) : Glo K mg cs exs := c_glo C.sd C.KX C.G
theorem e__law_pick (C : Ctx P w K mg base) : Ent P w K mg base (tabT K htf) fPick := by
  obtain ⟨fd, F⟩ := C.sd.def_ 20 rfl
  exact ent_pick (He.glo_ok C.KX C.G (C.sd.fact 20 rfl)) F.kp (FunD.bindsN F fun _ _ _ _ _ _ us hl => match us, hl with | [_, _], _ => rfl) (ok_pick F (He.free_ok C.KX C.G (C.sd.fact 84 rfl)))
theorem c_deck (C : Ctx P w K mg base) : DkF P w K mg base := by
  obtain ⟨fd, F⟩ := C.sd.def_ 19 rfl
  exact ⟨_, fd, _, He.glo_ok C.KX C.G (C.sd.fact 19 rfl), F.kp, (FunD.bindsN F fun _ _ _ _ _ _ us hl => match us, hl with | [_, _], _ => rfl), ok_deck F⟩
theorem sc_kin : FnScope ZK.kNm ["_law_e"] (defScope (top 49)) := ⟨rfl, rfl, rfl, by decide +kernel, rfl, by decide +kernel, by decide +kernel⟩
theorem kn_kin : ZK.kinS (defScope (top 49)) = true := by decide +kernel
theorem kb_kin : ZK.kinB (defScope (top 49)) (defBody (top 49)) = true := by decide +kernel
theorem sc_try : FnScope ZK.tNm ["_law_call_so"] (defScope (top 50)) := ⟨rfl, rfl, rfl, by decide +kernel, rfl, by decide +kernel, by decide +kernel⟩
theorem ks_try : ZK.tryS (defScope (top 50)) = true := by decide +kernel
theorem kb_try : ZK.tryB (defBody (top 50)) = true := by decide +kernel
theorem c_try (C : Ctx P w K mg base) : ∃ C1 C2 C3, ZK.TryF K mg C1 C2 C3 := by
  have glo : ∀ x : Str, x ∈ ("TaleError" : Str) :: ZK.kCls → mg x = some (.ref (He.ga K x)) := by
    intro x hx
    simp only [ZK.kCls, List.mem_cons, List.not_mem_nil, or_false] at hx
    rcases hx with rfl | rfl | rfl | rfl | rfl | rfl | rfl | rfl | rfl | rfl | rfl | rfl | rfl | rfl | rfl | rfl | rfl
    · exact He.glo_ok C.KX C.G (C.sd.fact 41 rfl)
    · exact He.glo_ok C.KX C.G (C.sd.fact 42 rfl)
    · exact He.glo_ok C.KX C.G (C.sd.fact 43 rfl)
    · exact He.glo_ok C.KX C.G (C.sd.fact 44 rfl)
    · exact He.glo_ok C.KX C.G (C.sd.fact 45 rfl)
    · exact He.glo_ok C.KX C.G (C.sd.fact 46 rfl)
    · exact He.glo_ok C.KX C.G (C.sd.fact 47 rfl)
    · exact He.glo_ok C.KX C.G (C.sd.fact 48 rfl)
    · exact He.glo_ok C.KX C.G (C.sd.fact 49 rfl)
    · exact He.glo_ok C.KX C.G (C.sd.fact 50 rfl)
    · exact He.glo_ok C.KX C.G (C.sd.fact 51 rfl)
    · exact He.glo_ok C.KX C.G (C.sd.fact 52 rfl)
    · exact He.glo_ok C.KX C.G (C.sd.fact 53 rfl)
    · exact He.glo_ok C.KX C.G (C.sd.fact 54 rfl)
    · exact He.glo_ok C.KX C.G (C.sd.fact 55 rfl)
    · exact He.glo_ok C.KX C.G (C.sd.fact 56 rfl)
    · exact He.glo_ok C.KX C.G (C.sd.fact 57 rfl)
  have hx : exB K = true := by
    have := C.ex
    unfold hex at this
    rw [Bool.and_eq_true] at this
    exact this.1
  obtain ⟨fd, F⟩ := C.sd.def_ 25 rfl
  exact tryF_of glo (He.free_ok C.KX C.G (C.sd.fact 94 rfl)) (He.free_ok C.KX C.G (C.sd.fact 90 rfl)) (He.free_ok C.KX C.G (C.sd.fact 92 rfl)) hx ⟨_, fd, _, _, ⟨_, _, _, F⟩, He.glo_ok C.KX C.G (C.sd.fact 25 rfl), (FunD.bindsN F fun _ _ _ _ _ _ us hl => match us, hl with | [_], _ => rfl), sc_kin, kn_kin, kb_kin⟩
theorem c_tabN (C : Ctx P w K mg base) : tabN K htf = true := by
  have := C.ex
  unfold hex at this
  rw [Bool.and_eq_true] at this
  exact this.2
theorem c_td (C : Ctx P w K mg base) : ∃ (params : Arguments) (body : List Stmt) (scope : Scope) (dvs : List V) (kws : List (Str × V)) (f : Addr) (fd : FuncData), FunD K "_law_try" "_law_try" params body scope dvs kws f fd ∧ mg "_law_try" = some (.ref f) ∧ L2.Binds K fd ["_law_call_so"] [] ∧ FnScope ZK.tNm ["_law_call_so"] scope ∧ ZK.tryS scope = true ∧ ZK.tryB body = true := by
  obtain ⟨fd, F⟩ := C.sd.def_ 26 rfl
  exact ⟨_, _, _, _, _, _, fd, F, He.glo_ok C.KX C.G (C.sd.fact 26 rfl), (FunD.bindsN F fun _ _ _ _ _ _ us hl => match us, hl with | [_], _ => rfl), sc_try, ks_try, kb_try⟩
theorem a_no_bounds (C : Ctx P w K mg base) : allSs (Ent P w K mg base (tabT K htf)) t_no_bounds := by
  unfold t_no_bounds
  repeat' first | exact trivial | apply And.intro | assumption
theorem e_no_bounds (C : Ctx P w K mg base) : Ent P w K mg base (tabT K htf) f_no_bounds := by
  obtain ⟨fd, F⟩ := C.sd.def_ 0 rfl
  exact ent_of (lam := false) (dkk := false) (fun h => nomatch h) (fun h => nomatch h) F (He.glo_ok C.KX C.G (C.sd.fact 0 rfl)) sc_no_bounds C.g (FunD.bindsN F fun _ _ _ _ _ _ us hl => match us, hl with | [_], _ => rfl) .nil (fun _ => .nil) rfl k_no_bounds (a_no_bounds C)
theorem a_lesser (C : Ctx P w K mg base) : allSs (Ent P w K mg base (tabT K htf)) t_lesser := by
  unfold t_lesser
  repeat' first | exact trivial | apply And.intro | assumption
theorem e_lesser (C : Ctx P w K mg base) : Ent P w K mg base (tabT K htf) f_lesser := by
  obtain ⟨fd, F⟩ := C.sd.def_ 1 rfl
  exact ent_of (lam := false) (dkk := false) (fun h => nomatch h) (fun h => nomatch h) F (He.glo_ok C.KX C.G (C.sd.fact 1 rfl)) sc_lesser C.g (FunD.bindsN F fun _ _ _ _ _ _ us hl => match us, hl with | [_, _], _ => rfl) .nil (fun _ => .nil) rfl k_lesser (a_lesser C)
theorem a_summed (C : Ctx P w K mg base) : allSs (Ent P w K mg base (tabT K htf)) t_summed := by
  unfold t_summed
  repeat' first | exact trivial | apply And.intro | assumption
theorem e_summed (C : Ctx P w K mg base) : Ent P w K mg base (tabT K htf) f_summed := by
  obtain ⟨fd, F⟩ := C.sd.def_ 2 rfl
  exact ent_of (lam := false) (dkk := false) (fun h => nomatch h) (fun h => nomatch h) F (He.glo_ok C.KX C.G (C.sd.fact 2 rfl)) sc_summed C.g (FunD.bindsN F fun _ _ _ _ _ _ us hl => match us, hl with | [_, _], _ => rfl) .nil (fun _ => .nil) rfl k_summed (a_summed C)
theorem a_closer (C : Ctx P w K mg base) : allSs (Ent P w K mg base (tabT K htf)) t_closer := by
  have h0 := e_lesser C
  have h1 := e_summed C
  unfold t_closer
  repeat' first | exact trivial | apply And.intro | assumption
theorem e_closer (C : Ctx P w K mg base) : Ent P w K mg base (tabT K htf) f_closer := by
  obtain ⟨fd, F⟩ := C.sd.def_ 3 rfl
  exact ent_of (lam := false) (dkk := false) (fun h => nomatch h) (fun h => nomatch h) F (He.glo_ok C.KX C.G (C.sd.fact 3 rfl)) sc_closer C.g (FunD.bindsN F fun _ _ _ _ _ _ us hl => match us, hl with | [_, _, _, _, _, _], _ => rfl) .nil (fun _ => .nil) rfl k_closer (a_closer C)
theorem a_with_bound (C : Ctx P w K mg base) : allSs (Ent P w K mg base (tabT K htf)) t_with_bound := by
  have h0 := e_closer C
  unfold t_with_bound
  repeat' first | exact trivial | apply And.intro | assumption
theorem e_with_bound (C : Ctx P w K mg base) : Ent P w K mg base (tabT K htf) f_with_bound := by
  obtain ⟨fd, F⟩ := C.sd.def_ 4 rfl
  exact ent_of (lam := false) (dkk := false) (fun h => nomatch h) (fun h => nomatch h) F (He.glo_ok C.KX C.G (C.sd.fact 4 rfl)) sc_with_bound C.g (FunD.bindsN F fun _ _ _ _ _ _ us hl => match us, hl with | [_, _, _, _], _ => rfl) .nil (fun _ => .nil) rfl k_with_bound (a_with_bound C)
theorem a_is_within (C : Ctx P w K mg base) : allSs (Ent P w K mg base (tabT K htf)) t_is_within := by
  unfold t_is_within
  repeat' first | exact trivial | apply And.intro | assumption
theorem e_is_within (C : Ctx P w K mg base) : Ent P w K mg base (tabT K htf) f_is_within := by
  obtain ⟨fd, F⟩ := C.sd.def_ 5 rfl
  exact ent_of (lam := false) (dkk := false) (fun h => nomatch h) (fun h => nomatch h) F (He.glo_ok C.KX C.G (C.sd.fact 5 rfl)) sc_is_within C.g (FunD.bindsN F fun _ _ _ _ _ _ us hl => match us, hl with | [_, _, _], _ => rfl) .nil (fun _ => .nil) rfl k_is_within (a_is_within C)
theorem a_has_items (C : Ctx P w K mg base) : allSs (Ent P w K mg base (tabT K htf)) t_has_items := by
  unfold t_has_items
  repeat' first | exact trivial | apply And.intro | assumption
theorem e_has_items (C : Ctx P w K mg base) : Ent P w K mg base (tabT K htf) f_has_items := by
  obtain ⟨fd, F⟩ := C.sd.def_ 6 rfl
  exact ent_of (lam := false) (dkk := false) (fun h => nomatch h) (fun h => nomatch h) F (He.glo_ok C.KX C.G (C.sd.fact 6 rfl)) sc_has_items C.g (FunD.bindsN F fun _ _ _ _ _ _ us hl => match us, hl with | [_, _, _], _ => rfl) .nil (fun _ => .nil) rfl k_has_items (a_has_items C)
theorem a_is_event_value (C : Ctx P w K mg base) : allSs (Ent P w K mg base (tabT K htf)) t_is_event_value := by
  have h0 := e_has_items C
  have h1 := e_is_within C
  unfold t_is_event_value
  repeat' first | exact trivial | apply And.intro | assumption
theorem e_is_event_value (C : Ctx P w K mg base) : Ent P w K mg base (tabT K htf) f_is_event_value := by
  obtain ⟨fd, F⟩ := C.sd.def_ 7 rfl
  exact ent_of (lam := false) (dkk := false) (fun h => nomatch h) (fun h => nomatch h) F (He.glo_ok C.KX C.G (C.sd.fact 7 rfl)) sc_is_event_value C.g (FunD.bindsN F fun _ _ _ _ _ _ us hl => match us, hl with | [_, _], _ => rfl) .nil (fun _ => .nil) rfl k_is_event_value (a_is_event_value C)
theorem a_is_end (C : Ctx P w K mg base) : allSs (Ent P w K mg base (tabT K htf)) t_is_end := by
  have h0 := e_is_within C
  unfold t_is_end
  repeat' first | exact trivial | apply And.intro | assumption
theorem e_is_end (C : Ctx P w K mg base) : Ent P w K mg base (tabT K htf) f_is_end := by
  obtain ⟨fd, F⟩ := C.sd.def_ 8 rfl
  exact ent_of (lam := false) (dkk := false) (fun h => nomatch h) (fun h => nomatch h) F (He.glo_ok C.KX C.G (C.sd.fact 8 rfl)) sc_is_end C.g (FunD.bindsN F fun _ _ _ _ _ _ us hl => match us, hl with | [_], _ => rfl) .nil (fun _ => .nil) rfl k_is_end (a_is_end C)
theorem a_is_fact_value (C : Ctx P w K mg base) : allSs (Ent P w K mg base (tabT K htf)) t_is_fact_value := by
  have h0 := e_has_items C
  have h1 := e_is_end C
  have h2 := e_is_within C
  unfold t_is_fact_value
  repeat' first | exact trivial | apply And.intro | assumption
theorem e_is_fact_value (C : Ctx P w K mg base) : Ent P w K mg base (tabT K htf) f_is_fact_value := by
  obtain ⟨fd, F⟩ := C.sd.def_ 9 rfl
  exact ent_of (lam := false) (dkk := false) (fun h => nomatch h) (fun h => nomatch h) F (He.glo_ok C.KX C.G (C.sd.fact 9 rfl)) sc_is_fact_value C.g (FunD.bindsN F fun _ _ _ _ _ _ us hl => match us, hl with | [_, _], _ => rfl) .nil (fun _ => .nil) rfl k_is_fact_value (a_is_fact_value C)
theorem a_is_shape (C : Ctx P w K mg base) : allSs (Ent P w K mg base (tabT K htf)) t_is_shape := by
  have h0 := e_has_items C
  have h1 := e_is_event_value C
  have h2 := e_is_fact_value C
  have h3 := e_is_within C
  unfold t_is_shape
  repeat' first | exact trivial | apply And.intro | assumption
theorem e_is_shape (C : Ctx P w K mg base) : Ent P w K mg base (tabT K htf) f_is_shape := by
  obtain ⟨fd, F⟩ := C.sd.def_ 10 rfl
  exact ent_of (lam := false) (dkk := false) (fun h => nomatch h) (fun h => nomatch h) F (He.glo_ok C.KX C.G (C.sd.fact 10 rfl)) sc_is_shape C.g (FunD.bindsN F fun _ _ _ _ _ _ us hl => match us, hl with | [_], _ => rfl) .nil (fun _ => .nil) rfl k_is_shape (a_is_shape C)
theorem a_with_fact (C : Ctx P w K mg base) : allSs (Ent P w K mg base (tabT K htf)) t_with_fact := by
  have h0 := e_with_bound C
  unfold t_with_fact
  repeat' first | exact trivial | apply And.intro | assumption
theorem e_with_fact (C : Ctx P w K mg base) : Ent P w K mg base (tabT K htf) f_with_fact := by
  obtain ⟨fd, F⟩ := C.sd.def_ 11 rfl
  exact ent_of (lam := false) (dkk := false) (fun h => nomatch h) (fun h => nomatch h) F (He.glo_ok C.KX C.G (C.sd.fact 11 rfl)) sc_with_fact C.g (FunD.bindsN F fun _ _ _ _ _ _ us hl => match us, hl with | [_, _], _ => rfl) .nil (fun _ => .nil) rfl k_with_fact (a_with_fact C)
theorem a_bounds_of (C : Ctx P w K mg base) : allSs (Ent P w K mg base (tabT K htf)) t_bounds_of := by
  have h0 := e_no_bounds C
  have h1 := e_with_fact C
  unfold t_bounds_of
  repeat' first | exact trivial | apply And.intro | assumption
theorem e_bounds_of (C : Ctx P w K mg base) : Ent P w K mg base (tabT K htf) f_bounds_of := by
  obtain ⟨fd, F⟩ := C.sd.def_ 12 rfl
  exact ent_of (lam := false) (dkk := false) (fun h => nomatch h) (fun h => nomatch h) F (He.glo_ok C.KX C.G (C.sd.fact 12 rfl)) sc_bounds_of C.g (FunD.bindsN F fun _ _ _ _ _ _ us hl => match us, hl with | [_], _ => rfl) .nil (fun _ => .nil) rfl k_bounds_of (a_bounds_of C)
theorem a_is_story_value (C : Ctx P w K mg base) : allSs (Ent P w K mg base (tabT K htf)) t_is_story_value := by
  have h0 := e_bounds_of C
  have h1 := e_is_shape C
  unfold t_is_story_value
  repeat' first | exact trivial | apply And.intro | assumption
theorem e_is_story_value (C : Ctx P w K mg base) : Ent P w K mg base (tabT K htf) f_is_story_value := by
  obtain ⟨fd, F⟩ := C.sd.def_ 13 rfl
  exact ent_of (lam := false) (dkk := false) (fun h => nomatch h) (fun h => nomatch h) F (He.glo_ok C.KX C.G (C.sd.fact 13 rfl)) sc_is_story_value C.g (FunD.bindsN F fun _ _ _ _ _ _ us hl => match us, hl with | [_], _ => rfl) .nil (fun _ => .nil) rfl k_is_story_value (a_is_story_value C)
theorem a_keeps (C : Ctx P w K mg base) : allSs (Ent P w K mg base (tabT K htf)) t_keeps := by
  unfold t_keeps
  repeat' first | exact trivial | apply And.intro | assumption
theorem e_keeps (C : Ctx P w K mg base) : Ent P w K mg base (tabT K htf) f_keeps := by
  obtain ⟨fd, F⟩ := C.sd.def_ 14 rfl
  exact ent_of (lam := false) (dkk := false) (fun h => nomatch h) (fun h => nomatch h) F (He.glo_ok C.KX C.G (C.sd.fact 14 rfl)) sc_keeps C.g (FunD.bindsN F fun _ _ _ _ _ _ us hl => match us, hl with | [_, _], _ => rfl) .nil (fun _ => .nil) rfl k_keeps (a_keeps C)
theorem a_are_hours (C : Ctx P w K mg base) : allSs (Ent P w K mg base (tabT K htf)) t_are_hours := by
  have h0 := e_has_items C
  have h1 := e_is_within C
  have h2 := e_keeps C
  unfold t_are_hours
  repeat' first | exact trivial | apply And.intro | assumption
theorem e_are_hours (C : Ctx P w K mg base) : Ent P w K mg base (tabT K htf) f_are_hours := by
  obtain ⟨fd, F⟩ := C.sd.def_ 15 rfl
  exact ent_of (lam := false) (dkk := false) (fun h => nomatch h) (fun h => nomatch h) F (He.glo_ok C.KX C.G (C.sd.fact 15 rfl)) sc_are_hours C.g (FunD.bindsN F fun _ _ _ _ _ _ us hl => match us, hl with | [_, _], _ => rfl) .nil (fun _ => .nil) rfl k_are_hours (a_are_hours C)
theorem a_need_story (C : Ctx P w K mg base) : allSs (Ent P w K mg base (tabT K htf)) t_need_story := by
  have h0 := e_is_story_value C
  unfold t_need_story
  repeat' first | exact trivial | apply And.intro | assumption
theorem e_need_story (C : Ctx P w K mg base) : Ent P w K mg base (tabT K htf) f_need_story := by
  obtain ⟨fd, F⟩ := C.sd.def_ 16 rfl
  exact ent_of (lam := false) (dkk := false) (fun h => nomatch h) (fun h => nomatch h) F (He.glo_ok C.KX C.G (C.sd.fact 16 rfl)) sc_need_story C.g (FunD.bindsN F fun _ _ _ _ _ _ us hl => match us, hl with | [_], _ => rfl) .nil (fun _ => .nil) rfl k_need_story (a_need_story C)
theorem a_is_story (C : Ctx P w K mg base) : allSs (Ent P w K mg base (tabT K htf)) t_is_story := by
  have h0 := e_is_story_value C
  unfold t_is_story
  repeat' first | exact trivial | apply And.intro | assumption
theorem e_is_story (C : Ctx P w K mg base) : Ent P w K mg base (tabT K htf) f_is_story := by
  obtain ⟨fd, F⟩ := C.sd.def_ 17 rfl
  exact ent_of (lam := false) (dkk := false) (fun h => nomatch h) (fun h => nomatch h) F (He.glo_ok C.KX C.G (C.sd.fact 17 rfl)) sc_is_story C.g (FunD.bindsN F fun _ _ _ _ _ _ us hl => match us, hl with | [_], _ => rfl) .nil (fun _ => .nil) rfl k_is_story (a_is_story C)
theorem a_is_hours (C : Ctx P w K mg base) : allSs (Ent P w K mg base (tabT K htf)) t_is_hours := by
  have h0 := e_are_hours C
  have h1 := e_need_story C
  unfold t_is_hours
  repeat' first | exact trivial | apply And.intro | assumption
theorem e_is_hours (C : Ctx P w K mg base) : Ent P w K mg base (tabT K htf) f_is_hours := by
  obtain ⟨fd, F⟩ := C.sd.def_ 18 rfl
  exact ent_of (lam := false) (dkk := false) (fun h => nomatch h) (fun h => nomatch h) F (He.glo_ok C.KX C.G (C.sd.fact 18 rfl)) sc_is_hours C.g (FunD.bindsN F fun _ _ _ _ _ _ us hl => match us, hl with | [_, _], _ => rfl) .nil (fun _ => .nil) rfl k_is_hours (a_is_hours C)
theorem a__law_whole (C : Ctx P w K mg base) : allSs (Ent P w K mg base (tabT K htf)) t__law_whole := by
  unfold t__law_whole
  repeat' first | exact trivial | apply And.intro | assumption
theorem e__law_whole (C : Ctx P w K mg base) : Ent P w K mg base (tabT K htf) f__law_whole := by
  obtain ⟨fd, F⟩ := C.sd.def_ 21 rfl
  exact ent_of (lam := false) (dkk := false) (fun h => nomatch h) (fun h => nomatch h) F (He.glo_ok C.KX C.G (C.sd.fact 21 rfl)) sc__law_whole C.g (FunD.bindsN F fun _ _ _ _ _ _ us hl => match us, hl with | [_], _ => rfl) .nil (fun _ => .nil) rfl k__law_whole (a__law_whole C)
theorem a__law_one (C : Ctx P w K mg base) : allSs (Ent P w K mg base (tabT K htf)) t__law_one := by
  have h0 := e__law_pick C
  unfold t__law_one
  repeat' first | exact trivial | apply And.intro | assumption
theorem e__law_one (C : Ctx P w K mg base) : Ent P w K mg base (tabT K htf) f__law_one := by
  obtain ⟨fd, F⟩ := C.sd.def_ 22 rfl
  exact ent_of (lam := false) (dkk := false) (fun h => nomatch h) (fun h => nomatch h) F (He.glo_ok C.KX C.G (C.sd.fact 22 rfl)) sc__law_one C.g (FunD.bindsN F fun _ _ _ _ _ _ us hl => match us, hl with | [_, _], _ => rfl) .nil (fun _ => .nil) rfl k__law_one (a__law_one C)
theorem a__law_sort (C : Ctx P w K mg base) : allSs (Ent P w K mg base (tabT K htf)) t__law_sort := by
  unfold t__law_sort
  repeat' first | exact trivial | apply And.intro | assumption
theorem e__law_sort (C : Ctx P w K mg base) : Ent P w K mg base (tabT K htf) f__law_sort := by
  obtain ⟨fd, F⟩ := C.sd.def_ 23 rfl
  exact ent_of (lam := false) (dkk := false) (fun h => nomatch h) (fun h => nomatch h) F (He.glo_ok C.KX C.G (C.sd.fact 23 rfl)) sc__law_sort C.g (FunD.bindsN F fun _ _ _ _ _ _ us hl => match us, hl with | [_], _ => rfl) .nil (fun _ => .nil) rfl k__law_sort (a__law_sort C)
theorem a__law_same (C : Ctx P w K mg base) (fr : Fn) (hfr : Ent P w K mg base (tabT K htf) fr) : allSs (Ent P w K mg base (tabT K htf)) (t__law_same fr) := by
  have h0 := e__law_sort C
  unfold t__law_same
  repeat' first | exact trivial | apply And.intro | assumption
theorem e__law_same_ (C : Ctx P w K mg base) : ∀ k, k ≤ 12 → Ent P w K mg base (tabT K htf) (f__law_same_ k)
  | 0, _ => by
    obtain ⟨fd, F⟩ := C.sd.def_ 24 rfl
    exact ent_stuck (ps := ["_law_told", "_law_due"]) (He.glo_ok C.KX C.G (C.sd.fact 24 rfl)) F.kp (FunD.bindsN F fun _ _ _ _ _ _ us hl => match us, hl with | [_, _], _ => rfl)
  | k + 1, h => by
    obtain ⟨fd, F⟩ := C.sd.def_ 24 rfl
    exact ent_of (lam := false) (dkk := false) (fun h => nomatch h) (fun h => nomatch h) F (He.glo_ok C.KX C.G (C.sd.fact 24 rfl)) sc__law_same C.g (FunD.bindsN F fun _ _ _ _ _ _ us hl => match us, hl with | [_, _], _ => rfl) .nil (fun _ => .nil) rfl (k__law_same k h) (a__law_same C _ (e__law_same_ C k (Nat.le_of_lt h)))
theorem e__law_same (C : Ctx P w K mg base) : Ent P w K mg base (tabT K htf) f__law_same := e__law_same_ C 12 (Nat.le_refl _)
theorem a__law_event (C : Ctx P w K mg base) : allSs (Ent P w K mg base (tabT K htf)) t__law_event := by
  have h0 := e__law_pick C
  unfold t__law_event
  repeat' first | exact trivial | apply And.intro | assumption
theorem e__law_event (C : Ctx P w K mg base) : Ent P w K mg base (tabT K htf) f__law_event := by
  obtain ⟨fd, F⟩ := C.sd.def_ 27 rfl
  exact ent_of (lam := false) (dkk := false) (fun h => nomatch h) (fun h => nomatch h) F (He.glo_ok C.KX C.G (C.sd.fact 27 rfl)) sc__law_event C.g (FunD.bindsN F fun _ _ _ _ _ _ us hl => match us, hl with | [_, _, _], _ => rfl) .nil (fun _ => .nil) rfl k__law_event (a__law_event C)
theorem a__law_end (C : Ctx P w K mg base) : allSs (Ent P w K mg base (tabT K htf)) t__law_end := by
  have h0 := e__law_one C
  unfold t__law_end
  repeat' first | exact trivial | apply And.intro | assumption
theorem e__law_end (C : Ctx P w K mg base) : Ent P w K mg base (tabT K htf) f__law_end := by
  obtain ⟨fd, F⟩ := C.sd.def_ 28 rfl
  exact ent_of (lam := false) (dkk := false) (fun h => nomatch h) (fun h => nomatch h) F (He.glo_ok C.KX C.G (C.sd.fact 28 rfl)) sc__law_end C.g (FunD.bindsN F fun _ _ _ _ _ _ us hl => match us, hl with | [_, _], _ => rfl) .nil (fun _ => .nil) rfl k__law_end (a__law_end C)
theorem a__law_fact (C : Ctx P w K mg base) : allSs (Ent P w K mg base (tabT K htf)) t__law_fact := by
  have h0 := e__law_end C
  have h1 := e__law_one C
  have h2 := e__law_pick C
  unfold t__law_fact
  repeat' first | exact trivial | apply And.intro | assumption
theorem e__law_fact (C : Ctx P w K mg base) : Ent P w K mg base (tabT K htf) f__law_fact := by
  obtain ⟨fd, F⟩ := C.sd.def_ 29 rfl
  exact ent_of (lam := false) (dkk := false) (fun h => nomatch h) (fun h => nomatch h) F (He.glo_ok C.KX C.G (C.sd.fact 29 rfl)) sc__law_fact C.g (FunD.bindsN F fun _ _ _ _ _ _ us hl => match us, hl with | [_, _, _], _ => rfl) .nil (fun _ => .nil) rfl k__law_fact (a__law_fact C)
theorem a__law_steps (C : Ctx P w K mg base) : allSs (Ent P w K mg base (tabT K htf)) t__law_steps := by
  unfold t__law_steps
  repeat' first | exact trivial | apply And.intro | assumption
theorem e__law_steps (C : Ctx P w K mg base) : Ent P w K mg base (tabT K htf) f__law_steps := by
  obtain ⟨fd, F⟩ := C.sd.def_ 31 rfl
  exact ent_of (lam := false) (dkk := false) (fun h => nomatch h) (fun h => nomatch h) F (He.glo_ok C.KX C.G (C.sd.fact 31 rfl)) sc__law_steps C.g (FunD.bindsN F fun _ _ _ _ _ _ us hl => match us, hl with | [_], _ => rfl) .nil (fun _ => .nil) rfl k__law_steps (a__law_steps C)
theorem a__law_early (C : Ctx P w K mg base) : allSs (Ent P w K mg base (tabT K htf)) t__law_early := by
  have h0 := e__law_steps C
  unfold t__law_early
  repeat' first | exact trivial | apply And.intro | assumption
theorem e__law_early (C : Ctx P w K mg base) : Ent P w K mg base (tabT K htf) f__law_early := by
  obtain ⟨fd, F⟩ := C.sd.def_ 32 rfl
  exact ent_of (lam := false) (dkk := false) (fun h => nomatch h) (fun h => nomatch h) F (He.glo_ok C.KX C.G (C.sd.fact 32 rfl)) sc__law_early C.g (FunD.bindsN F fun _ _ _ _ _ _ us hl => match us, hl with | [_, _], _ => rfl) .nil (fun _ => .nil) rfl k__law_early (a__law_early C)
theorem a__law_story (C : Ctx P w K mg base) : allSs (Ent P w K mg base (tabT K htf)) t__law_story := by
  have h0 := e__law_early C
  have h1 := e__law_event C
  have h2 := e__law_fact C
  have h3 := e__law_pick C
  unfold t__law_story
  repeat' first | exact trivial | apply And.intro | assumption
theorem e__law_story (C : Ctx P w K mg base) : Ent P w K mg base (tabT K htf) f__law_story := by
  obtain ⟨fd, F⟩ := C.sd.def_ 30 rfl
  exact ent_of (lam := false) (dkk := false) (fun h => nomatch h) (fun h => nomatch h) F (He.glo_ok C.KX C.G (C.sd.fact 30 rfl)) sc__law_story C.g (FunD.bindsN F fun _ _ _ _ _ _ us hl => match us, hl with | [_, _, _], _ => rfl) .nil (fun _ => .nil) rfl k__law_story (a__law_story C)
theorem a__law_keeps (C : Ctx P w K mg base) : allSs (Ent P w K mg base (tabT K htf)) t__law_keeps := by
  unfold t__law_keeps
  repeat' first | exact trivial | apply And.intro | assumption
theorem e__law_keeps (C : Ctx P w K mg base) : Ent P w K mg base (tabT K htf) f__law_keeps := by
  obtain ⟨fd, F⟩ := C.sd.def_ 33 rfl
  exact ent_of (lam := false) (dkk := false) (fun h => nomatch h) (fun h => nomatch h) F (He.glo_ok C.KX C.G (C.sd.fact 33 rfl)) sc__law_keeps C.g (FunD.bindsN F fun _ _ _ _ _ _ us hl => match us, hl with | [_, _], _ => rfl) .nil (fun _ => .nil) rfl k__law_keeps (a__law_keeps C)
theorem a__law_number (C : Ctx P w K mg base) : allSs (Ent P w K mg base (tabT K htf)) t__law_number := by
  have h0 := e__law_whole C
  unfold t__law_number
  repeat' first | exact trivial | apply And.intro | assumption
theorem e__law_number (C : Ctx P w K mg base) : Ent P w K mg base (tabT K htf) f__law_number := by
  obtain ⟨fd, F⟩ := C.sd.def_ 34 rfl
  exact ent_of (lam := false) (dkk := false) (fun h => nomatch h) (fun h => nomatch h) F (He.glo_ok C.KX C.G (C.sd.fact 34 rfl)) sc__law_number C.g (FunD.bindsN F fun _ _ _ _ _ _ us hl => match us, hl with | [_, _, _], _ => rfl) .nil (fun _ => .nil) rfl k__law_number (a__law_number C)
theorem a__law_is_event (C : Ctx P w K mg base) : allSs (Ent P w K mg base (tabT K htf)) t__law_is_event := by
  have h0 := e__law_number C
  unfold t__law_is_event
  repeat' first | exact trivial | apply And.intro | assumption
theorem e__law_is_event (C : Ctx P w K mg base) : Ent P w K mg base (tabT K htf) f__law_is_event := by
  obtain ⟨fd, F⟩ := C.sd.def_ 35 rfl
  exact ent_of (lam := false) (dkk := false) (fun h => nomatch h) (fun h => nomatch h) F (He.glo_ok C.KX C.G (C.sd.fact 35 rfl)) sc__law_is_event C.g (FunD.bindsN F fun _ _ _ _ _ _ us hl => match us, hl with | [_, _], _ => rfl) .nil (fun _ => .nil) rfl k__law_is_event (a__law_is_event C)
theorem a__law_is_fact (C : Ctx P w K mg base) : allSs (Ent P w K mg base (tabT K htf)) t__law_is_fact := by
  have h0 := e__law_number C
  unfold t__law_is_fact
  repeat' first | exact trivial | apply And.intro | assumption
theorem e__law_is_fact (C : Ctx P w K mg base) : Ent P w K mg base (tabT K htf) f__law_is_fact := by
  obtain ⟨fd, F⟩ := C.sd.def_ 36 rfl
  exact ent_of (lam := false) (dkk := false) (fun h => nomatch h) (fun h => nomatch h) F (He.glo_ok C.KX C.G (C.sd.fact 36 rfl)) sc__law_is_fact C.g (FunD.bindsN F fun _ _ _ _ _ _ us hl => match us, hl with | [_, _], _ => rfl) .nil (fun _ => .nil) rfl k__law_is_fact (a__law_is_fact C)
theorem a__law_is_story (C : Ctx P w K mg base) : allSs (Ent P w K mg base (tabT K htf)) t__law_is_story := by
  have h0 := e__law_early C
  have h1 := e__law_is_event C
  have h2 := e__law_is_fact C
  have h3 := e__law_number C
  unfold t__law_is_story
  repeat' first | exact trivial | apply And.intro | assumption
theorem e__law_is_story (C : Ctx P w K mg base) : Ent P w K mg base (tabT K htf) f__law_is_story := by
  obtain ⟨fd, F⟩ := C.sd.def_ 37 rfl
  exact ent_of (lam := false) (dkk := false) (fun h => nomatch h) (fun h => nomatch h) F (He.glo_ok C.KX C.G (C.sd.fact 37 rfl)) sc__law_is_story C.g (FunD.bindsN F fun _ _ _ _ _ _ us hl => match us, hl with | [_], _ => rfl) .nil (fun _ => .nil) rfl k__law_is_story (a__law_is_story C)
theorem a__law_spoilt (C : Ctx P w K mg base) (fr : Fn) (hfr : Ent P w K mg base (tabT K htf) fr) : allSs (Ent P w K mg base (tabT K htf)) (t__law_spoilt fr) := by
  have h0 := e__law_one C
  have h1 := e__law_pick C
  have h2 := e__law_whole C
  unfold t__law_spoilt
  repeat' first | exact trivial | apply And.intro | assumption
theorem e__law_spoilt_ (C : Ctx P w K mg base) : ∀ k, k ≤ 12 → Ent P w K mg base (tabT K htf) (f__law_spoilt_ k)
  | 0, _ => by
    obtain ⟨fd, F⟩ := C.sd.def_ 38 rfl
    exact ent_stuck (ps := ["_law_deck_here", "_law_thing"]) (He.glo_ok C.KX C.G (C.sd.fact 38 rfl)) F.kp (FunD.bindsN F fun _ _ _ _ _ _ us hl => match us, hl with | [_, _], _ => rfl)
  | k + 1, h => by
    obtain ⟨fd, F⟩ := C.sd.def_ 38 rfl
    exact ent_of (lam := false) (dkk := false) (fun h => nomatch h) (fun h => nomatch h) F (He.glo_ok C.KX C.G (C.sd.fact 38 rfl)) sc__law_spoilt C.g (FunD.bindsN F fun _ _ _ _ _ _ us hl => match us, hl with | [_, _], _ => rfl) .nil (fun _ => .nil) rfl (k__law_spoilt k h) (a__law_spoilt C _ (e__law_spoilt_ C k (Nat.le_of_lt h)))
theorem e__law_spoilt (C : Ctx P w K mg base) : Ent P w K mg base (tabT K htf) f__law_spoilt := e__law_spoilt_ C 12 (Nat.le_refl _)
theorem a__law_hours_right (C : Ctx P w K mg base) : allSs (Ent P w K mg base (tabT K htf)) t__law_hours_right := by
  have h0 := e__law_early C
  have h1 := e__law_keeps C
  have h2 := e__law_same C
  have h3 := e__law_spoilt C
  have h4 := e__law_whole C
  have h5 := e_is_hours C
  unfold t__law_hours_right
  repeat' first | exact trivial | apply And.intro | assumption
theorem e__law_hours_right (C : Ctx P w K mg base) : Ent P w K mg base (tabT K htf) f__law_hours_right := by
  obtain ⟨fd, F⟩ := C.sd.def_ 39 rfl
  exact ent_of (lam := false) (dkk := false) (fun h => nomatch h) (fun h => nomatch h) F (He.glo_ok C.KX C.G (C.sd.fact 39 rfl)) sc__law_hours_right C.g (FunD.bindsN F fun _ _ _ _ _ _ us hl => match us, hl with | [_, _], _ => rfl) .nil (fun _ => .nil) rfl k__law_hours_right (a__law_hours_right C)
theorem a_law (C : Ctx P w K mg base) : allSs (Ent P w K mg base (tabT K htf)) t_law := by
  have h0 := e__law_hours_right C
  have h1 := e__law_is_story C
  have h2 := e__law_same C
  have h3 := e__law_spoilt C
  have h4 := e__law_story C
  have h5 := e_is_hours C
  have h6 := e_is_story C
  unfold t_law
  repeat' first | exact trivial | apply And.intro | assumption
theorem fn_law (C : Ctx P w K mg base) {fd : FuncData} (F : FunD K "law" "law" (defArgs (top 64)) (defBody (top 64)) (defScope (top 64)) [] [] (He.fAd K ("law", none)) fd) : FnOk P w K mg base (L2N.CX P w) 19 (He.fAd K ("law", none)) fd ["_law_script"] (spT K (tabT K htf) mg n_law.length t_law ["_law_script"] []) :=
  fnok_of (lam := true) (dkk := true) (fun _ => lamF_of F (by decide) (c_tabN C) C.tb (c_try C) (c_td C)) (fun _ => c_deck C) F sc_law C.g k_law (a_law C)
end
end Z
end
-- MA
section
set_option Elab.async false
set_option linter.all false
set_option maxRecDepth 100000
set_option maxHeartbeats 1000000
/-! MA: reckoning with runs. -/
namespace Z
open PySem
/-! ### equations -/
theorem ife_bl_and (b c : Bool) : ife b (ok (D.bl c)) (ok (D.bl false)) = ok (D.bl (b && c)) := by cases b <;> rfl
theorem ife_bl_or (b c : Bool) : ife b (ok (D.bl true)) (ok (D.bl c)) = ok (D.bl (b || c)) := by cases b <;> rfl
theorem ife_and (b c : Bool) : ife b (ok c) (ok false) = ok (b && c) := by cases b <;> rfl
theorem ife_or (b c : Bool) : ife b (ok true) (ok c) = ok (b || c) := by cases b <;> rfl
theorem ife_ok {α : Type} (b : Bool) (x y : α) : ife b (ok x) (ok y) = ok (if b = true then x else y) := by cases b <;> rfl
theorem ife_same {α : Type} (b : Bool) (x : W α) : ife b x x = x := by cases b <;> rfl
theorem asB_bl (b : Bool) : asB (.bl b) = ok b := rfl
theorem bnd_ret {α : Type} (m : W α) : (bnd m fun a => ok a) = m := rfl
theorem callW_of {f : Fn} {as : List Sl} {d : D} (h : f.sem as = ok d) (hd : as.any isDeck = false) : callW f as = ok d := by
  unfold callW
  rw [hd, h]; rfl
theorem callW_rz {f : Fn} {as : List Sl} {e : Exc} (h : f.sem as = rz e) (hd : as.any isDeck = false) : callW f as = rz e := by
  unfold callW
  rw [hd, h]; rfl

/-! ### a test, a body, with what follows -/
mutual
def evB : Ex → Ev → W Bool
  | .and es, ρ => evBa es ρ
  | .or es, ρ => evBo es ρ
  | .not a, ρ => bnd (evB a ρ) fun k => ok (!k)
  | .var i, ρ => bnd (evE (.var i) ρ) asB
  | .own i, ρ => bnd (evE (.own i) ρ) asB
  | .non, ρ => bnd (evE .non ρ) asB
  | .bl b, ρ => ok b
  | .int i, ρ => bnd (evE (.int i) ρ) asB
  | .str x, ρ => bnd (evE (.str x) ρ) asB
  | .tup es, ρ => bnd (evE (.tup es) ρ) asB
  | .lst es, ρ => bnd (evE (.lst es) ρ) asB
  | .op o a b, ρ => bnd (evE (.op o a b) ρ) asB
  | .neg a, ρ => bnd (evE (.neg a) ρ) asB
  | .cmp o a b, ρ => bnd (evE (.cmp o a b) ρ) asB
  | .chain o1 o2 a b c, ρ => bnd (evE (.chain o1 o2 a b c) ρ) asB
  | .ite t a b, ρ => bnd (evE (.ite t a b) ρ) asB
  | .ix a i, ρ => bnd (evE (.ix a i) ρ) asB
  | .slc a lo hi, ρ => bnd (evE (.slc a lo hi) ρ) asB
  | .rev a, ρ => bnd (evE (.rev a) ρ) asB
  | .call f es, ρ => bnd (evE (.call f es) ρ) asB
  | .bi f es, ρ => bnd (evE (.bi f es) ρ) asB
  | .comp a b c d e, ρ => bnd (evE (.comp a b c d e) ρ) asB
  | .comp2 a b c d e f g h i, ρ => bnd (evE (.comp2 a b c d e f g h i) ρ) asB
  | .idx a b, ρ => bnd (evE (.idx a b) ρ) asB
  | .cnt a b, ρ => bnd (evE (.cnt a b) ρ) asB
  | .join a b, ρ => bnd (evE (.join a b) ρ) asB
  | .split a b, ρ => bnd (evE (.split a b) ρ) asB
  | .fstr a, ρ => bnd (evE (.fstr a) ρ) asB
  | .dget a b, ρ => bnd (evE (.dget a b) ρ) asB
  | .dict a, ρ => bnd (evE (.dict a) ρ) asB
  | .dcp a, ρ => bnd (evE (.dcp a) ρ) asB
  | .tryl a, ρ => bnd (evE (.tryl a) ρ) asB
def evBa : Exs → Ev → W Bool
  | .nil, _ => stuck
  | .cons e r, ρ => (match r with
    | .nil => evB e ρ
    | .cons _ _ => bnd (evB e ρ) fun k => ife k (evBa r ρ) (ok false))
def evBo : Exs → Ev → W Bool
  | .nil, _ => stuck
  | .cons e r, ρ => (match r with
    | .nil => evB e ρ
    | .cons _ _ => bnd (evB e ρ) fun k => ife k (ok true) (evBo r ρ))
end
mutual
theorem evB_eq : ∀ (e : Ex) (ρ : Ev), bnd (evE e ρ) asB = evB e ρ
  | .and es, ρ => evBa_eq es ρ
  | .or es, ρ => evBo_eq es ρ
  | .not a, ρ => by
    show (bnd (bnd (evE a ρ) asB) fun k => ok (!k)) = _
    rw [evB_eq a ρ]; rfl
  | .var i, ρ => rfl
  | .own i, ρ => rfl
  | .non, ρ => rfl
  | .bl b, ρ => rfl
  | .int i, ρ => rfl
  | .str x, ρ => rfl
  | .tup es, ρ => rfl
  | .lst es, ρ => rfl
  | .op o a b, ρ => rfl
  | .neg a, ρ => rfl
  | .cmp o a b, ρ => rfl
  | .chain o1 o2 a b c, ρ => rfl
  | .ite t a b, ρ => rfl
  | .ix a i, ρ => rfl
  | .slc a lo hi, ρ => rfl
  | .rev a, ρ => rfl
  | .call f es, ρ => rfl
  | .bi f es, ρ => rfl
  | .comp a b c d e, ρ => rfl
  | .comp2 a b c d e f g h i, ρ => rfl
  | .idx a b, ρ => rfl
  | .cnt a b, ρ => rfl
  | .join a b, ρ => rfl
  | .split a b, ρ => rfl
  | .fstr a, ρ => rfl
  | .dget a b, ρ => rfl
  | .dict a, ρ => rfl
  | .dcp a, ρ => rfl
  | .tryl a, ρ => rfl
theorem evBa_eq : ∀ (es : Exs) (ρ : Ev), bnd (evAnd es ρ) asB = evBa es ρ
  | .nil, ρ => rfl
  | .cons e .nil, ρ => evB_eq e ρ
  | .cons e (.cons f r), ρ => by
    show (bnd (bnd (evE e ρ) asB) fun k => bnd (ife k (evAnd (.cons f r) ρ) (ok (.bl false))) asB) = bnd (evB e ρ) fun k => ife k (evBa (.cons f r) ρ) (ok false)
    rw [evB_eq e ρ, ← evBa_eq (.cons f r) ρ]
    congr 1
    funext k
    cases k <;> rfl
theorem evBo_eq : ∀ (es : Exs) (ρ : Ev), bnd (evOr es ρ) asB = evBo es ρ
  | .nil, ρ => rfl
  | .cons e .nil, ρ => evB_eq e ρ
  | .cons e (.cons f r), ρ => by
    show (bnd (bnd (evE e ρ) asB) fun k => bnd (ife k (ok (.bl true)) (evOr (.cons f r) ρ)) asB) = bnd (evB e ρ) fun k => ife k (ok true) (evBo (.cons f r) ρ)
    rw [evB_eq e ρ, ← evBo_eq (.cons f r) ρ]
    congr 1
    funext k
    cases k <;> rfl
end
/-- for, with what follows -/
def forK (t : Tg) (b : Ev → (Ev → W D) → W D) : List D → Ev → (Ev → W D) → W D
  | [], ρ, k => k ρ
  | d :: r, ρ, k => bnd (bindT t d ρ) fun ρ1 => b ρ1 fun ρ2 => forK t b r ρ2 k
def fin (m : W Fl) (k : Ev → W D) : W D := bnd m fun fl => match fl with
  | .nx ρ => k ρ
  | .rt d => ok d
mutual
def stC : St → Ev → (Ev → W D) → W D
  | .iff t a b, ρ, k => bnd (evB t ρ) fun c => ife c (runC a ρ k) (runC b ρ k)
  | .ret e, ρ, _ => evE e ρ
  | .set i e, ρ, k => bnd (evE e ρ) fun d => k (put ρ i (.val d))
  | .asg t e, ρ, k => bnd (evE e ρ) fun d => bnd (bindT t d ρ) k
  | .for_ t it b, ρ, k => bnd (evI it ρ) fun ds => forK t (fun ρ' k' => runC b ρ' k') ds ρ k
  | .expr e, ρ, k => bnd (evE e ρ) fun _ => k ρ
  | .setO i e, ρ, k => fin (runS (.setO i e) ρ) k
  | .move i j, ρ, k => fin (runS (.move i j) ρ) k
  | .freeze i, ρ, k => fin (runS (.freeze i) ρ) k
  | .mkdeck i a b, ρ, k => fin (runS (.mkdeck i a b) ρ) k
  | .par a b, ρ, k => fin (runS (.par a b) ρ) k
  | .aug a b c, ρ, k => fin (runS (.aug a b c) ρ) k
  | .setix a b c, ρ, k => fin (runS (.setix a b c) ρ) k
  | .app a b, ρ, k => fin (runS (.app a b) ρ) k
  | .dput a b c, ρ, k => fin (runS (.dput a b c) ρ) k
  | .whl a b, ρ, k => fin (runS (.whl a b) ρ) k
  | .rais a b, ρ, k => fin (runS (.rais a b) ρ) k
def runC : Sts → Ev → (Ev → W D) → W D
  | .nil, ρ, k => k ρ
  | .cons s r, ρ, k => stC s ρ fun ρ' => runC r ρ' k
end
theorem fin_ife (c : Bool) (x y : W Fl) (k : Ev → W D) : fin (ife c x y) k = ife c (fin x k) (fin y k) := by cases c <;> rfl
theorem fin_bnd {α : Type} (m : W α) (f : α → W Fl) (k : Ev → W D) : fin (bnd m f) k = bnd m fun a => fin (f a) k := rfl
theorem fin_then (m : W Fl) (f : Ev → W Fl) (k : Ev → W D) : fin (thenF m f) k = fin m fun ρ => fin (f ρ) k := by
  show (fun n Q E => m n (fun a n' => _) E) = fun n Q E => m n (fun a n' => _) E
  funext n Q E
  congr 1
  funext a n'
  cases a <;> rfl
theorem forK_eq {t : Tg} {b : Ev → W Fl} {k : Ev → W D} : ∀ (ds : List D) (ρ : Ev), fin (forW t b ds ρ) k = forK t (fun ρ' k' => fin (b ρ') k') ds ρ k
  | [], ρ => rfl
  | d :: r, ρ => by
    show (bnd (bindT t d ρ) fun ρ1 => fin (thenF (b ρ1) fun ρ2 => forW t b r ρ2) k) = bnd (bindT t d ρ) fun ρ1 => fin (b ρ1) fun ρ2 => forK t _ r ρ2 k
    congr 1
    funext ρ1
    rw [fin_then]
    congr 1
    funext ρ2
    exact forK_eq r ρ2
mutual
theorem stC_eq : ∀ (s : St) (ρ : Ev) (k : Ev → W D), fin (runS s ρ) k = stC s ρ k
  | .iff t a b, ρ, k => by
    show (bnd (bnd (evE t ρ) asB) fun c => fin (ife c (runs a ρ) (runs b ρ)) k) = bnd (evB t ρ) fun c => ife c (runC a ρ k) (runC b ρ k)
    rw [evB_eq]
    congr 1
    funext c
    rw [fin_ife, runC_eq a ρ k, runC_eq b ρ k]
  | .ret e, ρ, k => rfl
  | .set i e, ρ, k => rfl
  | .asg t e, ρ, k => rfl
  | .for_ t it b, ρ, k => by
    show (bnd (evI it ρ) fun ds => fin (forW t (fun ρ' => runs b ρ') ds ρ) k) = bnd (evI it ρ) fun ds => forK t (fun ρ' k' => runC b ρ' k') ds ρ k
    congr 1
    funext ds
    rw [forK_eq]
    congr 1
    funext ρ' k'
    exact runC_eq b ρ' k'
  | .expr e, ρ, k => rfl
  | .setO i e, ρ, k => rfl
  | .move i j, ρ, k => rfl
  | .freeze i, ρ, k => rfl
  | .mkdeck i a b, ρ, k => rfl
  | .par a b, ρ, k => rfl
  | .aug a b c, ρ, k => rfl
  | .setix a b c, ρ, k => rfl
  | .app a b, ρ, k => rfl
  | .dput a b c, ρ, k => rfl
  | .whl a b, ρ, k => rfl
  | .rais a b, ρ, k => rfl
theorem runC_eq : ∀ (s : Sts) (ρ : Ev) (k : Ev → W D), fin (runs s ρ) k = runC s ρ k
  | .nil, ρ, k => rfl
  | .cons s r, ρ, k => by
    show fin (thenF (runS s ρ) fun ρ' => runs r ρ') k = stC s ρ fun ρ' => runC r ρ' k
    rw [fin_then, stC_eq s ρ]
    congr 1
    funext ρ'
    exact runC_eq r ρ' k
end
theorem semC {m : Nat} {b : Sts} {pro : List Nat} {dds : List D} {as : List Sl} (h : okDk pro 0 as = true) : semD m b pro dds as = runC b ((as ++ dds.map Sl.val) ++ List.replicate (m - (as ++ dds.map Sl.val).length) .no) fun _ => ok .non := by
  unfold semD
  rw [h]
  exact (runC_eq b _ _)
theorem semC2 {m : Nat} {b b2 : Sts} {pro : List Nat} {dds : List D} {as : List Sl} {ρ : Ev} {x y : W D} (hx : x = semD m b pro dds as) (h : okDk pro 0 as = true) (h2 : (as ++ dds.map Sl.val) ++ List.replicate (m - (as ++ dds.map Sl.val).length) .no = ρ) (h3 : b = b2) (h4 : runC b2 ρ (fun _ => ok .non) = y) : x = y := by
  rw [hx, semC h, h2, h3, h4]
end Z
end
-- MC
section
set_option linter.all false
/-! MC: bounds of differences, raising numbers: plain. -/
namespace Z
/-! ### bounds -/
def lsr : Option Int → Option Int → Option Int
  | none, b => b
  | some a, none => some a
  | some a, some b => some (if b < a then b else a)
def smd : Option Int → Option Int → Option Int
  | some a, some b => some (a + b)
  | _, _ => none
abbrev Bd := Nat → Nat → Option Int
def bd0 : Bd := fun i j => if i = j then some 0 else none
def clo (g : Bd) (p q : Nat) (m : Int) : Bd := fun f s => lsr (g f s) (smd (smd (g f p) (some m)) (g q s))
def wbd (g : Bd) (p q : Nat) (m : Int) : Option Bd :=
  match g q p with
  | some b => if b + m < 0 then none else (match g p q with
    | some c => if c ≤ m then some g else some (clo g p q m)
    | none => some (clo g p q m))
  | none => (match g p q with
    | some c => if c ≤ m then some g else some (clo g p q m)
    | none => some (clo g p q m))
def Sat (n : Nat) (g : Bd) (x : Nat → Int) : Prop := ∀ i j, i < n → j < n → ∀ b, g i j = some b → x i - x j ≤ b
structure Clo (n : Nat) (g : Bd) : Prop where
  diag : ∀ i, i < n → g i i = some 0
  tri : ∀ i j k, i < n → j < n → k < n → ∀ a b, g i j = some a → g j k = some b → ∃ c, g i k = some c ∧ c ≤ a + b
theorem clo_bd0 (n : Nat) : Clo n bd0 := by
  refine ⟨fun i _ => by simp [bd0], fun i j k _ _ _ a b ha hb => ?_⟩
  unfold bd0 at ha hb ⊢
  split at ha
  · split at hb
    · cases ha; cases hb
      rename_i e1 e2
      exact ⟨0, by simp [e1, e2], by omega⟩
    · cases hb
  · cases ha
theorem sat_bd0 (n : Nat) (x : Nat → Int) : Sat n bd0 x := by
  intro i j _ _ b hb
  unfold bd0 at hb
  split at hb
  · cases hb; rename_i e; subst e; omega
  · cases hb
/-- what the closer bound is -/
theorem clo_cases {g : Bd} {p q : Nat} {m : Int} {f s : Nat} {c : Int} (h : clo g p q m f s = some c) :
    (g f s = some c) ∨ ∃ a b, g f p = some a ∧ g q s = some b ∧ c = a + m + b := by
  unfold clo lsr smd at h
  cases h1 : g f s with
  | none =>
    rw [h1] at h
    cases h2 : g f p with
    | none => rw [h2] at h; simp at h
    | some a =>
      cases h3 : g q s with
      | none => rw [h2, h3] at h; simp at h
      | some b =>
        rw [h2, h3] at h
        simp at h
        exact .inr ⟨a, b, rfl, rfl, h.symm⟩
  | some d =>
    rw [h1] at h
    cases h2 : g f p with
    | none => rw [h2] at h; simp at h; exact .inl (by rw [h])
    | some a =>
      cases h3 : g q s with
      | none => rw [h2, h3] at h; simp at h; exact .inl (by rw [h])
      | some b =>
        rw [h2, h3] at h
        simp at h
        split at h
        · exact .inr ⟨a, b, rfl, rfl, h.symm⟩
        · exact .inl (by rw [h])
theorem clo_old {g : Bd} {p q : Nat} {m : Int} {f s : Nat} {c : Int} (h : g f s = some c) : ∃ d, clo g p q m f s = some d ∧ d ≤ c := by
  unfold clo lsr smd
  rw [h]
  cases h2 : g f p with
  | none => exact ⟨c, by simp, by omega⟩
  | some a =>
    cases h3 : g q s with
    | none => exact ⟨c, by simp, by omega⟩
    | some b =>
      simp
      split <;> omega
theorem clo_new {g : Bd} {p q : Nat} {m : Int} {f s : Nat} {a b : Int} (h2 : g f p = some a) (h3 : g q s = some b) : ∃ d, clo g p q m f s = some d ∧ d ≤ a + m + b := by
  unfold clo lsr smd
  rw [h2, h3]
  cases h1 : g f s with
  | none => exact ⟨_, rfl, by omega⟩
  | some d =>
    simp
    split <;> omega
theorem clo_closed {n : Nat} {g : Bd} (C : Clo n g) {p q : Nat} {m : Int} (hp : p < n) (hq : q < n) (hb : ∀ b, g q p = some b → 0 ≤ b + m) : Clo n (clo g p q m) := by
  constructor
  · intro i hi
    obtain ⟨d, hd, hle⟩ := clo_old (p := p) (q := q) (m := m) (C.diag i hi)
    rcases clo_cases hd with h | ⟨a, b, h2, h3, e⟩
    · rw [C.diag i hi] at h; cases h; exact hd
    · obtain ⟨c, hc, hle2⟩ := C.tri q i p hq hi hp b a h3 h2
      have := hb c hc
      have : d = 0 := by omega
      rw [this] at hd; exact hd
  · intro i j k hi hj hk a b ha hb2
    rcases clo_cases ha with h1 | ⟨a1, b1, h1, h2, e1⟩
    · rcases clo_cases hb2 with h3 | ⟨a2, b2, h3, h4, e2⟩
      · obtain ⟨c, hc, hle⟩ := C.tri i j k hi hj hk a b h1 h3
        obtain ⟨d, hd, hle2⟩ := clo_old (p := p) (q := q) (m := m) hc
        exact ⟨d, hd, by omega⟩
      · obtain ⟨c, hc, hle⟩ := C.tri i j p hi hj hp a a2 h1 h3
        obtain ⟨d, hd, hle2⟩ := clo_new (m := m) hc h4
        exact ⟨d, hd, by omega⟩
    · rcases clo_cases hb2 with h3 | ⟨a2, b2, h3, h4, e2⟩
      · obtain ⟨c, hc, hle⟩ := C.tri q j k hq hj hk b1 b h2 h3
        obtain ⟨d, hd, hle2⟩ := clo_new (m := m) h1 hc
        exact ⟨d, hd, by omega⟩
      · obtain ⟨c, hc, hle⟩ := C.tri q j p hq hj hp b1 a2 h2 h3
        have := hb c hc
        obtain ⟨d, hd, hle2⟩ := clo_new (m := m) h1 h4
        exact ⟨d, hd, by omega⟩
theorem wbd_none {n : Nat} {g : Bd} {p q : Nat} {m : Int} (hp : p < n) (hq : q < n) (h : wbd g p q m = none) (x : Nat → Int) (hs : Sat n g x) : ¬ x p - x q ≤ m := by
  unfold wbd at h
  split at h
  · rename_i b hb
    split at h
    · have := hs q p hq hp b hb
      omega
    · split at h
      · split at h <;> cases h
      · cases h
  · split at h
    · split at h <;> cases h
    · cases h
theorem wbd_some {n : Nat} {g g' : Bd} (C : Clo n g) {p q : Nat} {m : Int} (hp : p < n) (hq : q < n) (h : wbd g p q m = some g') : Clo n g' ∧ ∀ x, Sat n g' x ↔ (Sat n g x ∧ x p - x q ≤ m) := by
  have hcl : (∀ b, g q p = some b → 0 ≤ b + m) → Clo n (clo g p q m) ∧ ∀ x, Sat n (clo g p q m) x ↔ (Sat n g x ∧ x p - x q ≤ m) := fun hb => by
    refine ⟨clo_closed C hp hq hb, fun x => ⟨fun hs => ⟨fun i j hi hj b hb2 => ?_, ?_⟩, fun ⟨hs, hm⟩ i j hi hj b hb2 => ?_⟩⟩
    · obtain ⟨d, hd, hle⟩ := clo_old (p := p) (q := q) (m := m) hb2
      have := hs i j hi hj d hd
      omega
    · obtain ⟨d, hd, hle⟩ := clo_new (m := m) (C.diag p hp) (C.diag q hq)
      have := hs p q hp hq d hd
      omega
    · rcases clo_cases hb2 with h1 | ⟨a1, b1, h1, h2, e1⟩
      · exact hs i j hi hj b h1
      · have k1 := hs i p hi hp a1 h1
        have k2 := hs q j hq hj b1 h2
        omega
  have hsame : ∀ c, g p q = some c → c ≤ m → Clo n g ∧ ∀ x, Sat n g x ↔ (Sat n g x ∧ x p - x q ≤ m) := fun c hc hm =>
    ⟨C, fun x => ⟨fun hs => ⟨hs, by have := hs p q hp hq c hc; omega⟩, fun h => h.1⟩⟩
  unfold wbd at h
  split at h
  · rename_i b hb
    split at h
    · cases h
    · rename_i hbm
      have hb' : ∀ b', g q p = some b' → 0 ≤ b' + m := fun b' e => by rw [hb] at e; cases e; omega
      split at h
      · rename_i c hc
        split at h
        · rename_i hm; cases h; exact hsame c hc hm
        · cases h; exact hcl hb'
      · cases h; exact hcl hb'
  · rename_i hb
    have hb' : ∀ b', g q p = some b' → 0 ≤ b' + m := fun b' e => by rw [hb] at e; cases e
    split at h
    · rename_i c hc
      split at h
      · rename_i hm; cases h; exact hsame c hc hm
      · cases h; exact hcl hb'
    · cases h; exact hcl hb'
theorem between (L U : List Int) (h : ∀ l ∈ L, ∀ u ∈ U, l ≤ u) : ∃ v : Int, (∀ l ∈ L, l ≤ v) ∧ ∀ u ∈ U, v ≤ u := by
  induction L generalizing U with
  | nil =>
    clear h
    induction U with
    | nil => exact ⟨0, by simp, by simp⟩
    | cons u U ih =>
      obtain ⟨v, _, h2⟩ := ih
      refine ⟨min u v, by simp, fun w hw => ?_⟩
      rcases List.mem_cons.mp hw with rfl | hw
      · omega
      · have := h2 w hw; omega
  | cons a L ih =>
    obtain ⟨v, h1, h2⟩ := ih U fun l hl u hu => h l (List.mem_cons_of_mem _ hl) u hu
    refine ⟨max a v, fun l hl => ?_, fun u hu => ?_⟩
    · rcases List.mem_cons.mp hl with rfl | hl
      · omega
      · have := h1 l hl; omega
    · have := h a List.mem_cons_self u hu
      have := h2 u hu
      omega
/-- closed bounds have numbers -/
theorem clo_sat {n : Nat} {g : Bd} (C : Clo n g) : ∃ x, Sat n g x := by
  have key : ∀ k, k ≤ n → ∃ x, Sat k g x := by
    intro k
    induction k with
    | zero => exact fun _ => ⟨fun _ => 0, fun i j hi => absurd hi (by omega)⟩
    | succ k ih =>
      intro hk
      obtain ⟨x, hx⟩ := ih (by omega)
      let L := (List.range k).filterMap fun i => (g i k).map fun a => x i - a
      let U := (List.range k).filterMap fun i => (g k i).map fun b => x i + b
      obtain ⟨v, h1, h2⟩ := between L U (by
        intro l hl u hu
        obtain ⟨i, hi, e⟩ := List.mem_filterMap.mp hl
        obtain ⟨j, hj, e2⟩ := List.mem_filterMap.mp hu
        rw [List.mem_range] at hi hj
        cases ha : g i k with
        | none => rw [ha] at e; cases e
        | some a =>
          cases hb : g k j with
          | none => rw [hb] at e2; cases e2
          | some b =>
            rw [ha] at e; rw [hb] at e2
            simp at e e2
            obtain ⟨c, hc, hle⟩ := C.tri i k j (by omega) (by omega) (by omega) a b ha hb
            have := hx i j hi hj c hc
            omega)
      refine ⟨fun i => if i = k then v else x i, fun i j hi hj b hb => ?_⟩
      by_cases ei : i = k
      · by_cases ej : j = k
        · rw [ei, ej, C.diag k (by omega)] at hb
          cases hb
          simp [ei, ej]
        · have hj' : j < k := by omega
          have := h2 (x j + b) (List.mem_filterMap.mpr ⟨j, List.mem_range.mpr hj', by rw [ei] at hb; rw [hb]; rfl⟩)
          simp [ei, ej]
          omega
      · by_cases ej : j = k
        · have hi' : i < k := by omega
          have := h1 (x i - b) (List.mem_filterMap.mpr ⟨i, List.mem_range.mpr hi', by rw [ej] at hb; rw [hb]; rfl⟩)
          simp [ei, ej]
          omega
        · have := hx i j (by omega) (by omega) b hb
          simp [ei, ej]
          exact this
  exact key n (Nat.le_refl n)
/-! ### facts -/
structure Fct where
  a : Nat
  b : Nat
  low : Option Int
  high : Option Int
def Fct.so (f : Fct) (x : Nat → Int) : Prop := (∀ l, f.low = some l → l ≤ x f.b - x f.a) ∧ ∀ h, f.high = some h → x f.b - x f.a ≤ h
def wlo (o : Option Bd) (f : Fct) : Option Bd := match f.low with
  | none => o
  | some l => o.bind fun g => wbd g f.a f.b (-l)
def whi (o : Option Bd) (f : Fct) : Option Bd := match f.high with
  | none => o
  | some h => o.bind fun g => wbd g f.b f.a h
def wft (o : Option Bd) (f : Fct) : Option Bd := whi (wlo o f) f
/-- bounds that tell just so much -/
def Tells (n : Nat) (o : Option Bd) (P : (Nat → Int) → Prop) : Prop := match o with
  | none => ∀ x, ¬ P x
  | some g => Clo n g ∧ ∀ x, Sat n g x ↔ P x
theorem Tells.iff {n : Nat} {o : Option Bd} {P Q : (Nat → Int) → Prop} (h : Tells n o P) (e : ∀ x, P x ↔ Q x) : Tells n o Q := by
  cases o with
  | none => exact fun x q => h x ((e x).mpr q)
  | some g => exact ⟨h.1, fun x => (h.2 x).trans (e x)⟩
theorem Tells.bound {n : Nat} {o : Option Bd} {P : (Nat → Int) → Prop} (h : Tells n o P) {p q : Nat} {m : Int} (hp : p < n) (hq : q < n) : Tells n (o.bind fun g => wbd g p q m) fun x => P x ∧ x p - x q ≤ m := by
  cases o with
  | none => exact fun x q => h x q.1
  | some g =>
    show Tells n (wbd g p q m) _
    cases hw : wbd g p q m with
    | none => exact fun x ⟨q1, q2⟩ => wbd_none hp hq hw x ((h.2 x).mpr q1) q2
    | some g' =>
      obtain ⟨c, s⟩ := wbd_some h.1 hp hq hw
      exact ⟨c, fun x => (s x).trans (and_congr (h.2 x) Iff.rfl)⟩
theorem Tells.fact {n : Nat} {o : Option Bd} {P : (Nat → Int) → Prop} (h : Tells n o P) {f : Fct} (ha : f.a < n) (hb : f.b < n) : Tells n (wft o f) fun x => P x ∧ f.so x := by
  have h1 : Tells n (wlo o f) fun x => P x ∧ ∀ l, f.low = some l → l ≤ x f.b - x f.a := by
    unfold wlo
    cases hl : f.low with
    | none => exact h.iff fun x => ⟨fun p => ⟨p, fun _ e => nomatch e⟩, fun p => p.1⟩
    | some l => exact (h.bound ha hb).iff fun x => and_congr Iff.rfl ⟨fun e l' hl' => by cases hl'; omega, fun e => by have := e l rfl; omega⟩
  unfold wft whi
  cases hh : f.high with
  | none => exact h1.iff fun x => ⟨fun p => ⟨p.1, p.2, fun _ e => by rw [hh] at e; cases e⟩, fun p => ⟨p.1, p.2.1⟩⟩
  | some u => exact (h1.bound hb ha).iff fun x => ⟨fun p => ⟨p.1.1, p.1.2, fun u' e => by rw [hh] at e; cases e; exact p.2⟩, fun p => ⟨⟨p.1, p.2.1⟩, p.2.2 u hh⟩⟩
def bdOf (fs : List Fct) : Option Bd := fs.foldl wft (some bd0)
def Fin (n : Nat) (fs : List Fct) : Prop := ∀ f ∈ fs, f.a < n ∧ f.b < n
theorem tells_fold {n : Nat} : ∀ (fs : List Fct) (o : Option Bd) (P : (Nat → Int) → Prop), Fin n fs → Tells n o P → Tells n (fs.foldl wft o) fun x => P x ∧ ∀ f ∈ fs, f.so x
  | [], o, P, _, h => h.iff fun x => Iff.intro (fun p => And.intro p (by simp)) (fun p => p.1)
  | f :: fs, o, P, hf, h => by
    have h1 := h.fact (hf f List.mem_cons_self).1 (hf f List.mem_cons_self).2
    refine (tells_fold fs _ _ (fun g hg => hf g (List.mem_cons_of_mem _ hg)) h1).iff fun x => Iff.intro (fun p => And.intro p.1.1 (fun g hg => ?_)) (fun p => And.intro (And.intro p.1 (p.2 f List.mem_cons_self)) (fun g hg => p.2 g (List.mem_cons_of_mem _ hg)))
    rcases List.mem_cons.mp hg with e | hg
    · rw [e]; exact p.1.2
    · exact p.2 g hg
theorem tells_bdOf {n : Nat} {fs : List Fct} (h : Fin n fs) : Tells n (bdOf fs) fun x => ∀ f ∈ fs, f.so x :=
  (tells_fold fs (some bd0) (fun _ => True) h ⟨clo_bd0 n, fun x => ⟨fun _ => trivial, fun _ => sat_bd0 n x⟩⟩).iff fun x => ⟨fun p => p.2, fun p => ⟨trivial, p⟩⟩
theorem bdOf_iff {n : Nat} {fs : List Fct} (h : Fin n fs) : (bdOf fs).isSome = true ↔ ∃ x : Nat → Int, ∀ f ∈ fs, f.so x := by
  have t := tells_bdOf h
  cases hb : bdOf fs with
  | none => rw [hb] at t; exact Iff.intro (fun z => by cases z) (fun ⟨x, q⟩ => absurd q (t x))
  | some g =>
    rw [hb] at t
    obtain ⟨x, hx⟩ := clo_sat t.1
    exact ⟨fun _ => ⟨x, (t.2 x).mp hx⟩, fun _ => rfl⟩
/-! ### raising numbers -/
structure Stp where
  u : Nat
  v : Nat
  c : Int
def gt0 (x : List Int) (i : Nat) : Int := x[i]?.getD 0
def Stp.so (s : Stp) (x : Nat → Int) : Prop := x s.u + s.c ≤ x s.v
/-- one step: the numbers, whether all was calm -/
def rlx (p : List Int × Bool) (s : Stp) : List Int × Bool := if gt0 p.1 s.v < gt0 p.1 s.u + s.c then (p.1.set s.v (gt0 p.1 s.u + s.c), false) else p
def rnd (ss : List Stp) (x : List Int) : List Int × Bool := ss.foldl rlx (x, true)
def ear (ss : List Stp) : Nat → List Int → Option (List Int)
  | 0, _ => none
  | k + 1, x => if (rnd ss x).2 = true then some (rnd ss x).1 else ear ss k (rnd ss x).1
theorem gt0_set (x : List Int) (i j : Nat) (a : Int) (h : i < x.length) : gt0 (x.set i a) j = if i = j then a else gt0 x j := by
  unfold gt0
  rw [List.getElem?_set]
  by_cases e : i = j
  · subst e; simp [h]
  · simp [e]
def StF (n : Nat) (ss : List Stp) : Prop := ∀ s ∈ ss, s.u < n ∧ s.v < n
theorem rlx_len (p : List Int × Bool) (s : Stp) : (rlx p s).1.length = p.1.length := by
  unfold rlx
  split <;> simp
theorem fold_len : ∀ (ss : List Stp) (p : List Int × Bool), (ss.foldl rlx p).1.length = p.1.length
  | [], p => rfl
  | s :: ss, p => by rw [List.foldl_cons, fold_len ss, rlx_len]
theorem rlx_calm {p : List Int × Bool} {s : Stp} (h : (rlx p s).2 = true) : rlx p s = p ∧ gt0 p.1 s.u + s.c ≤ gt0 p.1 s.v := by
  unfold rlx at h ⊢
  split
  · rename_i hc
    rw [if_pos hc] at h; cases h
  · exact ⟨rfl, by omega⟩
theorem fold_calm : ∀ (ss : List Stp) (p : List Int × Bool), (ss.foldl rlx p).2 = true → ss.foldl rlx p = p ∧ ∀ s ∈ ss, gt0 p.1 s.u + s.c ≤ gt0 p.1 s.v
  | [], p, _ => ⟨rfl, by simp⟩
  | s :: ss, p, h => by
    rw [List.foldl_cons] at h ⊢
    obtain ⟨h1, h2⟩ := fold_calm ss (rlx p s) h
    have hp : (rlx p s).2 = true := by rw [h1] at h; exact h
    obtain ⟨h3, h4⟩ := rlx_calm hp
    rw [h3] at h1 h2 ⊢
    refine ⟨h1, fun t ht => ?_⟩
    rcases List.mem_cons.mp ht with e | ht
    · rw [e]; exact h4
    · exact h2 t ht
theorem ear_sound {ss : List Stp} : ∀ (k : Nat) (x y : List Int), ear ss k x = some y → y.length = x.length ∧ ∀ s ∈ ss, s.so (gt0 y)
  | 0, x, y, h => by cases h
  | k + 1, x, y, h => by
    unfold ear at h
    split at h
    · rename_i hc
      cases h
      obtain ⟨h1, h2⟩ := fold_calm ss (x, true) hc
      have e : rnd ss x = (x, true) := h1
      rw [e]
      exact ⟨rfl, h2⟩
    · obtain ⟨h1, h2⟩ := ear_sound k _ y h
      refine ⟨h1.trans (fold_len ss (x, true)), h2⟩
/-- a least solution by its sum -/
theorem least {n : Nat} {ss : List Stp} (y : Nat → Int) (hy : ∀ s ∈ ss, s.so y) (hn : StF n ss) : ∃ L : Nat → Int, (∀ i, i < n → 0 ≤ L i) ∧ (∀ s ∈ ss, s.so L) ∧
    ∀ L' : Nat → Int, (∀ i, i < n → 0 ≤ L' i) → (∀ s ∈ ss, s.so L') → ((List.range n).map L).sum ≤ ((List.range n).map L').sum := by
  have key : ∀ (m : Nat) (L : Nat → Int), (∀ i, i < n → 0 ≤ L i) → (∀ s ∈ ss, s.so L) → ((List.range n).map L).sum.toNat = m → ∃ L : Nat → Int, (∀ i, i < n → 0 ≤ L i) ∧ (∀ s ∈ ss, s.so L) ∧
      ∀ L' : Nat → Int, (∀ i, i < n → 0 ≤ L' i) → (∀ s ∈ ss, s.so L') → ((List.range n).map L).sum ≤ ((List.range n).map L').sum := by
    intro m
    induction m using Nat.strongRecOn with
    | _ m ih =>
      intro L h0 hs hm
      by_cases hL : ∃ L' : Nat → Int, (∀ i, i < n → 0 ≤ L' i) ∧ (∀ s ∈ ss, s.so L') ∧ ((List.range n).map L').sum < ((List.range n).map L).sum
      · obtain ⟨L', h1, h2, h3⟩ := hL
        have nn : 0 ≤ ((List.range n).map L').sum := by
          have : ∀ l : List Nat, (∀ i ∈ l, 0 ≤ L' i) → 0 ≤ (l.map L').sum := by
            intro l
            induction l with
            | nil => intro _; simp
            | cons a l ih =>
              intro h
              rw [List.map_cons, List.sum_cons]
              have := h a List.mem_cons_self
              have := ih fun i hi => h i (List.mem_cons_of_mem _ hi)
              omega
          exact this _ fun i hi => h1 i (List.mem_range.mp hi)
        exact ih _ (by omega) L' h1 h2 rfl
      · refine ⟨L, h0, hs, fun L' h1 h2 => ?_⟩
        by_cases hle : ((List.range n).map L).sum ≤ ((List.range n).map L').sum
        · exact hle
        · exact absurd ⟨L', h1, h2, by omega⟩ hL
  -- a solution that is not below 0
  obtain ⟨M, hM⟩ : ∃ M : Int, ∀ i, i < n → 0 ≤ y i + M := by
    clear hn hy key
    induction n with
    | zero => exact ⟨0, fun i hi => absurd hi (by omega)⟩
    | succ n ih =>
      obtain ⟨M, hM⟩ := ih
      refine ⟨max M (-(y n)), fun i hi => ?_⟩
      by_cases e : i = n
      · subst e; omega
      · have := hM i (by omega); omega
  exact key _ (fun i => y i + M) hM (fun s hs => by have := hy s hs; unfold Stp.so at this ⊢; show y s.u + M + s.c ≤ y s.v + M; omega) rfl
/-- where the numbers are the least ones -/
def hit (n : Nat) (L : Nat → Int) (x : List Int) : Nat := (List.range n).countP fun i => decide (gt0 x i = L i)
theorem rlx_step {n : Nat} {L : Nat → Int} {p : List Int × Bool} {s : Stp} (hl : p.1.length = n) (hs : s.u < n ∧ s.v < n) (hL : s.so L) (hx : ∀ i, i < n → gt0 p.1 i ≤ L i) : (∀ i, i < n → gt0 (rlx p s).1 i ≤ L i) ∧ (∀ i, gt0 p.1 i ≤ gt0 (rlx p s).1 i) ∧ gt0 p.1 s.u + s.c ≤ gt0 (rlx p s).1 s.v := by
  unfold rlx
  split
  · rename_i hc
    refine ⟨fun i hi => ?_, fun i => ?_, ?_⟩
    · rw [gt0_set _ _ _ _ (by omega)]
      split
      · rename_i e; subst e
        have := hx s.u hs.1
        unfold Stp.so at hL
        omega
      · exact hx i hi
    · rw [gt0_set _ _ _ _ (by omega)]
      split
      · rename_i e; subst e; omega
      · omega
    · rw [gt0_set _ _ _ _ (by omega), if_pos rfl]; omega
  · exact ⟨hx, fun i => by omega, by omega⟩
theorem fold_step {n : Nat} {L : Nat → Int} : ∀ (ss : List Stp) (p : List Int × Bool), p.1.length = n → StF n ss → (∀ s ∈ ss, s.so L) → (∀ i, i < n → gt0 p.1 i ≤ L i) →
    (∀ i, i < n → gt0 (ss.foldl rlx p).1 i ≤ L i) ∧ (∀ i, gt0 p.1 i ≤ gt0 (ss.foldl rlx p).1 i) ∧ ∀ s ∈ ss, gt0 p.1 s.u = L s.u → L s.v = L s.u + s.c → gt0 (ss.foldl rlx p).1 s.v = L s.v
  | [], p, _, _, _, hx => ⟨hx, fun i => Int.le_refl _, by simp⟩
  | s :: ss, p, hl, hn, hs, hx => by
    have h1 := rlx_step hl (hn s List.mem_cons_self) (hs s List.mem_cons_self) hx
    obtain ⟨k1, k2, k3⟩ := fold_step ss (rlx p s) (by rw [rlx_len, hl]) (fun t ht => hn t (List.mem_cons_of_mem _ ht)) (fun t ht => hs t (List.mem_cons_of_mem _ ht)) h1.1
    rw [List.foldl_cons]
    refine ⟨k1, fun i => Int.le_trans (h1.2.1 i) (k2 i), fun t ht e1 e2 => ?_⟩
    rcases List.mem_cons.mp ht with e | ht
    · subst e
      have a1 := h1.2.2
      have a2 := k2 t.v
      have a3 := k1 t.v (hn t List.mem_cons_self).2
      omega
    · have a1 := h1.2.1 t.u
      have a2 := h1.1 t.u (hn t (List.mem_cons_of_mem _ ht)).1
      exact k3 t ht (by omega) e2
theorem sum_dec {L : Nat → Int} {S : Nat → Bool} : ∀ l : List Nat, (l.map fun i => L i - (if S i then 0 else 1)).sum = (l.map L).sum - ((l.countP fun i => !S i : Nat) : Int)
  | [] => by simp
  | a :: l => by
    rw [List.map_cons, List.sum_cons, sum_dec l, List.map_cons, List.sum_cons, List.countP_cons]
    cases S a <;> simp <;> omega
theorem countP_le {α : Type} {p q : α → Bool} : ∀ l : List α, (∀ a ∈ l, p a = true → q a = true) → l.countP p ≤ l.countP q
  | [], _ => by simp
  | a :: l, h => by
    rw [List.countP_cons, List.countP_cons]
    have := countP_le l fun b hb => h b (List.mem_cons_of_mem _ hb)
    have h2 := h a List.mem_cons_self
    cases ha : p a
    · simp; omega
    · rw [h2 ha]; simp; omega
theorem countP_lt {α : Type} {p q : α → Bool} : ∀ (l : List α), (∀ a ∈ l, p a = true → q a = true) → (∃ a ∈ l, p a = false ∧ q a = true) → l.countP p < l.countP q
  | [], _, ⟨a, h, _⟩ => by cases h
  | b :: l, h, ⟨a, hm, h1, h2⟩ => by
    rw [List.countP_cons, List.countP_cons]
    have hb := h b List.mem_cons_self
    rcases List.mem_cons.mp hm with e | hm
    · subst e
      have := countP_le l fun c hc => h c (List.mem_cons_of_mem _ hc)
      rw [h1, h2]; simp; omega
    · have := countP_lt l (fun c hc => h c (List.mem_cons_of_mem _ hc)) ⟨a, hm, h1, h2⟩
      cases hpb : p b
      · simp; omega
      · rw [hb hpb]; simp; omega
theorem countP_all {α : Type} {p : α → Bool} (l : List α) (h : l.countP p = l.length) : ∀ a ∈ l, p a = true := List.countP_eq_length.mp h
/-- a round hits one more, or all are hit -/
theorem rnd_hit {n : Nat} {L : Nat → Int} {ss : List Stp} {x : List Int} (hl : x.length = n) (hn : StF n ss) (h0 : ∀ i, i < n → 0 ≤ gt0 x i) (hs : ∀ s ∈ ss, s.so L)
    (hmin : ∀ L' : Nat → Int, (∀ i, i < n → 0 ≤ L' i) → (∀ s ∈ ss, s.so L') → ((List.range n).map L).sum ≤ ((List.range n).map L').sum) (hx : ∀ i, i < n → gt0 x i ≤ L i) :
    hit n L x = n ∨ hit n L x < hit n L (rnd ss x).1 := by
  obtain ⟨k1, k2, k3⟩ := fold_step ss (x, true) hl hn hs hx
  by_cases hall : hit n L x = n
  · exact .inl hall
  · refine .inr ?_
    have hlt : hit n L x < n := by
      have : hit n L x ≤ (List.range n).length := List.countP_le_length
      rw [List.length_range] at this
      omega
    let S : Nat → Bool := fun i => decide (gt0 x i = L i)
    have hS : ∃ i, i < n ∧ S i = false := by
      refine Classical.byContradiction fun hc => hall ?_
      have : ∀ i ∈ List.range n, S i = true := fun i hi => by
        cases hSi : S i with
        | true => rfl
        | false => exact absurd ⟨i, List.mem_range.mp hi, hSi⟩ hc
      show (List.range n).countP S = n
      rw [List.countP_eq_length.mpr this, List.length_range]
    -- lessened, it is no solution
    have hno : ∃ s ∈ ss, S s.u = true ∧ S s.v = false ∧ L s.v = L s.u + s.c := by
      refine Classical.byContradiction fun hc => ?_
      have hsol : ∀ s ∈ ss, s.so fun i => L i - (if S i then 0 else 1) := fun s hsm => by
        have h1 := hs s hsm
        unfold Stp.so at h1 ⊢
        show L s.u - (if S s.u then 0 else 1) + s.c ≤ L s.v - (if S s.v then 0 else 1)
        cases hu : S s.u with
        | false => cases hv : S s.v <;> simp <;> omega
        | true =>
          cases hv : S s.v with
          | true => simp; omega
          | false =>
            have : L s.v ≠ L s.u + s.c := fun e => hc ⟨s, hsm, hu, hv, e⟩
            simp; omega
      have hnn : ∀ i, i < n → 0 ≤ L i - (if S i then 0 else 1) := fun i hi => by
        cases hi2 : S i with
        | true => have := h0 i hi; have := hx i hi; simp; omega
        | false =>
          have e : gt0 x i ≠ L i := of_decide_eq_false hi2
          have := h0 i hi; have := hx i hi
          simp; omega
      have := hmin _ hnn hsol
      rw [sum_dec] at this
      obtain ⟨i, hi, hSi⟩ := hS
      have hpos : 0 < (List.range n).countP fun i => !S i := List.countP_pos_iff.mpr ⟨i, List.mem_range.mpr hi, by rw [hSi]; rfl⟩
      omega
    obtain ⟨s, hsm, hu, hv, e⟩ := hno
    refine countP_lt _ (fun i hi h => ?_) ⟨s.v, List.mem_range.mpr (hn s hsm).2, hv, decide_eq_true (k3 s hsm (of_decide_eq_true hu) e)⟩
    have hi' := List.mem_range.mp hi
    have e1 : gt0 x i = L i := of_decide_eq_true h
    have a1 := k1 i hi'
    have a2 : gt0 x i ≤ gt0 (rnd ss x).1 i := k2 i
    have a3 : gt0 (rnd ss x).1 i ≤ L i := a1
    exact decide_eq_true (by omega)
theorem rnd_calm {n : Nat} {L : Nat → Int} {ss : List Stp} {x : List Int} (hn : StF n ss) (hs : ∀ s ∈ ss, s.so L) (h : ∀ i, i < n → gt0 x i = L i) : (rnd ss x).2 = true := by
  have key : ∀ ss' : List Stp, (∀ s ∈ ss', s ∈ ss) → ss'.foldl rlx (x, true) = (x, true) := by
    intro ss'
    induction ss' with
    | nil => intro _; rfl
    | cons s ss' ih =>
      intro hm
      have hsm := hm s List.mem_cons_self
      have e : rlx (x, true) s = (x, true) := by
        unfold rlx
        have h1 := hs s hsm
        have h2 := hn s hsm
        unfold Stp.so at h1
        rw [if_neg (by rw [h _ h2.1, h _ h2.2]; omega)]
      rw [List.foldl_cons, e]
      exact ih fun t ht => hm t (List.mem_cons_of_mem _ ht)
  unfold rnd
  rw [key ss fun _ h => h]
theorem ear_some {n : Nat} {ss : List Stp} {L : Nat → Int} (hn : StF n ss) (hs : ∀ s ∈ ss, s.so L)
    (hmin : ∀ L' : Nat → Int, (∀ i, i < n → 0 ≤ L' i) → (∀ s ∈ ss, s.so L') → ((List.range n).map L).sum ≤ ((List.range n).map L').sum) :
    ∀ (k : Nat) (x : List Int), x.length = n → (∀ i, i < n → 0 ≤ gt0 x i) → (∀ i, i < n → gt0 x i ≤ L i) → n < hit n L x + k → ∃ y, ear ss k x = some y
  | 0, x, hl, h0, hx, hk => by
    have : hit n L x ≤ (List.range n).length := List.countP_le_length
    rw [List.length_range] at this
    omega
  | k + 1, x, hl, h0, hx, hk => by
    unfold ear
    split
    · exact ⟨_, rfl⟩
    · rename_i hc
      obtain ⟨k1, k2, _⟩ := fold_step ss (x, true) hl hn hs hx
      rcases rnd_hit hl hn h0 hs hmin hx with h | h
      · refine absurd (rnd_calm hn hs fun i hi => ?_) hc
        have := countP_all (p := fun i => decide (gt0 x i = L i)) (List.range n) (by rw [List.length_range]; exact h) i (List.mem_range.mpr hi)
        exact of_decide_eq_true this
      · have a1 : ∀ i, gt0 x i ≤ gt0 (rnd ss x).1 i := k2
        exact ear_some hn hs hmin k _ ((fold_len ss (x, true)).trans hl) (fun i hi => Int.le_trans (h0 i hi) (a1 i)) k1 (by omega)
theorem ear_iff {n : Nat} {ss : List Stp} (hn : StF n ss) : (ear ss (n + 2) (List.replicate n 0)).isSome = true ↔ ∃ x : Nat → Int, ∀ s ∈ ss, s.so x := by
  constructor
  · intro h
    obtain ⟨y, hy⟩ := Option.isSome_iff_exists.mp h
    exact ⟨gt0 y, (ear_sound _ _ _ hy).2⟩
  · intro ⟨y, hy⟩
    obtain ⟨L, h0, hs, hmin⟩ := least y hy hn
    have z : ∀ i, gt0 (List.replicate n 0) i = 0 := fun i => by
      unfold gt0
      rw [List.getElem?_replicate]
      split <;> rfl
    obtain ⟨x, hx⟩ := ear_some hn hs hmin (n + 2) (List.replicate n 0) (by simp) (fun i _ => by rw [z]; omega) (fun i hi => by rw [z]; exact h0 i hi) (by omega)
    rw [hx]; rfl
end Z
end
-- MB
section
set_option Elab.async false
set_option linter.all false
set_option maxRecDepth 100000
set_option maxHeartbeats 1000000
/-! MB: data, lists, draws. -/
namespace Z
open PySem
/-! ### data without objects -/
theorem oks_iff : ∀ {xs : List D}, oks xs = true ↔ ∀ x ∈ xs, x.ok = true
  | [] => ⟨fun _ _ h => (List.not_mem_nil h).elim, fun _ => rfl⟩
  | x :: xs => by
    show (x.ok && oks xs) = true ↔ _
    rw [Bool.and_eq_true, oks_iff (xs := xs)]
    constructor
    · intro ⟨h1, h2⟩ y hy
      rcases List.mem_cons.mp hy with rfl | hy
      · exact h1
      · exact h2 y hy
    · exact fun h => ⟨h x List.mem_cons_self, fun y hy => h y (List.mem_cons_of_mem _ hy)⟩
theorem deps_iff {k : Nat} : ∀ {xs : List D}, deps xs ≤ k ↔ ∀ x ∈ xs, x.dep ≤ k
  | [] => ⟨fun _ _ h => (List.not_mem_nil h).elim, fun _ => Nat.zero_le _⟩
  | x :: xs => by
    show max x.dep (deps xs) ≤ k ↔ _
    rw [Nat.max_le, deps_iff (xs := xs)]
    constructor
    · intro ⟨h1, h2⟩ y hy
      rcases List.mem_cons.mp hy with rfl | hy
      · exact h1
      · exact h2 y hy
    · exact fun h => ⟨h x List.mem_cons_self, fun y hy => h y (List.mem_cons_of_mem _ hy)⟩
/-- data that may be asked and compared -/
def Nc (k : Nat) (d : D) : Prop := d.ok = true ∧ d.dep ≤ k
theorem Nc.mono {k j : Nat} {d : D} (h : Nc k d) (l : k ≤ j) : Nc j d := ⟨h.1, Nat.le_trans h.2 l⟩
theorem nc_tup {k : Nat} {xs : List D} : Nc (k + 1) (.tup xs) ↔ ∀ x ∈ xs, Nc k x := by
  constructor
  · intro ⟨h1, h2⟩ x hx
    have h1 : oks xs = true := h1
    have h2 : deps xs + 1 ≤ k + 1 := h2
    exact ⟨oks_iff.mp h1 x hx, deps_iff.mp (Nat.le_of_succ_le_succ h2) x hx⟩
  · intro h
    exact ⟨oks_iff.mpr fun x hx => (h x hx).1, Nat.succ_le_succ (deps_iff.mpr fun x hx => (h x hx).2)⟩
theorem nc_lst {k : Nat} {xs : List D} : Nc (k + 1) (.lst xs) ↔ ∀ x ∈ xs, Nc k x := by
  constructor
  · intro ⟨h1, h2⟩ x hx
    have h1 : oks xs = true := h1
    have h2 : deps xs + 1 ≤ k + 1 := h2
    exact ⟨oks_iff.mp h1 x hx, deps_iff.mp (Nat.le_of_succ_le_succ h2) x hx⟩
  · intro h
    exact ⟨oks_iff.mpr fun x hx => (h x hx).1, Nat.succ_le_succ (deps_iff.mpr fun x hx => (h x hx).2)⟩
theorem nc_int (k : Nat) (i : Int) : Nc k (.int i) := ⟨rfl, Nat.zero_le _⟩
theorem nc_bl (k : Nat) (i : Bool) : Nc k (.bl i) := ⟨rfl, Nat.zero_le _⟩
theorem nc_non (k : Nat) : Nc k .non := ⟨rfl, Nat.zero_le _⟩
theorem eqOk_l {x y : D} (hx : x.ok = true) (hd : x.dep ≤ 40) (hy : y.ok = true) : eqOk x y = true := by
  unfold eqOk
  rw [hx, hy, decide_eq_true hd]; rfl
theorem eqOk_r {x y : D} (hx : x.ok = true) (hy : y.ok = true) (hd : y.dep ≤ 40) : eqOk x y = true := by
  unfold eqOk
  rw [hx, hy, decide_eq_true hd]
  cases decide (x.dep ≤ 40) <;> rfl
theorem cm_eq {x y : D} (h : eqOk x y = true) : cmS .eq x y = ok (.bl (D.eqv x y)) := by
  show chk (eqOk x y) _ = _
  rw [h]; rfl
theorem cm_ne {x y : D} (h : eqOk x y = true) : cmS .ne x y = ok (.bl (!D.eqv x y)) := by
  show chk (eqOk x y) _ = _
  rw [h]; rfl
theorem cm_isN (x : D) : cmS .isN x .non = ok (.bl (isNoneD x)) := by cases x <;> rfl
theorem cm_notN (x : D) : cmS .notN x .non = ok (.bl (!isNoneD x)) := by cases x <;> rfl
theorem beqStr (x y : Str) : (x == y) = decide (x = y) := by
  by_cases h : x = y
  · subst h; simp
  · simp [h]
/-! ### what a comprehension gathers -/
theorem gatW_map {f : D → W (List D)} {g : D → D} : ∀ {ds : List D}, (∀ d ∈ ds, f d = ok [g d]) → gatW f ds = ok (ds.map g)
  | [], _ => rfl
  | d :: r, h => by
    show (bnd (f d) fun ys => bnd (gatW f r) fun zs => ok (ys ++ zs)) = _
    rw [h d List.mem_cons_self, gatW_map fun e he => h e (List.mem_cons_of_mem _ he)]; rfl
theorem gatW_filter {f : D → W (List D)} {g : D → D} {p : D → Bool} : ∀ {ds : List D}, (∀ d ∈ ds, f d = ok (if p d = true then [g d] else [])) → gatW f ds = ok ((ds.filter p).map g)
  | [], _ => rfl
  | d :: r, h => by
    show (bnd (f d) fun ys => bnd (gatW f r) fun zs => ok (ys ++ zs)) = _
    rw [h d List.mem_cons_self, gatW_filter (p := p) (g := g) fun e he => h e (List.mem_cons_of_mem _ he)]
    cases hp : p d <;> simp [bnd_ok, hp]
/-- over something mapped -/
theorem gatW_mapM {α : Type} {f : D → W (List D)} {e : α → D} {g : α → D} {as : List α} (h : ∀ a ∈ as, f (e a) = ok [g a]) : gatW f (as.map e) = ok (as.map g) := by
  induction as with
  | nil => rfl
  | cons a r ih =>
    show (bnd (f (e a)) fun ys => bnd (gatW f (r.map e)) fun zs => ok (ys ++ zs)) = _
    rw [h a List.mem_cons_self, ih fun b hb => h b (List.mem_cons_of_mem _ hb)]; rfl
theorem gatW_filterM {α : Type} {f : D → W (List D)} {e : α → D} {g : α → D} {p : α → Bool} {as : List α} (h : ∀ a ∈ as, f (e a) = ok (if p a = true then [g a] else [])) : gatW f (as.map e) = ok ((as.filter p).map g) := by
  induction as with
  | nil => rfl
  | cons a r ih =>
    show (bnd (f (e a)) fun ys => bnd (gatW f (r.map e)) fun zs => ok (ys ++ zs)) = _
    rw [h a List.mem_cons_self, ih fun b hb => h b (List.mem_cons_of_mem _ hb)]
    cases hp : p a <;> simp [bnd_ok, hp]
theorem rngD_eq (n : Nat) : rngD 0 (n : Int) = (List.range n).map fun (i : Nat) => D.int (i : Int) := by
  unfold rngD
  rw [show ((n : Int) - 0).toNat = n by omega]
  apply List.map_congr_left
  intro i _
  congr 1
  omega
theorem rngW (n : Nat) (h : n ≤ 100000) : (bnd (intOf (.int (n : Int))) fun j => chk (decide (-100000 ≤ j ∧ j ≤ 100000)) (ok (rngD 0 j))) = ok ((List.range n).map fun (i : Nat) => D.int (i : Int)) := by
  show chk (decide (-100000 ≤ (n : Int) ∧ (n : Int) ≤ 100000)) (ok (rngD 0 (n : Int))) = _
  rw [decide_eq_true (by omega), rngD_eq]; rfl
theorem bls_mapB : ∀ (l : List Bool), bls (l.map D.bl) = some l
  | [] => rfl
  | b :: r => by
    show (bls (r.map D.bl)).map (b :: ·) = _
    rw [bls_mapB r]; rfl
theorem bi_all (l : List Bool) : biS .all [.lst (l.map D.bl)] = ok (.bl (l.all id)) := by
  show (bnd (oW (bls (l.map D.bl))) fun bs => ok (D.bl (bs.all id))) = _
  rw [bls_mapB]; rfl
theorem bi_any (l : List Bool) : biS .any [.lst (l.map D.bl)] = ok (.bl (l.any id)) := by
  show (bnd (oW (bls (l.map D.bl))) fun bs => ok (D.bl (bs.any id))) = _
  rw [bls_mapB]; rfl
theorem intsD_mapI : ∀ (l : List Int), intsD (l.map D.int) = some l
  | [] => rfl
  | b :: r => by
    show (intsD (r.map D.int)).map (b :: ·) = _
    rw [intsD_mapI r]; rfl
/-! ### items -/
theorem atD_nat (xs : List D) (i : Nat) : atD xs (i : Int) = xs[i]? := by
  unfold atD
  rw [if_pos (by omega)]
  simp
theorem ix_tup {xs : List D} {i : Nat} {d : D} (h : xs[i]? = some d) : ixS (.tup xs) (.int (i : Int)) = ok d := by
  show oD (atD xs (i : Int)) = _
  rw [atD_nat, h]; rfl
theorem ix_lst {xs : List D} {i : Nat} {d : D} (h : xs[i]? = some d) : ixS (.lst xs) (.int (i : Int)) = ok d := by
  show oD (atD xs (i : Int)) = _
  rw [atD_nat, h]; rfl
/-! ### draws: so many at most, and what comes of them -/
def Yd {α : Type} (c : Nat) (m : W α) (P : α → Prop) : Prop := ∀ n Q E, c ≤ n → (∀ a n', P a → n ≤ n' + c → Q a n') → m n Q E
section
variable {α β : Type} {c d : Nat} {m : W α} {P R : α → Prop}
theorem Yd.ok {a : α} (h : P a) : Yd 0 (Z.ok a) P := fun n Q E _ k => k a n h (Nat.le_refl _)
theorem Yd.of {a : α} (e : m = Z.ok a) (h : P a) : Yd 0 m P := by rw [e]; exact .ok h
theorem Yd.imp (h : Yd c m P) (g : ∀ a, P a → R a) : Yd c m R := fun n Q E hc k => h n Q E hc fun a n' pa hn => k a n' (g a pa) hn
theorem Yd.le (h : Yd c m P) (l : c ≤ d) : Yd d m P := fun n Q E hc k => h n Q E (Nat.le_trans l hc) fun a n' pa hn => k a n' pa (by omega)
theorem Yd.bnd {f : α → W β} {S : β → Prop} (h : Yd c m P) (g : ∀ a, P a → Yd d (f a) S) : Yd (c + d) (Z.bnd m f) S := fun n Q E hc k =>
  h n _ _ (by omega) fun a n' pa hn => g a pa n' Q E (by omega) fun b n'' pb hn2 => k b n'' pb (by omega)
theorem Yd.bnd0 {f : α → W β} {S : β → Prop} {a : α} (e : m = Z.ok a) (g : Yd d (f a) S) : Yd d (Z.bnd m f) S := by
  rw [e]; exact g
theorem Yd.ife {b : Bool} {x y : W α} (hx : b = true → Yd c x P) (hy : b = false → Yd c y P) : Yd c (Z.ife b x y) P := by
  cases b
  · exact hy rfl
  · exact hx rfl
theorem Yd.nox (h : Yd c m P) : Yd c (Z.nox m) P := fun n Q E hc k => h n Q _ hc k
theorem Yd.chk {b : Bool} (hb : b = true) (h : Yd c m P) : Yd c (Z.chk b m) P := by
  rw [hb]; exact h
theorem Yd.gat {f : D → W (List D)} {P : D → Prop} : ∀ {ds : List D}, (∀ d ∈ ds, Yd c (f d) fun ys => ∀ y ∈ ys, P y) → Yd (c * ds.length) (gatW f ds) fun ys => ∀ y ∈ ys, P y
  | [], _ => .ok fun y hy => by cases hy
  | d :: r, h => by
    have := (h d List.mem_cons_self).bnd fun ys hys => (Yd.gat (ds := r) fun e he => h e (List.mem_cons_of_mem _ he)).bnd fun zs hzs => Yd.ok (a := ys ++ zs) (P := fun ys => ∀ y ∈ ys, P y) fun y hy => (List.mem_append.mp hy).elim (hys y) (hzs y)
    exact this.le (by rw [List.length_cons, Nat.mul_succ]; omega)
/-- one item a turn -/
theorem Yd.gat1 {f : D → W (List D)} {P : D → Prop} : ∀ {ds : List D}, (∀ d ∈ ds, Yd c (f d) fun ys => ∃ y, ys = [y] ∧ P y) → Yd (c * ds.length) (gatW f ds) fun ys => ys.length = ds.length ∧ ∀ y ∈ ys, P y
  | [], _ => .ok ⟨rfl, fun y hy => by cases hy⟩
  | d :: r, h => by
    have := (h d List.mem_cons_self).bnd fun ys hys => (Yd.gat1 (ds := r) fun e he => h e (List.mem_cons_of_mem _ he)).bnd fun zs hzs => Yd.ok (a := ys ++ zs) (P := fun ys => ys.length = (d :: r).length ∧ ∀ y ∈ ys, P y) (by
      obtain ⟨y, rfl, hy⟩ := hys
      refine ⟨by simp [hzs.1], fun z hz => ?_⟩
      rcases List.mem_append.mp hz with hz | hz
      · rw [List.mem_singleton.mp hz]; exact hy
      · exact hzs.2 z hz)
    exact this.le (by rw [List.length_cons, Nat.mul_succ]; omega)
end
theorem yd_pick {m : Int} (h1 : 1 ≤ m) (h2 : m < 1073741824) : Yd 1 (callW fPick [.deck, .val (.int m)]) fun d => ∃ k : Int, d = .int k ∧ 0 ≤ k ∧ k < m := fun n Q E hc k => by
  show 1 ≤ n ∧ 1 ≤ m ∧ m < 1073741824 ∧ ∀ k : Int, 0 ≤ k → k < m → Q (.int k) (n - 1)
  exact ⟨hc, h1, h2, fun i i0 i1 => k _ _ ⟨i, rfl, i0, i1⟩ (by omega)⟩
/-- a call that draws -/
theorem yd_call {f : Fn} {as : List Sl} {c : Nat} {P : D → Prop} (hd : as.any isDeck = true) (h : Yd c (f.sem as) P) : Yd c (callW f as) P := by
  unfold callW
  rw [hd]; exact h
end Z
end
-- U01
section
set_option Elab.async false
set_option linter.all false
set_option maxRecDepth 100000
set_option maxHeartbeats 100000
namespace Z
open PySem
theorem u_no_bounds (a0 : D) : f_no_bounds.sem [.val a0] = bnd (bnd (bnd (intOf a0) fun j2 => chk (decide (-100000 ≤ j2 ∧ j2 ≤ 100000)) (ok (rngD 0 j2))) fun ds3 => nox (bnd (gatW (fun d4 => bnd (bnd (bnd (bnd (intOf a0) fun j6 => chk (decide (-100000 ≤ j6 ∧ j6 ≤ 100000)) (ok (rngD 0 j6))) fun ds7 => nox (bnd (gatW (fun d8 => bnd (bnd (cmS .eq d4 d8) fun x9 => bnd (asB x9) fun k10 => ife k10 (ok (.int 0)) (ok .non)) fun y11 => ok [y11]) ds7) fun ys => ok (.lst ys))) fun x5 => biS .tuple [x5]) fun y12 => ok [y12]) ds3) fun ys => ok (.lst ys))) fun x1 => biS .tuple [x1] := semC2 (m := 3) (b := t_no_bounds) (pro := []) (dds := []) (as := [.val a0]) (b2 := t_no_bounds) (ρ := [.val a0, .no, .no]) (by kernel_rfl) (by kernel_rfl) (by kernel_rfl) (by kernel_rfl) (by kernel_rfl)
theorem u_lesser (a0 a1 : D) : f_lesser.sem [.val a0, .val a1] = bnd (bnd (bnd (cmS .isN a0 .non) fun x4 => asB x4) fun k3 => ife k3 (ok true) (bnd (cmS .isN a1 .non) fun x2 => asB x2)) fun c1 => ife c1
    (bnd (cmS .isN a1 .non) fun x5 => bnd (asB x5) fun k6 => ife k6 (ok a0) (ok a1))
    (biS .min2 [a0, a1]) := semC2 (m := 2) (b := t_lesser) (pro := []) (dds := []) (as := [.val a0, .val a1]) (b2 := t_lesser) (ρ := [.val a0, .val a1]) (by kernel_rfl) (by kernel_rfl) (by kernel_rfl) (by kernel_rfl) (by kernel_rfl)
theorem u_summed (a0 a1 : D) : f_summed.sem [.val a0, .val a1] = bnd (bnd (cmS .isN a0 .non) fun x2 => bnd (asB x2) fun k3 => ife k3 (ok (.bl true)) (cmS .isN a1 .non)) fun x1 => bnd (asB x1) fun k4 => ife k4 (ok .non) (opS .add a0 a1) := semC2 (m := 2) (b := t_summed) (pro := []) (dds := []) (as := [.val a0, .val a1]) (b2 := t_summed) (ρ := [.val a0, .val a1]) (by kernel_rfl) (by kernel_rfl) (by kernel_rfl) (by kernel_rfl) (by kernel_rfl)
def q_closer (f_lesser f_summed : Fn) : Sts := (.cons (.ret (.call f_lesser (.val (.ix (.ix (.var 0) (.var 1)) (.var 2)) (.val (.call f_summed (.val (.call f_summed (.val (.ix (.ix (.var 0) (.var 1)) (.var 3)) (.val (.var 5) .nil))) (.val (.ix (.ix (.var 0) (.var 4)) (.var 2)) .nil))) .nil)))) .nil)
theorem v_closer (f_lesser f_summed : Fn) (a0 a1 a2 a3 a4 a5 : D) : runC (q_closer f_lesser f_summed) [.val a0, .val a1, .val a2, .val a3, .val a4, .val a5] (fun _ => ok .non) = bnd (bnd (ixS a0 a1) fun x2 => ixS x2 a2) fun x1 => bnd (bnd (bnd (bnd (ixS a0 a1) fun x6 => ixS x6 a3) fun x5 => callW f_summed [.val x5, .val a5]) fun x4 => bnd (bnd (ixS a0 a4) fun x8 => ixS x8 a2) fun x7 => callW f_summed [.val x4, .val x7]) fun x3 => callW f_lesser [.val x1, .val x3] := by kernel_rfl
theorem u_closer (a0 a1 a2 a3 a4 a5 : D) : f_closer.sem [.val a0, .val a1, .val a2, .val a3, .val a4, .val a5] = bnd (bnd (ixS a0 a1) fun x2 => ixS x2 a2) fun x1 => bnd (bnd (bnd (bnd (ixS a0 a1) fun x6 => ixS x6 a3) fun x5 => callW f_summed [.val x5, .val a5]) fun x4 => bnd (bnd (ixS a0 a4) fun x8 => ixS x8 a2) fun x7 => callW f_summed [.val x4, .val x7]) fun x3 => callW f_lesser [.val x1, .val x3] := semC2 (m := 6) (b := t_closer) (pro := []) (dds := []) (as := [.val a0, .val a1, .val a2, .val a3, .val a4, .val a5]) (b2 := q_closer f_lesser f_summed) (ρ := [.val a0, .val a1, .val a2, .val a3, .val a4, .val a5]) (by kernel_rfl) (by kernel_rfl) (by kernel_rfl) (by kernel_rfl) (v_closer f_lesser f_summed a0 a1 a2 a3 a4 a5)
def q_with_bound (f_closer : Fn) : Sts := (.cons (.iff (.cmp .isN (.var 0) .non) (.cons (.ret .non) .nil) .nil) (.cons (.set 4 (.ix (.ix (.var 0) (.var 2)) (.var 1))) (.cons (.iff (.and (.cons (.cmp .notN (.var 4) .non) (.cons (.cmp .lt (.op .add (.var 4) (.var 3)) (.int 0)) .nil))) (.cons (.ret .non) .nil) .nil) (.cons (.iff (.and (.cons (.cmp .notN (.ix (.ix (.var 0) (.var 1)) (.var 2)) .non) (.cons (.cmp .le (.ix (.ix (.var 0) (.var 1)) (.var 2)) (.var 3)) .nil))) (.cons (.ret (.var 0)) .nil) .nil) (.cons (.set 5 (.bi .listR (.cons (.bi .len (.cons (.var 0) .nil)) .nil))) (.cons (.ret (.bi .tuple (.cons (.comp (.bi .tuple (.cons (.comp (.call f_closer (.val (.var 0) (.val (.var 7) (.val (.var 6) (.val (.var 1) (.val (.var 2) (.val (.var 3) .nil))))))) (.nm 6) (.seq (.var 5)) .none [6]) .nil)) (.nm 7) (.seq (.var 5)) .none [7]) .nil))) .nil))))))
theorem v_with_bound (f_closer : Fn) (a0 a1 a2 a3 : D) : runC (q_with_bound f_closer) [.val a0, .val a1, .val a2, .val a3, .no, .no, .no, .no] (fun _ => ok .non) = bnd (bnd (cmS .isN a0 .non) fun x2 => asB x2) fun c1 => ife c1
    (ok .non)
    (bnd (bnd (ixS a0 a2) fun x4 => ixS x4 a1) fun x3 => bnd (bnd (bnd (cmS .notN x3 .non) fun x9 => asB x9) fun k8 => ife k8 (bnd (bnd (opS .add x3 a3) fun x7 => cmS .lt x7 (.int 0)) fun x6 => asB x6) (ok false)) fun c5 => ife c5
    (ok .non)
    (bnd (bnd (bnd (bnd (bnd (ixS a0 a1) fun x17 => ixS x17 a2) fun x16 => cmS .notN x16 .non) fun x15 => asB x15) fun k14 => ife k14 (bnd (bnd (bnd (ixS a0 a1) fun x13 => ixS x13 a2) fun x12 => cmS .le x12 a3) fun x11 => asB x11) (ok false)) fun c10 => ife c10
    (ok a0)
    (bnd (bnd (biS .len [a0]) fun x19 => biS .listR [x19]) fun x18 => bnd (bnd (itemsD x18) fun ds21 => nox (bnd (gatW (fun d22 => bnd (bnd (bnd (itemsD x18) fun ds24 => nox (bnd (gatW (fun d25 => bnd (callW f_closer [.val a0, .val d22, .val d25, .val a1, .val a2, .val a3]) fun y26 => ok [y26]) ds24) fun ys => ok (.lst ys))) fun x23 => biS .tuple [x23]) fun y27 => ok [y27]) ds21) fun ys => ok (.lst ys))) fun x20 => biS .tuple [x20]))) := by kernel_rfl
theorem u_with_bound (a0 a1 a2 a3 : D) : f_with_bound.sem [.val a0, .val a1, .val a2, .val a3] = bnd (bnd (cmS .isN a0 .non) fun x2 => asB x2) fun c1 => ife c1
    (ok .non)
    (bnd (bnd (ixS a0 a2) fun x4 => ixS x4 a1) fun x3 => bnd (bnd (bnd (cmS .notN x3 .non) fun x9 => asB x9) fun k8 => ife k8 (bnd (bnd (opS .add x3 a3) fun x7 => cmS .lt x7 (.int 0)) fun x6 => asB x6) (ok false)) fun c5 => ife c5
    (ok .non)
    (bnd (bnd (bnd (bnd (bnd (ixS a0 a1) fun x17 => ixS x17 a2) fun x16 => cmS .notN x16 .non) fun x15 => asB x15) fun k14 => ife k14 (bnd (bnd (bnd (ixS a0 a1) fun x13 => ixS x13 a2) fun x12 => cmS .le x12 a3) fun x11 => asB x11) (ok false)) fun c10 => ife c10
    (ok a0)
    (bnd (bnd (biS .len [a0]) fun x19 => biS .listR [x19]) fun x18 => bnd (bnd (itemsD x18) fun ds21 => nox (bnd (gatW (fun d22 => bnd (bnd (bnd (itemsD x18) fun ds24 => nox (bnd (gatW (fun d25 => bnd (callW f_closer [.val a0, .val d22, .val d25, .val a1, .val a2, .val a3]) fun y26 => ok [y26]) ds24) fun ys => ok (.lst ys))) fun x23 => biS .tuple [x23]) fun y27 => ok [y27]) ds21) fun ys => ok (.lst ys))) fun x20 => biS .tuple [x20]))) := semC2 (m := 8) (b := t_with_bound) (pro := []) (dds := []) (as := [.val a0, .val a1, .val a2, .val a3]) (b2 := q_with_bound f_closer) (ρ := [.val a0, .val a1, .val a2, .val a3, .no, .no, .no, .no]) (by kernel_rfl) (by kernel_rfl) (by kernel_rfl) (by kernel_rfl) (v_with_bound f_closer a0 a1 a2 a3)
theorem u_is_within (a0 a1 a2 : D) : f_is_within.sem [.val a0, .val a1, .val a2] = bnd (biS .isInt [a0]) fun x7 => bnd (asB x7) fun k8 => ife k8 (bnd (bnd (biS .isBool [a0]) fun x4 => bnd (asB x4) fun k5 => ok (.bl (!k5))) fun x3 => bnd (asB x3) fun k6 => ife k6 (bnd (cmS .le a1 a0) fun d1 => bnd (asB d1) fun k2 => ife k2 (cmS .le a0 a2) (ok (.bl false))) (ok (.bl false))) (ok (.bl false)) := semC2 (m := 3) (b := t_is_within) (pro := []) (dds := []) (as := [.val a0, .val a1, .val a2]) (b2 := t_is_within) (ρ := [.val a0, .val a1, .val a2]) (by kernel_rfl) (by kernel_rfl) (by kernel_rfl) (by kernel_rfl) (by kernel_rfl)
theorem u_has_items (a0 a1 a2 : D) : f_has_items.sem [.val a0, .val a1, .val a2] = bnd (biS .isTup [a0]) fun x4 => bnd (asB x4) fun k5 => ife k5 (bnd (biS .len [a0]) fun x1 => bnd (cmS .le a1 x1) fun d2 => bnd (asB d2) fun k3 => ife k3 (cmS .le x1 a2) (ok (.bl false))) (ok (.bl false)) := semC2 (m := 3) (b := t_has_items) (pro := []) (dds := []) (as := [.val a0, .val a1, .val a2]) (b2 := t_has_items) (ρ := [.val a0, .val a1, .val a2]) (by kernel_rfl) (by kernel_rfl) (by kernel_rfl) (by kernel_rfl) (by kernel_rfl)
def q_is_event_value (f_has_items f_is_within : Fn) : Sts := (.cons (.iff (.or (.cons (.not (.call f_has_items (.val (.var 1) (.val (.int 2) (.val (.int 3) .nil))))) (.cons (.not (.bi .isStr (.cons (.ix (.var 1) (.int 0)) .nil))) .nil))) (.cons (.ret (.bl false)) .nil) .nil) (.cons (.iff (.cmp .eq (.ix (.var 1) (.int 0)) (.str (Str.ofString "learn"))) (.cons (.ret (.and (.cons (.cmp .eq (.bi .len (.cons (.var 1) .nil)) (.int 3)) (.cons (.call f_is_within (.val (.ix (.var 1) (.int 1)) (.val (.int 0) (.val (.op .sub (.var 0) (.int 1)) .nil)))) (.cons (.call f_is_within (.val (.ix (.var 1) (.int 2)) (.val (.int 1) (.val (.int 2) .nil)))) .nil))))) .nil) .nil) (.cons (.iff (.or (.cons (.cmp .ne (.ix (.var 1) (.int 0)) (.str (Str.ofString "meet"))) (.cons (.cmp .ne (.bi .len (.cons (.var 1) .nil)) (.int 2)) (.cons (.not (.call f_has_items (.val (.ix (.var 1) (.int 1)) (.val (.int 2) (.val (.var 0) .nil))))) .nil)))) (.cons (.ret (.bl false)) .nil) .nil)
  (.cons (.iff (.not (.bi .all (.cons (.comp (.call f_is_within (.val (.var 2) (.val (.int 0) (.val (.op .sub (.var 0) (.int 1)) .nil)))) (.nm 2) (.seq (.ix (.var 1) (.int 1))) .none [2]) .nil))) (.cons (.ret (.bl false)) .nil) .nil) (.cons (.ret (.bi .all (.cons (.comp (.cmp .lt (.var 2) (.var 3)) (.tup (.cons (.nm 2) (.cons (.nm 3) .nil))) (.zip (.ix (.var 1) (.int 1)) (.slc (.ix (.var 1) (.int 1)) (.some (.int 1)) .none)) .none [2, 3]) .nil))) .nil)))))
theorem v_is_event_value (f_has_items f_is_within : Fn) (a0 a1 : D) : runC (q_is_event_value f_has_items f_is_within) [.val a0, .val a1, .no, .no] (fun _ => ok .non) = bnd (bnd (bnd (bnd (callW f_has_items [.val a1, .val (.int 2), .val (.int 3)]) fun x7 => asB x7) fun k6 => ok (!k6)) fun k5 => ife k5 (ok true) (bnd (bnd (bnd (ixS a1 (.int 0)) fun x4 => biS .isStr [x4]) fun x3 => asB x3) fun k2 => ok (!k2))) fun c1 => ife c1
    (ok (.bl false))
    (bnd (bnd (bnd (ixS a1 (.int 0)) fun x10 => cmS .eq x10 (.str (Str.ofString "learn"))) fun x9 => asB x9) fun c8 => ife c8
    (bnd (bnd (biS .len [a1]) fun x17 => cmS .eq x17 (.int 3)) fun x16 => bnd (asB x16) fun k18 => ife k18 (bnd (bnd (ixS a1 (.int 1)) fun x13 => bnd (opS .sub a0 (.int 1)) fun x14 => callW f_is_within [.val x13, .val (.int 0), .val x14]) fun x12 => bnd (asB x12) fun k15 => ife k15 (bnd (ixS a1 (.int 2)) fun x11 => callW f_is_within [.val x11, .val (.int 1), .val (.int 2)]) (ok (.bl false))) (ok (.bl false)))
    (bnd (bnd (bnd (bnd (ixS a1 (.int 0)) fun x28 => cmS .ne x28 (.str (Str.ofString "meet"))) fun x27 => asB x27) fun k26 => ife k26 (ok true) (bnd (bnd (bnd (biS .len [a1]) fun x25 => cmS .ne x25 (.int 2)) fun x24 => asB x24) fun k23 => ife k23 (ok true) (bnd (bnd (bnd (ixS a1 (.int 1)) fun x22 => callW f_has_items [.val x22, .val (.int 2), .val a0]) fun x21 => asB x21) fun k20 => ok (!k20)))) fun c19 => ife c19
    (ok (.bl false))
    (bnd (bnd (bnd (bnd (bnd (ixS a1 (.int 1)) fun x33 => bnd (itemsD x33) fun ds34 => nox (bnd (gatW (fun d35 => bnd (bnd (opS .sub a0 (.int 1)) fun x36 => callW f_is_within [.val d35, .val (.int 0), .val x36]) fun y37 => ok [y37]) ds34) fun ys => ok (.lst ys))) fun x32 => biS .all [x32]) fun x31 => asB x31) fun k30 => ok (!k30)) fun c29 => ife c29
    (ok (.bl false))
    (bnd (bnd (ixS a1 (.int 1)) fun x39 => bnd (bnd (ixS a1 (.int 1)) fun x41 => bnd (intOf (.int 1)) fun i42 => slS x41 (some i42) none) fun x40 => bnd (zipW x39 x40) fun ds43 => nox (bnd (gatW (fun d44 => bnd (bindT (.tup (.cons (.nm 2) (.cons (.nm 3) .nil))) d44 [.val a0, .val a1, .no, .no]) fun r45 => bnd (evC .none r45) fun k46 => ife k46 (bnd (evE (.cmp .lt (.var 2) (.var 3)) r45) fun y47 => ok [y47]) (ok [])) ds43) fun ys => ok (.lst ys))) fun x38 => biS .all [x38])))) := by kernel_rfl
theorem u_is_event_value (a0 a1 : D) : f_is_event_value.sem [.val a0, .val a1] = bnd (bnd (bnd (bnd (callW f_has_items [.val a1, .val (.int 2), .val (.int 3)]) fun x7 => asB x7) fun k6 => ok (!k6)) fun k5 => ife k5 (ok true) (bnd (bnd (bnd (ixS a1 (.int 0)) fun x4 => biS .isStr [x4]) fun x3 => asB x3) fun k2 => ok (!k2))) fun c1 => ife c1
    (ok (.bl false))
    (bnd (bnd (bnd (ixS a1 (.int 0)) fun x10 => cmS .eq x10 (.str (Str.ofString "learn"))) fun x9 => asB x9) fun c8 => ife c8
    (bnd (bnd (biS .len [a1]) fun x17 => cmS .eq x17 (.int 3)) fun x16 => bnd (asB x16) fun k18 => ife k18 (bnd (bnd (ixS a1 (.int 1)) fun x13 => bnd (opS .sub a0 (.int 1)) fun x14 => callW f_is_within [.val x13, .val (.int 0), .val x14]) fun x12 => bnd (asB x12) fun k15 => ife k15 (bnd (ixS a1 (.int 2)) fun x11 => callW f_is_within [.val x11, .val (.int 1), .val (.int 2)]) (ok (.bl false))) (ok (.bl false)))
    (bnd (bnd (bnd (bnd (ixS a1 (.int 0)) fun x28 => cmS .ne x28 (.str (Str.ofString "meet"))) fun x27 => asB x27) fun k26 => ife k26 (ok true) (bnd (bnd (bnd (biS .len [a1]) fun x25 => cmS .ne x25 (.int 2)) fun x24 => asB x24) fun k23 => ife k23 (ok true) (bnd (bnd (bnd (ixS a1 (.int 1)) fun x22 => callW f_has_items [.val x22, .val (.int 2), .val a0]) fun x21 => asB x21) fun k20 => ok (!k20)))) fun c19 => ife c19
    (ok (.bl false))
    (bnd (bnd (bnd (bnd (bnd (ixS a1 (.int 1)) fun x33 => bnd (itemsD x33) fun ds34 => nox (bnd (gatW (fun d35 => bnd (bnd (opS .sub a0 (.int 1)) fun x36 => callW f_is_within [.val d35, .val (.int 0), .val x36]) fun y37 => ok [y37]) ds34) fun ys => ok (.lst ys))) fun x32 => biS .all [x32]) fun x31 => asB x31) fun k30 => ok (!k30)) fun c29 => ife c29
    (ok (.bl false))
    (bnd (bnd (ixS a1 (.int 1)) fun x39 => bnd (bnd (ixS a1 (.int 1)) fun x41 => bnd (intOf (.int 1)) fun i42 => slS x41 (some i42) none) fun x40 => bnd (zipW x39 x40) fun ds43 => nox (bnd (gatW (fun d44 => bnd (bindT (.tup (.cons (.nm 2) (.cons (.nm 3) .nil))) d44 [.val a0, .val a1, .no, .no]) fun r45 => bnd (evC .none r45) fun k46 => ife k46 (bnd (evE (.cmp .lt (.var 2) (.var 3)) r45) fun y47 => ok [y47]) (ok [])) ds43) fun ys => ok (.lst ys))) fun x38 => biS .all [x38])))) := semC2 (m := 4) (b := t_is_event_value) (pro := []) (dds := []) (as := [.val a0, .val a1]) (b2 := q_is_event_value f_has_items f_is_within) (ρ := [.val a0, .val a1, .no, .no]) (by kernel_rfl) (by kernel_rfl) (by kernel_rfl) (by kernel_rfl) (v_is_event_value f_has_items f_is_within a0 a1)
def q_is_end (f_is_within : Fn) : Sts := (.cons (.ret (.or (.cons (.cmp .isN (.var 0) .non) (.cons (.call f_is_within (.val (.var 0) (.val (.neg (.int 1000000000000000000000000000000)) (.val (.int 1000000000000000000000000000000) .nil)))) .nil)))) .nil)
theorem v_is_end (f_is_within : Fn) (a0 : D) : runC (q_is_end f_is_within) [.val a0] (fun _ => ok .non) = bnd (cmS .isN a0 .non) fun x3 => bnd (asB x3) fun k4 => ife k4 (ok (.bl true)) (bnd (bnd (intOf (.int 1000000000000000000000000000000)) fun i2 => ok (.int (-i2))) fun x1 => callW f_is_within [.val a0, .val x1, .val (.int 1000000000000000000000000000000)]) := by kernel_rfl
theorem u_is_end (a0 : D) : f_is_end.sem [.val a0] = bnd (cmS .isN a0 .non) fun x3 => bnd (asB x3) fun k4 => ife k4 (ok (.bl true)) (bnd (bnd (intOf (.int 1000000000000000000000000000000)) fun i2 => ok (.int (-i2))) fun x1 => callW f_is_within [.val a0, .val x1, .val (.int 1000000000000000000000000000000)]) := semC2 (m := 1) (b := t_is_end) (pro := []) (dds := []) (as := [.val a0]) (b2 := q_is_end f_is_within) (ρ := [.val a0]) (by kernel_rfl) (by kernel_rfl) (by kernel_rfl) (by kernel_rfl) (v_is_end f_is_within a0)
def q_is_fact_value (f_has_items f_is_end f_is_within : Fn) : Sts := (.cons (.iff (.or (.cons (.not (.call f_has_items (.val (.var 1) (.val (.int 4) (.val (.int 4) .nil))))) (.cons (.not (.call f_is_within (.val (.ix (.var 1) (.int 0)) (.val (.int 0) (.val (.op .sub (.var 0) (.int 1)) .nil))))) (.cons (.not (.call f_is_within (.val (.ix (.var 1) (.int 1)) (.val (.int 0) (.val (.op .sub (.var 0) (.int 1)) .nil))))) .nil)))) (.cons (.ret (.bl false)) .nil) .nil) (.cons (.iff (.or (.cons (.cmp .eq (.ix (.var 1) (.int 0)) (.ix (.var 1) (.int 1))) (.cons (.not (.call f_is_end (.val (.ix (.var 1) (.int 2)) .nil))) (.cons (.not (.call f_is_end (.val (.ix (.var 1) (.int 3)) .nil))) .nil)))) (.cons (.ret (.bl false)) .nil) .nil) (.cons (.iff (.or (.cons (.cmp .isN (.ix (.var 1) (.int 2)) .non) (.cons (.cmp .isN (.ix (.var 1) (.int 3)) .non) .nil))) (.cons (.ret (.cmp .ne (.ix (.var 1) (.int 2)) (.ix (.var 1) (.int 3)))) .nil) .nil) (.cons (.ret (.cmp .le (.ix (.var
  1) (.int 2)) (.ix (.var 1) (.int 3)))) .nil))))
theorem v_is_fact_value (f_has_items f_is_end f_is_within : Fn) (a0 a1 : D) : runC (q_is_fact_value f_has_items f_is_end f_is_within) [.val a0, .val a1] (fun _ => ok .non) = bnd (bnd (bnd (bnd (callW f_has_items [.val a1, .val (.int 4), .val (.int 4)]) fun x13 => asB x13) fun k12 => ok (!k12)) fun k11 => ife k11 (ok true) (bnd (bnd (bnd (bnd (ixS a1 (.int 0)) fun x9 => bnd (opS .sub a0 (.int 1)) fun x10 => callW f_is_within [.val x9, .val (.int 0), .val x10]) fun x8 => asB x8) fun k7 => ok (!k7)) fun k6 => ife k6 (ok true) (bnd (bnd (bnd (ixS a1 (.int 1)) fun x4 => bnd (opS .sub a0 (.int 1)) fun x5 => callW f_is_within [.val x4, .val (.int 0), .val x5]) fun x3 => asB x3) fun k2 => ok (!k2)))) fun c1 => ife c1
    (ok (.bl false))
    (bnd (bnd (bnd (bnd (ixS a1 (.int 0)) fun x24 => bnd (ixS a1 (.int 1)) fun x25 => cmS .eq x24 x25) fun x23 => asB x23) fun k22 => ife k22 (ok true) (bnd (bnd (bnd (bnd (ixS a1 (.int 2)) fun x21 => callW f_is_end [.val x21]) fun x20 => asB x20) fun k19 => ok (!k19)) fun k18 => ife k18 (ok true) (bnd (bnd (bnd (ixS a1 (.int 3)) fun x17 => callW f_is_end [.val x17]) fun x16 => asB x16) fun k15 => ok (!k15)))) fun c14 => ife c14
    (ok (.bl false))
    (bnd (bnd (bnd (bnd (ixS a1 (.int 2)) fun x31 => cmS .isN x31 .non) fun x30 => asB x30) fun k29 => ife k29 (ok true) (bnd (bnd (ixS a1 (.int 3)) fun x28 => cmS .isN x28 .non) fun x27 => asB x27)) fun c26 => ife c26
    (bnd (ixS a1 (.int 2)) fun x32 => bnd (ixS a1 (.int 3)) fun x33 => cmS .ne x32 x33)
    (bnd (ixS a1 (.int 2)) fun x34 => bnd (ixS a1 (.int 3)) fun x35 => cmS .le x34 x35))) := by kernel_rfl
theorem u_is_fact_value (a0 a1 : D) : f_is_fact_value.sem [.val a0, .val a1] = bnd (bnd (bnd (bnd (callW f_has_items [.val a1, .val (.int 4), .val (.int 4)]) fun x13 => asB x13) fun k12 => ok (!k12)) fun k11 => ife k11 (ok true) (bnd (bnd (bnd (bnd (ixS a1 (.int 0)) fun x9 => bnd (opS .sub a0 (.int 1)) fun x10 => callW f_is_within [.val x9, .val (.int 0), .val x10]) fun x8 => asB x8) fun k7 => ok (!k7)) fun k6 => ife k6 (ok true) (bnd (bnd (bnd (ixS a1 (.int 1)) fun x4 => bnd (opS .sub a0 (.int 1)) fun x5 => callW f_is_within [.val x4, .val (.int 0), .val x5]) fun x3 => asB x3) fun k2 => ok (!k2)))) fun c1 => ife c1
    (ok (.bl false))
    (bnd (bnd (bnd (bnd (ixS a1 (.int 0)) fun x24 => bnd (ixS a1 (.int 1)) fun x25 => cmS .eq x24 x25) fun x23 => asB x23) fun k22 => ife k22 (ok true) (bnd (bnd (bnd (bnd (ixS a1 (.int 2)) fun x21 => callW f_is_end [.val x21]) fun x20 => asB x20) fun k19 => ok (!k19)) fun k18 => ife k18 (ok true) (bnd (bnd (bnd (ixS a1 (.int 3)) fun x17 => callW f_is_end [.val x17]) fun x16 => asB x16) fun k15 => ok (!k15)))) fun c14 => ife c14
    (ok (.bl false))
    (bnd (bnd (bnd (bnd (ixS a1 (.int 2)) fun x31 => cmS .isN x31 .non) fun x30 => asB x30) fun k29 => ife k29 (ok true) (bnd (bnd (ixS a1 (.int 3)) fun x28 => cmS .isN x28 .non) fun x27 => asB x27)) fun c26 => ife c26
    (bnd (ixS a1 (.int 2)) fun x32 => bnd (ixS a1 (.int 3)) fun x33 => cmS .ne x32 x33)
    (bnd (ixS a1 (.int 2)) fun x34 => bnd (ixS a1 (.int 3)) fun x35 => cmS .le x34 x35))) := semC2 (m := 2) (b := t_is_fact_value) (pro := []) (dds := []) (as := [.val a0, .val a1]) (b2 := q_is_fact_value f_has_items f_is_end f_is_within) (ρ := [.val a0, .val a1]) (by kernel_rfl) (by kernel_rfl) (by kernel_rfl) (by kernel_rfl) (v_is_fact_value f_has_items f_is_end f_is_within a0 a1)
def q_is_shape (f_has_items f_is_event_value f_is_fact_value f_is_within : Fn) : Sts := (.cons (.iff (.or (.cons (.not (.call f_has_items (.val (.var 0) (.val (.int 3) (.val (.int 3) .nil))))) (.cons (.not (.call f_is_within (.val (.ix (.var 0) (.int 0)) (.val (.int 2) (.val (.int 5) .nil))))) (.cons (.not (.call f_has_items (.val (.ix (.var 0) (.int 1)) (.val (.int 1) (.val (.int 5) .nil))))) .nil)))) (.cons (.ret (.bl false)) .nil) .nil) (.cons (.iff (.or (.cons (.not (.bi .all (.cons (.comp (.call f_is_event_value (.val (.ix (.var 0) (.int 0)) (.val (.var 1) .nil))) (.nm 1) (.seq (.ix (.var 0) (.int 1))) .none [1]) .nil))) (.cons (.not (.call f_has_items (.val (.ix (.var 0) (.int 2)) (.val (.int 0) (.val (.int 4) .nil))))) .nil))) (.cons (.ret (.bl false)) .nil) .nil) (.cons (.ret (.bi .all (.cons (.comp (.call f_is_fact_value (.val (.bi .len (.cons (.ix (.var 0) (.int 1)) .nil)) (.val (.var 1) .nil))) (.nm 1) (.seq (.ix (.var 0) (.int 2))) .none [1]) .nil))) .nil)))
theorem v_is_shape (f_has_items f_is_event_value f_is_fact_value f_is_within : Fn) (a0 : D) : runC (q_is_shape f_has_items f_is_event_value f_is_fact_value f_is_within) [.val a0, .no] (fun _ => ok .non) = bnd (bnd (bnd (bnd (callW f_has_items [.val a0, .val (.int 3), .val (.int 3)]) fun x11 => asB x11) fun k10 => ok (!k10)) fun k9 => ife k9 (ok true) (bnd (bnd (bnd (bnd (ixS a0 (.int 0)) fun x8 => callW f_is_within [.val x8, .val (.int 2), .val (.int 5)]) fun x7 => asB x7) fun k6 => ok (!k6)) fun k5 => ife k5 (ok true) (bnd (bnd (bnd (ixS a0 (.int 1)) fun x4 => callW f_has_items [.val x4, .val (.int 1), .val (.int 5)]) fun x3 => asB x3) fun k2 => ok (!k2)))) fun c1 => ife c1
    (ok (.bl false))
    (bnd (bnd (bnd (bnd (bnd (bnd (ixS a0 (.int 1)) fun x20 => bnd (itemsD x20) fun ds21 => nox (bnd (gatW (fun d22 => bnd (bnd (ixS a0 (.int 0)) fun x23 => callW f_is_event_value [.val x23, .val d22]) fun y24 => ok [y24]) ds21) fun ys => ok (.lst ys))) fun x19 => biS .all [x19]) fun x18 => asB x18) fun k17 => ok (!k17)) fun k16 => ife k16 (ok true) (bnd (bnd (bnd (ixS a0 (.int 2)) fun x15 => callW f_has_items [.val x15, .val (.int 0), .val (.int 4)]) fun x14 => asB x14) fun k13 => ok (!k13))) fun c12 => ife c12
    (ok (.bl false))
    (bnd (bnd (ixS a0 (.int 2)) fun x26 => bnd (itemsD x26) fun ds27 => nox (bnd (gatW (fun d28 => bnd (bnd (bnd (ixS a0 (.int 1)) fun x30 => biS .len [x30]) fun x29 => callW f_is_fact_value [.val x29, .val d28]) fun y31 => ok [y31]) ds27) fun ys => ok (.lst ys))) fun x25 => biS .all [x25])) := by kernel_rfl
theorem u_is_shape (a0 : D) : f_is_shape.sem [.val a0] = bnd (bnd (bnd (bnd (callW f_has_items [.val a0, .val (.int 3), .val (.int 3)]) fun x11 => asB x11) fun k10 => ok (!k10)) fun k9 => ife k9 (ok true) (bnd (bnd (bnd (bnd (ixS a0 (.int 0)) fun x8 => callW f_is_within [.val x8, .val (.int 2), .val (.int 5)]) fun x7 => asB x7) fun k6 => ok (!k6)) fun k5 => ife k5 (ok true) (bnd (bnd (bnd (ixS a0 (.int 1)) fun x4 => callW f_has_items [.val x4, .val (.int 1), .val (.int 5)]) fun x3 => asB x3) fun k2 => ok (!k2)))) fun c1 => ife c1
    (ok (.bl false))
    (bnd (bnd (bnd (bnd (bnd (bnd (ixS a0 (.int 1)) fun x20 => bnd (itemsD x20) fun ds21 => nox (bnd (gatW (fun d22 => bnd (bnd (ixS a0 (.int 0)) fun x23 => callW f_is_event_value [.val x23, .val d22]) fun y24 => ok [y24]) ds21) fun ys => ok (.lst ys))) fun x19 => biS .all [x19]) fun x18 => asB x18) fun k17 => ok (!k17)) fun k16 => ife k16 (ok true) (bnd (bnd (bnd (ixS a0 (.int 2)) fun x15 => callW f_has_items [.val x15, .val (.int 0), .val (.int 4)]) fun x14 => asB x14) fun k13 => ok (!k13))) fun c12 => ife c12
    (ok (.bl false))
    (bnd (bnd (ixS a0 (.int 2)) fun x26 => bnd (itemsD x26) fun ds27 => nox (bnd (gatW (fun d28 => bnd (bnd (bnd (ixS a0 (.int 1)) fun x30 => biS .len [x30]) fun x29 => callW f_is_fact_value [.val x29, .val d28]) fun y31 => ok [y31]) ds27) fun ys => ok (.lst ys))) fun x25 => biS .all [x25])) := semC2 (m := 2) (b := t_is_shape) (pro := []) (dds := []) (as := [.val a0]) (b2 := q_is_shape f_has_items f_is_event_value f_is_fact_value f_is_within) (ρ := [.val a0, .no]) (by kernel_rfl) (by kernel_rfl) (by kernel_rfl) (by kernel_rfl) (v_is_shape f_has_items f_is_event_value f_is_fact_value f_is_within a0)
def p_with_fact_0 (f_with_bound : Fn) : Sts := (.cons (.iff (.cmp .notN (.var 4) .non) (.cons (.set 0 (.call f_with_bound (.val (.var 0) (.val (.var 2) (.val (.var 3) (.val (.neg (.var 4)) .nil)))))) .nil) .nil) (.cons (.iff (.cmp .notN (.var 5) .non) (.cons (.set 0 (.call f_with_bound (.val (.var 0) (.val (.var 3) (.val (.var 2) (.val (.var 5) .nil)))))) .nil) .nil) (.cons (.ret (.var 0)) .nil)))
-- p_with_fact_0
theorem w_with_fact_0 (f_with_bound : Fn) (s0 : D) (s1 : D) (s2 : D) (s3 : D) (s4 : D) (s5 : D) (k' : Ev → W D) : runC (p_with_fact_0 f_with_bound) [.val s0, .val s1, .val s2, .val s3, .val s4, .val s5] k' = bnd (bnd (cmS .notN s4 .non) fun x3 => asB x3) fun c2 => ife c2
    (bnd (bnd (bnd (intOf s4) fun i6 => ok (.int (-i6))) fun x5 => callW f_with_bound [.val s0, .val s2, .val s3, .val x5]) fun x4 => bnd (bnd (cmS .notN s5 .non) fun x8 => asB x8) fun c7 => ife c7
    (bnd (callW f_with_bound [.val x4, .val s3, .val s2, .val s5]) fun x9 => ok x9)
    (ok x4))
    (bnd (bnd (cmS .notN s5 .non) fun x11 => asB x11) fun c10 => ife c10
    (bnd (callW f_with_bound [.val s0, .val s3, .val s2, .val s5]) fun x12 => ok x12)
    (ok s0)) := by kernel_rfl
def q_with_fact (f_with_bound : Fn) : Sts := (.cons (.asg (.tup (.cons (.nm 2) (.cons (.nm 3) (.cons (.nm 4) (.cons (.nm 5) .nil))))) (.var 1)) (.cons (.iff (.cmp .notN (.var 4) .non) (.cons (.set 0 (.call f_with_bound (.val (.var 0) (.val (.var 2) (.val (.var 3) (.val (.neg (.var 4)) .nil)))))) .nil) .nil) (.cons (.iff (.cmp .notN (.var 5) .non) (.cons (.set 0 (.call f_with_bound (.val (.var 0) (.val (.var 3) (.val (.var 2) (.val (.var 5) .nil)))))) .nil) .nil) (.cons (.ret (.var 0)) .nil))))
theorem v_with_fact (f_with_bound : Fn) (a0 a1 : D) : runC (q_with_fact f_with_bound) [.val a0, .val a1, .no, .no, .no, .no] (fun _ => ok .non) = bnd (bindT (.tup (.cons (.nm 2) (.cons (.nm 3) (.cons (.nm 4) (.cons (.nm 5) .nil))))) a1 [.val a0, .val a1, .no, .no, .no, .no]) fun ρ1 => runC (p_with_fact_0 f_with_bound) ρ1 fun _ => ok .non := by kernel_rfl
theorem u_with_fact (a0 a1 : D) : f_with_fact.sem [.val a0, .val a1] = bnd (bindT (.tup (.cons (.nm 2) (.cons (.nm 3) (.cons (.nm 4) (.cons (.nm 5) .nil))))) a1 [.val a0, .val a1, .no, .no, .no, .no]) fun ρ1 => runC (p_with_fact_0 f_with_bound) ρ1 fun _ => ok .non := semC2 (m := 6) (b := t_with_fact) (pro := []) (dds := []) (as := [.val a0, .val a1]) (b2 := q_with_fact f_with_bound) (ρ := [.val a0, .val a1, .no, .no, .no, .no]) (by kernel_rfl) (by kernel_rfl) (by kernel_rfl) (by kernel_rfl) (v_with_fact f_with_bound a0 a1)
def p_bounds_of_0 (f_no_bounds f_with_fact : Fn) : Sts := (.cons (.set 1 (.call f_with_fact (.val (.var 1) (.val (.var 2) .nil)))) .nil)
def p_bounds_of_1 (f_no_bounds f_with_fact : Fn) : Sts := (.cons (.ret (.var 1)) .nil)
-- p_bounds_of_0
theorem w_bounds_of_0 (f_no_bounds f_with_fact : Fn) (s0 : D) (s1 : D) (s2 : D) (k' : Ev → W D) : runC (p_bounds_of_0 f_no_bounds f_with_fact) [.val s0, .val s1, .val s2] k' = bnd (callW f_with_fact [.val s1, .val s2]) fun x7 => k' [.val s0, .val x7, .val s2] := by kernel_rfl
-- p_bounds_of_1
theorem w_bounds_of_1 (f_no_bounds f_with_fact : Fn) (s0 : D) (s1 : D) (s2 : Sl) (k' : Ev → W D) : runC (p_bounds_of_1 f_no_bounds f_with_fact) [.val s0, .val s1, s2] k' = ok s1 := by kernel_rfl
def q_bounds_of (f_no_bounds f_with_fact : Fn) : Sts := (.cons (.set 1 (.call f_no_bounds (.val (.bi .len (.cons (.ix (.var 0) (.int 1)) .nil)) .nil))) (.cons (.for_ (.nm 2) (.seq (.ix (.var 0) (.int 2))) (.cons (.set 1 (.call f_with_fact (.val (.var 1) (.val (.var 2) .nil)))) .nil)) (.cons (.ret (.var 1)) .nil)))
theorem v_bounds_of (f_no_bounds f_with_fact : Fn) (a0 : D) : runC (q_bounds_of f_no_bounds f_with_fact) [.val a0, .no, .no] (fun _ => ok .non) = bnd (bnd (bnd (ixS a0 (.int 1)) fun x3 => biS .len [x3]) fun x2 => callW f_no_bounds [.val x2]) fun x1 => bnd (ixS a0 (.int 2)) fun x4 => bnd (itemsD x4) fun ds5 => forK (.nm 2) (fun ρ' k' => runC (p_bounds_of_0 f_no_bounds f_with_fact) ρ' k') ds5 [.val a0, .val x1, .no] fun ρ6 => runC (p_bounds_of_1 f_no_bounds f_with_fact) ρ6 fun _ => ok .non := by kernel_rfl
theorem u_bounds_of (a0 : D) : f_bounds_of.sem [.val a0] = bnd (bnd (bnd (ixS a0 (.int 1)) fun x3 => biS .len [x3]) fun x2 => callW f_no_bounds [.val x2]) fun x1 => bnd (ixS a0 (.int 2)) fun x4 => bnd (itemsD x4) fun ds5 => forK (.nm 2) (fun ρ' k' => runC (p_bounds_of_0 f_no_bounds f_with_fact) ρ' k') ds5 [.val a0, .val x1, .no] fun ρ6 => runC (p_bounds_of_1 f_no_bounds f_with_fact) ρ6 fun _ => ok .non := semC2 (m := 3) (b := t_bounds_of) (pro := []) (dds := []) (as := [.val a0]) (b2 := q_bounds_of f_no_bounds f_with_fact) (ρ := [.val a0, .no, .no]) (by kernel_rfl) (by kernel_rfl) (by kernel_rfl) (by kernel_rfl) (v_bounds_of f_no_bounds f_with_fact a0)
def q_is_story_value (f_bounds_of f_is_shape : Fn) : Sts := (.cons (.ret (.and (.cons (.call f_is_shape (.val (.var 0) .nil)) (.cons (.cmp .notN (.call f_bounds_of (.val (.var 0) .nil)) .non) .nil)))) .nil)
theorem v_is_story_value (f_bounds_of f_is_shape : Fn) (a0 : D) : runC (q_is_story_value f_bounds_of f_is_shape) [.val a0] (fun _ => ok .non) = bnd (callW f_is_shape [.val a0]) fun x2 => bnd (asB x2) fun k3 => ife k3 (bnd (callW f_bounds_of [.val a0]) fun x1 => cmS .notN x1 .non) (ok (.bl false)) := by kernel_rfl
theorem u_is_story_value (a0 : D) : f_is_story_value.sem [.val a0] = bnd (callW f_is_shape [.val a0]) fun x2 => bnd (asB x2) fun k3 => ife k3 (bnd (callW f_bounds_of [.val a0]) fun x1 => cmS .notN x1 .non) (ok (.bl false)) := semC2 (m := 1) (b := t_is_story_value) (pro := []) (dds := []) (as := [.val a0]) (b2 := q_is_story_value f_bounds_of f_is_shape) (ρ := [.val a0]) (by kernel_rfl) (by kernel_rfl) (by kernel_rfl) (by kernel_rfl) (v_is_story_value f_bounds_of f_is_shape a0)
def p_keeps_0 : Sts := (.cons (.set 6 (.op .sub (.ix (.var 0) (.var 3)) (.ix (.var 0) (.var 2)))) (.cons (.ret (.and (.cons (.or (.cons (.cmp .isN (.var 4) .non) (.cons (.cmp .ge (.var 6) (.var 4)) .nil))) (.cons (.or (.cons (.cmp .isN (.var 5) .non) (.cons (.cmp .le (.var 6) (.var 5)) .nil))) .nil)))) .nil))
-- p_keeps_0
theorem w_keeps_0 (s0 : D) (s1 : D) (s2 : D) (s3 : D) (s4 : D) (s5 : D) (s6 : Sl) (k' : Ev → W D) : runC (p_keeps_0) [.val s0, .val s1, .val s2, .val s3, .val s4, .val s5, s6] k' = bnd (bnd (ixS s0 s3) fun x3 => bnd (ixS s0 s2) fun x4 => opS .sub x3 x4) fun x2 => bnd (bnd (cmS .isN s4 .non) fun x8 => bnd (asB x8) fun k9 => ife k9 (ok (.bl true)) (cmS .ge x2 s4)) fun x7 => bnd (asB x7) fun k10 => ife k10 (bnd (cmS .isN s5 .non) fun x5 => bnd (asB x5) fun k6 => ife k6 (ok (.bl true)) (cmS .le x2 s5)) (ok (.bl false)) := by kernel_rfl
theorem u_keeps (a0 a1 : D) : f_keeps.sem [.val a0, .val a1] = bnd (bindT (.tup (.cons (.nm 2) (.cons (.nm 3) (.cons (.nm 4) (.cons (.nm 5) .nil))))) a1 [.val a0, .val a1, .no, .no, .no, .no, .no]) fun ρ1 => runC p_keeps_0 ρ1 fun _ => ok .non := semC2 (m := 7) (b := t_keeps) (pro := []) (dds := []) (as := [.val a0, .val a1]) (b2 := t_keeps) (ρ := [.val a0, .val a1, .no, .no, .no, .no, .no]) (by kernel_rfl) (by kernel_rfl) (by kernel_rfl) (by kernel_rfl) (by kernel_rfl)
def q_are_hours (f_has_items f_is_within f_keeps : Fn) : Sts := (.cons (.set 2 (.bi .len (.cons (.ix (.var 0) (.int 1)) .nil))) (.cons (.iff (.or (.cons (.not (.call f_has_items (.val (.var 1) (.val (.var 2) (.val (.var 2) .nil))))) (.cons (.not (.bi .all (.cons (.comp (.call f_is_within (.val (.var 3) (.val (.op .mul (.neg (.int 10)) (.int 1000000000000000000000000000000)) (.val (.op .mul (.int 10) (.int 1000000000000000000000000000000)) .nil)))) (.nm 3) (.seq (.var 1)) .none [3]) .nil))) .nil))) (.cons (.ret (.bl false)) .nil) .nil) (.cons (.ret (.bi .all (.cons (.comp (.call f_keeps (.val (.var 1) (.val (.var 4) .nil))) (.nm 4) (.seq (.ix (.var 0) (.int 2))) .none [4]) .nil))) .nil)))
theorem v_are_hours (f_has_items f_is_within f_keeps : Fn) (a0 a1 : D) : runC (q_are_hours f_has_items f_is_within f_keeps) [.val a0, .val a1, .no, .no, .no] (fun _ => ok .non) = bnd (bnd (ixS a0 (.int 1)) fun x2 => biS .len [x2]) fun x1 => bnd (bnd (bnd (bnd (callW f_has_items [.val a1, .val x1, .val x1]) fun x16 => asB x16) fun k15 => ok (!k15)) fun k14 => ife k14 (ok true) (bnd (bnd (bnd (bnd (itemsD a1) fun ds7 => nox (bnd (gatW (fun d8 => bnd (bnd (bnd (bnd (intOf (.int 10)) fun i11 => ok (.int (-i11))) fun x10 => opS .mul x10 (.int 1000000000000000000000000000000)) fun x9 => bnd (opS .mul (.int 10) (.int 1000000000000000000000000000000)) fun x12 => callW f_is_within [.val d8, .val x9, .val x12]) fun y13 => ok [y13]) ds7) fun ys => ok (.lst ys))) fun x6 => biS .all [x6]) fun x5 => asB x5) fun k4 => ok (!k4))) fun c3 => ife c3
    (ok (.bl false))
    (bnd (bnd (ixS a0 (.int 2)) fun x18 => bnd (itemsD x18) fun ds19 => nox (bnd (gatW (fun d20 => bnd (callW f_keeps [.val a1, .val d20]) fun y21 => ok [y21]) ds19) fun ys => ok (.lst ys))) fun x17 => biS .all [x17]) := by kernel_rfl
theorem u_are_hours (a0 a1 : D) : f_are_hours.sem [.val a0, .val a1] = bnd (bnd (ixS a0 (.int 1)) fun x2 => biS .len [x2]) fun x1 => bnd (bnd (bnd (bnd (callW f_has_items [.val a1, .val x1, .val x1]) fun x16 => asB x16) fun k15 => ok (!k15)) fun k14 => ife k14 (ok true) (bnd (bnd (bnd (bnd (itemsD a1) fun ds7 => nox (bnd (gatW (fun d8 => bnd (bnd (bnd (bnd (intOf (.int 10)) fun i11 => ok (.int (-i11))) fun x10 => opS .mul x10 (.int 1000000000000000000000000000000)) fun x9 => bnd (opS .mul (.int 10) (.int 1000000000000000000000000000000)) fun x12 => callW f_is_within [.val d8, .val x9, .val x12]) fun y13 => ok [y13]) ds7) fun ys => ok (.lst ys))) fun x6 => biS .all [x6]) fun x5 => asB x5) fun k4 => ok (!k4))) fun c3 => ife c3
    (ok (.bl false))
    (bnd (bnd (ixS a0 (.int 2)) fun x18 => bnd (itemsD x18) fun ds19 => nox (bnd (gatW (fun d20 => bnd (callW f_keeps [.val a1, .val d20]) fun y21 => ok [y21]) ds19) fun ys => ok (.lst ys))) fun x17 => biS .all [x17]) := semC2 (m := 5) (b := t_are_hours) (pro := []) (dds := []) (as := [.val a0, .val a1]) (b2 := q_are_hours f_has_items f_is_within f_keeps) (ρ := [.val a0, .val a1, .no, .no, .no]) (by kernel_rfl) (by kernel_rfl) (by kernel_rfl) (by kernel_rfl) (v_are_hours f_has_items f_is_within f_keeps a0 a1)
def q_need_story (f_is_story_value : Fn) : Sts := (.cons (.iff (.not (.call f_is_story_value (.val (.var 0) .nil))) (.cons (.rais (Str.ofString "InvalidStory") .none) .nil) .nil) .nil)
theorem v_need_story (f_is_story_value : Fn) (a0 : D) : runC (q_need_story f_is_story_value) [.val a0] (fun _ => ok .non) = bnd (bnd (bnd (callW f_is_story_value [.val a0]) fun x3 => asB x3) fun k2 => ok (!k2)) fun c1 => ife c1
    (rz ⟨(Str.ofString "InvalidStory"), none⟩)
    (ok .non) := by kernel_rfl
theorem u_need_story (a0 : D) : f_need_story.sem [.val a0] = bnd (bnd (bnd (callW f_is_story_value [.val a0]) fun x3 => asB x3) fun k2 => ok (!k2)) fun c1 => ife c1
    (rz ⟨(Str.ofString "InvalidStory"), none⟩)
    (ok .non) := semC2 (m := 1) (b := t_need_story) (pro := []) (dds := []) (as := [.val a0]) (b2 := q_need_story f_is_story_value) (ρ := [.val a0]) (by kernel_rfl) (by kernel_rfl) (by kernel_rfl) (by kernel_rfl) (v_need_story f_is_story_value a0)
def q_is_story (f_is_story_value : Fn) : Sts := (.cons (.ret (.call f_is_story_value (.val (.var 0) .nil))) .nil)
theorem v_is_story (f_is_story_value : Fn) (a0 : D) : runC (q_is_story f_is_story_value) [.val a0] (fun _ => ok .non) = callW f_is_story_value [.val a0] := by kernel_rfl
theorem u_is_story (a0 : D) : f_is_story.sem [.val a0] = callW f_is_story_value [.val a0] := semC2 (m := 1) (b := t_is_story) (pro := []) (dds := []) (as := [.val a0]) (b2 := q_is_story f_is_story_value) (ρ := [.val a0]) (by kernel_rfl) (by kernel_rfl) (by kernel_rfl) (by kernel_rfl) (v_is_story f_is_story_value a0)
def q_is_hours (f_are_hours f_need_story : Fn) : Sts := (.cons (.expr (.call f_need_story (.val (.var 0) .nil))) (.cons (.ret (.call f_are_hours (.val (.var 0) (.val (.var 1) .nil)))) .nil))
theorem v_is_hours (f_are_hours f_need_story : Fn) (a0 a1 : D) : runC (q_is_hours f_are_hours f_need_story) [.val a0, .val a1] (fun _ => ok .non) = bnd (callW f_need_story [.val a0]) fun x1 => callW f_are_hours [.val a0, .val a1] := by kernel_rfl
theorem u_is_hours (a0 a1 : D) : f_is_hours.sem [.val a0, .val a1] = bnd (callW f_need_story [.val a0]) fun x1 => callW f_are_hours [.val a0, .val a1] := semC2 (m := 2) (b := t_is_hours) (pro := []) (dds := []) (as := [.val a0, .val a1]) (b2 := q_is_hours f_are_hours f_need_story) (ρ := [.val a0, .val a1]) (by kernel_rfl) (by kernel_rfl) (by kernel_rfl) (by kernel_rfl) (v_is_hours f_are_hours f_need_story a0 a1)
theorem u__law_whole (a0 : D) : f__law_whole.sem [.val a0] = bnd (biS .isInt [a0]) fun x3 => bnd (asB x3) fun k4 => ife k4 (bnd (biS .isBool [a0]) fun x1 => bnd (asB x1) fun k2 => ok (.bl (!k2))) (ok (.bl false)) := semC2 (m := 1) (b := t__law_whole) (pro := []) (dds := []) (as := [.val a0]) (b2 := t__law_whole) (ρ := [.val a0]) (by kernel_rfl) (by kernel_rfl) (by kernel_rfl) (by kernel_rfl) (by kernel_rfl)
def q__law_one (fPick : Fn) : Sts := (.cons (.ret (.ix (.var 1) (.call fPick (.deck 0 (.val (.bi .len (.cons (.var 1) .nil)) .nil))))) .nil)
theorem v__law_one (fPick : Fn) (a1 : D) : runC (q__law_one fPick) [.deck, .val a1] (fun _ => ok .non) = bnd (bnd (biS .len [a1]) fun x2 => callW fPick [.deck, .val x2]) fun x1 => ixS a1 x1 := by kernel_rfl
theorem u__law_one (a1 : D) : f__law_one.sem [.deck, .val a1] = bnd (bnd (biS .len [a1]) fun x2 => callW fPick [.deck, .val x2]) fun x1 => ixS a1 x1 := semC2 (m := 2) (b := t__law_one) (pro := [0]) (dds := []) (as := [.deck, .val a1]) (b2 := q__law_one fPick) (ρ := [.deck, .val a1]) (by kernel_rfl) (by kernel_rfl) (by kernel_rfl) (by kernel_rfl) (v__law_one fPick a1)
theorem u__law_sort (a0 : D) : f__law_sort.sem [.val a0] = bnd (bnd (biS .isBool [a0]) fun x2 => asB x2) fun c1 => ife c1
    (ok (.int 1))
    (bnd (bnd (biS .isInt [a0]) fun x4 => asB x4) fun c3 => ife c3
    (ok (.int 2))
    (bnd (bnd (biS .isStr [a0]) fun x6 => asB x6) fun c5 => ife c5
    (ok (.int 3))
    (bnd (bnd (biS .isLst [a0]) fun x8 => asB x8) fun c7 => ife c7
    (ok (.int 4))
    (bnd (biS .isTup [a0]) fun x9 => bnd (asB x9) fun k10 => ife k10 (ok (.int 5)) (ok (.int 6)))))) := semC2 (m := 1) (b := t__law_sort) (pro := []) (dds := []) (as := [.val a0]) (b2 := t__law_sort) (ρ := [.val a0]) (by kernel_rfl) (by kernel_rfl) (by kernel_rfl) (by kernel_rfl) (by kernel_rfl)
def q__law_same (f__law_sort fr : Fn) : Sts := (.cons (.iff (.cmp .ne (.call f__law_sort (.val (.var 0) .nil)) (.call f__law_sort (.val (.var 1) .nil))) (.cons (.ret (.bl false)) .nil) .nil) (.cons (.iff (.and (.cons (.cmp .gt (.call f__law_sort (.val (.var 0) .nil)) (.int 3)) (.cons (.cmp .lt (.call f__law_sort (.val (.var 0) .nil)) (.int 6)) .nil))) (.cons (.iff (.cmp .ne (.bi .len (.cons (.var 0) .nil)) (.bi .len (.cons (.var 1) .nil))) (.cons (.ret (.bl false)) .nil) .nil) (.cons (.ret (.cmp .eq (.comp (.var 2) (.tup (.cons (.nm 2) (.cons (.nm 3) .nil))) (.enum (.var 0)) (.some (.not (.call fr (.val (.var 3) (.val (.ix (.var 1) (.var 2)) .nil))))) [2, 3]) (.lst .nil))) .nil)) .nil) (.cons (.ret (.cmp .eq (.var 0) (.var 1))) .nil)))
theorem v__law_same (f__law_sort fr : Fn) (a0 a1 : D) : runC (q__law_same f__law_sort fr) [.val a0, .val a1, .no, .no] (fun _ => ok .non) = bnd (bnd (bnd (callW f__law_sort [.val a0]) fun x3 => bnd (callW f__law_sort [.val a1]) fun x4 => cmS .ne x3 x4) fun x2 => asB x2) fun c1 => ife c1
    (ok (.bl false))
    (bnd (bnd (bnd (bnd (callW f__law_sort [.val a0]) fun x10 => cmS .gt x10 (.int 3)) fun x9 => asB x9) fun k8 => ife k8 (bnd (bnd (callW f__law_sort [.val a0]) fun x7 => cmS .lt x7 (.int 6)) fun x6 => asB x6) (ok false)) fun c5 => ife c5
    (bnd (bnd (bnd (biS .len [a0]) fun x13 => bnd (biS .len [a1]) fun x14 => cmS .ne x13 x14) fun x12 => asB x12) fun c11 => ife c11
      (ok (.bl false))
      (bnd (bnd (bnd (itemsD a0) fun xs16 => ok (enumD 0 xs16)) fun ds17 => nox (bnd (gatW (fun d18 => bnd (bindT (.tup (.cons (.nm 2) (.cons (.nm 3) .nil))) d18 [.val a0, .val a1, .no, .no]) fun r19 => bnd (evC (.some (.not (.call fr (.val (.var 3) (.val (.ix (.var 1) (.var 2)) .nil))))) r19) fun k20 => ife k20 (bnd (evE (.var 2) r19) fun y21 => ok [y21]) (ok [])) ds17) fun ys => ok (.lst ys))) fun x15 => cmS .eq x15 (.lst [])))
    (cmS .eq a0 a1)) := by kernel_rfl
theorem u__law_same (fr : Fn) (a0 a1 : D) : semD 4 (t__law_same fr) [] [] [.val a0, .val a1] = bnd (bnd (bnd (callW f__law_sort [.val a0]) fun x3 => bnd (callW f__law_sort [.val a1]) fun x4 => cmS .ne x3 x4) fun x2 => asB x2) fun c1 => ife c1
    (ok (.bl false))
    (bnd (bnd (bnd (bnd (callW f__law_sort [.val a0]) fun x10 => cmS .gt x10 (.int 3)) fun x9 => asB x9) fun k8 => ife k8 (bnd (bnd (callW f__law_sort [.val a0]) fun x7 => cmS .lt x7 (.int 6)) fun x6 => asB x6) (ok false)) fun c5 => ife c5
    (bnd (bnd (bnd (biS .len [a0]) fun x13 => bnd (biS .len [a1]) fun x14 => cmS .ne x13 x14) fun x12 => asB x12) fun c11 => ife c11
      (ok (.bl false))
      (bnd (bnd (bnd (itemsD a0) fun xs16 => ok (enumD 0 xs16)) fun ds17 => nox (bnd (gatW (fun d18 => bnd (bindT (.tup (.cons (.nm 2) (.cons (.nm 3) .nil))) d18 [.val a0, .val a1, .no, .no]) fun r19 => bnd (evC (.some (.not (.call fr (.val (.var 3) (.val (.ix (.var 1) (.var 2)) .nil))))) r19) fun k20 => ife k20 (bnd (evE (.var 2) r19) fun y21 => ok [y21]) (ok [])) ds17) fun ys => ok (.lst ys))) fun x15 => cmS .eq x15 (.lst [])))
    (cmS .eq a0 a1)) := semC2 (m := 4) (b := (t__law_same fr)) (pro := []) (dds := []) (as := [.val a0, .val a1]) (b2 := q__law_same f__law_sort fr) (ρ := [.val a0, .val a1, .no, .no]) (by kernel_rfl) (by kernel_rfl) (by kernel_rfl) (by kernel_rfl) (v__law_same f__law_sort fr a0 a1)
def q__law_event (fPick : Fn) : Sts := (.cons (.iff (.or (.cons (.var 2) (.cons (.cmp .eq (.call fPick (.deck 0 (.val (.int 7) .nil))) (.int 0)) .nil))) (.cons (.ret (.tup (.cons (.str (Str.ofString "learn")) (.cons (.call fPick (.deck 0 (.val (.var 1) .nil))) (.cons (.ite (.cmp .gt (.call fPick (.deck 0 (.val (.int 3) .nil))) (.int 0)) (.int 1) (.int 2)) .nil))))) .nil) .nil) (.cons (.set 3 (.comp (.var 4) (.nm 4) (.rng1 (.var 1)) (.some (.cmp .eq (.call fPick (.deck 0 (.val (.int 2) .nil))) (.int 0))) [4])) (.cons (.iff (.cmp .lt (.bi .len (.cons (.var 3) .nil)) (.int 2)) (.cons (.set 4 (.call fPick (.deck 0 (.val (.var 1) .nil)))) (.cons (.set 3 (.bi .sorted (.cons (.lst (.cons (.var 4) (.cons (.op .mod (.op .add (.op .add (.var 4) (.int 1)) (.call fPick (.deck 0 (.val (.op .sub (.var 1) (.int 1)) .nil)))) (.var 1)) .nil))) .nil))) .nil)) .nil) (.cons (.ret (.tup (.cons (.str (Str.ofString "meet")) (.cons (.bi .tuple (.cons
  (.var 3) .nil)) .nil)))) .nil))))
theorem v__law_event (fPick : Fn) (a1 a2 : D) : runC (q__law_event fPick) [.deck, .val a1, .val a2, .no, .no] (fun _ => ok .non) = bnd (bnd (asB a2) fun k4 => ife k4 (ok true) (bnd (bnd (callW fPick [.deck, .val (.int 7)]) fun x3 => cmS .eq x3 (.int 0)) fun x2 => asB x2)) fun c1 => ife c1
    (bnd (callW fPick [.deck, .val a1]) fun x5 => bnd (bnd (bnd (callW fPick [.deck, .val (.int 3)]) fun x8 => cmS .gt x8 (.int 0)) fun x7 => bnd (asB x7) fun k9 => ife k9 (ok (.int 1)) (ok (.int 2))) fun x6 => ok (.tup [(.str (Str.ofString "learn")), x5, x6]))
    (bnd (bnd (bnd (intOf a1) fun j11 => chk (decide (-100000 ≤ j11 ∧ j11 ≤ 100000)) (ok (rngD 0 j11))) fun ds12 => nox (bnd (gatW (fun d13 => bnd (bnd (callW fPick [.deck, .val (.int 2)]) fun x16 => cmS .eq x16 (.int 0)) fun x15 => bnd (asB x15) fun k17 => ife k17 (bnd (ok d13) fun y14 => ok [y14]) (ok [])) ds12) fun ys => ok (.lst ys))) fun x10 => bnd (bnd (bnd (biS .len [x10]) fun x20 => cmS .lt x20 (.int 2)) fun x19 => asB x19) fun c18 => ife c18
    (bnd (callW fPick [.deck, .val a1]) fun x21 => bnd (bnd (bnd (bnd (opS .add x21 (.int 1)) fun x25 => bnd (bnd (opS .sub a1 (.int 1)) fun x27 => callW fPick [.deck, .val x27]) fun x26 => opS .add x25 x26) fun x24 => opS .mod x24 a1) fun x23 => biS .sorted [(.lst [x21, x23])]) fun x22 => bnd (biS .tuple [x22]) fun x28 => ok (.tup [(.str (Str.ofString "meet")), x28]))
    (bnd (biS .tuple [x10]) fun x29 => ok (.tup [(.str (Str.ofString "meet")), x29]))) := by kernel_rfl
theorem u__law_event (a1 a2 : D) : f__law_event.sem [.deck, .val a1, .val a2] = bnd (bnd (asB a2) fun k4 => ife k4 (ok true) (bnd (bnd (callW fPick [.deck, .val (.int 7)]) fun x3 => cmS .eq x3 (.int 0)) fun x2 => asB x2)) fun c1 => ife c1
    (bnd (callW fPick [.deck, .val a1]) fun x5 => bnd (bnd (bnd (callW fPick [.deck, .val (.int 3)]) fun x8 => cmS .gt x8 (.int 0)) fun x7 => bnd (asB x7) fun k9 => ife k9 (ok (.int 1)) (ok (.int 2))) fun x6 => ok (.tup [(.str (Str.ofString "learn")), x5, x6]))
    (bnd (bnd (bnd (intOf a1) fun j11 => chk (decide (-100000 ≤ j11 ∧ j11 ≤ 100000)) (ok (rngD 0 j11))) fun ds12 => nox (bnd (gatW (fun d13 => bnd (bnd (callW fPick [.deck, .val (.int 2)]) fun x16 => cmS .eq x16 (.int 0)) fun x15 => bnd (asB x15) fun k17 => ife k17 (bnd (ok d13) fun y14 => ok [y14]) (ok [])) ds12) fun ys => ok (.lst ys))) fun x10 => bnd (bnd (bnd (biS .len [x10]) fun x20 => cmS .lt x20 (.int 2)) fun x19 => asB x19) fun c18 => ife c18
    (bnd (callW fPick [.deck, .val a1]) fun x21 => bnd (bnd (bnd (bnd (opS .add x21 (.int 1)) fun x25 => bnd (bnd (opS .sub a1 (.int 1)) fun x27 => callW fPick [.deck, .val x27]) fun x26 => opS .add x25 x26) fun x24 => opS .mod x24 a1) fun x23 => biS .sorted [(.lst [x21, x23])]) fun x22 => bnd (biS .tuple [x22]) fun x28 => ok (.tup [(.str (Str.ofString "meet")), x28]))
    (bnd (biS .tuple [x10]) fun x29 => ok (.tup [(.str (Str.ofString "meet")), x29]))) := semC2 (m := 5) (b := t__law_event) (pro := [0]) (dds := []) (as := [.deck, .val a1, .val a2]) (b2 := q__law_event fPick) (ρ := [.deck, .val a1, .val a2, .no, .no]) (by kernel_rfl) (by kernel_rfl) (by kernel_rfl) (by kernel_rfl) (v__law_event fPick a1 a2)
def q__law_end (f__law_one : Fn) : Sts := (.cons (.ret (.call f__law_one (.deck 0 (.val (.lst (.cons (.int 0) (.cons (.int 0) (.cons (.int 1) (.cons (.int 1) (.cons (.int 2) (.cons (.neg (.int 1)) (.cons (.int 3) (.cons (.var 1) .nil))))))))) .nil)))) .nil)
theorem v__law_end (f__law_one : Fn) (a1 : D) : runC (q__law_end f__law_one) [.deck, .val a1] (fun _ => ok .non) = bnd (bnd (intOf (.int 1)) fun i2 => ok (.int (-i2))) fun x1 => callW f__law_one [.deck, .val (.lst [(.int 0), (.int 0), (.int 1), (.int 1), (.int 2), x1, (.int 3), a1])] := by kernel_rfl
theorem u__law_end (a1 : D) : f__law_end.sem [.deck, .val a1] = bnd (bnd (intOf (.int 1)) fun i2 => ok (.int (-i2))) fun x1 => callW f__law_one [.deck, .val (.lst [(.int 0), (.int 0), (.int 1), (.int 1), (.int 2), x1, (.int 3), a1])] := semC2 (m := 2) (b := t__law_end) (pro := [0]) (dds := []) (as := [.deck, .val a1]) (b2 := q__law_end f__law_one) (ρ := [.deck, .val a1]) (by kernel_rfl) (by kernel_rfl) (by kernel_rfl) (by kernel_rfl) (v__law_end f__law_one a1)
def q__law_fact (f__law_end f__law_one fPick : Fn) : Sts := (.cons (.set 3 (.call fPick (.deck 0 (.val (.var 1) .nil)))) (.cons (.set 4 (.op .mod (.op .add (.op .add (.var 3) (.int 1)) (.call fPick (.deck 0 (.val (.op .sub (.var 1) (.int 1)) .nil)))) (.var 1))) (.cons (.set 5 (.call f__law_one (.deck 0 (.val (.lst (.cons .non (.cons (.call f__law_end (.deck 0 (.val (.var 2) .nil))) (.cons (.call f__law_end (.deck 0 (.val (.var 2) .nil))) .nil)))) .nil)))) (.cons (.iff (.cmp .isN (.var 5) .non) (.cons (.ret (.tup (.cons (.var 3) (.cons (.var 4) (.cons .non (.cons (.call f__law_end (.deck 0 (.val (.var 2) .nil))) .nil)))))) .nil) .nil) (.cons (.ret (.tup (.cons (.var 3) (.cons (.var 4) (.cons (.var 5) (.cons (.call f__law_one (.deck 0 (.val (.lst (.cons .non (.cons .non (.cons (.bi .min2 (.cons (.op .pow (.int 10) (.int 30)) (.cons (.op .add (.var 5) (.call fPick (.deck 0 (.val (.int 3) .nil)))) .nil))) .nil)))) .nil))) .nil)))))) .nil)))))
theorem v__law_fact (f__law_end f__law_one fPick : Fn) (a1 a2 : D) : runC (q__law_fact f__law_end f__law_one fPick) [.deck, .val a1, .val a2, .no, .no, .no] (fun _ => ok .non) = bnd (callW fPick [.deck, .val a1]) fun x1 => bnd (bnd (bnd (opS .add x1 (.int 1)) fun x4 => bnd (bnd (opS .sub a1 (.int 1)) fun x6 => callW fPick [.deck, .val x6]) fun x5 => opS .add x4 x5) fun x3 => opS .mod x3 a1) fun x2 => bnd (bnd (callW f__law_end [.deck, .val a2]) fun x8 => bnd (callW f__law_end [.deck, .val a2]) fun x9 => callW f__law_one [.deck, .val (.lst [.non, x8, x9])]) fun x7 => bnd (bnd (cmS .isN x7 .non) fun x11 => asB x11) fun c10 => ife c10
    (bnd (callW f__law_end [.deck, .val a2]) fun x12 => ok (.tup [x1, x2, .non, x12]))
    (bnd (bnd (bnd (opS .pow (.int 10) (.int 30)) fun x15 => bnd (bnd (callW fPick [.deck, .val (.int 3)]) fun x17 => opS .add x7 x17) fun x16 => biS .min2 [x15, x16]) fun x14 => callW f__law_one [.deck, .val (.lst [.non, .non, x14])]) fun x13 => ok (.tup [x1, x2, x7, x13])) := by kernel_rfl
theorem u__law_fact (a1 a2 : D) : f__law_fact.sem [.deck, .val a1, .val a2] = bnd (callW fPick [.deck, .val a1]) fun x1 => bnd (bnd (bnd (opS .add x1 (.int 1)) fun x4 => bnd (bnd (opS .sub a1 (.int 1)) fun x6 => callW fPick [.deck, .val x6]) fun x5 => opS .add x4 x5) fun x3 => opS .mod x3 a1) fun x2 => bnd (bnd (callW f__law_end [.deck, .val a2]) fun x8 => bnd (callW f__law_end [.deck, .val a2]) fun x9 => callW f__law_one [.deck, .val (.lst [.non, x8, x9])]) fun x7 => bnd (bnd (cmS .isN x7 .non) fun x11 => asB x11) fun c10 => ife c10
    (bnd (callW f__law_end [.deck, .val a2]) fun x12 => ok (.tup [x1, x2, .non, x12]))
    (bnd (bnd (bnd (opS .pow (.int 10) (.int 30)) fun x15 => bnd (bnd (callW fPick [.deck, .val (.int 3)]) fun x17 => opS .add x7 x17) fun x16 => biS .min2 [x15, x16]) fun x14 => callW f__law_one [.deck, .val (.lst [.non, .non, x14])]) fun x13 => ok (.tup [x1, x2, x7, x13])) := semC2 (m := 6) (b := t__law_fact) (pro := [0]) (dds := []) (as := [.deck, .val a1, .val a2]) (b2 := q__law_fact f__law_end f__law_one fPick) (ρ := [.deck, .val a1, .val a2, .no, .no, .no]) (by kernel_rfl) (by kernel_rfl) (by kernel_rfl) (by kernel_rfl) (v__law_fact f__law_end f__law_one fPick a1 a2)
def p__law_steps_0 : Sts := (.cons (.iff (.cmp .notN (.var 4) .non) (.cons (.app 1 (.tup (.cons (.var 2) (.cons (.var 3) (.cons (.var 4) .nil))))) .nil) .nil) (.cons (.iff (.cmp .notN (.var 5) .non) (.cons (.app 1 (.tup (.cons (.var 3) (.cons (.var 2) (.cons (.neg (.var 5)) .nil))))) .nil) .nil) .nil))
def p__law_steps_1 : Sts := (.cons (.freeze 1) (.cons (.ret (.var 1)) .nil))
def p__law_steps_2 : Sts := (.cons (.iff (.cmp .notN (.var 5) .non) (.cons (.app 1 (.tup (.cons (.var 3) (.cons (.var 2) (.cons (.neg (.var 5)) .nil))))) .nil) .nil) .nil)
-- p__law_steps_0
theorem w__law_steps_0 (s0 : D) (s1 : List D) (s2 : D) (s3 : D) (s4 : D) (s5 : D) (k' : Ev → W D) : runC (p__law_steps_0) [.val s0, .own s1, .val s2, .val s3, .val s4, .val s5] k' = bnd (bnd (cmS .notN s4 .non) fun x4 => asB x4) fun c3 => ife c3
    (fin (chk (decide (((s1) : List D).length < lim)) (ok (.nx [.val s0, .own (s1 ++ [(.tup [s2, s3, s4])]), .val s2, .val s3, .val s4, .val s5]))) fun ρ5 => runC .nil ρ5 (fun ρo => runC p__law_steps_2 ρo (k')))
    (bnd (bnd (cmS .notN s5 .non) fun x7 => asB x7) fun c6 => ife c6
    (bnd (bnd (intOf s5) fun i9 => ok (.int (-i9))) fun x8 => fin (chk (decide (((s1) : List D).length < lim)) (ok (.nx [.val s0, .own (s1 ++ [(.tup [s3, s2, x8])]), .val s2, .val s3, .val s4, .val s5]))) fun ρ10 => runC .nil ρ10 (fun ρo => runC .nil ρo (k')))
    (k' [.val s0, .own s1, .val s2, .val s3, .val s4, .val s5])) := by kernel_rfl
-- p__law_steps_1
theorem w__law_steps_1 (s0 : D) (s1 : List D) (s2 : Sl) (s3 : Sl) (s4 : Sl) (s5 : Sl) (k' : Ev → W D) : runC (p__law_steps_1) [.val s0, .own s1, s2, s3, s4, s5] k' = ok (.lst s1) := by kernel_rfl
-- p__law_steps_2
theorem w__law_steps_2 (s0 : D) (s1 : List D) (s2 : D) (s3 : D) (s4 : D) (s5 : D) (k' : Ev → W D) : runC (p__law_steps_2) [.val s0, .own s1, .val s2, .val s3, .val s4, .val s5] k' = bnd (bnd (cmS .notN s5 .non) fun x12 => asB x12) fun c11 => ife c11
    (bnd (bnd (intOf s5) fun i14 => ok (.int (-i14))) fun x13 => fin (chk (decide (((s1) : List D).length < lim)) (ok (.nx [.val s0, .own (s1 ++ [(.tup [s3, s2, x13])]), .val s2, .val s3, .val s4, .val s5]))) fun ρ15 => runC .nil ρ15 (fun ρo => runC .nil ρo (k')))
    (k' [.val s0, .own s1, .val s2, .val s3, .val s4, .val s5]) := by kernel_rfl
theorem u__law_steps (a0 : D) : f__law_steps.sem [.val a0] = bnd (itemsD a0) fun ds1 => forK (.tup (.cons (.nm 2) (.cons (.nm 3) (.cons (.nm 4) (.cons (.nm 5) .nil))))) (fun ρ' k' => runC p__law_steps_0 ρ' k') ds1 [.val a0, .own [], .no, .no, .no, .no] fun ρ2 => runC p__law_steps_1 ρ2 fun _ => ok .non := semC2 (m := 6) (b := t__law_steps) (pro := []) (dds := []) (as := [.val a0]) (b2 := t__law_steps) (ρ := [.val a0, .no, .no, .no, .no, .no]) (by kernel_rfl) (by kernel_rfl) (by kernel_rfl) (by kernel_rfl) (by kernel_rfl)
def p__law_early_0 (f__law_steps : Fn) : Sts := (.cons (.for_ (.nm 4) (.rng1 (.op .add (.bi .len (.cons (.ix (.var 0) (.int 1)) .nil)) (.int 2))) (.cons (.set 5 (.bl true)) (.cons (.for_ (.tup (.cons (.nm 6) (.cons (.nm 7) (.cons (.nm 8) .nil)))) (.seq (.var 2)) (.cons (.iff (.cmp .lt (.ix (.own 3) (.var 7)) (.op .add (.ix (.own 3) (.var 6)) (.var 8))) (.cons (.par (.cons (.ix 3 (.var 7)) (.cons (.nm 5) .nil)) (.cons (.op .add (.ix (.own 3) (.var 6)) (.var 8)) (.cons (.bl false) .nil))) .nil) .nil) .nil)) (.cons (.iff (.var 5) (.cons (.freeze 3) (.cons (.ret (.var 3)) .nil)) .nil) .nil)))) (.cons (.ret .non) .nil))
def p__law_early_1 (f__law_steps : Fn) : Sts := (.cons (.set 5 (.bl true)) (.cons (.for_ (.tup (.cons (.nm 6) (.cons (.nm 7) (.cons (.nm 8) .nil)))) (.seq (.var 2)) (.cons (.iff (.cmp .lt (.ix (.own 3) (.var 7)) (.op .add (.ix (.own 3) (.var 6)) (.var 8))) (.cons (.par (.cons (.ix 3 (.var 7)) (.cons (.nm 5) .nil)) (.cons (.op .add (.ix (.own 3) (.var 6)) (.var 8)) (.cons (.bl false) .nil))) .nil) .nil) .nil)) (.cons (.iff (.var 5) (.cons (.freeze 3) (.cons (.ret (.var 3)) .nil)) .nil) .nil)))
def p__law_early_2 (f__law_steps : Fn) : Sts := (.cons (.ret .non) .nil)
def p__law_early_3 (f__law_steps : Fn) : Sts := (.cons (.iff (.cmp .lt (.ix (.own 3) (.var 7)) (.op .add (.ix (.own 3) (.var 6)) (.var 8))) (.cons (.par (.cons (.ix 3 (.var 7)) (.cons (.nm 5) .nil)) (.cons (.op .add (.ix (.own 3) (.var 6)) (.var 8)) (.cons (.bl false) .nil))) .nil) .nil) .nil)
def p__law_early_4 (f__law_steps : Fn) : Sts := (.cons (.iff (.var 5) (.cons (.freeze 3) (.cons (.ret (.var 3)) .nil)) .nil) .nil)
-- p__law_early_0
theorem w__law_early_0 (f__law_steps : Fn) (s0 : D) (s1 : D) (s2 : D) (s3 : List D) (s4 : Sl) (s5 : Sl) (s6 : Sl) (s7 : Sl) (s8 : Sl) (k' : Ev → W D) : runC (p__law_early_0 f__law_steps) [.val s0, .val s1, .val s2, .own s3, s4, s5, s6, s7, s8] k' = bnd (bnd (bnd (ixS s0 (.int 1)) fun x11 => biS .len [x11]) fun x10 => opS .add x10 (.int 2)) fun x9 => bnd (bnd (intOf x9) fun j12 => chk (decide (-100000 ≤ j12 ∧ j12 ≤ 100000)) (ok (rngD 0 j12))) fun ds13 => forK (.nm 4) (fun ρ' k' => runC (p__law_early_1 f__law_steps) ρ' k') ds13 [.val s0, .val s1, .val s2, .own s3, s4, s5, s6, s7, s8] fun ρ14 => runC (p__law_early_2 f__law_steps) ρ14 k' := by kernel_rfl
-- p__law_early_1
theorem w__law_early_1 (f__law_steps : Fn) (s0 : D) (s1 : D) (s2 : D) (s3 : List D) (s4 : D) (s5 : Sl) (s6 : Sl) (s7 : Sl) (s8 : Sl) (k' : Ev → W D) : runC (p__law_early_1 f__law_steps) [.val s0, .val s1, .val s2, .own s3, .val s4, s5, s6, s7, s8] k' = bnd (itemsD s2) fun ds15 => forK (.tup (.cons (.nm 6) (.cons (.nm 7) (.cons (.nm 8) .nil)))) (fun ρ' k' => runC (p__law_early_3 f__law_steps) ρ' k') ds15 [.val s0, .val s1, .val s2, .own s3, .val s4, .val (.bl true), s6, s7, s8] fun ρ16 => runC (p__law_early_4 f__law_steps) ρ16 k' := by kernel_rfl
-- p__law_early_2
theorem w__law_early_2 (f__law_steps : Fn) (s0 : D) (s1 : D) (s2 : D) (s3 : List D) (s4 : Sl) (s5 : Sl) (s6 : Sl) (s7 : Sl) (s8 : Sl) (k' : Ev → W D) : runC (p__law_early_2 f__law_steps) [.val s0, .val s1, .val s2, .own s3, s4, s5, s6, s7, s8] k' = ok .non := by kernel_rfl
-- p__law_early_3
theorem w__law_early_3 (f__law_steps : Fn) (s0 : D) (s1 : D) (s2 : D) (s3 : List D) (s4 : D) (s5 : D) (s6 : D) (s7 : D) (s8 : D) (k' : Ev → W D) : runC (p__law_early_3 f__law_steps) [.val s0, .val s1, .val s2, .own s3, .val s4, .val s5, .val s6, .val s7, .val s8] k' = bnd (bnd (bnd (bnd (ok (.lst s3)) fun x20 => ixS x20 s7) fun x19 => bnd (bnd (bnd (ok (.lst s3)) fun x23 => ixS x23 s6) fun x22 => opS .add x22 s8) fun x21 => cmS .lt x19 x21) fun x18 => asB x18) fun c17 => ife c17
    (bnd (bnd (bnd (ok (.lst s3)) fun x26 => ixS x26 s6) fun x25 => opS .add x25 s8) fun x24 => fin (bnd (bnd (intOf s7) fun j27 => chk (decide (0 ≤ j27 ∧ j27 < (s3).length)) (ok [.val s0, .val s1, .val s2, .own (s3.set j27.toNat x24), .val s4, .val (.bl false), .val s6, .val s7, .val s8])) fun ρq => ok (.nx ρq)) fun ρ28 => runC .nil ρ28 (fun ρo => runC .nil ρo (k')))
    (k' [.val s0, .val s1, .val s2, .own s3, .val s4, .val s5, .val s6, .val s7, .val s8]) := by kernel_rfl
-- p__law_early_4
theorem w__law_early_4 (f__law_steps : Fn) (s0 : D) (s1 : D) (s2 : D) (s3 : List D) (s4 : D) (s5 : D) (s6 : Sl) (s7 : Sl) (s8 : Sl) (k' : Ev → W D) : runC (p__law_early_4 f__law_steps) [.val s0, .val s1, .val s2, .own s3, .val s4, .val s5, s6, s7, s8] k' = bnd (asB s5) fun c29 => ife c29
    (ok (.lst s3))
    (k' [.val s0, .val s1, .val s2, .own s3, .val s4, .val s5, s6, s7, s8]) := by kernel_rfl
def q__law_early (f__law_steps : Fn) : Sts := (.cons (.par (.cons (.nm 2) (.cons (.ow 3) .nil)) (.cons (.op .add (.call f__law_steps (.val (.ix (.var 0) (.int 2)) .nil)) (.bi .list (.cons (.var 1) .nil))) (.cons (.op .mul (.lst (.cons (.int 0) .nil)) (.bi .len (.cons (.ix (.var 0) (.int 1)) .nil))) .nil))) (.cons (.for_ (.nm 4) (.rng1 (.op .add (.bi .len (.cons (.ix (.var 0) (.int 1)) .nil)) (.int 2))) (.cons (.set 5 (.bl true)) (.cons (.for_ (.tup (.cons (.nm 6) (.cons (.nm 7) (.cons (.nm 8) .nil)))) (.seq (.var 2)) (.cons (.iff (.cmp .lt (.ix (.own 3) (.var 7)) (.op .add (.ix (.own 3) (.var 6)) (.var 8))) (.cons (.par (.cons (.ix 3 (.var 7)) (.cons (.nm 5) .nil)) (.cons (.op .add (.ix (.own 3) (.var 6)) (.var 8)) (.cons (.bl false) .nil))) .nil) .nil) .nil)) (.cons (.iff (.var 5) (.cons (.freeze 3) (.cons (.ret (.var 3)) .nil)) .nil) .nil)))) (.cons (.ret .non) .nil)))
theorem v__law_early (f__law_steps : Fn) (a0 a1 : D) : runC (q__law_early f__law_steps) [.val a0, .val a1, .no, .no, .no, .no, .no, .no, .no] (fun _ => ok .non) = bnd (bnd (bnd (ixS a0 (.int 2)) fun x3 => callW f__law_steps [.val x3]) fun x2 => bnd (biS .list [a1]) fun x4 => opS .add x2 x4) fun x1 => bnd (bnd (bnd (ixS a0 (.int 1)) fun x7 => biS .len [x7]) fun x6 => opS .mul (.lst [(.int 0)]) x6) fun x5 => fin (bnd (chk (!isNoS (slO x5)) (ok [.val a0, .val a1, .val x1, (slO x5), .no, .no, .no, .no, .no])) fun ρq => ok (.nx ρq)) fun ρ8 => runC (p__law_early_0 f__law_steps) ρ8 fun _ => ok .non := by kernel_rfl
theorem u__law_early (a0 a1 : D) : f__law_early.sem [.val a0, .val a1] = bnd (bnd (bnd (ixS a0 (.int 2)) fun x3 => callW f__law_steps [.val x3]) fun x2 => bnd (biS .list [a1]) fun x4 => opS .add x2 x4) fun x1 => bnd (bnd (bnd (ixS a0 (.int 1)) fun x7 => biS .len [x7]) fun x6 => opS .mul (.lst [(.int 0)]) x6) fun x5 => fin (bnd (chk (!isNoS (slO x5)) (ok [.val a0, .val a1, .val x1, (slO x5), .no, .no, .no, .no, .no])) fun ρq => ok (.nx ρq)) fun ρ8 => runC (p__law_early_0 f__law_steps) ρ8 fun _ => ok .non := semC2 (m := 9) (b := t__law_early) (pro := []) (dds := []) (as := [.val a0, .val a1]) (b2 := q__law_early f__law_steps) (ρ := [.val a0, .val a1, .no, .no, .no, .no, .no, .no, .no]) (by kernel_rfl) (by kernel_rfl) (by kernel_rfl) (by kernel_rfl) (v__law_early f__law_steps a0 a1)
def p__law_story_0 (f__law_early f__law_event f__law_fact fPick : Fn) : Sts := (.cons (.set 9 (.op .add (.var 6) (.tup (.cons (.call f__law_fact (.deck 0 (.val (.var 4) (.val (.var 2) .nil)))) .nil)))) (.cons (.iff (.cmp .notN (.call f__law_early (.val (.tup (.cons (.var 3) (.cons (.var 5) (.cons (.var 9) .nil)))) (.val (.tup .nil) .nil))) .non) (.cons (.set 6 (.var 9)) .nil) .nil) .nil))
def p__law_story_1 (f__law_early f__law_event f__law_fact fPick : Fn) : Sts := (.cons (.ret (.tup (.cons (.var 3) (.cons (.var 5) (.cons (.var 6) .nil))))) .nil)
-- p__law_story_0
theorem w__law_story_0 (f__law_early f__law_event f__law_fact fPick : Fn) (s1 : D) (s2 : D) (s3 : D) (s4 : D) (s5 : D) (s6 : D) (s8 : D) (s9 : Sl) (k' : Ev → W D) : runC (p__law_story_0 f__law_early f__law_event f__law_fact fPick) [.deck, .val s1, .val s2, .val s3, .val s4, .val s5, .val s6, .no, .val s8, s9] k' = bnd (bnd (callW f__law_fact [.deck, .val s4, .val s2]) fun x19 => opS .add s6 (.tup [x19])) fun x18 => bnd (bnd (bnd (callW f__law_early [.val (.tup [s3, s5, x18]), .val (.tup [])]) fun x22 => cmS .notN x22 .non) fun x21 => asB x21) fun c20 => ife c20
    (k' [.deck, .val s1, .val s2, .val s3, .val s4, .val s5, .val x18, .no, .val s8, .val x18])
    (k' [.deck, .val s1, .val s2, .val s3, .val s4, .val s5, .val s6, .no, .val s8, .val x18]) := by kernel_rfl
-- p__law_story_1
theorem w__law_story_1 (f__law_early f__law_event f__law_fact fPick : Fn) (s1 : D) (s2 : D) (s3 : D) (s4 : D) (s5 : D) (s6 : D) (s8 : Sl) (s9 : Sl) (k' : Ev → W D) : runC (p__law_story_1 f__law_early f__law_event f__law_fact fPick) [.deck, .val s1, .val s2, .val s3, .val s4, .val s5, .val s6, .no, s8, s9] k' = ok (.tup [s3, s5, s6]) := by kernel_rfl
def q__law_story (f__law_early f__law_event f__law_fact fPick : Fn) : Sts := (.cons (.par (.cons (.nm 3) (.cons (.nm 4) .nil)) (.cons (.op .add (.int 2) (.call fPick (.deck 0 (.val (.int 4) .nil)))) (.cons (.op .add (.int 1) (.call fPick (.deck 0 (.val (.var 1) .nil)))) .nil))) (.cons (.par (.cons (.nm 5) (.cons (.nm 6) .nil)) (.cons (.bi .tuple (.cons (.comp (.call f__law_event (.deck 0 (.val (.var 3) (.val (.cmp .eq (.var 7) (.int 0)) .nil)))) (.nm 7) (.rng1 (.var 4)) .none [7]) .nil)) (.cons (.tup .nil) .nil))) (.cons (.for_ (.nm 8) (.rng1 (.ite (.cmp .gt (.var 4) (.int 1)) (.call fPick (.deck 0 (.val (.int 5) .nil))) (.int 0))) (.cons (.set 9 (.op .add (.var 6) (.tup (.cons (.call f__law_fact (.deck 0 (.val (.var 4) (.val (.var 2) .nil)))) .nil)))) (.cons (.iff (.cmp .notN (.call f__law_early (.val (.tup (.cons (.var 3) (.cons (.var 5) (.cons (.var 9) .nil)))) (.val (.tup .nil) .nil))) .non) (.cons (.set 6 (.var 9)) .nil) .nil) .nil))) (.cons (.ret (.tup
  (.cons (.var 3) (.cons (.var 5) (.cons (.var 6) .nil))))) .nil))))
theorem v__law_story (f__law_early f__law_event f__law_fact fPick : Fn) (a1 a2 : D) : runC (q__law_story f__law_early f__law_event f__law_fact fPick) [.deck, .val a1, .val a2, .no, .no, .no, .no, .no, .no, .no] (fun _ => ok .non) = bnd (bnd (callW fPick [.deck, .val (.int 4)]) fun x2 => opS .add (.int 2) x2) fun x1 => bnd (bnd (callW fPick [.deck, .val a1]) fun x4 => opS .add (.int 1) x4) fun x3 => bnd (bnd (bnd (bnd (intOf x3) fun j7 => chk (decide (-100000 ≤ j7 ∧ j7 ≤ 100000)) (ok (rngD 0 j7))) fun ds8 => nox (bnd (gatW (fun d9 => bnd (bnd (cmS .eq d9 (.int 0)) fun x10 => callW f__law_event [.deck, .val x1, .val x10]) fun y11 => ok [y11]) ds8) fun ys => ok (.lst ys))) fun x6 => biS .tuple [x6]) fun x5 => bnd (bnd (cmS .gt x3 (.int 1)) fun x13 => bnd (asB x13) fun k14 => ife k14 (callW fPick [.deck, .val (.int 5)]) (ok (.int 0))) fun x12 => bnd (bnd (intOf x12) fun j15 => chk (decide (-100000 ≤ j15 ∧ j15 ≤ 100000)) (ok (rngD 0 j15))) fun ds16 => forK (.nm 8) (fun ρ' k' => runC (p__law_story_0 f__law_early f__law_event f__law_fact fPick) ρ' k') ds16 [.deck, .val a1, .val a2, .val x1, .val x3, .val x5, .val (.tup []), .no, .no, .no] fun ρ17 => runC (p__law_story_1 f__law_early f__law_event f__law_fact fPick) ρ17 fun _ => ok .non := by kernel_rfl
theorem u__law_story (a1 a2 : D) : f__law_story.sem [.deck, .val a1, .val a2] = bnd (bnd (callW fPick [.deck, .val (.int 4)]) fun x2 => opS .add (.int 2) x2) fun x1 => bnd (bnd (callW fPick [.deck, .val a1]) fun x4 => opS .add (.int 1) x4) fun x3 => bnd (bnd (bnd (bnd (intOf x3) fun j7 => chk (decide (-100000 ≤ j7 ∧ j7 ≤ 100000)) (ok (rngD 0 j7))) fun ds8 => nox (bnd (gatW (fun d9 => bnd (bnd (cmS .eq d9 (.int 0)) fun x10 => callW f__law_event [.deck, .val x1, .val x10]) fun y11 => ok [y11]) ds8) fun ys => ok (.lst ys))) fun x6 => biS .tuple [x6]) fun x5 => bnd (bnd (cmS .gt x3 (.int 1)) fun x13 => bnd (asB x13) fun k14 => ife k14 (callW fPick [.deck, .val (.int 5)]) (ok (.int 0))) fun x12 => bnd (bnd (intOf x12) fun j15 => chk (decide (-100000 ≤ j15 ∧ j15 ≤ 100000)) (ok (rngD 0 j15))) fun ds16 => forK (.nm 8) (fun ρ' k' => runC (p__law_story_0 f__law_early f__law_event f__law_fact fPick) ρ' k') ds16 [.deck, .val a1, .val a2, .val x1, .val x3, .val x5, .val (.tup []), .no, .no, .no] fun ρ17 => runC (p__law_story_1 f__law_early f__law_event f__law_fact fPick) ρ17 fun _ => ok .non := semC2 (m := 10) (b := t__law_story) (pro := [0]) (dds := []) (as := [.deck, .val a1, .val a2]) (b2 := q__law_story f__law_early f__law_event f__law_fact fPick) (ρ := [.deck, .val a1, .val a2, .no, .no, .no, .no, .no, .no, .no]) (by kernel_rfl) (by kernel_rfl) (by kernel_rfl) (by kernel_rfl) (v__law_story f__law_early f__law_event f__law_fact fPick a1 a2)
def p__law_keeps_0 : Sts := (.cons (.set 6 (.op .sub (.ix (.var 0) (.var 3)) (.ix (.var 0) (.var 2)))) (.cons (.iff (.or (.cons (.and (.cons (.cmp .notN (.var 4) .non) (.cons (.cmp .lt (.var 6) (.var 4)) .nil))) (.cons (.and (.cons (.cmp .notN (.var 5) .non) (.cons (.cmp .gt (.var 6) (.var 5)) .nil))) .nil))) (.cons (.ret (.bl false)) .nil) .nil) .nil))
def p__law_keeps_1 : Sts := (.cons (.ret (.bl true)) .nil)
-- p__law_keeps_0
theorem w__law_keeps_0 (s0 : D) (s1 : D) (s2 : D) (s3 : D) (s4 : D) (s5 : D) (s6 : Sl) (k' : Ev → W D) : runC (p__law_keeps_0) [.val s0, .val s1, .val s2, .val s3, .val s4, .val s5, s6] k' = bnd (bnd (ixS s0 s3) fun x4 => bnd (ixS s0 s2) fun x5 => opS .sub x4 x5) fun x3 => bnd (bnd (bnd (bnd (cmS .notN s4 .non) fun x13 => asB x13) fun k12 => ife k12 (bnd (cmS .lt x3 s4) fun x11 => asB x11) (ok false)) fun k10 => ife k10 (ok true) (bnd (bnd (cmS .notN s5 .non) fun x9 => asB x9) fun k8 => ife k8 (bnd (cmS .gt x3 s5) fun x7 => asB x7) (ok false))) fun c6 => ife c6
    (ok (.bl false))
    (k' [.val s0, .val s1, .val s2, .val s3, .val s4, .val s5, .val x3]) := by kernel_rfl
-- p__law_keeps_1
theorem w__law_keeps_1 (s0 : D) (s1 : D) (s2 : Sl) (s3 : Sl) (s4 : Sl) (s5 : Sl) (s6 : Sl) (k' : Ev → W D) : runC (p__law_keeps_1) [.val s0, .val s1, s2, s3, s4, s5, s6] k' = ok (.bl true) := by kernel_rfl
theorem u__law_keeps (a0 a1 : D) : f__law_keeps.sem [.val a0, .val a1] = bnd (itemsD a1) fun ds1 => forK (.tup (.cons (.nm 2) (.cons (.nm 3) (.cons (.nm 4) (.cons (.nm 5) .nil))))) (fun ρ' k' => runC p__law_keeps_0 ρ' k') ds1 [.val a0, .val a1, .no, .no, .no, .no, .no] fun ρ2 => runC p__law_keeps_1 ρ2 fun _ => ok .non := semC2 (m := 7) (b := t__law_keeps) (pro := []) (dds := []) (as := [.val a0, .val a1]) (b2 := t__law_keeps) (ρ := [.val a0, .val a1, .no, .no, .no, .no, .no]) (by kernel_rfl) (by kernel_rfl) (by kernel_rfl) (by kernel_rfl) (by kernel_rfl)
def q__law_number (f__law_whole : Fn) : Sts := (.cons (.ret (.and (.cons (.call f__law_whole (.val (.var 0) .nil)) (.cons (.chain .le .le (.var 1) (.var 0) (.var 2)) .nil)))) .nil)
theorem v__law_number (f__law_whole : Fn) (a0 a1 a2 : D) : runC (q__law_number f__law_whole) [.val a0, .val a1, .val a2] (fun _ => ok .non) = bnd (callW f__law_whole [.val a0]) fun x3 => bnd (asB x3) fun k4 => ife k4 (bnd (cmS .le a1 a0) fun d1 => bnd (asB d1) fun k2 => ife k2 (cmS .le a0 a2) (ok (.bl false))) (ok (.bl false)) := by kernel_rfl
theorem u__law_number (a0 a1 a2 : D) : f__law_number.sem [.val a0, .val a1, .val a2] = bnd (callW f__law_whole [.val a0]) fun x3 => bnd (asB x3) fun k4 => ife k4 (bnd (cmS .le a1 a0) fun d1 => bnd (asB d1) fun k2 => ife k2 (cmS .le a0 a2) (ok (.bl false))) (ok (.bl false)) := semC2 (m := 3) (b := t__law_number) (pro := []) (dds := []) (as := [.val a0, .val a1, .val a2]) (b2 := q__law_number f__law_whole) (ρ := [.val a0, .val a1, .val a2]) (by kernel_rfl) (by kernel_rfl) (by kernel_rfl) (by kernel_rfl) (v__law_number f__law_whole a0 a1 a2)
def q__law_is_event (f__law_number : Fn) : Sts := (.cons (.iff (.or (.cons (.not (.bi .isTup (.cons (.var 1) .nil))) (.cons (.cmp .nin (.bi .len (.cons (.var 1) .nil)) (.lst (.cons (.int 2) (.cons (.int 3) .nil)))) (.cons (.not (.bi .isStr (.cons (.ix (.var 1) (.int 0)) .nil))) .nil)))) (.cons (.ret (.bl false)) .nil) .nil) (.cons (.iff (.cmp .eq (.ix (.var 1) (.int 0)) (.str (Str.ofString "learn"))) (.cons (.iff (.or (.cons (.cmp .ne (.bi .len (.cons (.var 1) .nil)) (.int 3)) (.cons (.not (.call f__law_number (.val (.ix (.var 1) (.int 1)) (.val (.int 0) (.val (.op .sub (.var 0) (.int 1)) .nil))))) .nil))) (.cons (.ret (.bl false)) .nil) .nil) (.cons (.ret (.call f__law_number (.val (.ix (.var 1) (.int 2)) (.val (.int 1) (.val (.int 2) .nil))))) .nil)) .nil) (.cons (.iff (.or (.cons (.cmp .ne (.ix (.var 1) (.int 0)) (.str (Str.ofString "meet"))) (.cons (.cmp .ne (.bi .len (.cons (.var 1) .nil)) (.int 2)) (.cons (.not (.bi .isTup (.cons
  (.ix (.var 1) (.int 1)) .nil))) .nil)))) (.cons (.ret (.bl false)) .nil) .nil) (.cons (.iff (.not (.chain .le .le (.int 2) (.bi .len (.cons (.ix (.var 1) (.int 1)) .nil)) (.var 0))) (.cons (.ret (.bl false)) .nil) .nil) (.cons (.iff (.cmp .ne (.comp (.var 2) (.nm 2) (.seq (.ix (.var 1) (.int 1))) (.some (.not (.call f__law_number (.val (.var 2) (.val (.int 0) (.val (.op .sub (.var 0) (.int 1)) .nil)))))) [2]) (.lst .nil)) (.cons (.ret (.bl false)) .nil) .nil) (.cons (.ret (.cmp .eq (.bi .list (.cons (.ix (.var 1) (.int 1)) .nil)) (.bi .sortedSet (.cons (.ix (.var 1) (.int 1)) .nil)))) .nil))))))
theorem v__law_is_event (f__law_number : Fn) (a0 a1 : D) : runC (q__law_is_event f__law_number) [.val a0, .val a1, .no] (fun _ => ok .non) = bnd (bnd (bnd (bnd (biS .isTup [a1]) fun x10 => asB x10) fun k9 => ok (!k9)) fun k8 => ife k8 (ok true) (bnd (bnd (bnd (biS .len [a1]) fun x7 => cmS .nin x7 (.lst [(.int 2), (.int 3)])) fun x6 => asB x6) fun k5 => ife k5 (ok true) (bnd (bnd (bnd (ixS a1 (.int 0)) fun x4 => biS .isStr [x4]) fun x3 => asB x3) fun k2 => ok (!k2)))) fun c1 => ife c1
    (ok (.bl false))
    (bnd (bnd (bnd (ixS a1 (.int 0)) fun x13 => cmS .eq x13 (.str (Str.ofString "learn"))) fun x12 => asB x12) fun c11 => ife c11
    (bnd (bnd (bnd (bnd (biS .len [a1]) fun x21 => cmS .ne x21 (.int 3)) fun x20 => asB x20) fun k19 => ife k19 (ok true) (bnd (bnd (bnd (ixS a1 (.int 1)) fun x17 => bnd (opS .sub a0 (.int 1)) fun x18 => callW f__law_number [.val x17, .val (.int 0), .val x18]) fun x16 => asB x16) fun k15 => ok (!k15))) fun c14 => ife c14
      (ok (.bl false))
      (bnd (ixS a1 (.int 2)) fun x22 => callW f__law_number [.val x22, .val (.int 1), .val (.int 2)]))
    (bnd (bnd (bnd (bnd (ixS a1 (.int 0)) fun x32 => cmS .ne x32 (.str (Str.ofString "meet"))) fun x31 => asB x31) fun k30 => ife k30 (ok true) (bnd (bnd (bnd (biS .len [a1]) fun x29 => cmS .ne x29 (.int 2)) fun x28 => asB x28) fun k27 => ife k27 (ok true) (bnd (bnd (bnd (ixS a1 (.int 1)) fun x26 => biS .isTup [x26]) fun x25 => asB x25) fun k24 => ok (!k24)))) fun c23 => ife c23
    (ok (.bl false))
    (bnd (bnd (bnd (bnd (bnd (ixS a1 (.int 1)) fun x37 => biS .len [x37]) fun x36 => bnd (cmS .le (.int 2) x36) fun d38 => bnd (asB d38) fun k39 => ife k39 (cmS .le x36 a0) (ok (.bl false))) fun x35 => asB x35) fun k34 => ok (!k34)) fun c33 => ife c33
    (ok (.bl false))
    (bnd (bnd (bnd (bnd (ixS a1 (.int 1)) fun x43 => bnd (itemsD x43) fun ds44 => nox (bnd (gatW (fun d45 => bnd (bnd (bnd (opS .sub a0 (.int 1)) fun x49 => callW f__law_number [.val d45, .val (.int 0), .val x49]) fun x48 => bnd (asB x48) fun k50 => ok (.bl (!k50))) fun x47 => bnd (asB x47) fun k51 => ife k51 (bnd (ok d45) fun y46 => ok [y46]) (ok [])) ds44) fun ys => ok (.lst ys))) fun x42 => cmS .ne x42 (.lst [])) fun x41 => asB x41) fun c40 => ife c40
    (ok (.bl false))
    (bnd (bnd (ixS a1 (.int 1)) fun x53 => biS .list [x53]) fun x52 => bnd (bnd (ixS a1 (.int 1)) fun x55 => biS .sortedSet [x55]) fun x54 => cmS .eq x52 x54))))) := by kernel_rfl
theorem u__law_is_event (a0 a1 : D) : f__law_is_event.sem [.val a0, .val a1] = bnd (bnd (bnd (bnd (biS .isTup [a1]) fun x10 => asB x10) fun k9 => ok (!k9)) fun k8 => ife k8 (ok true) (bnd (bnd (bnd (biS .len [a1]) fun x7 => cmS .nin x7 (.lst [(.int 2), (.int 3)])) fun x6 => asB x6) fun k5 => ife k5 (ok true) (bnd (bnd (bnd (ixS a1 (.int 0)) fun x4 => biS .isStr [x4]) fun x3 => asB x3) fun k2 => ok (!k2)))) fun c1 => ife c1
    (ok (.bl false))
    (bnd (bnd (bnd (ixS a1 (.int 0)) fun x13 => cmS .eq x13 (.str (Str.ofString "learn"))) fun x12 => asB x12) fun c11 => ife c11
    (bnd (bnd (bnd (bnd (biS .len [a1]) fun x21 => cmS .ne x21 (.int 3)) fun x20 => asB x20) fun k19 => ife k19 (ok true) (bnd (bnd (bnd (ixS a1 (.int 1)) fun x17 => bnd (opS .sub a0 (.int 1)) fun x18 => callW f__law_number [.val x17, .val (.int 0), .val x18]) fun x16 => asB x16) fun k15 => ok (!k15))) fun c14 => ife c14
      (ok (.bl false))
      (bnd (ixS a1 (.int 2)) fun x22 => callW f__law_number [.val x22, .val (.int 1), .val (.int 2)]))
    (bnd (bnd (bnd (bnd (ixS a1 (.int 0)) fun x32 => cmS .ne x32 (.str (Str.ofString "meet"))) fun x31 => asB x31) fun k30 => ife k30 (ok true) (bnd (bnd (bnd (biS .len [a1]) fun x29 => cmS .ne x29 (.int 2)) fun x28 => asB x28) fun k27 => ife k27 (ok true) (bnd (bnd (bnd (ixS a1 (.int 1)) fun x26 => biS .isTup [x26]) fun x25 => asB x25) fun k24 => ok (!k24)))) fun c23 => ife c23
    (ok (.bl false))
    (bnd (bnd (bnd (bnd (bnd (ixS a1 (.int 1)) fun x37 => biS .len [x37]) fun x36 => bnd (cmS .le (.int 2) x36) fun d38 => bnd (asB d38) fun k39 => ife k39 (cmS .le x36 a0) (ok (.bl false))) fun x35 => asB x35) fun k34 => ok (!k34)) fun c33 => ife c33
    (ok (.bl false))
    (bnd (bnd (bnd (bnd (ixS a1 (.int 1)) fun x43 => bnd (itemsD x43) fun ds44 => nox (bnd (gatW (fun d45 => bnd (bnd (bnd (opS .sub a0 (.int 1)) fun x49 => callW f__law_number [.val d45, .val (.int 0), .val x49]) fun x48 => bnd (asB x48) fun k50 => ok (.bl (!k50))) fun x47 => bnd (asB x47) fun k51 => ife k51 (bnd (ok d45) fun y46 => ok [y46]) (ok [])) ds44) fun ys => ok (.lst ys))) fun x42 => cmS .ne x42 (.lst [])) fun x41 => asB x41) fun c40 => ife c40
    (ok (.bl false))
    (bnd (bnd (ixS a1 (.int 1)) fun x53 => biS .list [x53]) fun x52 => bnd (bnd (ixS a1 (.int 1)) fun x55 => biS .sortedSet [x55]) fun x54 => cmS .eq x52 x54))))) := semC2 (m := 3) (b := t__law_is_event) (pro := []) (dds := []) (as := [.val a0, .val a1]) (b2 := q__law_is_event f__law_number) (ρ := [.val a0, .val a1, .no]) (by kernel_rfl) (by kernel_rfl) (by kernel_rfl) (by kernel_rfl) (v__law_is_event f__law_number a0 a1)
def q__law_is_fact (f__law_number : Fn) : Sts := (.cons (.iff (.or (.cons (.not (.bi .isTup (.cons (.var 1) .nil))) (.cons (.cmp .ne (.bi .len (.cons (.var 1) .nil)) (.int 4)) .nil))) (.cons (.ret (.bl false)) .nil) .nil) (.cons (.iff (.or (.cons (.cmp .ne (.comp (.var 2) (.nm 2) (.seq (.slc (.var 1) .none (.some (.int 2)))) (.some (.not (.call f__law_number (.val (.var 2) (.val (.int 0) (.val (.op .sub (.var 0) (.int 1)) .nil)))))) [2]) (.lst .nil)) (.cons (.cmp .eq (.ix (.var 1) (.int 0)) (.ix (.var 1) (.int 1))) .nil))) (.cons (.ret (.bl false)) .nil) .nil) (.cons (.set 3 (.comp (.var 4) (.nm 4) (.seq (.slc (.var 1) (.some (.int 2)) .none)) (.some (.cmp .notN (.var 4) .non)) [4])) (.cons (.iff (.cmp .ne (.comp (.var 4) (.nm 4) (.seq (.var 3)) (.some (.not (.call f__law_number (.val (.var 4) (.val (.neg (.op .pow (.int 10) (.int 30))) (.val (.op .pow (.int 10) (.int 30)) .nil)))))) [4]) (.lst .nil)) (.cons (.ret (.bl false)) .nil)
  .nil) (.cons (.iff (.or (.cons (.cmp .isN (.ix (.var 1) (.int 2)) .non) (.cons (.cmp .isN (.ix (.var 1) (.int 3)) .non) .nil))) (.cons (.ret (.or (.cons (.cmp .notN (.ix (.var 1) (.int 2)) .non) (.cons (.cmp .notN (.ix (.var 1) (.int 3)) .non) .nil)))) .nil) .nil) (.cons (.ret (.cmp .le (.ix (.var 1) (.int 2)) (.ix (.var 1) (.int 3)))) .nil))))))
theorem v__law_is_fact (f__law_number : Fn) (a0 a1 : D) : runC (q__law_is_fact f__law_number) [.val a0, .val a1, .no, .no, .no] (fun _ => ok .non) = bnd (bnd (bnd (bnd (biS .isTup [a1]) fun x6 => asB x6) fun k5 => ok (!k5)) fun k4 => ife k4 (ok true) (bnd (bnd (biS .len [a1]) fun x3 => cmS .ne x3 (.int 4)) fun x2 => asB x2)) fun c1 => ife c1
    (ok (.bl false))
    (bnd (bnd (bnd (bnd (bnd (bnd (intOf (.int 2)) fun i15 => slS a1 none (some i15)) fun x14 => bnd (itemsD x14) fun ds16 => nox (bnd (gatW (fun d17 => bnd (bnd (bnd (opS .sub a0 (.int 1)) fun x21 => callW f__law_number [.val d17, .val (.int 0), .val x21]) fun x20 => bnd (asB x20) fun k22 => ok (.bl (!k22))) fun x19 => bnd (asB x19) fun k23 => ife k23 (bnd (ok d17) fun y18 => ok [y18]) (ok [])) ds16) fun ys => ok (.lst ys))) fun x13 => cmS .ne x13 (.lst [])) fun x12 => asB x12) fun k11 => ife k11 (ok true) (bnd (bnd (ixS a1 (.int 0)) fun x9 => bnd (ixS a1 (.int 1)) fun x10 => cmS .eq x9 x10) fun x8 => asB x8)) fun c7 => ife c7
    (ok (.bl false))
    (bnd (bnd (bnd (intOf (.int 2)) fun i26 => slS a1 (some i26) none) fun x25 => bnd (itemsD x25) fun ds27 => nox (bnd (gatW (fun d28 => bnd (cmS .notN d28 .non) fun x30 => bnd (asB x30) fun k31 => ife k31 (bnd (ok d28) fun y29 => ok [y29]) (ok [])) ds27) fun ys => ok (.lst ys))) fun x24 => bnd (bnd (bnd (bnd (itemsD x24) fun ds35 => nox (bnd (gatW (fun d36 => bnd (bnd (bnd (bnd (opS .pow (.int 10) (.int 30)) fun x41 => bnd (intOf x41) fun i42 => ok (.int (-i42))) fun x40 => bnd (opS .pow (.int 10) (.int 30)) fun x43 => callW f__law_number [.val d36, .val x40, .val x43]) fun x39 => bnd (asB x39) fun k44 => ok (.bl (!k44))) fun x38 => bnd (asB x38) fun k45 => ife k45 (bnd (ok d36) fun y37 => ok [y37]) (ok [])) ds35) fun ys => ok (.lst ys))) fun x34 => cmS .ne x34 (.lst [])) fun x33 => asB x33) fun c32 => ife c32
    (ok (.bl false))
    (bnd (bnd (bnd (bnd (ixS a1 (.int 2)) fun x51 => cmS .isN x51 .non) fun x50 => asB x50) fun k49 => ife k49 (ok true) (bnd (bnd (ixS a1 (.int 3)) fun x48 => cmS .isN x48 .non) fun x47 => asB x47)) fun c46 => ife c46
    (bnd (bnd (ixS a1 (.int 2)) fun x54 => cmS .notN x54 .non) fun x53 => bnd (asB x53) fun k55 => ife k55 (ok (.bl true)) (bnd (ixS a1 (.int 3)) fun x52 => cmS .notN x52 .non))
    (bnd (ixS a1 (.int 2)) fun x56 => bnd (ixS a1 (.int 3)) fun x57 => cmS .le x56 x57)))) := by kernel_rfl
theorem u__law_is_fact (a0 a1 : D) : f__law_is_fact.sem [.val a0, .val a1] = bnd (bnd (bnd (bnd (biS .isTup [a1]) fun x6 => asB x6) fun k5 => ok (!k5)) fun k4 => ife k4 (ok true) (bnd (bnd (biS .len [a1]) fun x3 => cmS .ne x3 (.int 4)) fun x2 => asB x2)) fun c1 => ife c1
    (ok (.bl false))
    (bnd (bnd (bnd (bnd (bnd (bnd (intOf (.int 2)) fun i15 => slS a1 none (some i15)) fun x14 => bnd (itemsD x14) fun ds16 => nox (bnd (gatW (fun d17 => bnd (bnd (bnd (opS .sub a0 (.int 1)) fun x21 => callW f__law_number [.val d17, .val (.int 0), .val x21]) fun x20 => bnd (asB x20) fun k22 => ok (.bl (!k22))) fun x19 => bnd (asB x19) fun k23 => ife k23 (bnd (ok d17) fun y18 => ok [y18]) (ok [])) ds16) fun ys => ok (.lst ys))) fun x13 => cmS .ne x13 (.lst [])) fun x12 => asB x12) fun k11 => ife k11 (ok true) (bnd (bnd (ixS a1 (.int 0)) fun x9 => bnd (ixS a1 (.int 1)) fun x10 => cmS .eq x9 x10) fun x8 => asB x8)) fun c7 => ife c7
    (ok (.bl false))
    (bnd (bnd (bnd (intOf (.int 2)) fun i26 => slS a1 (some i26) none) fun x25 => bnd (itemsD x25) fun ds27 => nox (bnd (gatW (fun d28 => bnd (cmS .notN d28 .non) fun x30 => bnd (asB x30) fun k31 => ife k31 (bnd (ok d28) fun y29 => ok [y29]) (ok [])) ds27) fun ys => ok (.lst ys))) fun x24 => bnd (bnd (bnd (bnd (itemsD x24) fun ds35 => nox (bnd (gatW (fun d36 => bnd (bnd (bnd (bnd (opS .pow (.int 10) (.int 30)) fun x41 => bnd (intOf x41) fun i42 => ok (.int (-i42))) fun x40 => bnd (opS .pow (.int 10) (.int 30)) fun x43 => callW f__law_number [.val d36, .val x40, .val x43]) fun x39 => bnd (asB x39) fun k44 => ok (.bl (!k44))) fun x38 => bnd (asB x38) fun k45 => ife k45 (bnd (ok d36) fun y37 => ok [y37]) (ok [])) ds35) fun ys => ok (.lst ys))) fun x34 => cmS .ne x34 (.lst [])) fun x33 => asB x33) fun c32 => ife c32
    (ok (.bl false))
    (bnd (bnd (bnd (bnd (ixS a1 (.int 2)) fun x51 => cmS .isN x51 .non) fun x50 => asB x50) fun k49 => ife k49 (ok true) (bnd (bnd (ixS a1 (.int 3)) fun x48 => cmS .isN x48 .non) fun x47 => asB x47)) fun c46 => ife c46
    (bnd (bnd (ixS a1 (.int 2)) fun x54 => cmS .notN x54 .non) fun x53 => bnd (asB x53) fun k55 => ife k55 (ok (.bl true)) (bnd (ixS a1 (.int 3)) fun x52 => cmS .notN x52 .non))
    (bnd (ixS a1 (.int 2)) fun x56 => bnd (ixS a1 (.int 3)) fun x57 => cmS .le x56 x57)))) := semC2 (m := 5) (b := t__law_is_fact) (pro := []) (dds := []) (as := [.val a0, .val a1]) (b2 := q__law_is_fact f__law_number) (ρ := [.val a0, .val a1, .no, .no, .no]) (by kernel_rfl) (by kernel_rfl) (by kernel_rfl) (by kernel_rfl) (v__law_is_fact f__law_number a0 a1)
def p__law_is_story_0 (f__law_early f__law_is_event f__law_is_fact f__law_number : Fn) : Sts := (.cons (.iff (.or (.cons (.not (.bi .isTup (.cons (.var 2) .nil))) (.cons (.not (.chain .le .le (.int 1) (.bi .len (.cons (.var 2) .nil)) (.int 5))) .nil))) (.cons (.ret (.bl false)) .nil) .nil) (.cons (.iff (.cmp .ne (.comp (.var 4) (.nm 4) (.seq (.var 2)) (.some (.not (.call f__law_is_event (.val (.var 1) (.val (.var 4) .nil))))) [4]) (.lst .nil)) (.cons (.ret (.bl false)) .nil) .nil) (.cons (.iff (.or (.cons (.not (.bi .isTup (.cons (.var 3) .nil))) (.cons (.cmp .gt (.bi .len (.cons (.var 3) .nil)) (.int 4)) .nil))) (.cons (.ret (.bl false)) .nil) .nil) (.cons (.iff (.cmp .ne (.comp (.var 4) (.nm 4) (.seq (.var 3)) (.some (.not (.call f__law_is_fact (.val (.bi .len (.cons (.var 2) .nil)) (.val (.var 4) .nil))))) [4]) (.lst .nil)) (.cons (.ret (.bl false)) .nil) .nil) (.cons (.ret (.cmp .notN (.call f__law_early (.val (.var 0) (.val (.tup .nil) .nil))) .non)) .nil)))))
-- p__law_is_story_0
theorem w__law_is_story_0 (f__law_early f__law_is_event f__law_is_fact f__law_number : Fn) (s0 : D) (s1 : D) (s2 : D) (s3 : D) (k' : Ev → W D) : runC (p__law_is_story_0 f__law_early f__law_is_event f__law_is_fact f__law_number) [.val s0, .val s1, .val s2, .val s3, .no] k' = bnd (bnd (bnd (bnd (biS .isTup [s2]) fun x20 => asB x20) fun k19 => ok (!k19)) fun k18 => ife k18 (ok true) (bnd (bnd (bnd (biS .len [s2]) fun x15 => bnd (cmS .le (.int 1) x15) fun d16 => bnd (asB d16) fun k17 => ife k17 (cmS .le x15 (.int 5)) (ok (.bl false))) fun x14 => asB x14) fun k13 => ok (!k13))) fun c12 => ife c12
    (ok (.bl false))
    (bnd (bnd (bnd (bnd (itemsD s2) fun ds24 => nox (bnd (gatW (fun d25 => bnd (bnd (callW f__law_is_event [.val s1, .val d25]) fun x28 => bnd (asB x28) fun k29 => ok (.bl (!k29))) fun x27 => bnd (asB x27) fun k30 => ife k30 (bnd (ok d25) fun y26 => ok [y26]) (ok [])) ds24) fun ys => ok (.lst ys))) fun x23 => cmS .ne x23 (.lst [])) fun x22 => asB x22) fun c21 => ife c21
    (ok (.bl false))
    (bnd (bnd (bnd (bnd (biS .isTup [s3]) fun x36 => asB x36) fun k35 => ok (!k35)) fun k34 => ife k34 (ok true) (bnd (bnd (biS .len [s3]) fun x33 => cmS .gt x33 (.int 4)) fun x32 => asB x32)) fun c31 => ife c31
    (ok (.bl false))
    (bnd (bnd (bnd (bnd (itemsD s3) fun ds40 => nox (bnd (gatW (fun d41 => bnd (bnd (bnd (biS .len [s2]) fun x45 => callW f__law_is_fact [.val x45, .val d41]) fun x44 => bnd (asB x44) fun k46 => ok (.bl (!k46))) fun x43 => bnd (asB x43) fun k47 => ife k47 (bnd (ok d41) fun y42 => ok [y42]) (ok [])) ds40) fun ys => ok (.lst ys))) fun x39 => cmS .ne x39 (.lst [])) fun x38 => asB x38) fun c37 => ife c37
    (ok (.bl false))
    (bnd (callW f__law_early [.val s0, .val (.tup [])]) fun x48 => cmS .notN x48 .non)))) := by kernel_rfl
def q__law_is_story (f__law_early f__law_is_event f__law_is_fact f__law_number : Fn) : Sts := (.cons (.iff (.or (.cons (.not (.bi .isTup (.cons (.var 0) .nil))) (.cons (.cmp .ne (.bi .len (.cons (.var 0) .nil)) (.int 3)) (.cons (.not (.call f__law_number (.val (.ix (.var 0) (.int 0)) (.val (.int 2) (.val (.int 5) .nil))))) .nil)))) (.cons (.ret (.bl false)) .nil) .nil) (.cons (.asg (.tup (.cons (.nm 1) (.cons (.nm 2) (.cons (.nm 3) .nil)))) (.var 0)) (.cons (.iff (.or (.cons (.not (.bi .isTup (.cons (.var 2) .nil))) (.cons (.not (.chain .le .le (.int 1) (.bi .len (.cons (.var 2) .nil)) (.int 5))) .nil))) (.cons (.ret (.bl false)) .nil) .nil) (.cons (.iff (.cmp .ne (.comp (.var 4) (.nm 4) (.seq (.var 2)) (.some (.not (.call f__law_is_event (.val (.var 1) (.val (.var 4) .nil))))) [4]) (.lst .nil)) (.cons (.ret (.bl false)) .nil) .nil) (.cons (.iff (.or (.cons (.not (.bi .isTup (.cons (.var 3) .nil))) (.cons (.cmp .gt (.bi .len (.cons (.var 3) .nil)) (.int 4)) .nil))) (.cons (.ret
  (.bl false)) .nil) .nil) (.cons (.iff (.cmp .ne (.comp (.var 4) (.nm 4) (.seq (.var 3)) (.some (.not (.call f__law_is_fact (.val (.bi .len (.cons (.var 2) .nil)) (.val (.var 4) .nil))))) [4]) (.lst .nil)) (.cons (.ret (.bl false)) .nil) .nil) (.cons (.ret (.cmp .notN (.call f__law_early (.val (.var 0) (.val (.tup .nil) .nil))) .non)) .nil)))))))
theorem v__law_is_story (f__law_early f__law_is_event f__law_is_fact f__law_number : Fn) (a0 : D) : runC (q__law_is_story f__law_early f__law_is_event f__law_is_fact f__law_number) [.val a0, .no, .no, .no, .no] (fun _ => ok .non) = bnd (bnd (bnd (bnd (biS .isTup [a0]) fun x10 => asB x10) fun k9 => ok (!k9)) fun k8 => ife k8 (ok true) (bnd (bnd (bnd (biS .len [a0]) fun x7 => cmS .ne x7 (.int 3)) fun x6 => asB x6) fun k5 => ife k5 (ok true) (bnd (bnd (bnd (ixS a0 (.int 0)) fun x4 => callW f__law_number [.val x4, .val (.int 2), .val (.int 5)]) fun x3 => asB x3) fun k2 => ok (!k2)))) fun c1 => ife c1
    (ok (.bl false))
    (bnd (bindT (.tup (.cons (.nm 1) (.cons (.nm 2) (.cons (.nm 3) .nil)))) a0 [.val a0, .no, .no, .no, .no]) fun ρ11 => runC (p__law_is_story_0 f__law_early f__law_is_event f__law_is_fact f__law_number) ρ11 fun _ => ok .non) := by kernel_rfl
theorem u__law_is_story (a0 : D) : f__law_is_story.sem [.val a0] = bnd (bnd (bnd (bnd (biS .isTup [a0]) fun x10 => asB x10) fun k9 => ok (!k9)) fun k8 => ife k8 (ok true) (bnd (bnd (bnd (biS .len [a0]) fun x7 => cmS .ne x7 (.int 3)) fun x6 => asB x6) fun k5 => ife k5 (ok true) (bnd (bnd (bnd (ixS a0 (.int 0)) fun x4 => callW f__law_number [.val x4, .val (.int 2), .val (.int 5)]) fun x3 => asB x3) fun k2 => ok (!k2)))) fun c1 => ife c1
    (ok (.bl false))
    (bnd (bindT (.tup (.cons (.nm 1) (.cons (.nm 2) (.cons (.nm 3) .nil)))) a0 [.val a0, .no, .no, .no, .no]) fun ρ11 => runC (p__law_is_story_0 f__law_early f__law_is_event f__law_is_fact f__law_number) ρ11 fun _ => ok .non) := semC2 (m := 5) (b := t__law_is_story) (pro := []) (dds := []) (as := [.val a0]) (b2 := q__law_is_story f__law_early f__law_is_event f__law_is_fact f__law_number) (ρ := [.val a0, .no, .no, .no, .no]) (by kernel_rfl) (by kernel_rfl) (by kernel_rfl) (by kernel_rfl) (v__law_is_story f__law_early f__law_is_event f__law_is_fact f__law_number a0)
def p__law_spoilt_0 (f__law_one fPick f__law_whole fr : Fn) : Sts := (.cons (.set 3 (.call fPick (.deck 0 (.val (.bi .len (.cons (.own 2) .nil)) .nil)))) (.cons (.setix 2 (.var 3) (.call fr (.deck 0 (.val (.ix (.own 2) (.var 3)) .nil)))) (.cons (.freeze 2) (.cons (.ret (.ite (.bi .isTup (.cons (.var 1) .nil)) (.bi .tuple (.cons (.var 2) .nil)) (.var 2))) .nil))))
def p__law_spoilt_1 (f__law_one fPick f__law_whole fr : Fn) : Sts := (.cons (.iff (.bi .isTL (.cons (.var 1) .nil)) (.cons (.set 4 (.ite (.bi .isTup (.cons (.var 1) .nil)) (.bi .list (.cons (.var 1) .nil)) (.bi .tuple (.cons (.var 1) .nil)))) (.cons (.set 5 (.lst (.cons (.var 4) (.cons (.op .add (.var 1) (.slc (.var 1) .none (.some (.int 1)))) (.cons (.slc (.var 1) (.some (.int 1)) .none) .nil))))) (.cons (.ret (.call f__law_one (.deck 0 (.val (.op .add (.var 5) (.lst (.cons (.rev (.var 1)) (.cons (.tup (.cons (.int 0) (.cons (.int 1) .nil))) (.cons .non .nil))))) .nil)))) .nil))) .nil) (.cons (.iff (.bi .isStr (.cons (.var 1) .nil)) (.cons (.ret (.call f__law_one (.deck 0 (.val (.lst (.cons (.str (Str.ofString "learn")) (.cons (.str (Str.ofString "meet")) (.cons (.str (Str.ofString "")) (.cons .non (.cons (.int 0) (.cons (.str (Str.ofString "Meet")) .nil))))))) .nil)))) .nil) .nil) (.cons (.iff (.call f__law_whole (.val (.var 1) .nil)) (.cons (.set 5
  (.lst (.cons (.op .sub (.int 1) (.var 1)) (.cons (.op .add (.var 1) (.int 1)) (.cons (.int 0) (.cons (.bl true) (.cons (.bl false) (.cons .non .nil)))))))) (.cons (.ret (.call f__law_one (.deck 0 (.val (.op .add (.var 5) (.lst (.cons (.str (Str.ofString "1")) (.cons (.neg (.int 5)) (.cons (.int 3) (.cons (.op .pow (.int 10) (.int 31)) .nil)))))) .nil)))) .nil)) .nil) (.cons (.ret (.call f__law_one (.deck 0 (.val (.lst (.cons .non (.cons (.int 0) (.cons (.str (Str.ofString "x")) (.cons (.tup .nil) (.cons (.lst .nil) (.cons (.bl true) (.cons (.int 5) (.cons (.op .pow (.int 10) (.int 30)) .nil))))))))) .nil)))) .nil))))
def p__law_spoilt_2 (f__law_one fPick f__law_whole fr : Fn) : Sts := (.cons (.freeze 2) (.cons (.ret (.ite (.bi .isTup (.cons (.var 1) .nil)) (.bi .tuple (.cons (.var 2) .nil)) (.var 2))) .nil))
-- p__law_spoilt_0
theorem w__law_spoilt_0 (f__law_one fPick f__law_whole fr : Fn) (s1 : D) (s2 : List D) (s3 : Sl) (s4 : Sl) (s5 : Sl) (k' : Ev → W D) : runC (p__law_spoilt_0 f__law_one fPick f__law_whole fr) [.deck, .val s1, .own s2, s3, s4, s5] k' = bnd (bnd (bnd (ok (.lst s2)) fun x36 => biS .len [x36]) fun x35 => callW fPick [.deck, .val x35]) fun x34 => bnd (bnd (bnd (ok (.lst s2)) fun x39 => ixS x39 x34) fun x38 => callW fr [.deck, .val x38]) fun x37 => bnd (intOf x34) fun j40 => fin (chk (decide (0 ≤ j40 ∧ j40 < (s2).length)) (ok (.nx [.deck, .val s1, .own (s2.set j40.toNat x37), .val x34, s4, s5]))) fun ρ41 => runC (p__law_spoilt_2 f__law_one fPick f__law_whole fr) ρ41 k' := by kernel_rfl
-- p__law_spoilt_1
theorem w__law_spoilt_1 (f__law_one fPick f__law_whole fr : Fn) (s1 : D) (s2 : Sl) (s3 : Sl) (s4 : Sl) (s5 : Sl) (k' : Ev → W D) : runC (p__law_spoilt_1 f__law_one fPick f__law_whole fr) [.deck, .val s1, s2, s3, s4, s5] k' = bnd (bnd (biS .isTL [s1]) fun x43 => asB x43) fun c42 => ife c42
    (bnd (bnd (biS .isTup [s1]) fun x45 => bnd (asB x45) fun k46 => ife k46 (biS .list [s1]) (biS .tuple [s1])) fun x44 => bnd (bnd (bnd (intOf (.int 1)) fun i49 => slS s1 none (some i49)) fun x48 => opS .add s1 x48) fun x47 => bnd (bnd (intOf (.int 1)) fun i51 => slS s1 (some i51) none) fun x50 => bnd (bnd (revS s1) fun x53 => opS .add (.lst [x44, x47, x50]) (.lst [x53, (.tup [(.int 0), (.int 1)]), .non])) fun x52 => callW f__law_one [.deck, .val x52])
    (bnd (bnd (biS .isStr [s1]) fun x55 => asB x55) fun c54 => ife c54
    (callW f__law_one [.deck, .val (.lst [(.str (Str.ofString "learn")), (.str (Str.ofString "meet")), (.str (Str.ofString "")), .non, (.int 0), (.str (Str.ofString "Meet"))])])
    (bnd (bnd (callW f__law_whole [.val s1]) fun x57 => asB x57) fun c56 => ife c56
    (bnd (opS .sub (.int 1) s1) fun x58 => bnd (opS .add s1 (.int 1)) fun x59 => bnd (bnd (bnd (intOf (.int 5)) fun i62 => ok (.int (-i62))) fun x61 => bnd (opS .pow (.int 10) (.int 31)) fun x63 => opS .add (.lst [x58, x59, (.int 0), (.bl true), (.bl false), .non]) (.lst [(.str (Str.ofString "1")), x61, (.int 3), x63])) fun x60 => callW f__law_one [.deck, .val x60])
    (bnd (opS .pow (.int 10) (.int 30)) fun x64 => callW f__law_one [.deck, .val (.lst [.non, (.int 0), (.str (Str.ofString "x")), (.tup []), (.lst []), (.bl true), (.int 5), x64])]))) := by kernel_rfl
-- p__law_spoilt_2
theorem w__law_spoilt_2 (f__law_one fPick f__law_whole fr : Fn) (s1 : D) (s2 : List D) (s3 : D) (s4 : Sl) (s5 : Sl) (k' : Ev → W D) : runC (p__law_spoilt_2 f__law_one fPick f__law_whole fr) [.deck, .val s1, .own s2, .val s3, s4, s5] k' = bnd (biS .isTup [s1]) fun x65 => bnd (asB x65) fun k66 => ife k66 (biS .tuple [(.lst s2)]) (ok (.lst s2)) := by kernel_rfl
def q__law_spoilt (f__law_one fPick f__law_whole fr : Fn) : Sts := (.cons (.iff (.and (.cons (.bi .isTL (.cons (.var 1) .nil)) (.cons (.cmp .gt (.bi .len (.cons (.var 1) .nil)) (.int 0)) (.cons (.cmp .gt (.call fPick (.deck 0 (.val (.int 7) .nil))) (.int 0)) .nil)))) (.cons (.setO 2 (.bi .list (.cons (.var 1) .nil))) (.cons (.set 3 (.call fPick (.deck 0 (.val (.bi .len (.cons (.own 2) .nil)) .nil)))) (.cons (.setix 2 (.var 3) (.call fr (.deck 0 (.val (.ix (.own 2) (.var 3)) .nil)))) (.cons (.freeze 2) (.cons (.ret (.ite (.bi .isTup (.cons (.var 1) .nil)) (.bi .tuple (.cons (.var 2) .nil)) (.var 2))) .nil))))) .nil) (.cons (.iff (.bi .isTL (.cons (.var 1) .nil)) (.cons (.set 4 (.ite (.bi .isTup (.cons (.var 1) .nil)) (.bi .list (.cons (.var 1) .nil)) (.bi .tuple (.cons (.var 1) .nil)))) (.cons (.set 5 (.lst (.cons (.var 4) (.cons (.op .add (.var 1) (.slc (.var 1) .none (.some (.int 1)))) (.cons (.slc (.var 1) (.some (.int 1)) .none) .nil))))) (.cons (.ret
  (.call f__law_one (.deck 0 (.val (.op .add (.var 5) (.lst (.cons (.rev (.var 1)) (.cons (.tup (.cons (.int 0) (.cons (.int 1) .nil))) (.cons .non .nil))))) .nil)))) .nil))) .nil) (.cons (.iff (.bi .isStr (.cons (.var 1) .nil)) (.cons (.ret (.call f__law_one (.deck 0 (.val (.lst (.cons (.str (Str.ofString "learn")) (.cons (.str (Str.ofString "meet")) (.cons (.str (Str.ofString "")) (.cons .non (.cons (.int 0) (.cons (.str (Str.ofString "Meet")) .nil))))))) .nil)))) .nil) .nil) (.cons (.iff (.call f__law_whole (.val (.var 1) .nil)) (.cons (.set 5 (.lst (.cons (.op .sub (.int 1) (.var 1)) (.cons (.op .add (.var 1) (.int 1)) (.cons (.int 0) (.cons (.bl true) (.cons (.bl false) (.cons .non .nil)))))))) (.cons (.ret (.call f__law_one (.deck 0 (.val (.op .add (.var 5) (.lst (.cons (.str (Str.ofString "1")) (.cons (.neg (.int 5)) (.cons (.int 3) (.cons (.op .pow (.int 10) (.int 31)) .nil))))))
  .nil)))) .nil)) .nil) (.cons (.ret (.call f__law_one (.deck 0 (.val (.lst (.cons .non (.cons (.int 0) (.cons (.str (Str.ofString "x")) (.cons (.tup .nil) (.cons (.lst .nil) (.cons (.bl true) (.cons (.int 5) (.cons (.op .pow (.int 10) (.int 30)) .nil))))))))) .nil)))) .nil)))))
theorem v__law_spoilt (f__law_one fPick f__law_whole fr : Fn) (a1 : D) : runC (q__law_spoilt f__law_one fPick f__law_whole fr) [.deck, .val a1, .no, .no, .no, .no] (fun _ => ok .non) = bnd (bnd (bnd (biS .isTL [a1]) fun x8 => asB x8) fun k7 => ife k7 (bnd (bnd (bnd (biS .len [a1]) fun x6 => cmS .gt x6 (.int 0)) fun x5 => asB x5) fun k4 => ife k4 (bnd (bnd (callW fPick [.deck, .val (.int 7)]) fun x3 => cmS .gt x3 (.int 0)) fun x2 => asB x2) (ok false)) (ok false)) fun c1 => ife c1
    (bnd (biS .list [a1]) fun x9 => fin (chk (!isNoS (slO x9)) (ok (.nx [.deck, .val a1, slO x9, .no, .no, .no]))) fun ρ10 => runC (p__law_spoilt_0 f__law_one fPick f__law_whole fr) ρ10 (fun ρo => runC (p__law_spoilt_1 f__law_one fPick f__law_whole fr) ρo (fun _ => ok .non)))
    (bnd (bnd (biS .isTL [a1]) fun x12 => asB x12) fun c11 => ife c11
    (bnd (bnd (biS .isTup [a1]) fun x14 => bnd (asB x14) fun k15 => ife k15 (biS .list [a1]) (biS .tuple [a1])) fun x13 => bnd (bnd (bnd (intOf (.int 1)) fun i18 => slS a1 none (some i18)) fun x17 => opS .add a1 x17) fun x16 => bnd (bnd (intOf (.int 1)) fun i20 => slS a1 (some i20) none) fun x19 => bnd (bnd (revS a1) fun x22 => opS .add (.lst [x13, x16, x19]) (.lst [x22, (.tup [(.int 0), (.int 1)]), .non])) fun x21 => callW f__law_one [.deck, .val x21])
    (bnd (bnd (biS .isStr [a1]) fun x24 => asB x24) fun c23 => ife c23
    (callW f__law_one [.deck, .val (.lst [(.str (Str.ofString "learn")), (.str (Str.ofString "meet")), (.str (Str.ofString "")), .non, (.int 0), (.str (Str.ofString "Meet"))])])
    (bnd (bnd (callW f__law_whole [.val a1]) fun x26 => asB x26) fun c25 => ife c25
    (bnd (opS .sub (.int 1) a1) fun x27 => bnd (opS .add a1 (.int 1)) fun x28 => bnd (bnd (bnd (intOf (.int 5)) fun i31 => ok (.int (-i31))) fun x30 => bnd (opS .pow (.int 10) (.int 31)) fun x32 => opS .add (.lst [x27, x28, (.int 0), (.bl true), (.bl false), .non]) (.lst [(.str (Str.ofString "1")), x30, (.int 3), x32])) fun x29 => callW f__law_one [.deck, .val x29])
    (bnd (opS .pow (.int 10) (.int 30)) fun x33 => callW f__law_one [.deck, .val (.lst [.non, (.int 0), (.str (Str.ofString "x")), (.tup []), (.lst []), (.bl true), (.int 5), x33])])))) := by kernel_rfl
theorem u__law_spoilt (fr : Fn) (a1 : D) : semD 6 (t__law_spoilt fr) [0] [] [.deck, .val a1] = bnd (bnd (bnd (biS .isTL [a1]) fun x8 => asB x8) fun k7 => ife k7 (bnd (bnd (bnd (biS .len [a1]) fun x6 => cmS .gt x6 (.int 0)) fun x5 => asB x5) fun k4 => ife k4 (bnd (bnd (callW fPick [.deck, .val (.int 7)]) fun x3 => cmS .gt x3 (.int 0)) fun x2 => asB x2) (ok false)) (ok false)) fun c1 => ife c1
    (bnd (biS .list [a1]) fun x9 => fin (chk (!isNoS (slO x9)) (ok (.nx [.deck, .val a1, slO x9, .no, .no, .no]))) fun ρ10 => runC (p__law_spoilt_0 f__law_one fPick f__law_whole fr) ρ10 (fun ρo => runC (p__law_spoilt_1 f__law_one fPick f__law_whole fr) ρo (fun _ => ok .non)))
    (bnd (bnd (biS .isTL [a1]) fun x12 => asB x12) fun c11 => ife c11
    (bnd (bnd (biS .isTup [a1]) fun x14 => bnd (asB x14) fun k15 => ife k15 (biS .list [a1]) (biS .tuple [a1])) fun x13 => bnd (bnd (bnd (intOf (.int 1)) fun i18 => slS a1 none (some i18)) fun x17 => opS .add a1 x17) fun x16 => bnd (bnd (intOf (.int 1)) fun i20 => slS a1 (some i20) none) fun x19 => bnd (bnd (revS a1) fun x22 => opS .add (.lst [x13, x16, x19]) (.lst [x22, (.tup [(.int 0), (.int 1)]), .non])) fun x21 => callW f__law_one [.deck, .val x21])
    (bnd (bnd (biS .isStr [a1]) fun x24 => asB x24) fun c23 => ife c23
    (callW f__law_one [.deck, .val (.lst [(.str (Str.ofString "learn")), (.str (Str.ofString "meet")), (.str (Str.ofString "")), .non, (.int 0), (.str (Str.ofString "Meet"))])])
    (bnd (bnd (callW f__law_whole [.val a1]) fun x26 => asB x26) fun c25 => ife c25
    (bnd (opS .sub (.int 1) a1) fun x27 => bnd (opS .add a1 (.int 1)) fun x28 => bnd (bnd (bnd (intOf (.int 5)) fun i31 => ok (.int (-i31))) fun x30 => bnd (opS .pow (.int 10) (.int 31)) fun x32 => opS .add (.lst [x27, x28, (.int 0), (.bl true), (.bl false), .non]) (.lst [(.str (Str.ofString "1")), x30, (.int 3), x32])) fun x29 => callW f__law_one [.deck, .val x29])
    (bnd (opS .pow (.int 10) (.int 30)) fun x33 => callW f__law_one [.deck, .val (.lst [.non, (.int 0), (.str (Str.ofString "x")), (.tup []), (.lst []), (.bl true), (.int 5), x33])])))) := semC2 (m := 6) (b := (t__law_spoilt fr)) (pro := [0]) (dds := []) (as := [.deck, .val a1]) (b2 := q__law_spoilt f__law_one fPick f__law_whole fr) (ρ := [.deck, .val a1, .no, .no, .no, .no]) (by kernel_rfl) (by kernel_rfl) (by kernel_rfl) (by kernel_rfl) (v__law_spoilt f__law_one fPick f__law_whole fr a1)
def p__law_hours_right_0 (f__law_early f__law_keeps f__law_same f__law_spoilt f__law_whole f_is_hours : Fn) : Sts := (.cons (.app 3 (.call f__law_spoilt (.deck 0 (.val (.var 2) .nil)))) .nil)
def p__law_hours_right_1 (f__law_early f__law_keeps f__law_same f__law_spoilt f__law_whole f_is_hours : Fn) : Sts := (.cons (.freeze 3) (.cons (.for_ (.nm 5) (.seq (.var 3)) (.cons (.set 6 (.and (.cons (.bi .isTup (.cons (.var 5) .nil)) (.cons (.cmp .eq (.bi .len (.cons (.var 5) .nil)) (.bi .len (.cons (.var 2) .nil))) .nil)))) (.cons (.iff (.var 6) (.cons (.set 7 (.comp (.var 8) (.nm 8) (.seq (.var 5)) (.some (.or (.cons (.not (.call f__law_whole (.val (.var 8) .nil))) (.cons (.cmp .gt (.bi .abs (.cons (.var 8) .nil)) (.op .pow (.int 10) (.int 31))) .nil)))) [8])) (.cons (.set 6 (.and (.cons (.cmp .eq (.var 7) (.lst .nil)) (.cons (.call f__law_keeps (.val (.var 5) (.val (.ix (.var 1) (.int 2)) .nil))) .nil)))) .nil)) .nil) (.cons (.iff (.not (.call f__law_same (.val (.call f_is_hours (.val (.var 1) (.val (.var 5) .nil))) (.val (.var 6) .nil)))) (.cons (.ret (.bl false)) .nil) .nil) .nil)))) (.cons (.ret (.bl true)) .nil)))
def p__law_hours_right_2 (f__law_early f__law_keeps f__law_same f__law_spoilt f__law_whole f_is_hours : Fn) : Sts := (.cons (.set 6 (.and (.cons (.bi .isTup (.cons (.var 5) .nil)) (.cons (.cmp .eq (.bi .len (.cons (.var 5) .nil)) (.bi .len (.cons (.var 2) .nil))) .nil)))) (.cons (.iff (.var 6) (.cons (.set 7 (.comp (.var 8) (.nm 8) (.seq (.var 5)) (.some (.or (.cons (.not (.call f__law_whole (.val (.var 8) .nil))) (.cons (.cmp .gt (.bi .abs (.cons (.var 8) .nil)) (.op .pow (.int 10) (.int 31))) .nil)))) [8])) (.cons (.set 6 (.and (.cons (.cmp .eq (.var 7) (.lst .nil)) (.cons (.call f__law_keeps (.val (.var 5) (.val (.ix (.var 1) (.int 2)) .nil))) .nil)))) .nil)) .nil) (.cons (.iff (.not (.call f__law_same (.val (.call f_is_hours (.val (.var 1) (.val (.var 5) .nil))) (.val (.var 6) .nil)))) (.cons (.ret (.bl false)) .nil) .nil) .nil)))
def p__law_hours_right_3 (f__law_early f__law_keeps f__law_same f__law_spoilt f__law_whole f_is_hours : Fn) : Sts := (.cons (.ret (.bl true)) .nil)
-- p__law_hours_right_0
theorem w__law_hours_right_0 (f__law_early f__law_keeps f__law_same f__law_spoilt f__law_whole f_is_hours : Fn) (s1 : D) (s2 : D) (s3 : List D) (s4 : D) (s5 : Sl) (s6 : Sl) (s7 : Sl) (k' : Ev → W D) : runC (p__law_hours_right_0 f__law_early f__law_keeps f__law_same f__law_spoilt f__law_whole f_is_hours) [.deck, .val s1, .val s2, .own s3, .val s4, s5, s6, s7, .no] k' = bnd (callW f__law_spoilt [.deck, .val s2]) fun x8 => fin (chk (decide (((s3) : List D).length < lim)) (ok (.nx [.deck, .val s1, .val s2, .own (s3 ++ [x8]), .val s4, s5, s6, s7, .no]))) fun ρ9 => runC .nil ρ9 k' := by kernel_rfl
-- p__law_hours_right_1
theorem w__law_hours_right_1 (f__law_early f__law_keeps f__law_same f__law_spoilt f__law_whole f_is_hours : Fn) (s1 : D) (s2 : D) (s3 : List D) (s4 : Sl) (s5 : Sl) (s6 : Sl) (s7 : Sl) (k' : Ev → W D) : runC (p__law_hours_right_1 f__law_early f__law_keeps f__law_same f__law_spoilt f__law_whole f_is_hours) [.deck, .val s1, .val s2, .own s3, s4, s5, s6, s7, .no] k' = bnd (itemsD (.lst s3)) fun ds10 => forK (.nm 5) (fun ρ' k' => runC (p__law_hours_right_2 f__law_early f__law_keeps f__law_same f__law_spoilt f__law_whole f_is_hours) ρ' k') ds10 [.deck, .val s1, .val s2, .val (.lst s3), s4, s5, s6, s7, .no] fun ρ11 => runC (p__law_hours_right_3 f__law_early f__law_keeps f__law_same f__law_spoilt f__law_whole f_is_hours) ρ11 k' := by kernel_rfl
-- p__law_hours_right_2
theorem w__law_hours_right_2 (f__law_early f__law_keeps f__law_same f__law_spoilt f__law_whole f_is_hours : Fn) (s1 : D) (s2 : D) (s3 : D) (s4 : Sl) (s5 : D) (s6 : Sl) (s7 : Sl) (k' : Ev → W D) : runC (p__law_hours_right_2 f__law_early f__law_keeps f__law_same f__law_spoilt f__law_whole f_is_hours) [.deck, .val s1, .val s2, .val s3, s4, .val s5, s6, s7, .no] k' = bnd (bnd (biS .isTup [s5]) fun x15 => bnd (asB x15) fun k16 => ife k16 (bnd (biS .len [s5]) fun x13 => bnd (biS .len [s2]) fun x14 => cmS .eq x13 x14) (ok (.bl false))) fun x12 => bnd (asB x12) fun c17 => ife c17
    (bnd (bnd (itemsD s5) fun ds19 => nox (bnd (gatW (fun d20 => bnd (bnd (bnd (callW f__law_whole [.val d20]) fun x26 => bnd (asB x26) fun k27 => ok (.bl (!k27))) fun x25 => bnd (asB x25) fun k28 => ife k28 (ok (.bl true)) (bnd (biS .abs [d20]) fun x23 => bnd (opS .pow (.int 10) (.int 31)) fun x24 => cmS .gt x23 x24)) fun x22 => bnd (asB x22) fun k29 => ife k29 (bnd (ok d20) fun y21 => ok [y21]) (ok [])) ds19) fun ys => ok (.lst ys))) fun x18 => bnd (bnd (cmS .eq x18 (.lst [])) fun x32 => bnd (asB x32) fun k33 => ife k33 (bnd (ixS s1 (.int 2)) fun x31 => callW f__law_keeps [.val s5, .val x31]) (ok (.bl false))) fun x30 => bnd (bnd (bnd (bnd (callW f_is_hours [.val s1, .val s5]) fun x37 => callW f__law_same [.val x37, .val x30]) fun x36 => asB x36) fun k35 => ok (!k35)) fun c34 => ife c34
    (ok (.bl false))
    (k' [.deck, .val s1, .val s2, .val s3, s4, .val s5, .val x30, .val x18, .no]))
    (bnd (bnd (bnd (bnd (callW f_is_hours [.val s1, .val s5]) fun x41 => callW f__law_same [.val x41, .val x12]) fun x40 => asB x40) fun k39 => ok (!k39)) fun c38 => ife c38
    (ok (.bl false))
    (k' [.deck, .val s1, .val s2, .val s3, s4, .val s5, .val x12, s7, .no])) := by kernel_rfl
-- p__law_hours_right_3
theorem w__law_hours_right_3 (f__law_early f__law_keeps f__law_same f__law_spoilt f__law_whole f_is_hours : Fn) (s1 : D) (s2 : D) (s3 : D) (s4 : Sl) (s5 : Sl) (s6 : Sl) (s7 : Sl) (k' : Ev → W D) : runC (p__law_hours_right_3 f__law_early f__law_keeps f__law_same f__law_spoilt f__law_whole f_is_hours) [.deck, .val s1, .val s2, .val s3, s4, s5, s6, s7, .no] k' = ok (.bl true) := by kernel_rfl
def q__law_hours_right (f__law_early f__law_keeps f__law_same f__law_spoilt f__law_whole f_is_hours : Fn) : Sts := (.cons (.set 2 (.bi .tuple (.cons (.call f__law_early (.val (.var 1) (.val (.tup .nil) .nil))) .nil))) (.cons (.setO 3 (.lst (.cons (.var 2) (.cons (.op .add (.var 2) (.tup (.cons (.int 0) .nil))) (.cons (.bi .list (.cons (.var 2) .nil)) .nil))))) (.cons (.for_ (.nm 4) (.rng1 (.int 12)) (.cons (.app 3 (.call f__law_spoilt (.deck 0 (.val (.var 2) .nil)))) .nil)) (.cons (.freeze 3) (.cons (.for_ (.nm 5) (.seq (.var 3)) (.cons (.set 6 (.and (.cons (.bi .isTup (.cons (.var 5) .nil)) (.cons (.cmp .eq (.bi .len (.cons (.var 5) .nil)) (.bi .len (.cons (.var 2) .nil))) .nil)))) (.cons (.iff (.var 6) (.cons (.set 7 (.comp (.var 8) (.nm 8) (.seq (.var 5)) (.some (.or (.cons (.not (.call f__law_whole (.val (.var 8) .nil))) (.cons (.cmp .gt (.bi .abs (.cons (.var 8) .nil)) (.op .pow (.int 10) (.int 31))) .nil)))) [8])) (.cons (.set 6 (.and (.cons (.cmp .eq (.var 7) (.lst .nil)) (.cons (.call
  f__law_keeps (.val (.var 5) (.val (.ix (.var 1) (.int 2)) .nil))) .nil)))) .nil)) .nil) (.cons (.iff (.not (.call f__law_same (.val (.call f_is_hours (.val (.var 1) (.val (.var 5) .nil))) (.val (.var 6) .nil)))) (.cons (.ret (.bl false)) .nil) .nil) .nil)))) (.cons (.ret (.bl true)) .nil))))))
theorem v__law_hours_right (f__law_early f__law_keeps f__law_same f__law_spoilt f__law_whole f_is_hours : Fn) (a1 : D) : runC (q__law_hours_right f__law_early f__law_keeps f__law_same f__law_spoilt f__law_whole f_is_hours) [.deck, .val a1, .no, .no, .no, .no, .no, .no, .no] (fun _ => ok .non) = bnd (bnd (callW f__law_early [.val a1, .val (.tup [])]) fun x2 => biS .tuple [x2]) fun x1 => bnd (opS .add x1 (.tup [(.int 0)])) fun x3 => bnd (biS .list [x1]) fun x4 => bnd (bnd (intOf (.int 12)) fun j5 => chk (decide (-100000 ≤ j5 ∧ j5 ≤ 100000)) (ok (rngD 0 j5))) fun ds6 => forK (.nm 4) (fun ρ' k' => runC (p__law_hours_right_0 f__law_early f__law_keeps f__law_same f__law_spoilt f__law_whole f_is_hours) ρ' k') ds6 [.deck, .val a1, .val x1, .own [x1, x3, x4], .no, .no, .no, .no, .no] fun ρ7 => runC (p__law_hours_right_1 f__law_early f__law_keeps f__law_same f__law_spoilt f__law_whole f_is_hours) ρ7 fun _ => ok .non := by kernel_rfl
theorem u__law_hours_right (a1 : D) : f__law_hours_right.sem [.deck, .val a1] = bnd (bnd (callW f__law_early [.val a1, .val (.tup [])]) fun x2 => biS .tuple [x2]) fun x1 => bnd (opS .add x1 (.tup [(.int 0)])) fun x3 => bnd (biS .list [x1]) fun x4 => bnd (bnd (intOf (.int 12)) fun j5 => chk (decide (-100000 ≤ j5 ∧ j5 ≤ 100000)) (ok (rngD 0 j5))) fun ds6 => forK (.nm 4) (fun ρ' k' => runC (p__law_hours_right_0 f__law_early f__law_keeps f__law_same f__law_spoilt f__law_whole f_is_hours) ρ' k') ds6 [.deck, .val a1, .val x1, .own [x1, x3, x4], .no, .no, .no, .no, .no] fun ρ7 => runC (p__law_hours_right_1 f__law_early f__law_keeps f__law_same f__law_spoilt f__law_whole f_is_hours) ρ7 fun _ => ok .non := semC2 (m := 9) (b := t__law_hours_right) (pro := [0]) (dds := []) (as := [.deck, .val a1]) (b2 := q__law_hours_right f__law_early f__law_keeps f__law_same f__law_spoilt f__law_whole f_is_hours) (ρ := [.deck, .val a1, .no, .no, .no, .no, .no, .no, .no]) (by kernel_rfl) (by kernel_rfl) (by kernel_rfl) (by kernel_rfl) (v__law_hours_right f__law_early f__law_keeps f__law_same f__law_spoilt f__law_whole f_is_hours a1)
def p_law_0 (f__law_hours_right f__law_is_story f__law_same f__law_spoilt f__law_story f_is_hours f_is_story : Fn) : Sts := (.cons (.mkdeck 2 (.var 1) (.int 1)) (.cons (.set 3 (.call f__law_story (.deck 2 (.val (.int 5) (.val (.op .pow (.int 10) (.int 30)) .nil))))) (.cons (.set 4 (.call f__law_spoilt (.deck 2 (.val (.var 3) .nil)))) (.cons (.set 5 (.lst (.cons (.var 3) (.cons (.var 4) (.cons (.call f__law_spoilt (.deck 2 (.val (.var 4) .nil))) (.cons (.ix (.var 3) (.int 1)) .nil)))))) (.cons (.set 5 (.op .add (.var 5) (.lst (.cons (.bi .list (.cons (.var 3) .nil)) (.cons .non (.cons (.tup .nil) (.cons (.slc (.var 3) .none (.some (.int 2))) .nil))))))) (.cons (.for_ (.nm 6) (.seq (.op .add (.var 5) (.comp (.call f__law_spoilt (.deck 2 (.val (.var 3) .nil))) (.nm 7) (.rng1 (.int 40)) .none [7]))) (.cons (.set 8 (.call f__law_is_story (.val (.var 6) .nil))) (.cons (.iff (.not (.call f__law_same (.val (.call f_is_story (.val (.var 6) .nil)) (.val (.var 8) .nil)))) (.cons (.ret (.bl false)) .nil) .nil) (.cons
  (.iff (.and (.cons (.not (.var 8)) (.cons (.cmp .ne (.tryl (.call f_is_hours (.val (.var 6) (.val .non .nil)))) (.str (Str.ofString "story +"))) .nil))) (.cons (.ret (.bl false)) .nil) .nil) .nil)))) (.cons (.iff (.not (.call f__law_hours_right (.deck 2 (.val (.var 3) .nil)))) (.cons (.ret (.bl false)) .nil) .nil) .nil)))))))
def p_law_1 (f__law_hours_right f__law_is_story f__law_same f__law_spoilt f__law_story f_is_hours f_is_story : Fn) : Sts := (.cons (.set 9 (.tup (.cons (.tup (.cons (.str (Str.ofString "learn")) (.cons (.int 0) (.cons (.int 1) .nil)))) (.cons (.tup (.cons (.str (Str.ofString "meet")) (.cons (.tup (.cons (.int 0) (.cons (.int 1) .nil))) .nil))) .nil)))) (.cons (.setO 10 (.lst (.cons (.tup (.cons (.int 2) (.cons (.var 9) (.cons (.tup (.cons (.tup (.cons (.int 0) (.cons (.int 1) (.cons (.int 0) (.cons (.int 0) .nil))))) (.cons (.tup (.cons (.int 1) (.cons (.int 0) (.cons (.int 0) (.cons .non .nil))))) .nil))) .nil)))) .nil))) (.cons (.app 10 (.tup (.cons (.int 2) (.cons (.var 9) (.cons (.tup (.cons (.tup (.cons (.int 0) (.cons (.int 1) (.cons (.int 1) (.cons (.int 1) .nil))))) (.cons (.tup (.cons (.int 1) (.cons (.int 0) (.cons (.int 0) (.cons .non .nil))))) .nil))) .nil))))) (.cons (.set 10 (.op .add (.own 10) (.lst (.cons (.tup (.cons (.int 2) (.cons (.var 9) (.cons (.tup (.cons (.tup (.cons (.int 0) (.cons
  (.int 1) (.cons .non (.cons .non .nil))))) .nil)) .nil)))) (.cons (.tup (.cons (.int 2) (.cons (.var 9) (.cons (.op .mul (.tup (.cons (.tup (.cons (.int 0) (.cons (.int 1) (.cons (.int 0) (.cons (.int 1) .nil))))) .nil)) (.int 4)) .nil)))) .nil))))) (.cons (.set 10 (.op .add (.var 10) (.lst (.cons (.tup (.cons (.int 2) (.cons (.var 9) (.cons (.op .mul (.tup (.cons (.tup (.cons (.int 0) (.cons (.int 1) (.cons (.int 0) (.cons (.int 1) .nil))))) .nil)) (.int 5)) .nil)))) (.cons (.tup (.cons (.int 6) (.cons (.var 9) (.cons (.tup .nil) .nil)))) .nil))))) (.cons (.set 10 (.op .add (.var 10) (.lst (.cons (.tup (.cons (.int 2) (.cons (.tup .nil) (.cons (.tup .nil) .nil)))) (.cons (.tup (.cons (.int 2) (.cons (.op .mul (.var 9) (.int 3)) (.cons (.tup .nil) .nil)))) .nil))))) (.cons (.set 10 (.op .add (.var 10) (.lst (.cons (.tup (.cons (.int 2) (.cons (.tup (.cons (.tup (.cons (.str (Str.ofString
  "meet")) (.cons (.tup (.cons (.int 1) (.cons (.int 0) .nil))) .nil))) .nil)) (.cons (.tup .nil) .nil)))) (.cons (.tup (.cons (.int 2) (.cons (.tup (.cons (.tup (.cons (.str (Str.ofString "learn")) (.cons (.int 0) (.cons (.int 3) .nil)))) .nil)) (.cons (.tup .nil) .nil)))) .nil))))) (.cons (.set 10 (.op .add (.var 10) (.lst (.cons (.tup (.cons (.int 2) (.cons (.var 9) (.cons (.tup (.cons (.tup (.cons (.int 0) (.cons (.int 0) (.cons (.int 0) (.cons (.int 0) .nil))))) .nil)) .nil)))) (.cons (.tup (.cons (.int 2) (.cons (.slc (.var 9) (.some (.int 1)) .none) (.cons (.tup .nil) .nil)))) .nil))))) (.cons (.set 11 (.op .add (.op .add (.lst (.cons (.bl true) (.cons (.bl false) (.cons (.bl false) (.cons (.bl true) .nil))))) (.op .mul (.lst (.cons (.bl false) .nil)) (.int 7))) (.lst (.cons (.bl true) .nil)))) (.cons (.iff (.cmp .ne (.comp (.call f_is_story (.val (.var 6) .nil)) (.nm 6) (.seq (.var
  10)) .none [6]) (.var 11)) (.cons (.ret (.bl false)) .nil) .nil) (.cons (.set 12 (.tup (.cons (.int 2) (.cons (.var 9) (.cons (.tup (.cons (.tup (.cons (.int 0) (.cons (.int 1) (.cons (.int 0) (.cons (.int 3) .nil))))) .nil)) .nil))))) (.cons (.ret (.and (.cons (.cmp .isT (.call f_is_hours (.val (.var 12) (.val (.tup (.cons (.int 4) (.cons (.int 7) .nil))) .nil))) (.bl true)) (.cons (.cmp .isT (.call f_is_hours (.val (.var 12) (.val (.tup (.cons (.int 4) (.cons (.int 8) .nil))) .nil))) (.bl false)) .nil)))) .nil))))))))))))
def p_law_2 (f__law_hours_right f__law_is_story f__law_same f__law_spoilt f__law_story f_is_hours f_is_story : Fn) : Sts := (.cons (.set 3 (.call f__law_story (.deck 2 (.val (.int 5) (.val (.op .pow (.int 10) (.int 30)) .nil))))) (.cons (.set 4 (.call f__law_spoilt (.deck 2 (.val (.var 3) .nil)))) (.cons (.set 5 (.lst (.cons (.var 3) (.cons (.var 4) (.cons (.call f__law_spoilt (.deck 2 (.val (.var 4) .nil))) (.cons (.ix (.var 3) (.int 1)) .nil)))))) (.cons (.set 5 (.op .add (.var 5) (.lst (.cons (.bi .list (.cons (.var 3) .nil)) (.cons .non (.cons (.tup .nil) (.cons (.slc (.var 3) .none (.some (.int 2))) .nil))))))) (.cons (.for_ (.nm 6) (.seq (.op .add (.var 5) (.comp (.call f__law_spoilt (.deck 2 (.val (.var 3) .nil))) (.nm 7) (.rng1 (.int 40)) .none [7]))) (.cons (.set 8 (.call f__law_is_story (.val (.var 6) .nil))) (.cons (.iff (.not (.call f__law_same (.val (.call f_is_story (.val (.var 6) .nil)) (.val (.var 8) .nil)))) (.cons (.ret (.bl false)) .nil) .nil) (.cons (.iff (.and (.cons (.not (.var 8)) (.cons
  (.cmp .ne (.tryl (.call f_is_hours (.val (.var 6) (.val .non .nil)))) (.str (Str.ofString "story +"))) .nil))) (.cons (.ret (.bl false)) .nil) .nil) .nil)))) (.cons (.iff (.not (.call f__law_hours_right (.deck 2 (.val (.var 3) .nil)))) (.cons (.ret (.bl false)) .nil) .nil) .nil))))))
def p_law_3 (f__law_hours_right f__law_is_story f__law_same f__law_spoilt f__law_story f_is_hours f_is_story : Fn) : Sts := (.cons (.set 8 (.call f__law_is_story (.val (.var 6) .nil))) (.cons (.iff (.not (.call f__law_same (.val (.call f_is_story (.val (.var 6) .nil)) (.val (.var 8) .nil)))) (.cons (.ret (.bl false)) .nil) .nil) (.cons (.iff (.and (.cons (.not (.var 8)) (.cons (.cmp .ne (.tryl (.call f_is_hours (.val (.var 6) (.val .non .nil)))) (.str (Str.ofString "story +"))) .nil))) (.cons (.ret (.bl false)) .nil) .nil) .nil)))
def p_law_4 (f__law_hours_right f__law_is_story f__law_same f__law_spoilt f__law_story f_is_hours f_is_story : Fn) : Sts := (.cons (.iff (.not (.call f__law_hours_right (.deck 2 (.val (.var 3) .nil)))) (.cons (.ret (.bl false)) .nil) .nil) .nil)
-- p_law_0
theorem w_law_0 (f__law_hours_right f__law_is_story f__law_same f__law_spoilt f__law_story f_is_hours f_is_story : Fn) (s0 : D) (s1 : D) (s2 : Sl) (s3 : Sl) (s4 : Sl) (s5 : Sl) (s6 : Sl) (s8 : Sl) (s9 : Sl) (s10 : Sl) (s11 : Sl) (s12 : Sl) (k' : Ev → W D) : runC (p_law_0 f__law_hours_right f__law_is_story f__law_same f__law_spoilt f__law_story f_is_hours f_is_story) [.val s0, .val s1, s2, s3, s4, s5, s6, .no, s8, s9, s10, s11, s12] k' = fin (deckW 2 [.val s0, .val s1, s2, s3, s4, s5, s6, .no, s8, s9, s10, s11, s12] [s1, (.int 1)]) fun ρ6 => runC (p_law_2 f__law_hours_right f__law_is_story f__law_same f__law_spoilt f__law_story f_is_hours f_is_story) ρ6 k' := by kernel_rfl
-- p_law_2
theorem w_law_2 (f__law_hours_right f__law_is_story f__law_same f__law_spoilt f__law_story f_is_hours f_is_story : Fn) (s0 : D) (s1 : D) (s3 : Sl) (s4 : Sl) (s5 : Sl) (s6 : Sl) (s8 : Sl) (s9 : Sl) (s10 : Sl) (s11 : Sl) (s12 : Sl) (k' : Ev → W D) : runC (p_law_2 f__law_hours_right f__law_is_story f__law_same f__law_spoilt f__law_story f_is_hours f_is_story) [.val s0, .val s1, .deck, s3, s4, s5, s6, .no, s8, s9, s10, s11, s12] k' = bnd (bnd (opS .pow (.int 10) (.int 30)) fun x8 => callW f__law_story [.deck, .val (.int 5), .val x8]) fun x7 => bnd (callW f__law_spoilt [.deck, .val x7]) fun x9 => bnd (callW f__law_spoilt [.deck, .val x9]) fun x10 => bnd (ixS x7 (.int 1)) fun x11 => bnd (bnd (biS .list [x7]) fun x13 => bnd (bnd (intOf (.int 2)) fun i15 => slS x7 none (some i15)) fun x14 => opS .add (.lst [x7, x9, x10, x11]) (.lst [x13, .non, (.tup []), x14])) fun x12 => bnd (bnd (bnd (bnd (intOf (.int 40)) fun j18 => chk (decide (-100000 ≤ j18 ∧ j18 ≤ 100000)) (ok (rngD 0 j18))) fun ds19 => nox (bnd (gatW (fun d20 => bnd (callW f__law_spoilt [.deck, .val x7]) fun y21 => ok [y21]) ds19) fun ys => ok (.lst ys))) fun x17 => opS .add x12 x17) fun x16 => bnd (itemsD x16) fun ds22 => forK (.nm 6) (fun ρ' k' => runC (p_law_3 f__law_hours_right f__law_is_story f__law_same f__law_spoilt f__law_story f_is_hours f_is_story) ρ' k') ds22 [.val s0, .val s1, .deck, .val x7, .val x9, .val x12, s6, .no, s8, s9, s10, s11, s12] fun ρ23 => runC (p_law_4 f__law_hours_right f__law_is_story f__law_same f__law_spoilt f__law_story f_is_hours f_is_story) ρ23 k' := by kernel_rfl
-- p_law_3
theorem w_law_3 (f__law_hours_right f__law_is_story f__law_same f__law_spoilt f__law_story f_is_hours f_is_story : Fn) (s0 : D) (s1 : D) (s3 : D) (s4 : D) (s5 : D) (s6 : D) (s8 : Sl) (s9 : Sl) (s10 : Sl) (s11 : Sl) (s12 : Sl) (k' : Ev → W D) : runC (p_law_3 f__law_hours_right f__law_is_story f__law_same f__law_spoilt f__law_story f_is_hours f_is_story) [.val s0, .val s1, .deck, .val s3, .val s4, .val s5, .val s6, .no, s8, s9, s10, s11, s12] k' = bnd (callW f__law_is_story [.val s6]) fun x24 => bnd (bnd (bnd (bnd (callW f_is_story [.val s6]) fun x28 => callW f__law_same [.val x28, .val x24]) fun x27 => asB x27) fun k26 => ok (!k26)) fun c25 => ife c25
    (ok (.bl false))
    (bnd (bnd (bnd (asB x24) fun k33 => ok (!k33)) fun k32 => ife k32 (bnd (bnd (tryW (callW f_is_hours [.val s6, .val .non])) fun x31 => cmS .ne x31 (.str (Str.ofString "story +"))) fun x30 => asB x30) (ok false)) fun c29 => ife c29
    (ok (.bl false))
    (k' [.val s0, .val s1, .deck, .val s3, .val s4, .val s5, .val s6, .no, .val x24, s9, s10, s11, s12])) := by kernel_rfl
-- p_law_4
theorem w_law_4 (f__law_hours_right f__law_is_story f__law_same f__law_spoilt f__law_story f_is_hours f_is_story : Fn) (s0 : D) (s1 : D) (s3 : D) (s4 : D) (s5 : D) (s6 : Sl) (s8 : Sl) (s9 : Sl) (s10 : Sl) (s11 : Sl) (s12 : Sl) (k' : Ev → W D) : runC (p_law_4 f__law_hours_right f__law_is_story f__law_same f__law_spoilt f__law_story f_is_hours f_is_story) [.val s0, .val s1, .deck, .val s3, .val s4, .val s5, s6, .no, s8, s9, s10, s11, s12] k' = bnd (bnd (bnd (callW f__law_hours_right [.deck, .val s3]) fun x36 => asB x36) fun k35 => ok (!k35)) fun c34 => ife c34
    (ok (.bl false))
    (k' [.val s0, .val s1, .deck, .val s3, .val s4, .val s5, s6, .no, s8, s9, s10, s11, s12]) := by kernel_rfl
def q_law (f__law_hours_right f__law_is_story f__law_same f__law_spoilt f__law_story f_is_hours f_is_story : Fn) : Sts := (.cons (.for_ (.nm 1) (.seq (.slc (.op .add (.lst (.cons (.int 0) .nil)) (.var 0)) .none (.some (.int 10)))) (.cons (.mkdeck 2 (.var 1) (.int 1)) (.cons (.set 3 (.call f__law_story (.deck 2 (.val (.int 5) (.val (.op .pow (.int 10) (.int 30)) .nil))))) (.cons (.set 4 (.call f__law_spoilt (.deck 2 (.val (.var 3) .nil)))) (.cons (.set 5 (.lst (.cons (.var 3) (.cons (.var 4) (.cons (.call f__law_spoilt (.deck 2 (.val (.var 4) .nil))) (.cons (.ix (.var 3) (.int 1)) .nil)))))) (.cons (.set 5 (.op .add (.var 5) (.lst (.cons (.bi .list (.cons (.var 3) .nil)) (.cons .non (.cons (.tup .nil) (.cons (.slc (.var 3) .none (.some (.int 2))) .nil))))))) (.cons (.for_ (.nm 6) (.seq (.op .add (.var 5) (.comp (.call f__law_spoilt (.deck 2 (.val (.var 3) .nil))) (.nm 7) (.rng1 (.int 40)) .none [7]))) (.cons (.set 8 (.call f__law_is_story (.val (.var 6) .nil))) (.cons (.iff (.not (.call f__law_same (.val
  (.call f_is_story (.val (.var 6) .nil)) (.val (.var 8) .nil)))) (.cons (.ret (.bl false)) .nil) .nil) (.cons (.iff (.and (.cons (.not (.var 8)) (.cons (.cmp .ne (.tryl (.call f_is_hours (.val (.var 6) (.val .non .nil)))) (.str (Str.ofString "story +"))) .nil))) (.cons (.ret (.bl false)) .nil) .nil) .nil)))) (.cons (.iff (.not (.call f__law_hours_right (.deck 2 (.val (.var 3) .nil)))) (.cons (.ret (.bl false)) .nil) .nil) .nil)))))))) (.cons (.set 9 (.tup (.cons (.tup (.cons (.str (Str.ofString "learn")) (.cons (.int 0) (.cons (.int 1) .nil)))) (.cons (.tup (.cons (.str (Str.ofString "meet")) (.cons (.tup (.cons (.int 0) (.cons (.int 1) .nil))) .nil))) .nil)))) (.cons (.setO 10 (.lst (.cons (.tup (.cons (.int 2) (.cons (.var 9) (.cons (.tup (.cons (.tup (.cons (.int 0) (.cons (.int 1) (.cons (.int 0) (.cons (.int 0) .nil))))) (.cons (.tup (.cons (.int 1) (.cons (.int 0) (.cons (.int 0)
  (.cons .non .nil))))) .nil))) .nil)))) .nil))) (.cons (.app 10 (.tup (.cons (.int 2) (.cons (.var 9) (.cons (.tup (.cons (.tup (.cons (.int 0) (.cons (.int 1) (.cons (.int 1) (.cons (.int 1) .nil))))) (.cons (.tup (.cons (.int 1) (.cons (.int 0) (.cons (.int 0) (.cons .non .nil))))) .nil))) .nil))))) (.cons (.set 10 (.op .add (.own 10) (.lst (.cons (.tup (.cons (.int 2) (.cons (.var 9) (.cons (.tup (.cons (.tup (.cons (.int 0) (.cons (.int 1) (.cons .non (.cons .non .nil))))) .nil)) .nil)))) (.cons (.tup (.cons (.int 2) (.cons (.var 9) (.cons (.op .mul (.tup (.cons (.tup (.cons (.int 0) (.cons (.int 1) (.cons (.int 0) (.cons (.int 1) .nil))))) .nil)) (.int 4)) .nil)))) .nil))))) (.cons (.set 10 (.op .add (.var 10) (.lst (.cons (.tup (.cons (.int 2) (.cons (.var 9) (.cons (.op .mul (.tup (.cons (.tup (.cons (.int 0) (.cons (.int 1) (.cons (.int 0) (.cons (.int 1) .nil))))) .nil)) (.int 5))
  .nil)))) (.cons (.tup (.cons (.int 6) (.cons (.var 9) (.cons (.tup .nil) .nil)))) .nil))))) (.cons (.set 10 (.op .add (.var 10) (.lst (.cons (.tup (.cons (.int 2) (.cons (.tup .nil) (.cons (.tup .nil) .nil)))) (.cons (.tup (.cons (.int 2) (.cons (.op .mul (.var 9) (.int 3)) (.cons (.tup .nil) .nil)))) .nil))))) (.cons (.set 10 (.op .add (.var 10) (.lst (.cons (.tup (.cons (.int 2) (.cons (.tup (.cons (.tup (.cons (.str (Str.ofString "meet")) (.cons (.tup (.cons (.int 1) (.cons (.int 0) .nil))) .nil))) .nil)) (.cons (.tup .nil) .nil)))) (.cons (.tup (.cons (.int 2) (.cons (.tup (.cons (.tup (.cons (.str (Str.ofString "learn")) (.cons (.int 0) (.cons (.int 3) .nil)))) .nil)) (.cons (.tup .nil) .nil)))) .nil))))) (.cons (.set 10 (.op .add (.var 10) (.lst (.cons (.tup (.cons (.int 2) (.cons (.var 9) (.cons (.tup (.cons (.tup (.cons (.int 0) (.cons (.int 0) (.cons (.int 0) (.cons (.int 0)
  .nil))))) .nil)) .nil)))) (.cons (.tup (.cons (.int 2) (.cons (.slc (.var 9) (.some (.int 1)) .none) (.cons (.tup .nil) .nil)))) .nil))))) (.cons (.set 11 (.op .add (.op .add (.lst (.cons (.bl true) (.cons (.bl false) (.cons (.bl false) (.cons (.bl true) .nil))))) (.op .mul (.lst (.cons (.bl false) .nil)) (.int 7))) (.lst (.cons (.bl true) .nil)))) (.cons (.iff (.cmp .ne (.comp (.call f_is_story (.val (.var 6) .nil)) (.nm 6) (.seq (.var 10)) .none [6]) (.var 11)) (.cons (.ret (.bl false)) .nil) .nil) (.cons (.set 12 (.tup (.cons (.int 2) (.cons (.var 9) (.cons (.tup (.cons (.tup (.cons (.int 0) (.cons (.int 1) (.cons (.int 0) (.cons (.int 3) .nil))))) .nil)) .nil))))) (.cons (.ret (.and (.cons (.cmp .isT (.call f_is_hours (.val (.var 12) (.val (.tup (.cons (.int 4) (.cons (.int 7) .nil))) .nil))) (.bl true)) (.cons (.cmp .isT (.call f_is_hours (.val (.var 12) (.val (.tup (.cons (.int 4)
  (.cons (.int 8) .nil))) .nil))) (.bl false)) .nil)))) .nil)))))))))))))
theorem v_law (f__law_hours_right f__law_is_story f__law_same f__law_spoilt f__law_story f_is_hours f_is_story : Fn) (a0 : D) : runC (q_law f__law_hours_right f__law_is_story f__law_same f__law_spoilt f__law_story f_is_hours f_is_story) [.val a0, .no, .no, .no, .no, .no, .no, .no, .no, .no, .no, .no, .no] (fun _ => ok .non) = bnd (bnd (opS .add (.lst [(.int 0)]) a0) fun x2 => bnd (intOf (.int 10)) fun i3 => slS x2 none (some i3)) fun x1 => bnd (itemsD x1) fun ds4 => forK (.nm 1) (fun ρ' k' => runC (p_law_0 f__law_hours_right f__law_is_story f__law_same f__law_spoilt f__law_story f_is_hours f_is_story) ρ' k') ds4 [.val a0, .no, .no, .no, .no, .no, .no, .no, .no, .no, .no, .no, .no] fun ρ5 => runC (p_law_1 f__law_hours_right f__law_is_story f__law_same f__law_spoilt f__law_story f_is_hours f_is_story) ρ5 fun _ => ok .non := by kernel_rfl
theorem u_law (a0 : D) : f_law.sem [.val a0] = bnd (bnd (opS .add (.lst [(.int 0)]) a0) fun x2 => bnd (intOf (.int 10)) fun i3 => slS x2 none (some i3)) fun x1 => bnd (itemsD x1) fun ds4 => forK (.nm 1) (fun ρ' k' => runC (p_law_0 f__law_hours_right f__law_is_story f__law_same f__law_spoilt f__law_story f_is_hours f_is_story) ρ' k') ds4 [.val a0, .no, .no, .no, .no, .no, .no, .no, .no, .no, .no, .no, .no] fun ρ5 => runC (p_law_1 f__law_hours_right f__law_is_story f__law_same f__law_spoilt f__law_story f_is_hours f_is_story) ρ5 fun _ => ok .non := semC2 (m := 13) (b := t_law) (pro := []) (dds := []) (as := [.val a0]) (b2 := q_law f__law_hours_right f__law_is_story f__law_same f__law_spoilt f__law_story f_is_hours f_is_story) (ρ := [.val a0, .no, .no, .no, .no, .no, .no, .no, .no, .no, .no, .no, .no]) (by kernel_rfl) (by kernel_rfl) (by kernel_rfl) (by kernel_rfl) (v_law f__law_hours_right f__law_is_story f__law_same f__law_spoilt f__law_story f_is_hours f_is_story a0)
end Z
end
-- MP1
section
set_option Elab.async false
set_option linter.all false
set_option maxRecDepth 100000
set_option maxHeartbeats 1000000
/-! MP1: stories recognized: the program's side. -/
namespace Z
open PySem
theorem ix0 (a : D) (r : List D) : ixS (.tup (a :: r)) (.int 0) = ok a := rfl
theorem ix1 (a b : D) (r : List D) : ixS (.tup (a :: b :: r)) (.int 1) = ok b := rfl
theorem ix2 (a b c : D) (r : List D) : ixS (.tup (a :: b :: c :: r)) (.int 2) = ok c := rfl
theorem ix3 (a b c d : D) (r : List D) : ixS (.tup (a :: b :: c :: d :: r)) (.int 3) = ok d := rfl
/-- an int between bounds -/
def isW (lo hi : Int) : D → Bool
  | .int i => decide (lo ≤ i) && decide (i ≤ hi)
  | _ => false
theorem c_within {d : D} (lo hi : Int) (h : d.ok = true) : callW f_is_within [.val d, .val (.int lo), .val (.int hi)] = ok (.bl (isW lo hi d)) := by
  refine callW_of ?_ rfl
  rw [u_is_within]
  cases d with
  | int i => exact ife_bl_and _ _
  | obj a => cases h
  | _ => rfl
def hasI (lo hi : Int) : D → Bool
  | .tup xs => decide (lo ≤ (xs.length : Int)) && decide ((xs.length : Int) ≤ hi)
  | _ => false
theorem c_items {d : D} (lo hi : Int) (h : d.ok = true) : callW f_has_items [.val d, .val (.int lo), .val (.int hi)] = ok (.bl (hasI lo hi d)) := by
  refine callW_of ?_ rfl
  rw [u_has_items]
  cases d with
  | tup i => exact ife_bl_and _ _
  | obj a => cases h
  | _ => rfl
def ascI : List Int → Bool
  | a :: b :: r => decide (a < b) && ascI (b :: r)
  | _ => true
/-- numbers of people, ascending -/
def isPpl (m : Int) (d : D) : Bool := match d with
  | .tup ps => (match intsD ps with
    | some ns => ns.all (fun i => decide (0 ≤ i) && decide (i ≤ m - 1)) && ascI ns
    | none => false)
  | _ => false
def isEv (m : Int) : D → Bool
  | .tup [.str x, a, b] => decide (x = "learn") && (isW 0 (m - 1) a && isW 1 2 b)
  | .tup [.str x, a] => decide (x = "meet") && (hasI 2 m a && isPpl m a)
  | _ => false
theorem eqv_str (x y : Str) : D.eqv (.str x) (.str y) = decide (x = y) := beqStr x y
theorem isW_all {lo hi : Int} : ∀ {ps : List D}, (ps.map (isW lo hi)).all id = true → ∃ ns : List Int, ps = ns.map D.int ∧ ∀ i ∈ ns, lo ≤ i ∧ i ≤ hi
  | [], _ => ⟨[], rfl, fun i hi => by cases hi⟩
  | p :: ps, h => by
    rw [List.map_cons, List.all_cons, Bool.and_eq_true] at h
    obtain ⟨ns, rfl, h2⟩ := isW_all h.2
    cases p with
    | int i =>
      have h1 : (decide (lo ≤ i) && decide (i ≤ hi)) = true := h.1
      rw [Bool.and_eq_true, decide_eq_true_eq, decide_eq_true_eq] at h1
      exact ⟨i :: ns, rfl, fun j hj => by
        rcases List.mem_cons.mp hj with rfl | hj
        · exact h1
        · exact h2 j hj⟩
    | _ => exact absurd h.1 Bool.false_ne_true
theorem all_isW {lo hi : Int} : ∀ (ns : List Int), ((ns.map D.int).map (isW lo hi)).all id = ns.all (fun i => decide (lo ≤ i) && decide (i ≤ hi))
  | [] => rfl
  | n :: ns => by rw [List.map_cons, List.map_cons, List.all_cons, List.all_cons, all_isW ns]; rfl
theorem intsD_none {lo hi : Int} : ∀ {ps : List D}, intsD ps = none → (ps.map (isW lo hi)).all id = false
  | [], h => by cases h
  | .int i :: r, h => by
    have h : (intsD r).map (i :: ·) = none := h
    rw [Option.map_eq_none_iff] at h
    rw [List.map_cons, List.all_cons, intsD_none h, Bool.and_false]
  | .non :: r, h => rfl
  | .bl _ :: r, h => rfl
  | .str _ :: r, h => rfl
  | .lst _ :: r, h => rfl
  | .tup _ :: r, h => rfl
  | .obj _ :: r, h => rfl
theorem isPpl_eq (m : Int) (ps : List D) : isPpl m (.tup ps) = ((ps.map (isW 0 (m - 1))).all id && (match intsD ps with | some ns => ascI ns | none => true)) := by
  show (match intsD ps with | some ns => _ | none => false) = _
  cases h : intsD ps with
  | none => rw [intsD_none h]; rfl
  | some ns =>
    rw [intsD_map h, all_isW]
/-- a < b for the neighbours -/
theorem zip_asc : ∀ (ns : List Int), gatW (fun d44 => bnd (bindT (.tup (.cons (.nm 2) (.cons (.nm 3) .nil))) d44 [a0, a1, .no, .no]) fun r45 => bnd (evC .none r45) fun k46 => ife k46 (bnd (evE (.cmp .lt (.var 2) (.var 3)) r45) fun y47 => ok [y47]) (ok []))
    (zipD (ns.map D.int) ((ns.map D.int).drop 1)) = ok ((ns.zip (ns.drop 1)).map fun p => D.bl (decide (p.1 < p.2)))
  | [] => rfl
  | [n] => rfl
  | n :: m :: r => by
    have ih := zip_asc (a0 := a0) (a1 := a1) (m :: r)
    show (bnd (ok [D.bl (decide (n < m))]) fun ys => bnd (gatW _ (zipD ((m :: r).map D.int) (((m :: r).map D.int).drop 1))) fun zs => ok (ys ++ zs)) = _
    rw [ih]; rfl
theorem asc_all : ∀ (ns : List Int), ((ns.zip (ns.drop 1)).map fun p => decide (p.1 < p.2)).all id = ascI ns
  | [] => rfl
  | [n] => rfl
  | n :: m :: r => by
    have ih := asc_all (m :: r)
    show (decide (n < m) && (((m :: r).zip ((m :: r).drop 1)).map fun p => decide (p.1 < p.2)).all id) = _
    rw [ih]; rfl
theorem sl1 (a : D) (r : List D) : slS (.tup (a :: r)) (some 1) none = ok (.tup r) := by
  show ok (D.tup (cutD (a :: r) (some 1) none)) = _
  congr 2
  unfold cutD six
  simp
theorem bi_str (s : Str) : biS .isStr [.str s] = ok (.bl true) := rfl
theorem bi_lenT (xs : List D) : biS .len [.tup xs] = ok (.int (xs.length : Int)) := rfl
theorem bi_lenL (xs : List D) : biS .len [.lst xs] = ok (.int (xs.length : Int)) := rfl
theorem beqInt (i j : Int) : (i == j) = decide (i = j) := by
  by_cases h : i = j <;> simp [h]
theorem cm_int_eq (i j : Int) : cmS .eq (.int i) (.int j) = ok (.bl (decide (i = j))) := by
  rw [cm_eq (eqOk_r rfl rfl (Nat.zero_le _))]
  show ok (D.bl (i == j)) = _
  rw [beqInt]
theorem cm_int_ne (i j : Int) : cmS .ne (.int i) (.int j) = ok (.bl (!decide (i = j))) := by
  rw [cm_ne (eqOk_r rfl rfl (Nat.zero_le _))]
  show ok (D.bl (!(i == j))) = _
  rw [beqInt]
theorem len2 (a b : D) : ([a, b].length : Int) = 2 := rfl
theorem len3 (a b c : D) : ([a, b, c].length : Int) = 3 := rfl
theorem dec22 : decide ((2 : Int) = 2) = true := rfl
theorem cut1 {α : Type} (l : List α) : cutD l (some 1) none = l.drop 1 := by
  unfold cutD six
  cases l with
  | nil => rfl
  | cons a r =>
    have e : min (Int.toNat 1) (a :: r).length = 1 := by simp
    simp only [show ¬ ((1 : Int) < 0) by decide, if_false, e]
    rw [List.take_of_length_le]
    simp
theorem c_event {m : Int} {v : D} {k : Nat} (h : Nc k v) (hk : k ≤ 40) (hm : m ≤ 1000) : callW f_is_event_value [.val (.int m), .val v] = ok (.bl (isEv m v)) := by
  refine callW_of ?_ rfl
  rw [u_is_event_value, c_items 2 3 h.1]
  have hne : hasI 2 3 v = false → isEv m v = false := fun e => by
    unfold isEv
    split
    · simp [hasI] at e
    · simp [hasI] at e
    · rfl
  cases hi : hasI 2 3 v with
  | false => rw [hne hi]; rfl
  | true =>
    cases v with
    | tup xs =>
      have hx : ∀ x ∈ xs, x.ok = true := oks_iff.mp h.1
      have hl : xs.length = 2 ∨ xs.length = 3 := by
        unfold hasI at hi
        simp only [Bool.and_eq_true, decide_eq_true_eq] at hi
        omega
      match xs, hl with
      | [], hl => simp at hl
      | a :: r, hl =>
        by_cases hs : ∃ s, a = .str s
        · obtain ⟨s, rfl⟩ := hs
          have e1 : D.eqv (.str s) (.str (Str.ofString "learn")) = decide (s = "learn") := eqv_str _ _
          have q1 : cmS .eq (.str s) (.str (Str.ofString "learn")) = ok (.bl (decide (s = "learn"))) := by
            rw [cm_eq (eqOk_r (hx _ List.mem_cons_self) (by decide +kernel) (by decide)), e1]
          have q2 : cmS .ne (.str s) (.str (Str.ofString "meet")) = ok (.bl (!decide (s = "meet"))) := by
            rw [cm_ne (eqOk_r (hx _ List.mem_cons_self) (by decide +kernel) (by decide)), eqv_str]
          have one : opS .sub (.int m) (.int 1) = ok (.int (m - 1)) := rfl
          match r, hl with
          | [], hl => simp at hl
          | [b], _ =>
            have hb := hx b (by simp)
            simp only [bnd_ok, asB_bl, ife_true, ife_false, Bool.not_true, ix0, ix1, bi_str, q1, q2, bi_lenT, len2, cm_int_eq, cm_int_ne, one]
            by_cases h1 : s = "learn"
            · subst h1; rfl
            · rw [decide_eq_false h1]
              by_cases h2 : s = "meet"
              · subst h2
                simp only [ife_false, bnd_ok, Bool.not_true, decide_true, c_items 2 m hb, asB_bl, dec22]
                show _ = ok (D.bl (true && (hasI 2 m b && isPpl m b)))
                cases hh : hasI 2 m b with
                | false => rfl
                | true =>
                  cases b with
                  | tup ps =>
                    have hp : ∀ x ∈ ps, x.ok = true := oks_iff.mp hb
                    have g1 : gatW (fun d35 => bnd (callW f_is_within [.val d35, .val (.int 0), .val (.int (m - 1))]) fun y37 => ok [y37]) ps = ok (ps.map fun d => D.bl (isW 0 (m - 1) d)) := gatW_map fun d hd => by rw [c_within 0 (m - 1) (hp d hd)]; rfl
                    have e2 : (ps.map fun d => D.bl (isW 0 (m - 1) d)) = (ps.map (isW 0 (m - 1))).map D.bl := by rw [List.map_map]; rfl
                    have i0 : itemsD (.tup ps) = ok ps := rfl
                    simp only [ife_false, bnd_ok, Bool.not_true, i0, g1, e2, nox_ok, bi_all, asB_bl]
                    rw [isPpl_eq]
                    cases ha : (ps.map (isW 0 (m - 1))).all id with
                    | false => rfl
                    | true =>
                      obtain ⟨ns, rfl, _⟩ := isW_all ha
                      have hz : ∀ r, zipW (.tup (ns.map D.int)) (.tup r) = chk (decide ((ns.map D.int).length ≤ lim)) (ok (zipD (ns.map D.int) r)) := fun _ => rfl
                      have hlen : (ns.map D.int).length ≤ lim := by
                        unfold hasI at hh
                        simp only [Bool.and_eq_true, decide_eq_true_eq] at hh
                        unfold lim
                        omega
                      have hc : slS (.tup (ns.map D.int)) (some 1) none = ok (.tup ((ns.map D.int).drop 1)) := by
                        show ok (D.tup (cutD (ns.map D.int) (some 1) none)) = _
                        congr 2
                        exact cut1 _
                      have io : intOf (.int 1) = ok 1 := rfl
                      simp only [Bool.not_true, ife_false, bnd_ok, io, hc, hz, decide_eq_true hlen, chk_true, zip_asc, nox_ok]
                      have e3 : ((ns.zip (ns.drop 1)).map fun p => D.bl (decide (p.1 < p.2))) = ((ns.zip (ns.drop 1)).map fun p => decide (p.1 < p.2)).map D.bl := by rw [List.map_map]; rfl
                      rw [e3, bi_all, asc_all, intsD_mapI]; rfl
                  | _ => cases hh
              · rw [decide_eq_false h2]
                show _ = ok (D.bl (decide (s = "meet") && _))
                rw [decide_eq_false h2]; rfl
          | [b, c], _ =>
            have hb := hx b (by simp)
            have hc := hx c (by simp)
            simp only [bnd_ok, asB_bl, ife_true, ife_false, Bool.not_true, ix0, ix1, ix2, bi_str, q1, q2, bi_lenT, len3, cm_int_eq, cm_int_ne, one, c_within 0 (m - 1) hb, c_within 1 2 hc]
            by_cases h1 : s = "learn"
            · subst h1
              show _ = ok (D.bl (true && (isW 0 (m - 1) b && isW 1 2 c)))
              simp only [decide_true, ife_true, bnd_ok, asB_bl, ife_bl_and, Bool.true_and]
            · rw [decide_eq_false h1]
              show _ = ok (D.bl (decide (s = "learn") && _))
              rw [decide_eq_false h1]
              simp only [ife_false, bnd_ok]
              cases decide (s = "meet") <;> rfl
          | _ :: _ :: _ :: _, hl => simp at hl
        · have n0 : biS .isStr [a] = ok (.bl false) := by
            have := hx a List.mem_cons_self
            cases a with
            | str s => exact absurd ⟨s, rfl⟩ hs
            | obj a => cases this
            | _ => rfl
          have : isEv m (.tup (a :: r)) = false := by
            cases a with
            | str s => exact absurd ⟨s, rfl⟩ hs
            | _ => rfl
          rw [this]
          simp only [bnd_ok, asB_bl, ife_true, ife_false, Bool.not_true, ix0, n0]; rfl
    | _ => cases hi
end Z
end
-- MP2
section
set_option Elab.async false
set_option linter.all false
set_option maxRecDepth 100000
set_option maxHeartbeats 1000000
/-! MP2: facts, shapes: the program's side. -/
namespace Z
open PySem
def big30 : Int := 1000000000000000000000000000000
def isEnd : D → Bool
  | .non => true
  | d => isW (-big30) big30 d
theorem c_end {d : D} (h : d.ok = true) : callW f_is_end [.val d] = ok (.bl (isEnd d)) := by
  refine callW_of ?_ rfl
  rw [u_is_end]
  have e : (bnd (bnd (intOf (.int 1000000000000000000000000000000)) fun i2 => ok (D.int (-i2))) fun x1 => callW f_is_within [.val d, .val x1, .val (.int 1000000000000000000000000000000)]) = ok (.bl (isW (-big30) big30 d)) := c_within (-big30) big30 h
  rw [e, cm_isN]
  cases d <;> rfl
def noneIff (a b : D) : Bool := !D.eqv a b
/-- a fact of so many events -/
def isFc (m : Int) : D → Bool
  | .tup [a, b, l, h] => isW 0 (m - 1) a && (isW 0 (m - 1) b && (!D.eqv a b && (isEnd l && (isEnd h && (match l, h with
    | .non, .non => false
    | .non, _ => true
    | _, .non => true
    | .int i, .int j => decide (i ≤ j)
    | _, _ => false)))))
  | _ => false
theorem isEnd_cases {d : D} (h : isEnd d = true) : d = .non ∨ ∃ i, d = .int i ∧ -big30 ≤ i ∧ i ≤ big30 := by
  cases d with
  | non => exact .inl rfl
  | int i =>
    have h : (decide (-big30 ≤ i) && decide (i ≤ big30)) = true := h
    rw [Bool.and_eq_true, decide_eq_true_eq, decide_eq_true_eq] at h
    exact .inr ⟨i, rfl, h⟩
  | _ => cases h
theorem isW_cases {d : D} {lo hi : Int} (h : isW lo hi d = true) : ∃ i, d = .int i ∧ lo ≤ i ∧ i ≤ hi := by
  cases d with
  | int i =>
    have h : (decide (lo ≤ i) && decide (i ≤ hi)) = true := h
    rw [Bool.and_eq_true, decide_eq_true_eq, decide_eq_true_eq] at h
    exact ⟨i, rfl, h⟩
  | _ => cases h
theorem hasI_n {n : Int} {d : D} (h : hasI n n d = true) : ∃ xs, d = .tup xs ∧ (xs.length : Int) = n := by
  cases d with
  | tup xs =>
    have h : (decide (n ≤ (xs.length : Int)) && decide ((xs.length : Int) ≤ n)) = true := h
    rw [Bool.and_eq_true, decide_eq_true_eq, decide_eq_true_eq] at h
    exact ⟨xs, rfl, by omega⟩
  | _ => cases h
theorem four {xs : List D} (h : (xs.length : Int) = 4) : ∃ a b c d, xs = [a, b, c, d] := by
  match xs, h with
  | [a, b, c, d], _ => exact ⟨a, b, c, d, rfl⟩
  | [], h => simp at h
  | [_], h => simp at h
  | [_, _], h => simp at h
  | [_, _, _], h => simp at h
  | _ :: _ :: _ :: _ :: _ :: _, h => simp at h; omega
theorem three {xs : List D} (h : (xs.length : Int) = 3) : ∃ a b c, xs = [a, b, c] := by
  match xs, h with
  | [a, b, c], _ => exact ⟨a, b, c, rfl⟩
  | [], h => simp at h
  | [_], h => simp at h
  | [_, _], h => simp at h
  | _ :: _ :: _ :: _ :: _, h => simp at h; omega
theorem c_fact {m : Int} {v : D} {k : Nat} (h : Nc k v) (hk : k ≤ 40) : callW f_is_fact_value [.val (.int m), .val v] = ok (.bl (isFc m v)) := by
  refine callW_of ?_ rfl
  rw [u_is_fact_value, c_items 4 4 h.1]
  cases hi : hasI 4 4 v with
  | false =>
    have : isFc m v = false := by
      unfold isFc
      split
      · simp [hasI] at hi
      · rfl
    rw [this]; rfl
  | true =>
    obtain ⟨xs, rfl, hl⟩ := hasI_n hi
    obtain ⟨a, b, l, hh, rfl⟩ := four hl
    have hx : ∀ x ∈ [a, b, l, hh], x.ok = true := oks_iff.mp h.1
    have ha := hx a (by simp)
    have hb := hx b (by simp)
    have hl := hx l (by simp)
    have hh' := hx hh (by simp)
    have one : opS .sub (.int m) (.int 1) = ok (.int (m - 1)) := rfl
    simp only [bnd_ok, asB_bl, ife_true, ife_false, Bool.not_true, ix0, ix1, ix2, ix3, one, c_within 0 (m - 1) ha, c_within 0 (m - 1) hb, c_end hl, c_end hh', cm_isN]
    show _ = ok (D.bl (isW 0 (m - 1) a && (isW 0 (m - 1) b && (!D.eqv a b && (isEnd l && (isEnd hh && _))))))
    cases wa : isW 0 (m - 1) a with
    | false => rfl
    | true =>
      cases wb : isW 0 (m - 1) b with
      | false => rfl
      | true =>
        obtain ⟨i, rfl, _⟩ := isW_cases wa
        obtain ⟨j, rfl, _⟩ := isW_cases wb
        have e0 : D.eqv (.int i) (.int j) = decide (i = j) := beqInt i j
        rw [cm_int_eq, e0]
        simp only [Bool.not_true, ife_false, bnd_ok, asB_bl, Bool.true_and]
        cases dij : decide (i = j) with
        | true => rfl
        | false =>
          simp only [ife_false, bnd_ok, Bool.not_false, Bool.true_and]
          cases el : isEnd l with
          | false => rfl
          | true =>
            cases eh : isEnd hh with
            | false => rfl
            | true =>
              rcases isEnd_cases el with rfl | ⟨p, rfl, _⟩
              · rcases isEnd_cases eh with rfl | ⟨q, rfl, _⟩
                · rfl
                · rfl
              · rcases isEnd_cases eh with rfl | ⟨q, rfl, _⟩
                · rfl
                · rfl
/-- a story but for its bounds -/
def isSh : D → Bool
  | .tup [.int m, .tup es, .tup fs] => decide (2 ≤ m) && decide (m ≤ 5) && (decide (1 ≤ es.length) && decide (es.length ≤ 5) && ((es.map (isEv m)).all id && (decide (fs.length ≤ 4) && (fs.map (isFc (es.length : Int))).all id)))
  | _ => false
theorem c_shape {v : D} {k : Nat} (h : Nc k v) (hk : k ≤ 40) : callW f_is_shape [.val v] = ok (.bl (isSh v)) := by
  refine callW_of ?_ rfl
  rw [u_is_shape, c_items 3 3 h.1]
  cases hi : hasI 3 3 v with
  | false =>
    have : isSh v = false := by
      unfold isSh
      split
      · simp [hasI] at hi
      · rfl
    rw [this]; rfl
  | true =>
    obtain ⟨xs, rfl, hl⟩ := hasI_n hi
    obtain ⟨a, b, c, rfl⟩ := three hl
    have hx : ∀ x ∈ [a, b, c], x.ok = true := oks_iff.mp h.1
    have ha := hx a (by simp)
    have hb := hx b (by simp)
    have hc := hx c (by simp)
    simp only [bnd_ok, asB_bl, ife_true, ife_false, Bool.not_true, ix0, ix1, ix2, c_within 2 5 ha, c_items 1 5 hb, c_items 0 4 hc]
    cases wa : isW 2 5 a with
    | false =>
      have : isSh (.tup [a, b, c]) = false := by
        unfold isSh
        split
        · rename_i m es fs e
          cases e
          have wa : (decide (2 ≤ m) && decide (m ≤ 5)) = false := wa
          rw [wa]; rfl
        · rfl
      rw [this]; rfl
    | true =>
      obtain ⟨m, rfl, hm2, hm5⟩ := isW_cases wa
      cases wb : hasI 1 5 b with
      | false =>
        have : isSh (.tup [.int m, b, c]) = false := by
          unfold isSh
          split
          · rename_i m' es fs e
            cases e
            have wb : (decide ((1 : Int) ≤ (es.length : Int)) && decide ((es.length : Int) ≤ 5)) = false := wb
            have : (decide (1 ≤ es.length) && decide (es.length ≤ 5)) = false := by
              rw [← wb]
              congr 1 <;> exact decide_eq_decide.mpr (by omega)
            rw [this]; simp
          · rfl
        rw [this]; rfl
      | true =>
        cases b with
        | tup es =>
          have he : ∀ x ∈ es, Nc k x := fun x hx' => by
            have h2 : Nc k (.tup [.int m, .tup es, c]) := h
            cases k with
            | zero => exact absurd h2.2 (by show ¬ deps _ + 1 ≤ 0; omega)
            | succ k =>
              have h3 := nc_tup.mp h2 (.tup es) (by simp)
              cases k with
              | zero => exact absurd h3.2 (by show ¬ deps _ + 1 ≤ 0; omega)
              | succ k => exact (nc_tup.mp h3 x hx').mono (by omega)
          have wb : (decide ((1 : Int) ≤ (es.length : Int)) && decide ((es.length : Int) ≤ 5)) = true := wb
          rw [Bool.and_eq_true, decide_eq_true_eq, decide_eq_true_eq] at wb
          have g1 : gatW (fun d22 => bnd (callW f_is_event_value [.val (.int m), .val d22]) fun y24 => ok [y24]) es = ok (es.map fun d => D.bl (isEv m d)) := gatW_map fun d hd => by rw [c_event (he d hd) hk (by omega)]; rfl
          have e2 : (es.map fun d => D.bl (isEv m d)) = (es.map (isEv m)).map D.bl := by rw [List.map_map]; rfl
          have i0 : itemsD (.tup es) = ok es := rfl
          simp only [Bool.not_true, ife_false, bnd_ok, i0, g1, e2, nox_ok, bi_all, asB_bl]
          cases ae : (es.map (isEv m)).all id with
          | false =>
            have : isSh (.tup [.int m, .tup es, c]) = false := by
              unfold isSh
              split
              · rename_i e; cases e; rw [ae]; simp
              · rfl
            rw [this]; rfl
          | true =>
            cases wc : hasI 0 4 c with
            | false =>
              have : isSh (.tup [.int m, .tup es, c]) = false := by
                unfold isSh
                split
                · rename_i m' es' fs e; cases e
                  have wc : (decide ((0 : Int) ≤ (fs.length : Int)) && decide ((fs.length : Int) ≤ 4)) = false := wc
                  have : decide (fs.length ≤ 4) = false := by
                    rw [decide_eq_true (by omega : (0 : Int) ≤ (fs.length : Int)), Bool.true_and] at wc
                    rw [← wc]
                    exact decide_eq_decide.mpr (by omega)
                  rw [this]; simp
                · rfl
              rw [this]; rfl
            | true =>
              cases c with
              | tup fs =>
                have wc : (decide ((0 : Int) ≤ (fs.length : Int)) && decide ((fs.length : Int) ≤ 4)) = true := wc
                rw [Bool.and_eq_true, decide_eq_true_eq, decide_eq_true_eq] at wc
                have hf : ∀ x ∈ fs, Nc k x := fun x hx' => by
                  have h2 : Nc k (.tup [.int m, .tup es, .tup fs]) := h
                  cases k with
                  | zero => exact absurd h2.2 (by show ¬ deps _ + 1 ≤ 0; omega)
                  | succ k =>
                    have h3 := nc_tup.mp h2 (.tup fs) (by simp)
                    cases k with
                    | zero => exact absurd h3.2 (by show ¬ deps _ + 1 ≤ 0; omega)
                    | succ k => exact (nc_tup.mp h3 x hx').mono (by omega)
                have g2 : gatW (fun d28 => bnd (callW f_is_fact_value [.val (.int (es.length : Int)), .val d28]) fun y31 => ok [y31]) fs = ok (fs.map fun d => D.bl (isFc (es.length : Int) d)) := gatW_map fun d hd => by rw [c_fact (hf d hd) hk]; rfl
                have e3 : (fs.map fun d => D.bl (isFc (es.length : Int) d)) = (fs.map (isFc (es.length : Int))).map D.bl := by rw [List.map_map]; rfl
                have i1 : itemsD (.tup fs) = ok fs := rfl
                simp only [Bool.not_true, ife_false, bnd_ok, i1, bi_lenT, g2, e3, nox_ok, bi_all, asB_bl]
                show _ = ok (D.bl (decide (2 ≤ m) && decide (m ≤ 5) && (decide (1 ≤ es.length) && decide (es.length ≤ 5) && ((es.map (isEv m)).all id && (decide (fs.length ≤ 4) && (fs.map (isFc (es.length : Int))).all id)))))
                rw [ae, decide_eq_true hm2, decide_eq_true hm5, decide_eq_true (by omega : 1 ≤ es.length), decide_eq_true (by omega : es.length ≤ 5), decide_eq_true (by omega : fs.length ≤ 4)]
                rfl
              | _ => cases wc
        | _ => cases wb
end Z
end
-- MP3
section
set_option Elab.async false
set_option linter.all false
set_option maxRecDepth 100000
set_option maxHeartbeats 1000000
/-! MP3: bounds: the program's side. -/
namespace Z
open PySem
def oI : Option Int → D
  | none => .non
  | some i => .int i
def rowD (n : Nat) (g : Bd) (i : Nat) : D := .tup ((List.range n).map fun j => oI (g i j))
def mxD (n : Nat) (g : Bd) : D := .tup ((List.range n).map fun i => rowD n g i)
def mxo (n : Nat) : Option Bd → D
  | none => .non
  | some g => mxD n g
theorem isN_oI (a : Option Int) : isNoneD (oI a) = a.isNone := by cases a <;> rfl
theorem c_lesser (a b : Option Int) : callW f_lesser [.val (oI a), .val (oI b)] = ok (oI (lsr a b)) := by
  refine callW_of ?_ rfl
  rw [u_lesser, cm_isN, cm_isN]
  cases a with
  | none => cases b <;> rfl
  | some a =>
    cases b with
    | none => rfl
    | some b => rfl
theorem c_summed (a b : Option Int) : callW f_summed [.val (oI a), .val (oI b)] = ok (oI (smd a b)) := by
  refine callW_of ?_ rfl
  rw [u_summed, cm_isN, cm_isN]
  cases a with
  | none => cases b <;> rfl
  | some a =>
    cases b with
    | none => rfl
    | some b => rfl
theorem ix_mx {n : Nat} {g : Bd} {i : Nat} (h : i < n) : ixS (mxD n g) (.int (i : Int)) = ok (rowD n g i) := ix_tup (by rw [List.getElem?_map, List.getElem?_range h]; rfl)
theorem ix_row {n : Nat} {g : Bd} {i j : Nat} (h : j < n) : ixS (rowD n g i) (.int (j : Int)) = ok (oI (g i j)) := ix_tup (by rw [List.getElem?_map, List.getElem?_range h]; rfl)
theorem c_closer {n : Nat} {g : Bd} {f s p q : Nat} (m : Int) (hf : f < n) (hs : s < n) (hp : p < n) (hq : q < n) :
    callW f_closer [.val (mxD n g), .val (.int (f : Int)), .val (.int (s : Int)), .val (.int (p : Int)), .val (.int (q : Int)), .val (.int m)] = ok (oI (clo g p q m f s)) := by
  refine callW_of ?_ rfl
  rw [u_closer]
  have e : D.int m = oI (some m) := rfl
  simp only [ix_mx hf, ix_mx hq, ix_row hs, ix_row hp, bnd_ok]
  rw [e, c_summed]
  simp only [bnd_ok, c_summed, c_lesser]
  rfl
theorem tupL (xs : List D) : biS .tuple [.lst xs] = ok (.tup xs) := rfl
theorem itL (xs : List D) : itemsD (.lst xs) = ok xs := rfl
theorem itT (xs : List D) : itemsD (.tup xs) = ok xs := rfl
theorem listR_nat {n : Nat} (h : n ≤ 100000) : biS .listR [.int (n : Int)] = ok (.lst ((List.range n).map fun (i : Nat) => D.int (i : Int))) := by
  show chk (decide (-100000 ≤ (n : Int) ∧ (n : Int) ≤ 100000)) (ok (D.lst ((List.range (n : Int).toNat).map fun (i : Nat) => D.int (i : Int)))) = _
  rw [decide_eq_true (by omega)]; rfl
theorem c_bound {n : Nat} {o : Option Bd} {p q : Nat} (m : Int) (hn : n ≤ 1000) (hp : p < n) (hq : q < n) :
    callW f_with_bound [.val (mxo n o), .val (.int (p : Int)), .val (.int (q : Int)), .val (.int m)] = ok (mxo n (o.bind fun g => wbd g p q m)) := by
  refine callW_of ?_ rfl
  rw [u_with_bound, cm_isN]
  cases o with
  | none => rfl
  | some g =>
    have hin : isNoneD (mxo n (some g)) = false := rfl
    have hmx : mxo n (some g) = mxD n g := rfl
    have hlen : biS .len [mxD n g] = ok (.int (n : Int)) := by
      show ok (D.int (((List.range n).map fun i => rowD n g i).length : Int)) = _
      rw [List.length_map, List.length_range]
    have hclo : (bnd (itemsD (D.lst ((List.range n).map fun (i : Nat) => D.int (i : Int)))) fun ds21 => nox (bnd (gatW (fun d22 => bnd (bnd (bnd (itemsD (.lst ((List.range n).map fun (i : Nat) => D.int (i : Int)))) fun ds24 => nox (bnd (gatW (fun d25 => bnd (callW f_closer [.val (mxD n g), .val d22, .val d25, .val (.int (p : Int)), .val (.int (q : Int)), .val (.int m)]) fun y26 => ok [y26]) ds24) fun ys => ok (D.lst ys))) fun x23 => biS .tuple [x23]) fun y27 => ok [y27]) ds21) fun ys => ok (D.lst ys))) = ok (D.lst ((List.range n).map fun i => rowD n (clo g p q m) i)) := by
      rw [itL, bnd_ok]
      have hrow : ∀ i ∈ List.range n, (bnd (bnd (bnd (ok ((List.range n).map fun (i : Nat) => D.int (i : Int))) fun ds24 => nox (bnd (gatW (fun d25 => bnd (callW f_closer [.val (mxD n g), .val (D.int (i : Int)), .val d25, .val (.int (p : Int)), .val (.int (q : Int)), .val (.int m)]) fun y26 => ok [y26]) ds24) fun ys => ok (D.lst ys))) fun x23 => biS .tuple [x23]) fun y27 => ok [y27]) = ok [rowD n (clo g p q m) i] := fun i hi => by
        rw [bnd_ok, gatW_mapM (g := fun j => oI (clo g p q m i j)) fun j hj => by rw [c_closer m (List.mem_range.mp hi) (List.mem_range.mp hj) hp hq]; rfl]
        rfl
      rw [gatW_mapM (g := fun i => rowD n (clo g p q m) i) hrow]
      rfl
    rw [hin, hmx]
    simp only [bnd_ok, asB_bl, ife_false, ix_mx hp, ix_mx hq, ix_row hp, ix_row hq, cm_notN, isN_oI, hlen, listR_nat (show n ≤ 100000 by omega), hclo, tupL]
    have hlast : ∀ (c : Bool), (if c = true then some g else some (clo g p q m)) = some (if c = true then g else clo g p q m) := fun c => by cases c <;> rfl
    show _ = ok (mxo n (wbd g p q m))
    unfold wbd
    cases h1 : g q p with
    | none =>
      cases h2 : g p q with
      | none => rfl
      | some c =>
        show ife (decide (c ≤ m)) (ok (mxD n g)) (ok (mxD n (clo g p q m))) = ok (mxo n (if c ≤ m then some g else some (clo g p q m)))
        by_cases hc : c ≤ m
        · rw [decide_eq_true hc, if_pos hc]; rfl
        · rw [decide_eq_false hc, if_neg hc]; rfl
    | some b =>
      show ife (decide (b + m < 0)) (ok .non) _ = ok (mxo n (if b + m < 0 then none else _))
      by_cases hb : b + m < 0
      · rw [decide_eq_true hb, if_pos hb]; rfl
      · rw [decide_eq_false hb, if_neg hb]
        cases h2 : g p q with
        | none => rfl
        | some c =>
          show ife (decide (c ≤ m)) (ok (mxD n g)) (ok (mxD n (clo g p q m))) = ok (mxo n (if c ≤ m then some g else some (clo g p q m)))
          by_cases hc : c ≤ m
          · rw [decide_eq_true hc, if_pos hc]; rfl
          · rw [decide_eq_false hc, if_neg hc]; rfl
def fcD (f : Fct) : D := .tup [.int (f.a : Int), .int (f.b : Int), oI f.low, oI f.high]
theorem c_wfact {n : Nat} {o : Option Bd} {f : Fct} (hn : n ≤ 1000) (ha : f.a < n) (hb : f.b < n) : callW f_with_fact [.val (mxo n o), .val (fcD f)] = ok (mxo n (wft o f)) := by
  refine callW_of ?_ rfl
  rw [u_with_fact]
  show runC (p_with_fact_0 f_with_bound) [.val (mxo n o), .val (fcD f), .val (.int (f.a : Int)), .val (.int (f.b : Int)), .val (oI f.low), .val (oI f.high)] _ = _
  rw [w_with_fact_0, cm_notN, cm_notN, isN_oI, isN_oI]
  unfold wft wlo whi
  cases h1 : f.low with
  | none =>
    cases h2 : f.high with
    | none => rfl
    | some h =>
      have e := c_bound (o := o) h hn hb ha
      show (bnd (callW f_with_bound [.val (mxo n o), .val (.int (f.b : Int)), .val (.int (f.a : Int)), .val (.int h)]) fun x => ok x) = _
      rw [e]; rfl
  | some l =>
    have e1 := c_bound (o := o) (-l) hn ha hb
    cases h2 : f.high with
    | none =>
      show (bnd (callW f_with_bound [.val (mxo n o), .val (.int (f.a : Int)), .val (.int (f.b : Int)), .val (.int (-l))]) fun x => ok x) = _
      rw [e1]; rfl
    | some h =>
      show (bnd (callW f_with_bound [.val (mxo n o), .val (.int (f.a : Int)), .val (.int (f.b : Int)), .val (.int (-l))]) fun x => bnd (callW f_with_bound [.val x, .val (.int (f.b : Int)), .val (.int (f.a : Int)), .val (.int h)]) fun x => ok x) = _
      rw [e1, bnd_ok, c_bound h hn hb ha]; rfl
theorem c_nob {n : Nat} (hn : n ≤ 1000) : callW f_no_bounds [.val (.int (n : Int))] = ok (mxD n bd0) := by
  refine callW_of ?_ rfl
  rw [u_no_bounds]
  rw [rngW n (by omega), bnd_ok]
  have hrow : ∀ i ∈ List.range n, (bnd (bnd (bnd (ok ((List.range n).map fun (i : Nat) => D.int (i : Int))) fun ds7 => nox (bnd (gatW (fun d8 => bnd (bnd (cmS .eq (D.int (i : Int)) d8) fun x9 => bnd (asB x9) fun k10 => ife k10 (ok (.int 0)) (ok .non)) fun y11 => ok [y11]) ds7) fun ys => ok (D.lst ys))) fun x5 => biS .tuple [x5]) fun y12 => ok [y12]) = ok [rowD n bd0 i] := fun i hi => by
    rw [bnd_ok, gatW_mapM (g := fun j => oI (bd0 i j)) fun j hj => by
      rw [cm_int_eq, bnd_ok, asB_bl, bnd_ok]
      unfold bd0
      by_cases e : i = j
      · rw [if_pos e, decide_eq_true (by omega)]; rfl
      · rw [if_neg e, decide_eq_false (by omega)]; rfl]
    rfl
  rw [gatW_mapM (g := fun i => rowD n bd0 i) hrow]
  rfl
theorem forK_fold {t : Tg} {b : Ev → (Ev → W D) → W D} {S : Type} {α : Type} {e : α → D} (E : S → Ev) (st : S → α → S) (P : S → Prop) (k : Ev → W D) :
    ∀ (as : List α) (s : S), P s → (∀ a ∈ as, ∀ s, P s → P (st s a) ∧ ∀ k, (bnd (bindT t (e a) (E s)) fun ρ1 => b ρ1 k) = k (E (st s a))) → forK t b (as.map e) (E s) k = k (E (as.foldl st s)) ∧ P (as.foldl st s)
  | [], s, hs, _ => ⟨rfl, hs⟩
  | a :: as, s, hs, h => by
    obtain ⟨h1, h2⟩ := h a List.mem_cons_self s hs
    obtain ⟨h3, h4⟩ := forK_fold E st P k as (st s a) h1 fun c hc => h c (List.mem_cons_of_mem _ hc)
    refine ⟨?_, h4⟩
    show (bnd (bindT t (e a) (E s)) fun ρ1 => b ρ1 fun ρ2 => forK t b (as.map e) ρ2 k) = _
    rw [h2]; exact h3
theorem c_boundsOf {n : Nat} {m : D} {es : List D} {fs : List Fct} (hn : es.length = n) (hn2 : n ≤ 1000) (hf : Fin n fs) : callW f_bounds_of [.val (.tup [m, .tup es, .tup (fs.map fcD)])] = ok (mxo n (bdOf fs)) := by
  refine callW_of ?_ rfl
  rw [u_bounds_of, ix1, bnd_ok, bi_lenT, hn, bnd_ok, c_nob hn2, bnd_ok, ix2, bnd_ok, itT, bnd_ok]
  have go : ∀ (gs : List Fct) (st : D) (o : Option Bd) (x : Sl), Fin n gs → forK (.nm 2) (fun ρ' k' => runC (p_bounds_of_0 f_no_bounds f_with_fact) ρ' k') (gs.map fcD) [.val st, .val (mxo n o), x] (fun ρ6 => runC (p_bounds_of_1 f_no_bounds f_with_fact) ρ6 fun _ => ok .non) = ok (mxo n (gs.foldl wft o)) := by
    intro gs
    induction gs with
    | nil => intro st o x _; exact w_bounds_of_1 f_no_bounds f_with_fact st (mxo n o) x _
    | cons g gs ih =>
      intro st o x hg
      show runC (p_bounds_of_0 f_no_bounds f_with_fact) [.val st, .val (mxo n o), .val (fcD g)] (fun ρ2 => forK (.nm 2) _ (gs.map fcD) ρ2 _) = _
      rw [w_bounds_of_0, c_wfact hn2 (hg g List.mem_cons_self).1 (hg g List.mem_cons_self).2, bnd_ok]
      exact ih st _ _ fun f hf => hg f (List.mem_cons_of_mem _ hf)
  exact go fs _ (some bd0) .no hf
/-! ### facts told -/
def toF : D → Option Fct
  | .tup [.int a, .int b, l, h] => some ⟨a.toNat, b.toNat, (match l with | .int i => some i | _ => none), (match h with | .int i => some i | _ => none)⟩
  | _ => none
theorem isFc_to {m : Int} {d : D} (h : isFc m d = true) : ∃ f, d = fcD f ∧ (f.a : Int) < m ∧ (f.b : Int) < m ∧ f.a ≠ f.b := by
  unfold isFc at h
  split at h
  · rename_i a b l hh
    simp only [Bool.and_eq_true] at h
    obtain ⟨h1, h2, h3, h4, h5, h6⟩ := h
    obtain ⟨i, rfl, i0, i1⟩ := isW_cases h1
    obtain ⟨j, rfl, j0, j1⟩ := isW_cases h2
    have e : (!D.eqv (.int i) (.int j)) = !decide (i = j) := congrArg (!·) (beqInt i j)
    rw [e] at h3
    have hne : i ≠ j := by simpa using h3
    have one : ∀ d, isEnd d = true → ∃ o : Option Int, d = oI o := fun d hd => by
      rcases isEnd_cases hd with rfl | ⟨p, rfl, _⟩
      · exact ⟨none, rfl⟩
      · exact ⟨some p, rfl⟩
    obtain ⟨lo, rfl⟩ := one l h4
    obtain ⟨hi, rfl⟩ := one hh h5
    refine ⟨⟨i.toNat, j.toNat, lo, hi⟩, ?_, ?_, ?_, ?_⟩
    · unfold fcD
      simp only
      rw [Int.toNat_of_nonneg i0, Int.toNat_of_nonneg j0]
    · show ((i.toNat : Nat) : Int) < m; omega
    · show ((j.toNat : Nat) : Int) < m; omega
    · show i.toNat ≠ j.toNat; omega
  · cases h
theorem facts_to {n : Nat} : ∀ {fs : List D}, (fs.map (isFc (n : Int))).all id = true → ∃ gs : List Fct, fs = gs.map fcD ∧ Fin n gs
  | [], _ => ⟨[], rfl, fun f hf => by cases hf⟩
  | d :: ds, h => by
    rw [List.map_cons, List.all_cons, Bool.and_eq_true] at h
    obtain ⟨f, rfl, h1, h2, _⟩ := isFc_to h.1
    obtain ⟨gs, rfl, h3⟩ := facts_to h.2
    exact ⟨f :: gs, rfl, fun g hg => by
      rcases List.mem_cons.mp hg with rfl | hg
      · exact ⟨by omega, by omega⟩
      · exact h3 g hg⟩
/-- a story's shape, opened -/
structure Sh (v : D) where
  m : Nat
  es : List D
  fs : List Fct
  eq : v = .tup [.int (m : Int), .tup es, .tup (fs.map fcD)]
  m2 : 2 ≤ m
  m5 : m ≤ 5
  e1 : 1 ≤ es.length
  e5 : es.length ≤ 5
  ev : ∀ e ∈ es, isEv (m : Int) e = true
  f4 : fs.length ≤ 4
  fin : Fin es.length fs
theorem isSh_to {v : D} (h : isSh v = true) : ∃ s : Sh v, True := by
  unfold isSh at h
  split at h
  · rename_i m es fs
    simp only [Bool.and_eq_true, decide_eq_true_eq] at h
    obtain ⟨⟨h1, h2⟩, ⟨h3, h4⟩, h5, h6, h7⟩ := h
    obtain ⟨gs, rfl, hg⟩ := facts_to h7
    have em : ((m.toNat : Nat) : Int) = m := Int.toNat_of_nonneg (by omega)
    refine ⟨⟨m.toNat, es, gs, by rw [em], by omega, by omega, h3, h4, fun e he => ?_, by simpa using h6, hg⟩, trivial⟩
    rw [em]
    have := List.all_eq_true.mp h5 (isEv m e) (List.mem_map.mpr ⟨e, he, rfl⟩)
    exact this
  · cases h
/-- whether a value is a story -/
def isSt (v : D) : Bool := match v with
  | .tup [_, .tup es, .tup fs] => isSh v && (bdOf (fs.filterMap toF)).isSome
  | _ => false
theorem toF_fcD (f : Fct) : toF (fcD f) = some f := by
  obtain ⟨a, b, l, h⟩ := f
  unfold fcD toF
  cases l <;> cases h <;> rfl
theorem filterMap_fcD : ∀ fs : List Fct, (fs.map fcD).filterMap toF = fs
  | [] => rfl
  | f :: fs => by rw [List.map_cons, List.filterMap_cons, toF_fcD, filterMap_fcD fs]
theorem isSt_sh {v : D} (h : isSt v = true) : isSh v = true := by
  unfold isSt at h
  split at h
  · exact (Bool.and_eq_true_iff.mp h).1
  · cases h
theorem isSt_of {v : D} (s : Sh v) (h : isSh v = true) : isSt v = (bdOf s.fs).isSome := by
  obtain ⟨m, es, fs, rfl, _, _, _, _, _, _, _⟩ := s
  show (isSh _ && (bdOf ((fs.map fcD).filterMap toF)).isSome) = (bdOf fs).isSome
  rw [h, filterMap_fcD]; rfl
theorem c_story {v : D} {k : Nat} (h : Nc k v) (hk : k ≤ 40) : callW f_is_story_value [.val v] = ok (.bl (isSt v)) := by
  refine callW_of ?_ rfl
  rw [u_is_story_value, c_shape h hk]
  cases hs : isSh v with
  | false =>
    have : isSt v = false := by
      cases hst : isSt v with
      | false => rfl
      | true => rw [isSt_sh hst] at hs; cases hs
    rw [this]; rfl
  | true =>
    obtain ⟨s, _⟩ := isSh_to hs
    rw [isSt_of s hs]
    have e := c_boundsOf (n := s.es.length) (m := .int (s.m : Int)) (es := s.es) (fs := s.fs) rfl (by have := s.e5; omega) s.fin
    rw [← s.eq] at e
    rw [e]
    cases bdOf s.fs <;> rfl
theorem c_isStory {v : D} {k : Nat} (h : Nc k v) (hk : k ≤ 40) : callW f_is_story [.val v] = ok (.bl (isSt v)) := by
  refine callW_of ?_ rfl
  rw [u_is_story, c_story h hk]
def eStory : Exc := ⟨Str.ofString "InvalidStory", none⟩
theorem c_needStory {v : D} {k : Nat} (h : Nc k v) (hk : k ≤ 40) (ht : isSt v = true) : callW f_need_story [.val v] = ok .non := by
  refine callW_of ?_ rfl
  rw [u_need_story, c_story h hk, ht]; rfl
theorem c_needStoryX {v : D} {k : Nat} (h : Nc k v) (hk : k ≤ 40) (ht : isSt v = false) : callW f_need_story [.val v] = rz eStory := by
  refine callW_rz ?_ rfl
  rw [u_need_story, c_story h hk, ht]; rfl
end Z
end
-- MP4
section
set_option Elab.async false
set_option linter.all false
set_option maxRecDepth 100000
set_option maxHeartbeats 1000000
/-! MP4: hours: the program's side. -/
namespace Z
open PySem
/-- whether hours keep a fact -/
def Fct.soB (f : Fct) (hs : List Int) : Bool := (match f.low with | none => true | some l => decide (l ≤ gt0 hs f.b - gt0 hs f.a)) && (match f.high with | none => true | some h => decide (gt0 hs f.b - gt0 hs f.a ≤ h))
theorem soB_iff (f : Fct) (hs : List Int) : f.soB hs = true ↔ f.so (gt0 hs) := by
  obtain ⟨a, b, lo, hi⟩ := f
  unfold Fct.soB Fct.so
  cases lo <;> cases hi <;> simp
theorem ix_hrs {hs : List Int} {i : Nat} (h : i < hs.length) : ixS (.tup (hs.map D.int)) (.int (i : Int)) = ok (.int (gt0 hs i)) :=
  ix_tup (by
    rw [List.getElem?_map, List.getElem?_eq_getElem h]
    unfold gt0
    rw [List.getElem?_eq_getElem h]; rfl)
theorem ix_hrsL {hs : List Int} {i : Nat} (h : i < hs.length) : ixS (.lst (hs.map D.int)) (.int (i : Int)) = ok (.int (gt0 hs i)) :=
  ix_lst (by
    rw [List.getElem?_map, List.getElem?_eq_getElem h]
    unfold gt0
    rw [List.getElem?_eq_getElem h]; rfl)
theorem c_keeps {hs : List Int} {f : Fct} (ha : f.a < hs.length) (hb : f.b < hs.length) : callW f_keeps [.val (.tup (hs.map D.int)), .val (fcD f)] = ok (.bl (f.soB hs)) := by
  refine callW_of ?_ rfl
  rw [u_keeps]
  show runC p_keeps_0 [.val (.tup (hs.map D.int)), .val (fcD f), .val (.int (f.a : Int)), .val (.int (f.b : Int)), .val (oI f.low), .val (oI f.high), .no] _ = _
  rw [w_keeps_0, ix_hrs ha, ix_hrs hb, bnd_ok, bnd_ok]
  have e : opS .sub (.int (gt0 hs f.b)) (.int (gt0 hs f.a)) = ok (.int (gt0 hs f.b - gt0 hs f.a)) := rfl
  rw [e, bnd_ok, cm_isN, cm_isN, isN_oI, isN_oI]
  unfold Fct.soB
  cases f.low with
  | none =>
    cases f.high with
    | none => rfl
    | some h => rfl
  | some l =>
    cases f.high with
    | none =>
      show ife (decide (l ≤ gt0 hs f.b - gt0 hs f.a)) (ok (D.bl true)) (ok (D.bl false)) = ok (D.bl (decide (l ≤ gt0 hs f.b - gt0 hs f.a) && true))
      exact ife_bl_and _ _
    | some h =>
      show ife (decide (l ≤ gt0 hs f.b - gt0 hs f.a)) (ok (D.bl (decide (gt0 hs f.b - gt0 hs f.a ≤ h)))) (ok (D.bl false)) = _
      exact ife_bl_and _ _
def big31 : Int := 10000000000000000000000000000000
/-- whether a value is hours for so many events and facts -/
def isHr (n : Nat) (fs : List Fct) : D → Bool
  | .tup ws => decide (ws.length = n) && (match intsD ws with
    | some hs => hs.all (fun i => decide (-big31 ≤ i) && decide (i ≤ big31)) && fs.all fun f => f.soB hs
    | none => false)
  | _ => false
theorem isHr_none {n : Nat} {fs : List Fct} {ws : List D} (h : (ws.map (isW (-big31) big31)).all id = false) : isHr n fs (.tup ws) = false := by
  show (decide (ws.length = n) && (match intsD ws with | some hs => _ | none => false)) = false
  cases q : intsD ws with
  | none => simp
  | some hs =>
    rw [intsD_map q, all_isW] at h
    show (decide (ws.length = n) && (hs.all (fun i => decide (-big31 ≤ i) && decide (i ≤ big31)) && _)) = false
    rw [h]; simp
theorem c_hours {m : D} {es : List D} {fs : List Fct} {w : D} {k : Nat} (he : es.length ≤ 1000) (hf : Fin es.length fs) (h : Nc k w) : callW f_are_hours [.val (.tup [m, .tup es, .tup (fs.map fcD)]), .val w] = ok (.bl (isHr es.length fs w)) := by
  refine callW_of ?_ rfl
  rw [u_are_hours, ix1, bnd_ok, bi_lenT, bnd_ok, c_items _ _ h.1]
  cases hi : hasI (es.length : Int) (es.length : Int) w with
  | false =>
    have : isHr es.length fs w = false := by
      unfold isHr
      split
      · rename_i ws
        have hi : (decide ((es.length : Int) ≤ (ws.length : Int)) && decide ((ws.length : Int) ≤ (es.length : Int))) = false := hi
        have : decide (ws.length = es.length) = false := by
          by_cases e : ws.length = es.length
          · rw [e] at hi; simp at hi
          · exact decide_eq_false e
        rw [this]; rfl
      · rfl
    rw [this]; rfl
  | true =>
    obtain ⟨ws, rfl, hl⟩ := hasI_n hi
    have hl : ws.length = es.length := by omega
    have hw : ∀ x ∈ ws, x.ok = true := oks_iff.mp h.1
    have g1 : gatW (fun d8 => bnd (bnd (bnd (bnd (intOf (.int 10)) fun i11 => ok (D.int (-i11))) fun x10 => opS .mul x10 (.int 1000000000000000000000000000000)) fun x9 => bnd (opS .mul (.int 10) (.int 1000000000000000000000000000000)) fun x12 => callW f_is_within [.val d8, .val x9, .val x12]) fun y13 => ok [y13]) ws = ok (ws.map fun d => D.bl (isW (-big31) big31 d)) := gatW_map fun d hd => by
      show (bnd (callW f_is_within [.val d, .val (.int (-10 * 1000000000000000000000000000000)), .val (.int (10 * 1000000000000000000000000000000))]) fun y => ok [y]) = _
      rw [c_within _ _ (hw d hd)]; rfl
    have e2 : (ws.map fun d => D.bl (isW (-big31) big31 d)) = (ws.map (isW (-big31) big31)).map D.bl := by rw [List.map_map]; rfl
    simp only [bnd_ok, asB_bl, Bool.not_true, ife_false, itT, g1, e2, nox_ok, bi_all]
    cases ha : (ws.map (isW (-big31) big31)).all id with
    | false => rw [isHr_none ha]; rfl
    | true =>
      obtain ⟨hs, rfl, _⟩ := isW_all ha
      have hl2 : hs.length = es.length := by rw [List.length_map] at hl; exact hl
      have g2 : gatW (fun d20 => bnd (callW f_keeps [.val (.tup (hs.map D.int)), .val d20]) fun y21 => ok [y21]) (fs.map fcD) = ok (fs.map fun f => D.bl (f.soB hs)) := gatW_mapM fun f hf2 => by
        rw [c_keeps (by rw [hl2]; exact (hf f hf2).1) (by rw [hl2]; exact (hf f hf2).2)]; rfl
      have e3 : (fs.map fun f => D.bl (f.soB hs)) = (fs.map fun f => f.soB hs).map D.bl := by rw [List.map_map]; rfl
      simp only [Bool.not_true, ife_false, bnd_ok, ix2, itT, g2, e3, nox_ok, bi_all]
      show _ = ok (D.bl (decide ((hs.map D.int).length = es.length) && (match intsD (hs.map D.int) with
        | some hs => hs.all (fun i => decide (-big31 ≤ i) && decide (i ≤ big31)) && fs.all fun f => f.soB hs
        | none => false)))
      rw [intsD_mapI, decide_eq_true hl]
      show _ = ok (D.bl (true && (hs.all (fun i => decide (-big31 ≤ i) && decide (i ≤ big31)) && fs.all fun f => f.soB hs)))
      rw [← all_isW, ha]
      congr 2
      show (fs.map fun f => f.soB hs).all id = (true && (true && fs.all fun f => f.soB hs))
      rw [Bool.true_and, Bool.true_and, List.all_map]; rfl
theorem c_isHours {v w : D} {k j : Nat} (h : Nc k v) (hk : k ≤ 40) (s : Sh v) (ht : isSt v = true) (hw : Nc j w) : callW f_is_hours [.val v, .val w] = ok (.bl (isHr s.es.length s.fs w)) := by
  refine callW_of ?_ rfl
  rw [u_is_hours, c_needStory h hk ht, bnd_ok]
  have e := c_hours (m := .int (s.m : Int)) (es := s.es) (fs := s.fs) (w := w) (by have := s.e5; omega) s.fin hw
  rw [← s.eq] at e
  exact e
theorem c_isHoursX {v w : D} {k : Nat} (h : Nc k v) (hk : k ≤ 40) (ht : isSt v = false) : callW f_is_hours [.val v, .val w] = rz eStory := by
  refine callW_rz ?_ rfl
  rw [u_is_hours, c_needStoryX h hk ht]; rfl
end Z
end
-- MS
section
set_option linter.all false
/-! MS: sorting: plain. -/
namespace Z
theorem mem_insI {α : Type} {lt : α → α → Bool} {x y : α} : ∀ {l : List α}, y ∈ insI lt x l ↔ y = x ∨ y ∈ l
  | [] => by simp [insI]
  | a :: r => by
    unfold insI
    split
    · simp
    · rw [List.mem_cons, mem_insI (l := r), List.mem_cons]
      constructor
      · rintro (h | h | h)
        · exact .inr (.inl h)
        · exact .inl h
        · exact .inr (.inr h)
      · rintro (h | h | h)
        · exact .inr (.inl h)
        · exact .inl h
        · exact .inr (.inr h)
theorem mem_foldI {α : Type} {lt : α → α → Bool} {y : α} : ∀ {l acc : List α}, y ∈ l.foldl (fun acc x => insI lt x acc) acc ↔ y ∈ l ∨ y ∈ acc
  | [], acc => by simp
  | a :: r, acc => by
    rw [List.foldl_cons, mem_foldI (l := r), mem_insI, List.mem_cons]
    constructor
    · rintro (h | h | h)
      · exact .inl (.inr h)
      · exact .inl (.inl h)
      · exact .inr h
    · rintro ((h | h) | h)
      · exact .inr (.inl h)
      · exact .inl h
      · exact .inr (.inr h)
theorem mem_srt {α : Type} {lt : α → α → Bool} {y : α} {l : List α} : y ∈ srt lt l ↔ y ∈ l := by
  unfold srt
  rw [mem_foldI]; simp
abbrev ltI : Int → Int → Bool := fun a b => decide (a < b)
theorem up_insI {x : Int} : ∀ {l : List Int}, l.Pairwise (· < ·) → x ∉ l → (insI ltI x l).Pairwise (· < ·)
  | [], _, _ => by simp [insI]
  | a :: r, h, hx => by
    rw [List.pairwise_cons] at h
    unfold insI
    split
    · rename_i hlt
      have hlt : x < a := of_decide_eq_true hlt
      rw [List.pairwise_cons]
      refine ⟨fun b hb => ?_, List.pairwise_cons.mpr h⟩
      rcases List.mem_cons.mp hb with e | hb
      · rw [e]; exact hlt
      · exact Int.lt_trans hlt (h.1 b hb)
    · rename_i hlt
      have hlt : ¬ x < a := fun z => hlt (decide_eq_true z)
      have hne : x ≠ a := fun e => hx (by rw [e]; exact List.mem_cons_self)
      rw [List.pairwise_cons]
      refine ⟨fun b hb => ?_, up_insI h.2 fun m => hx (List.mem_cons_of_mem _ m)⟩
      rcases mem_insI.mp hb with e | hb
      · rw [e]; omega
      · exact h.1 b hb
theorem up_foldI : ∀ {l acc : List Int}, acc.Pairwise (· < ·) → l.Nodup → (∀ x ∈ l, x ∉ acc) → (l.foldl (fun acc x => insI ltI x acc) acc).Pairwise (· < ·)
  | [], acc, h, _, _ => h
  | a :: r, acc, h, hn, hd => by
    rw [List.nodup_cons] at hn
    rw [List.foldl_cons]
    refine up_foldI (up_insI h (hd a List.mem_cons_self)) hn.2 fun x hx m => ?_
    rcases mem_insI.mp m with e | m
    · rw [e] at hx; exact hn.1 hx
    · exact hd x (List.mem_cons_of_mem _ hx) m
theorem up_uniq : ∀ {l r : List Int}, l.Pairwise (· < ·) → r.Pairwise (· < ·) → (∀ x, x ∈ l ↔ x ∈ r) → l = r
  | [], [], _, _, _ => rfl
  | [], b :: r, _, _, h => absurd ((h b).mpr List.mem_cons_self) (by simp)
  | a :: l, [], _, _, h => absurd ((h a).mp List.mem_cons_self) (by simp)
  | a :: l, b :: r, hl, hr, h => by
    rw [List.pairwise_cons] at hl hr
    have e : a = b := by
      have h1 := (h a).mp List.mem_cons_self
      have h2 := (h b).mpr List.mem_cons_self
      rcases List.mem_cons.mp h1 with e | h1
      · exact e
      · rcases List.mem_cons.mp h2 with e | h2
        · exact e.symm
        · have := hr.1 a h1; have := hl.1 b h2; omega
    subst e
    congr 1
    refine up_uniq hl.2 hr.2 fun x => ⟨fun hx => ?_, fun hx => ?_⟩
    · rcases List.mem_cons.mp ((h x).mp (List.mem_cons_of_mem _ hx)) with e | z
      · subst e; exact absurd (hl.1 x hx) (by omega)
      · exact z
    · rcases List.mem_cons.mp ((h x).mpr (List.mem_cons_of_mem _ hx)) with e | z
      · subst e; exact absurd (hr.1 x hx) (by omega)
      · exact z
theorem mem_edl {y : Int} : ∀ (n : Nat) (l : List Int), l.length ≤ n → (y ∈ l.eraseDups ↔ y ∈ l)
  | 0, [], _ => by simp
  | n + 1, [], _ => by simp
  | n + 1, a :: l, h => by
    rw [List.eraseDups_cons, List.mem_cons, List.mem_cons, mem_edl n _ (by
      have := List.length_filter_le (fun b => !b == a) l
      rw [List.length_cons] at h
      omega), List.mem_filter]
    constructor
    · rintro (h | h)
      · exact .inl h
      · exact .inr h.1
    · rintro (h | h)
      · exact .inl h
      · by_cases e : y = a
        · exact .inl e
        · exact .inr ⟨h, by simp [e]⟩
theorem mem_ed {y : Int} (l : List Int) : y ∈ l.eraseDups ↔ y ∈ l := mem_edl l.length l (Nat.le_refl _)
theorem nodup_edl : ∀ (n : Nat) (l : List Int), l.length ≤ n → l.eraseDups.Nodup
  | 0, [], _ => by simp
  | n + 1, [], _ => by simp
  | n + 1, a :: l, h => by
    have hl : (l.filter fun b => !b == a).length ≤ n := by
      have := List.length_filter_le (fun b => !b == a) l
      rw [List.length_cons] at h
      omega
    rw [List.eraseDups_cons, List.nodup_cons]
    refine ⟨fun m => ?_, nodup_edl n _ hl⟩
    rw [mem_edl n _ hl, List.mem_filter] at m
    simp at m
theorem nodup_ed (l : List Int) : l.eraseDups.Nodup := nodup_edl l.length l (Nat.le_refl _)
theorem mem_srtSet {y : Int} {l : List Int} : y ∈ srtSet l ↔ y ∈ l := by
  unfold srtSet
  rw [mem_srt, mem_ed]
theorem up_srtSet (l : List Int) : (srtSet l).Pairwise (· < ·) := up_foldI List.Pairwise.nil (nodup_ed l) fun _ _ => by simp
theorem srtSet_up {l : List Int} (h : l.Pairwise (· < ·)) : srtSet l = l := up_uniq (up_srtSet l) h fun _ => mem_srtSet
end Z
end
-- ML1
section
set_option Elab.async false
set_option linter.all false
set_option maxRecDepth 100000
set_option maxHeartbeats 1000000
/-! ML1: the law's side: events, facts. -/
namespace Z
open PySem
def isWh : D → Bool
  | .int _ => true
  | _ => false
theorem c_whole {d : D} (h : d.ok = true) : callW f__law_whole [.val d] = ok (.bl (isWh d)) := by
  refine callW_of ?_ rfl
  rw [u__law_whole]
  cases d with
  | obj a => cases h
  | _ => rfl
theorem c_number {d : D} (lo hi : Int) (h : d.ok = true) : callW f__law_number [.val d, .val (.int lo), .val (.int hi)] = ok (.bl (isW lo hi d)) := by
  refine callW_of ?_ rfl
  rw [u__law_number, c_whole h]
  cases d with
  | int i => exact ife_bl_and _ _
  | obj a => cases h
  | _ => rfl
/-- what is not so, is there any -/
theorem some_not {xs : List D} {q : D → Bool} (h : ∀ x ∈ xs, x.ok = true) : cmS .ne (.lst (xs.filter fun d => !q d)) (.lst []) = ok (.bl (!(xs.map q).all id)) := by
  have hok : D.ok (.lst (xs.filter fun d => !q d)) = true := oks_iff.mpr fun x hx => h x (List.mem_filter.mp hx).1
  rw [cm_ne (eqOk_r hok rfl (by decide))]
  congr 3
  have e : (xs.map q).all id = (xs.filter fun d => !q d).isEmpty := by
    clear hok h
    induction xs with
    | nil => rfl
    | cons a r ih =>
      rw [List.map_cons, List.all_cons, ih, List.filter_cons]
      cases q a <;> simp
  rw [e]
  cases xs.filter fun d => !q d <;> rfl
theorem gat_not {xs : List D} {q : D → Bool} {f : D → W D} (h : ∀ x ∈ xs, f x = ok (.bl (q x))) :
    gatW (fun d => bnd (bnd (f d) fun x => bnd (asB x) fun k => ok (.bl (!k))) fun x => bnd (asB x) fun k => ife k (ok [d]) (ok [])) xs = ok (xs.filter fun d => !q d) := by
  rw [gatW_filter (g := fun d => d) (p := fun d => !q d) fun d hd => by
    rw [h d hd]
    cases q d <;> rfl]
  rw [List.map_id']
theorem eqv_ints : ∀ (a b : List Int), eqvs (a.map D.int) (b.map D.int) = decide (a = b)
  | [], [] => rfl
  | [], _ :: _ => by simp [eqvs]
  | _ :: _, [] => by simp [eqvs]
  | x :: a, y :: b => by
    show (D.eqv (.int x) (.int y) && eqvs (a.map D.int) (b.map D.int)) = _
    rw [eqv_ints a b]
    show ((x == y) && _) = _
    rw [beqInt]
    by_cases h1 : x = y <;> by_cases h2 : a = b <;> simp [h1, h2]
theorem ascI_iff : ∀ (ns : List Int), ascI ns = true ↔ ns.Pairwise (· < ·)
  | [] => by simp [ascI]
  | [a] => by simp [ascI]
  | a :: b :: r => by
    show (decide (a < b) && ascI (b :: r)) = true ↔ _
    rw [Bool.and_eq_true, ascI_iff (b :: r), decide_eq_true_eq, List.pairwise_cons (a := a)]
    constructor
    · intro ⟨h1, h2⟩
      refine ⟨fun c hc => ?_, h2⟩
      rcases List.mem_cons.mp hc with e | hc
      · rw [e]; exact h1
      · exact Int.lt_trans h1 ((List.pairwise_cons.mp h2).1 c hc)
    · exact fun ⟨h1, h2⟩ => ⟨h1 b List.mem_cons_self, h2⟩
theorem srtSet_asc (ns : List Int) : decide (ns = srtSet ns) = ascI ns := by
  by_cases h : ascI ns = true
  · rw [h, srtSet_up ((ascI_iff ns).mp h)]; simp
  · have : ns ≠ srtSet ns := fun e => h ((ascI_iff ns).mpr (by rw [e]; exact up_srtSet ns))
    rw [decide_eq_false this]
    cases hh : ascI ns
    · rfl
    · exact absurd hh h
theorem c_levent {m : Int} {v : D} {k : Nat} (h : Nc k v) (hk : k ≤ 40) (hm : m ≤ 50) : callW f__law_is_event [.val (.int m), .val v] = ok (.bl (isEv m v)) := by
  refine callW_of ?_ rfl
  rw [u__law_is_event]
  have no : (∀ xs, v ≠ .tup xs) → biS .isTup [v] = ok (.bl false) ∧ isEv m v = false := fun hv => by
    have hok := h.1
    cases v with
    | tup xs => exact absurd rfl (hv xs)
    | obj a => cases hok
    | _ => exact ⟨rfl, rfl⟩
  by_cases hv : ∃ xs, v = .tup xs
  · obtain ⟨xs, rfl⟩ := hv
    have hx : ∀ x ∈ xs, x.ok = true := oks_iff.mp h.1
    have t1 : biS .isTup [.tup xs] = ok (.bl true) := rfl
    have nin : cmS .nin (.int (xs.length : Int)) (.lst [.int 2, .int 3]) = ok (.bl (!(decide ((xs.length : Int) = 2) || decide ((xs.length : Int) = 3)))) := by
      show chk (eqOk (.int (xs.length : Int)) (.lst [.int 2, .int 3])) (ok (D.bl (!(D.eqv (.int 2) (.int (xs.length : Int)) || (D.eqv (.int 3) (.int (xs.length : Int)) || false))))) = _
      have e1 : eqOk (.int (xs.length : Int)) (.lst [.int 2, .int 3]) = true := eqOk_l rfl (Nat.zero_le _) rfl
      rw [e1]
      show ok (D.bl (!((2 : Int) == (xs.length : Int) || ((3 : Int) == (xs.length : Int) || false)))) = _
      rw [beqInt, beqInt, Bool.or_false]
      congr 4 <;> exact decide_eq_decide.mpr ⟨fun e => e.symm, fun e => e.symm⟩
    rw [t1, bi_lenT]
    simp only [bnd_ok, asB_bl, Bool.not_true, ife_false, nin]
    by_cases hl : xs.length = 2 ∨ xs.length = 3
    · have hl' : (!(decide ((xs.length : Int) = 2) || decide ((xs.length : Int) = 3))) = false := by
        rcases hl with e | e <;> rw [e] <;> rfl
      rw [hl']
      simp only [ife_false, bnd_ok]
      match xs, hl with
      | [], hl => simp at hl
      | a :: r, hl =>
        by_cases hs : ∃ s, a = .str s
        · obtain ⟨s, rfl⟩ := hs
          have q1 : cmS .eq (.str s) (.str (Str.ofString "learn")) = ok (.bl (decide (s = "learn"))) := by
            rw [cm_eq (eqOk_r (hx _ List.mem_cons_self) (by decide +kernel) (by decide)), eqv_str]
          have q2 : cmS .ne (.str s) (.str (Str.ofString "meet")) = ok (.bl (!decide (s = "meet"))) := by
            rw [cm_ne (eqOk_r (hx _ List.mem_cons_self) (by decide +kernel) (by decide)), eqv_str]
          have one : opS .sub (.int m) (.int 1) = ok (.int (m - 1)) := rfl
          match r, hl with
          | [], hl => simp at hl
          | [b], _ =>
            have hb := hx b (by simp)
            simp only [bnd_ok, asB_bl, ife_true, ife_false, Bool.not_true, ix0, ix1, bi_str, q1, q2, len2, cm_int_eq, cm_int_ne, one]
            by_cases h1 : s = "learn"
            · subst h1; rfl
            · rw [decide_eq_false h1]
              by_cases h2 : s = "meet"
              · subst h2
                simp only [ife_false, bnd_ok, Bool.not_true, decide_true, asB_bl, dec22]
                show _ = ok (D.bl (true && (hasI 2 m b && isPpl m b)))
                have no : (∀ xs, b ≠ .tup xs) → biS .isTup [b] = ok (.bl false) ∧ hasI 2 m b = false := fun hv => by
                  cases b with
                  | tup xs => exact absurd rfl (hv xs)
                  | obj a => cases hb
                  | _ => exact ⟨rfl, rfl⟩
                by_cases hbt : ∃ ps, b = .tup ps
                · obtain ⟨ps, rfl⟩ := hbt
                  have hp : ∀ x ∈ ps, x.ok = true := oks_iff.mp hb
                  have t2 : biS .isTup [.tup ps] = ok (.bl true) := rfl
                  have ch : (bnd (cmS .le (.int 2) (.int (ps.length : Int))) fun d38 => bnd (asB d38) fun k39 => ife k39 (cmS .le (.int (ps.length : Int)) (.int m)) (ok (.bl false))) = ok (.bl (hasI 2 m (.tup ps))) := ife_bl_and _ _
                  simp only [t2, bi_lenT, bnd_ok, asB_bl, Bool.not_true, ife_false, ch]
                  cases hh : hasI 2 m (.tup ps) with
                  | false => rfl
                  | true =>
                    simp only [Bool.not_true, ife_false, itT, bnd_ok, gat_not fun x hx => c_number 0 (m - 1) (hp x hx), nox_ok, some_not hp, asB_bl]
                    rw [isPpl_eq]
                    cases ha : (ps.map (isW 0 (m - 1))).all id with
                    | false => rfl
                    | true =>
                      obtain ⟨ns, rfl, _⟩ := isW_all ha
                      have hlen : ns.length ≤ 60 := by
                        unfold hasI at hh
                        simp only [Bool.and_eq_true, decide_eq_true_eq] at hh
                        rw [List.length_map] at hh
                        omega
                      have s1 : biS .list [.tup (ns.map D.int)] = ok (.lst (ns.map D.int)) := rfl
                      have s2 : biS .sortedSet [.tup (ns.map D.int)] = ok (.lst ((srtSet ns).map D.int)) := by
                        show (bnd (oW (intsD (ns.map D.int))) fun ns => chk (decide (ns.length ≤ 60)) (ok (D.lst ((srtSet ns).map .int)))) = _
                        rw [intsD_mapI]
                        show chk (decide (ns.length ≤ 60)) _ = _
                        rw [decide_eq_true hlen]; rfl
                      have okI : ∀ l : List Int, D.ok (.lst (l.map D.int)) = true := fun l => oks_iff.mpr fun x hx => by
                        obtain ⟨i, _, rfl⟩ := List.mem_map.mp hx; rfl
                      have dpI : ∀ l : List Int, D.dep (.lst (l.map D.int)) ≤ 40 := fun l => by
                        show deps (l.map D.int) + 1 ≤ 40
                        have : deps (l.map D.int) ≤ 0 := deps_iff.mpr fun x hx => by
                          obtain ⟨i, _, rfl⟩ := List.mem_map.mp hx; exact Nat.le_refl _
                        omega
                      simp only [Bool.not_true, ife_false, bnd_ok, s1, s2]
                      rw [cm_eq (eqOk_l (okI ns) (dpI ns) (okI _))]
                      show ok (D.bl (eqvs (ns.map D.int) ((srtSet ns).map D.int))) = _
                      rw [eqv_ints, srtSet_asc, intsD_mapI]; rfl
                · obtain ⟨e1, e2⟩ := no fun ps e => hbt ⟨ps, e⟩
                  rw [e1, e2]; rfl
              · rw [decide_eq_false h2]
                show _ = ok (D.bl (decide (s = "meet") && _))
                rw [decide_eq_false h2]; rfl
          | [b, c], _ =>
            have hb := hx b (by simp)
            have hc := hx c (by simp)
            simp only [bnd_ok, asB_bl, ife_true, ife_false, Bool.not_true, ix0, ix1, ix2, bi_str, q1, q2, len3, cm_int_eq, cm_int_ne, one, c_number 0 (m - 1) hb, c_number 1 2 hc]
            by_cases h1 : s = "learn"
            · subst h1
              show _ = ok (D.bl (true && (isW 0 (m - 1) b && isW 1 2 c)))
              simp only [decide_true, ife_true, bnd_ok, asB_bl, Bool.true_and, Bool.not_true, ife_false]
              cases isW 0 (m - 1) b <;> rfl
            · rw [decide_eq_false h1]
              show _ = ok (D.bl (decide (s = "learn") && _))
              rw [decide_eq_false h1]
              simp only [ife_false, bnd_ok]
              cases decide (s = "meet") <;> rfl
          | _ :: _ :: _ :: _, hl => simp at hl
        · have n0 : biS .isStr [a] = ok (.bl false) := by
            have := hx a List.mem_cons_self
            cases a with
            | str s => exact absurd ⟨s, rfl⟩ hs
            | obj a => cases this
            | _ => rfl
          have : isEv m (.tup (a :: r)) = false := by
            cases a with
            | str s => exact absurd ⟨s, rfl⟩ hs
            | _ => rfl
          rw [this]
          simp only [bnd_ok, asB_bl, ife_true, ife_false, Bool.not_true, Bool.not_false, ix0, n0]
    · have hl' : (!(decide ((xs.length : Int) = 2) || decide ((xs.length : Int) = 3))) = true := by
        rw [decide_eq_false (by omega), decide_eq_false (by omega)]; rfl
      have : isEv m (.tup xs) = false := by
        unfold isEv
        split
        · rename_i e; cases e; simp at hl
        · rename_i e; cases e; simp at hl
        · rfl
      rw [hl', this]; rfl
  · obtain ⟨e1, e2⟩ := no fun xs e => hv ⟨xs, e⟩
    rw [e1, e2]; rfl
end Z
end
-- ML2
section
set_option Elab.async false
set_option linter.all false
set_option maxRecDepth 100000
set_option maxHeartbeats 1000000
/-! ML2: the law's side: facts, raising numbers, stories. -/
namespace Z
open PySem
theorem pow30 : opS .pow (.int 10) (.int 30) = ok (.int big30) := by kernel_rfl
theorem c_lfact {m : Int} {v : D} {k : Nat} (h : Nc k v) (hk : k ≤ 40) : callW f__law_is_fact [.val (.int m), .val v] = ok (.bl (isFc m v)) := by
  refine callW_of ?_ rfl
  rw [u__law_is_fact]
  have no : (∀ xs, v ≠ .tup xs) → biS .isTup [v] = ok (.bl false) ∧ isFc m v = false := fun hv => by
    have hok := h.1
    cases v with
    | tup xs => exact absurd rfl (hv xs)
    | obj a => cases hok
    | _ => exact ⟨rfl, rfl⟩
  by_cases hv : ∃ xs, v = .tup xs
  · obtain ⟨xs, rfl⟩ := hv
    have hx : ∀ x ∈ xs, x.ok = true := oks_iff.mp h.1
    have t1 : biS .isTup [.tup xs] = ok (.bl true) := rfl
    rw [t1, bi_lenT]
    simp only [bnd_ok, asB_bl, Bool.not_true, ife_false, cm_int_ne]
    by_cases hl : (xs.length : Int) = 4
    · obtain ⟨a, b, l, hh, rfl⟩ := four hl
      have ha := hx a (by simp)
      have hb := hx b (by simp)
      have hl' := hx l (by simp)
      have hh' := hx hh (by simp)
      rw [decide_eq_true hl]
      have one : opS .sub (.int m) (.int 1) = ok (.int (m - 1)) := rfl
      have s1 : slS (.tup [a, b, l, hh]) none (some 2) = ok (.tup [a, b]) := rfl
      have s2 : slS (.tup [a, b, l, hh]) (some 2) none = ok (.tup [l, hh]) := rfl
      have i2 : intOf (.int 2) = ok 2 := rfl
      have hab : ∀ x ∈ [a, b], x.ok = true := fun x hx2 => by
        rcases List.mem_cons.mp hx2 with rfl | hx2
        · exact ha
        · rw [List.mem_singleton.mp hx2]; exact hb
      have hlh : ∀ x ∈ [l, hh], x.ok = true := fun x hx2 => by
        rcases List.mem_cons.mp hx2 with rfl | hx2
        · exact hl'
        · rw [List.mem_singleton.mp hx2]; exact hh'
      have g2 : gatW (fun d28 => ife (!isNoneD d28) (ok [d28]) (ok [])) [l, hh] = ok ([l, hh].filter fun d => !isNoneD d) := by
        rw [gatW_filter (g := fun d => d) (p := fun d => !isNoneD d) fun d hd => by
          cases isNoneD d <;> rfl]
        rw [List.map_id']
      have hfl : ∀ x ∈ [l, hh].filter fun d => !isNoneD d, x.ok = true := fun x hx2 => hlh x (List.mem_filter.mp hx2).1
      have nb : (bnd (ok big30) fun i42 => ok (D.int (-i42))) = ok (.int (-big30)) := rfl
      have ib : intOf (.int big30) = ok big30 := rfl
      simp only [Bool.not_true, ife_false, bnd_ok, i2, s1, s2, itT, itL, one, gat_not fun x hx => c_number 0 (m - 1) (hab x hx), nox_ok, some_not hab, asB_bl, ix0, ix1, ix2, ix3, g2, pow30, ib, gat_not fun x hx => c_number (-big30) big30 (hfl x hx), some_not hfl, cm_isN, cm_notN]
      show _ = ok (D.bl (isW 0 (m - 1) a && (isW 0 (m - 1) b && (!D.eqv a b && (isEnd l && (isEnd hh && _))))))
      have e1 : ([a, b].map (isW 0 (m - 1))).all id = (isW 0 (m - 1) a && isW 0 (m - 1) b) := by simp
      rw [e1]
      cases wa : isW 0 (m - 1) a with
      | false => rfl
      | true =>
        cases wb : isW 0 (m - 1) b with
        | false => rfl
        | true =>
          obtain ⟨i, rfl, _⟩ := isW_cases wa
          obtain ⟨j, rfl, _⟩ := isW_cases wb
          have e0 : D.eqv (.int i) (.int j) = decide (i = j) := beqInt i j
          rw [cm_int_eq, e0]
          simp only [Bool.not_true, ife_false, bnd_ok, asB_bl, Bool.true_and, Bool.and_true]
          cases dij : decide (i = j) with
          | true => rfl
          | false =>
            have e2 : (([l, hh].filter fun d => !isNoneD d).map (isW (-big30) big30)).all id = (isEnd l && isEnd hh) := by
              cases l <;> cases hh <;> simp [isNoneD, isEnd]
            simp only [ife_false, bnd_ok, Bool.not_false, Bool.true_and, e2]
            cases el : isEnd l with
            | false => rfl
            | true =>
              cases eh : isEnd hh with
              | false => rfl
              | true =>
                rcases isEnd_cases el with rfl | ⟨p, rfl, _⟩
                · rcases isEnd_cases eh with rfl | ⟨q, rfl, _⟩
                  · rfl
                  · rfl
                · rcases isEnd_cases eh with rfl | ⟨q, rfl, _⟩
                  · rfl
                  · rfl
    · have : isFc m (.tup xs) = false := by
        unfold isFc
        split
        · rename_i e; cases e; simp at hl
        · rfl
      rw [decide_eq_false hl, this]; rfl
  · obtain ⟨e1, e2⟩ := no fun xs e => hv ⟨xs, e⟩
    rw [e1, e2]; rfl
/-! ### steps -/
def stpD (s : Stp) : D := .tup [.int (s.u : Int), .int (s.v : Int), .int s.c]
def loS (a b : Nat) : Option Int → List Stp
  | none => []
  | some l => [⟨a, b, l⟩]
def hiS (a b : Nat) : Option Int → List Stp
  | none => []
  | some h => [⟨b, a, -h⟩]
def stO (f : Fct) : List Stp := loS f.a f.b f.low ++ hiS f.a f.b f.high
theorem stO_iff (f : Fct) (x : Nat → Int) : (∀ s ∈ stO f, s.so x) ↔ f.so x := by
  obtain ⟨a, b, lo, hi⟩ := f
  unfold stO Fct.so Stp.so loS hiS
  cases lo with
  | none =>
    cases hi with
    | none => simp
    | some h => simp; omega
  | some l =>
    cases hi with
    | none => simp; omega
    | some h => simp; omega
def stOs (fs : List Fct) : List Stp := fs.flatMap stO
theorem stOs_iff (fs : List Fct) (x : Nat → Int) : (∀ s ∈ stOs fs, s.so x) ↔ ∀ f ∈ fs, f.so x := by
  unfold stOs
  constructor
  · intro h f hf
    exact (stO_iff f x).mp fun s hs => h s (List.mem_flatMap.mpr ⟨f, hf, hs⟩)
  · intro h s hs
    obtain ⟨f, hf, hs⟩ := List.mem_flatMap.mp hs
    exact (stO_iff f x).mpr (h f hf) s hs
theorem stO_fin {n : Nat} {f : Fct} (h : f.a < n ∧ f.b < n) : StF n (stO f) := by
  obtain ⟨a, b, lo, hi⟩ := f
  intro s hs
  unfold stO loS hiS at hs
  cases lo <;> cases hi <;> simp at hs
  · rw [hs]; exact ⟨h.2, h.1⟩
  · rw [hs]; exact ⟨h.1, h.2⟩
  · rcases hs with e | e
    · rw [e]; exact ⟨h.1, h.2⟩
    · rw [e]; exact ⟨h.2, h.1⟩
theorem stOs_fin {n : Nat} {fs : List Fct} (h : Fin n fs) : StF n (stOs fs) := fun s hs => by
  obtain ⟨f, hf, hs⟩ := List.mem_flatMap.mp hs
  exact stO_fin (h f hf) s hs
theorem stO_len (f : Fct) : (stO f).length ≤ 2 := by
  unfold stO loS hiS
  cases f.low <;> cases f.high <;> simp
theorem stOs_len : ∀ (fs : List Fct), (stOs fs).length ≤ 2 * fs.length
  | [] => Nat.le_refl _
  | f :: fs => by
    have h1 := stO_len f
    have h2 := stOs_len fs
    show (stO f ++ stOs fs).length ≤ _
    rw [List.length_append, List.length_cons]; omega
theorem fin_chk {b : Bool} {ρ : Ev} {k : Ev → W D} (h : b = true) : fin (chk b (ok (.nx ρ))) k = k ρ := by rw [h]; rfl
theorem c_steps {fs : List Fct} (hf : fs.length ≤ 1000) : callW f__law_steps [.val (.tup (fs.map fcD))] = ok (.lst ((stOs fs).map stpD)) := by
  refine callW_of ?_ rfl
  rw [u__law_steps, itT, bnd_ok]
  have go : ∀ (gs : List Fct) (s0 : D) (acc : List D) (j2 j3 j4 j5 : Sl), acc.length + 2 * gs.length < lim → forK (.tup (.cons (.nm 2) (.cons (.nm 3) (.cons (.nm 4) (.cons (.nm 5) .nil))))) (fun ρ' k' => runC p__law_steps_0 ρ' k') (gs.map fcD) [.val s0, .own acc, j2, j3, j4, j5] (fun ρ2 => runC p__law_steps_1 ρ2 fun _ => ok .non) = ok (.lst (acc ++ (stOs gs).map stpD)) := by
    intro gs
    induction gs with
    | nil =>
      intro s0 acc j2 j3 j4 j5 _
      show runC p__law_steps_1 [.val s0, .own acc, j2, j3, j4, j5] _ = _
      rw [w__law_steps_1]
      simp [stOs]
    | cons g gs ih =>
      intro s0 acc j2 j3 j4 j5 hl
      rw [List.length_cons] at hl
      have l1 : decide (acc.length < lim) = true := decide_eq_true (by omega)
      obtain ⟨a, b, lo, hi⟩ := g
      show runC p__law_steps_0 [.val s0, .own acc, .val (.int (a : Int)), .val (.int (b : Int)), .val (oI lo), .val (oI hi)] (fun ρ2 => forK _ _ (gs.map fcD) ρ2 _) = _
      have es : stOs (⟨a, b, lo, hi⟩ :: gs) = stO ⟨a, b, lo, hi⟩ ++ stOs gs := rfl
      have io : ∀ h : Int, intOf (oI (some h)) = ok h := fun _ => rfl
      have nk : ∀ (ρ : Ev) (k : Ev → W D), runC .nil ρ k = k ρ := fun _ _ => rfl
      have last : ∀ (acc' : List D), acc'.length + 1 + 2 * gs.length < lim → runC p__law_steps_2 [.val s0, .own acc', .val (.int (a : Int)), .val (.int (b : Int)), .val (oI lo), .val (oI hi)] (fun ρ2 => forK (.tup (.cons (.nm 2) (.cons (.nm 3) (.cons (.nm 4) (.cons (.nm 5) .nil))))) (fun ρ' k' => runC p__law_steps_0 ρ' k') (gs.map fcD) ρ2 (fun ρ2 => runC p__law_steps_1 ρ2 fun _ => ok .non)) = ok (.lst (acc' ++ (hiS a b hi ++ stOs gs).map stpD)) := by
        intro acc' hl'
        rw [w__law_steps_2, cm_notN, isN_oI]
        cases hi with
        | none => exact ih s0 acc' _ _ _ _ (by omega)
        | some h =>
          have l2 : decide (acc'.length < lim) = true := decide_eq_true (by omega)
          simp only [Option.isNone_some, Bool.not_false, bnd_ok, asB_bl, ife_true, io, nk]
          rw [fin_chk l2]
          refine (ih s0 _ _ _ _ _ (by rw [List.length_append]; simp; omega)).trans ?_
          rw [List.append_assoc]; rfl
      rw [es, w__law_steps_0, cm_notN, isN_oI]
      cases lo with
      | none =>
        have := last acc (by omega)
        rw [w__law_steps_2] at this
        simp only [Option.isNone_none, Bool.not_true, bnd_ok, asB_bl, ife_false]
        exact this
      | some l =>
        simp only [Option.isNone_some, Bool.not_false, bnd_ok, asB_bl, ife_true, nk]
        rw [fin_chk l1]
        refine (last _ (by rw [List.length_append]; simp; omega)).trans ?_
        rw [List.append_assoc]; rfl
  exact (go fs _ [] _ _ _ _ (by unfold lim; simp; omega)).trans rfl
end Z
end
-- ML3
section
set_option Elab.async false
set_option linter.all false
set_option maxRecDepth 100000
set_option maxHeartbeats 1000000
/-! ML3: the law's side: raising numbers, stories, sameness. -/
namespace Z
open PySem
def earD : Option (List Int) → D
  | none => .non
  | some x => .lst (x.map D.int)
theorem nil_k (ρ : Ev) (k : Ev → W D) : runC .nil ρ k = k ρ := rfl
theorem fin_bchk {b : Bool} {ρ : Ev} {k : Ev → W D} (h : b = true) : fin (bnd (chk b (ok ρ)) fun ρq => ok (.nx ρq)) k = k ρ := by rw [h]; rfl
theorem map_int_set (x : List Int) (i : Nat) (a : Int) : (x.map D.int).set i (.int a) = (x.set i a).map D.int := by rw [List.map_set]
theorem early_in {n : Nat} {s0 s1 s2 t : D} {R : W D} : ∀ (ss : List Stp) (p : List Int × Bool) (j6 j7 j8 : Sl) (K : Ev → W D), p.1.length = n → StF n ss →
    (∀ j6 j7 j8, K [.val s0, .val s1, .val s2, .own ((ss.foldl rlx p).1.map D.int), .val t, .val (.bl (ss.foldl rlx p).2), j6, j7, j8] = R) →
    forK (.tup (.cons (.nm 6) (.cons (.nm 7) (.cons (.nm 8) .nil)))) (fun ρ' k' => runC (p__law_early_3 f__law_steps) ρ' k') (ss.map stpD) [.val s0, .val s1, .val s2, .own (p.1.map D.int), .val t, .val (.bl p.2), j6, j7, j8] K = R
  | [], p, j6, j7, j8, K, _, _, h => h j6 j7 j8
  | s :: ss, p, j6, j7, j8, K, hl, hf, h => by
    obtain ⟨x, c⟩ := p
    obtain ⟨u, v, cc⟩ := s
    have hs := hf ⟨u, v, cc⟩ List.mem_cons_self
    have hu : u < x.length := by rw [hl]; exact hs.1
    have hv : v < x.length := by rw [hl]; exact hs.2
    show runC (p__law_early_3 f__law_steps) [.val s0, .val s1, .val s2, .own (x.map D.int), .val t, .val (.bl c), .val (.int (u : Int)), .val (.int (v : Int)), .val (.int cc)] (fun ρ2 => forK _ _ (ss.map stpD) ρ2 K) = R
    have a1 : opS .add (.int (gt0 x u)) (.int cc) = ok (.int (gt0 x u + cc)) := rfl
    have l1 : cmS .lt (.int (gt0 x v)) (.int (gt0 x u + cc)) = ok (.bl (decide (gt0 x v < gt0 x u + cc))) := rfl
    have iv : intOf (.int (v : Int)) = ok (v : Int) := rfl
    have hc : decide (0 ≤ (v : Int) ∧ (v : Int) < ((x.map D.int).length : Int)) = true := decide_eq_true (by rw [List.length_map]; omega)
    rw [w__law_early_3]
    simp only [bnd_ok, ix_hrsL hu, ix_hrsL hv, a1, l1, asB_bl, iv, nil_k]
    have ih := early_in (n := n) (s0 := s0) (s1 := s1) (s2 := s2) (t := t) (R := R) ss (rlx (x, c) ⟨u, v, cc⟩)
    by_cases hlt : gt0 x v < gt0 x u + cc
    · have e : rlx (x, c) ⟨u, v, cc⟩ = (x.set v (gt0 x u + cc), false) := if_pos hlt
      rw [e] at ih
      rw [decide_eq_true hlt]
      simp only [ife_true]
      rw [fin_bchk hc, Int.toNat_natCast, map_int_set]
      refine ih _ _ _ K (by rw [List.length_set]; exact hl) (fun s hs => hf s (List.mem_cons_of_mem _ hs)) fun j6 j7 j8 => ?_
      have := h j6 j7 j8
      rw [List.foldl_cons, e] at this
      exact this
    · have e : rlx (x, c) ⟨u, v, cc⟩ = (x, c) := if_neg hlt
      rw [e] at ih
      rw [decide_eq_false hlt]
      simp only [ife_false]
      refine ih _ _ _ K hl (fun s hs => hf s (List.mem_cons_of_mem _ hs)) fun j6 j7 j8 => ?_
      have := h j6 j7 j8
      rw [List.foldl_cons, e] at this
      exact this
theorem early_out {n : Nat} {s0 s1 : D} {ss : List Stp} (hf : StF n ss) : ∀ (ts : List D) (x : List Int) (j4 j5 j6 j7 j8 : Sl), x.length = n →
    forK (.nm 4) (fun ρ' k' => runC (p__law_early_1 f__law_steps) ρ' k') ts [.val s0, .val s1, .val (.lst (ss.map stpD)), .own (x.map D.int), j4, j5, j6, j7, j8] (fun ρ14 => runC (p__law_early_2 f__law_steps) ρ14 fun _ => ok .non) = ok (earD (ear ss ts.length x))
  | [], x, j4, j5, j6, j7, j8, _ => w__law_early_2 f__law_steps s0 s1 (.lst (ss.map stpD)) (x.map D.int) j4 j5 j6 j7 j8 _
  | t :: ts, x, j4, j5, j6, j7, j8, hl => by
    show runC (p__law_early_1 f__law_steps) [.val s0, .val s1, .val (.lst (ss.map stpD)), .own (x.map D.int), .val t, j5, j6, j7, j8] (fun ρ2 => forK _ _ ts ρ2 _) = _
    rw [w__law_early_1, itL, bnd_ok]
    refine early_in (n := n) ss (x, true) j6 j7 j8 _ hl hf fun j6 j7 j8 => ?_
    rw [w__law_early_4, asB_bl, bnd_ok]
    show _ = ok (earD (if (rnd ss x).2 = true then some (rnd ss x).1 else ear ss ts.length (rnd ss x).1))
    have e : ss.foldl rlx (x, true) = rnd ss x := rfl
    rw [e]
    cases hc : (rnd ss x).2 with
    | true => rfl
    | false => exact early_out hf ts (rnd ss x).1 _ _ _ _ _ ((fold_len ss (x, true)).trans hl)
theorem rep_flat (n : Nat) : (List.replicate n [D.int 0]).flatten = (List.replicate n (0 : Int)).map D.int := by
  induction n with
  | zero => rfl
  | succ n ih => rw [List.replicate_succ, List.flatten_cons, ih, List.replicate_succ]; rfl
theorem c_early {m : D} {es : List D} {fs : List Fct} {md : D} {more : List Stp} (he : es.length ≤ 900) (hf : Fin es.length fs) (hl : fs.length ≤ 1000) (hm : biS .list [md] = ok (.lst (more.map stpD))) (hm2 : StF es.length more) (hml : more.length ≤ 100000) :
    callW f__law_early [.val (.tup [m, .tup es, .tup (fs.map fcD)]), .val md] = ok (earD (ear (stOs fs ++ more) (es.length + 2) (List.replicate es.length 0))) := by
  refine callW_of ?_ rfl
  have l1 := stOs_len fs
  have ad : opS .add (.lst ((stOs fs).map stpD)) (.lst (more.map stpD)) = ok (.lst ((stOs fs ++ more).map stpD)) := by
    show chk (decide (((stOs fs).map stpD).length + (more.map stpD).length ≤ lim)) (ok (D.lst ((stOs fs).map stpD ++ more.map stpD))) = _
    rw [decide_eq_true (by rw [List.length_map, List.length_map]; unfold lim; omega), List.map_append]; rfl
  have mu : opS .mul (.lst [.int 0]) (.int (es.length : Int)) = ok (.lst ((List.replicate es.length (0 : Int)).map D.int)) := by
    show chk (decide (0 ≤ (es.length : Int) ∧ (es.length : Int) ≤ 1000 ∧ [D.int 0].length ≤ 1000)) (ok (D.lst (List.replicate (es.length : Int).toNat [D.int 0]).flatten)) = _
    rw [decide_eq_true ⟨by omega, by omega, by simp⟩, Int.toNat_natCast, rep_flat]; rfl
  rw [u__law_early, ix2, bnd_ok, c_steps hl, bnd_ok, hm, bnd_ok, ad, bnd_ok, ix1, bnd_ok, bi_lenT, bnd_ok, mu, bnd_ok]
  have so : ∀ xs : List D, slO (.lst xs) = .own xs := fun _ => rfl
  have nb : ∀ xs : List D, (!isNoS (.own xs)) = true := fun _ => rfl
  rw [so, fin_bchk (nb _)]
  have a2 : opS .add (.int (es.length : Int)) (.int 2) = ok (.int ((es.length + 2 : Nat) : Int)) := rfl
  rw [w__law_early_0, ix1, bnd_ok, bi_lenT, bnd_ok, a2, bnd_ok, rngW (es.length + 2) (by omega), bnd_ok]
  have h := early_out (s0 := .tup [m, .tup es, .tup (fs.map fcD)]) (s1 := md) (ss := stOs fs ++ more) (n := es.length) (fun s hs => (List.mem_append.mp hs).elim (stOs_fin hf s) (hm2 s)) ((List.range (es.length + 2)).map fun (i : Nat) => D.int (i : Int)) (List.replicate es.length 0) .no .no .no .no .no (by simp)
  rw [List.length_map, List.length_range] at h
  exact h
theorem ear_bd {n : Nat} {fs : List Fct} (h : Fin n fs) : (ear (stOs fs) (n + 2) (List.replicate n 0)).isSome = (bdOf fs).isSome := by
  have h1 := ear_iff (stOs_fin h)
  have h2 := bdOf_iff h
  have : (ear (stOs fs) (n + 2) (List.replicate n 0)).isSome = true ↔ (bdOf fs).isSome = true := by
    rw [h1, h2]
    exact exists_congr fun x => stOs_iff fs x
  cases ha : (ear (stOs fs) (n + 2) (List.replicate n 0)).isSome <;> cases hb : (bdOf fs).isSome
  · rfl
  · exact absurd (this.mpr hb) (by rw [ha]; exact Bool.false_ne_true)
  · exact absurd (this.mp ha) (by rw [hb]; exact Bool.false_ne_true)
  · rfl
theorem c_early0 {m : D} {es : List D} {fs : List Fct} (he : es.length ≤ 900) (hf : Fin es.length fs) (hl : fs.length ≤ 1000) :
    callW f__law_early [.val (.tup [m, .tup es, .tup (fs.map fcD)]), .val (.tup [])] = ok (earD (ear (stOs fs) (es.length + 2) (List.replicate es.length 0))) := by
  have := c_early (m := m) (md := .tup []) (more := []) he hf hl rfl (fun s hs => by cases hs) (by simp)
  rw [List.append_nil] at this
  exact this
theorem earD_none (o : Option (List Int)) : (!isNoneD (earD o)) = o.isSome := by cases o <;> rfl
/-- the law's own look at a story -/
theorem c_lstory {v : D} {k : Nat} (h : Nc k v) (hk : k ≤ 40) : callW f__law_is_story [.val v] = ok (.bl (isSt v)) := by
  refine callW_of ?_ rfl
  rw [u__law_is_story]
  have no : (∀ xs, v ≠ .tup xs) → biS .isTup [v] = ok (.bl false) ∧ isSt v = false := fun hv => by
    have hok := h.1
    cases v with
    | tup xs => exact absurd rfl (hv xs)
    | obj a => cases hok
    | _ => exact ⟨rfl, rfl⟩
  have nosh : isSh v = false → isSt v = false := fun e => by
    cases hst : isSt v with
    | false => rfl
    | true => rw [isSt_sh hst] at e; cases e
  by_cases hv : ∃ xs, v = .tup xs
  · obtain ⟨xs, rfl⟩ := hv
    have hx : ∀ x ∈ xs, x.ok = true := oks_iff.mp h.1
    have t1 : biS .isTup [.tup xs] = ok (.bl true) := rfl
    rw [t1, bi_lenT]
    simp only [bnd_ok, asB_bl, Bool.not_true, ife_false, cm_int_ne]
    by_cases hl : (xs.length : Int) = 3
    · obtain ⟨a, b, c, rfl⟩ := three hl
      have ha := hx a (by simp)
      have hb := hx b (by simp)
      have hc := hx c (by simp)
      rw [decide_eq_true hl, ix0, bnd_ok, c_number 2 5 ha]
      simp only [bnd_ok, asB_bl, Bool.not_true, ife_false]
      cases wa : isW 2 5 a with
      | false =>
        have : isSh (.tup [a, b, c]) = false := by
          unfold isSh
          split
          · rename_i m es fs e
            cases e
            have wa : (decide (2 ≤ m) && decide (m ≤ 5)) = false := wa
            rw [wa]; rfl
          · rfl
        rw [nosh this]; rfl
      | true =>
        obtain ⟨m, rfl, hm2, hm5⟩ := isW_cases wa
        show runC (p__law_is_story_0 f__law_early f__law_is_event f__law_is_fact f__law_number) [.val (.tup [.int m, b, c]), .val (.int m), .val b, .val c, .no] _ = _
        rw [w__law_is_story_0]
        have nob : (∀ xs, b ≠ .tup xs) → biS .isTup [b] = ok (.bl false) ∧ isSh (.tup [.int m, b, c]) = false := fun hv => by
          cases b with
          | tup xs => exact absurd rfl (hv xs)
          | obj a => cases hb
          | _ => exact ⟨rfl, rfl⟩
        by_cases hbt : ∃ es, b = .tup es
        · obtain ⟨es, rfl⟩ := hbt
          have t2 : biS .isTup [.tup es] = ok (.bl true) := rfl
          have ch : (bnd (cmS .le (.int 1) (.int (es.length : Int))) fun d16 => bnd (asB d16) fun k17 => ife k17 (cmS .le (.int (es.length : Int)) (.int 5)) (ok (.bl false))) = ok (.bl (decide ((1 : Int) ≤ (es.length : Int)) && decide ((es.length : Int) ≤ 5))) := ife_bl_and _ _
          simp only [t2, bi_lenT, bnd_ok, asB_bl, Bool.not_true, ife_false, ch]
          cases wb : (decide ((1 : Int) ≤ (es.length : Int)) && decide ((es.length : Int) ≤ 5)) with
          | false =>
            have : isSh (.tup [.int m, .tup es, c]) = false := by
              unfold isSh
              split
              · rename_i m' es' fs e
                cases e
                have : (decide (1 ≤ es.length) && decide (es.length ≤ 5)) = false := by
                  rw [← wb]
                  congr 1 <;> exact decide_eq_decide.mpr (by omega)
                rw [this]; simp
              · rfl
            rw [nosh this]; rfl
          | true =>
            rw [Bool.and_eq_true, decide_eq_true_eq, decide_eq_true_eq] at wb
            have he : ∀ x ∈ es, Nc k x := fun x hx' => by
              cases k with
              | zero => exact absurd h.2 (by show ¬ deps _ + 1 ≤ 0; omega)
              | succ k =>
                have h3 := nc_tup.mp h (.tup es) (by simp)
                cases k with
                | zero => exact absurd h3.2 (by show ¬ deps _ + 1 ≤ 0; omega)
                | succ k => exact (nc_tup.mp h3 x hx').mono (by omega)
            have heo : ∀ x ∈ es, x.ok = true := fun x hx => (he x hx).1
            simp only [Bool.not_true, ife_false, bnd_ok, itT, gat_not fun x hx => c_levent (he x hx) hk (show m ≤ 50 by omega), nox_ok, some_not heo, asB_bl]
            cases ae : (es.map (isEv m)).all id with
            | false =>
              have : isSh (.tup [.int m, .tup es, c]) = false := by
                unfold isSh
                split
                · rename_i e; cases e; rw [ae]; simp
                · rfl
              rw [nosh this]; rfl
            | true =>
              simp only [Bool.not_true, ife_false]
              have noc : (∀ xs, c ≠ .tup xs) → biS .isTup [c] = ok (.bl false) ∧ isSh (.tup [.int m, .tup es, c]) = false := fun hv => by
                cases c with
                | tup xs => exact absurd rfl (hv xs)
                | obj a => cases hc
                | _ => exact ⟨rfl, rfl⟩
              by_cases hct : ∃ fs, c = .tup fs
              · obtain ⟨fs, rfl⟩ := hct
                have t3 : biS .isTup [.tup fs] = ok (.bl true) := rfl
                have g4 : cmS .gt (.int (fs.length : Int)) (.int 4) = ok (.bl (decide ((4 : Int) < (fs.length : Int)))) := rfl
                simp only [t3, bnd_ok, asB_bl, Bool.not_true, ife_false, bi_lenT, g4]
                by_cases h4 : fs.length ≤ 4
                · have hf : ∀ x ∈ fs, Nc k x := fun x hx' => by
                    cases k with
                    | zero => exact absurd h.2 (by show ¬ deps _ + 1 ≤ 0; omega)
                    | succ k =>
                      have h3 := nc_tup.mp h (.tup fs) (by simp)
                      cases k with
                      | zero => exact absurd h3.2 (by show ¬ deps _ + 1 ≤ 0; omega)
                      | succ k => exact (nc_tup.mp h3 x hx').mono (by omega)
                  have hfo : ∀ x ∈ fs, x.ok = true := fun x hx => (hf x hx).1
                  rw [decide_eq_false (by omega : ¬ (4 : Int) < (fs.length : Int))]
                  simp only [ife_false, bnd_ok, itT, gat_not fun x hx => c_lfact (m := (es.length : Int)) (hf x hx) hk, nox_ok, some_not hfo, asB_bl]
                  have esh : isSh (.tup [.int m, .tup es, .tup fs]) = (fs.map (isFc (es.length : Int))).all id := by
                    show (decide (2 ≤ m) && decide (m ≤ 5) && (decide (1 ≤ es.length) && decide (es.length ≤ 5) && ((es.map (isEv m)).all id && (decide (fs.length ≤ 4) && (fs.map (isFc (es.length : Int))).all id)))) = _
                    rw [ae, decide_eq_true hm2, decide_eq_true hm5, decide_eq_true (by omega : 1 ≤ es.length), decide_eq_true (by omega : es.length ≤ 5), decide_eq_true h4]
                    simp
                  cases af : (fs.map (isFc (es.length : Int))).all id with
                  | false =>
                    rw [nosh (by rw [esh, af])]; rfl
                  | true =>
                    obtain ⟨gs, rfl, hg⟩ := facts_to af
                    simp only [Bool.not_true, ife_false]
                    rw [c_early0 (by omega) hg (by rw [List.length_map] at h4; omega), bnd_ok, cm_notN, earD_none, ear_bd hg]
                    show _ = ok (D.bl (isSh _ && (bdOf ((gs.map fcD).filterMap toF)).isSome))
                    rw [esh, af, filterMap_fcD]; rfl
                · have : isSh (.tup [.int m, .tup es, .tup fs]) = false := by
                    show (decide (2 ≤ m) && decide (m ≤ 5) && (decide (1 ≤ es.length) && decide (es.length ≤ 5) && ((es.map (isEv m)).all id && (decide (fs.length ≤ 4) && (fs.map (isFc (es.length : Int))).all id)))) = _
                    rw [decide_eq_false h4]; simp
                  rw [decide_eq_true (by omega : (4 : Int) < (fs.length : Int)), nosh this]; rfl
              · obtain ⟨e1, e2⟩ := noc fun xs e => hct ⟨xs, e⟩
                rw [e1, nosh e2]; rfl
        · obtain ⟨e1, e2⟩ := nob fun xs e => hbt ⟨xs, e⟩
          rw [e1, nosh e2]; rfl
    · have : isSh (.tup xs) = false := by
        unfold isSh
        split
        · rename_i e; cases e; simp at hl
        · rfl
      rw [decide_eq_false hl, nosh this]; rfl
  · obtain ⟨e1, e2⟩ := no fun xs e => hv ⟨xs, e⟩
    rw [e1, e2]; rfl
end Z
end
-- ML4
section
set_option Elab.async false
set_option linter.all false
set_option maxRecDepth 100000
set_option maxHeartbeats 400000
namespace Z
open PySem
/-! ### the law's keeps -/
theorem lkeeps_go {hs : List Int} {fsd : D} : ∀ (gs : List Fct) (x2 x3 x4 x5 x6 : Sl), (∀ f ∈ gs, f.a < hs.length ∧ f.b < hs.length) →
    forK (.tup (.cons (.nm 2) (.cons (.nm 3) (.cons (.nm 4) (.cons (.nm 5) .nil))))) (fun ρ' k' => runC p__law_keeps_0 ρ' k') (gs.map fcD) [.val (.tup (hs.map D.int)), .val fsd, x2, x3, x4, x5, x6] (fun ρ2 => runC p__law_keeps_1 ρ2 fun _ => ok .non) = ok (.bl (gs.all fun f => f.soB hs))
  | [], x2, x3, x4, x5, x6, _ => by
    show runC p__law_keeps_1 [.val (.tup (hs.map D.int)), .val fsd, x2, x3, x4, x5, x6] _ = _
    rw [w__law_keeps_1]; rfl
  | f :: gs, x2, x3, x4, x5, x6, h => by
    show runC p__law_keeps_0 [.val (.tup (hs.map D.int)), .val fsd, .val (.int (f.a : Int)), .val (.int (f.b : Int)), .val (oI f.low), .val (oI f.high), x6] _ = _
    have hf := h f List.mem_cons_self
    rw [w__law_keeps_0, ix_hrs hf.1, ix_hrs hf.2, bnd_ok, bnd_ok]
    have e : opS .sub (.int (gt0 hs f.b)) (.int (gt0 hs f.a)) = ok (.int (gt0 hs f.b - gt0 hs f.a)) := rfl
    rw [e, bnd_ok, cm_notN, cm_notN, isN_oI, isN_oI]
    have ih := lkeeps_go (hs := hs) (fsd := fsd) gs (.val (.int (f.a : Int))) (.val (.int (f.b : Int))) (.val (oI f.low)) (.val (oI f.high)) (.val (.int (gt0 hs f.b - gt0 hs f.a))) fun g hg => h g (List.mem_cons_of_mem _ hg)
    have key : ((f :: gs).all fun f => f.soB hs) = ((match f.low with | none => true | some l => decide (l ≤ gt0 hs f.b - gt0 hs f.a)) && (match f.high with | none => true | some h => decide (gt0 hs f.b - gt0 hs f.a ≤ h)) && gs.all fun f => f.soB hs) := rfl
    rw [key]
    have fin1 : ∀ b : Bool, (bnd (ok b) fun c6 => ife c6 (ok (D.bl false)) (forK (.tup (.cons (.nm 2) (.cons (.nm 3) (.cons (.nm 4) (.cons (.nm 5) .nil))))) (fun ρ' k' => runC p__law_keeps_0 ρ' k') (gs.map fcD) [.val (.tup (hs.map D.int)), .val fsd, .val (.int (f.a : Int)), .val (.int (f.b : Int)), .val (oI f.low), .val (oI f.high), .val (.int (gt0 hs f.b - gt0 hs f.a))] (fun ρ2 => runC p__law_keeps_1 ρ2 fun _ => ok .non))) = ok (.bl ((!b) && gs.all fun f => f.soB hs)) := fun b => by
      cases b
      · exact ih
      · rfl
    generalize gt0 hs f.b - gt0 hs f.a = g at *
    cases hlo : f.low with
    | none =>
      rw [hlo] at fin1
      cases hhi : f.high with
      | none =>
        rw [hhi] at fin1
        exact fin1 false
      | some h =>
        rw [hhi] at fin1
        refine (fin1 (decide (h < g))).trans ?_
        congr 3
        show (!decide (h < g)) = decide (g ≤ h)
        rw [← decide_not]; exact decide_eq_decide.mpr (by omega)
    | some l =>
      rw [hlo] at fin1
      by_cases hl : g < l
      · have e1 : (decide (l ≤ g)) = false := decide_eq_false (by omega)
        have e2 : cmS .lt (.int g) (oI (some l)) = ok (.bl true) := by
          show ok (D.bl (decide (g < l))) = _
          rw [decide_eq_true hl]
        show bnd (bnd (bnd (bnd (cmS .lt (.int g) (oI (some l))) fun x11 => asB x11) fun k10 => ife k10 (ok true) _) _) _ = _
        rw [e2]
        exact (fin1 true).trans (by dsimp only; rw [e1]; simp)
      · have e1 : (decide (l ≤ g)) = true := decide_eq_true (by omega)
        have e2 : cmS .lt (.int g) (oI (some l)) = ok (.bl false) := by
          show ok (D.bl (decide (g < l))) = _
          rw [decide_eq_false hl]
        simp only [Option.isNone_some, Bool.not_false, bnd_ok, asB_bl, ife_true, ife_false, e2, e1, Bool.true_and]
        cases hhi : f.high with
        | none =>
          rw [hhi] at fin1
          exact fin1 false
        | some h =>
          rw [hhi] at fin1
          refine (fin1 (decide (h < g))).trans ?_
          congr 3
          show (!decide (h < g)) = decide (g ≤ h)
          rw [← decide_not]; exact decide_eq_decide.mpr (by omega)
theorem c_lkeeps {hs : List Int} {fs : List Fct} (h : ∀ f ∈ fs, f.a < hs.length ∧ f.b < hs.length) : callW f__law_keeps [.val (.tup (hs.map D.int)), .val (.tup (fs.map fcD))] = ok (.bl (fs.all fun f => f.soB hs)) := by
  refine callW_of ?_ rfl
  rw [u__law_keeps, itT, bnd_ok]
  exact lkeeps_go fs .no .no .no .no .no h
theorem c_same_bl (a b : Bool) : callW f__law_same [.val (.bl a), .val (.bl b)] = ok (.bl (a == b)) := by
  refine callW_of ?_ rfl
  have s : ∀ c : Bool, callW f__law_sort [.val (.bl c)] = ok (.int 1) := fun c => callW_of (by rw [u__law_sort]; rfl) rfl
  refine (u__law_same (f__law_same_ 11) (.bl a) (.bl b)).trans ?_
  rw [s, s]
  show cmS .eq (.bl a) (.bl b) = _
  cases a <;> cases b <;> rfl
end Z
end
-- M5
section
set_option Elab.async false
set_option linter.all false
set_option maxRecDepth 100000
set_option maxHeartbeats 400000
namespace Z
open PySem
theorem yd_one {xs : List D} (h1 : 1 ≤ xs.length) (h2 : xs.length < 1073741824) : Yd 1 (callW f__law_one [.deck, .val (.lst xs)]) (· ∈ xs) := by
  refine yd_call rfl ?_
  rw [u__law_one, bi_lenL, bnd_ok]
  refine Yd.bnd (d := 0) (yd_pick (m := (xs.length : Int)) (by omega) (by omega)) fun d hd => ?_
  obtain ⟨k, rfl, h0, hk⟩ := hd
  obtain ⟨i, rfl⟩ := Int.eq_ofNat_of_zero_le h0
  have : i < xs.length := by omega
  exact Yd.of (ix_lst (List.getElem?_eq_getElem this)) (List.getElem_mem this)
theorem Yd.gatS {c : Nat} {f : D → W (List D)} : ∀ {ds : List D}, (∀ d ∈ ds, Yd c (f d) fun ys => ys = [d] ∨ ys = []) → Yd (c * ds.length) (gatW f ds) fun ys => ys.Sublist ds
  | [], _ => .ok .slnil
  | d :: r, h => by
    have := (h d List.mem_cons_self).bnd fun ys hys => (Yd.gatS (ds := r) fun e he => h e (List.mem_cons_of_mem _ he)).bnd fun zs hzs => Yd.ok (a := ys ++ zs) (P := fun ys => ys.Sublist (d :: r)) (by
      rcases hys with rfl | rfl
      · exact hzs.cons₂ d
      · exact hzs.cons d)
    exact this.le (by rw [List.length_cons, Nat.mul_succ]; omega)
theorem yd_true {α : Type} {c : Nat} {m : W α} {P : α → Prop} (h : Yd c m P) : Yd c m fun _ => True := h.imp fun _ _ => trivial
/-- a pick held to a number -/
theorem yd_cmp {m : Int} {c : Cm} {j : Int} {f : Int → Bool} (h1 : 1 ≤ m) (h2 : m < 1073741824) (e : ∀ k, cmS c (.int k) (.int j) = ok (.bl (f k))) : Yd 1 (bnd (callW fPick [.deck, .val (.int m)]) fun x => cmS c x (.int j)) fun d => ∃ b, d = .bl b :=
  Yd.bnd (d := 0) (yd_pick h1 h2) fun d hd => by
    obtain ⟨k, rfl, _, _⟩ := hd
    exact Yd.of (P := fun d => ∃ b, d = D.bl b) (e k) ⟨_, rfl⟩
theorem yd_cmpB {m : Int} {c : Cm} {j : Int} {f : Int → Bool} (h1 : 1 ≤ m) (h2 : m < 1073741824) (e : ∀ k, cmS c (.int k) (.int j) = ok (.bl (f k))) : Yd 1 (bnd (bnd (callW fPick [.deck, .val (.int m)]) fun x => cmS c x (.int j)) fun x => asB x) fun _ => True :=
  Yd.bnd (d := 0) (yd_cmp h1 h2 e) fun d hd => by
    obtain ⟨b, rfl⟩ := hd
    exact Yd.of (asB_bl b) trivial
theorem cmI_gt (k j : Int) : cmS .gt (.int k) (.int j) = ok (.bl (decide (j < k))) := rfl
theorem nc_learn (k : Nat) : Nc k (.str (Str.ofString "learn")) := ⟨by kernel_rfl, Nat.zero_le _⟩
theorem nc_meet (k : Nat) : Nc k (.str (Str.ofString "meet")) := ⟨by kernel_rfl, Nat.zero_le _⟩
theorem ev_learn {m k c : Int} (h0 : 0 ≤ k) (h1 : k < m) (c1 : 1 ≤ c) (c2 : c ≤ 2) : isEv m (.tup [.str (Str.ofString "learn"), .int k, .int c]) = true := by
  show (decide (Str.ofString "learn" = "learn") && ((decide (0 ≤ k) && decide (k ≤ m - 1)) && (decide (1 ≤ c) && decide (c ≤ 2)))) = true
  rw [decide_eq_true h0, decide_eq_true (by omega : k ≤ m - 1), decide_eq_true c1, decide_eq_true c2]; rfl
theorem ev_meet {m : Int} {ns : List Int} (h2 : 2 ≤ ns.length) (hm : (ns.length : Int) ≤ m) (ha : ∀ i ∈ ns, 0 ≤ i ∧ i < m) (hp : ns.Pairwise (· < ·)) : isEv m (.tup [.str (Str.ofString "meet"), .tup (ns.map D.int)]) = true := by
  show (decide (Str.ofString "meet" = "meet") && ((decide (2 ≤ ((ns.map D.int).length : Int)) && decide (((ns.map D.int).length : Int) ≤ m)) && isPpl m (.tup (ns.map D.int)))) = true
  have e : isPpl m (.tup (ns.map D.int)) = true := by
    unfold isPpl
    dsimp only
    rw [intsD_mapI]
    dsimp only
    rw [(ascI_iff ns).mpr hp, Bool.and_true, List.all_eq_true]
    intro i hi
    obtain ⟨h0, h1⟩ := ha i hi
    rw [decide_eq_true h0, decide_eq_true (by omega : i ≤ m - 1)]; rfl
  rw [e, List.length_map, decide_eq_true (by omega : (2 : Int) ≤ (ns.length : Int)), decide_eq_true hm]; rfl
theorem nc_ints (ns : List Int) : Nc 1 (.tup (ns.map D.int)) := nc_tup.mpr fun x hx => by
  obtain ⟨i, _, rfl⟩ := List.mem_map.mp hx
  exact nc_int 0 i
theorem nc_ev {m : Int} {d : D} (h : isEv m d = true) : Nc 2 d := by
  unfold isEv at h
  split at h
  · rename_i x a b
    rw [Bool.and_eq_true, Bool.and_eq_true] at h
    have hx : ∀ y : Str, y = "learn" → Nc 1 (.str y) := fun y e => e ▸ nc_learn 1
    obtain ⟨i, rfl, _⟩ := isW_cases h.2.1
    obtain ⟨j, rfl, _⟩ := isW_cases h.2.2
    exact nc_tup.mpr fun y hy => by
      simp only [List.mem_cons, List.not_mem_nil, or_false] at hy
      rcases hy with rfl | rfl | rfl
      · exact hx _ (decide_eq_true_eq.mp h.1)
      · exact nc_int _ _
      · exact nc_int _ _
  · rename_i x a
    rw [Bool.and_eq_true, Bool.and_eq_true] at h
    have hx : ∀ y : Str, y = "meet" → Nc 1 (.str y) := fun y e => e ▸ nc_meet 1
    have h3 := h.2.2
    cases a with
    | tup ps =>
      rw [isPpl_eq, Bool.and_eq_true] at h3
      obtain ⟨ns, rfl, _⟩ := isW_all h3.1
      exact nc_tup.mpr fun y hy => by
        simp only [List.mem_cons, List.not_mem_nil, or_false] at hy
        rcases hy with rfl | rfl
        · exact hx _ (decide_eq_true_eq.mp h.1)
        · exact nc_ints ns
    | _ => cases h3
  · cases h
end Z
end
-- M6
section
set_option Elab.async false
set_option linter.all false
set_option maxRecDepth 100000
set_option maxHeartbeats 400000
namespace Z
open PySem
theorem mapI_sub {ys : List D} {m : Nat} (h : ys.Sublist ((List.range m).map fun (i : Nat) => D.int (i : Int))) : ∃ ns : List Int, ys = ns.map D.int ∧ (∀ i ∈ ns, 0 ≤ i ∧ i < m) ∧ ns.Pairwise (· < ·) ∧ ns.length ≤ m := by
  obtain ⟨l, hl, rfl⟩ := List.sublist_map_iff.mp h
  refine ⟨l.map fun (i : Nat) => (i : Int), by simp, ?_, ?_, ?_⟩
  · intro i hi
    obtain ⟨j, hj, rfl⟩ := List.mem_map.mp hi
    have := List.mem_range.mp (hl.subset hj)
    omega
  · rw [List.pairwise_map]
    have := List.pairwise_lt_range (n := m)
    exact (this.sublist hl).imp fun h => by omega
  · have := hl.length_le
    rw [List.length_range] at this
    rw [List.length_map]; exact this
theorem srt2 (a b : Int) (h : a ≠ b) : ∃ c d : Int, srt (fun a b => decide (a < b)) [a, b] = [c, d] ∧ c < d ∧ ((c = a ∧ d = b) ∨ (c = b ∧ d = a)) := by
  show ∃ c d : Int, (if decide (b < a) then [b, a] else a :: [b]) = [c, d] ∧ c < d ∧ ((c = a ∧ d = b) ∨ (c = b ∧ d = a))
  by_cases hb : b < a
  · rw [decide_eq_true hb]; exact ⟨b, a, rfl, hb, Or.inr ⟨rfl, rfl⟩⟩
  · rw [decide_eq_false hb]; exact ⟨a, b, rfl, by omega, Or.inl ⟨rfl, rfl⟩⟩
theorem yd_event {m : Nat} (b : Bool) (h2 : 2 ≤ m) (h5 : m ≤ 5) : Yd 20 (callW f__law_event [.deck, .val (.int (m : Int)), .val (.bl b)]) fun d => isEv (m : Int) d = true := by
  refine yd_call rfl ?_
  rw [u__law_event]
  refine Yd.le (c := 1 + 19) (Yd.bnd (P := fun _ => True) ?_ fun c _ => ?_) (by omega)
  · rw [asB_bl, bnd_ok]
    exact Yd.ife (fun _ => (Yd.ok trivial).le (by omega)) fun _ => yd_cmpB (by omega) (by omega) fun k => cm_int_eq k 0
  · refine Yd.ife (fun _ => ?_) fun _ => ?_
    · refine Yd.le (c := 1 + (1 + 0)) (Yd.bnd (yd_pick (m := (m : Int)) (by omega) (by omega)) fun x hx => Yd.bnd (P := fun d => ∃ c : Int, d = .int c ∧ 1 ≤ c ∧ c ≤ 2) ?_ fun y hy => ?_) (by omega)
      · refine Yd.bnd (d := 0) (yd_cmp (m := 3) (by omega) (by omega) fun k => cmI_gt k 0) fun d hd => ?_
        obtain ⟨b, rfl⟩ := hd
        rw [asB_bl, bnd_ok]
        exact Yd.ife (fun _ => .ok ⟨1, rfl, by omega, by omega⟩) fun _ => .ok ⟨2, rfl, by omega, by omega⟩
      · obtain ⟨k, rfl, k0, k1⟩ := hx
        obtain ⟨c, rfl, c1, c2⟩ := hy
        exact .ok (ev_learn k0 k1 c1 c2)
    · refine Yd.le (c := 5 + 2) (Yd.bnd (P := fun d => ∃ ns : List Int, d = .lst (ns.map D.int) ∧ (∀ i ∈ ns, 0 ≤ i ∧ i < (m : Int)) ∧ ns.Pairwise (· < ·) ∧ ns.length ≤ m) ?_ fun x hx => ?_) (by omega)
      · refine Yd.bnd0 (rngW m (by omega)) (Yd.nox ?_)
        refine Yd.le (c := 1 * ((List.range m).map fun (i : Nat) => D.int (i : Int)).length + 0) (Yd.bnd (Yd.gatS (c := 1) fun d _ => ?_) fun ys hys => ?_) (by rw [List.length_map, List.length_range]; omega)
        · refine Yd.bnd (d := 0) (yd_cmp (m := 2) (by omega) (by omega) fun k => cm_int_eq k 0) fun d hd => ?_
          obtain ⟨b, rfl⟩ := hd
          rw [asB_bl, bnd_ok]
          exact Yd.ife (fun _ => .of rfl (Or.inl rfl)) fun _ => .ok (Or.inr rfl)
        · obtain ⟨ns, rfl, h3⟩ := mapI_sub hys
          exact .ok ⟨ns, rfl, h3⟩
      · obtain ⟨ns, rfl, ha, hp, hl⟩ := hx
        have e : (bnd (bnd (biS .len [.lst (ns.map D.int)]) fun x20 => cmS .lt x20 (.int 2)) fun x19 => asB x19) = ok (decide ((ns.length : Int) < 2)) := by
          rw [bi_lenL, List.length_map]; rfl
        refine Yd.bnd0 e (Yd.ife (fun _ => ?_) fun h => ?_)
        · refine Yd.le (c := 1 + (1 + 0)) (Yd.bnd (yd_pick (m := (m : Int)) (by omega) (by omega)) fun x hx => ?_) (by omega)
          obtain ⟨k, rfl, k0, k1⟩ := hx
          refine Yd.bnd (P := fun d => ∃ c d' : Int, d = .lst ([c, d'].map D.int) ∧ c < d' ∧ 0 ≤ c ∧ d' < m) ?_ fun x hx => ?_
          · refine Yd.le (c := 1 + 0) (Yd.bnd (P := fun d => ∃ j : Int, d = .int j ∧ j ≠ k ∧ 0 ≤ j ∧ j < m) ?_ fun x hx => ?_) (by omega)
            · refine Yd.le (c := 1 + 0) (Yd.bnd (P := fun d => ∃ j : Int, d = .int (k + 1 + j) ∧ 0 ≤ j ∧ j < m - 1) ?_ fun x hx => ?_) (by omega)
              · refine Yd.bnd0 (a := .int (k + 1)) rfl ?_
                refine Yd.le (c := 1 + 0) (Yd.bnd (P := fun d => ∃ j : Int, d = .int j ∧ 0 ≤ j ∧ j < m - 1) ?_ fun x hx => ?_) (by omega)
                · exact Yd.bnd0 (a := .int ((m : Int) - 1)) rfl (yd_pick (m := (m : Int) - 1) (by omega) (by omega))
                · obtain ⟨j, rfl, j0, j1⟩ := hx
                  exact Yd.of (a := .int (k + 1 + j)) rfl ⟨j, rfl, j0, j1⟩
              · obtain ⟨j, rfl, j0, j1⟩ := hx
                have e : opS .mod (.int (k + 1 + j)) (.int (m : Int)) = ok (.int ((k + 1 + j) % (m : Int))) := by
                  show chk (decide (0 < (m : Int))) _ = _
                  rw [decide_eq_true (by omega)]; rfl
                refine Yd.of e ⟨_, rfl, ?_, Int.emod_nonneg _ (by omega), Int.emod_lt_of_pos _ (by omega)⟩
                by_cases hw : k + 1 + j < m
                · rw [Int.emod_eq_of_lt (by omega) hw]; omega
                · rw [← Int.sub_emod_right, Int.emod_eq_of_lt (by omega) (by omega)]; omega
            · obtain ⟨j, rfl, jk, j0, j1⟩ := hx
              obtain ⟨c, d', e1, e2, e3⟩ := srt2 k j (Ne.symm jk)
              refine Yd.of (a := .lst ([c, d'].map D.int)) ?_ ⟨c, d', rfl, e2, ?_, ?_⟩
              · show ok (D.lst ((srt (fun a b => decide (a < b)) [k, j]).map .int)) = _
                rw [e1]
              · rcases e3 with ⟨rfl, rfl⟩ | ⟨rfl, rfl⟩ <;> omega
              · rcases e3 with ⟨rfl, rfl⟩ | ⟨rfl, rfl⟩ <;> omega
          · obtain ⟨c, d', rfl, h1, h0, h3⟩ := hx
            refine Yd.of (a := D.tup [.str (Str.ofString "meet"), .tup ([c, d'].map D.int)]) rfl (ev_meet (by simp) (by simp; omega) ?_ ?_)
            · intro i hi
              simp only [List.mem_cons, List.not_mem_nil, or_false] at hi
              rcases hi with rfl | rfl <;> omega
            · simp [h1]
        · have := of_decide_eq_false h
          exact (Yd.of (a := D.tup [.str (Str.ofString "meet"), .tup (ns.map D.int)]) rfl (ev_meet (by omega) (by omega) ha hp)).le (by omega)
theorem isEnd_int {i : Int} (h0 : -big30 ≤ i) (h1 : i ≤ big30) : isEnd (.int i) = true := by
  show (decide (-big30 ≤ i) && decide (i ≤ big30)) = true
  rw [decide_eq_true h0, decide_eq_true h1]; rfl
def EndI (d : D) : Prop := ∃ i : Int, d = .int i ∧ -big30 ≤ i ∧ i ≤ big30
theorem yd_end {w : Int} (h0 : -big30 ≤ w) (h1 : w ≤ big30) : Yd 1 (callW f__law_end [.deck, .val (.int w)]) EndI := by
  refine yd_call rfl ?_
  rw [u__law_end]
  refine Yd.bnd0 (a := .int (-1)) rfl ((yd_one (by simp) (by simp)).imp fun d hd => ?_)
  unfold EndI big30 at *
  simp only [List.mem_cons, List.not_mem_nil, or_false] at hd
  rcases hd with rfl | rfl | rfl | rfl | rfl | rfl | rfl | rfl
  · exact ⟨_, rfl, by omega, by omega⟩
  · exact ⟨_, rfl, by omega, by omega⟩
  · exact ⟨_, rfl, by omega, by omega⟩
  · exact ⟨_, rfl, by omega, by omega⟩
  · exact ⟨_, rfl, by omega, by omega⟩
  · exact ⟨_, rfl, by omega, by omega⟩
  · exact ⟨_, rfl, by omega, by omega⟩
  · exact ⟨_, rfl, by omega, by omega⟩
def ordD : D → D → Bool
  | .non, .non => false
  | .non, _ => true
  | _, .non => true
  | .int i, .int j => decide (i ≤ j)
  | _, _ => false
theorem isFc_ord (n : Int) (a b l h : D) : isFc n (.tup [a, b, l, h]) = (isW 0 (n - 1) a && (isW 0 (n - 1) b && (!D.eqv a b && (isEnd l && (isEnd h && ordD l h))))) := rfl
theorem isFc_mk {n a b : Int} {l h : D} (a0 : 0 ≤ a) (a1 : a < n) (b0 : 0 ≤ b) (b1 : b < n) (ab : a ≠ b) (hl : isEnd l = true) (hh : isEnd h = true)
    (ho : ordD l h = true) : isFc n (.tup [.int a, .int b, l, h]) = true := by
  rw [isFc_ord, hl, hh, ho]
  have e : D.eqv (.int a) (.int b) = false := by
    show (a == b) = false
    rw [beqInt, decide_eq_false ab]
  rw [e]
  show ((decide (0 ≤ a) && decide (a ≤ n - 1)) && ((decide (0 ≤ b) && decide (b ≤ n - 1)) && true)) = true
  rw [decide_eq_true a0, decide_eq_true (by omega : a ≤ n - 1), decide_eq_true b0, decide_eq_true (by omega : b ≤ n - 1)]; rfl
theorem yd_fact {n w : Int} (n2 : 2 ≤ n) (n5 : n ≤ 1000) (w0 : -big30 ≤ w) (w1 : w ≤ big30) : Yd 20 (callW f__law_fact [.deck, .val (.int n), .val (.int w)]) fun d => isFc n d = true := by
  refine yd_call rfl ?_
  rw [u__law_fact]
  refine Yd.le (c := 1 + (1 + 12)) (Yd.bnd (yd_pick (m := n) (by omega) (by omega)) fun x hx => ?_) (by omega)
  obtain ⟨k, rfl, k0, k1⟩ := hx
  refine Yd.bnd (P := fun d => ∃ j : Int, d = .int j ∧ j ≠ k ∧ 0 ≤ j ∧ j < n) ?_ fun x hx => ?_
  · refine Yd.le (c := 1 + 0) (Yd.bnd (P := fun d => ∃ j : Int, d = .int (k + 1 + j) ∧ 0 ≤ j ∧ j < n - 1) ?_ fun x hx => ?_) (by omega)
    · refine Yd.bnd0 (a := .int (k + 1)) rfl ?_
      refine Yd.le (c := 1 + 0) (Yd.bnd (P := fun d => ∃ j : Int, d = .int j ∧ 0 ≤ j ∧ j < n - 1) ?_ fun x hx => ?_) (by omega)
      · exact Yd.bnd0 (a := .int (n - 1)) rfl (yd_pick (m := n - 1) (by omega) (by omega))
      · obtain ⟨j, rfl, j0, j1⟩ := hx
        exact Yd.of (a := .int (k + 1 + j)) rfl ⟨j, rfl, j0, j1⟩
    · obtain ⟨j, rfl, j0, j1⟩ := hx
      have e : opS .mod (.int (k + 1 + j)) (.int n) = ok (.int ((k + 1 + j) % n)) := by
        show chk (decide (0 < n)) _ = _
        rw [decide_eq_true (by omega)]; rfl
      refine Yd.of e ⟨_, rfl, ?_, Int.emod_nonneg _ (by omega), Int.emod_lt_of_pos _ (by omega)⟩
      by_cases hw : k + 1 + j < n
      · rw [Int.emod_eq_of_lt (by omega) hw]; omega
      · rw [← Int.sub_emod_right, Int.emod_eq_of_lt (by omega) (by omega)]; omega
  · obtain ⟨j, rfl, jk, j0, j1⟩ := hx
    refine Yd.le (c := 3 + 3) (Yd.bnd (P := fun d => d = .non ∨ EndI d) ?_ fun x hx => ?_) (by omega)
    · refine Yd.le (c := 1 + (1 + 1)) (Yd.bnd (yd_end w0 w1) fun x hx => Yd.bnd (yd_end w0 w1) fun y hy => ?_) (by omega)
      refine Yd.imp (yd_one (xs := [.non, x, y]) (by simp only [List.length_cons, List.length_nil]; omega) (by simp only [List.length_cons, List.length_nil]; omega)) fun d hd => ?_
      simp only [List.mem_cons, List.not_mem_nil, or_false] at hd
      rcases hd with rfl | rfl | rfl
      · exact Or.inl rfl
      · exact Or.inr hx
      · exact Or.inr hy
    · rw [cm_isN, bnd_ok, asB_bl, bnd_ok]
      rcases hx with rfl | ⟨i, rfl, i0, i1⟩
      · have e2 : isNoneD .non = true := rfl
        rw [e2, ife_true]
        refine Yd.le (c := 1 + 0) (Yd.bnd (yd_end w0 w1) fun x hx => ?_) (by omega)
        obtain ⟨i, rfl, i0, i1⟩ := hx
        exact .ok (isFc_mk k0 k1 j0 j1 (Ne.symm jk) rfl (isEnd_int i0 i1) rfl)
      · have e2 : isNoneD (.int i) = false := rfl
        rw [e2, ife_false]
        refine Yd.le (c := 2 + 0) (Yd.bnd (P := fun d => d = .non ∨ ∃ h : Int, d = .int h ∧ i ≤ h ∧ h ≤ big30) ?_ fun x hx => ?_) (by omega)
        · refine Yd.le (c := 1 + 1) (Yd.bnd (P := fun d => ∃ h : Int, d = .int h ∧ i ≤ h ∧ h ≤ big30) ?_ fun x hx => ?_) (by omega)
          · rw [pow30, bnd_ok]
            refine Yd.le (c := 1 + 0) (Yd.bnd (P := fun d => ∃ h : Int, d = .int h ∧ i ≤ h) ?_ fun x hx => ?_) (by omega)
            · refine Yd.le (c := 1 + 0) (Yd.bnd (yd_pick (m := 3) (by omega) (by omega)) fun x hx => ?_) (by omega)
              obtain ⟨q, rfl, q0, q1⟩ := hx
              exact Yd.of (a := .int (i + q)) rfl ⟨_, rfl, by omega⟩
            · obtain ⟨h, rfl, h0⟩ := hx
              have e : biS .min2 [.int big30, .int h] = ok (.int (if h < big30 then h else big30)) := rfl
              exact Yd.of e ⟨_, rfl, by split <;> omega, by split <;> omega⟩
          · refine Yd.imp (yd_one (xs := [.non, .non, x]) (by simp only [List.length_cons, List.length_nil]; omega) (by simp only [List.length_cons, List.length_nil]; omega)) fun d hd => ?_
            simp only [List.mem_cons, List.not_mem_nil, or_false] at hd
            rcases hd with rfl | rfl | rfl
            · exact Or.inl rfl
            · exact Or.inl rfl
            · exact Or.inr hx
        · rcases hx with rfl | ⟨h, rfl, h0, h1⟩
          · exact .ok (isFc_mk k0 k1 j0 j1 (Ne.symm jk) (isEnd_int i0 i1) rfl rfl)
          · exact .ok (isFc_mk k0 k1 j0 j1 (Ne.symm jk) (isEnd_int i0 i1) (isEnd_int (by omega) h1) (decide_eq_true h0))
end Z
end
-- M7
section
set_option Elab.async false
set_option linter.all false
set_option maxRecDepth 100000
set_option maxHeartbeats 400000
namespace Z
open PySem
theorem nc_fc (f : Fct) : Nc 1 (fcD f) := nc_tup.mpr fun x hx => by
  obtain ⟨a, b, l, h⟩ := f
  simp only [fcD, List.mem_cons, List.not_mem_nil, or_false] at hx
  have n : ∀ o : Option Int, Nc 0 (oI o) := fun o => by
    cases o with
    | none => exact nc_non 0
    | some i => exact nc_int 0 i
  rcases hx with rfl | rfl | rfl | rfl
  · exact nc_int 0 _
  · exact nc_int 0 _
  · exact n l
  · exact n h
theorem nc_st {v : D} (h : isSt v = true) : Nc 4 v := by
  obtain ⟨s, _⟩ := isSh_to (isSt_sh h)
  rw [s.eq]
  refine nc_tup.mpr fun x hx => ?_
  simp only [List.mem_cons, List.not_mem_nil, or_false] at hx
  rcases hx with rfl | rfl | rfl
  · exact nc_int _ _
  · exact nc_tup.mpr fun y hy => nc_ev (s.ev y hy)
  · refine nc_tup.mpr fun y hy => ?_
    obtain ⟨f, _, rfl⟩ := List.mem_map.mp hy
    exact (nc_fc f).mono (by omega)
theorem isSt_mk {m : Nat} {es : List D} {gs : List Fct} (m2 : 2 ≤ m) (m5 : m ≤ 5) (e1 : 1 ≤ es.length) (e5 : es.length ≤ 5) (he : ∀ e ∈ es, isEv (m : Int) e = true) (g4 : gs.length ≤ 4) (hg : ∀ g ∈ gs, isFc (es.length : Int) (fcD g) = true) (hb : (bdOf gs).isSome = true) :
    isSt (.tup [.int (m : Int), .tup es, .tup (gs.map fcD)]) = true := by
  have h : isSh (.tup [.int (m : Int), .tup es, .tup (gs.map fcD)]) = true := by
    show (decide (2 ≤ (m : Int)) && decide ((m : Int) ≤ 5) && (decide (1 ≤ es.length) && decide (es.length ≤ 5) && ((es.map (isEv m)).all id && (decide ((gs.map fcD).length ≤ 4) && ((gs.map fcD).map (isFc (es.length : Int))).all id)))) = true
    have a1 : (es.map (isEv (m : Int))).all id = true := by simpa using he
    have a2 : ((gs.map fcD).map (isFc (es.length : Int))).all id = true := by simpa using hg
    rw [a1, a2, List.length_map, decide_eq_true (by omega : (2 : Int) ≤ (m : Int)), decide_eq_true (by omega : (m : Int) ≤ 5), decide_eq_true e1, decide_eq_true e5, decide_eq_true g4]; rfl
  show (isSh _ && (bdOf ((gs.map fcD).filterMap toF)).isSome) = true
  rw [h, filterMap_fcD, hb]; rfl
theorem forK_nil (t : Tg) (b : Ev → (Ev → W D) → W D) (ρ : Ev) (k : Ev → W D) : forK t b [] ρ k = k ρ := rfl
theorem forK_nm (i : Nat) (b : Ev → (Ev → W D) → W D) (d : D) (r : List D) (ρ : Ev) (k : Ev → W D) : forK (.nm i) b (d :: r) ρ k = b (Z.put ρ i (.val d)) fun ρ2 => forK (.nm i) b r ρ2 k := rfl
theorem put_8 (a0 a1 a2 a3 a4 a5 a6 a7 a8 a9 x : Sl) : Z.put [a0, a1, a2, a3, a4, a5, a6, a7, a8, a9] 8 x = [a0, a1, a2, a3, a4, a5, a6, a7, x, a9] := rfl
theorem story_go {m : Nat} {w p : Int} {es : List D} (m2 : 2 ≤ m) (m5 : m ≤ 5) (e1 : 1 ≤ es.length) (e5 : es.length ≤ 5) (he : ∀ e ∈ es, isEv (m : Int) e = true) (w0 : -big30 ≤ w) (w1 : w ≤ big30) :
    ∀ (ds : List D) (gs : List Fct) (x8 x9 : Sl), Fin es.length gs → (∀ g ∈ gs, isFc (es.length : Int) (fcD g) = true) → (bdOf gs).isSome = true → gs.length + ds.length ≤ 4 → (ds ≠ [] → 2 ≤ es.length) →
    Yd (20 * ds.length) (forK (.nm 8) (fun ρ' k' => runC (p__law_story_0 f__law_early f__law_event f__law_fact fPick) ρ' k') ds [.deck, .val (.int p), .val (.int w), .val (.int (m : Int)), .val (.int (es.length : Int)), .val (.tup es), .val (.tup (gs.map fcD)), .no, x8, x9] fun ρ17 => runC (p__law_story_1 f__law_early f__law_event f__law_fact fPick) ρ17 fun _ => ok .non) fun d => isSt d = true
  | [], gs, x8, x9, hf, hg, hb, hl, _ => by
    rw [forK_nil]
    rw [w__law_story_1]
    exact .ok (isSt_mk m2 m5 e1 e5 he (by simpa using hl) hg hb)
  | d :: ds, gs, x8, x9, hf, hg, hb, hl, h2 => by
    have h2' := h2 (by simp)
    rw [List.length_cons] at hl
    rw [forK_nm, put_8, List.length_cons]
    rw [w__law_story_0]
    refine Yd.le (c := 20 + 20 * ds.length) (Yd.bnd (P := fun x => ∃ f, x = .tup ((gs ++ [f]).map fcD) ∧ isFc (es.length : Int) (fcD f) = true ∧ f.a < es.length ∧ f.b < es.length) ?_ fun x hx => ?_) (by omega)
    · refine Yd.bnd (d := 0) (yd_fact (by omega) (by omega) w0 w1) fun x hx => ?_
      obtain ⟨f, rfl, fa, fb, _⟩ := isFc_to hx
      have e : opS .add (.tup (gs.map fcD)) (.tup [fcD f]) = ok (.tup ((gs ++ [f]).map fcD)) := by
        show chk (decide ((gs.map fcD).length + 1 ≤ lim)) (ok (D.tup (gs.map fcD ++ [fcD f]))) = _
        rw [List.length_map, decide_eq_true (show gs.length + 1 ≤ lim by unfold lim; omega), List.map_append]; rfl
      exact Yd.of e ⟨f, rfl, hx, by omega, by omega⟩
    · obtain ⟨f, rfl, ff, fa, fb⟩ := hx
      have hf2 : Fin es.length (gs ++ [f]) := fun g hg' => by
        rcases List.mem_append.mp hg' with h | h
        · exact hf g h
        · rw [List.mem_singleton.mp h]; exact ⟨fa, fb⟩
      have e : (bnd (bnd (callW f__law_early [.val (.tup [.int (m : Int), .tup es, .tup ((gs ++ [f]).map fcD)]), .val (.tup [])]) fun x22 => cmS .notN x22 .non) fun x21 => asB x21) = ok (bdOf (gs ++ [f])).isSome := by
        rw [c_early0 (by omega) hf2 (by simp; omega), bnd_ok, cm_notN, earD_none, ear_bd hf2]; rfl
      refine Yd.bnd0 e (Yd.ife (fun hs => ?_) fun _ => ?_)
      · exact story_go m2 m5 e1 e5 he w0 w1 ds (gs ++ [f]) _ _ hf2 (fun g hg' => by
          rcases List.mem_append.mp hg' with h | h
          · exact hg g h
          · rw [List.mem_singleton.mp h]; exact ff) hs (by rw [List.length_append, List.length_singleton]; omega) fun _ => h2'
      · exact story_go m2 m5 e1 e5 he w0 w1 ds gs _ _ hf hg hb (by omega) fun _ => h2'
theorem yd_story {p w : Int} (p1 : 1 ≤ p) (p5 : p ≤ 5) (w0 : -big30 ≤ w) (w1 : w ≤ big30) : Yd 300 (callW f__law_story [.deck, .val (.int p), .val (.int w)]) fun d => isSt d = true := by
  refine yd_call rfl ?_
  rw [u__law_story]
  refine Yd.le (c := 1 + (1 + 250)) (Yd.bnd (P := fun d => ∃ m : Nat, d = .int (m : Int) ∧ 2 ≤ m ∧ m ≤ 5) ?_ fun x hx => ?_) (by omega)
  · refine Yd.bnd (d := 0) (yd_pick (m := 4) (by omega) (by omega)) fun x hx => ?_
    obtain ⟨k, rfl, k0, k1⟩ := hx
    exact Yd.of (a := .int (2 + k)) rfl ⟨(2 + k).toNat, by rw [Int.toNat_of_nonneg (by omega)], by omega, by omega⟩
  · obtain ⟨m, rfl, m2, m5⟩ := hx
    refine Yd.bnd (P := fun d => ∃ n : Nat, d = .int (n : Int) ∧ 1 ≤ n ∧ n ≤ 5) ?_ fun x hx => ?_
    · refine Yd.bnd (d := 0) (yd_pick (m := p) (by omega) (by omega)) fun x hx => ?_
      obtain ⟨k, rfl, k0, k1⟩ := hx
      exact Yd.of (a := .int (1 + k)) rfl ⟨(1 + k).toNat, by rw [Int.toNat_of_nonneg (by omega)], by omega, by omega⟩
    · obtain ⟨n, rfl, n1, n5⟩ := hx
      refine Yd.le (c := 100 + 81) (Yd.bnd (P := fun d => ∃ es, d = .tup es ∧ es.length = n ∧ ∀ e ∈ es, isEv (m : Int) e = true) ?_ fun x hx => ?_) (by omega)
      · refine Yd.le (c := 100 + 0) (Yd.bnd (P := fun d => ∃ es, d = .lst es ∧ es.length = n ∧ ∀ e ∈ es, isEv (m : Int) e = true) ?_ fun x hx => ?_) (by omega)
        · refine Yd.bnd0 (rngW n (by omega)) (Yd.nox ?_)
          refine Yd.le (c := 20 * ((List.range n).map fun (i : Nat) => D.int (i : Int)).length + 0) (Yd.bnd (Yd.gat1 (c := 20) (P := fun d => isEv (m : Int) d = true) fun d hd => ?_) fun ys hys => ?_) (by rw [List.length_map, List.length_range]; omega)
          · obtain ⟨i, _, rfl⟩ := List.mem_map.mp hd
            refine Yd.le (c := 20 + 0) (Yd.bnd ?_ fun y hy => .ok ⟨y, rfl, hy⟩) (by omega)
            exact Yd.bnd0 (cm_int_eq (i : Int) 0) (yd_event _ m2 m5)
          · exact .ok ⟨ys, rfl, by rw [hys.1, List.length_map, List.length_range], hys.2⟩
        · obtain ⟨es, rfl, h1⟩ := hx
          exact Yd.of (a := .tup es) rfl ⟨es, rfl, h1⟩
      · obtain ⟨es, rfl, rfl, he⟩ := hx
        refine Yd.le (c := 1 + 80) (Yd.bnd (P := fun d => ∃ j : Nat, d = .int (j : Int) ∧ j ≤ 4 ∧ (j ≠ 0 → 2 ≤ es.length)) ?_ fun x hx => ?_) (by omega)
        · rw [cmI_gt, bnd_ok, asB_bl, bnd_ok]
          refine Yd.ife (fun h => (yd_pick (m := 5) (by omega) (by omega)).imp fun d hd => ?_) fun _ => (Yd.ok ⟨0, rfl, by omega, fun h => absurd rfl h⟩).le (by omega)
          obtain ⟨k, rfl, k0, k1⟩ := hd
          have := of_decide_eq_true h
          exact ⟨k.toNat, by rw [Int.toNat_of_nonneg (by omega)], by omega, fun _ => by omega⟩
        · obtain ⟨j, rfl, j4, j2⟩ := hx
          refine Yd.bnd0 (rngW j (by omega)) ?_
          refine (story_go (p := p) m2 m5 n1 n5 he w0 w1 ((List.range j).map fun (i : Nat) => D.int (i : Int)) [] .no .no (fun g hg => by cases hg) (fun g hg => by cases hg) rfl (by rw [List.length_map, List.length_range]; simpa using j4) fun h => j2 fun h0 => h (by rw [h0]; rfl)).le ?_
          rw [List.length_map, List.length_range]; omega
end Z
end
-- M8
section
set_option Elab.async false
set_option linter.all false
set_option maxRecDepth 100000
set_option maxHeartbeats 400000
namespace Z
open PySem
def Ct (c : List D → D) : Prop := c = D.tup ∨ c = D.lst
/-- data of so many levels, no list longer than L -/
def Sm : Nat → Nat → D → Prop
  | 0, _, d => d.ok = true ∧ d.dep = 0
  | k + 1, L, d => (d.ok = true ∧ d.dep = 0) ∨ ∃ c xs, Ct c ∧ d = c xs ∧ xs.length ≤ L ∧ ∀ x ∈ xs, Sm k L x
theorem Sm.flat {k L : Nat} {d : D} (h : d.ok = true ∧ d.dep = 0) : Sm k L d := by
  cases k with
  | zero => exact h
  | succ k => exact Or.inl h
theorem Sm.mk {k L : Nat} {c : List D → D} {xs : List D} (hc : Ct c) (hl : xs.length ≤ L) (h : ∀ x ∈ xs, Sm k L x) : Sm (k + 1) L (c xs) := Or.inr ⟨c, xs, hc, rfl, hl, h⟩
theorem Sm.mono : ∀ {k j L M : Nat} {d : D}, Sm k L d → k ≤ j → L ≤ M → Sm j M d
  | 0, _, _, _, _, h, _, _ => .flat h
  | k + 1, j, L, M, d, h, hj, hM => by
    rcases h with h | ⟨c, xs, hc, rfl, hl, h⟩
    · exact .flat h
    · obtain ⟨j, rfl⟩ : ∃ i, j = i + 1 := ⟨j - 1, by omega⟩
      exact .mk hc (by omega) fun x hx => (h x hx).mono (by omega) hM
theorem Sm.nc : ∀ {k L : Nat} {d : D}, Sm k L d → Nc k d
  | 0, _, _, h => ⟨h.1, by rw [h.2]; exact Nat.le_refl _⟩
  | k + 1, L, d, h => by
    rcases h with h | ⟨c, xs, hc, rfl, hl, h⟩
    · exact ⟨h.1, by rw [h.2]; exact Nat.zero_le _⟩
    · rcases hc with rfl | rfl
      · exact nc_tup.mpr fun x hx => (h x hx).nc
      · exact nc_lst.mpr fun x hx => (h x hx).nc
theorem sm_int (k L : Nat) (i : Int) : Sm k L (.int i) := .flat ⟨rfl, rfl⟩
theorem sm_bl (k L : Nat) (i : Bool) : Sm k L (.bl i) := .flat ⟨rfl, rfl⟩
theorem sm_non (k L : Nat) : Sm k L .non := .flat ⟨rfl, rfl⟩
theorem sm_str (k L : Nat) {s : Str} (h : (D.str s).ok = true) : Sm k L (.str s) := .flat ⟨h, rfl⟩
section
variable {c : List D → D} (hc : Ct c) (xs ys : List D)
include hc
theorem ct_TL : biS .isTL [c xs] = ok (.bl true) := by rcases hc with rfl | rfl <;> rfl
theorem ct_len : biS .len [c xs] = ok (.int (xs.length : Int)) := by rcases hc with rfl | rfl <;> rfl
theorem ct_list : biS .list [c xs] = ok (.lst xs) := by rcases hc with rfl | rfl <;> rfl
theorem ct_slc (lo hi : Option Int) : slS (c xs) lo hi = ok (c (cutD xs lo hi)) := by rcases hc with rfl | rfl <;> rfl
theorem ct_rev : revS (c xs) = ok (c xs.reverse) := by rcases hc with rfl | rfl <;> rfl
theorem ct_add : opS .add (c xs) (c ys) = chk (decide (xs.length + ys.length ≤ lim)) (ok (c (xs ++ ys))) := by rcases hc with rfl | rfl <;> rfl
theorem ct_conv : ∃ c', Ct c' ∧ (bnd (biS .isTup [c xs]) fun x14 => bnd (asB x14) fun k15 => ife k15 (biS .list [c xs]) (biS .tuple [c xs])) = ok (c' xs) := by
  rcases hc with rfl | rfl
  · exact ⟨_, Or.inr rfl, rfl⟩
  · exact ⟨_, Or.inl rfl, rfl⟩
theorem ct_back : (bnd (biS .isTup [c xs]) fun x65 => bnd (asB x65) fun k66 => ife k66 (biS .tuple [.lst ys]) (ok (.lst ys))) = ok (c ys) := by
  rcases hc with rfl | rfl <;> rfl
end
theorem cut_le {α : Type} (xs : List α) (lo hi : Option Int) : (cutD xs lo hi).length ≤ xs.length := by
  unfold cutD
  rw [List.length_take, List.length_drop]; omega
theorem mem_cut {α : Type} {xs : List α} {lo hi : Option Int} {x : α} (h : x ∈ cutD xs lo hi) : x ∈ xs := List.mem_of_mem_drop (List.mem_of_mem_take h)
theorem cut01 {α : Type} (xs : List α) : (cutD xs none (some 1)).length ≤ 1 := by
  unfold cutD
  rw [List.length_take]
  have : six xs.length xs.length (some 1) ≤ 1 := by
    unfold six; dsimp only; split <;> omega
  omega
theorem pow31 : opS .pow (.int 10) (.int 31) = ok (.int big31) := by kernel_rfl
theorem fin_own {xs : List D} {a : D} {K : Ev → W D} : fin (chk (!isNoS (slO (.lst xs))) (ok (.nx [.deck, .val a, slO (.lst xs), .no, .no, .no]))) K = K [.deck, .val a, .own xs, .no, .no, .no] := rfl
theorem fin_chk1 {b : Bool} {ρ : Ev} {k : Ev → W D} (h : b = true) : fin (chk b (ok (.nx ρ))) k = k ρ := by rw [h]; rfl
theorem yd_spoilt : ∀ (j k L : Nat) (d : D), Sm k L d → 2 ≤ L → k < j → L ≤ 1000 → Yd (3 * j) ((f__law_spoilt_ j).sem [.deck, .val d]) (Sm (k + 1) (L + 1))
  | 0, _, _, _, _, _, h, _ => absurd h (Nat.not_lt_zero _)
  | j + 1, k, L, d, hd, h2, hk, hL => by
    show Yd (3 * (j + 1)) (semD 6 (t__law_spoilt (f__law_spoilt_ j)) [0] [] [.deck, .val d]) _
    rw [u__law_spoilt]
    by_cases hct : ∃ c xs, Ct c ∧ d = c xs
    · obtain ⟨c, xs, hc, rfl⟩ := hct
      obtain ⟨k, rfl, hl, hx⟩ : ∃ i, k = i + 1 ∧ xs.length ≤ L ∧ ∀ x ∈ xs, Sm i L x := by
        cases k with
        | zero =>
          rcases hc with rfl | rfl
          · exact absurd hd.2 (by show ¬ deps xs + 1 = 0; omega)
          · exact absurd hd.2 (by show ¬ deps xs + 1 = 0; omega)
        | succ i =>
          rcases hd with h | ⟨c2, ys, hc2, e, hl, h⟩
          · rcases hc with rfl | rfl
            · exact absurd h.2 (by show ¬ deps xs + 1 = 0; omega)
            · exact absurd h.2 (by show ¬ deps xs + 1 = 0; omega)
          · have : xs = ys := by
              rcases hc with rfl | rfl <;> rcases hc2 with rfl | rfl
              · exact D.tup.inj e
              · cases e
              · cases e
              · exact D.lst.inj e
            exact ⟨i, rfl, this ▸ hl, this ▸ h⟩
      simp only [ct_TL hc, bnd_ok, asB_bl, ife_true, ct_len hc, cmI_gt]
      refine Yd.le (c := 1 + (3 * j + 1)) (Yd.bnd (P := fun b => b = true → 0 < xs.length) ?_ fun b hb => Yd.ife (fun e => ?_) fun _ => ?_) (by omega)
      · refine Yd.ife (fun h => (yd_cmpB (m := 7) (by omega) (by omega) fun k => cmI_gt k 0).imp fun _ _ _ => ?_) fun _ => (Yd.ok fun h => by cases h).le (by omega)
        have := of_decide_eq_true h
        omega
      · have hp := hb e
        rw [ct_list hc, bnd_ok, fin_own, w__law_spoilt_0]
        simp only [bnd_ok, bi_lenL]
        refine Yd.le (c := 1 + 3 * j) (Yd.bnd (yd_pick (m := (xs.length : Int)) (by omega) (by omega)) fun x hx' => ?_) (by omega)
        obtain ⟨i, rfl, i0, i1⟩ := hx'
        obtain ⟨n, rfl⟩ := Int.eq_ofNat_of_zero_le i0
        have hn : n < xs.length := by omega
        rw [ix_lst (List.getElem?_eq_getElem hn), bnd_ok]
        refine Yd.le (c := 3 * j + 0) (Yd.bnd (yd_call rfl (yd_spoilt j k L _ (hx _ (List.getElem_mem hn)) h2 (by omega) hL)) fun y hy => ?_) (by omega)
        have hi : intOf (.int (n : Int)) = ok (n : Int) := rfl
        rw [hi, bnd_ok, fin_chk1 (decide_eq_true ⟨i0, i1⟩), w__law_spoilt_2, ct_back hc]
        refine .ok (.mk hc (by rw [List.length_set]; omega) fun z hz => ?_)
        rcases List.mem_or_eq_of_mem_set hz with hz | rfl
        · exact (hx z hz).mono (by omega) (by omega)
        · exact hy
      · obtain ⟨c', hc', e⟩ := ct_conv hc xs
        have i1 : intOf (.int 1) = ok 1 := rfl
        rw [e]
        simp only [bnd_ok, i1, ct_slc hc, ct_rev hc, ct_add hc]
        have hcut := cut01 xs
        have e2 : opS .add (.lst [c' xs, c (xs ++ cutD xs none (some 1)), c (cutD xs (some 1) none)]) (.lst [c xs.reverse, .tup [.int 0, .int 1], .non]) = ok (.lst [c' xs, c (xs ++ cutD xs none (some 1)), c (cutD xs (some 1) none), c xs.reverse, .tup [.int 0, .int 1], .non]) := rfl
        have e3 : chk (decide (xs.length + (cutD xs none (some 1)).length ≤ lim)) (ok (c (xs ++ cutD xs none (some 1)))) = ok (c (xs ++ cutD xs none (some 1))) := by
          rw [decide_eq_true (show _ ≤ lim by unfold lim; omega)]; rfl
        rw [e3, bnd_ok, e2, bnd_ok]
        refine (Yd.imp (yd_one (by simp only [List.length_cons, List.length_nil]; omega) (by simp only [List.length_cons, List.length_nil]; omega)) fun d hd => ?_).le (by omega)
        have hx2 : ∀ x ∈ xs, Sm (k + 1) (L + 1) x := fun x h => (hx x h).mono (by omega) (by omega)
        simp only [List.mem_cons, List.not_mem_nil, or_false] at hd
        rcases hd with rfl | rfl | rfl | rfl | rfl | rfl
        · exact .mk hc' (by omega) hx2
        · exact .mk hc (by rw [List.length_append]; omega) fun z hz => (List.mem_append.mp hz).elim (hx2 z) fun h => hx2 z (mem_cut h)
        · exact .mk hc (Nat.le_trans (cut_le _ _ _) (by omega)) fun z hz => hx2 z (mem_cut hz)
        · exact .mk hc (by rw [List.length_reverse]; omega) fun z hz => hx2 z (List.mem_reverse.mp hz)
        · refine .mk (Or.inl rfl) (by simp only [List.length_cons, List.length_nil]; omega) fun z hz => ?_
          simp only [List.mem_cons, List.not_mem_nil, or_false] at hz
          rcases hz with rfl | rfl
          · exact sm_int _ _ _
          · exact sm_int _ _ _
        · exact sm_non _ _
    · have hok : d.ok = true := hd.nc.1
      have tl : biS .isTL [d] = ok (.bl false) := by
        cases d with
        | tup xs => exact absurd ⟨_, xs, Or.inl rfl, rfl⟩ hct
        | lst xs => exact absurd ⟨_, xs, Or.inr rfl, rfl⟩ hct
        | obj a => cases hok
        | _ => rfl
      simp only [tl, bnd_ok, asB_bl, ife_false, c_whole hok]
      have em1 : Ct D.tup := Or.inl rfl
      have em2 : Ct D.lst := Or.inr rfl
      cases hs : d with
      | str s =>
        have is : biS .isStr [.str s] = ok (.bl true) := rfl
        simp only [is, bnd_ok, asB_bl, ife_true]
        refine (Yd.imp (yd_one (by simp only [List.length_cons, List.length_nil]; omega) (by simp only [List.length_cons, List.length_nil]; omega)) fun d hd => ?_).le (by omega)
        simp only [List.mem_cons, List.not_mem_nil, or_false] at hd
        rcases hd with rfl | rfl | rfl | rfl | rfl | rfl
        · exact sm_str _ _ (by kernel_rfl)
        · exact sm_str _ _ (by kernel_rfl)
        · exact sm_str _ _ (by kernel_rfl)
        · exact sm_non _ _
        · exact sm_int _ _ _
        · exact sm_str _ _ (by kernel_rfl)
      | int i =>
        have is : biS .isStr [.int i] = ok (.bl false) := rfl
        have iw : isWh (.int i) = true := rfl
        have a1 : opS .sub (.int 1) (.int i) = ok (.int (1 - i)) := rfl
        have a2 : opS .add (.int i) (.int 1) = ok (.int (i + 1)) := rfl
        have a3 : intOf (.int 5) = ok 5 := rfl
        have a4 : opS .add (.lst [.int (1 - i), .int (i + 1), .int 0, .bl true, .bl false, .non]) (.lst [.str (Str.ofString "1"), .int (-5), .int 3, .int big31]) = ok (.lst [.int (1 - i), .int (i + 1), .int 0, .bl true, .bl false, .non, .str (Str.ofString "1"), .int (-5), .int 3, .int big31]) := rfl
        simp only [is, iw, bnd_ok, asB_bl, ife_true, ife_false, a1, a2, a3, pow31, a4]
        refine (Yd.imp (yd_one (by simp only [List.length_cons, List.length_nil]; omega) (by simp only [List.length_cons, List.length_nil]; omega)) fun d hd => ?_).le (by omega)
        simp only [List.mem_cons, List.not_mem_nil, or_false] at hd
        rcases hd with rfl | rfl | rfl | rfl | rfl | rfl | rfl | rfl | rfl | rfl
        · exact sm_int _ _ _
        · exact sm_int _ _ _
        · exact sm_int _ _ _
        · exact sm_bl _ _ _
        · exact sm_bl _ _ _
        · exact sm_non _ _
        · exact sm_str _ _ (by kernel_rfl)
        · exact sm_int _ _ _
        · exact sm_int _ _ _
        · exact sm_int _ _ _
      | tup xs => exact absurd ⟨_, xs, Or.inl rfl, hs⟩ hct
      | lst xs => exact absurd ⟨_, xs, Or.inr rfl, hs⟩ hct
      | obj a => rw [hs] at hok; cases hok
      | non =>
        have is : biS .isStr [.non] = ok (.bl false) := rfl
        have iw : isWh .non = false := rfl
        simp only [is, iw, bnd_ok, asB_bl, ife_false, pow30]
        refine (Yd.imp (yd_one (by simp only [List.length_cons, List.length_nil]; omega) (by simp only [List.length_cons, List.length_nil]; omega)) fun d hd => ?_).le (by omega)
        simp only [List.mem_cons, List.not_mem_nil, or_false] at hd
        rcases hd with rfl | rfl | rfl | rfl | rfl | rfl | rfl | rfl
        · exact sm_non _ _
        · exact sm_int _ _ _
        · exact sm_str _ _ (by kernel_rfl)
        · exact .mk (Or.inl rfl) (by simp only [List.length_nil]; omega) fun z hz => by cases hz
        · exact .mk (Or.inr rfl) (by simp only [List.length_nil]; omega) fun z hz => by cases hz
        · exact sm_bl _ _ _
        · exact sm_int _ _ _
        · exact sm_int _ _ _
      | bl b =>
        have is : biS .isStr [(.bl b)] = ok (.bl false) := rfl
        have iw : isWh (.bl b) = false := rfl
        simp only [is, iw, bnd_ok, asB_bl, ife_false, pow30]
        refine (Yd.imp (yd_one (by simp only [List.length_cons, List.length_nil]; omega) (by simp only [List.length_cons, List.length_nil]; omega)) fun d hd => ?_).le (by omega)
        simp only [List.mem_cons, List.not_mem_nil, or_false] at hd
        rcases hd with rfl | rfl | rfl | rfl | rfl | rfl | rfl | rfl
        · exact sm_non _ _
        · exact sm_int _ _ _
        · exact sm_str _ _ (by kernel_rfl)
        · exact .mk (Or.inl rfl) (by simp only [List.length_nil]; omega) fun z hz => by cases hz
        · exact .mk (Or.inr rfl) (by simp only [List.length_nil]; omega) fun z hz => by cases hz
        · exact sm_bl _ _ _
        · exact sm_int _ _ _
        · exact sm_int _ _ _
end Z
end
-- M9
section
set_option Elab.async false
set_option linter.all false
set_option maxRecDepth 100000
set_option maxHeartbeats 400000
namespace Z
open PySem
theorem none_not {xs : List D} {q : D → Bool} (h : ∀ x ∈ xs, x.ok = true) : cmS .eq (.lst (xs.filter fun d => !q d)) (.lst []) = ok (.bl ((xs.map q).all id)) := by
  have hok : D.ok (.lst (xs.filter fun d => !q d)) = true := oks_iff.mpr fun x hx => h x (List.mem_filter.mp hx).1
  rw [cm_eq (eqOk_r hok rfl (by decide))]
  congr 2
  have e : (xs.map q).all id = (xs.filter fun d => !q d).isEmpty := by
    clear hok h
    induction xs with
    | nil => rfl
    | cons a r ih =>
      rw [List.map_cons, List.all_cons, ih, List.filter_cons]
      cases q a <;> simp
  rw [e]
  cases xs.filter fun d => !q d <;> rfl
theorem c_bad {d : D} (h : d.ok = true) : (bnd (bnd (callW f__law_whole [.val d]) fun x26 => bnd (asB x26) fun k27 => ok (.bl (!k27))) fun x25 => bnd (asB x25) fun k28 => ife k28 (ok (.bl true)) (bnd (biS .abs [d]) fun x23 => bnd (opS .pow (.int 10) (.int 31)) fun x24 => cmS .gt x23 x24)) = ok (.bl (!isW (-big31) big31 d)) := by
  rw [c_whole h, bnd_ok, asB_bl, bnd_ok, bnd_ok, asB_bl, bnd_ok, pow31]
  cases d with
  | int i =>
    have e1 : isWh (.int i) = true := rfl
    have e2 : biS .abs [.int i] = ok (.int (if i < 0 then -i else i)) := rfl
    have e3 : isW (-big31) big31 (.int i) = (decide (-big31 ≤ i) && decide (i ≤ big31)) := rfl
    rw [e1, Bool.not_true, ife_false, e2, bnd_ok, bnd_ok, cmI_gt, e3]
    congr 2
    rw [← Bool.decide_and, ← decide_not]
    refine decide_eq_decide.mpr ?_
    split <;> omega
  | obj a => cases h
  | _ => rfl
theorem sh_ix2 {v : D} (s : Sh v) : ixS v (.int 2) = ok (.tup (s.fs.map fcD)) := by
  obtain ⟨m, es, fs, rfl, _, _, _, _, _, _, _⟩ := s
  rfl
theorem sh_early {v : D} (s : Sh v) : callW f__law_early [.val v, .val (.tup [])] = ok (earD (ear (stOs s.fs) (s.es.length + 2) (List.replicate s.es.length 0))) := by
  obtain ⟨m, es, fs, rfl, _, _, _, e5, _, f4, hf⟩ := s
  exact c_early0 (by omega) hf (by omega)
/-- a thing that is asked for hours -/
theorem right_go {v : D} {first ss : D} {n : Nat} {s4 : Sl} (hv : isSt v = true) (s : Sh v) (hl : biS .len [first] = ok (.int (s.es.length : Int))) : ∀ (ts : List D) (x5 x6 x7 : Sl), (∀ t ∈ ts, Nc 40 t) →
    forK (.nm 5) (fun ρ' k' => runC (p__law_hours_right_2 f__law_early f__law_keeps f__law_same f__law_spoilt f__law_whole f_is_hours) ρ' k') ts [.deck, .val v, .val first, .val ss, s4, x5, x6, x7, .no] (fun ρ11 => runC (p__law_hours_right_3 f__law_early f__law_keeps f__law_same f__law_spoilt f__law_whole f_is_hours) ρ11 fun _ => ok .non) = ok (.bl true)
  | [], x5, x6, x7, _ => by rw [forK_nil, w__law_hours_right_3]
  | t :: ts, x5, x6, x7, h => by
    have ih := fun x5 x6 x7 => right_go (ss := ss) (n := n) (s4 := s4) hv s hl ts x5 x6 x7 fun u hu => h u (List.mem_cons_of_mem _ hu)
    have ht := h t List.mem_cons_self
    have put5 : ∀ a0 a1 a2 a3 a4 a5 a6 a7 a8 x : Sl, Z.put [a0, a1, a2, a3, a4, a5, a6, a7, a8] 5 x = [a0, a1, a2, a3, a4, x, a6, a7, a8] := fun _ _ _ _ _ _ _ _ _ _ => rfl
    rw [forK_nm, put5, w__law_hours_right_2]
    have cH : callW f_is_hours [.val v, .val t] = ok (.bl (isHr s.es.length s.fs t)) := c_isHours (nc_st hv) (by omega) s hv ht
    rw [cH]
    have endF : ∀ (g : Bool) (K : W D), g = isHr s.es.length s.fs t → K = ok (.bl true) → (bnd (bnd (bnd (callW f__law_same [.val (.bl (isHr s.es.length s.fs t)), .val (.bl g)]) fun x40 => asB x40) fun k39 => ok (!k39)) fun c38 => ife c38 (ok (.bl false)) K) = ok (.bl true) := fun g K e eK => by
      rw [← e, c_same_bl, bnd_ok, asB_bl, bnd_ok, bnd_ok, beq_self_eq_true, Bool.not_true, ife_false, eK]
    by_cases htt : ∃ ws, t = .tup ws
    · obtain ⟨ws, rfl⟩ := htt
      have is : biS .isTup [.tup ws] = ok (.bl true) := rfl
      have wok : ∀ w ∈ ws, w.ok = true := oks_iff.mp ht.1
      rw [is]
      simp only [bnd_ok, asB_bl, ife_true, bi_lenT, hl, cm_int_eq]
      cases hn : decide ((ws.length : Int) = (s.es.length : Int)) with
      | false =>
        rw [ife_false]
        refine endF false _ ?_ (ih _ _ _)
        have : ¬ ws.length = s.es.length := fun e => by rw [decide_eq_false_iff_not] at hn; omega
        show false = (decide (ws.length = s.es.length) && _)
        rw [decide_eq_false this]; rfl
      | true =>
        have hn' : ws.length = s.es.length := by have := of_decide_eq_true hn; omega
        rw [ife_true, itT, bnd_ok]
        have g : gatW (fun d20 => bnd (bnd (bnd (callW f__law_whole [.val d20]) fun x26 => bnd (asB x26) fun k27 => ok (.bl (!k27))) fun x25 => bnd (asB x25) fun k28 => ife k28 (ok (.bl true)) (bnd (biS .abs [d20]) fun x23 => bnd (opS .pow (.int 10) (.int 31)) fun x24 => cmS .gt x23 x24)) fun x22 => bnd (asB x22) fun k29 => ife k29 (bnd (ok d20) fun y21 => ok [y21]) (ok [])) ws = ok (ws.filter fun d => !isW (-big31) big31 d) := by
          rw [gatW_filter (g := fun d => d) (p := fun d => !isW (-big31) big31 d) fun d hd => by
            rw [c_bad (wok d hd)]
            cases isW (-big31) big31 d <;> rfl]
          rw [List.map_id']
        simp only [bnd_ok] at g
        rw [g, bnd_ok, nox_ok, bnd_ok, none_not wok, bnd_ok, asB_bl, bnd_ok]
        cases hw : (ws.map (isW (-big31) big31)).all id with
        | false =>
          rw [ife_false, bnd_ok]
          exact endF false _ (isHr_none hw).symm (ih _ _ _)
        | true =>
          obtain ⟨hs, rfl, hb⟩ := isW_all hw
          rw [List.length_map] at hn'
          have e2 : ixS v (.int 2) = ok (.tup (s.fs.map fcD)) := sh_ix2 s
          rw [ife_true, e2, bnd_ok, c_lkeeps (hs := hs) (fs := s.fs) fun f hf => by rw [hn']; exact s.fin f hf, bnd_ok]
          refine endF _ _ ?_ (ih _ _ _)
          show _ = (decide ((hs.map D.int).length = s.es.length) && (match intsD (hs.map D.int) with | some hs => hs.all (fun i => decide (-big31 ≤ i) && decide (i ≤ big31)) && s.fs.all fun f => f.soB hs | none => false))
          rw [intsD_mapI]
          dsimp only
          rw [← all_isW, hw, List.length_map, decide_eq_true hn']; simp
    · have is : biS .isTup [t] = ok (.bl false) := by
        have hok := ht.1
        cases t with
        | tup ws => exact absurd ⟨ws, rfl⟩ htt
        | obj a => cases hok
        | _ => rfl
      rw [is]
      simp only [bnd_ok, asB_bl, ife_false]
      refine endF false _ ?_ (ih _ _ _)
      cases t with
      | tup ws => exact absurd ⟨ws, rfl⟩ htt
      | _ => rfl
theorem yd_spl {k L : Nat} {d : D} (h : Sm k L d) (h2 : 2 ≤ L) (hk : k < 12) (hL : L ≤ 1000) : Yd 36 (callW f__law_spoilt [.deck, .val d]) (Sm (k + 1) (L + 1)) := by
  refine yd_call rfl ?_
  have e : f__law_spoilt = f__law_spoilt_ 12 := by kernel_rfl
  rw [e]
  exact yd_spoilt 12 k L d h h2 hk hL
theorem many_go {v first x3 x4 : D} {P : D → Prop} {K : Ev → W D} {R : D → Prop} {c : Nat} (hf : Sm 2 6 first) (hv : ∀ ts : List D, ∀ y4 : Sl, (∀ t ∈ ts, Sm 8 10 t) → Yd c (K [.deck, .val v, .val first, .own ts, y4, .no, .no, .no, .no]) R) :
    ∀ (ds : List D) (ts : List D) (y4 : Sl), (∀ t ∈ ts, Sm 8 10 t) → ts.length + ds.length < lim →
    Yd (36 * ds.length + c) (forK (.nm 4) (fun ρ' k' => runC (p__law_hours_right_0 f__law_early f__law_keeps f__law_same f__law_spoilt f__law_whole f_is_hours) ρ' k') ds [.deck, .val v, .val first, .own ts, y4, .no, .no, .no, .no] K) R
  | [], ts, y4, h, hl => by
    rw [forK_nil]
    exact (hv ts y4 h).le (by omega)
  | d :: ds, ts, y4, h, hl => by
    have put4 : ∀ a0 a1 a2 a3 a4 a5 a6 a7 a8 x : Sl, Z.put [a0, a1, a2, a3, a4, a5, a6, a7, a8] 4 x = [a0, a1, a2, a3, x, a5, a6, a7, a8] := fun _ _ _ _ _ _ _ _ _ _ => rfl
    rw [List.length_cons] at hl
    rw [forK_nm, put4, w__law_hours_right_0, List.length_cons]
    refine Yd.le (c := 36 + (36 * ds.length + c)) (Yd.bnd (yd_spl hf (by omega) (by omega) (by omega)) fun x hx => ?_) (by omega)
    rw [fin_chk1 (decide_eq_true (by omega)), nil_k]
    refine many_go (v := v) (first := first) (x3 := x3) (x4 := x4) (P := P) hf hv ds (ts ++ [x]) (.val d) (fun t ht => ?_) (by rw [List.length_append, List.length_singleton]; omega)
    rcases List.mem_append.mp ht with ht | ht
    · exact h t ht
    · rw [List.mem_singleton.mp ht]; exact hx.mono (by omega) (by omega)
end Z
end
-- M10
section
set_option Elab.async false
set_option linter.all false
set_option maxRecDepth 100000
set_option maxHeartbeats 400000
namespace Z
open PySem
theorem rng_at (n : Nat) (i : Int) (e : i = (n : Int)) (h : n ≤ 100000) : (bnd (intOf (.int i)) fun j => chk (decide (-100000 ≤ j ∧ j ≤ 100000)) (ok (rngD 0 j))) = ok ((List.range n).map fun (i : Nat) => D.int (i : Int)) := by
  rw [e]; exact rngW n h
theorem fst_add {hs : List Int} (h : hs.length ≤ 5) : opS .add (.tup (hs.map D.int)) (.tup [.int 0]) = ok (.tup (hs.map D.int ++ [.int 0])) := by
  show chk (decide ((hs.map D.int).length + 1 ≤ lim)) (ok (D.tup (hs.map D.int ++ [.int 0]))) = _
  rw [decide_eq_true (by rw [List.length_map]; unfold lim; omega)]; rfl
theorem yd_right {v : D} (hv : isSt v = true) : Yd 500 (callW f__law_hours_right [.deck, .val v]) fun d => d = .bl true := by
  refine yd_call rfl ?_
  rw [u__law_hours_right]
  obtain ⟨s, _⟩ := isSh_to (isSt_sh hv)
  have hb : (ear (stOs s.fs) (s.es.length + 2) (List.replicate s.es.length 0)).isSome = true := by
    rw [ear_bd s.fin, ← isSt_of s (isSt_sh hv)]; exact hv
  obtain ⟨hs, he⟩ := Option.isSome_iff_exists.mp hb
  have hl : hs.length = s.es.length := by rw [(ear_sound _ _ _ he).1, List.length_replicate]
  have h5 := s.e5
  have a1 : biS .tuple [earD (some hs)] = ok (.tup (hs.map D.int)) := rfl
  have a2 := fst_add (hs := hs) (by omega)
  have a3 : biS .list [.tup (hs.map D.int)] = ok (.lst (hs.map D.int)) := rfl
  have a4 := rng_at 12 12 rfl (by omega)
  rw [sh_early s, he, bnd_ok, a1, bnd_ok, a2, bnd_ok, a3, bnd_ok, a4, bnd_ok]
  have sI : ∀ {c : List D → D} {k : Nat}, Ct c → Sm (k + 1) 6 (c (hs.map D.int)) := fun hc => .mk hc (by rw [List.length_map]; omega) fun x hx => by
    obtain ⟨i, _, rfl⟩ := List.mem_map.mp hx
    exact sm_int _ _ _
  generalize hds : ((List.range 12).map fun (i : Nat) => D.int (i : Int)) = ds
  have hdl : ds.length = 12 := by rw [← hds, List.length_map, List.length_range]
  refine Yd.le (c := 36 * ds.length + 0) ?_ (by omega)
  have K : ∀ (ts : List D) (y4 : Sl), (∀ t ∈ ts, Sm 8 10 t) → Yd 0 (runC (p__law_hours_right_1 f__law_early f__law_keeps f__law_same f__law_spoilt f__law_whole f_is_hours) [.deck, .val v, .val (.tup (hs.map D.int)), .own ts, y4, .no, .no, .no, .no] fun _ => ok .non) fun d => d = .bl true := fun ts y4 hts => by
    rw [w__law_hours_right_1, itL, bnd_ok, right_go (n := 0) hv s (by rw [bi_lenT, List.length_map, hl]) ts .no .no .no fun t ht => (hts t ht).nc.mono (by omega)]
    exact .ok rfl
  have h3 : ∀ t ∈ [D.tup (hs.map D.int), D.tup (hs.map D.int ++ [.int 0]), D.lst (hs.map D.int)], Sm 8 10 t := fun t ht => by
    simp only [List.mem_cons, List.not_mem_nil, or_false] at ht
    rcases ht with rfl | rfl | rfl
    · exact (sI (k := 7) (Or.inl rfl)).mono (by omega) (by omega)
    · refine .mk (Or.inl rfl) (by rw [List.length_append, List.length_map, List.length_singleton]; omega) fun x hx => ?_
      rcases List.mem_append.mp hx with hx | hx
      · obtain ⟨i, _, rfl⟩ := List.mem_map.mp hx
        exact sm_int _ _ _
      · rw [List.mem_singleton.mp hx]; exact sm_int _ _ _
    · exact (sI (k := 7) (Or.inr rfl)).mono (by omega) (by omega)
  generalize hts : [D.tup (hs.map D.int), D.tup (hs.map D.int ++ [.int 0]), D.lst (hs.map D.int)] = ts at h3 ⊢
  have htl : ts.length = 3 := by rw [← hts]; rfl
  have hlim : ts.length + ds.length < lim := by
    have : lim = 16777216 := rfl
    omega
  exact many_go (v := v) (first := .tup (hs.map D.int)) (x3 := .non) (x4 := .non) (P := fun _ => True) (c := 0) (sI (Or.inl rfl)) K ds ts .no h3 hlim
end Z
end
-- M11
section
set_option Elab.async false
set_option linter.all false
set_option maxRecDepth 100000
set_option maxHeartbeats 400000
namespace Z
open PySem
theorem sm_ev {m : Int} {d : D} (h : isEv m d = true) (hm : m ≤ 5) : Sm 2 5 d := by
  unfold isEv at h
  split at h
  · rename_i x a b
    rw [Bool.and_eq_true, Bool.and_eq_true] at h
    have hx : ∀ y : Str, y = "learn" → Sm 1 5 (.str y) := fun y e => e ▸ sm_str _ _ (nc_learn 1).1
    obtain ⟨i, rfl, _⟩ := isW_cases h.2.1
    obtain ⟨j, rfl, _⟩ := isW_cases h.2.2
    refine .mk (Or.inl rfl) (by simp only [List.length_cons, List.length_nil]; omega) fun y hy => ?_
    simp only [List.mem_cons, List.not_mem_nil, or_false] at hy
    rcases hy with rfl | rfl | rfl
    · exact hx _ (decide_eq_true_eq.mp h.1)
    · exact sm_int _ _ _
    · exact sm_int _ _ _
  · rename_i x a
    rw [Bool.and_eq_true, Bool.and_eq_true] at h
    have hx : ∀ y : Str, y = "meet" → Sm 1 5 (.str y) := fun y e => e ▸ sm_str _ _ (nc_meet 1).1
    have h3 := h.2.2
    have h4 := h.2.1
    cases a with
    | tup ps =>
      have h4 : (decide (2 ≤ (ps.length : Int)) && decide ((ps.length : Int) ≤ m)) = true := h4
      rw [Bool.and_eq_true, decide_eq_true_eq, decide_eq_true_eq] at h4
      rw [isPpl_eq, Bool.and_eq_true] at h3
      obtain ⟨ns, rfl, _⟩ := isW_all h3.1
      refine .mk (Or.inl rfl) (by simp only [List.length_cons, List.length_nil]; omega) fun y hy => ?_
      simp only [List.mem_cons, List.not_mem_nil, or_false] at hy
      rcases hy with rfl | rfl
      · exact hx _ (decide_eq_true_eq.mp h.1)
      · refine .mk (Or.inl rfl) (by omega) fun z hz => ?_
        obtain ⟨i, _, rfl⟩ := List.mem_map.mp hz
        exact sm_int _ _ _
    | _ => cases h3
  · cases h
theorem sm_fc (f : Fct) : Sm 1 5 (fcD f) := by
  obtain ⟨a, b, l, h⟩ := f
  refine .mk (Or.inl rfl) (by simp only [List.length_cons, List.length_nil]; omega) fun y hy => ?_
  have n : ∀ o : Option Int, Sm 0 5 (oI o) := fun o => by
    cases o with
    | none => exact sm_non _ _
    | some i => exact sm_int _ _ i
  simp only [List.mem_cons, List.not_mem_nil, or_false] at hy
  rcases hy with rfl | rfl | rfl | rfl
  · exact sm_int _ _ _
  · exact sm_int _ _ _
  · exact n l
  · exact n h
theorem sm_st {v : D} (h : isSt v = true) : Sm 4 5 v := by
  obtain ⟨s, _⟩ := isSh_to (isSt_sh h)
  rw [s.eq]
  have m5 := s.m5
  have e5 := s.e5
  have f4 := s.f4
  refine .mk (Or.inl rfl) (by simp only [List.length_cons, List.length_nil]; omega) fun y hy => ?_
  simp only [List.mem_cons, List.not_mem_nil, or_false] at hy
  rcases hy with rfl | rfl | rfl
  · exact sm_int _ _ _
  · exact .mk (Or.inl rfl) e5 fun z hz => sm_ev (s.ev z hz) (by omega)
  · refine .mk (Or.inl rfl) (by rw [List.length_map]; omega) fun z hz => ?_
    obtain ⟨f, _, rfl⟩ := List.mem_map.mp hz
    exact (sm_fc f).mono (by omega) (by omega)
/-! ### the law's last lines -/
theorem st_set {i : Nat} {e : Ex} {r : Sts} {ρ ρ' : Ev} {k : Ev → W D} {d : D} (h : evE e ρ = ok d) (h2 : Z.put ρ i (.val d) = ρ') : runC (.cons (.set i e) r) ρ k = runC r ρ' k := by
  show (bnd (evE e ρ) fun d => runC r (Z.put ρ i (.val d)) k) = _
  rw [h, bnd_ok, h2]
theorem st_setO {i : Nat} {e : Ex} {r : Sts} {ρ ρ' : Ev} {k : Ev → W D} (h : runS (.setO i e) ρ = ok (.nx ρ')) : runC (.cons (.setO i e) r) ρ k = runC r ρ' k := by
  show fin (runS (.setO i e) ρ) (fun ρ' => runC r ρ' k) = _
  rw [h]; rfl
theorem st_app {i : Nat} {e : Ex} {r : Sts} {ρ ρ' : Ev} {k : Ev → W D} (h : runS (.app i e) ρ = ok (.nx ρ')) : runC (.cons (.app i e) r) ρ k = runC r ρ' k := by
  show fin (runS (.app i e) ρ) (fun ρ' => runC r ρ' k) = _
  rw [h]; rfl
theorem st_iffF {t : Ex} {a b r : Sts} {ρ : Ev} {k : Ev → W D} (h : evB t ρ = ok false) : runC (.cons (.iff t a b) r) ρ k = runC b ρ fun ρ => runC r ρ k := by
  show (bnd (evB t ρ) fun c => ife c (runC a ρ _) (runC b ρ _)) = _
  rw [h]; rfl
theorem st_ret {e : Ex} {r : Sts} {ρ : Ev} {k : Ev → W D} : runC (.cons (.ret e) r) ρ k = evE e ρ := rfl
def twl : List D := [.tup [.str (Str.ofString "learn"), .int 0, .int 1], .tup [.str (Str.ofString "meet"), .tup [.int 0, .int 1]]]
def fq (a b : Int) (l h : D) : D := .tup [.int a, .int b, l, h]
def tl3 (m : Int) (es fs : List D) : D := .tup [.int m, .tup es, .tup fs]
def rwA : List D := [tl3 2 twl [fq 0 1 (.int 0) (.int 0), fq 1 0 (.int 0) .non]]
def rwB : List D := rwA ++ [tl3 2 twl [fq 0 1 (.int 1) (.int 1), fq 1 0 (.int 0) .non]]
def rwC : List D := rwB ++ [tl3 2 twl [fq 0 1 .non .non], tl3 2 twl (List.replicate 4 (fq 0 1 (.int 0) (.int 1)))]
def rwE : List D := rwC ++ [tl3 2 twl (List.replicate 5 (fq 0 1 (.int 0) (.int 1))), tl3 6 twl []]
def rwF : List D := rwE ++ [tl3 2 [] [], tl3 2 (twl ++ twl ++ twl) []]
def rwG : List D := rwF ++ [tl3 2 [.tup [.str (Str.ofString "meet"), .tup [.int 1, .int 0]]] [], tl3 2 [.tup [.str (Str.ofString "learn"), .int 0, .int 3]] []]
def rwH : List D := rwG ++ [tl3 2 twl [fq 0 0 (.int 0) (.int 0)], tl3 2 (twl.drop 1) []]
def duL : List D := [.bl true, .bl false, .bl false, .bl true, .bl false, .bl false, .bl false, .bl false, .bl false, .bl false, .bl false, .bl true]
def tgt : D := tl3 2 twl [fq 0 1 (.int 0) (.int 3)]
theorem rows_st : rwH.map (fun d => D.bl (isSt d)) = duL := by kernel_rfl
theorem rows_ok : rwH.all (fun d => d.ok && decide (d.dep ≤ 8)) = true := by kernel_rfl
theorem tgt_ok : (tgt.ok && decide (tgt.dep ≤ 8)) = true := by kernel_rfl
theorem tgt_st : isSt tgt = true := by kernel_rfl
def tgtS : Sh tgt := ⟨2, twl, [⟨0, 1, some 0, some 3⟩], by kernel_rfl, by omega, by omega, by show 1 ≤ 2; omega, by show 2 ≤ 5; omega, fun e he => List.all_eq_true.mp (show twl.all (isEv 2) = true by kernel_rfl) e he, by show 1 ≤ 4; omega, fun f hf => by
  rw [List.mem_singleton.mp hf]
  exact ⟨by show 0 < 2; omega, by show 1 < 2; omega⟩⟩
theorem tgt_1 : isHr tgtS.es.length tgtS.fs (.tup [.int 4, .int 7]) = true := by kernel_rfl
theorem tgt_2 : isHr tgtS.es.length tgtS.fs (.tup [.int 4, .int 8]) = false := by kernel_rfl
end Z
end
-- M12
section
set_option Elab.async false
set_option linter.all false
set_option maxRecDepth 100000
set_option maxHeartbeats 400000
namespace Z
open PySem
theorem p1_cond (f : Fn) (s0 s1 s2 s3 s4 s5 s6 s7 s8 s12 : Sl) (x9 x10 x11 : D) (h6 : s6 = .no ∨ ∃ x, s6 = .val x) : evB (.cmp .ne (.comp (.call f (.val (.var 6) .nil)) (.nm 6) (.seq (.var 10)) .none [6]) (.var 11)) [s0, s1, s2, s3, s4, s5, s6, s7, s8, .val x9, .val x10, .val x11, s12] = bnd (bnd (bnd (itemsD x10) fun ds => nox (bnd (gatW (fun d => bnd (callW f [.val d]) fun y => ok [y]) ds) fun ys => ok (.lst ys))) fun x => cmS .ne x x11) fun x => asB x := by
  rcases h6 with rfl | ⟨x, rfl⟩
  · kernel_rfl
  · kernel_rfl
theorem p1_ret (f : Fn) (s0 s1 s2 s3 s4 s5 s6 s7 s8 s9 s10 s11 : Sl) (t : D) : evE (.and (.cons (.cmp .isT (.call f (.val (.var 12) (.val (.tup (.cons (.int 4) (.cons (.int 7) .nil))) .nil))) (.bl true)) (.cons (.cmp .isT (.call f (.val (.var 12) (.val (.tup (.cons (.int 4) (.cons (.int 8) .nil))) .nil))) (.bl false)) .nil))) [s0, s1, s2, s3, s4, s5, s6, s7, s8, s9, s10, s11, .val t] =
    bnd (bnd (callW f [.val t, .val (.tup [.int 4, .int 7])]) fun x => cmS .isT x (.bl true)) fun d => bnd (asB d) fun k => ife k (bnd (callW f [.val t, .val (.tup [.int 4, .int 8])]) fun x => cmS .isT x (.bl false)) (ok (.bl false)) := by kernel_rfl
theorem law_end (s0 s1 s2 s3 s4 s5 s6 s7 s8 s9 s10 s11 s12 : Sl) (h6 : s6 = .no ∨ ∃ x, s6 = .val x) : runC (p_law_1 f__law_hours_right f__law_is_story f__law_same f__law_spoilt f__law_story f_is_hours f_is_story) [s0, s1, s2, s3, s4, s5, s6, s7, s8, s9, s10, s11, s12] (fun _ => ok .non) = ok (.bl true) := by
  unfold p_law_1
  refine (st_set (d := .tup twl) (ρ' := [s0, s1, s2, s3, s4, s5, s6, s7, s8, .val (.tup twl), s10, s11, s12]) (by kernel_rfl) rfl).trans ?_
  refine (st_setO (ρ' := [s0, s1, s2, s3, s4, s5, s6, s7, s8, .val (.tup twl), .own rwA, s11, s12]) (by kernel_rfl)).trans ?_
  refine (st_app (ρ' := [s0, s1, s2, s3, s4, s5, s6, s7, s8, .val (.tup twl), .own rwB, s11, s12]) (by kernel_rfl)).trans ?_
  refine (st_set (d := .lst rwC) (ρ' := [s0, s1, s2, s3, s4, s5, s6, s7, s8, .val (.tup twl), .val (.lst rwC), s11, s12]) (by kernel_rfl) rfl).trans ?_
  refine (st_set (d := .lst rwE) (ρ' := [s0, s1, s2, s3, s4, s5, s6, s7, s8, .val (.tup twl), .val (.lst rwE), s11, s12]) (by kernel_rfl) rfl).trans ?_
  refine (st_set (d := .lst rwF) (ρ' := [s0, s1, s2, s3, s4, s5, s6, s7, s8, .val (.tup twl), .val (.lst rwF), s11, s12]) (by kernel_rfl) rfl).trans ?_
  refine (st_set (d := .lst rwG) (ρ' := [s0, s1, s2, s3, s4, s5, s6, s7, s8, .val (.tup twl), .val (.lst rwG), s11, s12]) (by kernel_rfl) rfl).trans ?_
  refine (st_set (d := .lst rwH) (ρ' := [s0, s1, s2, s3, s4, s5, s6, s7, s8, .val (.tup twl), .val (.lst rwH), s11, s12]) (by kernel_rfl) rfl).trans ?_
  refine (st_set (d := .lst duL) (ρ' := [s0, s1, s2, s3, s4, s5, s6, s7, s8, .val (.tup twl), .val (.lst rwH), .val (.lst duL), s12]) (by kernel_rfl) rfl).trans ?_
  refine (st_iffF ?_).trans ?_
  · rw [p1_cond (h6 := h6), itL, bnd_ok]
    have g : gatW (fun d => bnd (callW f_is_story [.val d]) fun y => ok [y]) rwH = ok duL := by
      rw [gatW_map (g := fun d => D.bl (isSt d)) fun d hd => by
        have := List.all_eq_true.mp rows_ok d hd
        rw [Bool.and_eq_true, decide_eq_true_eq] at this
        rw [c_isStory (k := 8) ⟨this.1, this.2⟩ (by omega), bnd_ok]]
      rw [rows_st]
    rw [g, bnd_ok, nox_ok, bnd_ok]
    kernel_rfl
  rw [nil_k]
  refine (st_set (d := tgt) (ρ' := [s0, s1, s2, s3, s4, s5, s6, s7, s8, .val (.tup twl), .val (.lst rwH), .val (.lst duL), .val tgt]) (by kernel_rfl) rfl).trans ?_
  rw [st_ret, p1_ret]
  have hn := tgt_ok
  rw [Bool.and_eq_true, decide_eq_true_eq] at hn
  rw [c_isHours (w := .tup [.int 4, .int 7]) (k := 8) (j := 1) ⟨hn.1, hn.2⟩ (by omega) tgtS tgt_st (nc_ints [4, 7]), c_isHours (w := .tup [.int 4, .int 8]) (k := 8) (j := 1) ⟨hn.1, hn.2⟩ (by omega) tgtS tgt_st (nc_ints [4, 8]), tgt_1, tgt_2]
  kernel_rfl
end Z
end
-- M01
section
set_option Elab.async false
set_option linter.all false
set_option maxRecDepth 100000
set_option maxHeartbeats 400000
namespace Z
open PySem
/-- comes to True, with so many draws -/
def Td (c : Nat) (m : W D) : Prop := ∀ n Q E, c ≤ n → (∀ n', Q (.bl true) n') → m n Q E
section
variable {α : Type} {c d : Nat}
theorem Td.bnd {m : W α} {f : α → W D} {P : α → Prop} (h : Yd c m P) (g : ∀ a, P a → Td d (f a)) : Td (c + d) (Z.bnd m f) := fun n Q E hc hq => h n _ _ (by omega) fun a n' pa hn => g a pa n' Q E (by omega) hq
theorem Td.of {m : W D} (e : m = Z.ok (.bl true)) : Td c m := by
  rw [e]; exact fun n Q E _ hq => hq n
theorem Td.le {m : W D} (h : Td c m) (l : c ≤ d) : Td d m := fun n Q E hc hq => h n Q E (by omega) hq
theorem td_deck {i : Nat} {ρ : Ev} {z : Int} {K : Ev → W D} (hn : noDk ρ i = true) (h : Td c (K (Z.put ρ i .deck))) (hc : c ≤ crd) : Td d (fin (deckW i ρ [.int z, .int 1]) K) := by
  have e : deckW i ρ [.int z, .int 1] = fun _ Q _ => Q (.nx (Z.put ρ i .deck)) crd := by
    show chk (decide ((0 : Int) ≤ 1 ∧ (1 : Int) ≤ 1000) && noDk ρ i) _ = _
    rw [hn]; rfl
  rw [e]
  exact fun n Q E _ hq => h crd Q E hc hq
end
def Vn (s : Sl) : Prop := s = .no ∨ ∃ x, s = .val x
theorem Vn.nd {s : Sl} (h : Vn s) : isDeck s = false := by
  rcases h with rfl | ⟨x, rfl⟩ <;> rfl
theorem vn_val (d : D) : Vn (.val d) := Or.inr ⟨d, rfl⟩
theorem try_story : (bnd (bnd (tryW (rz eStory)) fun x31 => cmS .ne x31 (.str (Str.ofString "story +"))) fun x30 => asB x30) = ok false := by kernel_rfl
theorem put_6 (a0 a1 a2 a3 a4 a5 a6 a7 a8 a9 b c e x : Sl) : Z.put [a0, a1, a2, a3, a4, a5, a6, a7, a8, a9, b, c, e] 6 x = [a0, a1, a2, a3, a4, a5, x, a7, a8, a9, b, c, e] := rfl
theorem put_1 (a0 a1 a2 a3 a4 a5 a6 a7 a8 a9 b c e x : Sl) : Z.put [a0, a1, a2, a3, a4, a5, a6, a7, a8, a9, b, c, e] 1 x = [a0, x, a2, a3, a4, a5, a6, a7, a8, a9, b, c, e] := rfl
theorem put_2 (a0 a1 a2 a3 a4 a5 a6 a7 a8 a9 b c e x : Sl) : Z.put [a0, a1, a2, a3, a4, a5, a6, a7, a8, a9, b, c, e] 2 x = [a0, a1, x, a3, a4, a5, a6, a7, a8, a9, b, c, e] := rfl
theorem law_in {s0 s1 s3 s4 s5 : D} {s9 s10 s11 s12 : Sl} {K : Ev → W D} {c : Nat} (hK : ∀ s6 s8 : Sl, Vn s6 → Vn s8 → Td c (K [.val s0, .val s1, .deck, .val s3, .val s4, .val s5, s6, .no, s8, s9, s10, s11, s12])) :
    ∀ (ds : List D) (s6 s8 : Sl), (∀ d ∈ ds, Nc 40 d) → Vn s6 → Vn s8 → Td c (forK (.nm 6) (fun ρ' k' => runC (p_law_3 f__law_hours_right f__law_is_story f__law_same f__law_spoilt f__law_story f_is_hours f_is_story) ρ' k') ds [.val s0, .val s1, .deck, .val s3, .val s4, .val s5, s6, .no, s8, s9, s10, s11, s12] K)
  | [], s6, s8, _, h6, h8 => by
    rw [forK_nil]; exact hK s6 s8 h6 h8
  | d :: ds, s6, s8, h, h6, h8 => by
    have hd := h d List.mem_cons_self
    have ih := law_in hK ds (.val d) (.val (.bl (isSt d))) (fun e he => h e (List.mem_cons_of_mem _ he)) (vn_val _) (vn_val _)
    rw [forK_nm, put_6, w_law_3, c_lstory hd (by omega), bnd_ok, c_isStory hd (by omega), bnd_ok, c_same_bl, beq_self_eq_true, bnd_ok, asB_bl, bnd_ok, bnd_ok, Bool.not_true, ife_false]
    simp only [asB_bl, bnd_ok]
    cases hs : isSt d with
    | true =>
      rw [hs] at ih
      rw [Bool.not_true, ife_false, bnd_ok, ife_false]
      exact ih
    | false =>
      rw [hs] at ih
      rw [Bool.not_false, ife_true, c_isHoursX hd (by omega) hs, try_story, bnd_ok, ife_false]
      exact ih
theorem law_cell {s0 : D} {z : Int} {s2 s3 s4 s5 s6 s8 : Sl} {s9 s10 s11 s12 : Sl} {K : Ev → W D} (h3 : Vn s3) (h4 : Vn s4) (h5 : Vn s5) (h6 : Vn s6) (h8 : Vn s8) (h9 : Vn s9) (h10 : Vn s10) (h11 : Vn s11) (h12 : Vn s12)
    (hK : ∀ (a3 a4 a5 : D) (s6 s8 : Sl), Vn s6 → Vn s8 → Td 0 (K [.val s0, .val (.int z), .deck, .val a3, .val a4, .val a5, s6, .no, s8, s9, s10, s11, s12])) :
    Td 0 (runC (p_law_0 f__law_hours_right f__law_is_story f__law_same f__law_spoilt f__law_story f_is_hours f_is_story) [.val s0, .val (.int z), s2, s3, s4, s5, s6, .no, s8, s9, s10, s11, s12] K) := by
  rw [w_law_0]
  have hn : noDk [.val s0, .val (.int z), s2, s3, s4, s5, s6, .no, s8, s9, s10, s11, s12] 2 = true := by
    unfold noDk
    rw [put_2]
    have i1 : isDeck (.val s0) = false := rfl
    have i2 : isDeck (.val (.int z)) = false := rfl
    have i3 : isDeck .no = false := rfl
    simp only [List.all_cons, List.all_nil, i1, i2, i3, h3.nd, h4.nd, h5.nd, h6.nd, h8.nd, h9.nd, h10.nd, h11.nd, h12.nd, Bool.not_false, Bool.and_self]
  refine td_deck (c := 3000) hn ?_ (by unfold crd; omega)
  rw [put_2, w_law_2, pow30, bnd_ok]
  refine Td.le (c := 300 + (36 + (36 + (36 * 40 + 500)))) (Td.bnd (yd_story (p := 5) (w := big30) (by omega) (by omega) (by unfold big30; omega) (by omega)) fun x7 hx7 => Td.bnd (yd_spl (sm_st hx7) (by omega) (by omega) (by omega)) fun x9 hx9 => Td.bnd (yd_spl hx9 (by omega) (by omega) (by omega)) fun x10 hx10 => ?_) (by omega)
  obtain ⟨a, b, e, rfl⟩ : ∃ a b e, x7 = .tup [a, b, e] := by
    obtain ⟨s, _⟩ := isSh_to (isSt_sh hx7)
    exact ⟨_, _, _, s.eq⟩
  have hsm := sm_st hx7
  have hnc := nc_tup.mp (hsm.nc.mono (show 4 ≤ 39 + 1 by omega))
  have hna := hnc a (by simp)
  have hnb := hnc b (by simp)
  have hne := hnc e (by simp)
  have i1 : ixS (.tup [a, b, e]) (.int 1) = ok b := rfl
  have i2 : biS .list [.tup [a, b, e]] = ok (.lst [a, b, e]) := rfl
  have i3 : intOf (.int 2) = ok 2 := rfl
  have i4 : slS (.tup [a, b, e]) none (some 2) = ok (.tup [a, b]) := rfl
  have i5 : opS .add (.lst [.tup [a, b, e], x9, x10, b]) (.lst [.lst [a, b, e], .non, .tup [], .tup [a, b]]) = ok (.lst [.tup [a, b, e], x9, x10, b, .lst [a, b, e], .non, .tup [], .tup [a, b]]) := rfl
  rw [i1, bnd_ok, i2, bnd_ok, i3, bnd_ok, i4, bnd_ok, i5, bnd_ok, rng_at 40 40 rfl (by omega)]
  generalize hds : ((List.range 40).map fun (i : Nat) => D.int (i : Int)) = ds
  have hdl : ds.length = 40 := by rw [← hds, List.length_map, List.length_range]
  have h8' : ∀ d ∈ [D.tup [a, b, e], x9, x10, b, .lst [a, b, e], .non, .tup [], .tup [a, b]], Nc 40 d := fun d hd => by
    simp only [List.mem_cons, List.not_mem_nil, or_false] at hd
    have m3 : ∀ x ∈ [a, b, e], Nc 39 x := hnc
    rcases hd with rfl | rfl | rfl | rfl | rfl | rfl | rfl | rfl
    · exact hsm.nc.mono (by omega)
    · exact hx9.nc.mono (by omega)
    · exact hx10.nc.mono (by omega)
    · exact hnb.mono (by omega)
    · exact nc_lst.mpr m3
    · exact nc_non _
    · exact nc_tup.mpr fun x hx => by cases hx
    · exact nc_tup.mpr fun x hx => m3 x (by
        simp only [List.mem_cons, List.not_mem_nil, or_false] at hx
        rcases hx with rfl | rfl <;> simp)
  generalize hls : [D.tup [a, b, e], x9, x10, b, .lst [a, b, e], .non, .tup [], .tup [a, b]] = ls at h8' ⊢
  have hll : ls.length = 8 := by rw [← hls]; rfl
  refine Td.bnd (P := fun d => ∃ ys, d = .lst ys ∧ ∀ y ∈ ys, Nc 40 y) ?_ fun x16 hx16 => ?_
  · refine Yd.le (c := 36 * ds.length + 0) (Yd.bnd (P := fun d => ∃ ys, d = .lst ys ∧ ys.length = 40 ∧ ∀ y ∈ ys, Nc 40 y) ?_ fun x hx => ?_) (by omega)
    · rw [bnd_ok]
      refine Yd.nox (Yd.le (c := 36 * ds.length + 0) (Yd.bnd (Yd.gat1 (c := 36) (P := fun d => Nc 40 d) fun d hd => ?_) fun ys hys => ?_) (by omega))
      · exact Yd.le (c := 36 + 0) (Yd.bnd (yd_spl hsm (by omega) (by omega) (by omega)) fun y hy => .ok ⟨y, rfl, hy.nc.mono (by omega)⟩) (by omega)
      · exact .ok ⟨ys, rfl, by rw [hys.1, hdl], hys.2⟩
    · obtain ⟨ys, rfl, hl, hy⟩ := hx
      have e : opS .add (.lst ls) (.lst ys) = ok (.lst (ls ++ ys)) := by
        show chk (decide (ls.length + ys.length ≤ lim)) (ok (D.lst (ls ++ ys))) = _
        rw [decide_eq_true (by unfold lim; omega)]; rfl
      exact Yd.of e ⟨_, rfl, fun y h => (List.mem_append.mp h).elim (h8' y) (hy y)⟩
  · obtain ⟨ys, rfl, hy⟩ := hx16
    rw [itL, bnd_ok]
    refine law_in (fun s6 s8 h6 h8 => ?_) ys s6 s8 hy h6 h8
    rw [w_law_4]
    refine Td.le (c := 500 + 0) (Td.bnd (P := fun b => b = false) ?_ fun q hq => ?_) (by omega)
    · refine Yd.le (c := 500 + 0) (Yd.bnd (P := fun b => b = true) (Yd.le (c := 500 + 0) (Yd.bnd (yd_right hx7) fun x hx => ?_) (by omega)) fun x hx => ?_) (by omega)
      · rw [hx, asB_bl]; exact .ok rfl
      · rw [hx]; exact .ok rfl
    · rw [hq, ife_false]
      exact hK _ _ _ s6 s8 h6 h8
theorem law_go {a0 : D} : ∀ (zs : List Int) (s1 s2 s3 s4 s5 s6 s8 : Sl), Vn s3 → Vn s4 → Vn s5 → Vn s6 → Vn s8 →
    Td 0 (forK (.nm 1) (fun ρ' k' => runC (p_law_0 f__law_hours_right f__law_is_story f__law_same f__law_spoilt f__law_story f_is_hours f_is_story) ρ' k') (zs.map D.int) [.val a0, s1, s2, s3, s4, s5, s6, .no, s8, .no, .no, .no, .no] fun ρ5 => runC (p_law_1 f__law_hours_right f__law_is_story f__law_same f__law_spoilt f__law_story f_is_hours f_is_story) ρ5 fun _ => ok .non)
  | [], s1, s2, s3, s4, s5, s6, s8, h3, h4, h5, h6, h8 => by
    rw [List.map_nil, forK_nil]
    exact Td.of (law_end _ _ _ _ _ _ _ _ _ _ _ _ _ h6)
  | z :: zs, s1, s2, s3, s4, s5, s6, s8, h3, h4, h5, h6, h8 => by
    rw [List.map_cons, forK_nm, put_1]
    exact law_cell h3 h4 h5 h6 h8 (Or.inl rfl) (Or.inl rfl) (Or.inl rfl) (Or.inl rfl) fun a3 a4 a5 s6 s8 h6 h8 => law_go zs _ _ _ _ _ _ _ (vn_val _) (vn_val _) (vn_val _) h6 h8
theorem law_td (ns : List Int) (hl : ns.length ≤ 63) : Td 0 (f_law.sem [.val (.lst (ns.map .int))]) := by
  rw [u_law]
  have e : opS .add (.lst [.int 0]) (.lst (ns.map D.int)) = ok (.lst ((0 :: ns).map D.int)) := by
    show chk (decide (1 + (ns.map D.int).length ≤ lim)) (ok (D.lst ((0 :: ns).map D.int))) = _
    rw [decide_eq_true (by rw [List.length_map]; unfold lim; omega)]; rfl
  have e2 : intOf (.int 10) = ok 10 := rfl
  have e3 : slS (.lst ((0 :: ns).map D.int)) none (some 10) = ok (.lst ((cutD (0 :: ns) none (some 10)).map D.int)) := by
    show ok (D.lst (cutD ((0 :: ns).map D.int) none (some 10))) = _
    unfold cutD
    rw [List.map_take, List.map_drop, List.length_map]
  rw [e, bnd_ok, e2, bnd_ok, e3, bnd_ok, itL, bnd_ok]
  exact law_go _ _ _ _ _ _ _ _ (Or.inl rfl) (Or.inl rfl) (Or.inl rfl) (Or.inl rfl) (Or.inl rfl)
theorem law_holds : ∀ ns : List Int, ns.length ≤ 63 → (∀ z ∈ ns, Builtin.Int.intBits z ≤ 1048576) → ∀ (Q : D → Nat → Prop) (E : Exc → Nat → Prop), (∀ n', Q (.bl true) n') → run n_law.length t_law [.val (.lst (ns.map .int))] 0 Q E := fun ns hl _ Q E hq => by
  have e : ∀ a : D, f_law.sem [.val a] = run n_law.length t_law [.val a] := fun a => by kernel_rfl
  rw [← e]
  exact law_td ns hl 0 Q E (Nat.le_refl _) hq
end Z
end
-- F01
section
set_option Elab.async false
set_option linter.all false
set_option maxRecDepth 100000
set_option maxHeartbeats 4000000
namespace Z
open PySem PySem.Spec PyProof.Rows L2
theorem law_at {w : World} {mg : Str → Option Value} {fa : Addr} {h : Heap} {K : PySem.W.Frag} (KX : K.In h) (G : h.Ns mainGlobals mg) (hfa2 : mg "law" = some (.ref fa)) (c : He.SaysX hfa hdd [] htf hex w h K) :
    LamX.LawAtS PySem.Challenge.rw_hearsays_k01_stories_recognized w K (L2N.CX PySem.Challenge.rw_hearsays_k01_stories_recognized.prog w) 19 63 "_law_script" mg fa h := by
  obtain ⟨fd, F⟩ := c.t.d.def_ 40 rfl
  have e := hfa2.symm.trans (He.glo_ok KX G (c.t.d.fact 40 rfl))
  cases e
  have b := FunD.bindsA (ps := ["_law_script"]) F fun _ _ _ _ _ _ us hl => match us, hl with | [_], _ => rfl
  exact lawAt_of (N := n_law) (cs := []) (ex := []) (lam := false) (dkk := false) (dvs := []) (kws := []) (body := []) (scope := defScope (top 64)) (params := defArgs (top 64)) (fun p hp => PySem.W.codeHd_of_K KX (c.hd p hp)) c.out c.empty (fun s v => b s [v] rfl) law_holds fun base KX2 G2 tb => fn_law ⟨c.t.d, KX2, G2, c.more, tb⟩ F
end Z
open PySem PySem.W PySem.Calls PyProof.Rows
theorem PySem.Challenge.cw_hearsays_k01_stories_recognized_holds : PySem.Challenge.rw_hearsays_k01_stories_recognized.Holds := by
  w_on; o_law
  refine HandSHeadRun.head_any (r := OpenLaw.row PySem.Challenge.rw_hearsays_k01_stories_recognized) (q := view (OpenLaw.row PySem.Challenge.rw_hearsays_k01_stories_recognized).prog [64]) (H := Z.hHk) (ob := Z.hob) (M := 6000) (loose := Z.hnm) (d := HandSHeadRun.topDef (OpenLaw.row PySem.Challenge.rw_hearsays_k01_stories_recognized).prog 64) (kwd := []) Z.hob_eq
    (by kernel_rfl) (fun s => by kernel_rfl) Z.hrun (by kernel_rfl) (by kernel_rfl) (by kernel_rfl) (by rfl) (by first | assumption | decide +kernel) (by decide +kernel) ⟨rfl, rfl, rfl, rfl, rfl, by decide +kernel⟩ ?hw ?hc
  case hw => w_witness2
  case hc =>
    refine LamX.walk_ofTsE (l := PySem.Challenge.rw_hearsays_k01_stories_recognized) (n := 63) (k := 19) (x := "_law_script") (CX := fun w => L2N.CX PySem.Challenge.rw_hearsays_k01_stories_recognized.prog w) rfl (by decide) (by kernel_rfl) ⟨rfl, by decide, by decide⟩ ?F (fun w H s e s' => Z.cx_no _ H s e s')
    intro w mg fa h Y G hmg0
    obtain ⟨K, KX, c⟩ := Y
    have hmg : mg ("law" : PySem.Str) = some (.ref fa) := by
      have e : (HandSHeadRun.topDef (OpenLaw.row PySem.Challenge.rw_hearsays_k01_stories_recognized).prog 64).name = ("law" : PySem.Str) := by kernel_rfl
      rw [← e]
      exact hmg0
    exact ⟨K, KX, Z.law_at KX G hmg c⟩
end
